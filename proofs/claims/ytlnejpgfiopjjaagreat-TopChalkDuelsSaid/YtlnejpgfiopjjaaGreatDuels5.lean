/- Part 8 of what YtlnejpgfiopjjaaGreatDuels leans on. -/
import Derived.Test.YtlnejpgfiopjjaaGreatRows
import Derived.WalkKit
import Derived.ProofKit
import Derived.SizedLaws
import Derived.Test.YtlnejpgfiopjjaaGreatDuelsL1
import Derived.Test.YtlnejpgfiopjjaaGreatDuelsL2
import Derived.Test.YtlnejpgfiopjjaaGreatDuelsL3
import Derived.Test.YtlnejpgfiopjjaaGreatDuels1
import Derived.Test.YtlnejpgfiopjjaaGreatDuels2
import Derived.Test.YtlnejpgfiopjjaaGreatDuels3
import Derived.Test.YtlnejpgfiopjjaaGreatDuels4
set_option linter.all false
namespace Go.Proofs.YtlnejpgfiopjjaaGreat
open Go.ChangeShapes Go.WideShapes Go.ChangeAt Go.RowKit
theorem own_knob:ownKnob Tryz.prog.godebug=none:=by kernel_rfl
theorem laid_out:laidOutB Tryz.prog=true:=by kernel_rfl
theorem maps_rowed:mapsRowed Tryz.prog=true:=by kernel_rfl
theorem slices_full:LM.slicesFullB Tryz.prog=true:=by kernel_rfl
theorem typed_int {v:LM.CV} (hv:LM.Typed (.int .i64) v):∃ n,v=LM.ci n∧-9223372036854775808≤n∧n≤9223372036854775807:=by
 simp only[LM.Typed] at hv
 obtain⟨n,rfl,h⟩:=hv
 refine⟨n,rfl,?_⟩
 simp[Lit.wf,IntKind.min,IntKind.max,IntKind.bits,IntKind.signed] at h
 omega
end Go.Proofs.YtlnejpgfiopjjaaGreat
namespace LM.GZ
open Go LM
variable {P:Nat→Option SFunc} [Has P]
@[simp] theorem S73 (b:Bool) (e:Int):fn P 73 [.bool b,ci e]=some (ci (whenE b e)):=by
 rw[u73]; cases b<;>simp[c73,whenE]
@[simp] theorem S157 (c:Nat):fn P 157 [.int .i32 c]=some (.bool (letterN c)):=by
 rw[u157]; simp[c157,letterN]
 rw[show decide ((97:Int)≤c)=decide (97≤c) from decide_eq_decide.2 (by omega),show decide ((c:Int)≤122)=decide (c≤122) from decide_eq_decide.2 (by omega),
  show decide ((65:Int)≤c)=decide (65≤c) from decide_eq_decide.2 (by omega),show decide ((c:Int)≤90)=decide (c≤90) from decide_eq_decide.2 (by omega)]
theorem L57:∀ (l pre:List Int),(l.length:Int)+pre.length<9223372036854775807→execS P (limS P) c57_l0 ⟨[.c (.slice ((pre++l).map ci)),.c (ci (pre++l).length),.c (ci pre.length)],[]⟩=if firstE l=0 then some (.exit 0,⟨[],[]⟩) else some (.ret,⟨[.c (ci (firstE l))],[]⟩):=by
 intro l
 induction l with
 | nil =>
  intro pre h
  rw[r57_l0]
  simp[c57_l0b,firstE]
 | cons c r ih =>
  intro pre h
  have ih:=ih (pre++[c]) (by simp at h ⊢; omega)
  simp at ih h
  have hw:IntKind.i64.wrap (↑pre.length+1)=↑pre.length+1:=wrap64 (by omega) (by omega)
  have hlt:(pre.length:Int)<pre.length+(r.length+1):=by omega
  rw[r57_l0]
  by_cases hc:c=0
  ·subst hc
   simp[c57_l0b,firstE,hw,hlt,ih]
  ·simp[c57_l0b,firstE,hw,hlt,hc]
@[simp] theorem S57 (l:List Int) (h:l.length<9223372036854775807):fn P 57 [.slice (l.map ci)]=some (ci (firstE l)):=by
 have:=L57 (P:=P) l [] (by simp; omega)
 rw[u57]
 simp at this
 simp[c57,this]
 by_cases hc:firstE l=0<;>simp[hc]
@[simp] theorem S57_1 (a:Int):fn P 57 [.slice [ci a]]=some (ci (firstE [a])):=S57 [a] (by simp)
@[simp] theorem S57_2 (a b:Int):fn P 57 [.slice [ci a,ci b]]=some (ci (firstE [a,b])):=S57 [a,b] (by simp)
@[simp] theorem S57_3 (a b c:Int):fn P 57 [.slice [ci a,ci b,ci c]]=some (ci (firstE [a,b,c])):=S57 [a,b,c] (by simp)
@[simp] theorem S57_4 (a b c d:Int):fn P 57 [.slice [ci a,ci b,ci c,ci d]]=some (ci (firstE [a,b,c,d])):=S57 [a,b,c,d] (by simp)
@[simp] theorem S57_5 (a b c d e:Int):fn P 57 [.slice [ci a,ci b,ci c,ci d,ci e]]=some (ci (firstE [a,b,c,d,e])):=S57 [a,b,c,d,e] (by simp)
theorem L61 (s:Str) (hs:s.length≤24):∀ (l pre:Str),s=pre++l→execS P (limS P) c61_l0 ⟨[.c (.str s),.c (ci pre.length)],[]⟩=if nameFrom pre.length l then some (.exit 0,⟨[],[]⟩) else some (.ret,⟨[.c (.bool false)],[]⟩):=by
 intro l
 induction l with
 | nil =>
  intro pre h
  rw[r61_l0]
  simp[c61_l0b,h,nameFrom]
 | cons c r ih =>
  intro pre h
  have ih:=ih (pre++[c]) (by simp[h])
  simp at ih
  rw[h] at hs
  simp at hs
  have hw:IntKind.i64.wrap (↑pre.length+1)=↑pre.length+1:=wrap64 (by omega) (by omega)
  have hlt:(pre.length:Int)<pre.length+(r.length+1):=by omega
  have hn:(((↑c.toNat:Int)<97∨122<(↑c.toNat:Int))∧((↑c.toNat:Int)<65∨90<(↑c.toNat:Int)))∧(pre=[]∨((↑c.toNat:Int)<48∨57<(↑c.toNat:Int))∧¬(↑c.toNat:Int)=95)↔nameN pre.length c.toNat=false:=by
   have hp:pre=[]↔pre.length=0:=by simp
   unfold nameN letterN digitN
   cases pre with
   | nil=>simp; omega
   | cons x y=>simp; omega
  rw[r61_l0]
  simp[c61_l0b,h,nameFrom,hw,hlt,hn]
  rw[← h,ih]
  cases nameN pre.length c.toNat<;>simp
@[simp] theorem S61 (s:Str):fn P 61 [.str s]=some (.bool (isName s)):=by
 rw[u61]
 by_cases h1:s.length<1
 ·have:s=[]:=List.eq_nil_of_length_eq_zero (by omega)
  subst this
  simp[c61,isName]
 ·by_cases h2:s.length > 24
  ·have h3:¬ (s.length:Int)<1:=by omega
   have h4:(24:Int)<(s.length:Int):=by omega
   have h5:¬ s.length≤24:=by omega
   simp[c61,isName,h3,h4,h5]
  ·have:=L61 (P:=P) s (by omega) s [] rfl
   simp at this
   have h3:¬ (s.length:Int)<1:=by omega
   have h4:¬ (24:Int)<(s.length:Int):=by omega
   have h5:s.length≤24:=by omega
   have h6:1≤s.length:=by omega
   simp[c61,isName,h3,h4,h5,h6,this]
   cases nameFrom 0 s<;>simp
theorem L85 (s:Str) (hs:s.length<9223372036854775807):∀ (l pre:Str),s=pre++l→∃ q,execS P (limS P) c85_l0 ⟨[.c (.str s),.ptr 0 0 0],[.iter s pre.length]⟩=if nameFrom pre.length l then some (.exit 0,⟨[.c (.str s)],[.iter s s.length]⟩) else some (.ret,⟨[.c (.bool false)],[.iter s q]⟩):=by
 intro l
 induction l with
 | nil =>
  intro pre h
  refine⟨0,?_⟩
  rw[r85_l0]
  simp[c85_l0b,h,nameFrom]
 | cons c r ih =>
  intro pre h
  obtain⟨q,ih⟩:=ih (pre++[c]) (by simp[h])
  simp at ih
  have hc:s[pre.length]? = some c:=by simp[h]
  rw[r85_l0]
  rcases Nat.lt_or_ge c.toNat 128 with hlo | hhi
  ·have hd:=decode_lo hc hlo
   rw[h] at hd
   have hn:(letterN c.toNat=false∧(pre=[]∨¬(↑c.toNat:Int)=95∧((↑c.toNat:Int)<48∨57<(↑c.toNat:Int))))↔nameN pre.length c.toNat=false:=by
    unfold nameN digitN
    cases pre with
    | nil=>simp
    | cons x y=>simp; cases letterN c.toNat<;>simp; omega
   refine⟨if nameN pre.length c.toNat=false then pre.length+1 else q,?_⟩
   simp[c85_l0b,h,nameFrom,hd,hn]
   rw[h] at ih
   simp at ih
   cases nameN pre.length c.toNat<;>simp[ih]
  ·have hd:=decode_hi hc hhi
   rw[h] at hd
   have hl:letterN (Utf8.decode { data:=List.toArray (pre++c::r) } pre.length).fst=false:=by
    have:=nameN_hi (i:=0) hd
    simpa[nameN] using this
   have h1:¬ (↑(Utf8.decode { data:=List.toArray (pre++c::r) } pre.length).fst:Int)=95:=by omega
   have h2:(57:Int)<(↑(Utf8.decode { data:=List.toArray (pre++c::r) } pre.length).fst:Int):=by omega
   refine⟨pre.length+(Utf8.decode { data:=List.toArray (pre++c::r) } pre.length).snd,?_⟩
   simp[c85_l0b,h,nameFrom,hl,h1,h2,nameN_hi hhi]
@[simp] theorem S85 (s:Str) (hs:s.length<9223372036854775807):fn P 85 [.str s]=some (.bool (isName s)):=by
 rw[u85]
 obtain⟨q,this⟩:=L85 (P:=P) s hs s [] rfl
 simp at this
 simp[c85,this]
 cases hn:nameFrom 0 s
 ·simp[isName,hn]
 ·cases s with
  | nil=>simp[isName]
  | cons c r =>
   simp[isName,hn]
   omega
end LM.GZ
namespace LM.GZ
open Go LM
variable {P:Nat→Option SFunc} [Has P]
structure Lic where
 name:Str
 frm:Int
 to:Int
def Lic.enc (x:Lic):CV:=.agg [.str x.name,ci x.frm,ci x.to]
def Lic.ok (x:Lic):Prop:=x.name.length<9223372036854775807
def eachE {α:Type} (chk:List α→α→Int):List α→List α→Int
 | _,[]=>0
 | pre,x::r=>if chk pre x≠0 then chk pre x else eachE chk (pre++[x]) r
end LM.GZ
namespace LM.GZ
open Go LM
def idxF {α:Type} (p:α→Bool):Nat→List α→Int
 | _,[]=>-1
 | n,x::r=>if p x then n else idxF p (n+1) r
theorem idxF_lt {α:Type} (p:α→Bool):∀ (l:List α) (n:Nat),(idxF p n l<0)↔l.any p=false
 | [],n=>by simp[idxF]
 | x::r,n=>by
  unfold idxF
  cases h:p x
  ·simp[h,idxF_lt p r (n+1)]
  ·simp[h]
theorem idxF_none {α:Type} {p:α→Bool}:∀ {l:List α} {n:Nat},l.any p=false→idxF p n l = -1
 | [],n,_=>rfl
 | x::r,n,h=>by
  simp only[List.any_cons,Bool.or_eq_false_iff] at h
  rw[idxF,if_neg (by simp[h.1]),idxF_none h.2]
theorem idxF_dec {α:Type} (p:α→Bool) (l:List α) (n:Nat):decide (0≤idxF p n l)=l.any p:=by
 have:=idxF_lt p l n
 cases h:l.any p
 ·have:=this.2 h
  simp; omega
 ·have:¬ idxF p n l<0:=fun q=>by rw[this.1 q] at h; cases h
  simp; omega
end LM.GZ
namespace LM.GZ
open Go LM
variable {P:Nat→Option SFunc} [Has P]
def Str.is (s:Str) (x:Str):Bool:=x == s
theorem Str.is_eq (s x:Str):Str.is s x=decide (x=s):=by unfold Str.is; by_cases h:x=s<;>simp[h]
theorem Str.is_eq' (s x:Str):Str.is s x=decide (s=x):=by rw[Str.is_eq]; exact decide_eq_decide.2 eq_comm
theorem L158 (s:Str):∀ (l pre:List Str),((pre++l).length:Int)<9223372036854775807 →
  execS P (limS P) c158_l0 ⟨[.c (.slice ((pre++l).map CV.str)),.c (.str s),.c (ci (pre++l).length),.c (ci pre.length)],[]⟩=if l.any (Str.is s) then some (.ret,⟨[.c (ci (idxF (Str.is s) pre.length l))],[]⟩) else some (.exit 0,⟨[],[]⟩):=by
 intro l
 induction l with
 | nil =>
  intro pre h
  rw[r158_l0]
  simp[c158_l0b]
 | cons x r ih =>
  intro pre h
  have ih:=ih (pre++[x]) (by simpa using h)
  simp at ih h
  have hw:IntKind.i64.wrap (↑pre.length+1)=↑pre.length+1:=wrap64 (by omega) (by omega)
  have hlt:(pre.length:Int)<pre.length+(r.length+1):=by omega
  have e:=Str.is_eq' s x
  rw[r158_l0]
  by_cases h0:s=x
  ·simp only[h0,decide_true] at e
   simp[c158_l0b,hw,hlt,idxF,h0,e]
  ·simp only[h0,decide_false] at e
   simp[c158_l0b,hw,hlt,idxF,h0,e,ih]
theorem S86 (s:Str) (l:List Str) (h:(l.length:Int)<9223372036854775807):fn P 86 [.slice (l.map CV.str),.str s]=some (.bool (l.any (Str.is s))):=by
 have hl:=L158 (P:=P) s l [] (by simpa using h)
 have h2:fn P 158 [.slice (l.map CV.str),.str s]=some (ci (idxF (Str.is s) 0 l)):=by
  rw[u158]
  simp at hl
  simp[c158,hl]
  exact fun hx=>(idxF_none (by simpa using hx)).symm
 rw[u86]
 simp[c86,h2,idxF_dec]
def once (pre:List Str) (s:Str):Int:=firstE [named s,whenE (pre.any (Str.is s)) 9]
end LM.GZ
namespace LM.GZ
open Go LM
variable {P:Nat→Option SFunc} [Has P]
def cI (xs:List Int):List LV:=xs.map fun v=>LV.c (ci v)
theorem cI_length (xs:List Int):(cI xs).length=xs.length:=by simp[cI]
theorem cellsOf_ints (xs:List Int):cellsOf (xs.map ci)=cI xs:=by
 induction xs with
 | nil=>rfl
 | cons x r ih =>
  have:cellsOf ((x::r).map ci)=.c (ci x)::cellsOf (r.map ci):=rfl
  rw[this,ih]
  rfl
theorem intElems (l:List Int):∀ x ∈ l.map ci,Elem none x:=by
 intro x hx
 obtain⟨y,_,rfl⟩:=List.mem_map.1 hx
 exact⟨rfl,rfl⟩
theorem shift_cI (n:Nat):∀ xs:List Int,shiftL n (cI xs)=cI xs
 | []=>rfl
 | x::r=>by
  have:cI (x::r)=.c (ci x)::cI r:=rfl
  rw[this,shiftL,shift_cI n r]
  rfl
def sw (xs:List Int) (i k:Nat):List Int:=(xs.set i (xs.getD k 0)).set k (xs.getD i 0)
end LM.GZ
namespace LM.GZ
open Go LM
variable {P:Nat→Option SFunc} [Has P]
@[simp] theorem S56 (n a b:Int):fn P 56 [ci n,ci a,ci b]=some (ci (whenE (outside n a b) 3)):=by
 rw[u56]
 unfold outside whenE
 by_cases h1:n<a<;>by_cases h2:b<n<;>simp[c56,h1,h2]
@[simp] theorem S75 (n a b:Int):fn P 75 [ci n,ci a,ci b]=some (ci (whenE (outside n a b) 3)):=by
 rw[u75]
 unfold outside
 by_cases h1:n<a<;>by_cases h2:b<n<;>simp[c75,h1,h2]
theorem L132:∀ (r pre:List Int) (m:Int),((pre++r).length:Int)<9223372036854775807 →
  execS P (limS P) c132_l0 ⟨[.c (.slice ((pre++r).map ci)),.c (ci m),.c (ci pre.length)],[]⟩=some (.exit 0,⟨[.c (ci (r.foldl min m))],[]⟩):=by
 intro r
 induction r with
 | nil =>
  intro pre m h
  rw[r132_l0]
  simp[c132_l0b]
 | cons x r ih =>
  intro pre m h
  have ih:=fun m=>ih (pre++[x]) m (by simpa using h)
  simp at ih h
  have hw:IntKind.i64.wrap (↑pre.length+1)=↑pre.length+1:=wrap64 (by omega) (by omega)
  have hlt:(pre.length:Int)<pre.length+(r.length+1):=by omega
  have hm:(if x<m then x else m)=min m x:=by split<;>omega
  rw[r132_l0]
  simp[c132_l0b,hw,hlt,foldInt,hm,ih]
theorem S132 (x:Int) (l:List Int) (h:(l.length:Int)<1000):fn P 132 [.slice ((x::l).map ci)]=some (ci (l.foldl min x)):=by
 have:=L132 (P:=P) l [x] x (by simp; omega)
 simp at this
 rw[u132]
 have h1:¬ (l.length:Int)+1<1:=by omega
 simp[c132,h1,this]
theorem L120:∀ (r pre:List Int) (m:Int),((pre++r).length:Int)<9223372036854775807 →
  execS P (limS P) c120_l0 ⟨[.c (.slice ((pre++r).map ci)),.c (ci m),.c (ci pre.length)],[]⟩=some (.exit 0,⟨[.c (ci (r.foldl max m))],[]⟩):=by
 intro r
 induction r with
 | nil =>
  intro pre m h
  rw[r120_l0]
  simp[c120_l0b]
 | cons x r ih =>
  intro pre m h
  have ih:=fun m=>ih (pre++[x]) m (by simpa using h)
  simp at ih h
  have hw:IntKind.i64.wrap (↑pre.length+1)=↑pre.length+1:=wrap64 (by omega) (by omega)
  have hlt:(pre.length:Int)<pre.length+(r.length+1):=by omega
  have hm:(if m<x then x else m)=max m x:=by split<;>omega
  rw[r120_l0]
  simp[c120_l0b,hw,hlt,foldInt,hm,ih]
theorem S120 (x:Int) (l:List Int) (h:(l.length:Int)<1000):fn P 120 [.slice ((x::l).map ci)]=some (ci (l.foldl max x)):=by
 have:=L120 (P:=P) l [x] x (by simp; omega)
 simp at this
 rw[u120]
 have h1:¬ (l.length:Int)+1<1:=by omega
 simp[c120,h1,this]
def badT (x:Int):Bool:=outside x 0 86399999
theorem S58 (x:Int) (l:List Int) (h:(l.length:Int)<1000):fn P 58 [.slice ((x::l).map ci)]=some (ci (whenE ((x::l).any badT) 3)):=by
 have e1:=S132 (P:=P) x l h
 have e2:=S120 (P:=P) x l h
 have hmin:∀ (l:List Int) (x:Int),l.foldl min x<0↔(x<0∨∃ y ∈ l,y<0):=by
  intro l
  induction l with
  | nil=>simp
  | cons a r ih =>
   intro x
   have q:min x a<0↔x<0∨a<0:=by omega
   rw[List.foldl_cons,ih,q]; simp[or_assoc]
 have hmax:∀ (l:List Int) (x:Int),86399999<l.foldl max x↔(86399999<x∨∃ y ∈ l,86399999<y):=by
  intro l
  induction l with
  | nil=>simp
  | cons a r ih =>
   intro x
   have q:86399999<max x a↔86399999<x∨86399999<a:=by omega
   rw[List.foldl_cons,ih,q]; simp[or_assoc]
 have e:(x::l).any badT=(decide (l.foldl min x<0) || decide (86399999<l.foldl max x)):=by
  rw[Bool.eq_iff_iff]
  simp only[Bool.or_eq_true,decide_eq_true_eq,hmin,hmax,List.any_eq_true,badT,outside]
  constructor
  ·rintro⟨y,hy,h⟩
   simp at h hy
   rcases hy with rfl | hy
   ·rcases h with h | h
    ·exact .inl (.inl h)
    ·exact .inr (.inl h)
   ·rcases h with h | h
    ·exact .inl (.inr ⟨y,hy,h⟩)
    ·exact .inr (.inr ⟨y,hy,h⟩)
  ·rintro ((h | ⟨y,hy,h⟩) | (h | ⟨y,hy,h⟩))
   ·exact⟨x,by simp,by simp[h]⟩
   ·exact⟨y,by simp[hy],by simp[h]⟩
   ·exact⟨x,by simp,by simp[h]⟩
   ·exact⟨y,by simp[hy],by simp[h]⟩
 rw[e,u58]
 simp at e1 e2
 by_cases h1:l.foldl min x<0<;>by_cases h2:86399999<l.foldl max x<;>simp[c58,e1,e2,h1,h2]
theorem frzFuncs_nil (h:Heap):frzFuncs [] h=some ([],h):=by rw[frzFuncs]
theorem frzFuncs_c (v:CV) (l:List LV) (h:Heap):frzFuncs (.c v::l) h=bnd (frzFuncs l h) fun a=>some (.c v::a.1,a.2):=by
 rw[frzFuncs]
 rcases frzFuncs l h with _ | ⟨x,y⟩<;>rfl
 all_goals simp
theorem frzFuncs_slice (b g o n:Nat) (e c:Option Nat) (l:List LV) (h:Heap):frzFuncs (.slice b g o n e c::l) h=bnd (frzFuncs l h) fun a=>some (.slice b g o n e c::a.1,a.2):=by
 rw[frzFuncs]
 rcases frzFuncs l h with _ | ⟨x,y⟩<;>rfl
 all_goals simp
theorem app1 (w f e:Int):appendOp none none 8 (.slice 1 1 0 1 none (some 1)) (.c (.slice [ci f,ci e])) [.cells 1 [] 0,.cells 1 [.c (ci w)] 0]=some (.slice 2 1 0 3 none none,[.cells 1 [] 0,.cells 1 [.c (ci w)] 0,.cells 1 [.c (ci w),.c (ci f),.c (ci e)] 0]):=by
 rfl
end LM.GZ
namespace LM.GZ
inductive CDc where
 | lead
 | boulder
 | speed
 deriving DecidableEq
inductive CPh where
 | waiting
 | on
 | done
 deriving DecidableEq
inductive CSt where
 | fine
 | dns
 | dnf
 | dsq
 deriving DecidableEq
inductive CKd where
 | start
 | hold
 | plus
 | attempt
 | zone
 | top
 | fall
 | leave
 | out
 | finish
 | wrong
 | incident
 | absent
 | bar
 deriving DecidableEq
structure CTr where
 att:Int
 zone:Int
 top:Int
 vis:Bool
structure CCl where
 ph:CPh
 st:CSt
 place:Int
 began:Int
 used:Int
 hold:Int
 plus:Bool
 top:Bool
 op:Bool
 tries:List CTr
 runs:List Int
structure CEn where
 who:Nat
 kind:CKd
 val:Int
 time:Int
structure CRn where
 dc:CDc
 size:Nat
 limit:Int
structure CSs where
 time:Int
 cls:List CCl
def clZ:CCl:=⟨.waiting,.fine,0,0,0,0,false,false,false,[],[]⟩
def trZ:CTr:=⟨0,0,0,false⟩
def trAt (c:CCl) (p:Int):CTr:=c.tries.getD (p-1).toNat trZ
def CCl.setT (c:CCl) (t:CTr):CCl:={ c with tries:=c.tries.set (c.place-1).toNat t }
def CCl.off (c:CCl) (p:CPh):CCl:={ c with ph:=p,place:=0,op:=false }
def CCl.stop (c:CCl) (s:CSt):CCl:={ c.off .done with st:=s }
def bestL (l:List Int):Int:=l.foldl (fun o n=>if 0<n∧(o=0∨n<o) then n else o) 0
def endC (r:CRn) (c:CCl) (t:Int):CCl:={ c.off .done with used:=min (t-c.began) r.limit }
def leaveC (c:CCl):CCl:=if c.tries.any (fun t=>!t.vis)=true then c.off .waiting else c.off .done
def runC (r:CRn) (c:CCl) (n:Int):CCl :=
 if c.runs.length+1<r.size then { c.off .waiting with runs:=c.runs++[n] } else
  { c.off .done with runs:=c.runs++[n],st:=if bestL (c.runs++[n])=0 then .dnf else c.st }
def kindIn:CKd→CDc→Bool
 | .start,_=>true
 | .hold,d=>decide (d=.lead)
 | .plus,d=>decide (d=.lead)
 | .attempt,d=>decide (d=.boulder)
 | .zone,d=>decide (d=.boulder)
 | .top,d=>decide (d≠.speed)
 | .fall,_=>true
 | .leave,d=>decide (d=.boulder)
 | .out,d=>decide (d≠.speed)
 | .finish,d=>decide (d=.speed)
 | .wrong,d=>decide (d=.speed)
 | .incident,_=>true
 | .absent,_=>true
 | .bar,_=>true
def valued:CKd→Bool
 | .start=>true
 | .hold=>true
 | .finish=>true
 | _=>false
def meetsB (r:CRn) (c:CCl) (p:Int):Bool:=decide (c.ph=.on) && (decide (r.dc=.lead) || decide (c.place=p))
def freeB (r:CRn) (cs:List CCl) (e:CEn):Bool:=(List.range cs.length).all fun i=>decide (i=e.who) || !meetsB r (cs.getD i clZ) e.val
def suitsB (r:CRn) (c:CCl) (v:Int):Bool :=
 match r.dc with
 | .lead=>decide (v=0)
 | .speed=>decide (1≤v) && decide (v≤2)
 | .boulder=>decide (1≤v) && decide (v≤r.size) && !(trAt c v).vis
def readyB (r:CRn) (c:CCl) (k:CKd):Bool :=
 match r.dc with
 | .lead=>decide (k≠.top) || decide (c.hold=r.size)
 | .speed=>true
 | .boulder=>!(decide (k=.zone) || decide (k=.top) || decide (k=.fall) || decide (k=.incident)) || c.op
def unseenB (r:CRn) (c:CCl):Bool :=
 match r.dc with
 | .lead=>true
 | .speed=>decide (c.runs.length=0)
 | .boulder=>!c.tries.any fun t=>t.vis
def tNow (r:CRn) (c:CCl):CTr:=if r.dc=.boulder∧c.ph=.on then trAt c c.place else trZ
def rulesL (r:CRn) (s:CSs) (e:CEn) (c:CCl):List Bool :=
 [decide (s.time≤e.time),
 decide (c.ph≠.done) || (decide (e.kind=.bar) && decide (c.st≠.dsq)),
 kindIn e.kind r.dc,
 !decide (e.kind=.start) || decide (c.ph=.waiting),
 !decide (e.kind=.start) || freeB r s.cls e,
 !decide (e.kind=.start) || suitsB r c e.val,
 (decide (e.kind=.start) || decide (e.kind=.absent) || decide (e.kind=.bar)) || decide (c.ph=.on),
 !(decide (e.kind=.hold) || decide (e.kind=.plus) || decide (e.kind=.attempt) || decide (e.kind=.zone) || decide (e.kind=.top)) || decide (e.time≤c.began+r.limit),
 !decide (e.kind=.out) || decide (c.began+r.limit≤e.time),
 !decide (e.kind=.hold) || (decide (c.hold<e.val) && decide (e.val≤r.size)),
 !decide (e.kind=.plus) || (!c.plus && decide (c.hold<r.size)),
 readyB r c e.kind,
 !decide (e.kind=.attempt) || (!c.op && decide ((tNow r c).top=0) && decide ((tNow r c).att<99)),
 !decide (e.kind=.zone) || decide ((tNow r c).zone=0),
 !decide (e.kind=.finish) || (decide (1≤e.val) && decide (e.val≤e.time-c.began)),
 !decide (e.kind=.absent) || (decide (c.ph=.waiting) && unseenB r c)]
def brokenL:Nat→List Bool→Nat
 | _,[]=>0
 | i,b::l=>if b=true then brokenL (i+1) l else i
def legalL (r:CRn) (s:CSs) (e:CEn):Nat:=brokenL 1 (rulesL r s e (s.cls.getD e.who clZ))
def doC (r:CRn) (e:CEn) (c:CCl):CCl :=
 match e.kind with
 | .start=>if r.dc=.boulder then ({ c with ph:=.on,place:=e.val,began:=e.time }:CCl).setT { trAt c e.val with vis:=true } else { c with ph:=.on,place:=e.val,began:=e.time }
 | .hold=>{ c with hold:=e.val,plus:=false }
 | .plus=>{ c with plus:=true }
 | .attempt=>({ c with op:=true }:CCl).setT { trAt c c.place with att:=(trAt c c.place).att+1 }
 | .zone=>c.setT { trAt c c.place with zone:=(trAt c c.place).att }
 | .top=>if r.dc=.lead then { endC r c e.time with top:=true } else
   { c.setT { trAt c c.place with top:=(trAt c c.place).att,zone:=if (trAt c c.place).zone=0 then (trAt c c.place).att else (trAt c c.place).zone } with op:=false }
 | .fall=>match r.dc with
  | .lead=>endC r c e.time
  | .boulder=>{ c with op:=false }
  | .speed=>runC r c 0
 | .leave=>leaveC c
 | .out=>if r.dc=.lead then endC r c e.time else leaveC c
 | .finish=>runC r c e.val
 | .wrong=>c.stop .dsq
 | .incident=>if r.dc=.boulder then
   { c.setT { trAt c c.place with zone:=if (trAt c c.place).zone=(trAt c c.place).att then 0 else (trAt c c.place).zone,att:=(trAt c c.place).att-1 } with op:=false }
   else { c.off .waiting with hold:=0,plus:=false }
 | .absent=>c.stop .dns
 | .bar=>c.stop .dsq
def nextL (r:CRn) (s:CSs) (e:CEn):CSs:=⟨e.time,s.cls.set e.who (doC r e (s.cls.getD e.who clZ))⟩
def stepL (r:CRn) (s:CSs) (e:CEn):CSs:=if legalL r s e=0 then nextL r s e else s
def runL (r:CRn) (s:CSs) (l:List CEn):CSs:=l.foldl (stepL r) s
def asideL (r:CRn):Nat→CSs→List CEn→List (Nat × Nat)
 | _,_,[]=>[]
 | i,s,e::l=>if legalL r s e=0 then asideL r (i+1) (nextL r s e) l else (i,legalL r s e)::asideL r (i+1) s l
def trOK (t:CTr):Prop:=0≤t.att∧t.att≤99∧0≤t.zone∧t.zone≤t.att∧0≤t.top∧t.top≤t.att∧(0<t.top→t.zone≠0∧t.zone≤t.top)∧(0<t.att→t.vis=true)
structure LeadOK (r:CRn) (c:CCl):Prop where
 place:c.place=0
 op:c.op=false
 tries:c.tries=[]
 runs:c.runs=[]
 hold:0≤c.hold∧c.hold≤r.size
structure BoulderOK (r:CRn) (c:CCl):Prop where
 used:c.used=0
 plus:c.plus=false
 top:c.top=false
 hold:c.hold=0
 runs:c.runs=[]
 len:c.tries.length=r.size
 ok:∀ t ∈ c.tries,trOK t
 on:c.ph=.on→1≤c.place∧c.place≤r.size∧(trAt c c.place).vis=true∧(c.op=true→0<(trAt c c.place).att∧(trAt c c.place).top=0)
 off:c.ph≠.on→c.place=0∧c.op=false
structure SpeedOK (r:CRn) (c:CCl):Prop where
 used:c.used=0
 plus:c.plus=false
 top:c.top=false
 hold:c.hold=0
 op:c.op=false
 tries:c.tries=[]
 runs:∀ n ∈ c.runs,0≤n∧n≤86399999
 len:c.runs.length≤r.size
 on:c.ph=.on→c.place=1∨c.place=2
 off:c.ph≠.on→c.place=0
 yet:c.ph≠.done→c.runs.length<r.size
 best:c.ph=.done→c.st=.fine→bestL c.runs≠0
structure ClOK (r:CRn) (t:Int) (c:CCl):Prop where
 st:c.ph≠.done→c.st=.fine
 began:0≤c.began∧c.began≤t
 used:0≤c.used∧c.used≤r.limit
 own:match r.dc with
  | .lead=>LeadOK r c
  | .boulder=>BoulderOK r c
  | .speed=>SpeedOK r c
def Apart (r:CRn) (cs:List CCl):Prop:=∀ (i j:Nat) (a b:CCl),i<j→cs[i]? = some a→cs[j]? = some b→a.ph=.on→b.ph=.on→r.dc≠.lead∧a.place≠b.place
structure SsOK (r:CRn) (n:Nat) (s:CSs):Prop where
 time:0≤s.time∧s.time≤86399999
 len:s.cls.length=n
 ok:∀ c ∈ s.cls,ClOK r s.time c
 apart:Apart r s.cls
structure RnOK (r:CRn):Prop where
 size:1≤r.size
 lim:1≤r.limit∧r.limit≤86399999
def EnOK (n:Nat) (e:CEn):Prop:=e.who<n∧0≤e.val∧e.val≤86399999∧0≤e.time∧e.time≤86399999
theorem broken_pos:∀ (l:List Bool) (i:Nat),0<i→brokenL i l=0→∀ b ∈ l,b=true
 | [],_,_,_,b,h=>by cases h
 | a::l,i,hi,h,b,hb=>by
  rw[brokenL] at h
  cases a
  ·rw[if_neg (by simp)] at h; omega
  ·rw[if_pos rfl] at h
   rcases List.mem_cons.1 hb with rfl | hb
   ·rfl
   ·exact broken_pos l (i+1) (by omega) h b hb
end LM.GZ
namespace LM.GZ
variable {r:CRn} {t t' : Int} {c:CCl} {e:CEn}
structure RulesOK (r:CRn) (t:Int) (e:CEn) (c:CCl):Prop where
 r1:t≤e.time
 r2:c.ph≠.done∨(e.kind=.bar∧c.st≠.dsq)
 r3:kindIn e.kind r.dc=true
 r4:e.kind=.start→c.ph=.waiting
 r6:e.kind=.start→suitsB r c e.val=true
 r7:e.kind=.start∨e.kind=.absent∨e.kind=.bar∨c.ph=.on
 r10:e.kind=.hold→c.hold<e.val∧e.val≤r.size
 r12:readyB r c e.kind=true
 r13:e.kind=.attempt→c.op=false∧(tNow r c).top=0∧(tNow r c).att<99
 r14:e.kind=.zone→(tNow r c).zone=0
theorem rules_ok {s:CSs} (h:∀ b ∈ rulesL r s e c,b=true):RulesOK r s.time e c∧(e.kind=.start→freeB r s.cls e=true):=by
 simp only[rulesL,List.mem_cons,List.not_mem_nil,or_false,forall_eq_or_imp,forall_eq] at h
 obtain⟨h1,h2,h3,h4,h5,h6,h7,h8,h9,h10,h11,h12,h13,h14,h15,h16⟩:=h
 refine⟨⟨by simpa using h1,by simpa using h2,h3,fun k=>by simpa[k] using h4,fun k=>by simpa[k] using h6,?_,fun k=>by simpa[k] using h10,h12,fun k=>by simpa[k,and_assoc] using h13,fun k=>by simpa[k] using h14⟩,fun k=>by simpa[k] using h5⟩
 simpa[or_assoc] using h7
theorem ClOK.later (h:ClOK r t c) (ht:t≤t'):ClOK r t' c:=⟨h.st,⟨h.began.1,Int.le_trans h.began.2 ht⟩,h.used,h.own⟩
theorem tr_mem {c:CCl} {p:Int} (h1:1≤p) (h2:p≤c.tries.length):trAt c p ∈ c.tries:=by
 have hl:(p-1).toNat<c.tries.length:=by omega
 rw[trAt,List.getD_eq_getElem?_getD,List.getElem?_eq_getElem hl]
 exact List.getElem_mem hl
theorem ok_stop (h:ClOK r t c) (ht:t≤t') {s:CSt} (hs:s≠.fine):ClOK r t' (c.stop s):=by
 refine⟨fun h=>absurd rfl h,⟨h.began.1,Int.le_trans h.began.2 ht⟩,h.used,?_⟩
 have:=h.own
 cases hd:r.dc<;>rw[hd] at this<;>simp only at this ⊢
 ·exact⟨rfl,rfl,this.tries,this.runs,this.hold⟩
 ·exact⟨this.used,this.plus,this.top,this.hold,this.runs,this.len,this.ok,fun h=>by simp[CCl.stop,CCl.off] at h,fun _=>⟨rfl,rfl⟩⟩
 ·exact⟨this.used,this.plus,this.top,this.hold,rfl,this.tries,this.runs,this.len,fun h=>by simp[CCl.stop,CCl.off] at h,fun _=>rfl,fun h=>absurd rfl h,fun _ h=>absurd h hs⟩
theorem ok_end (hr:RnOK r) (hd:r.dc=.lead) (h:ClOK r t c) (ht:t≤t'):ClOK r t' (endC r c t')∧ClOK r t' { endC r c t' with top:=true }:=by
 have ho:=h.own
 rw[hd] at ho
 simp only at ho
 have hb:=h.began
 have hl:=hr.lim
 have hu:0≤min (t'-c.began) r.limit∧min (t'-c.began) r.limit≤r.limit:=by omega
 refine⟨⟨fun h=>absurd rfl h,⟨hb.1,by show c.began≤t'; omega⟩,hu,?_⟩,⟨fun h=>absurd rfl h,⟨hb.1,by show c.began≤t'; omega⟩,hu,?_⟩⟩<;>rw[hd]<;>exact⟨rfl,rfl,ho.tries,ho.runs,ho.hold⟩
theorem ok_leave (hd:r.dc=.boulder) (h:ClOK r t c) (hon:c.ph=.on) (ht:t≤t'):ClOK r t' (leaveC c):=by
 have ho:=h.own
 rw[hd] at ho
 simp only at ho
 have hst:c.st=.fine:=h.st (by rw[hon]; decide)
 unfold leaveC
 split
 ·refine⟨fun _=>hst,⟨h.began.1,Int.le_trans h.began.2 ht⟩,h.used,?_⟩
  rw[hd]
  exact⟨ho.used,ho.plus,ho.top,ho.hold,ho.runs,ho.len,ho.ok,fun h=>by simp[CCl.off] at h,fun _=>⟨rfl,rfl⟩⟩
 ·refine⟨fun h=>absurd rfl h,⟨h.began.1,Int.le_trans h.began.2 ht⟩,h.used,?_⟩
  rw[hd]
  exact⟨ho.used,ho.plus,ho.top,ho.hold,ho.runs,ho.len,ho.ok,fun h=>by simp[CCl.off] at h,fun _=>⟨rfl,rfl⟩⟩
theorem ok_run (hd:r.dc=.speed) (h:ClOK r t c) (hon:c.ph=.on) (ht:t≤t') {n:Int} (hn:0≤n∧n≤86399999):ClOK r t' (runC r c n):=by
 have ho:=h.own
 rw[hd] at ho
 simp only at ho
 have hst:c.st=.fine:=h.st (by rw[hon]; decide)
 have hy:=ho.yet (by rw[hon]; decide)
 have hruns:∀ m ∈ c.runs++[n],0≤m∧m≤86399999:=by
  intro m hm
  rcases List.mem_append.1 hm with hm | hm
  ·exact ho.runs m hm
  ·rw[List.mem_singleton] at hm; subst hm; exact hn
 unfold runC
 split
 ·rename_i hl
  refine⟨fun _=>hst,⟨h.began.1,Int.le_trans h.began.2 ht⟩,h.used,?_⟩
  rw[hd]
  exact⟨ho.used,ho.plus,ho.top,ho.hold,rfl,ho.tries,hruns,by simp[CCl.off]; omega,fun h=>by simp[CCl.off] at h,fun _=>rfl,fun _=>by simp[CCl.off]; exact hl,fun h=>by simp[CCl.off] at h⟩
 ·refine⟨fun h=>absurd rfl h,⟨h.began.1,Int.le_trans h.began.2 ht⟩,h.used,?_⟩
  rw[hd]
  refine⟨ho.used,ho.plus,ho.top,ho.hold,rfl,ho.tries,hruns,by simp[CCl.off]; omega,fun h=>by simp[CCl.off] at h,fun _=>rfl,fun h=>absurd rfl h,fun _ h=>?_⟩
  simp only at h ⊢
  split at h
  ·cases h
  ·assumption
theorem ok_incident (hd:r.dc≠.boulder) (h:ClOK r t c) (hon:c.ph=.on) (ht:t≤t'):ClOK r t' { c.off .waiting with hold:=0,plus:=false }:=by
 have ho:=h.own
 have hst:c.st=.fine:=h.st (by rw[hon]; decide)
 refine⟨fun _=>hst,⟨h.began.1,Int.le_trans h.began.2 ht⟩,h.used,?_⟩
 cases hdc:r.dc<;>rw[hdc] at ho hd<;>simp only at ho ⊢
 ·exact⟨rfl,rfl,ho.tries,ho.runs,⟨Int.le_refl _,Int.natCast_nonneg _⟩⟩
 ·exact absurd rfl hd
 ·exact⟨ho.used,rfl,ho.top,rfl,rfl,ho.tries,ho.runs,ho.len,fun h=>by simp[CCl.off] at h,fun _=>rfl,fun _=>ho.yet (by rw[hon]; decide),fun h=>by simp[CCl.off] at h⟩
theorem ok_setT (hd:r.dc=.boulder) (h:ClOK r t c) (hon:c.ph=.on) (ht:t≤t') (q:CTr) (o:Bool) (hq:trOK q) (hv:q.vis=true) (hop:o=true→0<q.att∧q.top=0):ClOK r t' { c.setT q with op:=o }:=by
 have ho:=h.own
 rw[hd] at ho
 simp only at ho
 obtain⟨p1,p2,_,_⟩:=ho.on hon
 have hl:(c.place-1).toNat<c.tries.length:=by rw[ho.len]; omega
 refine⟨h.st,⟨h.began.1,Int.le_trans h.began.2 ht⟩,h.used,?_⟩
 rw[hd]
 have hat:trAt { c.setT q with op:=o } c.place=q:=by
  simp only[trAt,CCl.setT,List.getD_eq_getElem?_getD]
  rw[List.getElem?_set_self hl]
  rfl
 refine⟨ho.used,ho.plus,ho.top,ho.hold,ho.runs,by simp[CCl.setT,ho.len],fun x hx=>?_,fun _=>⟨p1,p2,?_,fun h=>?_⟩,fun h=>absurd hon h⟩
 ·rcases List.mem_or_eq_of_mem_set hx with hx | rfl
  ·exact ho.ok x hx
  ·exact hq
 ·show (trAt { c.setT q with op:=o } c.place).vis=true
  rw[hat]; exact hv
 ·show 0<(trAt { c.setT q with op:=o } c.place).att∧(trAt { c.setT q with op:=o } c.place).top=0
  rw[hat]; exact hop h
theorem trOK_attempt {T:CTr} (h:trOK T) (hv:T.vis=true) (ha:T.att<99):trOK { T with att:=T.att+1 }:=by
 obtain⟨a,z,p,v⟩:=T
 obtain⟨q1,q2,q3,q4,q5,q6,q7,q8⟩:=h
 simp only at *
 exact⟨by simp only; omega,by simp only; omega,q3,by simp only; omega,q5,by simp only; omega,q7,fun _=>hv⟩
theorem trOK_zone {T:CTr} (h:trOK T) (ht:T.top=0):trOK { T with zone:=T.att }:=by
 obtain⟨a,z,p,v⟩:=T
 obtain⟨q1,q2,q3,q4,q5,q6,q7,q8⟩:=h
 simp only at *
 exact⟨q1,q2,q1,Int.le_refl _,q5,q6,fun h=>by simp only at h; omega,q8⟩
theorem trOK_top {T:CTr} (h:trOK T) (ha:0<T.att):trOK { T with top:=T.att,zone:=if T.zone=0 then T.att else T.zone }:=by
 obtain⟨a,z,p,v⟩:=T
 obtain⟨q1,q2,q3,q4,q5,q6,q7,q8⟩:=h
 simp only at *
 refine⟨q1,q2,?_,?_,q1,Int.le_refl _,fun _=>⟨?_,?_⟩,q8⟩<;>simp only<;>split<;>omega
theorem trOK_incident {T:CTr} (h:trOK T) (ha:0<T.att) (ht:T.top=0):trOK { T with zone:=if T.zone=T.att then 0 else T.zone,att:=T.att-1 }:=by
 obtain⟨a,z,p,v⟩:=T
 obtain⟨q1,q2,q3,q4,q5,q6,q7,q8⟩:=h
 simp only at *
 have hv:=q8 ha
 refine⟨by simp only; omega,by simp only; omega,?_,?_,q5,by simp only; omega,fun h=>by simp only at h; omega,fun _=>hv⟩<;>simp only<;>split<;>omega
theorem do_ok (hr:RnOK r) (hv:0≤e.val∧e.val≤86399999) (h:ClOK r t c) (R:RulesOK r t e c):ClOK r e.time (doC r e c):=by
 have ht:=R.r1
 have on:e.kind≠.start→e.kind≠.absent→e.kind≠.bar→c.ph=.on:=fun a b d=>by
  rcases R.r7 with k | k | k | k
  ·exact absurd k a
  ·exact absurd k b
  ·exact absurd k d
  ·exact k
 have h3:=R.r3
 have h12:=R.r12
 have hown:=h.own
 unfold doC
 cases hk:e.kind<;>rw[hk] at h3 h12<;>simp only[kindIn,decide_eq_true_eq] at h3<;>simp only
 case start =>
  have hw:=R.r4 hk
  have h6:=R.r6 hk
  have hst:c.st=.fine:=h.st (by rw[hw]; decide)
  have hb:0≤e.time:=by have:=h.began; omega
  cases hd:r.dc<;>rw[hd] at hown<;>simp only[suitsB,hd] at h6<;>simp only at hown
  ·simp only[decide_eq_true_eq] at h6
   rw[if_neg (by decide)]
   refine⟨fun _=>hst,⟨hb,Int.le_refl _⟩,h.used,?_⟩
   rw[hd]
   exact⟨h6,hown.op,hown.tries,hown.runs,hown.hold⟩
  ·rw[if_pos rfl]
   simp only[Bool.and_eq_true,decide_eq_true_eq,Bool.not_eq_true'] at h6
   obtain⟨⟨p1,p2⟩,p3⟩:=h6
   have hl:(e.val-1).toNat<c.tries.length:=by rw[hown.len]; omega
   have hop:=(hown.off (by rw[hw]; decide)).2
   have hm:=hown.ok _ (tr_mem p1 (by rw[hown.len]; omega))
   have hat:trAt (({ c with ph:=.on,place:=e.val,began:=e.time }:CCl).setT { trAt c e.val with vis:=true }) e.val={ trAt c e.val with vis:=true }:=by
    simp only[trAt,CCl.setT,List.getD_eq_getElem?_getD]
    rw[List.getElem?_set_self hl]
    rfl
   refine⟨fun _=>hst,⟨hb,Int.le_refl _⟩,h.used,?_⟩
   rw[hd]
   refine⟨hown.used,hown.plus,hown.top,hown.hold,hown.runs,by simp[CCl.setT,hown.len],fun x hx=>?_,fun _=>⟨p1,p2,?_,fun h=>?_⟩,fun h=>absurd rfl h⟩
   ·rcases List.mem_or_eq_of_mem_set hx with hx | rfl
    ·exact hown.ok x hx
    ·obtain⟨q1,q2,q3,q4,q5,q6,q7,q8⟩:=hm
     exact⟨q1,q2,q3,q4,q5,q6,q7,fun _=>rfl⟩
   ·show (trAt (({ c with ph:=.on,place:=e.val,began:=e.time }:CCl).setT { trAt c e.val with vis:=true }) e.val).vis=true
    rw[hat]
   ·have:c.op=true:=h
    rw[hop] at this
    cases this
  ·rw[if_neg (by decide)]
   simp only[Bool.and_eq_true,decide_eq_true_eq] at h6
   refine⟨fun _=>hst,⟨hb,Int.le_refl _⟩,h.used,?_⟩
   rw[hd]
   exact⟨hown.used,hown.plus,hown.top,hown.hold,hown.op,hown.tries,hown.runs,hown.len,fun _=>by show e.val=1∨e.val=2; omega,fun h=>absurd rfl h,fun _=>hown.yet (by rw[hw]; decide),fun h=>by cases h⟩
 case hold =>
  have h10:=R.r10 hk
  rw[h3] at hown
  simp only at hown
  refine⟨h.st,⟨h.began.1,Int.le_trans h.began.2 ht⟩,h.used,?_⟩
  rw[h3]
  exact⟨hown.place,hown.op,hown.tries,hown.runs,hv.1,h10.2⟩
 case plus =>
  rw[h3] at hown
  simp only at hown
  refine⟨h.st,⟨h.began.1,Int.le_trans h.began.2 ht⟩,h.used,?_⟩
  rw[h3]
  exact⟨hown.place,hown.op,hown.tries,hown.runs,hown.hold⟩
 case attempt =>
  have hon:=on (by rw[hk]; decide) (by rw[hk]; decide) (by rw[hk]; decide)
  rw[h3] at hown
  simp only at hown
  obtain⟨p1,p2,p3,_⟩:=hown.on hon
  obtain⟨q1,q2,q3,q4,q5,q6,q7,q8⟩:=hown.ok _ (tr_mem p1 (by rw[hown.len]; omega))
  obtain⟨a1,a2,a3⟩:=R.r13 hk
  rw[tNow,if_pos ⟨h3,hon⟩] at a2 a3
  have:=ok_setT h3 h hon ht { trAt c c.place with att:=(trAt c c.place).att+1 } true (trOK_attempt (hown.ok _ (tr_mem p1 (by rw[hown.len]; omega))) p3 a3) p3 (fun _=>⟨by show 0<(trAt c c.place).att+1; omega,a2⟩)
  exact this
 case zone =>
  have hon:=on (by rw[hk]; decide) (by rw[hk]; decide) (by rw[hk]; decide)
  rw[h3] at hown
  simp only at hown
  obtain⟨p1,p2,p3,p4⟩:=hown.on hon
  obtain⟨q1,q2,q3,q4,q5,q6,q7,q8⟩:=hown.ok _ (tr_mem p1 (by rw[hown.len]; omega))
  simp only[readyB,h3] at h12
  have hop:c.op=true:=by simpa using h12
  obtain⟨p5,p6⟩:=p4 hop
  have:=ok_setT h3 h hon ht { trAt c c.place with zone:=(trAt c c.place).att } c.op (trOK_zone (hown.ok _ (tr_mem p1 (by rw[hown.len]; omega))) p6) p3 (fun _=>⟨p5,p6⟩)
  exact this
 case top =>
  have hon:=on (by rw[hk]; decide) (by rw[hk]; decide) (by rw[hk]; decide)
  cases hd:r.dc
  ·rw[if_pos rfl]
   exact (ok_end hr hd h ht).2
  ·rw[if_neg (by decide)]
   rw[hd] at hown
   simp only at hown
   obtain⟨p1,p2,p3,p4⟩:=hown.on hon
   obtain⟨q1,q2,q3,q4,q5,q6,q7,q8⟩:=hown.ok _ (tr_mem p1 (by rw[hown.len]; omega))
   simp only[readyB,hd] at h12
   have hop:c.op=true:=by simpa using h12
   obtain⟨p5,p6⟩:=p4 hop
   exact ok_setT hd h hon ht { trAt c c.place with top:=(trAt c c.place).att,zone:=if (trAt c c.place).zone=0 then (trAt c c.place).att else (trAt c c.place).zone } false
    (trOK_top (hown.ok _ (tr_mem p1 (by rw[hown.len]; omega))) p5) p3 (fun h=>by cases h)
  ·exact absurd hd h3
 case fall =>
  have hon:=on (by rw[hk]; decide) (by rw[hk]; decide) (by rw[hk]; decide)
  cases hd:r.dc
  ·exact (ok_end hr hd h ht).1
  ·rw[hd] at hown
   simp only at hown ⊢
   refine⟨h.st,⟨h.began.1,Int.le_trans h.began.2 ht⟩,h.used,?_⟩
   rw[hd]
   obtain⟨p1,p2,p3,p4⟩:=hown.on hon
   exact⟨hown.used,hown.plus,hown.top,hown.hold,hown.runs,hown.len,hown.ok,fun _=>⟨p1,p2,p3,fun h=>by cases h⟩,fun h=>absurd hon h⟩
  ·exact ok_run hd h hon ht ⟨Int.le_refl _,by decide⟩
 case leave =>
  have hon:=on (by rw[hk]; decide) (by rw[hk]; decide) (by rw[hk]; decide)
  exact ok_leave h3 h hon ht
 case out =>
  have hon:=on (by rw[hk]; decide) (by rw[hk]; decide) (by rw[hk]; decide)
  cases hd:r.dc
  ·rw[if_pos rfl]
   exact (ok_end hr hd h ht).1
  ·rw[if_neg (by decide)]
   exact ok_leave hd h hon ht
  ·exact absurd hd h3
 case finish =>
  have hon:=on (by rw[hk]; decide) (by rw[hk]; decide) (by rw[hk]; decide)
  exact ok_run h3 h hon ht hv
 case wrong=>exact ok_stop h ht (by decide)
 case incident =>
  have hon:=on (by rw[hk]; decide) (by rw[hk]; decide) (by rw[hk]; decide)
  split
  ·rename_i hd
   rw[hd] at hown
   simp only at hown
   obtain⟨p1,p2,p3,p4⟩:=hown.on hon
   obtain⟨q1,q2,q3,q4,q5,q6,q7,q8⟩:=hown.ok _ (tr_mem p1 (by rw[hown.len]; omega))
   simp only[readyB,hd] at h12
   have hop:c.op=true:=by simpa using h12
   obtain⟨p5,p6⟩:=p4 hop
   exact ok_setT hd h hon ht { trAt c c.place with zone:=if (trAt c c.place).zone=(trAt c c.place).att then 0 else (trAt c c.place).zone,att:=(trAt c c.place).att-1 } false
    (trOK_incident (hown.ok _ (tr_mem p1 (by rw[hown.len]; omega))) p5 p6) p3 (fun h=>by cases h)
  ·rename_i hd
   exact ok_incident hd h hon ht
 case absent=>exact ok_stop h ht (by decide)
 case bar=>exact ok_stop h ht (by decide)
end LM.GZ
namespace LM.GZ
variable {r:CRn} {t t' : Int} {c:CCl} {e:CEn} {n:Nat} {s:CSs}
theorem do_on (h:(doC r e c).ph=.on) (h7:e.kind=.start∨e.kind=.absent∨e.kind=.bar∨c.ph=.on):(e.kind=.start∧(doC r e c).place=e.val)∨(c.ph=.on∧(doC r e c).place=c.place):=by
 unfold doC at *
 cases hk:e.kind<;>rw[hk] at h h7<;>simp only at h ⊢
 case start =>
  left
  refine⟨trivial,?_⟩
  split<;>rfl
 case fall =>
  right
  split at h
  ·simp[endC,CCl.off] at h
  ·have:c.ph=.on:=h
   exact⟨this,rfl⟩
  ·simp only[runC] at h
   split at h<;>simp[CCl.off] at h
 case absent=>simp[CCl.stop,CCl.off] at h
 case bar=>simp[CCl.stop,CCl.off] at h
 case wrong=>simp[CCl.stop,CCl.off] at h
 case leave =>
  simp only[leaveC] at h
  split at h<;>simp[CCl.off] at h
 case out =>
  split at h
  ·simp[endC,CCl.off] at h
  ·simp only[leaveC] at h
   split at h<;>simp[CCl.off] at h
 case finish =>
  simp only[runC] at h
  split at h<;>simp[CCl.off] at h
 case top =>
  right
  split at h
  ·simp[endC,CCl.off] at h
  ·rename_i hd
   have:c.ph=.on:=h
   rw[if_neg hd]
   exact⟨this,rfl⟩
 case incident =>
  right
  split at h
  ·rename_i hd
   have:c.ph=.on:=h
   rw[if_pos hd]
   exact⟨this,rfl⟩
  ·simp[CCl.off] at h
 all_goals
  right
  have:c.ph=.on:=h
  first
   | exact⟨this,rfl⟩
   | exact⟨this,trivial⟩
theorem free_no {cs:List CCl} (h:freeB r cs e=true) {i:Nat} {a:CCl} (hi:i≠e.who) (ga:cs[i]? = some a) (ha:a.ph=.on):r.dc≠.lead∧a.place≠e.val:=by
 rw[freeB,List.all_eq_true] at h
 have hl:=(List.getElem?_eq_some_iff.1 ga).1
 have:=h i (List.mem_range.2 hl)
 have hg:cs.getD i clZ=a:=by rw[List.getD_eq_getElem?_getD,ga]; rfl
 rw[hg] at this
 simp only[meetsB,ha,Bool.or_eq_true,decide_eq_true_eq,Bool.not_eq_true',decide_true,Bool.true_and,Bool.or_eq_false_iff,decide_eq_false_iff_not] at this
 rcases this with h | h
 ·exact absurd h hi
 ·exact h
theorem next_ok (hr:RnOK r) (h:SsOK r n s) (he:EnOK n e) (hl:legalL r s e=0):SsOK r n (nextL r s e):=by
 have hw:e.who<s.cls.length:=by rw[h.len]; exact he.1
 have gc:s.cls[e.who]? = some (s.cls.getD e.who clZ):=by rw[List.getD_eq_getElem?_getD,List.getElem?_eq_getElem hw]; rfl
 obtain⟨R,hf⟩:=rules_ok (broken_pos _ 1 (by decide) hl)
 have hcm:=List.mem_of_getElem? gc
 have hco:=h.ok _ hcm
 have hdo:=do_ok hr ⟨he.2.1,he.2.2.1⟩ hco R
 generalize s.cls.getD e.who clZ=c at *
 unfold nextL
 have gcc:s.cls.getD e.who clZ=c:=by rw[List.getD_eq_getElem?_getD,gc]; rfl
 rw[gcc]
 refine⟨⟨he.2.2.2.1,he.2.2.2.2⟩,by simpa using h.len,fun x hx=>?_,?_⟩
 ·rcases List.mem_or_eq_of_mem_set hx with hx | rfl
  ·exact (h.ok x hx).later R.r1
  ·exact hdo
 ·intro i j a b hij ga gb ha hb
  have gi:∀ (k:Nat) (x:CCl),(s.cls.set e.who (doC r e c))[k]? = some x→(k=e.who∧x=doC r e c)∨(k≠e.who∧s.cls[k]? = some x):=by
   intro k x hx
   by_cases e1:k=e.who
   ·subst e1
    rw[List.getElem?_set_self hw] at hx
    exact .inl ⟨rfl,(Option.some.inj hx).symm⟩
   ·rw[List.getElem?_set_ne (Ne.symm e1)] at hx
    exact .inr ⟨e1,hx⟩
  rcases gi i a ga with ⟨i1,rfl⟩ | ⟨i1,i2⟩
  ·rcases gi j b gb with ⟨j1,rfl⟩ | ⟨j1,j2⟩
   ·omega
   ·rcases do_on ha R.r7 with ⟨k1,k2⟩ | ⟨k1,k2⟩
    ·have:=free_no (hf k1) j1 j2 hb
     exact⟨this.1,fun e=>this.2 (by rw[← k2]; exact e.symm)⟩
    ·rw[k2]
     exact h.apart i j c b hij (by rw[i1]; exact gc) j2 k1 hb
  ·rcases gi j b gb with ⟨j1,rfl⟩ | ⟨j1,j2⟩
   ·rcases do_on hb R.r7 with ⟨k1,k2⟩ | ⟨k1,k2⟩
    ·have:=free_no (hf k1) i1 i2 ha
     exact⟨this.1,fun e=>this.2 (by rw[← k2]; exact e)⟩
    ·rw[k2]
     exact h.apart i j a c hij i2 (by rw[j1]; exact gc) ha k1
   ·exact h.apart i j a b hij i2 j2 ha hb
theorem step_ok (hr:RnOK r) (h:SsOK r n s) (he:EnOK n e):SsOK r n (stepL r s e):=by
 unfold stepL
 split
 ·rename_i hl
  exact next_ok hr h he hl
 ·exact h
theorem run_ok (hr:RnOK r):∀ (l:List CEn) (s:CSs),SsOK r n s→(∀ e ∈ l,EnOK n e)→SsOK r n (runL r s l)
 | [],s,h,_=>h
 | e::l,s,h,he=>by
  rw[runL,List.foldl_cons]
  exact run_ok hr l _ (step_ok hr h (he e (by simp))) fun x hx=>he x (by simp[hx])
def clS (r:CRn):CCl:=⟨.waiting,.fine,0,0,0,0,false,false,false,if r.dc=.boulder then List.replicate r.size trZ else [],[]⟩
def startL (r:CRn) (n:Nat):CSs:=⟨0,List.replicate n (clS r)⟩
theorem start_ok (hr:RnOK r):SsOK r n (startL r n):=by
 refine⟨⟨Int.le_refl _,by show (0:Int)≤86399999; decide⟩,by simp[startL],fun c hc=>?_,fun i j a b _ ga _ ha _=>?_⟩
 ·obtain⟨_,rfl⟩:=List.mem_replicate.1 hc
  have hlim:=hr.lim
  refine⟨fun _=>rfl,⟨Int.le_refl _,Int.le_refl _⟩,⟨Int.le_refl _,by show (0:Int)≤r.limit; omega⟩,?_⟩
  cases hd:r.dc<;>simp only
  ·exact⟨rfl,rfl,by simp[clS,hd],rfl,⟨Int.le_refl _,Int.natCast_nonneg _⟩⟩
  ·refine⟨rfl,rfl,rfl,rfl,rfl,by simp[clS,hd],fun x hx=>?_,fun h=>(by cases h),fun _=>⟨rfl,rfl⟩⟩
   simp only[clS,hd,if_true] at hx
   obtain⟨_,rfl⟩:=List.mem_replicate.1 hx
   simp[trOK,trZ]
  ·have hs:=hr.size
   exact⟨rfl,rfl,rfl,rfl,rfl,by simp[clS,hd],fun x hx=>(by cases hx),Nat.zero_le _,fun h=>(by cases h),fun _=>rfl,fun _=>(by show 0<r.size; omega),fun h=>(by cases h)⟩
 ·have:=List.mem_of_getElem? ga
  obtain⟨_,rfl⟩:=List.mem_replicate.1 this
  cases ha
end LM.GZ
namespace LM.GZ
open Go LM
theorem strElem (s:Str):Elem none (CV.str s):=⟨rfl,rfl⟩
theorem strElems (l:List Str):∀ x ∈ l.map CV.str,Elem none x:=by
 intro x hx
 obtain⟨y,_,rfl⟩:=List.mem_map.1 hx
 exact strElem y
end LM.GZ
namespace LM.GZ
open Go LM
variable {P:Nat→Option SFunc} [Has P]
structure Rs where
 who:Str
 state:Str
 vals:List Int
def Rs.enc (x:Rs):CV:=.agg [.str x.who,.str x.state,.slice (x.vals.map ci)]
def Rs.ptr (x:Rs):CV:=.ptr [.str x.who,.str x.state,.slice (x.vals.map ci)] 0
def Rs.ok (x:Rs):Prop:=x.who.length<9223372036854775807∧x.state.length<9223372036854775807∧(x.vals.length:Int)<9223372036854775807
theorem Rs.elem (x:Rs):Elem (some 3) x.enc:=⟨_,rfl,rfl,by simp[CV.flat]⟩
theorem Rs.elems (l:List Rs):∀ x ∈ l.map Rs.enc,Elem (some 3) x:=by
 intro x hx
 obtain⟨y,_,rfl⟩:=List.mem_map.1 hx
 exact y.elem
def PredOk (P:Nat→Option SFunc) (f:Nat) (B:List CV) (p:Rs→Bool):Prop :=
 ∀ (pos:Option Nat) (q:Bool) (x:Rs) (h:Heap),callS P (limS P) pos q f (.c x.enc::B.map .c) h=some (.c (.bool (p x)),h)
def isW (s:Str) (x:Rs):Bool:=decide (x.who=s)
def isS (x:Rs):Bool:=decide (x.state=[])
theorem pred157 (c:Rs):PredOk P 183 [c.ptr] (isW c.who):=by
 intro pos q x h
 have e:fn P 183 [x.enc,c.ptr]=some (.bool (isW c.who x)):=by
  rw[u183]
  by_cases h:x.who=c.who<;>simp[c183,Rs.enc,Rs.ptr,isW,h]
 simp[e]
theorem pred161:PredOk P 186 [] isS:=by
 intro pos q x h
 have e:fn P 186 [x.enc]=some (.bool (isS x)):=by
  rw[u186]
  by_cases h:x.state=[]<;>simp[c186,Rs.enc,isS,h]
 simp[e]
theorem pred162:PredOk P 135 [] (fun x=>!isS x):=by
 intro pos q x h
 have e:fn P 135 [x.enc]=some (.bool (!isS x)):=by
  rw[u135]
  by_cases h:x.state=[]<;>simp[c135,Rs.enc,isS,h]
 simp[e]
def idxP (p:Rs→Bool):Nat→List Rs→Int
 | _,[]=>-1
 | n,x::r=>if p x then n else idxP p (n+1) r
theorem L160c {f:Nat} {B:List CV} {p:Rs→Bool} (hp:PredOk P f B p) (H:Heap):∀ (l pre:List Rs),((pre++l).length:Int)<9223372036854775807 →
  execS P (limS P) c164_l0 ⟨[.c (.slice ((pre++l).map Rs.enc)),.c (.func f [] B),.c (ci (pre++l).length),.c (ci pre.length)],H⟩=if l.any p then some (.ret,⟨[.c (ci (idxP p pre.length l))],H⟩) else some (.exit 0,⟨[],H⟩):=by
 intro l
 induction l with
 | nil =>
  intro pre h
  rw[r164_l0]
  simp[c164_l0b]
 | cons x r ih =>
  intro pre h
  have ih:=ih (pre++[x]) (by simpa using h)
  have hc:=fun pos q h=>hp pos q x h
  simp[Rs.enc,-List.any_eq_true] at ih h hc
  have hw:IntKind.i64.wrap (↑pre.length+1)=↑pre.length+1:=wrap64 (by omega) (by omega)
  have hlt:(pre.length:Int)<pre.length+(r.length+1):=by omega
  have ht:List.take H.length H=H:=List.take_length
  rw[r164_l0]
  cases h0:p x
  ·simp only[h0] at hc
   simp[c164_l0b,hw,hlt,Rs.enc,hc,idxP,h0,ht,ih,-List.any_eq_true]
  ·simp only[h0] at hc
   simp[c164_l0b,hw,hlt,Rs.enc,hc,idxP,h0,-List.any_eq_true]
theorem idxP_none {p:Rs→Bool}:∀ {l:List Rs} {n:Nat},l.any p=false→idxP p n l = -1
 | [],n,_=>rfl
 | x::r,n,h=>by
  simp only[List.any_cons,Bool.or_eq_false_iff] at h
  rw[idxP,if_neg (by simp[h.1]),idxP_none h.2]
theorem idxP_some {p:Rs→Bool}:∀ {l:List Rs} {n:Nat},l.any p=true→∃ k,k<l.length∧idxP p n l=(n+k:Nat)∧∃ x,l[k]? = some x∧l.find? p=some x
 | [],n,h=>by simp at h
 | x::r,n,h=>by
  cases h0:p x
  ·have h' : r.any p=true:=by simpa[h0] using h
   obtain⟨k,k1,k2,y,k3,k4⟩:=idxP_some (n:=n+1) h'
   refine⟨k+1,by simp; omega,?_,y,by simpa using k3,by simp[h0,k4]⟩
   rw[idxP,if_neg (by simp[h0]),k2]
   congr 1
   omega
  ·refine⟨0,by simp,?_,x,rfl,by simp[h0]⟩
   rw[idxP,if_pos h0]
   rfl
theorem S160c {f:Nat} {B:List CV} {p:Rs→Bool} (hp:PredOk P f B p) (H:Heap) (l:List Rs) (h:(l.length:Int)<9223372036854775807):sfn P 164 [.c (.slice (l.map Rs.enc)),.c (.func f [] B)] H=some (.c (ci (idxP p 0 l)),H):=by
 have hl:=L160c (P:=P) hp H l [] (by simpa using h)
 simp[-List.any_eq_true] at hl
 rw[u164]
 cases h0:l.any p
 ·rw[h0] at hl
  simp[c164,hl,idxP_none h0]
 ·rw[h0] at hl
  simp[c164,hl]
theorem frzF_c2 (a b:CV) (h:Heap):frzFuncs [.c a,.c b] h=some ([.c a,.c b],h):=by rw[frzFuncs_c,frzFuncs_c,frzFuncs_nil]; rfl
theorem S96 {f:Nat} {B:List CV} {p:Rs→Bool} (hp:PredOk P f B p) (l:List Rs) (h:(l.length:Int)<9223372036854775807):fn P 96 [.slice (l.map Rs.enc),.func f [] B]=some (.bool (l.any p)):=by
 have e:=S160c (P:=P) hp [] l h
 rw[u96]
 cases h0:l.any p
 ·rw[idxP_none h0] at e
  simp[c96,frzF_c2,e]
 ·obtain⟨k,_,k2,_⟩:=idxP_some (n:=0) h0
  rw[k2] at e
  have:(0:Int)≤((0+k:Nat):Int):=by omega
  simp at e this
  simp[c96,frzF_c2,e,this]
end LM.GZ
namespace LM.GZ
open Go LM
variable {P:Nat→Option SFunc} [Has P]
def farI (n:Int):Bool:=decide (n < -999999999) || decide (n > 999999999)
theorem S185 (n:Int):fn P 185 [ci n]=some (.bool (farI n)):=by
 rw[u185]
 unfold farI
 by_cases h1:n < -999999999<;>by_cases h2:n > 999999999<;>simp[c185,h1,h2]
theorem L210:∀ (l pre:List Int),((pre++l).length:Int)<9223372036854775807 →
  ∃ k:Nat,execS P (limS P) c210_l0 ⟨[.c (.slice ((pre++l).map ci)),.c (.func 185 [] []),.c (ci (pre++l).length),.c (ci pre.length)],[]⟩=if l.any farI then some (.ret,⟨[.c (ci k)],[]⟩) else some (.exit 0,⟨[],[]⟩):=by
 intro l
 induction l with
 | nil =>
  intro pre h
  refine⟨0,?_⟩
  rw[r210_l0]
  simp[c210_l0b]
 | cons x r ih =>
  intro pre h
  obtain⟨k,ih⟩:=ih (pre++[x]) (by simpa using h)
  have es:=S185 (P:=P) x
  simp[-List.any_eq_true] at ih h
  have hw:IntKind.i64.wrap (↑pre.length+1)=↑pre.length+1:=wrap64 (by omega) (by omega)
  have hlt:(pre.length:Int)<pre.length+(r.length+1):=by omega
  cases h0:farI x
  ·refine⟨k,?_⟩
   rw[h0] at es
   rw[r210_l0]
   simp[c210_l0b,hw,hlt,es,h0,ih,-List.any_eq_true]
  ·refine⟨pre.length,?_⟩
   rw[h0] at es
   rw[r210_l0]
   simp[c210_l0b,hw,hlt,es,h0,-List.any_eq_true]
theorem S184 (l:List Int) (h:(l.length:Int)<9223372036854775807):fn P 184 [.slice (l.map ci),.func 185 [] []]=some (.bool (l.any farI)):=by
 obtain⟨k,hl⟩:=L210 (P:=P) l [] (by simpa using h)
 simp[-List.any_eq_true] at hl
 have e170:fn P 210 [.slice (l.map ci),.func 185 [] []]=some (ci (if l.any farI then (k:Int) else -1)):=by
  rw[u210]
  cases h0:l.any farI<;>rw[h0] at hl<;>simp[c210,hl]
 rw[u184]
 cases h0:l.any farI<;>rw[h0] at e170<;>simp[c184,e170]
def statesL:List Str:=[[],[100,110,115],[100,110,102],[100,115,113]]
def stateOk (s:Str):Bool:=statesL.any (Str.is s)
def shapeE (pre:List Rs) (x:Rs):Bool:=match pre.find? isS with
 | some y=>isS x && decide (x.vals.length≠y.vals.length)
 | none=>false
def resE (pre:List Rs) (x:Rs):Int:=firstE [whenE (!isName x.who) 8,whenE (pre.any (isW x.who)) 9,whenE (!stateOk x.state) 13,whenE (!isS x && decide (0<x.vals.length)) 1,whenE (decide (8<x.vals.length)) 5,whenE (x.vals.any farI) 3,whenE (shapeE pre x) 2]
def resultsE (l:List Rs):Int:=if (l.length:Int) > 160 then 5 else eachE resE [] l
theorem S57_7 (a b c d e f g:Int):fn P 57 [.slice [ci a,ci b,ci c,ci d,ci e,ci f,ci g]]=some (ci (firstE [a,b,c,d,e,f,g])):=S57 [a,b,c,d,e,f,g] (by simp)
theorem S134 (x:Rs) (pre:List Rs) (hx:x.ok) (h:(pre.length:Int)<9223372036854775807):fn P 134 [x.enc,.slice (pre.map Rs.enc)]=some (ci (resE pre x)):=by
 obtain⟨h1,h2,h3⟩:=hx
 have e134:=S96 (P:=P) (pred157 (P:=P) x) pre h
 have e113:=S86 (P:=P) x.state statesL (by decide)
 have e158:=S184 (P:=P) x.vals h3
 have e160:=fun H=>S160c (P:=P) (pred161 (P:=P)) H pre h
 have e90:=S85 (P:=P) x.who h1
 have e88:=S57_7 (P:=P)
 have hst:statesL.any (Str.is x.state)=stateOk x.state:=rfl
 rw[hst] at e113
 rw[u134]
 unfold resE shapeE
 have hS:isS x=decide (x.state=[]):=rfl
 simp[statesL,Rs.ptr,-List.any_eq_true] at e113 e134
 have q8:(8:Int)<(x.vals.length:Int)↔8<x.vals.length:=by omega
 have q0:(0:Int)<(x.vals.length:Int)↔0<x.vals.length:=by omega
 have d8:decide ((8:Int)<(x.vals.length:Int))=decide (8<x.vals.length):=decide_eq_decide.2 q8
 cases hq:pre.any isS
 ·have hf:pre.find? isS=none:=by
   rw[List.find?_eq_none]
   intro y hy
   have:=List.any_eq_false.1 hq y hy
   exact this
  simp only[idxP_none hq] at e160
  rw[hf]
  simp[c134,c134_n11,Rs.enc,frzF_c2,e134,e113,e158,e160,e90,e88,statesL,-List.any_eq_true]
  simp only[hS,d8]
 ·obtain⟨k,k1,k2,y,k3,k4⟩:=idxP_some (n:=0) hq
  simp only[k2,Nat.zero_add] at e160
  rw[k4]
  obtain⟨_,k3'⟩:=List.getElem?_eq_some_iff.1 k3
  have k5:(k:Int)<pre.length:=by omega
  have hbne:((x.vals.length:Int) != (y.vals.length:Int))=!decide (x.vals.length=y.vals.length):=by
   by_cases q:x.vals.length=y.vals.length
   ·simp[q]
   ·have:¬ (x.vals.length:Int)=y.vals.length:=by omega
    simp[q,this]
  by_cases hs:x.state=[]
  ·rw[hs] at e134 e113
   simp[c134,c134_n11,Rs.enc,frzF_c2,e134,e113,e158,e160,e90,e88,statesL,k1,k3',k5,hs,-List.any_eq_true]
   simp only[hS,d8,hs]
   simp[hbne,-List.any_eq_true]
  ·simp[c134,c134_n11,Rs.enc,frzF_c2,e134,e113,e158,e160,e90,e88,statesL,k1,k3',k5,hs,-List.any_eq_true]
   simp only[hS,d8,hs]
   simp[-List.any_eq_true]
def RB3 (x:Rs) (z:Nat):LB:=.cells 0 [.c (.str x.who),.c (.str x.state),.c (.slice (x.vals.map ci))] z
theorem L63:∀ (r pre:List Rs),(∀ x ∈ r,x.ok)→((pre++r).length:Int)<9223372036854775807 →
  ∃ H,execS P (limS P) c63_l0 ⟨[.c (.slice ((pre++r).map Rs.enc)),.c (.slice ((pre++r).map Rs.enc)),.c (ci (pre++r).length),.c (ci pre.length)],[]⟩=if eachE resE pre r=0 then some (.exit 0,⟨[],[]⟩) else some (.ret,⟨[.c (ci (eachE resE pre r))],H⟩):=by
 intro r
 induction r with
 | nil =>
  intro pre hl h
  refine⟨[],?_⟩
  rw[r63_l0]
  simp[c63_l0b,eachE]
 | cons x r ih =>
  intro pre hl h
  obtain⟨H,ih⟩:=ih (pre++[x]) (fun y hy=>hl y (by simp[hy])) (by simpa using h)
  have e131:=S134 (P:=P) x pre (hl x (by simp)) (by simp at h; omega)
  have ht:List.take pre.length (List.map Rs.enc pre++x.enc::List.map Rs.enc r)=pre.map Rs.enc:=by simp
  simp[Rs.enc] at ih h e131 ht
  have hw:IntKind.i64.wrap (↑pre.length+1)=↑pre.length+1:=wrap64 (by omega) (by omega)
  have hlt:(pre.length:Int)<pre.length+(r.length+1):=by omega
  have hz:szFits 3 (List.map Rs.enc pre++CV.agg [.str x.who,.str x.state,.slice (x.vals.map ci)]::List.map Rs.enc r)=true:=by cases pre<;>rfl
  have hb:(pre.length:Int)≤pre.length+(r.length+1):=by omega
  have hE:eachE resE pre (x::r)=if resE pre x≠0 then resE pre x else eachE resE (pre++[x]) r:=rfl
  by_cases h0:resE pre x=0
  ·refine⟨H,?_⟩
   rw[hE,r63_l0]
   simp[c63_l0b,hw,hlt,hz,hb,ht,Rs.enc,e131,h0,ih]
  ·refine⟨[RB3 x 0],?_⟩
   rw[hE,r63_l0]
   simp[c63_l0b,hw,hlt,hz,hb,ht,Rs.enc,e131,h0,RB3]
theorem S63 (l:List Rs) (hl:∀ x ∈ l,x.ok) (h:(l.length:Int)<9223372036854775807):fn P 63 [.slice (l.map Rs.enc)]=some (ci (resultsE l)):=by
 obtain⟨H,hL⟩:=L63 (P:=P) l [] hl (by simpa using h)
 simp at hL
 rw[u63]
 unfold resultsE
 by_cases hm:(l.length:Int) > 160
 ·have hm' : (160:Int)<(l.length:Int):=hm
  simp[c63,hm']
 ·have hm' : ¬ (160:Int)<(l.length:Int):=hm
  simp[c63,hm',hL]
  by_cases h0:eachE resE [] l=0<;>simp[h0]
def chkR (x:Rs):Int:=firstE [whenE (!stateOk x.state) 13,whenE (!isS x && decide (0<x.vals.length)) 1,whenE (decide (8<x.vals.length)) 5,whenE (x.vals.any farI) 3]
theorem L62 (x:Rs):∀ (r pre:List Int),x.vals=pre++r→((pre++r).length:Int)<9223372036854775807 →
  execS P (limS P) c62_l0 ⟨[.ptr 0 0 0,.c (ci pre.length)],[RB3 x 0]⟩=if r.any farI then some (.ret,⟨[.c (ci 3)],[RB3 x 0]⟩) else some (.exit 0,⟨[],[RB3 x 0]⟩):=by
 intro r
 induction r with
 | nil =>
  intro pre hv h
  rw[r62_l0]
  simp[c62_l0b,RB3,hv]
 | cons n r ih =>
  intro pre hv h
  have ih:=ih (pre++[n]) (by simp[hv]) (by simpa using h)
  simp[-List.any_eq_true,RB3,hv] at ih h
  have hw:IntKind.i64.wrap (↑pre.length+1)=↑pre.length+1:=wrap64 (by omega) (by omega)
  have hlt:(pre.length:Int)<pre.length+(r.length+1):=by omega
  have ho:outside n (-999999999) 999999999=farI n:=rfl
  rw[r62_l0]
  cases h0:farI n
  ·simp[c62_l0b,RB3,hv,hw,hlt,ho,h0,whenE,ih,-List.any_eq_true]
  ·simp[c62_l0b,RB3,hv,hw,hlt,ho,h0,whenE,-List.any_eq_true]
theorem S62 (x:Rs) (hx:(x.vals.length:Int)<9223372036854775807):fn P 62 [x.enc]=some (ci (chkR x)):=by
 have hL:=L62 (P:=P) x x.vals [] rfl (by simpa using hx)
 simp[RB3,-List.any_eq_true] at hL
 have q8:(8:Int)<(x.vals.length:Int)↔8<x.vals.length:=by omega
 have hst:stateOk x.state=(decide (x.state=[]) || decide (x.state=[100,110,115]) || decide (x.state=[100,110,102]) || decide (x.state=[100,115,113])):=by
  unfold stateOk statesL
  by_cases h1:x.state=[]<;>by_cases h2:x.state=[100,110,115]<;>by_cases h3:x.state=[100,110,102]<;>by_cases h4:x.state=[100,115,113]<;>simp[Str.is,h1,h2,h3,h4]
  exact⟨fun q=>h2 q.symm,fun q=>h3 q.symm,fun q=>h4 q.symm⟩
 have hS:isS x=decide (x.state=[]):=rfl
 rw[u62]
 unfold chkR
 rw[hst,hS]
 have q0:(0:Int)<(x.vals.length:Int)↔0<x.vals.length:=by omega
 have e1:∀ b:Bool,whenE b 13=if b then 13 else 0:=fun b=>rfl
 by_cases h1:x.state=[]
 ·by_cases v8:8<x.vals.length
  ·have v8' : (8:Int)<(x.vals.length:Int):=q8.2 v8
   simp[c62,Rs.enc,h1,v8',v8,whenE,firstE]
  ·have v8' : ¬ (8:Int)<(x.vals.length:Int):=fun q=>v8 (q8.1 q)
   rw[h1] at hL
   cases hf:x.vals.any farI<;>rw[hf] at hL<;>simp at hL<;>simp[c62,Rs.enc,h1,v8',v8,whenE,firstE,hL]
 ·cases hk:(decide (x.state=[100,110,115]) || decide (x.state=[100,110,102]) || decide (x.state=[100,115,113]))
  ·simp only[Bool.or_eq_false_iff,decide_eq_false_iff_not] at hk
   simp[c62,Rs.enc,h1,hk,whenE,firstE]
  ·have hor:x.state=[100,110,115]∨x.state=[100,110,102]∨x.state=[100,115,113]:=by simpa[or_assoc] using hk
   by_cases v0:0<x.vals.length
   ·have v0' : (0:Int)<(x.vals.length:Int):=q0.2 v0
    have v1:x.vals≠[]:=fun q=>by rw[q] at v0; cases v0
    rcases hor with e | e | e<;>simp[c62,Rs.enc,e,v0',v0,v1,whenE,firstE]
   ·have v1:x.vals=[]:=List.eq_nil_of_length_eq_zero (by omega)
    rw[v1] at hL
    simp at hL
    rcases hor with e | e | e<;>rw[e] at hL<;>simp[c62,Rs.enc,e,v1,whenE,firstE,hL]
end LM.GZ
namespace LM.GZ
open Go LM
variable {P:Nat→Option SFunc} [Has P]
theorem L13_0 (X:List Rs) (x:Rs) (c:CV):∀ (r pre rest:List Rs),X=pre++r++x::rest→(X.length:Int)<9223372036854775807 →
  execS P (limS P) c13_l0 ⟨[.c (.slice (X.map Rs.enc)),.c c,.c (ci (pre++r).length),.c (ci pre.length)],[]⟩=if r.any (isW x.who) then some (.ret,⟨[.c (ci 9)],[]⟩) else some (.exit 2,⟨[.c (.slice (X.map Rs.enc)),.c c,.c (ci (pre++r).length)],[]⟩):=by
 intro r
 induction r with
 | nil =>
  intro pre rest hX h
  rw[r13_l0]
  simp[c13_l0b]
 | cons y r ih =>
  intro pre rest hX h
  have ih:=ih (pre++[y]) rest (by simp[hX]) h
  subst hX
  simp[Rs.enc,-List.any_eq_true] at ih h
  have hw:IntKind.i64.wrap (↑pre.length+1)=↑pre.length+1:=wrap64 (by omega) (by omega)
  have hlt:(pre.length:Int)<pre.length+(r.length+1):=by omega
  have k1:(pre.length:Int)<pre.length+(r.length+(rest.length+1)+1):=by omega
  have k2:(pre.length:Int)+(r.length+1)<pre.length+(r.length+(rest.length+1)+1):=by omega
  have t1:((pre.length:Int)+(r.length+1)).toNat=pre.length+(r.length+1):=by omega
  have j2:0≤(pre.length:Int)+(r.length+1):=by omega
  have hu:isW x.who y=decide (y.who=x.who):=rfl
  rw[r13_l0]
  by_cases h0:y.who=x.who
  ·simp[c13_l0b,hw,hlt,k1,k2,t1,j2,Rs.enc,hu,h0,-List.any_eq_true]
  ·simp[c13_l0b,hw,hlt,k1,k2,t1,j2,Rs.enc,hu,h0,ih,-List.any_eq_true]
def cntR (pre:List Rs):Int:=match pre.find? isS with
 | some y=>y.vals.length
 | none=>-1
theorem cntR_snoc (pre:List Rs) (x:Rs):cntR (pre++[x])=if cntR pre<0∧isS x=true then (x.vals.length:Int) else cntR pre:=by
 unfold cntR
 rw[List.find?_append]
 cases h:pre.find? isS with
 | some y=>simp; omega
 | none=>cases h2:isS x<;>simp[h2]
theorem shapeE_eq (pre:List Rs) (x:Rs):shapeE pre x=(isS x && decide ((x.vals.length:Int)≠cntR (pre++[x]))):=by
 rw[cntR_snoc]
 unfold shapeE cntR
 cases h:pre.find? isS with
 | some y =>
  have:¬ ((y.vals.length:Int)<0):=by omega
  simp[this]
  cases isS x
  ·rfl
  ·by_cases q:x.vals.length=y.vals.length
   ·simp[q]
   ·have:¬ (x.vals.length:Int)=y.vals.length:=by omega
    simp[q,this]
 | none=>cases h2:isS x<;>simp
theorem L13_1:∀ (r pre:List Rs),(∀ x ∈ r,x.ok)→((pre++r).length:Int)<9223372036854775807 →
  execS P (limS P) c13_l1 ⟨[.c (.slice ((pre++r).map Rs.enc)),.c (ci (cntR pre)),.c (ci pre.length)],[]⟩=if eachE resE pre r=0 then some (.exit 0,⟨[],[]⟩) else some (.ret,⟨[.c (ci (eachE resE pre r))],[]⟩):=by
 intro r
 induction r with
 | nil =>
  intro pre hl h
  rw[r13_l1]
  simp[c13_l1b,eachE]
 | cons x r ih =>
  intro pre hl h
  have hx:=hl x (by simp)
  have ih:=ih (pre++[x]) (fun y hy=>hl y (by simp[hy])) (by simpa using h)
  have h0:=L13_0 (P:=P) (pre++x::r) x (ci (cntR pre)) pre [] r (by simp) h
  have e130:=S62 (P:=P) x hx.2.2
  have hsn:=cntR_snoc pre x
  have hsh:=shapeE_eq pre x
  have hS:isS x=decide (x.state=[]):=rfl
  have hE:eachE resE pre (x::r)=if resE pre x≠0 then resE pre x else eachE resE (pre++[x]) r:=rfl
  have hR:resE pre x=firstE [whenE (!isName x.who) 8,whenE (pre.any (isW x.who)) 9,chkR x,whenE (shapeE pre x) 2]:=by
   unfold resE chkR
   cases isName x.who<;>cases pre.any (isW x.who)<;>cases stateOk x.state<;>cases (!isS x && decide (0<x.vals.length))<;>cases decide (8<x.vals.length)<;>cases x.vals.any farI<;>cases shapeE pre x<;>rfl
  generalize cntR (pre++[x])=cn at *
  simp[Rs.enc,-List.any_eq_true] at ih h h0 e130
  have hw:IntKind.i64.wrap (↑pre.length+1)=↑pre.length+1:=wrap64 (by omega) (by omega)
  have hlt:(pre.length:Int)<pre.length+(r.length+1):=by omega
  rw[hE,r13_l1]
  cases q1:isName x.who
  ·simp[c13_l1b,hw,hlt,Rs.enc,hR,q1,whenE,firstE]
  ·cases q2:pre.any (isW x.who)
   ·rw[q2] at h0
    simp at h0
    by_cases q3:chkR x=0
    ·rw[q3] at e130
     rw[hsh,hS] at hR
     by_cases q4:x.state=[]
     ·by_cases q5:cntR pre<0
      ·rw[if_pos ⟨q5,by rw[hS,q4]; rfl⟩] at hsn
       subst hsn
       rw[q4] at hR h0 e130 ih
       simp[q1,q2,q3,whenE,firstE] at hR
       simp[c13_l1b,hw,hlt,Rs.enc,hR,q1,h0,e130,q4,q5,ih]
      ·rw[if_neg (fun z=>q5 z.1)] at hsn
       subst hsn
       rw[q4] at hR h0 e130 ih
       by_cases q6:(x.vals.length:Int)=cntR pre
       ·simp[q1,q2,q3,q6,whenE,firstE] at hR
        simp[c13_l1b,hw,hlt,Rs.enc,hR,q1,h0,e130,q4,q5,q6,ih]
       ·simp[q1,q2,q3,q6,whenE,firstE] at hR
        simp[c13_l1b,hw,hlt,Rs.enc,hR,q1,h0,e130,q4,q5,q6]
     ·rw[if_neg (fun z=>q4 (by have:=z.2; rw[hS] at this; simpa using this))] at hsn
      subst hsn
      simp[q1,q2,q3,q4,whenE,firstE] at hR
      simp[c13_l1b,hw,hlt,Rs.enc,hR,q1,h0,e130,q4,ih]
    ·simp[c13_l1b,hw,hlt,Rs.enc,hR,q1,q2,q3,h0,e130,whenE,firstE]
   ·rw[q2] at h0
    simp at h0
    simp[c13_l1b,hw,hlt,Rs.enc,hR,q1,q2,h0,whenE,firstE]
theorem S13 (l:List Rs) (hl:∀ x ∈ l,x.ok) (h:(l.length:Int)<9223372036854775807):fn P 13 [.slice (l.map Rs.enc)]=some (ci (resultsE l)):=by
 have hL:=L13_1 (P:=P) l [] hl (by simpa using h)
 have e0:cntR [] = -1:=rfl
 simp[e0] at hL
 rw[u13]
 unfold resultsE
 by_cases hm:(l.length:Int) > 160
 ·have hm' : (160:Int)<(l.length:Int):=hm
  simp[c13,hm']
 ·have hm' : ¬ (160:Int)<(l.length:Int):=hm
  simp[c13,hm',hL]
  by_cases h0:eachE resE [] l=0<;>simp[h0]
end LM.GZ
namespace LM.GZ
open Go LM
variable {P:Nat→Option SFunc} [Has P]
def CellOk {α:Type} (enc:α→CV):Prop:=∀ x,Elem none (enc x)
theorem CellOk.cells {α:Type} {enc:α→CV} (h:CellOk enc) (x:α):CV.cells (enc x)=[enc x]:=(h x).1
theorem CellOk.flat {α:Type} {enc:α→CV} (h:CellOk enc) (x:α):flatAll [LV.c (enc x)]=true:=by have:=(h x).2; simpa[flatAll] using this
def ltC {α:Type} (c:α→α→Int) (x y:α):Bool:=decide (c x y<0)
variable {α:Type} {enc:α→CV} {f:Nat} {B:List CV} {c:α→α→Int} {H:Heap} {b g:Nat} {cp:Option Nat}
theorem take_set (X:LB):List.take H.length (H.set b X)=H.set b X:=List.take_of_length_le (by simp)
end LM.GZ
namespace LM.GZ
open Go LM
variable {P:Nat→Option SFunc} [Has P]
def cel3 (x:Rs):List LV:=[.c (.str x.who),.c (.str x.state),.c (.slice (x.vals.map ci))]
def cR (xs:List Rs):List LV:=xs.flatMap cel3
theorem cR_length (xs:List Rs):(cR xs).length=xs.length*3:=by
 induction xs with
 | nil=>rfl
 | cons x r ih=>simp[cR,cel3] at ih ⊢; omega
theorem cR_append (xs ys:List Rs):cR (xs++ys)=cR xs++cR ys:=by simp[cR]
theorem cR_cons (x:Rs) (ys:List Rs):cR (x::ys)=cel3 x++cR ys:=by simp[cR]
theorem cellsOf_rs (xs:List Rs):cellsOf (xs.map Rs.enc)=cR xs:=by
 induction xs with
 | nil=>rfl
 | cons x r ih =>
  have:cellsOf ((x::r).map Rs.enc)=cel3 x++cellsOf (r.map Rs.enc):=rfl
  rw[this,ih]
  rfl
theorem under_cR (n:Nat) (xs:List Rs):underL n (cR xs)=true:=by rw[← cellsOf_rs]; exact underL_cellsOf _ _
theorem cR_load {Pr Po:List Rs} {x:Rs} {W:List LV} {k:Nat} (h:k=Pr.length):((cR (Pr++x::Po)++W).drop (k*3)).take 3=cel3 x:=by
 subst h
 rw[cR_append,cR_cons,List.append_assoc,List.drop_left' (by rw[cR_length])]
 simp[cel3]
theorem cR_store {Pr Po:List Rs} {x y:Rs} {W:List LV} {k:Nat} (h:k=Pr.length):setCells (cR (Pr++x::Po)++W) (k*3) (cel3 y)=cR (Pr++y::Po)++W:=by
 subst h
 have e1:cR (Pr++x::Po)++W=cR Pr++(.c (.str x.who)::.c (.str x.state)::.c (.slice (x.vals.map ci))::(cR Po++W)):=by rw[cR_append,cR_cons]; simp[cel3]
 have e2:cR (Pr++y::Po)++W=cR Pr++(.c (.str y.who)::.c (.str y.state)::.c (.slice (y.vals.map ci))::(cR Po++W)):=by rw[cR_append,cR_cons]; simp[cel3]
 rw[e1,e2]
 simp only[setCells,cel3]
 have hl:=cR_length Pr
 rw[List.set_append_right _ _ (by omega),List.set_append_right _ _ (by omega),List.set_append_right _ _ (by omega),hl]
 have a1:Pr.length*3-Pr.length*3=0:=by omega
 have a2:Pr.length*3+1-Pr.length*3=1:=by omega
 have a3:Pr.length*3+1+1-Pr.length*3=2:=by omega
 simp only[a1,a2,a3,List.set_cons_zero,List.set_cons_succ]
def Rs.vok (x:Rs):Prop:=(x.vals.length:Int)<9223372036854775807
def CmpR (P:Nat→Option SFunc) (f:Nat) (B:List CV) (c:Rs→Rs→Int):Prop :=
 ∀ (pos:Option Nat) (q:Bool) (x y:Rs) (h:Heap),x.vok→y.vok→callS P (limS P) pos q f (.c x.enc::.c y.enc::B.map .c) h=some (.c (ci (c x y)),h)
variable {f:Nat} {B:List CV} {c:Rs→Rs→Int} {H:Heap} {b g:Nat} {cp:Option Nat} {W:List LV}
theorem L211_0 (hC:CmpR P f B c) (hb:b<H.length) (hg:g≠0) (A:List Rs) (a bb i:Int) (ha:a=A.length) (n:Nat) (hn:n<1000000):∀ (L:List Rs) (x:Rs) (Q:List Rs),x.vok→(∀ y ∈ L,y.vok)→n=A.length+L.length+1+Q.length →
  execS P (limS P) c211_l0 ⟨[.slice b g 0 n (some 3) cp,.c (ci a),.c (ci bb),.c (.func f [] B),.c (ci i),.c (ci (A.length+L.length))],H.set b (.cells g (cR (A++L.reverse++x::Q)++W) 0)⟩ =
   some (.exit 2,⟨[.slice b g 0 n (some 3) cp,.c (ci a),.c (ci bb),.c (.func f [] B),.c (ci i)],H.set b (.cells g (cR (A++insL (ltC c) x L Q)++W) 0)⟩):=by
 subst ha
 intro L
 induction L with
 | nil =>
  intro x Q hvx hvL h
  rw[r211_l0]
  simp[c211_l0b,insL]
 | cons y L ih =>
  intro x Q hvx hvL h
  have ih:=ih x (y::Q) hvx (fun z hz=>hvL z (by simp[hz])) (by simp at h ⊢; omega)
  simp at h
  have hlt:(A.length:Int)<A.length+(L.length+1):=by omega
  have hw:IntKind.i64.wrap ((A.length:Int)+(L.length+1)-1)=A.length+L.length:=by
   rw[show (A.length:Int)+(L.length+1)-1=A.length+L.length from by omega]; exact wrap64 (by omega) (by omega)
  have t1:((A.length:Int)+(L.length+1)).toNat=A.length+(L.length+1):=by omega
  have t2:((A.length:Int)+L.length).toNat=A.length+L.length:=by omega
  have i1:(A.length:Int)+(L.length+1)<n:=by omega
  have i2:(A.length:Int)+L.length<n:=by omega
  have j1:0≤(A.length:Int)+(L.length+1):=by omega
  have j2:0≤(A.length:Int)+L.length:=by omega
  have e:A++(y::L).reverse++x::Q=(A++L.reverse)++y::(x::Q):=by simp
  have e' : (A++L.reverse)++y::(x::Q)=(A++L.reverse++[y])++x::Q:=by simp
  have e3:(A++L.reverse)++y::(y::Q)=(A++L.reverse++[y])++y::Q:=by simp
  have e4:A++L.reverse++x::(y::Q)=(A++L.reverse)++x::(y::Q):=rfl
  have g1:=cR_load (Pr:=A++L.reverse) (x:=y) (Po:=x::Q) (W:=W) (k:=A.length+L.length) (by simp)
  have g2:((cR ((A++L.reverse)++y::(x::Q))++W).drop ((A.length+(L.length+1))*3)).take 3=cel3 x:=by rw[e']; exact cR_load (by simp)
  have s1:setCells (cR ((A++L.reverse)++y::(x::Q))++W) ((A.length+(L.length+1))*3) (cel3 y)=cR ((A++L.reverse)++y::(y::Q))++W:=by rw[e',e3]; exact cR_store (by simp)
  have s2:=cR_store (Pr:=A++L.reverse) (x:=y) (y:=x) (Po:=y::Q) (W:=W) (k:=A.length+L.length) (by simp)
  have l1:(cR ((A++L.reverse)++y::(x::Q))++W).length=n*3+W.length:=by rw[List.length_append,cR_length]; simp; omega
  have l2:(cR ((A++L.reverse)++y::(y::Q))++W).length=n*3+W.length:=by rw[List.length_append,cR_length]; simp; omega
  have k1:(A.length+(L.length+1))*3+3≤n*3+W.length:=by omega
  have k2:(A.length+L.length)*3+3≤n*3+W.length:=by omega
  have p1:3≤n*3+W.length-(A.length+(L.length+1))*3:=by omega
  have p2:3≤n*3+W.length-(A.length+L.length)*3:=by omega
  have hc:=fun pos q h=>hC pos q x y h hvx (hvL y (by simp))
  rw[e]
  rw[r211_l0]
  simp only[insL]
  rw[e4] at ih
  have hD1:cR (A++(L.reverse++y::x::Q))++W=cR ((A++L.reverse)++y::(x::Q))++W:=by simp
  generalize cR ((A++L.reverse)++y::(x::Q))++W=D1 at *
  generalize cR ((A++L.reverse)++y::(y::Q))++W=D2 at *
  generalize cR ((A++L.reverse)++x::(y::Q))++W=D3 at *
  simp only[cel3,Rs.enc] at g1 g2 s1 s2 hc
  by_cases hk:c x y<0
  ·have hl:ltC c x y=true:=decide_eq_true hk
   simp[c211_l0b,hb,hlt,hw,t1,t2,i1,i2,j1,j2,g1,g2,s1,s2,l1,l2,hc,hk,hl,take_set,k1,k2,p1,p2,ih]
  ·have hl:ltC c x y=false:=decide_eq_false hk
   simp[c211_l0b,hb,hlt,hw,t1,t2,i1,i2,j1,j2,g1,g2,l1,hc,hk,hl,take_set,k1,k2,p1,p2,hD1]
theorem L211_1 (hC:CmpR P f B c) (hb:b<H.length) (hg:g≠0) (A T:List Rs) (n:Nat) (hn:n<1000000) (bb:Int):∀ (U S:List Rs),(∀ y ∈ S++U,y.vok)→n=A.length+S.length+U.length+T.length→bb=A.length+S.length+U.length →
  execS P (limS P) c211_l1 ⟨[.slice b g 0 n (some 3) cp,.c (ci A.length),.c (ci bb),.c (.func f [] B),.c (ci (A.length+S.length))],H.set b (.cells g (cR (A++(S++(U++T)))++W) 0)⟩ =
   some (.exit 0,⟨[],H.set b (.cells g (cR (A++(sortI (ltC c) S U++T))++W) 0)⟩):=by
 intro U
 induction U with
 | nil =>
  intro S hv h1 h2
  have hlt:¬ (A.length:Int)+S.length<bb:=by simp at h2; omega
  rw[r211_l1]
  simp[c211_l1b,hlt,sortI]
 | cons x U ih =>
  intro S hv h1 h2
  have ih:=ih (insS (ltC c) x S) (fun y hy=>by
   rcases List.mem_append.1 hy with q | q
   ·rcases List.mem_cons.1 ((insS_perm x S).mem_iff.1 q) with rfl | q
    ·exact hv y (by simp)
    ·exact hv y (by simp[q])
   ·exact hv y (by simp[q])) (by rw[insS_length]; simp at h1 ⊢; omega) (by rw[insS_length]; simp at h2 ⊢; omega)
  have hin:=L211_0 (P:=P) (cp:=cp) (W:=W) hC hb hg A A.length bb (A.length+S.length) rfl n hn S.reverse x (U++T) (hv x (by simp)) (fun y hy=>hv y (by simp at hy; simp[hy])) (by simp at h1 ⊢; omega)
  have e:insL (ltC c) x S.reverse (U++T)=insS (ltC c) x S++(U++T):=insL_append x S.reverse [] (U++T)
  rw[e] at hin
  rw[insS_length] at ih
  simp at hin ih h1 h2
  have hlt:(A.length:Int)+S.length<bb:=by omega
  have hw:IntKind.i64.wrap ((A.length:Int)+S.length+1)=(A.length:Int)+(S.length+1):=by
   rw[Int.add_assoc]; exact wrap64 (by omega) (by omega)
  rw[r211_l1]
  simp only[sortI]
  simp[c211_l1b,hlt,hin,hw,hb,take_set,ih]
theorem S211 (hC:CmpR P f B c) (hb:b<H.length) (hg:g≠0) (U:List Rs) (hv:∀ y ∈ U,y.vok) (n:Nat) (hn:n<1000000) (h:n=U.length) :
  sfn P 211 [.slice b g 0 n (some 3) cp,.c (ci 0),.c (ci n),.c (.func f [] B)] (H.set b (.cells g (cR U++W) 0))=some (.c (.tuple []),H.set b (.cells g (cR (sortI (ltC c) [] U)++W) 0)):=by
 have hw:IntKind.i64.wrap (0+1)=1:=rfl
 have hw1:IntKind.i64.wrap 1=1:=rfl
 rw[u211]
 cases U with
 | nil =>
  have h0:n=0:=by simpa using h
  subst h0
  have hL:execS P (limS P) c211_l1 ⟨[.slice b g 0 0 (some 3) cp,.c (ci 0),.c (ci 0),.c (.func f [] B),.c (ci 1)],H.set b (.cells g (cR []++W) 0)⟩=some (.exit 0,⟨[],H.set b (.cells g (cR []++W) 0)⟩):=by
   rw[r211_l1]
   simp[c211_l1b]
  simp[c211,hw1,hL,sortI]
 | cons x U =>
  have hL:=L211_1 (P:=P) (cp:=cp) (W:=W) hC hb hg [] [] n hn n U [x] (by simpa using hv) (by simp at h ⊢; omega) (by simp at h ⊢; omega)
  have e:insS (ltC c) x []=[x]:=rfl
  simp at hL
  simp[c211,hw1,hL,sortI,e]
theorem S187 (hC:CmpR P f B c) (hb:b<H.length) (hg:g≠0) (xs:List Rs) (hv:∀ y ∈ xs,y.vok) (n:Nat) (hn:n<20) (h:n=xs.length) :
  sfn P 187 [.slice b g 0 n (some 3) cp,.c (ci n),.c (.func f [] B)] (H.set b (.cells g (cR xs++W) 0))=some (.c (.tuple []),H.set b (.cells g (cR (sortI (ltC c) [] xs)++W) 0)):=by
 have hs:=S211 (P:=P) (cp:=cp) (W:=W) hC hb hg xs hv n (by omega) h
 have h1:¬ (20:Int)≤n:=by omega
 have h2:¬ (20:Int)<n:=by omega
 have l0:∀ E,execS P (limS P) c187_l0 ⟨[.slice b g 0 n (some 3) cp,.c (ci n),.c (.func f [] B),.c (ci 20),.c (ci 0),.c (ci 20)],E⟩=some (.exit 0,⟨[.slice b g 0 n (some 3) cp,.c (ci n),.c (.func f [] B),.c (ci 20),.c (ci 0)],E⟩):=by
  intro E
  rw[r187_l0]
  simp[c187_l0b,h1]
 have l2:∀ E,execS P (limS P) c187_l2 ⟨[.slice b g 0 n (some 3) cp,.c (ci n),.c (.func f [] B),.c (ci 20)],E⟩=some (.exit 2,⟨[],E⟩):=by
  intro E
  rw[r187_l2]
  simp[c187_l2b,h2]
 rw[u187]
 simp[c187,l0,l2,hs,hb,take_set,frzFuncs_nil,frzFuncs_c,frzFuncs_slice]
theorem S136 (hC:CmpR P f B c) (hb:b<H.length) (hg:g≠0) (xs:List Rs) (hv:∀ y ∈ xs,y.vok) (n:Nat) (hn:n<20) (h:n=xs.length) :
  sfn P 136 [.slice b g 0 n (some 3) cp,.c (.func f [] B)] (H.set b (.cells g (cR xs++W) 0))=some (.c (.tuple []),H.set b (.cells g (cR (sortI (ltC c) [] xs)++W) 0)):=by
 have hs:=S187 (P:=P) (cp:=cp) (W:=W) hC hb hg xs hv n hn h
 rw[u136]
 simp[c136,hs,hb,take_set,frzFuncs_nil,frzFuncs_c,frzFuncs_slice]
end LM.GZ
namespace LM.GZ
open Go LM
variable {P:Nat→Option SFunc} [Has P]
variable {f:Nat} {B:List CV} {p:Rs→Bool} {H:Heap} {b g:Nat} {cp:Option Nat} {W:List LV}
theorem cR_bound {Pr Po:List Rs} {x:Rs}:(Pr.length)*3+3≤(cR (Pr++x::Po)).length∧3≤(cR (Pr++x::Po)).length-Pr.length*3:=by
 rw[cR_length]; simp; omega
theorem L160l (hp:PredOk P f B p) (hb:b<H.length) (hg:g≠0) (n:Nat) (hn:n<1000000):∀ (l pre:List Rs),n=(pre++l).length →
  execS P (limS P) c164_l0 ⟨[.slice b g 0 n (some 3) cp,.c (.func f [] B),.c (ci n),.c (ci pre.length)],H.set b (.cells g (cR (pre++l)) 0)⟩=if l.any p then some (.ret,⟨[.c (ci (idxP p pre.length l))],H.set b (.cells g (cR (pre++l)) 0)⟩) else some (.exit 0,⟨[],H.set b (.cells g (cR (pre++l)) 0)⟩):=by
 intro l
 induction l with
 | nil =>
  intro pre h
  have:(pre.length:Int)=n:=by simp at h; omega
  rw[r164_l0]
  simp[c164_l0b,this]
 | cons x r ih =>
  intro pre h
  have ih:=ih (pre++[x]) (by simpa using h)
  have hc:=fun pos q h=>hp pos q x h
  have g1:=cR_load (Pr:=pre) (x:=x) (Po:=r) (W:=[]) (k:=pre.length) rfl
  have g2:=cR_bound (Pr:=pre) (x:=x) (Po:=r)
  rw[List.append_nil] at g1
  have e:pre++[x]++r=pre++x::r:=by simp
  rw[e] at ih
  simp at h
  have hw:IntKind.i64.wrap (↑pre.length+1)=↑pre.length+1:=wrap64 (by omega) (by omega)
  have hlt:(pre.length:Int)<n:=by omega
  generalize cR (pre++x::r)=D at *
  simp[-List.any_eq_true] at ih
  simp only[cel3,Rs.enc] at g1 hc
  rw[r164_l0]
  cases h0:p x
  ·simp only[h0] at hc
   simp[c164_l0b,hw,hlt,hb,g1,g2,hc,idxP,h0,take_set,ih,-List.any_eq_true]
  ·simp only[h0] at hc
   simp[c164_l0b,hw,hlt,hb,g1,g2,hc,idxP,h0,-List.any_eq_true]
theorem S160l (hp:PredOk P f B p) (hb:b<H.length) (hg:g≠0) (l:List Rs) (hn:l.length<1000000):sfn P 164 [.slice b g 0 l.length (some 3) cp,.c (.func f [] B)] (H.set b (.cells g (cR l) 0))=some (.c (ci (idxP p 0 l)),H.set b (.cells g (cR l) 0)):=by
 have hl:=L160l (P:=P) (cp:=cp) hp hb hg l.length hn l [] rfl
 simp[-List.any_eq_true] at hl
 rw[u164]
 cases h0:l.any p
 ·rw[h0] at hl
  simp[c164,hl,idxP_none h0]
 ·rw[h0] at hl
  simp[c164,hl]
theorem L98 (hp:PredOk P f B p) (hb:b<H.length) (hg:g≠0) (hU:∀ D:List LV,underL H.length D=true→underB H.length (H.set b (.cells g D 0))=true) (n:Nat) (hn:n<1000000):∀ (R K M:List Rs) (hM:M≠[]),n=K.length+M.length+R.length →
  ∃ M',K.length+(R.filter (fun x=>!p x)).length+M'.length=n∧execS P (limS P) c98_l0 ⟨[.slice b g 0 n (some 3) cp,.c (.func f [] B),.c (ci K.length),.c (ci (K.length+M.length))],H.set b (.cells g (cR (K++(M++R))) 0)⟩ =
   some (.exit 0,⟨[.slice b g 0 n (some 3) cp,.c (ci (K++R.filter (fun x=>!p x)).length)],H.set b (.cells g (cR ((K++R.filter (fun x=>!p x))++M')) 0)⟩):=by
 intro R
 induction R with
 | nil =>
  intro K M hM h
  refine⟨M,by simp at h ⊢; omega,?_⟩
  have hlt:¬ (K.length:Int)+M.length<n:=by simp at h; omega
  rw[r98_l0]
  simp[c98_l0b,hlt]
 | cons x R ih =>
  intro K M hM h
  simp at h
  have hw:IntKind.i64.wrap ((K.length:Int)+M.length+1)=(K.length:Int)+M.length+1:=wrap64 (by omega) (by omega)
  have hw2:IntKind.i64.wrap ((K.length:Int)+1)=(K.length:Int)+1:=wrap64 (by omega) (by omega)
  have hlt:(K.length:Int)+M.length<n:=by omega
  have j1:0≤(K.length:Int)+M.length:=by omega
  have t1:((K.length:Int)+M.length).toNat=K.length+M.length:=by omega
  have e1:K++(M++x::R)=(K++M)++x::R:=by simp
  have g1:=cR_load (Pr:=K++M) (x:=x) (Po:=R) (W:=[]) (k:=K.length+M.length) (by simp)
  have g2:=cR_bound (Pr:=K++M) (x:=x) (Po:=R)
  rw[List.append_nil] at g1
  rw[← e1] at g1 g2
  simp only[List.length_append] at g2
  have hc:=fun pos q h=>hp pos q x h
  cases h0:p x
  ·cases M with
   | nil=>exact absurd rfl hM
   | cons m M =>
    have s1:=cR_store (Pr:=K) (x:=m) (y:=x) (Po:=M++x::R) (W:=[]) (k:=K.length) rfl
    simp only[List.append_nil] at s1
    have e2:K++((m::M)++x::R)=K++m::(M++x::R):=rfl
    obtain⟨M',i1,i2⟩:=ih (K++[x]) (M++[x]) (by simp) (by simp at h ⊢; omega)
    refine⟨M',by simp[h0] at i1 ⊢; omega,?_⟩
    have e3:K++x::(M++x::R)=(K++[x])++((M++[x])++R):=by simp
    rw[e3] at s1
    have hf:(x::R).filter (fun x=>!p x)=x::R.filter (fun x=>!p x):=by simp[h0]
    have hl:(cR (K++((m::M)++x::R))).length=n*3:=by rw[cR_length]; simp at h ⊢; omega
    have hl2:(cR ((K++[x])++((M++[x])++R))).length=n*3:=by rw[cR_length]; simp at h ⊢; omega
    rw[hl] at g2
    rw[← e2] at s1
    have hu:=hU _ (under_cR H.length ((K++[x])++((M++[x])++R)))
    have hKn:(K.length:Int)<n:=by simp at h; omega
    have k1:K.length*3+3≤n*3:=by simp at h; omega
    have e5:(K++[x])++R.filter (fun x=>!p x)=K++x::R.filter (fun x=>!p x):=by simp
    rw[e5] at i2
    rw[hf]
    simp only[h0] at hc
    generalize cR (K++((m::M)++x::R))=D1 at *
    generalize cR ((K++[x])++((M++[x])++R))=D2 at *
    generalize cR (K++x::R.filter (fun x=>!p x)++M')=D3 at *
    simp only[cel3,Rs.enc] at g1 hc s1
    have hget:∀ X Y:LB,(H.set b X++[Y])[b]? = some X:=fun X Y=>by rw[List.getElem?_append_left (by simpa using hb)]; simp[hb]
    simp only[setCells] at s1
    rw[r98_l0]
    simp at i2 hw hlt j1 t1 g1 g2 ⊢
    have e6:(K.length:Int)+1+(M.length+1)=K.length+(M.length+1)+1:=by omega
    rw[e6] at i2
    simp[c98_l0b,hw,hw2,hlt,j1,t1,hb,g1,g2,s1,hl,hl2,hc,hKn,k1,take_set,hu,hget,i2]
  ·obtain⟨M',i1,i2⟩:=ih K (M++[x]) (by simp) (by simp at h ⊢; omega)
   have hf:(x::R).filter (fun x=>!p x)=R.filter (fun x=>!p x):=by simp[h0]
   rw[hf]
   refine⟨M',i1,?_⟩
   have e3:K++((M++[x])++R)=K++(M++x::R):=by simp
   rw[e3] at i2
   have hl:(cR (K++(M++x::R))).length=n*3:=by rw[cR_length]; simp; omega
   rw[hl] at g2
   have hu:=hU _ (under_cR H.length (K++(M++x::R)))
   simp only[h0] at hc
   generalize cR (K++(M++x::R))=D1 at *
   generalize cR (K++R.filter (fun x=>!p x)++M')=D3 at *
   simp only[cel3,Rs.enc] at g1 hc
   have hget:∀ X Y:LB,(H.set b X++[Y])[b]? = some X:=fun X Y=>by rw[List.getElem?_append_left (by simpa using hb)]; simp[hb]
   rw[r98_l0]
   simp at i2 ⊢
   have e6:(K.length:Int)+(M.length+1)=K.length+M.length+1:=by omega
   rw[e6] at i2
   simp[c98_l0b,hw,hlt,j1,t1,hb,g1,g2,hl,hc,take_set,hu,hget,i2]
end LM.GZ
namespace LM.GZ
open Go LM
variable {P:Nat→Option SFunc} [Has P]
variable {f:Nat} {B:List CV} {p:Rs→Bool} {H:Heap} {b g:Nat} {cp:Option Nat} {W:List LV}
theorem filter_split {p:Rs→Bool}:∀ {xs:List Rs},xs.any p=true→∃ K m R,xs=K++m::R∧idxP p 0 xs=(K.length:Nat)∧xs.filter (fun x=>!p x)=K++R.filter (fun x=>!p x):=by
 have key:∀ (xs:List Rs) (n:Nat),xs.any p=true→∃ K m R,xs=K++m::R∧idxP p n xs=((n+K.length:Nat):Int)∧xs.filter (fun x=>!p x)=K++R.filter (fun x=>!p x):=by
  intro xs
  induction xs with
  | nil=>intro n h; simp at h
  | cons x r ih =>
   intro n h
   cases h0:p x
   ·obtain⟨K,m,R,e1,e2,e3⟩:=ih (n+1) (by simpa[h0] using h)
    refine⟨x::K,m,R,by rw[e1]; rfl,?_,by simp[h0,e3]⟩
    rw[idxP,if_neg (by simp[h0]),e2]
    congr 1
    simp
    omega
   ·exact⟨[],x,r,rfl,by rw[idxP,if_pos h0]; simp,by simp[h0]⟩
 intro xs h
 obtain⟨K,m,R,e1,e2,e3⟩:=key xs 0 h
 exact⟨K,m,R,e1,by rw[e2]; simp,e3⟩
theorem set_all:∀ (Z A C:List LV),Z.length=C.length→setCells (A++C) A.length Z=A++Z
 | [],A,C,h=>by
  have:C=[]:=List.eq_nil_of_length_eq_zero h.symm
  subst this
  rfl
 | z::Z,A,[],h=>by simp at h
 | z::Z,A,c::C,h=>by
  have ih:=set_all Z (A++[z]) C (by simpa using h)
  have e:(A++c::C).set A.length z=(A++[z])++C:=by simp
  rw[setCells,e]
  simpa using ih
theorem repeatL_len (z:List LV):∀ n,(repeatL n z).length=n*z.length
 | 0=>by simp[repeatL]
 | n+1=>by
  have:=repeatL_len z n
  have e:repeatL (n+1) z=z++repeatL n z:=by simp[repeatL,List.replicate_succ]
  rw[e,List.length_append,this,Nat.add_mul]
  omega
theorem under_repeat (m:Nat) (z:List LV) (h:underL m z=true):∀ n,underL m (repeatL n z)=true
 | 0=>rfl
 | n+1=>by
  have:=under_repeat m z h n
  have e:repeatL (n+1) z=z++repeatL n z:=by simp[repeatL,List.replicate_succ]
  rw[e,underL_append,h,this]
  rfl
theorem S98 (hp:PredOk P f B p) (hb:b<H.length) (hg:g≠0) (hU:∀ D:List LV,underL (H.length+1) D=true→underB (H.length+1) ((H++[LB.cells 1 [] 0]).set b (.cells g D 0))=true) (xs:List Rs) (hn:xs.length<1000000) :
  ∃ W cp',(∀ m,underL m W=true)∧sfn P 98 [.slice b g 0 xs.length (some 3) none,.c (.func f [] B)] (H.set b (.cells g (cR xs) 0))=some (.slice b g 0 (xs.filter (fun x=>!p x)).length (some 3) cp',(H++[LB.cells 1 [] 0]).set b (.cells g (cR (xs.filter (fun x=>!p x))++W) 0)):=by
 have hs:∀ X,H.set b X++[LB.cells 1 [] 0]=(H++[LB.cells 1 [] 0]).set b X:=fun X=>(List.set_append_left _ _ hb).symm
 have hb1:b<(H++[LB.cells 1 [] 0]).length:=by simp; omega
 have e160:=S160l (P:=P) (cp:=none) hp hb1 hg xs hn
 cases hq:xs.any p
 ·have hf:xs.filter (fun x=>!p x)=xs:=by
   rw[List.filter_eq_self]
   intro x hx
   have:=List.any_eq_false.1 hq x hx
   simpa using this
  refine⟨[],none,fun _=>rfl,?_⟩
  rw[hf,u98]
  rw[idxP_none hq] at e160
  simp[c98,hs,frzFuncs_nil,frzFuncs_c,frzFuncs_slice,e160]
 ·obtain⟨K,m,R,e1,e2,e3⟩:=filter_split hq
  rw[e2] at e160
  obtain⟨M',i1,i2⟩:=L98 (P:=P) (H:=H++[LB.cells 1 [] 0]) (cp:=none) hp hb1 hg (by simpa using hU) xs.length hn R K [m] (by simp) (by rw[e1]; simp; omega)
  have e4:K++([m]++R)=xs:=by rw[e1]; simp
  rw[e4,← e3] at i2
  have hFl:(xs.filter (fun x=>!p x)).length=K.length+(R.filter (fun x=>!p x)).length:=by rw[e3]; simp
  rw[← hFl] at i1
  have hlt:(xs.filter (fun x=>!p x)).length<xs.length:=by
   rw[hFl,e1]
   have:=List.length_filter_le (fun x=>!p x) R
   simp
   omega
  have hKx:K.length<xs.length:=by rw[e1]; simp
  generalize xs.filter (fun x=>!p x)=F at *
  refine⟨repeatL M'.length [LV.c (.str []),LV.c (.str []),LV.nil],none,fun m=>under_repeat m _ rfl _,?_⟩
  have hset:=set_all (repeatL M'.length [LV.c (.str []),LV.c (.str []),LV.nil]) (cR F) (cR M') (by rw[repeatL_len,cR_length]; simp)
  rw[← cR_append,cR_length] at hset
  have hcl:(cR (F++M')).length=xs.length*3:=by rw[cR_length]; simp; omega
  have hd:xs.length-F.length=M'.length:=by omega
  have q1:(F.length:Int)≤xs.length:=by omega
  have q2:F.length≤xs.length:=by omega
  have q3:¬ M'.length=0:=by omega
  have q4:F.length*3+M'.length*3≤xs.length*3:=by omega
  have q5:¬ (K.length:Int) = -1:=by omega
  have hw:IntKind.i64.wrap ((K.length:Int)+1)=(K.length:Int)+1:=wrap64 (by omega) (by omega)
  have hZ:(List.replicate M'.length [LV.c (.str []),LV.c (.str []),LV.nil]).flatten=repeatL M'.length [LV.c (.str []),LV.c (.str []),LV.nil]:=rfl
  generalize cR (F++M')=D1 at *
  generalize cR F=D2 at *
  generalize repeatL M'.length [LV.c (.str []),LV.c (.str []),LV.nil]=Z at *
  have hs' : ∀ X,(H++[LB.cells 1 [] 0]).set b X=H.set b X++[LB.cells 1 [] 0]:=fun X=>(hs X).symm
  have hget:∀ X Y:LB,(H.set b X++[Y])[b]? = some X:=fun X Y=>by rw[List.getElem?_append_left (by simpa using hb)]; simp[hb]
  simp only[hs'] at i2 e160 ⊢
  simp at i2
  rw[u98]
  by_cases hF:F=[]
  ·have hF0:F.length=0:=by rw[hF]; rfl
   have hx0:¬ xs.length=0:=by omega
   have hx1:M'.length=xs.length:=by omega
   have hx2:¬ xs=[]:=fun q=>hx0 (by rw[q]; rfl)
   have hM0:¬ M'=[]:=fun q=>q3 (by rw[q]; rfl)
   rw[hF0] at hset
   simp at hset
   simp[c98,frzFuncs_nil,frzFuncs_c,frzFuncs_slice,e160,q5,hw,i2,q1,hb,hget,hF,hF0,hx0,hx2,hcl]
   rw[← hx1,hZ,hset]
  ·simp[c98,frzFuncs_nil,frzFuncs_c,frzFuncs_slice,e160,q5,hw,i2,q1,hb,hget,hF,hlt,hd,q3,q4,hcl]
   rw[hZ,hset]
end LM.GZ
namespace LM.GZ
open Go LM
variable {P:Nat→Option SFunc} [Has P]
def cmpJ (a b:Int):Int:=if a<b then -1 else if b<a then 1 else 0
theorem S96j (a b:Int):fn P 60 [ci a,ci b]=some (ci (cmpJ a b)):=by
 have e:∀ x:Int,fn P 133 [ci x]=some (.bool false):=fun x=>by rw[u133]; simp[c133]
 rw[u60]
 unfold cmpJ
 by_cases h1:a<b<;>by_cases h2:b<a<;>simp[c60,e,h1,h2]
theorem cmpJ_zero (a b:Int):cmpJ a b=0↔a=b:=by unfold cmpJ; (repeat' split)<;>omega
def cmpL:List Int→List Int→Int
 | [],[]=>0
 | [],_::_=>-1
 | _::_,[]=>1
 | a::x,b::y=>if a=b then cmpL x y else cmpJ a b
def loopC:List Int→List Int→Option Int
 | [],_=>none
 | _::_,[]=>some 1
 | a::x,b::y=>if a=b then loopC x y else some (cmpJ a b)
theorem cmpL_loop:∀ x y:List Int,cmpL x y=match loopC x y with
  | some v=>v
  | none=>if x.length<y.length then -1 else 0
 | [],[]=>rfl
 | [],b::y=>by simp[cmpL,loopC]
 | a::x,[]=>rfl
 | a::x,b::y=>by
  have ih:=cmpL_loop x y
  simp only[cmpL,loopC]
  by_cases h:a=b
  ·rw[if_pos h,if_pos h,ih]
   cases loopC x y<;>simp
  ·rw[if_neg h,if_neg h]
theorem L117:∀ (x y pa pb:List Int),pa.length=pb.length→((pa++x).length:Int)<9223372036854775807→((pb++y).length:Int)<9223372036854775807 →
  execS P (limS P) c117_l0 ⟨[.c (.slice ((pa++x).map ci)),.c (.slice ((pb++y).map ci)),.c (.slice ((pa++x).map ci)),.c (ci (pa++x).length),.c (ci pa.length)],[]⟩ =
   match loopC x y with
   | some v=>some (.ret,⟨[.c (ci v)],[]⟩)
   | none=>some (.exit 0,⟨[.c (.slice ((pa++x).map ci)),.c (.slice ((pb++y).map ci))],[]⟩):=by
 intro x
 induction x with
 | nil =>
  intro y pa pb hp h1 h2
  rw[r117_l0]
  simp[c117_l0b,loopC]
 | cons a x ih =>
  intro y pa pb hp h1 h2
  simp at h1 h2
  have hw:IntKind.i64.wrap (↑pa.length+1)=↑pa.length+1:=wrap64 (by omega) (by omega)
  have hlt:(pa.length:Int)<pa.length+(x.length+1):=by omega
  cases y with
  | nil =>
   have hge:(pb.length:Int)≤pa.length:=by omega
   rw[r117_l0]
   simp[c117_l0b,loopC,hlt,hge]
  | cons b y =>
   have ih:=ih y (pa++[a]) (pb++[b]) (by simp[hp]) (by simp; omega) (by simp at h2 ⊢; omega)
   have e96:=S96j (P:=P) a b
   simp at h2
   have hge:¬ (pb.length:Int)+(y.length+1)≤pa.length:=by omega
   have hlt2:(pa.length:Int)<pb.length+(y.length+1):=by omega
   have g1:(pb.map ci++ci b::y.map ci)[pa.length]? = some (ci b):=by rw[hp]; simp
   obtain⟨_,g1'⟩:=List.getElem?_eq_some_iff.1 g1
   simp at ih
   rw[r117_l0]
   simp only[loopC]
   by_cases h:a=b
   ·have e0:cmpJ a b=0:=(cmpJ_zero a b).2 h
    rw[e0] at e96
    rw[if_pos h]
    simp[c117_l0b,hw,hlt,hge,hlt2,g1,g1',e96,ih]
   ·have e0:¬ cmpJ a b=0:=fun q=>h ((cmpJ_zero a b).1 q)
    rw[if_neg h]
    simp[c117_l0b,hw,hlt,hge,hlt2,g1,g1',e96,e0]
theorem S117 (x y:List Int) (h1:(x.length:Int)<9223372036854775807) (h2:(y.length:Int)<9223372036854775807):fn P 117 [.slice (x.map ci),.slice (y.map ci)]=some (ci (cmpL x y)):=by
 have hL:=L117 (P:=P) x y [] [] rfl (by simpa using h1) (by simpa using h2)
 simp at hL
 rw[u117,cmpL_loop]
 cases h:loopC x y with
 | some v =>
  rw[h] at hL
  simp at hL
  simp[c117,hL]
 | none =>
  rw[h] at hL
  simp at hL
  by_cases hl:x.length<y.length
  ·simp[c117,hL,hl]
  ·simp[c117,hL,hl]
theorem L138:∀ (x y pa pb:List Int),pa.length=pb.length→x.length=y.length→((pa++x).length:Int)<9223372036854775807 →
  execS P (limS P) c138_l0 ⟨[.c (.slice ((pa++x).map ci)),.c (.slice ((pb++y).map ci)),.c (ci (pa++x).length),.c (ci pa.length)],[]⟩ =
   if x=y then some (.exit 0,⟨[],[]⟩) else some (.ret,⟨[.c (.bool false)],[]⟩):=by
 intro x
 induction x with
 | nil =>
  intro y pa pb hp hl h1
  have:y=[]:=List.eq_nil_of_length_eq_zero (by simpa using hl.symm)
  subst this
  rw[r138_l0]
  simp[c138_l0b]
 | cons a x ih =>
  intro y pa pb hp hl h1
  cases y with
  | nil=>simp at hl
  | cons b y =>
   have ih:=ih y (pa++[a]) (pb++[b]) (by simp[hp]) (by simpa using hl) (by simpa using h1)
   simp at h1 hl
   have hw:IntKind.i64.wrap (↑pa.length+1)=↑pa.length+1:=wrap64 (by omega) (by omega)
   have hlt:(pa.length:Int)<pa.length+(x.length+1):=by omega
   have hlt2:(pa.length:Int)<pb.length+(y.length+1):=by omega
   have g1:(pb.map ci++ci b::y.map ci)[pa.length]? = some (ci b):=by rw[hp]; simp
   obtain⟨_,g1'⟩:=List.getElem?_eq_some_iff.1 g1
   simp at ih
   rw[r138_l0]
   by_cases h:a=b
   ·subst h
    simp[c138_l0b,hw,hlt,hlt2,g1,g1',ih]
   ·simp[c138_l0b,hw,hlt,hlt2,g1,g1',h]
theorem S138 (x y:List Int) (h1:(x.length:Int)<9223372036854775807):fn P 138 [.slice (x.map ci),.slice (y.map ci)]=some (.bool (decide (x=y))):=by
 rw[u138]
 by_cases hl:x.length=y.length
 ·have hL:=L138 (P:=P) x y [] [] rfl hl (by simpa using h1)
  simp at hL
  have hl' : (x.length:Int)=y.length:=by omega
  by_cases h:x=y
  ·rw[if_pos h] at hL
   subst h
   simp[c138,hL]
  ·rw[if_neg h,hl] at hL
   simp[c138,hl,hL,h]
 ·have h:¬ x=y:=fun q=>hl (by rw[q])
  have hl' : ¬ (x.length:Int)=y.length:=by omega
  simp[c138,hl',h]
def cmpRs (x y:Rs):Int:=cmpL y.vals x.vals
end LM.GZ
namespace LM.GZ
open Go LM
variable {P:Nat→Option SFunc} [Has P]
theorem cmp164:CmpR P 137 [] cmpRs:=by
 intro pos q x y h hx hy
 have e165:=S117 (P:=P) y.vals x.vals hy hx
 have e:fn P 137 [x.enc,y.enc]=some (ci (cmpRs x y)):=by
  rw[u137]
  simp[c137,Rs.enc,e165,cmpRs]
 simp[e]
def fwdR (quota:Int):Int→Int→Option Rs→List Rs→List Str
 | _,_,_,[]=>[]
 | i,rank,prev,x::r =>
  let rk:=match prev with
   | some y=>if x.vals=y.vals then rank else i+1
   | none=>i+1
  (if rk≤quota then [x.who] else [])++fwdR quota (i+1) rk (some x) r
def SW (ys:List Str):LB:=.cells (1+ys.length) (cellsOf (ys.map CV.str)) 0
theorem SW_under (n:Nat) (ys:List Str):(SW ys).under n=true:=by simp[SW,LB.under,underL_cellsOf]
theorem cR_get2 {Pr Po:List Rs} {y:Rs} {W:List LV} {k:Nat} (h:k=Pr.length):(cR (Pr++y::Po)++W)[k*3+2]? = some (.c (.slice (y.vals.map ci))):=by
 subst h
 have hl:=cR_length Pr
 rw[cR_append,cR_cons,List.append_assoc,List.getElem?_append_right (by omega),hl,show Pr.length*3+2-Pr.length*3=2 from by omega]
 rfl
theorem L65 (quota:Int) (s:List Rs) (hv:∀ y ∈ s,y.vok) (W:List LV) (hW:underL 4 W=true) (cp:Option Nat) (n:Nat) (hn:n=s.length) (hn2:n<1000):∀ (r pre:List Rs) (ys:List Str) (rank:Int),s=pre++r→ys.length≤pre.length→(∀ y,pre.getLast? = some y→True) →
  execS P (limS P) c65_l0 ⟨[.slice 1 1 0 n (some 3) cp,.c (ci quota),.slice 3 (1+ys.length) 0 ys.length none none,.c (ci rank),.slice 1 1 0 n (some 3) cp,.c (ci n),.c (ci pre.length)],[.cells 1 [] 0,.cells 1 (cR s++W) 0,.cells 1 [] 0,SW ys]⟩ =
   some (.exit 0,⟨[.slice 3 (1+(ys++fwdR quota pre.length rank pre.getLast? r).length) 0 (ys++fwdR quota pre.length rank pre.getLast? r).length none none],[.cells 1 [] 0,.cells 1 (cR s++W) 0,.cells 1 [] 0,SW (ys++fwdR quota pre.length rank pre.getLast? r)]⟩):=by
 intro r
 induction r with
 | nil =>
  intro pre ys rank hs hy _
  have:(pre.length:Int)=n:=by rw[hn,hs]; simp
  rw[r65_l0]
  simp[c65_l0b,this,fwdR]
 | cons x r ih =>
  intro pre ys rank hs hy _
  have hpl:pre.length<n:=by rw[hn,hs]; simp
  have hw:IntKind.i64.wrap ((pre.length:Int)+1)=(pre.length:Int)+1:=wrap64 (by omega) (by omega)
  have hlt:(pre.length:Int)<n:=by omega
  have hxv:=hv x (by rw[hs]; simp)
  have g1:=cR_load (Pr:=pre) (x:=x) (Po:=r) (W:=W) (k:=pre.length) rfl
  rw[← hs] at g1
  have hl:(cR s++W).length=n*3+W.length:=by rw[List.length_append,cR_length,hn]
  have p1:3≤n*3+W.length-pre.length*3:=by omega
  have p2:pre.length*3≤n*3+W.length:=by omega
  have hu:=underL_append 4 (cR s) W
  rw[under_cR,hW] at hu
  simp only[Bool.and_self] at hu
  have hyb:ys.length<1000:=by omega
  have ha:=fun X0 X1 X2 X4=>append_own (b:=3) (g:=1+ys.length) (bytes:=16) (e:=none) (ys:=ys.map CV.str) (xs:=[.str x.who]) (h:=[X0,X1,X2,SW ys,X4]) (len:=ys.length) (fz:=0) rfl (strElems _) (by simpa using strElem x.who) (by simp) (Nat.zero_le _) (by simp) (by simp; omega) (by simp; omega)
  have eS:LB.cells (1+ys.length+1) (cellsOf (ys.map CV.str++[CV.str x.who])) 0=SW (ys++[x.who]):=by simp[SW,Nat.add_assoc]
  simp at ha
  simp only[eS] at ha
  have hsu:=fun zs=>SW_under 4 zs
  unfold LB.under at hsu
  have ihA:=fun rk=>ih (pre++[x]) (ys++[x.who]) rk (by simp[hs]) (by simp; omega) (fun _ _=>trivial)
  have ihB:=fun rk=>ih (pre++[x]) ys rk (by simp[hs]) (by simp; omega) (fun _ _=>trivial)
  have e1:1+(ys.length+1)=1+ys.length+1:=by omega
  simp[e1] at ihA ihB
  rcases List.eq_nil_or_concat pre with hpre | ⟨pre',y,hpre⟩
  ·subst hpre
   simp only[List.length_nil] at *
   have hF:fwdR quota 0 rank none (x::r)=(if 1≤quota then [x.who] else [])++fwdR quota 1 1 (some x) r:=by simp[fwdR]
   simp[hF]
   generalize cR s++W=D at *
   simp only[cel3] at g1
   have w1:IntKind.i64.wrap 1=1:=rfl
   simp at g1 ihA ihB p1 hlt hw
   rw[r65_l0]
   by_cases hq:1≤quota
   ·simp[c65_l0b,hlt,hl,g1,p1,hq,w1,ha,hu,hsu,ihA]
    omega
   ·simp[c65_l0b,hlt,hl,g1,p1,hq,w1,hu,hsu,ihB]
  ·have hpl' : pre.length=pre'.length+1:=by rw[hpre]; simp
   have hlast:pre.getLast? = some y:=by rw[hpre]; simp
   have gy:(cR s++W)[pre'.length*3+2]? = some (.c (.slice (y.vals.map ci))):=by
    have:s=pre'++y::(x::r):=by rw[hs,hpre]; simp
    rw[this]
    exact cR_get2 rfl
   have e166:=S138 (P:=P) x.vals y.vals hxv
   rw[hlast]
   have hF:fwdR quota pre.length rank (some y) (x::r)=(if (if x.vals=y.vals then rank else (pre.length:Int)+1)≤quota then [x.who] else [])++fwdR quota (pre.length+1) (if x.vals=y.vals then rank else (pre.length:Int)+1) (some x) r:=rfl
   rw[hF]
   have n0:¬ (pre.length:Int)=0:=by omega
   have w1:IntKind.i64.wrap ((pre.length:Int)-1)=pre'.length:=by rw[show (pre.length:Int)-1=pre'.length from by omega]; exact wrap64 (by omega) (by omega)
   have hlt' : (pre'.length:Int)<n:=by omega
   have hpn:¬ pre=[]:=fun q=>by rw[q] at hpl'; simp at hpl'
   generalize cR s++W=D at *
   simp only[cel3] at g1
   obtain⟨gy1,gy2⟩:=List.getElem?_eq_some_iff.1 gy
   rw[r65_l0]
   by_cases hv:x.vals=y.vals
   ·have e166' : fn P 138 [.slice (x.vals.map ci),.slice (y.vals.map ci)]=some (.bool true):=by rw[e166]; simp[hv]
    by_cases hq:rank≤quota
    ·simp[hv,hq]
     simp[c65_l0b,hlt,hl,g1,p1,n0,hpn,w1,hlt',gy,gy2,e166',hq,hw,ha,hu,hsu,ihA]
    ·simp[hv,hq]
     simp[c65_l0b,hlt,hl,g1,p1,n0,hpn,w1,hlt',gy,gy2,e166',hq,hw,hu,hsu,ihB]
   ·rw[decide_eq_false hv] at e166
    by_cases hq:(pre.length:Int)+1≤quota
    ·simp[hv,hq]
     simp[c65_l0b,hlt,hl,g1,p1,n0,hpn,w1,hlt',gy,gy2,e166,hq,hw,ha,hu,hsu,ihA]
    ·simp[hv,hq]
     simp[c65_l0b,hlt,hl,g1,p1,n0,hpn,w1,hlt',gy,gy2,e166,hq,hw,hu,hsu,ihB]
end LM.GZ
namespace LM.GZ
open Go LM
variable {P:Nat→Option SFunc} [Has P]
def fwdL (l:List Rs) (quota:Int):List Str:=fwdR quota 0 0 none (sortI (ltC cmpRs) [] (l.filter isS))
theorem clone_rs (X:List Rs) (h:X.length<1000000):cloneP (some 3) 56 [.slice (X.map Rs.enc)]=if X=[] then some (.emp,[]) else some (.slice 0 1 0 X.length (some 3) none,[.cells 1 (cR X) 0]):=by
 have e1:((X.map Rs.enc).flatMap CV.cells).map LV.c=cR X:=by rw[← cellsOf_rs]; rfl
 by_cases hx:X=[]
 ·subst hx; rfl
 ·have hn:X.length≠0:=fun e=>hx (List.eq_nil_of_length_eq_zero e)
  have hz:szOf (some 3)=3:=rfl
  have hf:flatAll (cR X)=true:=by rw[← cellsOf_rs]; exact flatAll_cellsOf (Rs.elems X)
  unfold cloneP
  simp only[e1,List.length_map,cR_length,hf,hz]
  rw[if_neg hn,if_neg (by simp; omega),if_neg hx]
theorem frzFuncs_emp (l:List LV) (h:Heap):frzFuncs (.emp::l) h=bnd (frzFuncs l h) fun a=>some (.emp::a.1,a.2):=by
 rw[frzFuncs]
 rcases frzFuncs l h with _ | ⟨x,y⟩<;>rfl
 all_goals simp
theorem shift_cR (n:Nat):∀ xs:List Rs,shiftL n (cR xs)=cR xs
 | []=>rfl
 | x::r=>by
  have ih:=shift_cR n r
  have e:cR (x::r)=.c (.str x.who)::.c (.str x.state)::.c (.slice (x.vals.map ci))::cR r:=rfl
  rw[e]
  simp only[shiftL,LV.shift,ih]
theorem S65 (l:List Rs) (quota:Int) (hv:∀ y ∈ l,y.vok) (hl:l.length<1000) (hn:(l.filter isS).length<20):fn P 65 [.slice (l.map Rs.enc),ci quota]=some (.slice ((fwdL l quota).map CV.str)):=by
 have hc:=clone_rs l (by omega)
 rw[u65]
 by_cases h0:l=[]
 ·subst h0
  simp at hc
  have e160:∀ h,sfn P 164 [.emp,.c (.func 135 [] [])] h=some (.c (ci (-1)),h):=by
   intro h
   have hL:execS P (limS P) c164_l0 ⟨[.emp,.c (.func 135 [] []),.c (ci 0),.c (ci 0)],h⟩=some (.exit 0,⟨[],h⟩):=by
    rw[r164_l0]
    simp[c164_l0b]
   rw[u164]
   simp[c164,hL]
  have e136:∀ h,sfn P 98 [.emp,.c (.func 135 [] [])] h=some (.emp,h++[.cells 1 [] 0]):=by
   intro h
   rw[u98]
   simp[c98,frzFuncs_nil,frzFuncs_c,frzFuncs_emp,e160]
  have e173:∀ h,sfn P 211 [.emp,.c (ci 0),.c (ci 0),.c (.func 137 [] [])] h=some (.c (.tuple []),h):=by
   intro h
   have hL:execS P (limS P) c211_l1 ⟨[.emp,.c (ci 0),.c (ci 0),.c (.func 137 [] []),.c (ci 1)],h⟩=some (.exit 0,⟨[],h⟩):=by
    rw[r211_l1]
    simp[c211_l1b]
   have w1:IntKind.i64.wrap 1=1:=rfl
   rw[u211]
   simp[c211,w1,hL]
  have e171:∀ h,sfn P 187 [.emp,.c (ci 0),.c (.func 137 [] [])] h=some (.c (.tuple []),h):=by
   intro h
   have l0:∀ E,execS P (limS P) c187_l0 ⟨[.emp,.c (ci 0),.c (.func 137 [] []),.c (ci 20),.c (ci 0),.c (ci 20)],E⟩=some (.exit 0,⟨[.emp,.c (ci 0),.c (.func 137 [] []),.c (ci 20),.c (ci 0)],E⟩):=by
    intro E
    rw[r187_l0]
    simp[c187_l0b]
   have l2:∀ E,execS P (limS P) c187_l2 ⟨[.emp,.c (ci 0),.c (.func 137 [] []),.c (ci 20)],E⟩=some (.exit 2,⟨[],E⟩):=by
    intro E
    rw[r187_l2]
    simp[c187_l2b]
   rw[u187]
   simp[c187,l0,l2,e173,frzFuncs_nil,frzFuncs_c,frzFuncs_emp]
  have e163:∀ h,sfn P 136 [.emp,.c (.func 137 [] [])] h=some (.c (.tuple []),h):=by
   intro h
   rw[u136]
   simp[c136,e171,frzFuncs_nil,frzFuncs_c,frzFuncs_emp]
  have hL:∀ E,execS P (limS P) c65_l0 ⟨[.emp,.c (ci quota),.slice 3 1 0 0 none none,.c (ci 0),.emp,.c (ci 0),.c (ci 0)],E⟩=some (.exit 0,⟨[.slice 3 1 0 0 none none],E⟩):=by
   intro E
   rw[r65_l0]
   simp[c65_l0b]
  have hR:fwdL [] quota=[]:=rfl
  rw[hR]
  simp[c65,u99,hc,LV.shift,shiftB,frzFuncs_nil,frzFuncs_c,frzFuncs_emp,e136,e163,hL]
 ·rw[if_neg h0] at hc
  obtain⟨W,cp',hW,e136⟩:=S98 (P:=P) (pred162 (P:=P)) (H:=[.cells 1 [] 0,.dead]) (b:=1) (g:=1) (by simp) (by decide) (by intro D hD; have hD2:underL 3 D=true:=hD; simp[hD2]) l (by omega)
  have hfe:l.filter (fun x=>!!isS x)=l.filter isS:=by congr 1; funext x; simp
  rw[hfe] at e136
  have hv' : ∀ y ∈ l.filter isS,y.vok:=fun y hy=>hv y (List.mem_filter.1 hy).1
  have e163:=S136 (P:=P) (cp:=cp') (W:=W) (cmp164 (P:=P)) (H:=[.cells 1 [] 0,.dead,.cells 1 [] 0]) (b:=1) (g:=1) (by simp) (by decide) (l.filter isS) hv' (l.filter isS).length hn rfl
  have hsl:=sortI_length (lt:=ltC cmpRs) [] (l.filter isS)
  simp at hsl
  have hL:=L65 (P:=P) quota (sortI (ltC cmpRs) [] (l.filter isS)) (fun y hy=>hv' y (by simpa using (sortI_perm (lt:=ltC cmpRs) [] (l.filter isS)).mem_iff.1 hy)) W (hW 4) cp' (l.filter isS).length hsl.symm (by omega) (sortI (ltC cmpRs) [] (l.filter isS)) [] [] 0 rfl (by simp) (fun _ _=>trivial)
  have hF:fwdR quota 0 0 none (sortI (ltC cmpRs) [] (l.filter isS))=fwdL l quota:=rfl
  simp[hF] at hL
  have hr:=fun X0 X1 X2=>resV_own1 (b:=3) (g:=1+(fwdL l quota).length) (fz:=0) (e:=none) (ys:=(fwdL l quota).map CV.str) (h:=[X0,X1,X2,SW (fwdL l quota)]) (len:=(fwdL l quota).length) rfl (strElems _) (by simp) none
  have e0:SW []=.cells 1 [] 0:=rfl
  simp[e0] at hL e136 e163
  generalize l.filter isS=F at *
  generalize sortI (ltC cmpRs) [] F=S at *
  generalize fwdL l quota=R at *
  simp[c65,u99,hc,LV.shift,shiftB,LB.shift,shift_cR,frzFuncs_nil,frzFuncs_c,frzFuncs_slice,e136,e163,hL,hr]
end LM.GZ
namespace LM.GZ
open Go LM
variable {P:Nat→Option SFunc} [Has P]
theorem S64 (q:Int):fn P 64 [ci q]=some (ci (whenE (outside q 0 160) 3)):=by
 have:=S75 (P:=P) q 0 160
 rw[u64]
 simp[c64,this]
def fwdE (l:List Rs) (q:Int):Int:=firstE [resultsE l,whenE (outside q 0 160) 3]
theorem S14 (l:List Rs) (q:Int) (hl:∀ x ∈ l,x.ok) (hs:(l.length:Int)<9223372036854775807) (hn:resultsE l=0→l.length<20):fn P 14 [.slice (l.map Rs.enc),ci q]=some (.tuple (if fwdE l q=0 then [.slice ((fwdL l q).map CV.str),ci 0] else [.slice [],ci (fwdE l q)])):=by
 have e73:=S63 (P:=P) l hl hs
 have e132:=S64 (P:=P) q
 have e88:=S57_2 (P:=P) (resultsE l) (whenE (outside q 0 160) 3)
 have hE:firstE [resultsE l,whenE (outside q 0 160) 3]=fwdE l q:=rfl
 rw[hE] at e88
 rw[u14]
 by_cases h0:fwdE l q=0
 ·have hr:resultsE l=0:=by
   unfold fwdE at h0
   by_cases q:resultsE l=0
   ·exact q
   ·rw[firstE,if_pos q] at h0; exact absurd h0 q
  have hf:=List.length_filter_le isS l
  have hnn:=hn hr
  have e133:=S65 (P:=P) l q (fun y hy=>(hl y hy).2.2) (by omega) (by omega)
  rw[h0] at e88
  rw[if_pos h0]
  simp[c14,e73,e132,e88,e133]
 ·rw[if_neg h0]
  simp[c14,e73,e132,e88,h0]
def inW (out:List Str) (x:Rs):Bool:=out.any (Str.is x.who)
def restL (l:List Rs) (out:List Str):List Rs:=l.filter (fun x=>!inW out x)
end LM.GZ
namespace LM.GZ
open Go LM
variable {P:Nat→Option SFunc} [Has P]
theorem cmpL_zero:∀ a b:List Int,cmpL a b=0↔a=b
 | [],[]=>by simp[cmpL]
 | [],b::y=>by simp[cmpL]
 | a::x,[]=>by simp[cmpL]
 | a::x,b::y=>by
  have ih:=cmpL_zero x y
  simp only[cmpL]
  by_cases h:a=b
  ·subst h; simp[ih]
  ·rw[if_neg h]
   have:=cmpJ_zero a b
   simp[h,this]
theorem cmpL_anti:∀ a b:List Int,cmpL a b<0↔0<cmpL b a
 | [],[]=>by simp[cmpL]
 | [],b::y=>by simp[cmpL]
 | a::x,[]=>by simp[cmpL]
 | a::x,b::y=>by
  have ih:=cmpL_anti x y
  simp only[cmpL]
  by_cases h:a=b
  ·subst h; simp[ih]
  ·have h' : ¬ b=a:=fun q=>h q.symm
   rw[if_neg h,if_neg h']
   unfold cmpJ
   (repeat' split)<;>omega
theorem cmpL_split:∀ a b c:List Int,cmpL a c<0→cmpL a b<0∨cmpL b c<0
 | [],[],[],h=>by simp[cmpL] at h
 | [],[],c::z,_=>.inr (by simp[cmpL])
 | [],b::y,_,_=>.inl (by simp[cmpL])
 | a::x,_,[],h=>by simp[cmpL] at h
 | a::x,[],c::z,_=>.inr (by simp[cmpL])
 | a::x,b::y,c::z,h=>by
  have ih:=cmpL_split x y z
  simp only[cmpL] at h ⊢
  by_cases h1:a=b
  ·subst h1
   by_cases h2:a=c
   ·subst h2
    simp at h ⊢
    exact ih h
   ·rw[if_neg h2] at h ⊢
    simp
    exact .inr h
  ·by_cases h2:b=c
   ·subst h2
    rw[if_neg h1] at h ⊢
    exact .inl h
   ·rw[if_neg h1,if_neg h2]
    by_cases h3:a=c
    ·subst h3
     unfold cmpJ
     (repeat' split)<;>omega
    ·rw[if_neg h3] at h
     unfold cmpJ at h ⊢
     (repeat' split at h)<;>(repeat' split)<;>omega
def btr (x y:Rs):Bool:=decide (cmpL y.vals x.vals<0)
theorem btr_eq:ltC cmpRs=btr:=rfl
theorem swoR:Swo btr:=by
 refine⟨?_,?_⟩
 ·intro x y h
  unfold btr at h ⊢
  simp only[decide_eq_true_eq,decide_eq_false_iff_not] at h ⊢
  have:=(cmpL_anti y.vals x.vals).1 h
  omega
 ·intro x y z h
  unfold btr at h ⊢
  simp only[decide_eq_true_eq] at h ⊢
  rcases cmpL_split _ y.vals _ h with q | q
  ·exact .inr q
  ·exact .inl q
def cntB (S:List Rs) (x:Rs):Int:=((S.filter (fun y=>btr y x)).length:Nat)
theorem btr_total {x y:Rs} (h:¬ x.vals=y.vals) (h2:btr x y=false):btr y x=true:=by
 unfold btr at h2 ⊢
 simp only[decide_eq_true_eq,decide_eq_false_iff_not] at h2 ⊢
 have h3:=cmpL_anti x.vals y.vals
 have h4:=cmpL_zero y.vals x.vals
 have h5:¬ cmpL y.vals x.vals=0:=fun q=>h (h4.1 q).symm
 omega
theorem fwdR_cnt (quota:Int) (S:List Rs) (hS:Srt btr S):∀ (r pre:List Rs) (rank:Int),S=pre++r→(∀ y,pre.getLast? = some y→rank=cntB S y+1) →
  fwdR quota pre.length rank pre.getLast? r=(r.filter (fun x=>decide (cntB S x<quota))).map (·.who)
 | [],pre,rank,_,_=>by simp[fwdR]
 | x::r,pre,rank,hs,hr=>by
  have hrk:(match pre.getLast? with
   | some y=>if x.vals=y.vals then rank else (pre.length:Int)+1
   | none=>(pre.length:Int)+1)=cntB S x+1:=by
   have hall:(∀ z ∈ pre,btr z x=true)→(pre.length:Int)=cntB S x:=by
    intro hz
    unfold cntB
    have hs2:=hS
    unfold Srt at hs2
    rw[hs] at hs2
    obtain⟨p1,p2,p3⟩:=List.pairwise_append.1 hs2
    obtain⟨p4,p5⟩:=List.pairwise_cons.1 p2
    rw[hs,List.filter_append]
    have e1:pre.filter (fun y=>btr y x)=pre:=List.filter_eq_self.2 hz
    have e2:(x::r).filter (fun y=>btr y x)=[]:=by
     rw[List.filter_eq_nil_iff]
     intro y hy
     rcases List.mem_cons.1 hy with rfl | hy
     ·simp[swoR.irr y]
     ·simp[p4 y hy]
    rw[e1,e2]
    simp
   rcases List.eq_nil_or_concat pre with hpre | ⟨pre',y,hpre⟩
   ·subst hpre
    have:=hall (by simp)
    simp at this ⊢
    omega
   ·rw[List.concat_eq_append] at hpre
    have hlast:pre.getLast? = some y:=by rw[hpre]; simp
    rw[hlast]
    simp only
    by_cases hv:x.vals=y.vals
    ·rw[if_pos hv,hr y hlast]
     have:cntB S x=cntB S y:=by unfold cntB btr; rw[hv]
     rw[this]
    ·rw[if_neg hv]
     have hs2:=hS
     unfold Srt at hs2
     rw[hs] at hs2
     obtain⟨p1,p2,p3⟩:=List.pairwise_append.1 hs2
     have hyx:btr y x=true:=btr_total hv (p3 y (by rw[hpre]; simp) x (by simp))
     rw[← hall (fun z hz=>by
      rw[hpre] at hz
      rcases List.mem_append.1 hz with q | q
      ·rw[hpre] at p1
       have:=(List.pairwise_append.1 p1).2.2 z q y (by simp)
       exact swoR.lel this hyx
      ·simp at q; rw[q]; exact hyx)]
  have ih:=fwdR_cnt quota S hS r (pre++[x]) (cntB S x+1) (by simp[hs]) (fun y hy=>by simp at hy; rw[hy])
  simp at ih
  have hF:fwdR quota pre.length rank pre.getLast? (x::r)=(if cntB S x+1≤quota then [x.who] else [])++fwdR quota (pre.length+1) (cntB S x+1) (some x) r:=by
   rw[← hrk]
   cases pre.getLast?<;>rfl
  rw[hF,ih]
  by_cases hq:cntB S x+1≤quota
  ·have:cntB S x<quota:=by omega
   simp[hq,this]
  ·have:¬ cntB S x<quota:=by omega
   simp[hq,this]
theorem fwdL_cnt (l:List Rs) (quota:Int):fwdL l quota=((sortI btr [] (l.filter isS)).filter (fun x=>decide (cntB (sortI btr [] (l.filter isS)) x<quota))).map (·.who):=by
 unfold fwdL
 rw[btr_eq]
 exact fwdR_cnt quota _ (sortI_srt swoR [] _ (by simp[Srt])) _ [] 0 rfl (by simp)
end LM.GZ
namespace LM.GZ
open Go LM
variable {P:Nat→Option SFunc} [Has P]
def Like (l:List Rs):Prop:=∀ x ∈ l,∀ y ∈ l,isS x=true→isS y=true→x.vals.length=y.vals.length
end LM.GZ
namespace LM.GZ
open Go LM
structure RG (l:List Rs):Prop where
 one:∀ x ∈ l,isName x.who=true∧stateOk x.state=true∧(!isS x && decide (0<x.vals.length))=false∧decide (8<x.vals.length)=false∧x.vals.any farI=false
 uniq:l.Pairwise fun x y=>x.who≠y.who
 like:Like l
theorem RG.filter {l:List Rs} (p:Rs→Bool) (h:RG l):RG (l.filter p) :=
 ⟨fun x hx=>h.one x (List.mem_filter.1 hx).1,h.uniq.sublist List.filter_sublist,fun x hx y hy=>h.like x (List.mem_filter.1 hx).1 y (List.mem_filter.1 hy).1⟩
theorem pair_who:∀ {l:List Rs},l.Pairwise (fun x y=>x.who≠y.who)→∀ {x y:Rs},x ∈ l→y ∈ l→x.who=y.who→x=y
 | [],_,x,y,hx,_,_=>by cases hx
 | a::l,h,x,y,hx,hy,e=>by
  obtain⟨h1,h2⟩:=List.pairwise_cons.1 h
  rcases List.mem_cons.1 hx with rfl | kx
  ·rcases List.mem_cons.1 hy with rfl | ky
   ·rfl
   ·exact absurd e (h1 y ky)
  ·rcases List.mem_cons.1 hy with rfl | ky
   ·exact absurd e.symm (h1 x kx)
   ·exact pair_who h2 kx ky e
section
variable {α:Type} {lt:α→α→Bool}
theorem insS_filter (h:Swo lt) (p:α→Bool) (x:α) {S:List α} (hs:Srt lt S):(insS lt x S).filter p=if p x then insS lt x (S.filter p) else S.filter p:=by
 obtain⟨A,B,rfl,e2,e3,e4⟩:=insS_split h x hs
 rw[e2]
 cases q:p x
 ·simp[q]
 ·rw[List.filter_append,List.filter_append,List.filter_cons,q]
  simp only[if_true]
  rw[insS_eq (fun y hy=>e3 y (List.mem_filter.1 hy).1) (fun y hy=>e4 y (List.mem_filter.1 hy).1)]
theorem sortI_filter (h:Swo lt) (p:α→Bool):∀ (S U:List α),Srt lt S→sortI lt (S.filter p) (U.filter p)=(sortI lt S U).filter p
 | S,[],_=>rfl
 | S,x::U,hs=>by
  have ih:=sortI_filter h p (insS lt x S) U (insS_srt h x hs)
  have hi:=insS_filter h p x hs
  rw[sortI,← ih,hi]
  cases q:p x
  ·simp[q]
  ·simp[q,sortI]
theorem filter_len_mono {a b:α→Bool}:∀ (l:List α),(∀ x ∈ l,a x=true→b x=true)→(l.filter a).length≤(l.filter b).length
 | [],_=>Nat.le_refl _
 | x::l,h=>by
  have ih:=filter_len_mono l (fun y hy=>h y (by simp[hy]))
  have hx:=h x (by simp)
  rw[List.filter_cons,List.filter_cons]
  cases q1:a x
  ·cases b x<;>simp<;>omega
  ·rw[hx q1]; simp; exact ih
end
def FW (l:List Rs) (q:Int):List Rs:=(sortI btr [] (l.filter isS)).filter (fun x=>decide (cntB (sortI btr [] (l.filter isS)) x<q))
theorem fwdL_FW (l:List Rs) (q:Int):fwdL l q=(FW l q).map (·.who):=fwdL_cnt l q
theorem FW_mem {l:List Rs} {q:Int} {x:Rs}:x ∈ FW l q↔(x ∈ l∧isS x=true)∧cntB (sortI btr [] (l.filter isS)) x<q:=by
 unfold FW
 rw[List.mem_filter,(sortI_perm (lt:=btr) [] (l.filter isS)).mem_iff,List.nil_append,List.mem_filter,decide_eq_true_eq]
theorem sort_rest (l:List Rs) (p:Rs→Bool):sortI btr [] ((l.filter p).filter isS)=(sortI btr [] (l.filter isS)).filter p:=by
 have:=sortI_filter swoR p [] (l.filter isS) (by simp[Srt])
 rw[← this]
 congr 1
 rw[List.filter_filter,List.filter_filter]
 congr 1
 funext x
 rw[Bool.and_comm]
theorem FW_same {l:List Rs} (hl:RG l) (q:Int) (p:Rs→Bool) (hp:∀ x ∈ l,p x=false→x ∉ FW l q) (h1:∀ x ∈ l,∀ y ∈ l,p x=false→p y=false→x=y):FW (l.filter p) q=FW l q:=by
 have hm:=fun x=>FW_mem (l:=l) (q:=q) (x:=x)
 have hmem:∀ x,x ∈ sortI btr [] (l.filter isS)→x ∈ l∧isS x=true:=fun x hx=>by
  have:=(sortI_perm (lt:=btr) [] (l.filter isS)).mem_iff.1 hx
  simpa using this
 unfold FW
 rw[sort_rest]
 generalize sortI btr [] (l.filter isS)=T at *
 rw[List.filter_filter]
 apply List.filter_congr
 intro z hz
 have hzl:=hmem z hz
 cases hpz:p z
 ·have:=hp z hzl.1 hpz
  rw[hm] at this
  have h2:¬ cntB T z<q:=fun c=>this ⟨hzl,c⟩
  simp[h2]
 ·simp only[Bool.and_true]
  apply decide_eq_decide.2
  have hle:cntB (T.filter p) z≤cntB T z:=by
   unfold cntB
   rw[List.filter_filter]
   have:=filter_len_mono (a:=fun a=>btr a z && p a) (b:=fun y=>btr y z) T (fun x _ h=>by simp at h; exact h.1)
   omega
  constructor
  ·intro hlt
   refine Int.not_le.1 (fun hge=>?_)
   suffices q≤cntB (T.filter p) z by omega
   by_cases hr:∃ r ∈ T,p r=false∧btr r z=true
   ·obtain⟨r,hrT,hpr,hrz⟩:=hr
    have hrl:=hmem r hrT
    have:=hp r hrl.1 hpr
    rw[hm] at this
    have h2:¬ cntB T r<q:=fun c=>this ⟨hrl,c⟩
    have h3:cntB T r≤cntB (T.filter p) z:=by
     unfold cntB
     rw[List.filter_filter]
     have:=filter_len_mono (a:=fun y=>btr y r) (b:=fun a=>btr a z && p a) T (fun y hy h=>by
      have e1:btr y z=true:=swoR.lel (swoR.asym _ _ h) hrz
      cases hpy:p y
      ·have:=h1 y (hmem y hy).1 r hrl.1 hpy hpr
       subst this
       rw[swoR.irr] at h
       cases h
      ·simp[e1])
     omega
    omega
   ·have h3:cntB T z≤cntB (T.filter p) z:=by
     unfold cntB
     rw[List.filter_filter]
     have:=filter_len_mono (a:=fun y=>btr y z) (b:=fun a=>btr a z && p a) T (fun y hy h=>by
      cases hpy:p y
      ·exact absurd ⟨y,hy,hpy,h⟩ hr
      ·simp[h])
     omega
    omega
  ·intro h; omega
theorem FW_keep {l:List Rs} (q:Int) (p:Rs→Bool) {x:Rs} (hx:x ∈ FW l q) (hpx:p x=true):x ∈ FW (l.filter p) q:=by
 rw[FW_mem] at hx ⊢
 refine⟨⟨List.mem_filter.2 ⟨hx.1.1,hpx⟩,hx.1.2⟩,?_⟩
 rw[sort_rest]
 have:cntB ((sortI btr [] (l.filter isS)).filter p) x≤cntB (sortI btr [] (l.filter isS)) x:=by
  unfold cntB
  rw[List.filter_filter]
  have:=filter_len_mono (a:=fun a=>btr a x && p a) (b:=fun y=>btr y x) (sortI btr [] (l.filter isS)) (fun y _ h=>by simp at h; exact h.1)
  omega
 omega
theorem inW_one (s:Str) (x:Rs):inW [s] x=decide (x.who=s):=by
 unfold inW
 simp only[List.any_cons,List.any_nil,Bool.or_false]
 exact Str.is_eq' _ _
theorem gone (l:List Rs) (q:Int) (s:Str):(fwdL (restL l [s]) q).any (Str.is s)=false:=by
 rw[List.any_eq_false,fwdL_FW]
 intro n hn
 obtain⟨x,hx,rfl⟩:=List.mem_map.1 hn
 have:=(FW_mem.1 hx).1.1
 have:=(List.mem_filter.1 this).2
 rw[inW_one] at this
 rw[Str.is_eq]
 simpa using this
theorem kept (l:List Rs) (q:Int) (s:Str):∀ n ∈ fwdL l q,n≠s→(fwdL (restL l [s]) q).any (Str.is n)=true:=by
 intro n hn hs
 rw[fwdL_FW] at hn
 obtain⟨x,hx,rfl⟩:=List.mem_map.1 hn
 rw[List.any_eq_true]
 refine⟨x.who,?_,by simp[Str.is]⟩
 rw[fwdL_FW]
 exact List.mem_map.2 ⟨x,FW_keep q _ hx (by rw[inW_one]; simp at hs; simp[hs]),rfl⟩
theorem same {l:List Rs} (hl:RG l) (q:Int) (s:Str) (h:(fwdL l q).any (Str.is s)=false):fwdL (restL l [s]) q=fwdL l q:=by
 rw[fwdL_FW,fwdL_FW]
 unfold restL
 rw[FW_same hl]
 ·intro x hx hp hf
  rw[inW_one] at hp
  simp at hp
  rw[List.any_eq_false] at h
  have:=h x.who (by rw[fwdL_FW]; exact List.mem_map.2 ⟨x,hf,rfl⟩)
  rw[Str.is_eq] at this
  simp[hp] at this
 ·intro x hx y hy px py
  rw[inW_one] at px py
  simp at px py
  exact pair_who hl.uniq hx hy (by rw[px,py])
end LM.GZ
namespace LM.GZ
open Go LM
variable {P:Nat→Option SFunc} [Has P]
def aloneE (x:Rs):Int:=firstE [whenE (!isName x.who) 8,whenE (!stateOk x.state) 13,whenE (!isS x && decide (0<x.vals.length)) 1,whenE (decide (8<x.vals.length)) 5,whenE (x.vals.any farI) 3]
end LM.GZ
namespace LM.GZ
open Go LM
variable {P:Nat→Option SFunc} [Has P]
def dcS:CDc→Str
 | .lead=>[108,101,97,100]
 | .boulder=>[98,111,117,108,100,101,114]
 | .speed=>[115,112,101,101,100]
def phS:CPh→Str
 | .waiting=>[119,97,105,116,105,110,103]
 | .on=>[111,110]
 | .done=>[100,111,110,101]
def stS:CSt→Str
 | .fine=>[]
 | .dns=>[100,110,115]
 | .dnf=>[100,110,102]
 | .dsq=>[100,115,113]
def kdS:CKd→Str
 | .start=>[115,116,97,114,116]
 | .hold=>[104,111,108,100]
 | .plus=>[112,108,117,115]
 | .attempt=>[97,116,116,101,109,112,116]
 | .zone=>[122,111,110,101]
 | .top=>[116,111,112]
 | .fall=>[102,97,108,108]
 | .leave=>[108,101,97,118,101]
 | .out=>[111,117,116]
 | .finish=>[102,105,110,105,115,104]
 | .wrong=>[102,97,108,115,101]
 | .incident=>[105,110,99,105,100,101,110,116]
 | .absent=>[97,98,115,101,110,116]
 | .bar=>[98,97,114]
def enB (e:CEn):LB:=.cells 0 [.c (ci e.who),.c (.str (kdS e.kind)),.c (ci e.val),.c (ci e.time)] 0
def trL (t:CTr):List LV:=[.c (ci t.att),.c (ci t.zone),.c (ci t.top),.c (.bool t.vis)]
def clL (c:CCl) (v:LV × LV):List LV:=[.c (.str (phS c.ph)),.c (.str (stS c.st)),.c (ci c.place),.c (ci c.began),.c (ci c.used),.c (ci c.hold),.c (.bool c.plus),.c (.bool c.top),.c (.bool c.op),v.1,v.2]
theorem ltG {h:Heap} {i:Nat} {B:LB} (e:h[i]? = some B):i<h.length:=(List.getElem?_eq_some_iff.1 e).1
structure RLoc where
 bp:Nat
 pv:Nat
 ev:Nat
 cv:Nat
 kv:Nat
 iv:Nat
 lv:Nat
 tv:Nat
 bc:Nat
 gc:Nat
def plB (r:CRn) (names:List Str) (bc gc n:Nat) (t:Int):LB:=.cells 0 [.c (.str (dcS r.dc)),.c (.slice (names.map CV.str)),.c (ci r.size),.c (ci r.limit),.c (ci t),.slice bc gc 0 n (some 11) none] 0
def kdD:CKd→List CDc
 | .start=>[.lead,.boulder,.speed]
 | .hold=>[.lead]
 | .plus=>[.lead]
 | .attempt=>[.boulder]
 | .zone=>[.boulder]
 | .top=>[.lead,.boulder]
 | .fall=>[.lead,.boulder,.speed]
 | .leave=>[.boulder]
 | .out=>[.lead,.boulder]
 | .finish=>[.speed]
 | .wrong=>[.speed]
 | .incident=>[.lead,.boulder,.speed]
 | .absent=>[.lead,.boulder,.speed]
 | .bar=>[.lead,.boulder,.speed]
def TrV (h:Heap) (l:List CTr) (v:LV):Prop:=(l=[]∧v=.nil)∨(l≠[]∧∃ b g,v=.slice b g 0 l.length (some 4) none∧h[b]? = some (.cells g (l.flatMap trL) 0))
def RuV (h:Heap) (l:List Int) (v:LV):Prop:=(l=[]∧v=.nil)∨(l≠[]∧∃ b g,v=.slice b g 0 l.length none none∧h[b]? = some (.cells g (cI l) 0))
structure HpL (r:CRn) (names:List Str) (s:CSs) (e:CEn) (c:CCl) (v:LV × LV) (vs:List (LV × LV)) (L:RLoc) (h:Heap):Prop where
 gpl:h[L.bp]? = some (plB r names L.bc L.gc s.cls.length s.time)
 gp:h[L.pv]? = some (.cells 0 [.ptr L.bp 0 0] 0)
 ge:h[L.ev]? = some (enB e)
 gc:h[L.cv]? = some (.cells 0 (clL c v) 0)
 gk:∃ X Y,h[L.kv]? = some (.cells 0 [.c (.slice ((kdD e.kind).map fun d=>.str (dcS d))),X,Y] 0)
 gi:h[L.iv]? = some (.cells 0 [.func 215 [] [.ptr L.ev 0 0]] 0)
 gl:h[L.lv]? = some (.cells 0 [.c (ci (c.began+r.limit))] 0)
 gt:h[L.tv]? = some (.cells 0 (trL (tNow r c)) 0)
 grow:h[L.bc]? = some (.cells L.gc ((s.cls.zip vs).flatMap fun x=>clL x.1 x.2) 0)
 gtr:TrV h c.tries v.1
 gru:RuV h c.runs v.2
theorem S215 (e:CEn) (h:Heap) (L:List Str) (ev:Nat) (gE:h[ev]? = some (enB e)) (hl:L.length<100):sfn P 215 [.slice h.length 1 0 L.length none (some L.length),.ptr ev 0 0] (h++[.cells 1 (L.map fun s=>.c (.str s)) 0])=some (.c (.bool (L.any (Str.is (kdS e.kind)))),h++[.cells 1 (L.map fun s=>.c (.str s)) 0]):=by
 have q1:=ltG gE
 have q1l:ev<h.length+1:=by omega
 have a1:∀ X:LB,(h++[X])[ev]? = some (enB e):=fun X=>by rw[List.getElem?_append_left q1]; exact gE
 have a1':=fun X=>(List.getElem?_eq_some_iff.1 (a1 X)).2
 have e86:=S86 (P:=P) (kdS e.kind) L (by omega)
 have hc:(L.map fun s=>LV.c (.str s))=cellsOf (L.map CV.str):=by
  induction L with
  | nil=>rfl
  | cons a l ih=>simp only[List.map_cons]; rw[ih (by simp at hl; omega) (S86 (P:=P) (kdS e.kind) l (by simp at hl; omega))]; rfl
 have hf:=frz_own (b:=h.length) (g:=1) (fz:=0) (e:=none) (ys:=L.map CV.str) (h:=h++[.cells 1 (cellsOf (L.map CV.str)) 0]) (len:=L.length) (by simp) (strElems _) (by simp) (some L.length)
 rw[hc]
 rw[u215]
 simp[c215,a1,a1',q1l,enB,hf,-frz_slice,-bump,e86,-List.any_eq_true]
 trace_state
end LM.GZ
namespace LM.GZ
open Go LM
variable {P:Nat→Option SFunc} [Has P]
def SameH (n:Nat) (h h' : Heap):Prop:=n≤h'.length∧∀ i,i<n→h'[i]? = h[i]?
theorem SameH.rfl' {n:Nat} {h:Heap} (hn:n≤h.length):SameH n h h:=⟨hn,fun _ _=>rfl⟩
theorem SameH.trans {n:Nat} {h k l:Heap} (h1:SameH n h k) (h2:SameH n k l):SameH n h l:=⟨h2.1,fun i hi=>(h2.2 i hi).trans (h1.2 i hi)⟩
theorem SameH.app {n:Nat} {h k:Heap} (h1:SameH n h k) (X:Heap):SameH n h (k++X):=⟨by have:=h1.1; rw[List.length_append]; omega,fun i hi=>by rw[List.getElem?_append_left (by have:=h1.1; omega)]; exact h1.2 i hi⟩
theorem SameH.less {n m:Nat} {h k:Heap} (h1:SameH n h k) (hm:m≤n):SameH m h k:=⟨Nat.le_trans hm h1.1,fun i hi=>h1.2 i (by omega)⟩
theorem is1 (a k:CKd):Str.is (kdS k) (kdS a)=decide (k=a):=by cases a<;>cases k<;>rfl
theorem S215_1 (a:CKd) (e:CEn) (h:Heap) (ev:Nat) (gE:h[ev]? = some (enB e)):sfn P 215 [.slice h.length 1 0 1 none (some 1),.ptr ev 0 0] (h++[.cells 1 [.c (.str (kdS a))] 0])=some (.c (.bool (decide (e.kind=a))),h++[.cells 1 [.c (.str (kdS a))] 0]):=by
 have:=S215 (P:=P) e h [kdS a] ev gE (by simp)
 rw[List.any_cons,is1,List.any_nil,Bool.or_false] at this
 exact this
theorem S215_3 (a b d:CKd) (e:CEn) (h:Heap) (ev:Nat) (gE:h[ev]? = some (enB e)):sfn P 215 [.slice h.length 1 0 3 none (some 3),.ptr ev 0 0] (h++[.cells 1 [.c (.str (kdS a)),.c (.str (kdS b)),.c (.str (kdS d))] 0])=some (.c (.bool (decide (e.kind=a) || (decide (e.kind=b) || decide (e.kind=d)))),h++[.cells 1 [.c (.str (kdS a)),.c (.str (kdS b)),.c (.str (kdS d))] 0]):=by
 have:=S215 (P:=P) e h [kdS a,kdS b,kdS d] ev gE (by simp)
 rw[List.any_cons,List.any_cons,List.any_cons,is1,is1,is1,List.any_nil,Bool.or_false] at this
 exact this
theorem S215_5 (a b d f g:CKd) (e:CEn) (h:Heap) (ev:Nat) (gE:h[ev]? = some (enB e)):sfn P 215 [.slice h.length 1 0 5 none (some 5),.ptr ev 0 0] (h++[.cells 1 [.c (.str (kdS a)),.c (.str (kdS b)),.c (.str (kdS d)),.c (.str (kdS f)),.c (.str (kdS g))] 0])=some (.c (.bool (decide (e.kind=a) || (decide (e.kind=b) || (decide (e.kind=d) || (decide (e.kind=f) || decide (e.kind=g)))))),h++[.cells 1 [.c (.str (kdS a)),.c (.str (kdS b)),.c (.str (kdS d)),.c (.str (kdS f)),.c (.str (kdS g))] 0]):=by
 have:=S215 (P:=P) e h [kdS a,kdS b,kdS d,kdS f,kdS g] ev gE (by simp)
 rw[List.any_cons,List.any_cons,List.any_cons,List.any_cons,List.any_cons,is1,is1,is1,is1,is1,List.any_nil,Bool.or_false] at this
 exact this
variable {r:CRn} {names:List Str} {s:CSs} {e:CEn} {c:CCl} {v:LV × LV} {vs:List (LV × LV)} {L:RLoc} {h:Heap}
theorem S218 (H:HpL r names s e c v vs L h):∃ h',SameH h.length h h'∧sfn P 218 [.ptr L.ev 0 0,.ptr L.pv 0 0] h=some (.c (.bool (decide (s.time≤e.time))),h'):=by
 refine⟨h,SameH.rfl' (Nat.le_refl _),?_⟩
 have q1:=ltG H.ge
 have q1':=(List.getElem?_eq_some_iff.1 H.ge).2
 have q2:=ltG H.gp
 have q2':=(List.getElem?_eq_some_iff.1 H.gp).2
 have q3:=ltG H.gpl
 have q3':=(List.getElem?_eq_some_iff.1 H.gpl).2
 rw[u218]
 simp[c218,H.ge,q1,q1',H.gp,q2,q2',H.gpl,q3,q3',enB,plB]
theorem S219 (H:HpL r names s e c v vs L h):∃ h',SameH h.length h h'∧sfn P 219 [.ptr L.cv 0 0,.ptr L.iv 0 0] h=some (.c (.bool (decide (c.ph≠.done) || (decide (e.kind=.bar) && decide (c.st≠.dsq)))),h'):=by
 have q1:=ltG H.gc
 have q1':=(List.getElem?_eq_some_iff.1 H.gc).2
 have q2:=ltG H.gi
 have q2':=(List.getElem?_eq_some_iff.1 H.gi).2
 have a1:∀ X:LB,(h++[X])[L.cv]? = some (.cells 0 (clL c v) 0):=fun X=>by rw[List.getElem?_append_left q1]; exact H.gc
 have a1':=fun X=>(List.getElem?_eq_some_iff.1 (a1 X)).2
 have l1:L.cv<h.length+1:=by omega
 have e215:=S215_1 (P:=P) .bar e h L.ev H.ge
 simp only[kdS] at e215
 have p1:phS c.ph=[100,111,110,101]↔c.ph=.done:=by cases c.ph<;>simp[phS]
 have p2:stS c.st=[100,115,113]↔c.st=.dsq:=by cases c.st<;>simp[stS]
 rw[u219]
 by_cases h1:c.ph=.done
 ·by_cases h2:e.kind=.bar
  ·simp only[h2] at e215 ⊢
   refine⟨h++[.cells 1 [.c (.str [98,97,114])] 0],(SameH.rfl' (Nat.le_refl _)).app _,?_⟩
   have hp:phS .done=[100,111,110,101]:=rfl
   have hs:stS .dsq=[100,115,113]:=rfl
   by_cases h3:c.st=.dsq<;>simp[c219,H.gc,q1,q1',H.gi,q2,q2',clL,h1,e215,a1,a1',l1,p2,h3,hp,hs]
  ·refine⟨h++[.cells 1 [.c (.str [98,97,114])] 0],(SameH.rfl' (Nat.le_refl _)).app _,?_⟩
   simp[h2] at e215
   simp[c219,H.gc,q1,q1',H.gi,q2,q2',clL,h1,h2,e215,a1,a1',l1,phS]
 ·refine⟨h,SameH.rfl' (Nat.le_refl _),?_⟩
  have:¬ phS c.ph=[100,111,110,101]:=fun x=>h1 (p1.1 x)
  simp[c219,H.gc,q1,q1',H.gi,q2,q2',clL,this,h1]
theorem in_kind (k:CKd) (d:CDc):((kdD k).map dcS).any (Str.is (dcS d))=kindIn k d:=by cases k<;>cases d<;>rfl
theorem S220 (H:HpL r names s e c v vs L h):∃ h',SameH h.length h h'∧sfn P 220 [.ptr L.kv 0 0,.ptr L.pv 0 0] h=some (.c (.bool (kindIn e.kind r.dc)),h'):=by
 refine⟨h,SameH.rfl' (Nat.le_refl _),?_⟩
 obtain⟨X,Y,gk⟩:=H.gk
 have q1:=ltG gk
 have q1':=(List.getElem?_eq_some_iff.1 gk).2
 have q2:=ltG H.gp
 have q2':=(List.getElem?_eq_some_iff.1 H.gp).2
 have q3:=ltG H.gpl
 have q3':=(List.getElem?_eq_some_iff.1 H.gpl).2
 have hl:((kdD e.kind).map dcS).length≤3:=by cases e.kind<;>simp[kdD]
 have e86:=S86 (P:=P) (dcS r.dc) ((kdD e.kind).map dcS) (by omega)
 rw[in_kind,List.map_map] at e86
 have he:(CV.str ∘ dcS)=fun d=>CV.str (dcS d):=rfl
 rw[he] at e86
 rw[u220]
 simp[c220,gk,q1,q1',H.gp,q2,q2',H.gpl,q3,q3',plB,e86]
theorem S221 (H:HpL r names s e c v vs L h):∃ h',SameH h.length h h'∧sfn P 221 [.ptr L.iv 0 0,.ptr L.cv 0 0] h=some (.c (.bool (!decide (e.kind=.start) || decide (c.ph=.waiting))),h'):=by
 have q1:=ltG H.gc
 have q1':=(List.getElem?_eq_some_iff.1 H.gc).2
 have q2:=ltG H.gi
 have q2':=(List.getElem?_eq_some_iff.1 H.gi).2
 have a1:∀ X:LB,(h++[X])[L.cv]? = some (.cells 0 (clL c v) 0):=fun X=>by rw[List.getElem?_append_left q1]; exact H.gc
 have a1':=fun X=>(List.getElem?_eq_some_iff.1 (a1 X)).2
 have l1:L.cv<h.length+1:=by omega
 have e215:=S215_1 (P:=P) .start e h L.ev H.ge
 simp only[kdS] at e215
 have p1:phS c.ph=[119,97,105,116,105,110,103]↔c.ph=.waiting:=by cases c.ph<;>simp[phS]
 rw[u221]
 refine⟨h++[.cells 1 [.c (.str [115,116,97,114,116])] 0],(SameH.rfl' (Nat.le_refl _)).app _,?_⟩
 by_cases h2:e.kind=.start
 ·simp only[h2] at e215 ⊢
  have hp:phS .waiting=[119,97,105,116,105,110,103]:=rfl
  by_cases h1:c.ph=.waiting<;>simp[c221,H.gc,q1,q1',H.gi,q2,q2',clL,e215,a1,a1',l1,h1,p1,hp]
 ·simp[h2] at e215
  simp[c221,H.gc,q1,q1',H.gi,q2,q2',clL,e215,a1,a1',l1,h2]
theorem S226 (H:HpL r names s e c v vs L h):∃ h',SameH h.length h h'∧sfn P 226 [.ptr L.iv 0 0,.ptr L.cv 0 0] h=some (.c (.bool ((decide (e.kind=.start) || (decide (e.kind=.absent) || decide (e.kind=.bar))) || decide (c.ph=.on))),h'):=by
 have q1:=ltG H.gc
 have q1':=(List.getElem?_eq_some_iff.1 H.gc).2
 have q2:=ltG H.gi
 have q2':=(List.getElem?_eq_some_iff.1 H.gi).2
 have a1:∀ X:LB,(h++[X])[L.cv]? = some (.cells 0 (clL c v) 0):=fun X=>by rw[List.getElem?_append_left q1]; exact H.gc
 have a1':=fun X=>(List.getElem?_eq_some_iff.1 (a1 X)).2
 have l1:L.cv<h.length+1:=by omega
 have e215:=S215_3 (P:=P) .start .absent .bar e h L.ev H.ge
 simp only[kdS] at e215
 have p1:phS c.ph=[111,110]↔c.ph=.on:=by cases c.ph<;>simp[phS]
 rw[u226]
 refine⟨_,(SameH.rfl' (Nat.le_refl _)).app [.cells 1 [.c (.str [115,116,97,114,116]),.c (.str [97,98,115,101,110,116]),.c (.str [98,97,114])] 0],?_⟩
 generalize (decide (e.kind=.start) || (decide (e.kind=.absent) || decide (e.kind=.bar)))=b at *
 cases b
 ·have hp:phS .on=[111,110]:=rfl
  by_cases h1:c.ph=.on<;>simp[c226,H.gc,q1,q1',H.gi,q2,q2',clL,e215,a1,a1',l1,h1,p1,hp]
 ·simp[c226,H.gc,q1,q1',H.gi,q2,q2',clL,e215,a1,a1',l1]
theorem S227 (H:HpL r names s e c v vs L h):∃ h',SameH h.length h h'∧sfn P 227 [.ptr L.iv 0 0,.ptr L.ev 0 0,.ptr L.lv 0 0] h=some (.c (.bool (!(decide (e.kind=.hold) || (decide (e.kind=.plus) || (decide (e.kind=.attempt) || (decide (e.kind=.zone) || decide (e.kind=.top))))) || decide (e.time≤c.began+r.limit))),h'):=by
 have q1:=ltG H.ge
 have q3:=ltG H.gl
 have q2:=ltG H.gi
 have q2':=(List.getElem?_eq_some_iff.1 H.gi).2
 have a1:∀ X:LB,(h++[X])[L.ev]? = some (enB e):=fun X=>by rw[List.getElem?_append_left q1]; exact H.ge
 have a1':=fun X=>(List.getElem?_eq_some_iff.1 (a1 X)).2
 have l1:L.ev<h.length+1:=by omega
 have a3:∀ X:LB,(h++[X])[L.lv]? = some (.cells 0 [.c (ci (c.began+r.limit))] 0):=fun X=>by rw[List.getElem?_append_left q3]; exact H.gl
 have a3':=fun X=>(List.getElem?_eq_some_iff.1 (a3 X)).2
 have l3:L.lv<h.length+1:=by omega
 have e215:=S215_5 (P:=P) .hold .plus .attempt .zone .top e h L.ev H.ge
 simp only[kdS] at e215
 rw[u227]
 refine⟨_,(SameH.rfl' (Nat.le_refl _)).app [.cells 1 [.c (.str [104,111,108,100]),.c (.str [112,108,117,115]),.c (.str [97,116,116,101,109,112,116]),.c (.str [122,111,110,101]),.c (.str [116,111,112])] 0],?_⟩
 generalize (decide (e.kind=.hold) || (decide (e.kind=.plus) || (decide (e.kind=.attempt) || (decide (e.kind=.zone) || decide (e.kind=.top)))))=b at *
 cases b
 ·simp[c227,H.gi,q2,q2',enB,e215,a1,a1',l1,a3,a3',l3]
 ·simp[c227,H.gi,q2,q2',enB,e215,a1,a1',l1,a3,a3',l3]
theorem S228 (H:HpL r names s e c v vs L h):∃ h',SameH h.length h h'∧sfn P 228 [.ptr L.iv 0 0,.ptr L.ev 0 0,.ptr L.lv 0 0] h=some (.c (.bool (!decide (e.kind=.out) || decide (c.began+r.limit≤e.time))),h'):=by
 have q1:=ltG H.ge
 have q3:=ltG H.gl
 have q2:=ltG H.gi
 have q2':=(List.getElem?_eq_some_iff.1 H.gi).2
 have a1:∀ X:LB,(h++[X])[L.ev]? = some (enB e):=fun X=>by rw[List.getElem?_append_left q1]; exact H.ge
 have a1':=fun X=>(List.getElem?_eq_some_iff.1 (a1 X)).2
 have l1:L.ev<h.length+1:=by omega
 have a3:∀ X:LB,(h++[X])[L.lv]? = some (.cells 0 [.c (ci (c.began+r.limit))] 0):=fun X=>by rw[List.getElem?_append_left q3]; exact H.gl
 have a3':=fun X=>(List.getElem?_eq_some_iff.1 (a3 X)).2
 have l3:L.lv<h.length+1:=by omega
 have e215:=S215_1 (P:=P) .out e h L.ev H.ge
 simp only[kdS] at e215
 rw[u228]
 refine⟨_,(SameH.rfl' (Nat.le_refl _)).app [.cells 1 [.c (.str [111,117,116])] 0],?_⟩
 generalize decide (e.kind=.out)=b at *
 cases b
 ·simp[c228,H.gi,q2,q2',enB,e215,a1,a1',l1,a3,a3',l3]
 ·simp[c228,H.gi,q2,q2',enB,e215,a1,a1',l1,a3,a3',l3]
end LM.GZ
namespace LM.GZ
open Go LM
variable {P:Nat→Option SFunc} [Has P]
variable {r:CRn} {names:List Str} {s:CSs} {e:CEn} {c:CCl} {v:LV × LV} {vs:List (LV × LV)} {L:RLoc} {h:Heap}
theorem HpL.app (H:HpL r names s e c v vs L h) (X:Heap):HpL r names s e c v vs L (h++X):=by
 have key:∀ {i:Nat} {B:LB},h[i]? = some B→(h++X)[i]? = some B:=fun e=>by rw[List.getElem?_append_left (ltG e)]; exact e
 refine⟨key H.gpl,key H.gp,key H.ge,key H.gc,?_,key H.gi,key H.gl,key H.gt,key H.grow,?_,?_⟩
 ·obtain⟨A,B,e⟩:=H.gk
  exact⟨A,B,key e⟩
 ·rcases H.gtr with h1 | ⟨h1,b,g,h2,h3⟩
  ·exact .inl h1
  ·exact .inr ⟨h1,b,g,h2,key h3⟩
 ·rcases H.gru with h1 | ⟨h1,b,g,h2,h3⟩
  ·exact .inl h1
  ·exact .inr ⟨h1,b,g,h2,key h3⟩
theorem S199 (n a b:Int):fn P 199 [ci n,ci a,ci b]=some (.bool (decide (n<a) || decide (b<n))):=by
 rw[u199]
 by_cases h1:n<a<;>by_cases h2:b<n<;>simp[c199,h1,h2]
theorem S229 (H:HpL r names s e c v vs L h):∃ h',SameH h.length h h'∧sfn P 229 [.ptr L.iv 0 0,.ptr L.ev 0 0,.ptr L.cv 0 0,.ptr L.pv 0 0] h=some (.c (.bool (!decide (e.kind=.hold) || (decide (c.hold<e.val) && decide (e.val≤r.size)))),h'):=by
 have HK:=H.app [.cells 1 [.c (.str [104,111,108,100])] 0]
 have q_i:=ltG H.gi
 have q_i':=(List.getElem?_eq_some_iff.1 H.gi).2
 have a_i:=HK.gi
 have a_i':=(List.getElem?_eq_some_iff.1 HK.gi).2
 have l_i:=ltG HK.gi
 simp only[List.length_append,List.length_singleton] at l_i
 have q_e:=ltG H.ge
 have q_e':=(List.getElem?_eq_some_iff.1 H.ge).2
 have a_e:=HK.ge
 have a_e':=(List.getElem?_eq_some_iff.1 HK.ge).2
 have l_e:=ltG HK.ge
 simp only[List.length_append,List.length_singleton] at l_e
 have q_c:=ltG H.gc
 have q_c':=(List.getElem?_eq_some_iff.1 H.gc).2
 have a_c:=HK.gc
 have a_c':=(List.getElem?_eq_some_iff.1 HK.gc).2
 have l_c:=ltG HK.gc
 simp only[List.length_append,List.length_singleton] at l_c
 have q_p:=ltG H.gp
 have q_p':=(List.getElem?_eq_some_iff.1 H.gp).2
 have a_p:=HK.gp
 have a_p':=(List.getElem?_eq_some_iff.1 HK.gp).2
 have l_p:=ltG HK.gp
 simp only[List.length_append,List.length_singleton] at l_p
 have q_pl:=ltG H.gpl
 have q_pl':=(List.getElem?_eq_some_iff.1 H.gpl).2
 have a_pl:=HK.gpl
 have a_pl':=(List.getElem?_eq_some_iff.1 HK.gpl).2
 have l_pl:=ltG HK.gpl
 simp only[List.length_append,List.length_singleton] at l_pl
 have e215:=S215_1 (P:=P) .hold e h L.ev H.ge
 simp only[kdS] at e215
 rw[u229]
 refine⟨_,(SameH.rfl' (Nat.le_refl _)).app [.cells 1 [.c (.str [104,111,108,100])] 0],?_⟩
 generalize decide (e.kind=.hold)=b at *
 cases b
 ·simp[c229,e215,enB,clL,plB,trL,H.gi,q_i,q_i',a_i,a_i',l_i,H.ge,q_e,q_e',a_e,a_e',l_e,H.gc,q_c,q_c',a_c,a_c',l_c,H.gp,q_p,q_p',a_p,a_p',l_p,H.gpl,q_pl,q_pl',a_pl,a_pl',l_pl]
 ·by_cases h1:c.hold<e.val
  ·simp[c229,e215,enB,clL,plB,trL,H.gi,q_i,q_i',a_i,a_i',l_i,H.ge,q_e,q_e',a_e,a_e',l_e,H.gc,q_c,q_c',a_c,a_c',l_c,H.gp,q_p,q_p',a_p,a_p',l_p,H.gpl,q_pl,q_pl',a_pl,a_pl',l_pl,h1]
  ·simp[c229,e215,enB,clL,plB,trL,H.gi,q_i,q_i',a_i,a_i',l_i,H.ge,q_e,q_e',a_e,a_e',l_e,H.gc,q_c,q_c',a_c,a_c',l_c,H.gp,q_p,q_p',a_p,a_p',l_p,H.gpl,q_pl,q_pl',a_pl,a_pl',l_pl,h1]
theorem S230 (H:HpL r names s e c v vs L h):∃ h',SameH h.length h h'∧sfn P 230 [.ptr L.iv 0 0,.ptr L.cv 0 0,.ptr L.pv 0 0] h=some (.c (.bool (!decide (e.kind=.plus) || (!c.plus && decide (c.hold<r.size)))),h'):=by
 have HK:=H.app [.cells 1 [.c (.str [112,108,117,115])] 0]
 have q_i:=ltG H.gi
 have q_i':=(List.getElem?_eq_some_iff.1 H.gi).2
 have a_i:=HK.gi
 have a_i':=(List.getElem?_eq_some_iff.1 HK.gi).2
 have l_i:=ltG HK.gi
 simp only[List.length_append,List.length_singleton] at l_i
 have q_c:=ltG H.gc
 have q_c':=(List.getElem?_eq_some_iff.1 H.gc).2
 have a_c:=HK.gc
 have a_c':=(List.getElem?_eq_some_iff.1 HK.gc).2
 have l_c:=ltG HK.gc
 simp only[List.length_append,List.length_singleton] at l_c
 have q_p:=ltG H.gp
 have q_p':=(List.getElem?_eq_some_iff.1 H.gp).2
 have a_p:=HK.gp
 have a_p':=(List.getElem?_eq_some_iff.1 HK.gp).2
 have l_p:=ltG HK.gp
 simp only[List.length_append,List.length_singleton] at l_p
 have q_pl:=ltG H.gpl
 have q_pl':=(List.getElem?_eq_some_iff.1 H.gpl).2
 have a_pl:=HK.gpl
 have a_pl':=(List.getElem?_eq_some_iff.1 HK.gpl).2
 have l_pl:=ltG HK.gpl
 simp only[List.length_append,List.length_singleton] at l_pl
 have e215:=S215_1 (P:=P) .plus e h L.ev H.ge
 simp only[kdS] at e215
 rw[u230]
 refine⟨_,(SameH.rfl' (Nat.le_refl _)).app [.cells 1 [.c (.str [112,108,117,115])] 0],?_⟩
 generalize decide (e.kind=.plus)=b at *
 cases b
 ·simp[c230,e215,enB,clL,plB,trL,H.gi,q_i,q_i',a_i,a_i',l_i,H.gc,q_c,q_c',a_c,a_c',l_c,H.gp,q_p,q_p',a_p,a_p',l_p,H.gpl,q_pl,q_pl',a_pl,a_pl',l_pl]
 ·by_cases h1:c.plus=true
  ·simp[c230,e215,enB,clL,plB,trL,H.gi,q_i,q_i',a_i,a_i',l_i,H.gc,q_c,q_c',a_c,a_c',l_c,H.gp,q_p,q_p',a_p,a_p',l_p,H.gpl,q_pl,q_pl',a_pl,a_pl',l_pl,h1]
  ·simp[c230,e215,enB,clL,plB,trL,H.gi,q_i,q_i',a_i,a_i',l_i,H.gc,q_c,q_c',a_c,a_c',l_c,H.gp,q_p,q_p',a_p,a_p',l_p,H.gpl,q_pl,q_pl',a_pl,a_pl',l_pl,h1]
theorem S233 (H:HpL r names s e c v vs L h):∃ h',SameH h.length h h'∧sfn P 233 [.ptr L.iv 0 0,.ptr L.cv 0 0,.ptr L.tv 0 0] h=some (.c (.bool (!decide (e.kind=.attempt) || (!c.op && decide ((tNow r c).top=0) && decide ((tNow r c).att<99)))),h'):=by
 have HK:=H.app [.cells 1 [.c (.str [97,116,116,101,109,112,116])] 0]
 have q_i:=ltG H.gi
 have q_i':=(List.getElem?_eq_some_iff.1 H.gi).2
 have a_i:=HK.gi
 have a_i':=(List.getElem?_eq_some_iff.1 HK.gi).2
 have l_i:=ltG HK.gi
 simp only[List.length_append,List.length_singleton] at l_i
 have q_c:=ltG H.gc
 have q_c':=(List.getElem?_eq_some_iff.1 H.gc).2
 have a_c:=HK.gc
 have a_c':=(List.getElem?_eq_some_iff.1 HK.gc).2
 have l_c:=ltG HK.gc
 simp only[List.length_append,List.length_singleton] at l_c
 have q_t:=ltG H.gt
 have q_t':=(List.getElem?_eq_some_iff.1 H.gt).2
 have a_t:=HK.gt
 have a_t':=(List.getElem?_eq_some_iff.1 HK.gt).2
 have l_t:=ltG HK.gt
 simp only[List.length_append,List.length_singleton] at l_t
 have e215:=S215_1 (P:=P) .attempt e h L.ev H.ge
 simp only[kdS] at e215
 rw[u233]
 refine⟨_,(SameH.rfl' (Nat.le_refl _)).app [.cells 1 [.c (.str [97,116,116,101,109,112,116])] 0],?_⟩
 generalize decide (e.kind=.attempt)=b at *
 cases b
 ·simp[c233,e215,enB,clL,plB,trL,H.gi,q_i,q_i',a_i,a_i',l_i,H.gc,q_c,q_c',a_c,a_c',l_c,H.gt,q_t,q_t',a_t,a_t',l_t]
 ·by_cases h1:c.op=true
  ·by_cases h2:(tNow r c).top=0
   ·simp[c233,e215,enB,clL,plB,trL,H.gi,q_i,q_i',a_i,a_i',l_i,H.gc,q_c,q_c',a_c,a_c',l_c,H.gt,q_t,q_t',a_t,a_t',l_t,h1,h2]
   ·simp[c233,e215,enB,clL,plB,trL,H.gi,q_i,q_i',a_i,a_i',l_i,H.gc,q_c,q_c',a_c,a_c',l_c,H.gt,q_t,q_t',a_t,a_t',l_t,h1,h2]
  ·by_cases h2:(tNow r c).top=0
   ·simp[c233,e215,enB,clL,plB,trL,H.gi,q_i,q_i',a_i,a_i',l_i,H.gc,q_c,q_c',a_c,a_c',l_c,H.gt,q_t,q_t',a_t,a_t',l_t,h1,h2]
   ·simp[c233,e215,enB,clL,plB,trL,H.gi,q_i,q_i',a_i,a_i',l_i,H.gc,q_c,q_c',a_c,a_c',l_c,H.gt,q_t,q_t',a_t,a_t',l_t,h1,h2]
theorem S234 (H:HpL r names s e c v vs L h):∃ h',SameH h.length h h'∧sfn P 234 [.ptr L.iv 0 0,.ptr L.tv 0 0] h=some (.c (.bool (!decide (e.kind=.zone) || (decide ((tNow r c).zone=0)))),h'):=by
 have HK:=H.app [.cells 1 [.c (.str [122,111,110,101])] 0]
 have q_i:=ltG H.gi
 have q_i':=(List.getElem?_eq_some_iff.1 H.gi).2
 have a_i:=HK.gi
 have a_i':=(List.getElem?_eq_some_iff.1 HK.gi).2
 have l_i:=ltG HK.gi
 simp only[List.length_append,List.length_singleton] at l_i
 have q_t:=ltG H.gt
 have q_t':=(List.getElem?_eq_some_iff.1 H.gt).2
 have a_t:=HK.gt
 have a_t':=(List.getElem?_eq_some_iff.1 HK.gt).2
 have l_t:=ltG HK.gt
 simp only[List.length_append,List.length_singleton] at l_t
 have e215:=S215_1 (P:=P) .zone e h L.ev H.ge
 simp only[kdS] at e215
 rw[u234]
 refine⟨_,(SameH.rfl' (Nat.le_refl _)).app [.cells 1 [.c (.str [122,111,110,101])] 0],?_⟩
 generalize decide (e.kind=.zone)=b at *
 cases b
 ·simp[c234,e215,enB,clL,plB,trL,H.gi,q_i,q_i',a_i,a_i',l_i,H.gt,q_t,q_t',a_t,a_t',l_t]
 ·by_cases h1:(tNow r c).zone=0
  ·simp[c234,e215,enB,clL,plB,trL,H.gi,q_i,q_i',a_i,a_i',l_i,H.gt,q_t,q_t',a_t,a_t',l_t,h1]
  ·simp[c234,e215,enB,clL,plB,trL,H.gi,q_i,q_i',a_i,a_i',l_i,H.gt,q_t,q_t',a_t,a_t',l_t,h1]
theorem S235 (H:HpL r names s e c v vs L h) (hw:IntKind.i64.wrap (e.time-c.began)=e.time-c.began):∃ h',SameH h.length h h'∧sfn P 235 [.ptr L.iv 0 0,.ptr L.ev 0 0,.ptr L.cv 0 0] h=some (.c (.bool (!decide (e.kind=.finish) || (decide (1≤e.val) && decide (e.val≤e.time-c.began)))),h'):=by
 have HK:=H.app [.cells 1 [.c (.str [102,105,110,105,115,104])] 0]
 have q_i:=ltG H.gi
 have q_i':=(List.getElem?_eq_some_iff.1 H.gi).2
 have a_i:=HK.gi
 have a_i':=(List.getElem?_eq_some_iff.1 HK.gi).2
 have l_i:=ltG HK.gi
 simp only[List.length_append,List.length_singleton] at l_i
 have q_e:=ltG H.ge
 have q_e':=(List.getElem?_eq_some_iff.1 H.ge).2
 have a_e:=HK.ge
 have a_e':=(List.getElem?_eq_some_iff.1 HK.ge).2
 have l_e:=ltG HK.ge
 simp only[List.length_append,List.length_singleton] at l_e
 have q_c:=ltG H.gc
 have q_c':=(List.getElem?_eq_some_iff.1 H.gc).2
 have a_c:=HK.gc
 have a_c':=(List.getElem?_eq_some_iff.1 HK.gc).2
 have l_c:=ltG HK.gc
 simp only[List.length_append,List.length_singleton] at l_c
 have e215:=S215_1 (P:=P) .finish e h L.ev H.ge
 simp only[kdS] at e215
 have e199:=S199 (P:=P) e.val 1 (e.time-c.began)
 have n1:(decide (1≤e.val) && decide (e.val≤e.time-c.began))=!(decide (e.val<1) || decide (e.time-c.began<e.val)):=by
  rw[Bool.eq_iff_iff]; simp
 rw[n1]
 rw[u235]
 refine⟨_,(SameH.rfl' (Nat.le_refl _)).app [.cells 1 [.c (.str [102,105,110,105,115,104])] 0],?_⟩
 generalize decide (e.kind=.finish)=b at *
 cases b
 ·simp[c235,e215,enB,clL,plB,trL,H.gi,q_i,q_i',a_i,a_i',l_i,H.ge,q_e,q_e',a_e,a_e',l_e,H.gc,q_c,q_c',a_c,a_c',l_c,hw,e199]
 ·by_cases h1:e.val<1
  ·by_cases h2:e.time-c.began<e.val
   ·simp[c235,e215,enB,clL,plB,trL,H.gi,q_i,q_i',a_i,a_i',l_i,H.ge,q_e,q_e',a_e,a_e',l_e,H.gc,q_c,q_c',a_c,a_c',l_c,hw,e199,h1,h2]
   ·simp[c235,e215,enB,clL,plB,trL,H.gi,q_i,q_i',a_i,a_i',l_i,H.ge,q_e,q_e',a_e,a_e',l_e,H.gc,q_c,q_c',a_c,a_c',l_c,hw,e199,h1,h2]
  ·by_cases h2:e.time-c.began<e.val
   ·simp[c235,e215,enB,clL,plB,trL,H.gi,q_i,q_i',a_i,a_i',l_i,H.ge,q_e,q_e',a_e,a_e',l_e,H.gc,q_c,q_c',a_c,a_c',l_c,hw,e199,h1,h2]
   ·simp[c235,e215,enB,clL,plB,trL,H.gi,q_i,q_i',a_i,a_i',l_i,H.ge,q_e,q_e',a_e,a_e',l_e,H.gc,q_c,q_c',a_c,a_c',l_c,hw,e199,h1,h2]
end LM.GZ
namespace LM.GZ
open Go LM
variable {P:Nat→Option SFunc} [Has P]
variable {r:CRn} {names:List Str} {s:CSs} {e:CEn} {c:CCl} {v:LV × LV} {vs:List (LV × LV)} {L:RLoc} {h:Heap}
theorem trV_c {l:List CTr} {v:LV} {h:Heap} (H:TrV h l v) (xs:List LV):allC (v::xs)=none:=by
 rcases H with ⟨_,rfl⟩ | ⟨_,b,g,rfl,_⟩<;>rfl
theorem clL_c {h:Heap} (H:TrV h c.tries v.1):allC (clL c v)=none:=by
 have:=trV_c H [v.2]
 simp[clL,allC,this]
theorem trV_flat {l:List CTr} {v:LV} {h:Heap} (H:TrV h l v):LV.flat v=true:=by
 rcases H with ⟨_,rfl⟩ | ⟨_,b,g,rfl,_⟩<;>rfl
theorem ruV_flat {l:List Int} {v:LV} {h:Heap} (H:RuV h l v):LV.flat v=true:=by
 rcases H with ⟨_,rfl⟩ | ⟨_,b,g,rfl,_⟩<;>rfl
theorem flat_s (x:Str):LV.flat (.c (.str x))=true:=rfl
theorem flat_i (k:IntKind) (x:Int):LV.flat (.c (.int k x))=true:=rfl
theorem flat_sl (b g o n:Nat) (e c:Option Nat):LV.flat (.slice b g o n e c)=true:=rfl
theorem flat_b (x:Bool):LV.flat (.c (.bool x))=true:=rfl
theorem S232 (h:Heap) (bp bc gc n:Nat) (t:Int) (k:CKd) (gpl:h[bp]? = some (plB r names bc gc n t)) (H:TrV h c.tries v.1) (H2:RuV h c.runs v.2):∃ h',SameH h.length h h'∧sfn P 232 [.ptr bp 0 0,.agg (clL c v),.c (.str (kdS k))] h=some (.c (.bool (readyB r c k)),h'):=by
 have q1:=ltG gpl
 have q1':=(List.getElem?_eq_some_iff.1 gpl).2
 have a1:∀ X:LB,(h++[X])[bp]? = some (plB r names bc gc n t):=fun X=>by rw[List.getElem?_append_left q1]; exact gpl
 have a1':=fun X=>(List.getElem?_eq_some_iff.1 (a1 X)).2
 have l1:bp<h.length+1:=by omega
 have f1:=trV_flat H
 have f2:=ruV_flat H2
 rw[u232]
 refine⟨_,(SameH.rfl' (Nat.le_refl _)).app [.cells 0 (clL c v) 0],?_⟩
 cases hd:r.dc
 ·have k1:kdS k=[116,111,112]↔k=.top:=by cases k<;>simp[kdS]
  have k2:kdS .top=[116,111,112]:=rfl
  by_cases h1:k=.top
  ·by_cases h2:c.hold=r.size<;>simp[c232,plB,a1,a1',l1,hd,dcS,clL,readyB,-LV.flat,flat_s,flat_i,flat_b,f1,f2,h1,k2,h2]
  ·simp[c232,plB,a1,a1',l1,hd,dcS,clL,readyB,-LV.flat,flat_s,flat_i,flat_b,f1,f2,h1,k1]
 ·have e86:=S86 (P:=P) (kdS k) [kdS .zone,kdS .top,kdS .fall,kdS .incident] (by simp)
  have e2:[kdS .zone,kdS .top,kdS .fall,kdS .incident].any (Str.is (kdS k))=(decide (k=.zone) || decide (k=.top) || decide (k=.fall) || decide (k=.incident)):=by cases k<;>rfl
  rw[e2] at e86
  simp only[List.map_cons,List.map_nil] at e86
  have e3:kdS .zone=[122,111,110,101]:=rfl
  have e4:kdS .top=[116,111,112]:=rfl
  have e5:kdS .fall=[102,97,108,108]:=rfl
  have e6:kdS .incident=[105,110,99,105,100,101,110,116]:=rfl
  rw[e3,e4,e5,e6] at e86
  unfold readyB
  rw[hd]
  simp only
  generalize (decide (k=.zone) || decide (k=.top) || decide (k=.fall) || decide (k=.incident))=b at *
  cases b
  ·simp[c232,plB,a1,a1',l1,hd,dcS,clL,-LV.flat,flat_s,flat_i,flat_b,f1,f2,e86]
  ·simp[c232,plB,a1,a1',l1,hd,dcS,clL,-LV.flat,flat_s,flat_i,flat_b,f1,f2,e86]
 ·simp[c232,plB,a1,a1',l1,hd,dcS,clL,readyB,-LV.flat,flat_s,flat_i,flat_b,f1,f2]
theorem frzF_ptr (b g o:Nat) (l:List LV) (h:Heap):frzFuncs (.ptr b g o::l) h=bnd (frzFuncs l h) fun a=>some (.ptr b g o::a.1,a.2):=by
 rw[frzFuncs]
 rcases frzFuncs l h with _ | ⟨x,y⟩<;>rfl
 all_goals simp
theorem frzF_agg (cs:List LV) (l:List LV) (h:Heap):frzFuncs (.agg cs::l) h=bnd (frzFuncs l h) fun a=>some (.agg cs::a.1,a.2):=by
 rw[frzFuncs]
 rcases frzFuncs l h with _ | ⟨x,y⟩<;>rfl
 all_goals simp
theorem S231 (H:HpL r names s e c v vs L h):∃ h',SameH h.length h h'∧sfn P 231 [.ptr L.pv 0 0,.ptr L.cv 0 0,.ptr L.ev 0 0] h=some (.c (.bool (readyB r c e.kind)),h'):=by
 have q_p:=ltG H.gp
 have q_p':=(List.getElem?_eq_some_iff.1 H.gp).2
 have q_c:=ltG H.gc
 have q_c':=(List.getElem?_eq_some_iff.1 H.gc).2
 have q_e:=ltG H.ge
 have q_e':=(List.getElem?_eq_some_iff.1 H.ge).2
 obtain⟨h',k1,k2⟩:=S232 (P:=P) h L.bp L.bc L.gc s.cls.length s.time e.kind H.gpl H.gtr H.gru
 have hac:=clL_c H.gtr
 refine⟨h',k1,?_⟩
 rw[u231]
 simp only[clL] at hac k2
 simp[c231,enB,clL,hac,k2,frzF_ptr,frzF_agg,frzFuncs_nil,frzFuncs_c,H.gp,q_p,q_p',H.gc,q_c,q_c',H.ge,q_e,q_e']
end LM.GZ
namespace LM.GZ
open Go LM
variable {P:Nat→Option SFunc} [Has P]
variable {r:CRn} {names:List Str} {s:CSs} {e:CEn} {c:CCl} {v:LV × LV} {vs:List (LV × LV)} {L:RLoc} {h:Heap}
theorem trL_len (l:List CTr):(l.flatMap trL).length=l.length*4:=by
 induction l with
 | nil=>rfl
 | cons a l ih=>rw[List.flatMap_cons,List.length_append,ih,List.length_cons]; show 4+_=_; omega
theorem trL_get:∀ (l:List CTr) (k j:Nat) (x:CTr),l[k]? = some x→j<4→(l.flatMap trL)[k*4+j]? = (trL x)[j]?
 | [],k,j,x,h,_=>by simp at h
 | a::l,0,j,x,h,hj=>by
  simp at h
  subst h
  rw[List.flatMap_cons,Nat.zero_mul,Nat.zero_add,List.getElem?_append_left (by show j<4; exact hj)]
 | a::l,k+1,j,x,h,hj=>by
  have ih:=trL_get l k j x (by simpa using h) hj
  rw[List.flatMap_cons,List.getElem?_append_right (by show 4≤_; omega),← ih]
  congr 1
  show (k+1)*4+j-4=_
  omega
theorem tr_at {c:CCl} {p:Int} (h1:1≤p) (h2:p≤c.tries.length):c.tries[(p-1).toNat]? = some (trAt c p):=by
 have hl:(p-1).toNat<c.tries.length:=by omega
 rw[trAt,List.getD_eq_getElem?_getD,List.getElem?_eq_getElem hl]
 rfl
theorem S225 (h:Heap) (bp bc gc n:Nat) (t:Int) (x:Int) (hx:0≤x∧x≤86399999) (gpl:h[bp]? = some (plB r names bc gc n t)) (H:TrV h c.tries v.1) (H2:RuV h c.runs v.2) (hlen:r.dc=.boulder→c.tries.length=r.size):∃ h',SameH h.length h h'∧sfn P 225 [.ptr bp 0 0,.agg (clL c v),.c (ci x)] h=some (.c (.bool (suitsB r c x)),h'):=by
 have q1:=ltG gpl
 have q1':=(List.getElem?_eq_some_iff.1 gpl).2
 have a1:∀ X:LB,(h++[X])[bp]? = some (plB r names bc gc n t):=fun X=>by rw[List.getElem?_append_left q1]; exact gpl
 have a1':=fun X=>(List.getElem?_eq_some_iff.1 (a1 X)).2
 have l1:bp<h.length+1:=by omega
 have f1:=trV_flat H
 have f2:=ruV_flat H2
 rw[u225]
 refine⟨_,(SameH.rfl' (Nat.le_refl _)).app [.cells 0 (clL c v) 0],?_⟩
 unfold suitsB
 cases hd:r.dc
 ·by_cases h1:x=0<;>simp[c225,plB,a1,a1',l1,hd,dcS,clL,-LV.flat,flat_s,flat_i,flat_b,f1,f2,h1]
 ·have e199:=S199 (P:=P) x 1 r.size
  by_cases h1:x<1
  ·have n1:¬ 1≤x:=by omega
   simp[h1] at e199
   simp[c225,plB,a1,a1',l1,hd,dcS,clL,-LV.flat,flat_s,flat_i,flat_b,f1,f2,e199,n1]
  ·by_cases h2:(r.size:Int)<x
   ·have n2:¬ x≤r.size:=by omega
    simp[h2] at e199
    simp[c225,plB,a1,a1',l1,hd,dcS,clL,-LV.flat,flat_s,flat_i,flat_b,f1,f2,e199,n2]
   ·have n1:1≤x:=by omega
    have n2:x≤r.size:=by omega
    have hl:=hlen hd
    have hta:=tr_at (c:=c) n1 (by omega)
    have hw:IntKind.i64.wrap (x-1)=x-1:=wrap64 (by omega) (by omega)
    rcases H with ⟨hn,_⟩ | ⟨hn,b,g,hv,hb⟩
    ·rw[hn] at hl
     simp at hl
     omega
    ·obtain⟨v1,v2⟩:=v
     simp only at hv f2
     subst hv
     have hbl:=ltG hb
     have b1:∀ X:LB,(h++[X])[b]? = some (.cells g (c.tries.flatMap trL) 0):=fun X=>by rw[List.getElem?_append_left hbl]; exact hb
     have b1':=fun X=>(List.getElem?_eq_some_iff.1 (b1 X)).2
     have hbl1:b<h.length+1:=by omega
     have hk:(x-1).toNat<c.tries.length:=by omega
     have hg:=trL_get c.tries (x-1).toNat 3 _ hta (by omega)
     have hcl:=trL_len c.tries
     have hg2:(trL (trAt c x))[3]? = some (.c (.bool (trAt c x).vis)):=rfl
     rw[hg2] at hg
     have n3:0≤x-1:=by omega
     have n4:x-1<c.tries.length:=by omega
     have n5:(x-1).toNat*4+3<c.tries.length*4:=by omega
     have n6:(x-1).toNat*4+4≤c.tries.length*4:=by omega
     simp[n1,n2,h1,h2] at e199
     have et:(x-1).toNat=x.toNat-1:=by omega
     rw[et] at hg hk n5 n6
     have hg':=(List.getElem?_eq_some_iff.1 hg).2
     generalize c.tries.flatMap trL=C at *
     generalize trAt c x=T at *
     simp[c225,plB,a1,a1',l1,hd,dcS,clL,-LV.flat,flat_s,flat_i,flat_b,flat_sl,f2,e199,n1,n2,hw,b1,b1',hbl1,hk,hg,hg',hcl,n3,n4,n5,n6]
 ·have e199:=S199 (P:=P) x 1 2
  have n1:(decide (1≤x) && decide (x≤2))=!(decide (x<1) || decide (2<x)):=by rw[Bool.eq_iff_iff]; simp
  simp only
  rw[n1]
  simp[c225,plB,a1,a1',l1,hd,dcS,clL,-LV.flat,flat_s,flat_i,flat_b,f1,f2,e199]
end LM.GZ
namespace LM.GZ
open Go LM
variable {P:Nat→Option SFunc} [Has P]
variable {r:CRn} {names:List Str} {s:CSs} {e:CEn} {c:CCl} {v:LV × LV} {vs:List (LV × LV)} {L:RLoc} {h:Heap}
theorem S224 (H:HpL r names s e c v vs L h) (hx:0≤e.val∧e.val≤86399999) (hlen:r.dc=.boulder→c.tries.length=r.size):∃ h',SameH h.length h h'∧sfn P 224 [.ptr L.iv 0 0,.ptr L.pv 0 0,.ptr L.cv 0 0,.ptr L.ev 0 0] h=some (.c (.bool (!decide (e.kind=.start) || suitsB r c e.val)),h'):=by
 have HK:=H.app [.cells 1 [.c (.str [115,116,97,114,116])] 0]
 have q_i:=ltG H.gi
 have q_i':=(List.getElem?_eq_some_iff.1 H.gi).2
 have a_i:=HK.gi
 have a_i':=(List.getElem?_eq_some_iff.1 HK.gi).2
 have l_i:=ltG HK.gi
 simp only[List.length_append,List.length_singleton] at l_i
 have q_p:=ltG H.gp
 have q_p':=(List.getElem?_eq_some_iff.1 H.gp).2
 have a_p:=HK.gp
 have a_p':=(List.getElem?_eq_some_iff.1 HK.gp).2
 have l_p:=ltG HK.gp
 simp only[List.length_append,List.length_singleton] at l_p
 have q_c:=ltG H.gc
 have q_c':=(List.getElem?_eq_some_iff.1 H.gc).2
 have a_c:=HK.gc
 have a_c':=(List.getElem?_eq_some_iff.1 HK.gc).2
 have l_c:=ltG HK.gc
 simp only[List.length_append,List.length_singleton] at l_c
 have q_e:=ltG H.ge
 have q_e':=(List.getElem?_eq_some_iff.1 H.ge).2
 have a_e:=HK.ge
 have a_e':=(List.getElem?_eq_some_iff.1 HK.ge).2
 have l_e:=ltG HK.ge
 simp only[List.length_append,List.length_singleton] at l_e
 have e215:=S215_1 (P:=P) .start e h L.ev H.ge
 simp only[kdS] at e215
 have hac:=clL_c H.gtr
 obtain⟨h',k1,k2⟩:=S225 (P:=P) (h++[.cells 1 [.c (.str [115,116,97,114,116])] 0]) L.bp L.bc L.gc s.cls.length s.time e.val hx HK.gpl HK.gtr HK.gru hlen
 have hs:SameH h.length h (h++[.cells 1 [.c (.str [115,116,97,114,116])] 0]):=(SameH.rfl' (Nat.le_refl _)).app _
 rw[u224]
 simp only[clL] at hac k2
 generalize decide (e.kind=.start)=b at *
 cases b
 ·refine⟨_,hs,?_⟩
  simp[c224,e215,H.gi,q_i,q_i',a_i,a_i',l_i,H.gp,q_p,q_p',a_p,a_p',l_p,H.gc,q_c,q_c',a_c,a_c',l_c,H.ge,q_e,q_e',a_e,a_e',l_e]
 ·refine⟨h',hs.trans (k1.less (by simp)),?_⟩
  simp[c224,e215,enB,clL,hac,k2,frzF_ptr,frzF_agg,frzFuncs_nil,frzFuncs_c,H.gi,q_i,q_i',a_i,a_i',l_i,H.gp,q_p,q_p',a_p,a_p',l_p,H.gc,q_c,q_c',a_c,a_c',l_c,H.ge,q_e,q_e',a_e,a_e',l_e]
def trE (t:CTr):CV:=.agg [ci t.att,ci t.zone,ci t.top,.bool t.vis]
theorem trElems (l:List CTr):∀ x ∈ l.map trE,Elem (some 4) x:=by
 intro x hx
 obtain⟨t,_,rfl⟩:=List.mem_map.1 hx
 exact⟨_,rfl,rfl,by simp[CV.flat]⟩
theorem trE_cells (l:List CTr):cellsOf (l.map trE)=l.flatMap trL:=by
 induction l with
 | nil=>rfl
 | cons a l ih=>rw[List.map_cons,List.flatMap_cons,← ih]; rfl
theorem S278 (t:CTr):fn P 278 [trE t]=some (.bool (t.vis)):=by
 rw[u278]
 simp[c278,trE]
theorem L297_278:∀ (l pre:List CTr),((pre++l).length:Int)<1000 →
  ∃ i:Nat,execS P (limS P) c297_l0 ⟨[.c (.slice ((pre++l).map trE)),.c (.func 278 [] []),.c (ci (pre++l).length),.c (ci pre.length)],[]⟩=if l.any (fun t=>t.vis)=true then some (.ret,⟨[.c (ci i)],[]⟩) else some (.exit 0,⟨[],[]⟩):=by
 intro l
 induction l with
 | nil =>
  intro pre h
  refine⟨0,?_⟩
  rw[r297_l0]
  simp[c297_l0b]
 | cons x r ih =>
  intro pre h
  obtain⟨i,ih⟩:=ih (pre++[x]) (by simpa using h)
  have es:=S278 (P:=P) x
  have hw:IntKind.i64.wrap (↑pre.length+1)=↑pre.length+1:=wrap64 (by simp at h; omega) (by simp at h; omega)
  have hlt:(pre.length:Int)<pre.length+(r.length+1):=by omega
  rw[List.any_cons]
  obtain⟨a,z,p,w⟩:=x
  cases w
  all_goals
   simp[trE,-List.any_eq_true] at ih h es
   first
    | (
     refine⟨pre.length,?_⟩
     rw[r297_l0]
     simp[c297_l0b,trE,hlt,es,-List.any_eq_true]
     done)
    | (
     refine⟨i,?_⟩
     rw[r297_l0]
     simp[c297_l0b,trE,hlt,hw,es,ih,-List.any_eq_true]
     done)
theorem S277_278 (l:List CTr) (h:l.length<1000):fn P 277 [.slice (l.map trE),.func 278 [] []]=some (.bool (l.any fun t=>t.vis)):=by
 obtain⟨i,hL⟩:=L297_278 (P:=P) l [] (by simp; omega)
 simp[-List.any_eq_true] at hL
 rw[u277]
 cases hv:l.any fun t=>t.vis
 ·rw[hv] at hL
  have e297:fn P 297 [.slice (l.map trE),.func 278 [] []]=some (ci (-1)):=by
   rw[u297]
   simp at hL
   simp[c297,hL]
  simp[c277,e297]
 ·rw[hv] at hL
  have e297:fn P 297 [.slice (l.map trE),.func 278 [] []]=some (ci i):=by
   rw[u297]
   simp at hL
   simp[c297,hL]
  simp[c277,e297]
theorem S295 (t:CTr):fn P 295 [trE t]=some (.bool (!t.vis)):=by
 rw[u295]
 simp[c295,trE]
theorem L297_295:∀ (l pre:List CTr),((pre++l).length:Int)<1000 →
  ∃ i:Nat,execS P (limS P) c297_l0 ⟨[.c (.slice ((pre++l).map trE)),.c (.func 295 [] []),.c (ci (pre++l).length),.c (ci pre.length)],[]⟩=if l.any (fun t=>!t.vis)=true then some (.ret,⟨[.c (ci i)],[]⟩) else some (.exit 0,⟨[],[]⟩):=by
 intro l
 induction l with
 | nil =>
  intro pre h
  refine⟨0,?_⟩
  rw[r297_l0]
  simp[c297_l0b]
 | cons x r ih =>
  intro pre h
  obtain⟨i,ih⟩:=ih (pre++[x]) (by simpa using h)
  have es:=S295 (P:=P) x
  have hw:IntKind.i64.wrap (↑pre.length+1)=↑pre.length+1:=wrap64 (by simp at h; omega) (by simp at h; omega)
  have hlt:(pre.length:Int)<pre.length+(r.length+1):=by omega
  rw[List.any_cons]
  obtain⟨a,z,p,w⟩:=x
  cases w
  all_goals
   simp[trE,-List.any_eq_true] at ih h es
   first
    | (
     refine⟨pre.length,?_⟩
     rw[r297_l0]
     simp[c297_l0b,trE,hlt,es,-List.any_eq_true]
     done)
    | (
     refine⟨i,?_⟩
     rw[r297_l0]
     simp[c297_l0b,trE,hlt,hw,es,ih,-List.any_eq_true]
     done)
theorem S277_295 (l:List CTr) (h:l.length<1000):fn P 277 [.slice (l.map trE),.func 295 [] []]=some (.bool (l.any fun t=>!t.vis)):=by
 obtain⟨i,hL⟩:=L297_295 (P:=P) l [] (by simp; omega)
 simp[-List.any_eq_true] at hL
 rw[u277]
 cases hv:l.any fun t=>!t.vis
 ·rw[hv] at hL
  have e297:fn P 297 [.slice (l.map trE),.func 295 [] []]=some (ci (-1)):=by
   rw[u297]
   simp at hL
   simp[c297,hL]
  simp[c277,e297]
 ·rw[hv] at hL
  have e297:fn P 297 [.slice (l.map trE),.func 295 [] []]=some (ci i):=by
   rw[u297]
   simp at hL
   simp[c297,hL]
  simp[c277,e297]
end LM.GZ
namespace LM.GZ
open Go LM
variable {P:Nat→Option SFunc} [Has P]
variable {r:CRn} {names:List Str} {s:CSs} {e:CEn} {c:CCl} {v:LV × LV} {vs:List (LV × LV)} {L:RLoc} {h:Heap}
theorem frz_tr {l:List CTr} {v:LV} (H:TrV h l v):∃ h',frz frzDepth v h=some (.slice (l.map trE),h'):=by
 rcases H with ⟨rfl,rfl⟩ | ⟨hn,b,g,rfl,hb⟩
 ·exact⟨h,by simp[frz_nil]⟩
 ·exact⟨_,frz_own (b:=b) (g:=g) (fz:=0) (e:=some 4) (ys:=l.map trE) (h:=h) (len:=l.length) (by rw[trE_cells]; exact hb) (trElems l) (by simp) none⟩
theorem S237 (h:Heap) (bp bc gc n:Nat) (t:Int) (gpl:h[bp]? = some (plB r names bc gc n t)) (H:TrV h c.tries v.1) (H2:RuV h c.runs v.2) (hl:c.tries.length<1000):∃ h',SameH h.length h h'∧sfn P 237 [.ptr bp 0 0,.agg (clL c v)] h=some (.c (.bool (unseenB r c)),h'):=by
 have q1:=ltG gpl
 have q1':=(List.getElem?_eq_some_iff.1 gpl).2
 have a1:∀ X:LB,(h++[X])[bp]? = some (plB r names bc gc n t):=fun X=>by rw[List.getElem?_append_left q1]; exact gpl
 have a1':=fun X=>(List.getElem?_eq_some_iff.1 (a1 X)).2
 have l1:bp<h.length+1:=by omega
 have f1:=trV_flat H
 have f2:=ruV_flat H2
 rw[u237]
 refine⟨_,(SameH.rfl' (Nat.le_refl _)).app [.cells 0 (clL c v) 0],?_⟩
 unfold unseenB
 cases hd:r.dc
 ·simp[c237,plB,a1,a1',l1,hd,dcS,clL,-LV.flat,flat_s,flat_i,flat_b,f1,f2]
 ·have e277:=S277_278 (P:=P) c.tries hl
  have HK:TrV (h++[.cells 0 (clL c v) 0]) c.tries v.1:=by
   rcases H with h1 | ⟨h1,b,g,h2,h3⟩
   ·exact .inl h1
   ·exact .inr ⟨h1,b,g,h2,by rw[List.getElem?_append_left (ltG h3)]; exact h3⟩
  obtain⟨h',hf⟩:=frz_tr HK
  have hac:=trV_c HK []
  simp only[clL] at hf
  simp[c237,plB,a1,a1',l1,hd,dcS,clL,-LV.flat,flat_s,flat_i,flat_b,f1,f2,frzArgs_cons,hf,e277]
  trace_state
 ·have hru:∀ X:LB,RuV (h++[X]) c.runs v.2:=fun X=>by
   rcases H2 with h1 | ⟨h1,b,g,h2,h3⟩
   ·exact .inl h1
   ·exact .inr ⟨h1,b,g,h2,by rw[List.getElem?_append_left (ltG h3)]; exact h3⟩
  obtain⟨v1,v2⟩:=v
  simp only at f1 f2
  rcases H2 with ⟨h1,h2⟩ | ⟨h1,b,g,h2,h3⟩
  ·simp only at h2
   subst h2
   rw[h1]
   simp[c237,plB,a1,a1',l1,hd,dcS,clL,-LV.flat,flat_s,flat_i,flat_b,f1,f2]
  ·simp only at h2
   subst h2
   have hn:¬ c.runs.length=0:=fun e=>h1 (List.eq_nil_of_length_eq_zero e)
   simp[c237,plB,a1,a1',l1,hd,dcS,clL,-LV.flat,flat_s,flat_i,flat_b,flat_sl,f1,h1,hn]
theorem S236 (H:HpL r names s e c v vs L h) (hl:c.tries.length<1000):∃ h',SameH h.length h h'∧sfn P 236 [.ptr L.iv 0 0,.ptr L.cv 0 0,.ptr L.pv 0 0] h=some (.c (.bool (!decide (e.kind=.absent) || (decide (c.ph=.waiting) && unseenB r c))),h'):=by
 have HK:=H.app [.cells 1 [.c (.str [97,98,115,101,110,116])] 0]
 have q_i:=ltG H.gi
 have q_i':=(List.getElem?_eq_some_iff.1 H.gi).2
 have a_i:=HK.gi
 have a_i':=(List.getElem?_eq_some_iff.1 HK.gi).2
 have l_i:=ltG HK.gi
 simp only[List.length_append,List.length_singleton] at l_i
 have q_p:=ltG H.gp
 have q_p':=(List.getElem?_eq_some_iff.1 H.gp).2
 have a_p:=HK.gp
 have a_p':=(List.getElem?_eq_some_iff.1 HK.gp).2
 have l_p:=ltG HK.gp
 simp only[List.length_append,List.length_singleton] at l_p
 have q_c:=ltG H.gc
 have q_c':=(List.getElem?_eq_some_iff.1 H.gc).2
 have a_c:=HK.gc
 have a_c':=(List.getElem?_eq_some_iff.1 HK.gc).2
 have l_c:=ltG HK.gc
 simp only[List.length_append,List.length_singleton] at l_c
 have e215:=S215_1 (P:=P) .absent e h L.ev H.ge
 simp only[kdS] at e215
 have hac:=clL_c H.gtr
 obtain⟨h',k1,k2⟩:=S237 (P:=P) (h++[.cells 1 [.c (.str [97,98,115,101,110,116])] 0]) L.bp L.bc L.gc s.cls.length s.time HK.gpl HK.gtr HK.gru hl
 have hs:SameH h.length h (h++[.cells 1 [.c (.str [97,98,115,101,110,116])] 0]):=(SameH.rfl' (Nat.le_refl _)).app _
 have p1:phS c.ph=[119,97,105,116,105,110,103]↔c.ph=.waiting:=by cases c.ph<;>simp[phS]
 have hp:phS .waiting=[119,97,105,116,105,110,103]:=rfl
 rw[u236]
 simp only[clL] at hac k2
 generalize decide (e.kind=.absent)=b at *
 cases b
 ·refine⟨_,hs,?_⟩
  simp[c236,e215,H.gi,q_i,q_i',a_i,a_i',l_i,H.gp,q_p,q_p',a_p,a_p',l_p,H.gc,q_c,q_c',a_c,a_c',l_c]
 ·by_cases h1:c.ph=.waiting
  ·refine⟨h',hs.trans (k1.less (by simp)),?_⟩
   rw[h1] at hac k2
   rw[hp] at hac k2
   simp[c236,e215,clL,h1,hp,hac,k2,frzF_ptr,frzF_agg,frzFuncs_nil,frzFuncs_c,H.gi,q_i,q_i',a_i,a_i',l_i,H.gp,q_p,q_p',a_p,a_p',l_p,H.gc,q_c,q_c',a_c,a_c',l_c]
  ·refine⟨_,hs,?_⟩
   simp[c236,e215,clL,h1,p1,H.gi,q_i,q_i',a_i,a_i',l_i,H.gp,q_p,q_p',a_p,a_p',l_p,H.gc,q_c,q_c',a_c,a_c',l_c]
end LM.GZ
namespace LM.GZ
open Go LM
variable {P:Nat→Option SFunc} [Has P]
variable {r:CRn} {names:List Str} {s:CSs} {e:CEn} {c:CCl} {v:LV × LV} {vs:List (LV × LV)} {L:RLoc} {h:Heap}
def clC (c:CCl):List CV:=[.str (phS c.ph),.str (stS c.st),ci c.place,ci c.began,ci c.used,ci c.hold,.bool c.plus,.bool c.top,.bool c.op]
def clE (c:CCl):CV:=.agg (clC c++[.slice (c.tries.map trE),.slice (c.runs.map ci)])
def rnE (r:CRn) (names:List Str):CV:=.agg [.str (dcS r.dc),.slice (names.map CV.str),ci r.size,ci r.limit]
theorem bump_get {b k i g fz:Nat} {cs:List LV} {h:Heap} (e:h[i]? = some (.cells g cs fz)):∃ fz',(LM.bump b k h)[i]? = some (.cells g cs fz'):=by
 unfold LM.bump
 split
 ·rename_i g' cs' fz' hb
  by_cases hi:b=i
  ·subst hi
   rw[hb] at e
   cases e
   exact⟨_,by rw[List.getElem?_set_self (ltG hb)]⟩
  ·exact⟨fz,by rw[List.getElem?_set_ne hi]; exact e⟩
 ·exact⟨fz,e⟩
theorem frz_cl (H:TrV h c.tries v.1) (H2:RuV h c.runs v.2):∃ h',frz frzDepth (.agg (clL c v)) h=some (clE c,h'):=by
 have e0:clL c v=(clC c).map .c++[v.1,v.2]:=rfl
 have k1:∃ h1,frz 39 v.1 h=some (.slice (c.tries.map trE),h1)∧(∀ (g:Nat) (cs:List LV) (i fz:Nat),h[i]? = some (.cells g cs fz)→∃ fz',h1[i]? = some (.cells g cs fz')):=by
  rcases H with ⟨h1,h2⟩ | ⟨h1,b,g,h2,h3⟩
  ·rw[h1,h2]
   exact⟨h,by simp[frz_39_nil],fun g cs i fz e=>⟨fz,e⟩⟩
  ·rw[h2]
   exact⟨_,frz_own39 (b:=b) (g:=g) (fz:=0) (e:=some 4) (ys:=c.tries.map trE) (h:=h) (len:=c.tries.length) (by rw[trE_cells]; exact h3) (trElems _) (by simp) none,fun g cs i fz e=>bump_get e⟩
 obtain⟨h1,e1,hb⟩:=k1
 have k2:∃ h2,frz 39 v.2 h1=some (.slice (c.runs.map ci),h2):=by
  rcases H2 with ⟨h3,h4⟩ | ⟨h3,b,g,h4,h5⟩
  ·rw[h3,h4]
   exact⟨h1,by simp[frz_39_nil]⟩
  ·obtain⟨fz,e2⟩:=hb _ _ _ _ h5
   rw[h4]
   exact⟨_,frz_own39 (b:=b) (g:=g) (fz:=fz) (e:=none) (ys:=c.runs.map ci) (h:=h1) (len:=c.runs.length) (by rw[cellsOf_ints]; exact e2) (intElems _) (by simp) none⟩
 obtain⟨h2,e2⟩:=k2
 refine⟨h2,?_⟩
 rw[frz_agg,e0,mapH_append_c 38]
 rw[mapH_cons,e1,bnd_some,mapH_cons,e2,bnd_some,mapH_nil,bnd_some,bnd_some,bnd_some,bnd_some]
 rfl
theorem S155 (x:Int):fn P 155 [rnE r names,clE c,ci x]=some (.bool (meetsB r c x)):=by
 have p1:phS c.ph=[111,110]↔c.ph=.on:=by cases c.ph<;>simp[phS]
 have hp:phS .on=[111,110]:=rfl
 rw[u155]
 unfold meetsB
 by_cases h1:c.ph=.on
 ·cases hd:r.dc
  ·simp[c155,rnE,clE,clC,h1,hp,hd,dcS]
  ·by_cases h2:c.place=x<;>simp[c155,rnE,clE,clC,h1,hp,hd,dcS,h2]
  ·by_cases h2:c.place=x<;>simp[c155,rnE,clE,clC,h1,hp,hd,dcS,h2]
 ·simp[c155,rnE,clE,clC,h1,p1]
def clB (c:CCl) (v:LV × LV):LB:=.cells 0 (clL c v) 0
def TM (bp eb bc gc n:Nat) (b:Bool) (i:Nat):List LV:=[.ptr bp 0 0,.ptr eb 0 0,.c (.bool b),.slice bc gc 0 n (some 11) none,.c (ci n),.c (ci i)]
theorem TrV.app {l:List CTr} {w:LV} (H:TrV h l w) (X:Heap):TrV (h++X) l w:=by
 rcases H with h1 | ⟨h1,b,g,h2,h3⟩
 ·exact .inl h1
 ·exact .inr ⟨h1,b,g,h2,by rw[List.getElem?_append_left (ltG h3)]; exact h3⟩
theorem RuV.app {l:List Int} {w:LV} (H:RuV h l w) (X:Heap):RuV (h++X) l w:=by
 rcases H with h1 | ⟨h1,b,g,h2,h3⟩
 ·exact .inl h1
 ·exact .inr ⟨h1,b,g,h2,by rw[List.getElem?_append_left (ltG h3)]; exact h3⟩
theorem B223 (bp eb bc gc n i:Nat) (t:Int) (R:List LV) (gpl:h[bp]? = some (plB r names bc gc n t)) (ge:h[eb]? = some (enB e)) (gr:h[bc]? = some (.cells gc R 0)) (hRl:R.length=n*11) (hn:n<1000) (hi:i<n) (hR:(R.drop (i*11)).take 11=clL c v) (H:TrV h c.tries v.1) (H2:RuV h c.runs v.2) :
  execS P (limS P) c223_l0b ⟨TM bp eb bc gc n true i,h⟩=if (decide (i=e.who) || !meetsB r c e.val)=true then some (.normal,⟨TM bp eb bc gc n true (i+1),h++[clB c v]⟩) else some (.exit 0,⟨[.c (.bool false)],h++[clB c v]⟩):=by
 obtain⟨w,kd,x,tm⟩:=e
 simp only at *
 have q1:=ltG gpl
 have q2:=ltG ge
 have q3:=ltG gr
 have q3':=(List.getElem?_eq_some_iff.1 gr).2
 have hii:(i:Int)<n:=by omega
 have hw:IntKind.i64.wrap ((i:Int)+1)=(i:Int)+1:=wrap64 (by omega) (by omega)
 have h11:11≤n*11-i*11:=by omega
 have f1:=trV_flat H
 have f2:=ruV_flat H2
 have hac:=clL_c H
 have a1:∀ X:LB,(h++[X])[bp]? = some (plB r names bc gc n t):=fun X=>by rw[List.getElem?_append_left q1]; exact gpl
 have a1':=fun X=>(List.getElem?_eq_some_iff.1 (a1 X)).2
 have l1:bp<h.length+1:=by omega
 have a2:∀ X:LB,(h++[X])[eb]? = some (enB ⟨w,kd,x,tm⟩):=fun X=>by rw[List.getElem?_append_left q2]; exact ge
 have a2':=fun X=>(List.getElem?_eq_some_iff.1 (a2 X)).2
 have l2:eb<h.length+1:=by omega
 obtain⟨h',hf⟩:=frz_cl (H.app [.cells 0 (clL c v) 0]) (H2.app _)
 have e155:=S155 (P:=P) (r:=r) (names:=names) (c:=c) x
 have hwho:((i:Int)=w)=(i=w):=propext (by omega)
 simp only[clL] at hR hac hf
 simp only[rnE,clE] at e155 hf
 by_cases h1:i=w
 ·subst h1
  simp[TM,c223_l0b,hi,hii,hw,gr,q3,q3',hRl,hR,h11,hac,-LV.flat,flat_s,flat_i,flat_b,f1,f2,a1,a1',l1,a2,a2',l2,enB,plB,clB,clL]
 ·generalize hb:meetsB r c x=b at *
  cases b
  ·simp[TM,c223_l0b,hi,hii,hw,gr,q3,q3',hRl,hR,h11,hac,-LV.flat,flat_s,flat_i,flat_b,f1,f2,a1,a1',l1,a2,a2',l2,enB,plB,hwho,h1,clB,clL,frzArgs_cons,hf,e155]
  ·simp[TM,c223_l0b,hi,hii,hw,gr,q3,q3',hRl,hR,h11,hac,-LV.flat,flat_s,flat_i,flat_b,f1,f2,a1,a1',l1,a2,a2',l2,enB,plB,hwho,h1,clB,clL,frzArgs_cons,hf,e155]
end LM.GZ
namespace LM.GZ
open Go LM
variable {P:Nat→Option SFunc} [Has P]
variable {r:CRn} {names:List Str} {s:CSs} {e:CEn} {c:CCl} {v:LV × LV} {vs:List (LV × LV)} {L:RLoc} {h:Heap}
def rowL (l:List (CCl × (LV × LV))):List LV:=l.flatMap fun x=>clL x.1 x.2
theorem clL_len (c:CCl) (v:LV × LV):(clL c v).length=11:=rfl
theorem rowL_len (l:List (CCl × (LV × LV))):(rowL l).length=l.length*11:=by
 induction l with
 | nil=>rfl
 | cons a l ih =>
  have:rowL (a::l)=clL a.1 a.2++rowL l:=rfl
  rw[this,List.length_append,ih,List.length_cons,clL_len]; omega
theorem rowL_get:∀ (l:List (CCl × (LV × LV))) (i:Nat) (x:CCl × (LV × LV)),l[i]? = some x→((rowL l).drop (i*11)).take 11=clL x.1 x.2
 | [],i,x,h=>by simp at h
 | a::l,0,x,h=>by
  simp at h
  subst h
  have:rowL (a::l)=clL a.1 a.2++rowL l:=rfl
  rw[this,Nat.zero_mul,List.drop_zero]
  exact List.take_left' (clL_len _ _)
 | a::l,i+1,x,h=>by
  have ih:=rowL_get l i x (by simpa using h)
  have:rowL (a::l)=clL a.1 a.2++rowL l:=rfl
  rw[this,← ih]
  have e1:(i+1)*11=(clL a.1 a.2).length+i*11:=by rw[clL_len]; omega
  rw[e1,List.drop_append,List.drop_eq_nil_of_le (by omega),List.nil_append]
  congr 2
  omega
structure HpP (r:CRn) (names:List Str) (s:CSs) (vs:List (LV × LV)) (bp bc gc:Nat) (h:Heap):Prop where
 pl:h[bp]? = some (plB r names bc gc s.cls.length s.time)
 row:h[bc]? = some (.cells gc (rowL (s.cls.zip vs)) 0)
 len:vs.length=s.cls.length
 all:∀ x ∈ s.cls.zip vs,TrV h x.1.tries x.2.1∧RuV h x.1.runs x.2.2
theorem TrV.same {l:List CTr} {w:LV} {h' : Heap} {n:Nat} (H:TrV h l w) (hn:h.length≤n) (hs:SameH n h h'):TrV h' l w:=by
 rcases H with h1 | ⟨h1,b,g,h2,h3⟩
 ·exact .inl h1
 ·exact .inr ⟨h1,b,g,h2,(hs.2 _ (by have:=ltG h3; omega)).trans h3⟩
theorem RuV.same {l:List Int} {w:LV} {h' : Heap} {n:Nat} (H:RuV h l w) (hn:h.length≤n) (hs:SameH n h h'):RuV h' l w:=by
 rcases H with h1 | ⟨h1,b,g,h2,h3⟩
 ·exact .inl h1
 ·exact .inr ⟨h1,b,g,h2,(hs.2 _ (by have:=ltG h3; omega)).trans h3⟩
theorem HpP.same {bp bc gc:Nat} {h' : Heap} (H:HpP r names s vs bp bc gc h) (hs:SameH h.length h h'):HpP r names s vs bp bc gc h' :=
 ⟨(hs.2 _ (ltG H.pl)).trans H.pl,(hs.2 _ (ltG H.row)).trans H.row,H.len,fun x hx=>⟨(H.all x hx).1.same (Nat.le_refl _) hs,(H.all x hx).2.same (Nat.le_refl _) hs⟩⟩
theorem gcS {n:Nat} {ts:List LV} {h:Heap} (hn:n≤h.length) (hu:∀ v ∈ ts,v.under n=true):∃ h',gc n ⟨ts,h⟩=⟨ts,h'⟩∧SameH n h h':=by
 have hs:∀ ts:List LV,(∀ v ∈ ts,v.under n=true)→scrub n ts=ts:=by
  intro ts
  induction ts with
  | nil=>intro _; rfl
  | cons v r ih =>
   intro hu
   rw[scrub,hu v (by simp),ih (fun w hw=>hu w (by simp[hw]))]
   rfl
 unfold gc
 by_cases h1:underB n (h.take n)=true
 ·refine⟨h.take n,by simp[h1,hs ts hu],by simp; omega,fun i hi=>?_⟩
  rw[List.getElem?_take_of_lt hi]
 ·exact⟨h,by simp[h1],SameH.rfl' hn⟩
theorem L223 (bp eb bc gc:Nat) (hn:s.cls.length<1000):∀ (m i:Nat) (h:Heap),i+m=s.cls.length→HpP r names s vs bp bc gc h→h[eb]? = some (enB e) →
  ∃ h',execS P (limS P) c223_l0 ⟨TM bp eb bc gc s.cls.length true i,h⟩=some (.exit 0,⟨[.c (.bool ((List.range' i m).all fun i=>decide (i=e.who) || !meetsB r (s.cls.getD i clZ) e.val))],h'⟩)∧SameH h.length h h':=by
 intro m
 induction m with
 | zero =>
  intro i h hi H ge
  have hi' : i=s.cls.length:=by omega
  refine⟨h,?_,SameH.rfl' (Nat.le_refl _)⟩
  rw[r223_l0]
  simp[TM,c223_l0b,hi']
 | succ m ih =>
  intro i h hi H ge
  have hil:i<s.cls.length:=by omega
  have hvl:i<vs.length:=by rw[H.len]; exact hil
  obtain⟨c,gc'⟩ : ∃ c,s.cls[i]? = some c:=⟨_,List.getElem?_eq_getElem hil⟩
  obtain⟨v,gv⟩ : ∃ v,vs[i]? = some v:=⟨_,List.getElem?_eq_getElem hvl⟩
  have gz:(s.cls.zip vs)[i]? = some (c,v):=by rw[List.getElem?_zip_eq_some]; exact⟨gc',gv⟩
  have hd:s.cls.getD i clZ=c:=by rw[List.getD_eq_getElem?_getD,gc']; rfl
  obtain⟨t1,t2⟩:=H.all _ (List.mem_of_getElem? gz)
  have hzl:(s.cls.zip vs).length=s.cls.length:=by rw[List.length_zip,H.len]; omega
  have hst:=B223 (P:=P) (e:=e) bp eb bc gc s.cls.length i s.time _ H.pl ge H.row (by rw[rowL_len,hzl]) hn hil (rowL_get _ i _ gz) t1 t2
  rw[List.range'_succ,List.all_cons,hd,r223_l0,hst]
  cases hb:(decide (i=e.who) || !meetsB r c e.val)
  ·simp only[Bool.false_eq_true,if_false,seqK_exit,Bool.false_and]
   exact⟨_,rfl,(SameH.rfl' (Nat.le_refl _)).app _⟩
  ·simp only[if_true,seqK_normal,Bool.true_and]
   have hs0:SameH h.length h (h++[clB c v]):=(SameH.rfl' (Nat.le_refl _)).app _
   have q1:=ltG H.pl
   have q2:=ltG H.row
   have q3:=ltG ge
   obtain⟨hg',hg1,hg2⟩:=gcS (n:=h.length) (ts:=TM bp eb bc gc s.cls.length true (i+1)) (h:=h++[clB c v]) (by simp) (by
    intro w hw
    simp only[TM,List.mem_cons,List.not_mem_nil,or_false] at hw
    rcases hw with rfl | rfl | rfl | rfl | rfl | rfl<;>simp[LV.under]<;>omega)
   show ∃ h',execS P (limS P) c223_l0 (LM.gc h.length _)=_∧_
   rw[hg1]
   have hs:=hs0.trans hg2
   obtain⟨h',i1,i2⟩:=ih (i+1) hg' (by omega) (H.same hs) ((hs.2 _ q3).trans ge)
   exact⟨h',i1,hs.trans (i2.less hs.1)⟩
def enE (e:CEn):CV:=.agg [ci e.who,.str (kdS e.kind),ci e.val,ci e.time]
theorem S223 {bp bc gc:Nat} (H:HpP r names s vs bp bc gc h) (hn:s.cls.length<1000):∃ h',SameH h.length h h'∧sfn P 223 [.ptr bp 0 0,.c (enE e)] h=some (.c (.bool (freeB r s.cls e)),h'):=by
 have hs:SameH h.length h (h++[enB e]):=(SameH.rfl' (Nat.le_refl _)).app _
 obtain⟨h',k1,k2⟩:=L223 (P:=P) (e:=e) bp h.length bc gc hn s.cls.length 0 (h++[enB e]) (by omega) (H.same hs) (by simp)
 have q1:=ltG H.pl
 have a1:∀ X:LB,(h++[X])[bp]? = some (plB r names bc gc s.cls.length s.time):=fun X=>by rw[List.getElem?_append_left q1]; exact H.pl
 have a1':=fun X=>(List.getElem?_eq_some_iff.1 (a1 X)).2
 have l1:bp<h.length+1:=by omega
 have er:(List.range' 0 s.cls.length).all (fun i=>decide (i=e.who) || !meetsB r (s.cls.getD i clZ) e.val)=freeB r s.cls e:=by rw[← List.range_eq_range']; rfl
 rw[er] at k1
 refine⟨h',hs.trans (k2.less (by simp)),?_⟩
 generalize freeB r s.cls e=b at *
 simp[TM,enB] at k1
 rw[u223]
 simp[c223,plB,enE,a1,a1',l1,k1]
end LM.GZ
namespace LM.GZ
open Go LM
variable {P:Nat→Option SFunc} [Has P]
variable {r:CRn} {names:List Str} {s:CSs} {e:CEn} {c:CCl} {v:LV × LV} {vs:List (LV × LV)} {L:RLoc} {h:Heap}
theorem S222 (H:HpL r names s e c v vs L h) (HP:HpP r names s vs L.bp L.bc L.gc h) (hn:s.cls.length<1000):∃ h',SameH h.length h h'∧sfn P 222 [.ptr L.iv 0 0,.ptr L.pv 0 0,.ptr L.ev 0 0] h=some (.c (.bool (!decide (e.kind=.start) || freeB r s.cls e)),h'):=by
 have HK:=H.app [.cells 1 [.c (.str [115,116,97,114,116])] 0]
 have q_i:=ltG H.gi
 have q_i':=(List.getElem?_eq_some_iff.1 H.gi).2
 have a_i:=HK.gi
 have a_i':=(List.getElem?_eq_some_iff.1 HK.gi).2
 have l_i:=ltG HK.gi
 simp only[List.length_append,List.length_singleton] at l_i
 have q_p:=ltG H.gp
 have q_p':=(List.getElem?_eq_some_iff.1 H.gp).2
 have a_p:=HK.gp
 have a_p':=(List.getElem?_eq_some_iff.1 HK.gp).2
 have l_p:=ltG HK.gp
 simp only[List.length_append,List.length_singleton] at l_p
 have q_e:=ltG H.ge
 have q_e':=(List.getElem?_eq_some_iff.1 H.ge).2
 have a_e:=HK.ge
 have a_e':=(List.getElem?_eq_some_iff.1 HK.ge).2
 have l_e:=ltG HK.ge
 simp only[List.length_append,List.length_singleton] at l_e
 have e215:=S215_1 (P:=P) .start e h L.ev H.ge
 simp only[kdS] at e215
 have hs:SameH h.length h (h++[.cells 1 [.c (.str [115,116,97,114,116])] 0]):=(SameH.rfl' (Nat.le_refl _)).app _
 obtain⟨h',k1,k2⟩:=S223 (P:=P) (e:=e) (HP.same hs) hn
 rw[u222]
 simp only[enE] at k2
 generalize decide (e.kind=.start)=b at *
 cases b
 ·refine⟨_,hs,?_⟩
  simp[c222,e215,H.gi,q_i,q_i',a_i,a_i',l_i,H.gp,q_p,q_p',a_p,a_p',l_p,H.ge,q_e,q_e',a_e,a_e',l_e]
 ·refine⟨h',hs.trans (k1.less (by simp)),?_⟩
  simp[c222,e215,enB,k2,frzF_ptr,frzFuncs_nil,frzFuncs_c,H.gi,q_i,q_i',a_i,a_i',l_i,H.gp,q_p,q_p',a_p,a_p',l_p,H.ge,q_e,q_e',a_e,a_e',l_e]
theorem R218 (H:HpL r names s e c v vs L h):∃ h',SameH h.length h h'∧sfn P 276 [.func 218 [] [.ptr L.ev 0 0,.ptr L.pv 0 0]] h=some (.c (.bool (!(decide (s.time≤e.time)))),h'):=by
 obtain⟨h',k1,k2⟩:=S218 (P:=P) H
 refine⟨h',k1,?_⟩
 rw[u276]
 generalize (decide (s.time≤e.time))=b at *
 simp[c276,k2,frzF_ptr,frzFuncs_nil]
theorem R219 (H:HpL r names s e c v vs L h):∃ h',SameH h.length h h'∧sfn P 276 [.func 219 [] [.ptr L.cv 0 0,.ptr L.iv 0 0]] h=some (.c (.bool (!(decide (c.ph≠.done) || (decide (e.kind=.bar) && decide (c.st≠.dsq))))),h'):=by
 obtain⟨h',k1,k2⟩:=S219 (P:=P) H
 refine⟨h',k1,?_⟩
 rw[u276]
 generalize (decide (c.ph≠.done) || (decide (e.kind=.bar) && decide (c.st≠.dsq)))=b at *
 simp[c276,k2,frzF_ptr,frzFuncs_nil]
theorem R220 (H:HpL r names s e c v vs L h):∃ h',SameH h.length h h'∧sfn P 276 [.func 220 [] [.ptr L.kv 0 0,.ptr L.pv 0 0]] h=some (.c (.bool (!(kindIn e.kind r.dc))),h'):=by
 obtain⟨h',k1,k2⟩:=S220 (P:=P) H
 refine⟨h',k1,?_⟩
 rw[u276]
 generalize (kindIn e.kind r.dc)=b at *
 simp[c276,k2,frzF_ptr,frzFuncs_nil]
theorem R221 (H:HpL r names s e c v vs L h):∃ h',SameH h.length h h'∧sfn P 276 [.func 221 [] [.ptr L.iv 0 0,.ptr L.cv 0 0]] h=some (.c (.bool (!(!decide (e.kind=.start) || decide (c.ph=.waiting)))),h'):=by
 obtain⟨h',k1,k2⟩:=S221 (P:=P) H
 refine⟨h',k1,?_⟩
 rw[u276]
 generalize (!decide (e.kind=.start) || decide (c.ph=.waiting))=b at *
 simp[c276,k2,frzF_ptr,frzFuncs_nil]
theorem R222 (H:HpL r names s e c v vs L h) (HP:HpP r names s vs L.bp L.bc L.gc h) (hn:s.cls.length<1000):∃ h',SameH h.length h h'∧sfn P 276 [.func 222 [] [.ptr L.iv 0 0,.ptr L.pv 0 0,.ptr L.ev 0 0]] h=some (.c (.bool (!(!decide (e.kind=.start) || freeB r s.cls e))),h'):=by
 obtain⟨h',k1,k2⟩:=S222 (P:=P) H HP hn
 refine⟨h',k1,?_⟩
 rw[u276]
 generalize (!decide (e.kind=.start) || freeB r s.cls e)=b at *
 simp[c276,k2,frzF_ptr,frzFuncs_nil]
theorem R224 (H:HpL r names s e c v vs L h) (hx:0≤e.val∧e.val≤86399999) (hlen:r.dc=.boulder→c.tries.length=r.size):∃ h',SameH h.length h h'∧sfn P 276 [.func 224 [] [.ptr L.iv 0 0,.ptr L.pv 0 0,.ptr L.cv 0 0,.ptr L.ev 0 0]] h=some (.c (.bool (!(!decide (e.kind=.start) || suitsB r c e.val))),h'):=by
 obtain⟨h',k1,k2⟩:=S224 (P:=P) H hx hlen
 refine⟨h',k1,?_⟩
 rw[u276]
 generalize (!decide (e.kind=.start) || suitsB r c e.val)=b at *
 simp[c276,k2,frzF_ptr,frzFuncs_nil]
theorem R226 (H:HpL r names s e c v vs L h):∃ h',SameH h.length h h'∧sfn P 276 [.func 226 [] [.ptr L.iv 0 0,.ptr L.cv 0 0]] h=some (.c (.bool (!((decide (e.kind=.start) || (decide (e.kind=.absent) || decide (e.kind=.bar))) || decide (c.ph=.on)))),h'):=by
 obtain⟨h',k1,k2⟩:=S226 (P:=P) H
 refine⟨h',k1,?_⟩
 rw[u276]
 generalize ((decide (e.kind=.start) || (decide (e.kind=.absent) || decide (e.kind=.bar))) || decide (c.ph=.on))=b at *
 simp[c276,k2,frzF_ptr,frzFuncs_nil]
theorem R227 (H:HpL r names s e c v vs L h):∃ h',SameH h.length h h'∧sfn P 276 [.func 227 [] [.ptr L.iv 0 0,.ptr L.ev 0 0,.ptr L.lv 0 0]] h=some (.c (.bool (!(!(decide (e.kind=.hold) || (decide (e.kind=.plus) || (decide (e.kind=.attempt) || (decide (e.kind=.zone) || decide (e.kind=.top))))) || decide (e.time≤c.began+r.limit)))),h'):=by
 obtain⟨h',k1,k2⟩:=S227 (P:=P) H
 refine⟨h',k1,?_⟩
 rw[u276]
 generalize (!(decide (e.kind=.hold) || (decide (e.kind=.plus) || (decide (e.kind=.attempt) || (decide (e.kind=.zone) || decide (e.kind=.top))))) || decide (e.time≤c.began+r.limit))=b at *
 simp[c276,k2,frzF_ptr,frzFuncs_nil]
theorem R228 (H:HpL r names s e c v vs L h):∃ h',SameH h.length h h'∧sfn P 276 [.func 228 [] [.ptr L.iv 0 0,.ptr L.ev 0 0,.ptr L.lv 0 0]] h=some (.c (.bool (!(!decide (e.kind=.out) || decide (c.began+r.limit≤e.time)))),h'):=by
 obtain⟨h',k1,k2⟩:=S228 (P:=P) H
 refine⟨h',k1,?_⟩
 rw[u276]
 generalize (!decide (e.kind=.out) || decide (c.began+r.limit≤e.time))=b at *
 simp[c276,k2,frzF_ptr,frzFuncs_nil]
theorem R229 (H:HpL r names s e c v vs L h):∃ h',SameH h.length h h'∧sfn P 276 [.func 229 [] [.ptr L.iv 0 0,.ptr L.ev 0 0,.ptr L.cv 0 0,.ptr L.pv 0 0]] h=some (.c (.bool (!(!decide (e.kind=.hold) || (decide (c.hold<e.val) && decide (e.val≤r.size))))),h'):=by
 obtain⟨h',k1,k2⟩:=S229 (P:=P) H
 refine⟨h',k1,?_⟩
 rw[u276]
 generalize (!decide (e.kind=.hold) || (decide (c.hold<e.val) && decide (e.val≤r.size)))=b at *
 simp[c276,k2,frzF_ptr,frzFuncs_nil]
theorem R230 (H:HpL r names s e c v vs L h):∃ h',SameH h.length h h'∧sfn P 276 [.func 230 [] [.ptr L.iv 0 0,.ptr L.cv 0 0,.ptr L.pv 0 0]] h=some (.c (.bool (!(!decide (e.kind=.plus) || (!c.plus && decide (c.hold<r.size))))),h'):=by
 obtain⟨h',k1,k2⟩:=S230 (P:=P) H
 refine⟨h',k1,?_⟩
 rw[u276]
 generalize (!decide (e.kind=.plus) || (!c.plus && decide (c.hold<r.size)))=b at *
 simp[c276,k2,frzF_ptr,frzFuncs_nil]
theorem R231 (H:HpL r names s e c v vs L h):∃ h',SameH h.length h h'∧sfn P 276 [.func 231 [] [.ptr L.pv 0 0,.ptr L.cv 0 0,.ptr L.ev 0 0]] h=some (.c (.bool (!(readyB r c e.kind))),h'):=by
 obtain⟨h',k1,k2⟩:=S231 (P:=P) H
 refine⟨h',k1,?_⟩
 rw[u276]
 generalize (readyB r c e.kind)=b at *
 simp[c276,k2,frzF_ptr,frzFuncs_nil]
theorem R233 (H:HpL r names s e c v vs L h):∃ h',SameH h.length h h'∧sfn P 276 [.func 233 [] [.ptr L.iv 0 0,.ptr L.cv 0 0,.ptr L.tv 0 0]] h=some (.c (.bool (!(!decide (e.kind=.attempt) || (!c.op && decide ((tNow r c).top=0) && decide ((tNow r c).att<99))))),h'):=by
 obtain⟨h',k1,k2⟩:=S233 (P:=P) H
 refine⟨h',k1,?_⟩
 rw[u276]
 generalize (!decide (e.kind=.attempt) || (!c.op && decide ((tNow r c).top=0) && decide ((tNow r c).att<99)))=b at *
 simp[c276,k2,frzF_ptr,frzFuncs_nil]
theorem R234 (H:HpL r names s e c v vs L h):∃ h',SameH h.length h h'∧sfn P 276 [.func 234 [] [.ptr L.iv 0 0,.ptr L.tv 0 0]] h=some (.c (.bool (!(!decide (e.kind=.zone) || (decide ((tNow r c).zone=0))))),h'):=by
 obtain⟨h',k1,k2⟩:=S234 (P:=P) H
 refine⟨h',k1,?_⟩
 rw[u276]
 generalize (!decide (e.kind=.zone) || (decide ((tNow r c).zone=0)))=b at *
 simp[c276,k2,frzF_ptr,frzFuncs_nil]
theorem R235 (H:HpL r names s e c v vs L h) (hw:IntKind.i64.wrap (e.time-c.began)=e.time-c.began):∃ h',SameH h.length h h'∧sfn P 276 [.func 235 [] [.ptr L.iv 0 0,.ptr L.ev 0 0,.ptr L.cv 0 0]] h=some (.c (.bool (!(!decide (e.kind=.finish) || (decide (1≤e.val) && decide (e.val≤e.time-c.began))))),h'):=by
 obtain⟨h',k1,k2⟩:=S235 (P:=P) H hw
 refine⟨h',k1,?_⟩
 rw[u276]
 generalize (!decide (e.kind=.finish) || (decide (1≤e.val) && decide (e.val≤e.time-c.began)))=b at *
 simp[c276,k2,frzF_ptr,frzFuncs_nil]
theorem R236 (H:HpL r names s e c v vs L h) (hl:c.tries.length<1000):∃ h',SameH h.length h h'∧sfn P 276 [.func 236 [] [.ptr L.iv 0 0,.ptr L.cv 0 0,.ptr L.pv 0 0]] h=some (.c (.bool (!(!decide (e.kind=.absent) || (decide (c.ph=.waiting) && unseenB r c)))),h'):=by
 obtain⟨h',k1,k2⟩:=S236 (P:=P) H hl
 refine⟨h',k1,?_⟩
 rw[u276]
 generalize (!decide (e.kind=.absent) || (decide (c.ph=.waiting) && unseenB r c))=b at *
 simp[c276,k2,frzF_ptr,frzFuncs_nil]
def fnsL (L:RLoc):List LV:=[.func 218 [] [.ptr L.ev 0 0,.ptr L.pv 0 0],.func 219 [] [.ptr L.cv 0 0,.ptr L.iv 0 0],.func 220 [] [.ptr L.kv 0 0,.ptr L.pv 0 0],.func 221 [] [.ptr L.iv 0 0,.ptr L.cv 0 0],.func 222 [] [.ptr L.iv 0 0,.ptr L.pv 0 0,.ptr L.ev 0 0],.func 224 [] [.ptr L.iv 0 0,.ptr L.pv 0 0,.ptr L.cv 0 0,.ptr L.ev 0 0],.func 226 [] [.ptr L.iv 0 0,.ptr L.cv 0 0],.func 227 [] [.ptr L.iv 0 0,.ptr L.ev 0 0,.ptr L.lv 0 0],.func 228 [] [.ptr L.iv 0 0,.ptr L.ev 0 0,.ptr L.lv 0 0],.func 229 [] [.ptr L.iv 0 0,.ptr L.ev 0 0,.ptr L.cv 0 0,.ptr L.pv 0 0],.func 230 [] [.ptr L.iv 0 0,.ptr L.cv 0 0,.ptr L.pv 0 0],.func 231 [] [.ptr L.pv 0 0,.ptr L.cv 0 0,.ptr L.ev 0 0],.func 233 [] [.ptr L.iv 0 0,.ptr L.cv 0 0,.ptr L.tv 0 0],.func 234 [] [.ptr L.iv 0 0,.ptr L.tv 0 0],.func 235 [] [.ptr L.iv 0 0,.ptr L.ev 0 0,.ptr L.cv 0 0],.func 236 [] [.ptr L.iv 0 0,.ptr L.cv 0 0,.ptr L.pv 0 0]]
def ruleL (r:CRn) (s:CSs) (e:CEn) (c:CCl):List Bool:=[decide (s.time≤e.time),decide (c.ph≠.done) || (decide (e.kind=.bar) && decide (c.st≠.dsq)),kindIn e.kind r.dc,!decide (e.kind=.start) || decide (c.ph=.waiting),!decide (e.kind=.start) || freeB r s.cls e,!decide (e.kind=.start) || suitsB r c e.val,(decide (e.kind=.start) || (decide (e.kind=.absent) || decide (e.kind=.bar))) || decide (c.ph=.on),!(decide (e.kind=.hold) || (decide (e.kind=.plus) || (decide (e.kind=.attempt) || (decide (e.kind=.zone) || decide (e.kind=.top))))) || decide (e.time≤c.began+r.limit),!decide (e.kind=.out) || decide (c.began+r.limit≤e.time),!decide (e.kind=.hold) || (decide (c.hold<e.val) && decide (e.val≤r.size)),!decide (e.kind=.plus) || (!c.plus && decide (c.hold<r.size)),readyB r c e.kind,!decide (e.kind=.attempt) || (!c.op && decide ((tNow r c).top=0) && decide ((tNow r c).att<99)),!decide (e.kind=.zone) || (decide ((tNow r c).zone=0)),!decide (e.kind=.finish) || (decide (1≤e.val) && decide (e.val≤e.time-c.began)),!decide (e.kind=.absent) || (decide (c.ph=.waiting) && unseenB r c)]
theorem rule_eq (r:CRn) (s:CSs) (e:CEn) (c:CCl):ruleL r s e c=rulesL r s e c:=by
 simp only[ruleL,rulesL,Bool.or_assoc]
theorem L275 (fs:List LV) (bs:List Bool) (hb:bs.length=fs.length) (hl:fs.length<1000) (lb:Nat) (h0:Heap) (hlb:h0[lb]? = some (.cells 1 fs 0)) (hrun:∀ (i:Nat) (F:LV) (b:Bool),fs[i]? = some F→bs[i]? = some b→∀ k,SameH h0.length h0 k→∃ k',SameH k.length k k'∧sfn P 276 [F] k=some (.c (.bool (!b)),k')) :
  ∀ (m i:Nat) (h:Heap),i+m=fs.length→SameH h0.length h0 h→∃ h',SameH h.length h h'∧execS P (limS P) c275_l0 ⟨[.slice lb 1 0 fs.length none (some fs.length),.c (.func 276 [] []),.c (ci fs.length),.c (ci i)],h⟩=if brokenL (i+1) (bs.drop i)=0 then some (.exit 0,⟨[],h'⟩) else some (.ret,⟨[.c (ci ((brokenL (i+1) (bs.drop i):Int)-1))],h'⟩):=by
 have hlt:=ltG hlb
 intro m
 induction m with
 | zero =>
  intro i h hi hs
  refine⟨h,SameH.rfl' (Nat.le_refl _),?_⟩
  have hi' : i=fs.length:=by omega
  have hd:bs.drop i=[]:=List.drop_eq_nil_of_le (by omega)
  rw[hd,r275_l0]
  simp[c275_l0b,hi',brokenL]
 | succ m ih =>
  intro i h hi hs
  have hil:i<fs.length:=by omega
  have hbl:i<bs.length:=by omega
  obtain⟨F,gF⟩ : ∃ F,fs[i]? = some F:=⟨_,List.getElem?_eq_getElem hil⟩
  obtain⟨b,gb⟩ : ∃ b,bs[i]? = some b:=⟨_,List.getElem?_eq_getElem hbl⟩
  have gF':=(List.getElem?_eq_some_iff.1 gF).2
  obtain⟨k',k1,k2⟩:=hrun i F b gF gb h hs
  have gl:h[lb]? = some (.cells 1 fs 0):=(hs.2 _ hlt).trans hlb
  have gl':=(List.getElem?_eq_some_iff.1 gl).2
  have gll:=ltG gl
  have hii:(i:Int)<fs.length:=by omega
  have hw:IntKind.i64.wrap ((i:Int)+1)=(i:Int)+1:=wrap64 (by omega) (by omega)
  have hd:bs.drop i=b::bs.drop (i+1):=by rw[List.drop_eq_getElem_cons hbl,(List.getElem?_eq_some_iff.1 gb).2]
  rw[hd,brokenL,r275_l0]
  cases b
  ·refine⟨k',k1,?_⟩
   have e1:((i+1:Nat):Int)-1=i:=by omega
   simp only[Bool.false_eq_true,if_false]
   rw[if_neg (by omega:¬ i+1=0),e1]
   simp at k2
   simp[c275_l0b,hil,hii,gl,gl',gll,gF,gF',k2]
  ·rw[if_pos rfl]
   simp at k2
   obtain⟨hg',hg1,hg2⟩:=gcS (n:=h.length) (ts:=[.slice lb 1 0 fs.length none (some fs.length),.c (.func 276 [] []),.c (ci fs.length),.c (ci ((i:Int)+1))]) (h:=k') k1.1 (by
    intro w hw
    simp only[List.mem_cons,List.not_mem_nil,or_false] at hw
    rcases hw with rfl | rfl | rfl | rfl<;>simp[LV.under]<;>omega)
   obtain⟨h',i1,i2⟩:=ih (i+1) hg' (by omega) (hs.trans ((k1.trans hg2).less hs.1))
   refine⟨h',(k1.trans hg2).trans (i1.less hg2.1),?_⟩
   have ek:((i+1:Nat):Int)=(i:Int)+1:=by omega
   rw[ek] at i2
   rw[← i2,← hg1]
   simp[c275_l0b,hil,hii,gl,gl',gll,gF,gF',hw,k2,-LM.gc]
end LM.GZ
namespace LM.GZ
open Go LM
variable {P:Nat→Option SFunc} [Has P]
variable {r:CRn} {names:List Str} {s:CSs} {e:CEn} {c:CCl} {v:LV × LV} {vs:List (LV × LV)} {L:RLoc} {h:Heap}
def kdF:CKd→Nat
 | .start=>258
 | .hold=>259
 | .plus=>260
 | .attempt=>261
 | .zone=>262
 | .top=>263
 | .fall=>264
 | .leave=>265
 | .out=>267
 | .finish=>268
 | .wrong=>270
 | .incident=>272
 | .absent=>273
 | .bar=>274
def kdAll:List CKd:=[.start,.hold,.plus,.attempt,.zone,.top,.fall,.leave,.out,.finish,.wrong,.incident,.absent,.bar]
def kdC (k:CKd):CV:=.agg [.slice ((kdD k).map fun d=>.str (dcS d)),.bool (valued k),.func (kdF k) [] []]
def kdMap:CV:=.map (kdAll.map fun k=>.str (kdS k)) (kdAll.map kdC)
theorem keyS (x:Str):keyOk (.one 1) (.str x)=true:=rfl
theorem S214:fn P 214 []=some kdMap:=by
 have f0:findK (.one 1) (.str [115,116,97,114,116]) []=some none:=rfl
 have f1:findK (.one 1) (.str [104,111,108,100]) [.str [115,116,97,114,116]]=some none:=rfl
 have f2:findK (.one 1) (.str [112,108,117,115]) [.str [115,116,97,114,116],.str [104,111,108,100]]=some none:=rfl
 have f3:findK (.one 1) (.str [97,116,116,101,109,112,116]) [.str [115,116,97,114,116],.str [104,111,108,100],.str [112,108,117,115]]=some none:=rfl
 have f4:findK (.one 1) (.str [122,111,110,101]) [.str [115,116,97,114,116],.str [104,111,108,100],.str [112,108,117,115],.str [97,116,116,101,109,112,116]]=some none:=rfl
 have f5:findK (.one 1) (.str [116,111,112]) [.str [115,116,97,114,116],.str [104,111,108,100],.str [112,108,117,115],.str [97,116,116,101,109,112,116],.str [122,111,110,101]]=some none:=rfl
 have f6:findK (.one 1) (.str [102,97,108,108]) [.str [115,116,97,114,116],.str [104,111,108,100],.str [112,108,117,115],.str [97,116,116,101,109,112,116],.str [122,111,110,101],.str [116,111,112]]=some none:=rfl
 have f7:findK (.one 1) (.str [108,101,97,118,101]) [.str [115,116,97,114,116],.str [104,111,108,100],.str [112,108,117,115],.str [97,116,116,101,109,112,116],.str [122,111,110,101],.str [116,111,112],.str [102,97,108,108]]=some none:=rfl
 have f8:findK (.one 1) (.str [111,117,116]) [.str [115,116,97,114,116],.str [104,111,108,100],.str [112,108,117,115],.str [97,116,116,101,109,112,116],.str [122,111,110,101],.str [116,111,112],.str [102,97,108,108],.str [108,101,97,118,101]]=some none:=rfl
 have f9:findK (.one 1) (.str [102,105,110,105,115,104]) [.str [115,116,97,114,116],.str [104,111,108,100],.str [112,108,117,115],.str [97,116,116,101,109,112,116],.str [122,111,110,101],.str [116,111,112],.str [102,97,108,108],.str [108,101,97,118,101],.str [111,117,116]]=some none:=rfl
 have f10:findK (.one 1) (.str [102,97,108,115,101]) [.str [115,116,97,114,116],.str [104,111,108,100],.str [112,108,117,115],.str [97,116,116,101,109,112,116],.str [122,111,110,101],.str [116,111,112],.str [102,97,108,108],.str [108,101,97,118,101],.str [111,117,116],.str [102,105,110,105,115,104]]=some none:=rfl
 have f11:findK (.one 1) (.str [105,110,99,105,100,101,110,116]) [.str [115,116,97,114,116],.str [104,111,108,100],.str [112,108,117,115],.str [97,116,116,101,109,112,116],.str [122,111,110,101],.str [116,111,112],.str [102,97,108,108],.str [108,101,97,118,101],.str [111,117,116],.str [102,105,110,105,115,104],.str [102,97,108,115,101]]=some none:=rfl
 have f12:findK (.one 1) (.str [97,98,115,101,110,116]) [.str [115,116,97,114,116],.str [104,111,108,100],.str [112,108,117,115],.str [97,116,116,101,109,112,116],.str [122,111,110,101],.str [116,111,112],.str [102,97,108,108],.str [108,101,97,118,101],.str [111,117,116],.str [102,105,110,105,115,104],.str [102,97,108,115,101],.str [105,110,99,105,100,101,110,116]]=some none:=rfl
 have f13:findK (.one 1) (.str [98,97,114]) [.str [115,116,97,114,116],.str [104,111,108,100],.str [112,108,117,115],.str [97,116,116,101,109,112,116],.str [122,111,110,101],.str [116,111,112],.str [102,97,108,108],.str [108,101,97,118,101],.str [111,117,116],.str [102,105,110,105,115,104],.str [102,97,108,115,101],.str [105,110,99,105,100,101,110,116],.str [97,98,115,101,110,116]]=some none:=rfl
 rw[u214]
 simp[c214,keyS,f0,f1,f2,f3,f4,f5,f6,f7,f8,f9,f10,f11,f12,f13]
 rfl
theorem find_kd (k:CKd):∃ i,findK (.one 1) (.str (kdS k)) (kdAll.map fun k=>.str (kdS k))=some (some i)∧(kdAll.map kdC)[i]? = some (kdC k):=by
 cases k
 all_goals first
  | exact⟨0,rfl,rfl⟩
  | exact⟨1,rfl,rfl⟩
  | exact⟨2,rfl,rfl⟩
  | exact⟨3,rfl,rfl⟩
  | exact⟨4,rfl,rfl⟩
  | exact⟨5,rfl,rfl⟩
  | exact⟨6,rfl,rfl⟩
  | exact⟨7,rfl,rfl⟩
  | exact⟨8,rfl,rfl⟩
  | exact⟨9,rfl,rfl⟩
  | exact⟨10,rfl,rfl⟩
  | exact⟨11,rfl,rfl⟩
  | exact⟨12,rfl,rfl⟩
  | exact⟨13,rfl,rfl⟩
theorem trB_get {l:List CTr} {w:LV} {h:Heap} {x:Int} (H:TrV h l w) (h1:1≤x) (h2:x≤l.length):∃ b g,w=.slice b g 0 l.length (some 4) none∧h[b]? = some (.cells g (l.flatMap trL) 0):=by
 rcases H with ⟨hn,_⟩ | ⟨_,b,g,hv,hb⟩
 ·rw[hn] at h2
  simp at h2
  omega
 ·exact⟨b,g,hv,hb⟩
theorem S216v (cv:Nat) (h:Heap) (gC:h[cv]? = some (.cells 0 (clL c v) 0)) (H:TrV h c.tries v.1) (h1:1≤c.place) (h2:c.place≤c.tries.length) (hl:c.tries.length<1000):∃ b g,h[b]? = some (.cells g (c.tries.flatMap trL) 0)∧sfn P 216 [.ptr cv 0 0] h=some (.ptr b g ((c.place-1).toNat*4),h):=by
 obtain⟨b,g,hv,hb⟩:=trB_get H h1 h2
 refine⟨b,g,hb,?_⟩
 obtain⟨v1,v2⟩:=v
 simp only at hv
 subst hv
 have q1:=ltG gC
 have q1':=(List.getElem?_eq_some_iff.1 gC).2
 have q2:=ltG hb
 have q2':=(List.getElem?_eq_some_iff.1 hb).2
 have hw:IntKind.i64.wrap (c.place-1)=c.place-1:=wrap64 (by omega) (by omega)
 have n3:0≤c.place-1:=by omega
 have n4:c.place-1<c.tries.length:=by omega
 have n5:1≤c.place:=h1
 have et:(c.place-1).toNat=c.place.toNat-1:=by omega
 rw[et]
 rw[u216]
 simp[c216,gC,q1,q1',clL,hb,q2,q2',hw,n3,n4,n5]
theorem S217 (fs:List LV) (bs:List Bool) (hb:bs.length=fs.length) (hl:fs.length<1000) (lb:Nat) (h:Heap) (hlb:h[lb]? = some (.cells 1 fs 0)) (hrun:∀ (i:Nat) (F:LV) (b:Bool),fs[i]? = some F→bs[i]? = some b→∀ k,SameH h.length h k→∃ k',SameH k.length k k'∧sfn P 276 [F] k=some (.c (.bool (!b)),k')) :
  ∃ h',SameH h.length h h'∧sfn P 217 [.slice lb 1 0 fs.length none (some fs.length)] h=some (.c (ci (brokenL 1 bs)),h'):=by
 obtain⟨h',k1,k2⟩:=L275 (P:=P) fs bs hb hl lb h hlb hrun fs.length 0 h (by omega) (SameH.rfl' (Nat.le_refl _))
 refine⟨h',k1,?_⟩
 rw[List.drop_zero,Nat.zero_add] at k2
 have hbr:brokenL 1 bs≤bs.length:=by
  have key:∀ (l:List Bool) (i:Nat),brokenL i l≤i+l.length-1:=by
   intro l
   induction l with
   | nil=>intro i; simp[brokenL]
   | cons a l ih =>
    intro i
    rw[brokenL]
    have:=ih (i+1)
    simp only[List.length_cons]
    split<;>omega
  have:=key bs 1
  omega
 generalize brokenL 1 bs=B at *
 have hlB:LV.flat (.slice lb 1 0 fs.length none (some fs.length))=true:=rfl
 by_cases h0:B=0
 ·subst h0
  simp at k2
  have e275:sfn P 275 [.slice lb 1 0 fs.length none (some fs.length),.c (.func 276 [] [])] h=some (.c (ci (-1)),h'):=by
   rw[u275]
   simp[c275,k2]
  have w0:IntKind.i64.wrap 0=0:=rfl
  rw[u217]
  simp[c217,e275,w0]
 ·rw[if_neg h0] at k2
  simp at k2
  have e275:sfn P 275 [.slice lb 1 0 fs.length none (some fs.length),.c (.func 276 [] [])] h=some (.c (ci ((B:Int)-1)),h'):=by
   rw[u275]
   simp[c275,k2]
  have hw:IntKind.i64.wrap (1+((B:Int)-1))=B:=by
   have:(1+((B:Int)-1))=B:=by omega
   rw[this]
   exact wrap64 (by omega) (by omega)
  rw[u217]
  simp[c217,e275,hw]
end LM.GZ
namespace LM.GZ
open Go LM
variable {P:Nat→Option SFunc} [Has P]
variable {r:CRn} {names:List Str} {s:CSs} {e:CEn} {c:CCl} {v:LV × LV} {vs:List (LV × LV)} {L:RLoc} {h:Heap}
theorem HpL.same {h' : Heap} (H:HpL r names s e c v vs L h) (hs:SameH h.length h h'):HpL r names s e c v vs L h':=by
 have key:∀ {i:Nat} {B:LB},h[i]? = some B→h'[i]? = some B:=fun e=>(hs.2 _ (ltG e)).trans e
 refine⟨key H.gpl,key H.gp,key H.ge,key H.gc,?_,key H.gi,key H.gl,key H.gt,key H.grow,H.gtr.same (Nat.le_refl _) hs,H.gru.same (Nat.le_refl _) hs⟩
 obtain⟨A,B,e⟩:=H.gk
 exact⟨A,B,key e⟩
theorem runs_rules (K:Heap) (HK:HpL r names s e c v vs L K) (HP:HpP r names s vs L.bp L.bc L.gc K) (hn:s.cls.length<1000) (hx:0≤e.val∧e.val≤86399999) (hlen:r.dc=.boulder→c.tries.length=r.size) (hwt:IntKind.i64.wrap (e.time-c.began)=e.time-c.began) (hl:c.tries.length<1000) :
  ∀ (i:Nat) (F:LV) (b:Bool),(fnsL L)[i]? = some F→(ruleL r s e c)[i]? = some b→∀ k,SameH K.length K k→∃ k',SameH k.length k k'∧sfn P 276 [F] k=some (.c (.bool (!b)),k'):=by
 intro i F b hF hb k hk
 have Hk:=HK.same hk
 have HPk:=HP.same hk
 rcases i with _|_|_|_|_|_|_|_|_|_|_|_|_|_|_|_|i
 ·have e1:=Option.some.inj hF
  have e2:=Option.some.inj hb
  rw[← e1,← e2]
  exact R218 Hk
 ·have e1:=Option.some.inj hF
  have e2:=Option.some.inj hb
  rw[← e1,← e2]
  exact R219 Hk
 ·have e1:=Option.some.inj hF
  have e2:=Option.some.inj hb
  rw[← e1,← e2]
  exact R220 Hk
 ·have e1:=Option.some.inj hF
  have e2:=Option.some.inj hb
  rw[← e1,← e2]
  exact R221 Hk
 ·have e1:=Option.some.inj hF
  have e2:=Option.some.inj hb
  rw[← e1,← e2]
  exact R222 Hk HPk hn
 ·have e1:=Option.some.inj hF
  have e2:=Option.some.inj hb
  rw[← e1,← e2]
  exact R224 Hk hx hlen
 ·have e1:=Option.some.inj hF
  have e2:=Option.some.inj hb
  rw[← e1,← e2]
  exact R226 Hk
 ·have e1:=Option.some.inj hF
  have e2:=Option.some.inj hb
  rw[← e1,← e2]
  exact R227 Hk
 ·have e1:=Option.some.inj hF
  have e2:=Option.some.inj hb
  rw[← e1,← e2]
  exact R228 Hk
 ·have e1:=Option.some.inj hF
  have e2:=Option.some.inj hb
  rw[← e1,← e2]
  exact R229 Hk
 ·have e1:=Option.some.inj hF
  have e2:=Option.some.inj hb
  rw[← e1,← e2]
  exact R230 Hk
 ·have e1:=Option.some.inj hF
  have e2:=Option.some.inj hb
  rw[← e1,← e2]
  exact R231 Hk
 ·have e1:=Option.some.inj hF
  have e2:=Option.some.inj hb
  rw[← e1,← e2]
  exact R233 Hk
 ·have e1:=Option.some.inj hF
  have e2:=Option.some.inj hb
  rw[← e1,← e2]
  exact R234 Hk
 ·have e1:=Option.some.inj hF
  have e2:=Option.some.inj hb
  rw[← e1,← e2]
  exact R235 Hk hwt
 ·have e1:=Option.some.inj hF
  have e2:=Option.some.inj hb
  rw[← e1,← e2]
  exact R236 Hk hl
 ·simp[fnsL] at hF
def hp7 (e:CEn) (c:CCl) (v:LV × LV) (bp n:Nat) (lim:Int) (T:List LV):Heap:=[.cells 0 [.ptr bp 0 0] 0,enB e,.cells 0 (clL c v) 0,.cells 0 [.c (.slice ((kdD e.kind).map fun d=>.str (dcS d))),.c (.bool (valued e.kind)),.c (.func (kdF e.kind) [] [])] 0,.cells 0 [.func 215 [] [.ptr (n+1) 0 0]] 0,.cells 0 [.c (ci lim)] 0,.cells 0 T 0]
theorem hp7_ok {bp bc gc:Nat} (HP:HpP r names s vs bp bc gc h) (hT:TrV h c.tries v.1) (hR:RuV h c.runs v.2):HpL r names s e c v vs ⟨bp,h.length,h.length+1,h.length+2,h.length+3,h.length+4,h.length+5,h.length+6,bc,gc⟩ (h++hp7 e c v bp h.length (c.began+r.limit) (trL (tNow r c))):=by
 have key:∀ {i:Nat} {B:LB},h[i]? = some B→(h++hp7 e c v bp h.length (c.began+r.limit) (trL (tNow r c)))[i]? = some B:=fun e=>by rw[List.getElem?_append_left (ltG e)]; exact e
 refine⟨key HP.pl,?_,?_,?_,⟨.c (.bool (valued e.kind)),.c (.func (kdF e.kind) [] []),?_⟩,?_,?_,?_,key HP.row,hT.app _,hR.app _⟩
 all_goals
  simp only
  rw[List.getElem?_append_right (by omega)]
  simp[hp7]
theorem trL_take (l:List CTr) (k:Nat) (x:CTr) (hk:l[k]? = some x):((l.flatMap trL).drop (k*4)).take 4=trL x:=by
 induction l generalizing k with
 | nil=>simp at hk
 | cons a l ih =>
  cases k with
  | zero =>
   simp at hk
   subst hk
   rw[List.flatMap_cons,Nat.zero_mul,List.drop_zero]
   exact List.take_left' rfl
  | succ k =>
   have:=ih k (by simpa using hk)
   rw[List.flatMap_cons,← this]
   have e1:(k+1)*4=(trL a).length+k*4:=by show _=4+_; omega
   rw[e1,List.drop_append,List.drop_eq_nil_of_le (by omega),List.nil_append]
   congr 2
   omega
theorem S197 {bp bc gc:Nat} (HP:HpP r names s vs bp bc gc h) (hn:s.cls.length<1000) (gC:s.cls[e.who]? = some c) (gV:vs[e.who]? = some v) (hx:0≤e.val∧e.val≤86399999) (hlen:r.dc=.boulder→c.tries.length=r.size) (hon:r.dc=.boulder→c.ph=.on→1≤c.place∧c.place≤c.tries.length) (hwt:IntKind.i64.wrap (e.time-c.began)=e.time-c.began) (hwl:IntKind.i64.wrap (c.began+r.limit)=c.began+r.limit) (hl:c.tries.length<1000) :
  ∃ h',SameH h.length h h'∧sfn P 197 [.ptr bp 0 0,.c (enE e)] h=some (.c (ci (legalL r s e)),h'):=by
 have gz:(s.cls.zip vs)[e.who]? = some (c,v):=by rw[List.getElem?_zip_eq_some]; exact⟨gC,gV⟩
 obtain⟨hT,hRu⟩:=HP.all _ (List.mem_of_getElem? gz)
 have hw:e.who<s.cls.length:=(List.getElem?_eq_some_iff.1 gC).1
 have hR:=rowL_get (s.cls.zip vs) e.who _ gz
 have hzl:(s.cls.zip vs).length=s.cls.length:=by rw[List.length_zip,HP.len]; omega
 have hRl:(rowL (s.cls.zip vs)).length=s.cls.length*11:=by rw[rowL_len,hzl]
 have hac:=clL_c (c:=c) hT
 have f1:=trV_flat hT
 have f2:=ruV_flat hRu
 have hgd:s.cls.getD e.who clZ=c:=by rw[List.getD_eq_getElem?_getD,gC]; rfl
 have HK:=hp7_ok (e:=e) HP hT hRu
 have hs7:SameH h.length h (h++hp7 e c v bp h.length (c.began+r.limit) (trL (tNow r c))):=(SameH.rfl' (Nat.le_refl _)).app _
 generalize hLL:(⟨bp,h.length,h.length+1,h.length+2,h.length+3,h.length+4,h.length+5,h.length+6,bc,gc⟩ : RLoc)=L at *
 have hs8:SameH (h++hp7 e c v bp h.length (c.began+r.limit) (trL (tNow r c))).length (h++hp7 e c v bp h.length (c.began+r.limit) (trL (tNow r c))) ((h++hp7 e c v bp h.length (c.began+r.limit) (trL (tNow r c)))++[.cells 1 (fnsL L) 0]):=(SameH.rfl' (Nat.le_refl _)).app _
 have HPL:HpP r names s vs L.bp L.bc L.gc h:=by rw[← hLL]; exact HP
 have hrun:=runs_rules (P:=P) _ (HK.same hs8) ((HPL.same hs7).same hs8) hn hx hlen hwt hl
 have hln:(h++hp7 e c v bp h.length (c.began+r.limit) (trL (tNow r c))).length=h.length+7:=by simp[hp7]
 obtain⟨h',k1,k2⟩:=S217 (P:=P) (fnsL L) (ruleL r s e c) rfl (by show 16<1000; decide) (h.length+7) _ (by rw[List.getElem?_append_right (by omega),hln]; simp) hrun
 refine⟨h',(hs7.trans (hs8.less hs7.1)).trans (k1.less (by rw[List.length_append,hln]; simp; omega)),?_⟩
 have q1:=ltG HP.pl
 have a1:∀ X,(h++X)[bp]? = some (plB r names bc gc s.cls.length s.time):=fun X=>by rw[List.getElem?_append_left q1]; exact HP.pl
 have a1':=fun X=>(List.getElem?_eq_some_iff.1 (a1 X)).2
 have q2:=ltG HP.row
 have a2:∀ X,(h++X)[bc]? = some (.cells gc (rowL (s.cls.zip vs)) 0):=fun X=>by rw[List.getElem?_append_left q2]; exact HP.row
 have a2':=fun X=>(List.getElem?_eq_some_iff.1 (a2 X)).2
 have l1:∀ n,bp<h.length+n+1:=fun n=>by omega
 have l2:∀ n,bc<h.length+n+1:=fun n=>by omega
 have hwi:(e.who:Int)<s.cls.length:=by omega
 have h11:11≤s.cls.length*11-e.who*11:=by omega
 have e214:=S214 (P:=P)
 obtain⟨i,j1,j2⟩:=find_kd e.kind
 have j2':=(List.getElem?_eq_some_iff.1 j2).2
 have j2l:=(List.getElem?_eq_some_iff.1 j2).1
 simp only[kdMap] at e214
 generalize kdAll.map (fun k=>CV.str (kdS k))=KS at *
 generalize kdAll.map kdC=VS at *
 simp only[kdC] at j2 j2'
 have fp:∀ b g o,LV.flat (.ptr b g o)=true:=fun _ _ _=>rfl
 have ff:∀ f a b,LV.flat (.func f a b)=true:=fun _ _ _=>rfl
 have fc:∀ x,LV.flat (.c (.slice x))=true:=fun _=>rfl
 have fcf:∀ f a b,LV.flat (.c (.func f a b))=true:=fun _ _ _=>rfl
 have hleg:brokenL 1 (ruleL r s e c)=legalL r s e:=by rw[rule_eq,legalL,hgd]
 rw[hleg] at k2
 have hfl:(fnsL L).length=16:=rfl
 rw[hfl] at k2
 simp only[clL] at hR hac
 by_cases hbo:r.dc=.boulder∧c.ph=.on
 ·obtain⟨p1,p2⟩:=hon hbo.1 hbo.2
  have hK0:∀ X,(h++hp7 e c v bp h.length (c.began+r.limit) X)[h.length+2]? = some (.cells 0 (clL c v) 0):=fun X=>by rw[List.getElem?_append_right (by omega)]; simp[hp7]
  obtain⟨b,g,e1,e2⟩:=S216v (P:=P) (h.length+2) (h++hp7 e c v bp h.length (c.began+r.limit) [.c (ci 0),.c (ci 0),.c (ci 0),.c (.bool false)]) (hK0 _) (hT.app _) p1 p2 hl
  have htk:=trL_take c.tries _ _ (tr_at p1 p2)
  have hn1:tNow r c=trAt c c.place:=if_pos hbo
  have hd1:dcS r.dc=[98,111,117,108,100,101,114]:=by rw[hbo.1]; rfl
  have hd2:phS c.ph=[111,110]:=by rw[hbo.2]; rfl
  rw[hn1] at k2
  subst hLL
  have e1':=(List.getElem?_eq_some_iff.1 e1).2
  have e1l:=ltG e1
  have hcl:=trL_len c.tries
  have n6:4≤c.tries.length*4-(c.place-1).toNat*4:=by omega
  have et:(c.place-1).toNat=c.place.toNat-1:=by omega
  rw[et] at n6 htk e2
  simp only[hp7,enB,clL,trL,fnsL] at k2 e1 e1' e1l e2 htk
  generalize c.tries.flatMap trL=C at *
  simp[-LV.flat,hd2] at k2 e1 e1' e1l e2
  simp only[hd2] at hac hR
  rw[u197]
  simp[c197,fp,ff,fc,fcf,e214,keyS,j1,j2,j2',j2l,enE,plB,a1,a1',a2,a2',l1,l2,hw,hwi,hRl,hR,h11,hac,-LV.flat,flat_s,flat_i,flat_b,f1,f2,hwl,hd1,hd2,k2,e1,e1',e1l,e2,htk,hcl,n6,frzF_ptr,frzFuncs_nil]
 ·have hd1:¬ (dcS r.dc=[98,111,117,108,100,101,114]∧phS c.ph=[111,110]):=by
   rintro⟨x,y⟩
   exact hbo ⟨by cases hd:r.dc<;>simp[hd,dcS] at x ⊢,by cases hp:c.ph<;>simp[hp,phS] at y ⊢⟩
  have hn1:tNow r c=trZ:=if_neg hbo
  rw[hn1] at k2
  subst hLL
  simp only[hp7,enB,clL,trL,trZ,fnsL] at k2
  simp[-LV.flat] at k2
  rw[u197]
  simp[c197,fp,ff,fc,fcf,e214,keyS,j1,j2,j2',j2l,enE,plB,a1,a1',a2,a2',l1,l2,hw,hwi,hRl,hR,h11,hac,-LV.flat,flat_s,flat_i,flat_b,f1,f2,hwl,hd1,k2]
end LM.GZ
namespace LM.GZ
open Go LM
variable {P:Nat→Option SFunc} [Has P]
variable {r:CRn} {names:List Str} {s:CSs} {e:CEn} {c:CCl} {v:LV × LV} {h:Heap} {l:List (CCl × (LV × LV))} {bc gc i:Nat}
theorem rowL_set:∀ (l:List (CCl × (LV × LV))) (i j:Nat) (c c' : CCl) (v v' : LV × LV) (x:LV),l[i]? = some (c,v)→(clL c v).set j x=clL c' v'→j<11→(rowL l).set (i*11+j) x=rowL (l.set i (c',v'))
 | [],i,j,c,c',v,v',x,h,_,_=>by simp at h
 | a::l,0,j,c,c',v,v',x,h,h2,hj=>by
  simp at h
  subst h
  have e:∀ (b:CCl × (LV × LV)) (l:List (CCl × (LV × LV))),rowL (b::l)=clL b.1 b.2++rowL l:=fun _ _=>rfl
  rw[e,Nat.zero_mul,Nat.zero_add,List.set_append_left _ _ (by rw[clL_len]; exact hj),List.set_cons_zero,e,h2]
 | a::l,i+1,j,c,c',v,v',x,h,h2,hj=>by
  have ih:=rowL_set l i j c c' v v' x (by simpa using h) h2 hj
  have e:∀ (b:CCl × (LV × LV)) (l:List (CCl × (LV × LV))),rowL (b::l)=clL b.1 b.2++rowL l:=fun _ _=>rfl
  rw[e,List.set_append_right _ _ (by rw[clL_len]; omega),List.set_cons_succ,e,← ih]
  congr 2
  rw[clL_len]
  omega
theorem rowL_at:∀ (l:List (CCl × (LV × LV))) (i j:Nat) (x:CCl × (LV × LV)),l[i]? = some x→j<11→(rowL l)[i*11+j]? = (clL x.1 x.2)[j]?
 | [],i,j,x,h,_=>by simp at h
 | a::l,0,j,x,h,hj=>by
  simp at h
  subst h
  have e:∀ (b:CCl × (LV × LV)) (l:List (CCl × (LV × LV))),rowL (b::l)=clL b.1 b.2++rowL l:=fun _ _=>rfl
  rw[e,Nat.zero_mul,Nat.zero_add,List.getElem?_append_left (by rw[clL_len]; exact hj)]
 | a::l,i+1,j,x,h,hj=>by
  have ih:=rowL_at l i j x (by simpa using h) hj
  have e:∀ (b:CCl × (LV × LV)) (l:List (CCl × (LV × LV))),rowL (b::l)=clL b.1 b.2++rowL l:=fun _ _=>rfl
  rw[e,List.getElem?_append_right (by rw[clL_len]; omega),← ih]
  congr 1
  rw[clL_len]
  omega
theorem set_at {α:Type} {l:List α} {i:Nat} {x y:α} (h:l[i]? = some x):(l.set i y)[i]? = some y:=by rw[List.getElem?_set_self (List.getElem?_eq_some_iff.1 h).1]
theorem S296 (gr:h[bc]? = some (.cells gc (rowL l) 0)) (gi:l[i]? = some (c,v)) (p:CPh):sfn P 296 [.ptr bc gc (i*11),.c (.str (phS p))] h=some (.c (.tuple []),h.set bc (.cells gc (rowL (l.set i (c.off p,v))) 0)):=by
 have hil:=(List.getElem?_eq_some_iff.1 gi).1
 have q1:=ltG gr
 have q1':=(List.getElem?_eq_some_iff.1 gr).2
 have r1:=rowL_set l i 0 c { c with ph:=p } v v (.c (.str (phS p))) gi rfl (by decide)
 have r2:=rowL_set _ i 2 _ { c with ph:=p,place:=0 } v v (.c (ci 0)) (set_at (y:=({ c with ph:=p },v)) gi) rfl (by decide)
 have r3:=rowL_set _ i 8 _ (c.off p) v v (.c (.bool false)) (set_at (y:=({ c with ph:=p,place:=0 },v)) (set_at (y:=({ c with ph:=p },v)) gi)) rfl (by decide)
 rw[List.set_set] at r2 r3
 have l0:=rowL_len l
 have l1:=rowL_len (l.set i ({ c with ph:=p },v))
 have l2:=rowL_len (l.set i ({ c with ph:=p,place:=0 },v))
 rw[List.length_set] at l1 l2
 rw[Nat.add_zero] at r1
 rw[List.set_set] at r3
 generalize rowL (l.set i ({ c with ph:=p },v))=R1 at *
 generalize rowL (l.set i ({ c with ph:=p,place:=0 },v))=R2 at *
 generalize rowL (l.set i (c.off p,v))=R3 at *
 generalize rowL l=R0 at *
 have n0:i*11+1≤l.length*11:=by omega
 have n1:i*11+3≤l.length*11:=by omega
 have n2:i*11+9≤l.length*11:=by omega
 have n3:i*11<l.length*11:=by omega
 have n4:i*11+2<l.length*11:=by omega
 have n5:i*11+8<l.length*11:=by omega
 rw[u296]
 simp[c296,gr,q1,q1',l0,l1,l2,r1,r2,r3,n0,n1,n2,n3,n4,n5]
theorem S271 (gr:h[bc]? = some (.cells gc (rowL l) 0)) (gi:l[i]? = some (c,v)) (st:CSt):sfn P 271 [.ptr bc gc (i*11),.c (.str (stS st))] h=some (.c (.tuple []),h.set bc (.cells gc (rowL (l.set i (c.stop st,v))) 0)):=by
 have hil:=(List.getElem?_eq_some_iff.1 gi).1
 have q1:=ltG gr
 have k1:=S296 (P:=P) gr gi .done
 have r1:=rowL_set _ i 1 _ (c.stop st) v v (.c (.str (stS st))) (set_at (y:=(c.off .done,v)) gi) rfl (by decide)
 have l1:=rowL_len (l.set i (c.off .done,v))
 rw[List.length_set] at l1
 rw[List.set_set] at r1
 have hp:phS .done=[100,111,110,101]:=rfl
 rw[hp] at k1
 generalize rowL (l.set i (c.off .done,v))=R1 at *
 generalize rowL (l.set i (c.stop st,v))=R2 at *
 have n1:i*11+2≤l.length*11:=by omega
 rw[u271]
 simp[c271,k1,frzF_ptr,frzFuncs_nil,frzFuncs_c,q1,l1,r1,n1]
theorem S294 {bp n:Nat} {t:Int} (gpl:h[bp]? = some (plB r names bc gc n t)) (hne:bp≠bc) (hg:gc≠0) (gr:h[bc]? = some (.cells gc (rowL l) 0)) (gi:l[i]? = some (c,v)) (hw:IntKind.i64.wrap (e.time-c.began)=e.time-c.began):sfn P 294 [.ptr bp 0 0,.ptr bc gc (i*11),.c (enE e)] h=some (.c (.tuple []),h.set bc (.cells gc (rowL (l.set i (endC r c e.time,v))) 0)++[enB e]):=by
 have hil:=(List.getElem?_eq_some_iff.1 gi).1
 have q0:=ltG gpl
 have q1:=ltG gr
 have gr2:(h++[enB e])[bc]? = some (.cells gc (rowL l) 0):=by rw[List.getElem?_append_left q1]; exact gr
 have k1:=S296 (P:=P) gr2 gi .done
 have r1:=rowL_set _ i 4 _ (endC r c e.time) v v (.c (ci (min (e.time-c.began) r.limit))) (set_at (y:=(c.off .done,v)) gi) rfl (by decide)
 have g1:=rowL_at _ i 3 _ (set_at (y:=(c.off .done,v)) gi) (by decide)
 have l1:=rowL_len (l.set i (c.off .done,v))
 rw[List.length_set] at l1
 rw[List.set_set] at r1
 have hp:phS .done=[100,111,110,101]:=rfl
 rw[hp] at k1
 have hst:∀ X,(h++[enB e]).set bc X=h.set bc X++[enB e]:=fun X=>List.set_append_left _ _ q1
 rw[hst] at k1
 have a0:∀ X,(h.set bc X++[enB e])[bp]? = some (plB r names bc gc n t):=fun X=>by rw[List.getElem?_append_left (by simpa using q0),List.getElem?_set_ne (Ne.symm hne)]; exact gpl
 have a0':=fun X=>(List.getElem?_eq_some_iff.1 (a0 X)).2
 have l0:bp<h.length+1:=by omega
 have a1:∀ X,(h.set bc X++[enB e])[bc]? = some X:=fun X=>by rw[List.getElem?_append_left (by simpa using q1),List.getElem?_set_self q1]
 have a1':=fun X=>(List.getElem?_eq_some_iff.1 (a1 X)).2
 have l2:bc<h.length+1:=by omega
 have g1' : (clL (c.off .done) v)[3]? = some (.c (ci c.began)):=rfl
 simp only at g1
 rw[g1'] at g1
 have g1'':=(List.getElem?_eq_some_iff.1 g1).2
 have hst2:∀ X Y,(h.set bc X++[enB e]).set bc Y=h.set bc Y++[enB e]:=fun X Y=>by rw[List.set_append_left _ _ (by simpa using q1),List.set_set]
 generalize rowL (l.set i (c.off .done,v))=R1 at *
 generalize rowL (l.set i (endC r c e.time,v))=R2 at *
 have n1:i*11+5≤l.length*11:=by omega
 have n2:i*11+3<l.length*11:=by omega
 have n3:i*11+4<l.length*11:=by omega
 have hmin:min (e.time-c.began) r.limit=if r.limit<e.time-c.began then r.limit else e.time-c.began:=by split<;>omega
 rw[hmin] at r1
 simp only[enB] at *
 rw[u294]
 simp[c294,enE,k1,frzF_ptr,frzFuncs_nil,frzFuncs_c,a0,a0',l0,a1,a1',l2,hg,plB,g1,g1'',hw,foldInt,l1,n1,n2,n3,r1,hst2]
end LM.GZ
namespace LM.GZ
open Go LM
variable {P:Nat→Option SFunc} [Has P]
variable {r:CRn} {names:List Str} {s:CSs} {e:CEn} {c:CCl} {v:LV × LV} {h:Heap} {l:List (CCl × (LV × LV))} {bc gc i:Nat}
theorem trL_set:∀ (l:List CTr) (k j:Nat) (t t' : CTr) (x:LV),l[k]? = some t→(trL t).set j x=trL t'→j<4→(l.flatMap trL).set (k*4+j) x=(l.set k t').flatMap trL
 | [],k,j,t,t',x,h,_,_=>by simp at h
 | a::l,0,j,t,t',x,h,h2,hj=>by
  simp at h
  subst h
  rw[List.flatMap_cons,Nat.zero_mul,Nat.zero_add,List.set_append_left _ _ (by show j<4; exact hj),List.set_cons_zero,List.flatMap_cons,h2]
 | a::l,k+1,j,t,t',x,h,h2,hj=>by
  have ih:=trL_set l k j t t' x (by simpa using h) h2 hj
  rw[List.flatMap_cons,List.set_append_right _ _ (by show 4≤_; omega),List.set_cons_succ,List.flatMap_cons,← ih]
  congr 2
  show (k+1)*4+j-4=_
  omega
def TrB (h:Heap) (c:CCl) (v:LV × LV) (b g:Nat):Prop:=v.1=.slice b g 0 c.tries.length (some 4) none∧h[b]? = some (.cells g (c.tries.flatMap trL) 0)
theorem S216 (gr:h[bc]? = some (.cells gc (rowL l) 0)) (gi:l[i]? = some (c,v)) {b g:Nat} (H:TrB h c v b g) (h1:1≤c.place) (h2:c.place≤c.tries.length) (hl:c.tries.length<1000):sfn P 216 [.ptr bc gc (i*11)] h=some (.ptr b g ((c.place-1).toNat*4),h):=by
 obtain⟨hv,hb⟩:=H
 have hil:=(List.getElem?_eq_some_iff.1 gi).1
 have q1:=ltG gr
 have q1':=(List.getElem?_eq_some_iff.1 gr).2
 have q2:=ltG hb
 have q2':=(List.getElem?_eq_some_iff.1 hb).2
 have g9:=rowL_at l i 9 _ gi (by decide)
 have g2:=rowL_at l i 2 _ gi (by decide)
 have e9:(clL c v)[9]? = some v.1:=rfl
 have e2:(clL c v)[2]? = some (.c (ci c.place)):=rfl
 simp only at g9 g2
 rw[e9,hv] at g9
 rw[e2] at g2
 have g9':=(List.getElem?_eq_some_iff.1 g9).2
 have g2':=(List.getElem?_eq_some_iff.1 g2).2
 have l0:=rowL_len l
 have hw:IntKind.i64.wrap (c.place-1)=c.place-1:=wrap64 (by omega) (by omega)
 have n3:0≤c.place-1:=by omega
 have n4:c.place-1<c.tries.length:=by omega
 have n5:1≤c.place:=h1
 have n6:i*11+9<l.length*11:=by omega
 have n7:i*11+2<l.length*11:=by omega
 have et:(c.place-1).toNat=c.place.toNat-1:=by omega
 rw[et]
 generalize rowL l=R at *
 rw[u216]
 simp[c216,gr,q1,q1',l0,g9,g9',g2,g2',n6,n7,hb,q2,q2',hw,n3,n4,n5]
theorem S266 (gr:h[bc]? = some (.cells gc (rowL l) 0)) (gi:l[i]? = some (c,v)) (H:TrV h c.tries v.1) (hl:c.tries.length<1000):sfn P 266 [.ptr bc gc (i*11)] h=some (.c (.tuple []),h.set bc (.cells gc (rowL (l.set i (leaveC c,v))) 0)):=by
 have hil:=(List.getElem?_eq_some_iff.1 gi).1
 have q1:=ltG gr
 have q1':=(List.getElem?_eq_some_iff.1 gr).2
 have g9:=rowL_at l i 9 _ gi (by decide)
 have e9:(clL c v)[9]? = some v.1:=rfl
 simp only at g9
 rw[e9] at g9
 have g9':=(List.getElem?_eq_some_iff.1 g9).2
 have l0:=rowL_len l
 have n6:i*11+9<l.length*11:=by omega
 have e277:=S277_295 (P:=P) c.tries hl
 obtain⟨h',hf⟩:=frz_tr H
 have k1:=S296 (P:=P) gr gi .done
 have k2:=S296 (P:=P) gr gi .waiting
 have hp:phS .done=[100,111,110,101]:=rfl
 have hp2:phS .waiting=[119,97,105,116,105,110,103]:=rfl
 rw[hp] at k1
 rw[hp2] at k2
 unfold leaveC
 generalize (c.tries.any fun t=>!t.vis)=b at *
 generalize rowL l=R at *
 rw[u266]
 cases b
 ·simp[c266,gr,q1,q1',l0,g9,g9',n6,frzArgs_cons,hf,e277,k1,frzF_ptr,frzFuncs_nil,frzFuncs_c]
 ·simp[c266,gr,q1,q1',l0,g9,g9',n6,frzArgs_cons,hf,e277,k2,frzF_ptr,frzFuncs_nil,frzFuncs_c]
theorem S259 (gr:h[bc]? = some (.cells gc (rowL l) 0)) (gi:l[i]? = some (c,v)) (X:LV):sfn P 259 [X,.ptr bc gc (i*11),.c (enE e)] h=some (.c (.tuple []),h.set bc (.cells gc (rowL (l.set i ({ c with hold:=e.val,plus:=false },v))) 0)++[enB e]):=by
 have hil:=(List.getElem?_eq_some_iff.1 gi).1
 have q1:=ltG gr
 have a1:∀ X,(h++[X])[bc]? = some (.cells gc (rowL l) 0):=fun X=>by rw[List.getElem?_append_left q1]; exact gr
 have a1':=fun X=>(List.getElem?_eq_some_iff.1 (a1 X)).2
 have l2:bc<h.length+1:=by omega
 have r1:=rowL_set l i 5 c { c with hold:=e.val } v v (.c (ci e.val)) gi rfl (by decide)
 have r2:=rowL_set _ i 6 _ { c with hold:=e.val,plus:=false } v v (.c (.bool false)) (set_at (y:=({ c with hold:=e.val },v)) gi) rfl (by decide)
 rw[List.set_set] at r2
 have l0:=rowL_len l
 have l1:=rowL_len (l.set i ({ c with hold:=e.val },v))
 rw[List.length_set] at l1
 have hst:∀ X Y,(h++[X]).set bc Y=h.set bc Y++[X]:=fun X Y=>List.set_append_left _ _ q1
 have a3:∀ X Y,(h.set bc X++[Y])[bc]? = some X:=fun X Y=>by rw[List.getElem?_append_left (by simpa using q1),List.getElem?_set_self q1]
 have a3':=fun X Y=>(List.getElem?_eq_some_iff.1 (a3 X Y)).2
 have hst2:∀ X Y Z,(h.set bc X++[Y]).set bc Z=h.set bc Z++[Y]:=fun X Y Z=>by rw[List.set_append_left _ _ (by simpa using q1),List.set_set]
 generalize rowL (l.set i ({ c with hold:=e.val },v))=R1 at *
 generalize rowL (l.set i ({ c with hold:=e.val,plus:=false },v))=R2 at *
 generalize rowL l=R0 at *
 have n1:i*11+6≤l.length*11:=by omega
 have n2:i*11+7≤l.length*11:=by omega
 have n3:i*11+5<l.length*11:=by omega
 have n4:i*11+6<l.length*11:=by omega
 rw[u259]
 simp[c259,enE,enB,a1,a1',l2,l0,l1,r1,r2,n1,n2,n3,n4,hst,a3,a3',hst2]
theorem S260 (gr:h[bc]? = some (.cells gc (rowL l) 0)) (gi:l[i]? = some (c,v)) (X:LV):sfn P 260 [X,.ptr bc gc (i*11),.c (enE e)] h=some (.c (.tuple []),h.set bc (.cells gc (rowL (l.set i ({ c with plus:=true },v))) 0)++[enB e]):=by
 have hil:=(List.getElem?_eq_some_iff.1 gi).1
 have q1:=ltG gr
 have a1:∀ X,(h++[X])[bc]? = some (.cells gc (rowL l) 0):=fun X=>by rw[List.getElem?_append_left q1]; exact gr
 have a1':=fun X=>(List.getElem?_eq_some_iff.1 (a1 X)).2
 have l2:bc<h.length+1:=by omega
 have r1:=rowL_set l i 6 c { c with plus:=true } v v (.c (.bool true)) gi rfl (by decide)
 have l0:=rowL_len l
 have hst:∀ X Y,(h++[X]).set bc Y=h.set bc Y++[X]:=fun X Y=>List.set_append_left _ _ q1
 generalize rowL (l.set i ({ c with plus:=true },v))=R1 at *
 generalize rowL l=R0 at *
 have n2:i*11+7≤l.length*11:=by omega
 have n4:i*11+6<l.length*11:=by omega
 rw[u260]
 simp[c260,enE,enB,a1,a1',l2,l0,r1,n2,n4,hst]
theorem S265 (gr:h[bc]? = some (.cells gc (rowL l) 0)) (gi:l[i]? = some (c,v)) (H:TrV h c.tries v.1) (hl:c.tries.length<1000) (X:LV):sfn P 265 [X,.ptr bc gc (i*11),.c (enE e)] h=some (.c (.tuple []),h.set bc (.cells gc (rowL (l.set i (leaveC c,v))) 0)++[enB e]):=by
 have q1:=ltG gr
 have k1:=S266 (P:=P) (h:=h++[enB e]) (by rw[List.getElem?_append_left q1]; exact gr) gi (H.app _) hl
 rw[List.set_append_left _ _ q1] at k1
 simp only[enB] at *
 rw[u265]
 simp[c265,enE,k1,frzF_ptr,frzFuncs_nil,frzFuncs_c]
theorem S270 (gr:h[bc]? = some (.cells gc (rowL l) 0)) (gi:l[i]? = some (c,v)) (X:LV):sfn P 270 [X,.ptr bc gc (i*11),.c (enE e)] h=some (.c (.tuple []),h.set bc (.cells gc (rowL (l.set i (c.stop .dsq,v))) 0)++[enB e]):=by
 have q1:=ltG gr
 have k1:=S271 (P:=P) (h:=h++[enB e]) (by rw[List.getElem?_append_left q1]; exact gr) gi .dsq
 rw[List.set_append_left _ _ q1] at k1
 simp only[enB,stS] at *
 rw[u270]
 simp[c270,enE,k1,frzF_ptr,frzFuncs_nil,frzFuncs_c]
theorem S273 (gr:h[bc]? = some (.cells gc (rowL l) 0)) (gi:l[i]? = some (c,v)) (X:LV):sfn P 273 [X,.ptr bc gc (i*11),.c (enE e)] h=some (.c (.tuple []),h.set bc (.cells gc (rowL (l.set i (c.stop .dns,v))) 0)++[enB e]):=by
 have q1:=ltG gr
 have k1:=S271 (P:=P) (h:=h++[enB e]) (by rw[List.getElem?_append_left q1]; exact gr) gi .dns
 rw[List.set_append_left _ _ q1] at k1
 simp only[enB,stS] at *
 rw[u273]
 simp[c273,enE,k1,frzF_ptr,frzFuncs_nil,frzFuncs_c]
theorem S274 (gr:h[bc]? = some (.cells gc (rowL l) 0)) (gi:l[i]? = some (c,v)) (X:LV):sfn P 274 [X,.ptr bc gc (i*11),.c (enE e)] h=some (.c (.tuple []),h.set bc (.cells gc (rowL (l.set i (c.stop .dsq,v))) 0)++[enB e]):=by
 have q1:=ltG gr
 have k1:=S271 (P:=P) (h:=h++[enB e]) (by rw[List.getElem?_append_left q1]; exact gr) gi .dsq
 rw[List.set_append_left _ _ q1] at k1
 simp only[enB,stS] at *
 rw[u274]
 simp[c274,enE,k1,frzF_ptr,frzFuncs_nil,frzFuncs_c]
end LM.GZ
namespace LM.GZ
open Go LM
variable {P:Nat→Option SFunc} [Has P]
variable {r:CRn} {names:List Str} {s:CSs} {e:CEn} {c:CCl} {v:LV × LV} {h:Heap} {l:List (CCl × (LV × LV))} {bc gc i:Nat}
theorem TrB.put {b g:Nat} (H:TrB h c v b g) (hb:b≠bc) (X:LB) (Y:LB) {c' : CCl} (ht:c'.tries=c.tries):TrB (h.set bc X++[Y]) c' v b g:=by
 have q:=ltG H.2
 refine⟨by rw[ht]; exact H.1,?_⟩
 rw[List.getElem?_append_left (by simpa using q),List.getElem?_set_ne (Ne.symm hb),ht]
 exact H.2
theorem TrB.up {b g:Nat} (H:TrB h c v b g) (Y:LB):TrB (h++[Y]) c v b g:=⟨H.1,by rw[List.getElem?_append_left (ltG H.2)]; exact H.2⟩
theorem S261 (gr:h[bc]? = some (.cells gc (rowL l) 0)) (gi:l[i]? = some (c,v)) {b g:Nat} (H:TrB h c v b g) (hb:b≠bc) (h1:1≤c.place) (h2:c.place≤c.tries.length) (hl:c.tries.length<1000) (ha:0≤(trAt c c.place).att∧(trAt c c.place).att≤99) (X:LV) :
  sfn P 261 [X,.ptr bc gc (i*11),.c (enE e)] h=some (.c (.tuple []),(h.set bc (.cells gc (rowL (l.set i (({ c with op:=true }:CCl).setT { trAt c c.place with att:=(trAt c c.place).att+1 },v))) 0)++[enB e]).set b (.cells g ((({ c with op:=true }:CCl).setT { trAt c c.place with att:=(trAt c c.place).att+1 }).tries.flatMap trL) 0)):=by
 have hil:=(List.getElem?_eq_some_iff.1 gi).1
 have q1:=ltG gr
 have a1:∀ X,(h++[X])[bc]? = some (.cells gc (rowL l) 0):=fun X=>by rw[List.getElem?_append_left q1]; exact gr
 have a1':=fun X=>(List.getElem?_eq_some_iff.1 (a1 X)).2
 have l2:bc<h.length+1:=by omega
 have r1:=rowL_set l i 8 c { c with op:=true } v v (.c (.bool true)) gi rfl (by decide)
 have r2:=rowL_set l i 8 c (({ c with op:=true }:CCl).setT { trAt c c.place with att:=(trAt c c.place).att+1 }) v v (.c (.bool true)) gi rfl (by decide)
 rw[r1] at r2
 rw[← r2]
 have l0:=rowL_len l
 have hst:∀ X Y,(h++[X]).set bc Y=h.set bc Y++[X]:=fun X Y=>List.set_append_left _ _ q1
 have e216:=S216 (P:=P) (h:=h.set bc (.cells gc (rowL (l.set i ({ c with op:=true },v))) 0)++[enB e]) (by rw[List.getElem?_append_left (by simpa using q1),List.getElem?_set_self q1]) (set_at (y:=({ c with op:=true },v)) gi) (H.put hb _ _ rfl) h1 h2 hl
 have hHb:=(H.put hb (.cells gc (rowL (l.set i ({ c with op:=true },v))) 0) (enB e) (c':=c) rfl).2
 have hHb':=(List.getElem?_eq_some_iff.1 hHb).2
 have hHl:=ltG H.2
 have hHl2:b<h.length+1:=by omega
 have ht:=tr_at h1 h2
 have gT:=trL_get c.tries _ 0 _ ht (by decide)
 have sT:=trL_set c.tries _ 0 _ { trAt c c.place with att:=(trAt c c.place).att+1 } (.c (ci ((trAt c c.place).att+1))) ht rfl (by decide)
 have gT0:(trL (trAt c c.place))[0]? = some (.c (ci (trAt c c.place).att)):=rfl
 rw[gT0,Nat.add_zero] at gT
 rw[Nat.add_zero] at sT
 have hcl:=trL_len c.tries
 have hw:IntKind.i64.wrap ((trAt c c.place).att+1)=(trAt c c.place).att+1:=wrap64 (by omega) (by omega)
 have hts:(({ c with op:=true }:CCl).setT { trAt c c.place with att:=(trAt c c.place).att+1 }).tries=c.tries.set (c.place-1).toNat { trAt c c.place with att:=(trAt c c.place).att+1 }:=rfl
 rw[hts,← sT]
 have hk:(c.place-1).toNat<c.tries.length:=by omega
 simp only at e216
 generalize hkk:(c.place-1).toNat=k at *
 have gT':=(List.getElem?_eq_some_iff.1 gT).2
 generalize rowL (l.set i ({ c with op:=true },v))=R1 at *
 generalize rowL l=R0 at *
 generalize trAt c c.place=T at *
 generalize c.tries.flatMap trL=C at *
 have n2:i*11+9≤l.length*11:=by omega
 have n4:i*11+8<l.length*11:=by omega
 have n5:k*4<c.tries.length*4:=by omega
 have n6:k*4+1≤c.tries.length*4:=by omega
 simp only[enB] at *
 rw[u261]
 simp[c261,enE,a1,a1',l2,l0,r1,n2,n4,hst,e216,frzF_ptr,frzFuncs_nil,hHb,hHb',hHl2,hcl,gT,gT',hw,n5,n6]
end LM.GZ
namespace LM.GZ
open Go LM
variable {P:Nat→Option SFunc} [Has P]
variable {r:CRn} {names:List Str} {s:CSs} {e:CEn} {c:CCl} {v:LV × LV} {h:Heap} {l:List (CCl × (LV × LV))} {bc gc i:Nat}
theorem rowL_same:∀ (l:List (CCl × (LV × LV))) (i:Nat) (c c' : CCl) (v:LV × LV),l[i]? = some (c,v)→clL c' v=clL c v→rowL (l.set i (c',v))=rowL l
 | [],i,c,c',v,h,_=>by simp at h
 | a::l,0,c,c',v,h,h2=>by
  simp at h
  subst h
  have e:∀ (b:CCl × (LV × LV)) (l:List (CCl × (LV × LV))),rowL (b::l)=clL b.1 b.2++rowL l:=fun _ _=>rfl
  rw[List.set_cons_zero,e,e,h2]
 | a::l,i+1,c,c',v,h,h2=>by
  have ih:=rowL_same l i c c' v (by simpa using h) h2
  have e:∀ (b:CCl × (LV × LV)) (l:List (CCl × (LV × LV))),rowL (b::l)=clL b.1 b.2++rowL l:=fun _ _=>rfl
  rw[List.set_cons_succ,e,e,ih]
theorem S262 (gr:h[bc]? = some (.cells gc (rowL l) 0)) (gi:l[i]? = some (c,v)) {b g:Nat} (H:TrB h c v b g) (hb:b≠bc) (h1:1≤c.place) (h2:c.place≤c.tries.length) (hl:c.tries.length<1000) (X:LV) :
  sfn P 262 [X,.ptr bc gc (i*11),.c (enE e)] h=some (.c (.tuple []),(h++[enB e]).set b (.cells g ((c.setT { trAt c c.place with zone:=(trAt c c.place).att }).tries.flatMap trL) 0)):=by
 have hil:=(List.getElem?_eq_some_iff.1 gi).1
 have q1:=ltG gr
 have e216:=S216 (P:=P) (h:=h++[enB e]) (by rw[List.getElem?_append_left q1]; exact gr) gi (H.up _) h1 h2 hl
 have hHb:=(H.up (enB e)).2
 have hHb':=(List.getElem?_eq_some_iff.1 hHb).2
 have hHl:=ltG H.2
 have hHl2:b<h.length+1:=by omega
 have ht:=tr_at h1 h2
 have gT:=trL_get c.tries _ 0 _ ht (by decide)
 have sT:=trL_set c.tries _ 1 _ { trAt c c.place with zone:=(trAt c c.place).att } (.c (ci (trAt c c.place).att)) ht rfl (by decide)
 have gT0:(trL (trAt c c.place))[0]? = some (.c (ci (trAt c c.place).att)):=rfl
 rw[gT0,Nat.add_zero] at gT
 have hcl:=trL_len c.tries
 have hts:(c.setT { trAt c c.place with zone:=(trAt c c.place).att }).tries=c.tries.set (c.place-1).toNat { trAt c c.place with zone:=(trAt c c.place).att }:=rfl
 rw[hts,← sT]
 have hk:(c.place-1).toNat<c.tries.length:=by omega
 generalize hkk:(c.place-1).toNat=k at *
 have gT':=(List.getElem?_eq_some_iff.1 gT).2
 generalize trAt c c.place=T at *
 generalize c.tries.flatMap trL=C at *
 have n5:k*4<c.tries.length*4:=by omega
 have n6:k*4+2≤c.tries.length*4:=by omega
 simp only[enB] at *
 rw[u262]
 simp[c262,enE,e216,frzF_ptr,frzFuncs_nil,hHb,hHb',hHl2,hcl,gT,gT',n5,n6]
theorem S263 {bp n:Nat} {t:Int} (gpl:h[bp]? = some (plB r names bc gc n t)) (hd:r.dc=.boulder) (gr:h[bc]? = some (.cells gc (rowL l) 0)) (gi:l[i]? = some (c,v)) {b g:Nat} (H:TrB h c v b g) (hb:b≠bc) (h1:1≤c.place) (h2:c.place≤c.tries.length) (hl:c.tries.length<1000) :
  sfn P 263 [.ptr bp 0 0,.ptr bc gc (i*11),.c (enE e)] h=some (.c (.tuple []),((h++[enB e]).set b (.cells g ((c.setT { trAt c c.place with top:=(trAt c c.place).att,zone:=if (trAt c c.place).zone=0 then (trAt c c.place).att else (trAt c c.place).zone }).tries.flatMap trL) 0)).set bc (.cells gc (rowL (l.set i ({ c.setT { trAt c c.place with top:=(trAt c c.place).att,zone:=if (trAt c c.place).zone=0 then (trAt c c.place).att else (trAt c c.place).zone } with op:=false },v))) 0)):=by
 have hil:=(List.getElem?_eq_some_iff.1 gi).1
 have q0:=ltG gpl
 have q1:=ltG gr
 have a0:∀ X,(h++[X])[bp]? = some (plB r names bc gc n t):=fun X=>by rw[List.getElem?_append_left q0]; exact gpl
 have a0':=fun X=>(List.getElem?_eq_some_iff.1 (a0 X)).2
 have p0:bp<h.length+1:=by omega
 have hd1:dcS r.dc=[98,111,117,108,100,101,114]:=by rw[hd]; rfl
 have e216:=S216 (P:=P) (h:=h++[enB e]) (by rw[List.getElem?_append_left q1]; exact gr) gi (H.up _) h1 h2 hl
 have hHb:=(H.up (enB e)).2
 have hHl:=ltG H.2
 have a2:∀ X:LB,((h++[enB e]).set b X)[b]? = some X:=fun X=>List.getElem?_set_self (by simp; omega)
 have a2':=fun X=>(List.getElem?_eq_some_iff.1 (a2 X)).2
 have a3:∀ X:LB,((h++[enB e]).set b X)[bc]? = some (.cells gc (rowL l) 0):=fun X=>by rw[List.getElem?_set_ne hb,List.getElem?_append_left q1]; exact gr
 have a3':=fun X=>(List.getElem?_eq_some_iff.1 (a3 X)).2
 have hHb':=(List.getElem?_eq_some_iff.1 hHb).2
 have hHl2:b<h.length+1:=by omega
 have l2:bc<h.length+1:=by omega
 have ht:=tr_at h1 h2
 have gT:=trL_get c.tries _ 0 _ ht (by decide)
 have sT:=trL_set c.tries _ 2 _ { trAt c c.place with top:=(trAt c c.place).att } (.c (ci (trAt c c.place).att)) ht rfl (by decide)
 have hk:(c.place-1).toNat<c.tries.length:=by omega
 have ht2:(c.tries.set (c.place-1).toNat { trAt c c.place with top:=(trAt c c.place).att })[(c.place-1).toNat]? = some { trAt c c.place with top:=(trAt c c.place).att }:=List.getElem?_set_self hk
 have gT1:=trL_get _ _ 1 _ ht2 (by decide)
 have gT2:=trL_get _ _ 0 _ ht2 (by decide)
 have sT2:=trL_set _ _ 1 _ { trAt c c.place with top:=(trAt c c.place).att,zone:=(trAt c c.place).att } (.c (ci (trAt c c.place).att)) ht2 rfl (by decide)
 have gT0:(trL (trAt c c.place))[0]? = some (.c (ci (trAt c c.place).att)):=rfl
 have gT1' : (trL { trAt c c.place with top:=(trAt c c.place).att })[1]? = some (.c (ci (trAt c c.place).zone)):=rfl
 have gT2' : (trL { trAt c c.place with top:=(trAt c c.place).att })[0]? = some (.c (ci (trAt c c.place).att)):=rfl
 rw[gT0,Nat.add_zero] at gT
 rw[gT1'] at gT1
 rw[gT2',Nat.add_zero] at gT2
 rw[List.set_set] at sT2
 have hcl:=trL_len c.tries
 have hcl2:=trL_len (c.tries.set (c.place-1).toNat { trAt c c.place with top:=(trAt c c.place).att })
 rw[List.length_set] at hcl2
 have r1:=rowL_set l i 8 c { c.setT { trAt c c.place with top:=(trAt c c.place).att,zone:=if (trAt c c.place).zone=0 then (trAt c c.place).att else (trAt c c.place).zone } with op:=false } v v (.c (.bool false)) gi rfl (by decide)
 rw[← r1]
 have l0:=rowL_len l
 have hts:∀ T',(c.setT T').tries=c.tries.set (c.place-1).toNat T':=fun _=>rfl
 rw[hts]
 have n2:i*11+9≤l.length*11:=by omega
 clear r1
 generalize hkk:(c.place-1).toNat=k at *
 have gTx:=(List.getElem?_eq_some_iff.1 gT).2
 have gT1x:=(List.getElem?_eq_some_iff.1 gT1).2
 have gT2x:=(List.getElem?_eq_some_iff.1 gT2).2
 generalize rowL l=R0 at *
 have n5:k*4<c.tries.length*4:=by omega
 have n6:k*4+2≤c.tries.length*4:=by omega
 have n7:k*4+3≤c.tries.length*4:=by omega
 have n8:k*4+1<c.tries.length*4:=by omega
 generalize trAt c c.place=T at *
 obtain⟨ta,tz,tp,tw⟩:=T
 simp only at *
 by_cases hz:tz=0
 ·rw[if_pos hz]
  generalize hC2:(c.tries.set k ⟨ta,ta,ta,tw⟩).flatMap trL=C2 at *
  generalize hC1:(c.tries.set k ⟨ta,tz,ta,tw⟩).flatMap trL=C1 at *
  generalize hC:c.tries.flatMap trL=C at *
  clear hC hC1 hC2
  simp only[enB] at *
  rw[u263]
  simp[c263,enE,plB,a0,a0',p0,hd1,e216,frzF_ptr,frzFuncs_nil,hHb,hHb',hHl2,hcl,hcl2,gT,gTx,gT1,gT1x,gT2,gT2x,sT,sT2,n2,n5,n6,n7,n8,a2,a2',a3,a3',l2,l0,hz]
 ·rw[if_neg hz]
  generalize hC1:(c.tries.set k ⟨ta,tz,ta,tw⟩).flatMap trL=C1 at *
  generalize hC:c.tries.flatMap trL=C at *
  clear hC hC1
  simp only[enB] at *
  rw[u263]
  simp[c263,enE,plB,a0,a0',p0,hd1,e216,frzF_ptr,frzFuncs_nil,hHb,hHb',hHl2,hcl,hcl2,gT,gTx,gT1,gT1x,sT,n2,n5,n6,n7,n8,a2,a2',a3,a3',l2,l0,hz]
end LM.GZ
namespace LM.GZ
open Go LM
variable {P:Nat→Option SFunc} [Has P]
variable {r:CRn} {names:List Str} {s:CSs} {e:CEn} {c:CCl} {v:LV × LV} {h:Heap} {l:List (CCl × (LV × LV))} {bc gc i bp n:Nat} {t:Int}
theorem S263_l (gpl:h[bp]? = some (plB r names bc gc n t)) (hd:r.dc=.lead) (hne:bp≠bc) (hg:gc≠0) (gr:h[bc]? = some (.cells gc (rowL l) 0)) (gi:l[i]? = some (c,v)) (hw:IntKind.i64.wrap (e.time-c.began)=e.time-c.began) :
  sfn P 263 [.ptr bp 0 0,.ptr bc gc (i*11),.c (enE e)] h=some (.c (.tuple []),h.set bc (.cells gc (rowL (l.set i ({ endC r c e.time with top:=true },v))) 0)++[enB e]++[enB e]):=by
 have hil:=(List.getElem?_eq_some_iff.1 gi).1
 have q0:=ltG gpl
 have q1:=ltG gr
 have a0:∀ X,(h++[X])[bp]? = some (plB r names bc gc n t):=fun X=>by rw[List.getElem?_append_left q0]; exact gpl
 have a0':=fun X=>(List.getElem?_eq_some_iff.1 (a0 X)).2
 have p0:bp<h.length+1:=by omega
 have a1:∀ X,(h++[X])[bc]? = some (.cells gc (rowL l) 0):=fun X=>by rw[List.getElem?_append_left q1]; exact gr
 have a1':=fun X=>(List.getElem?_eq_some_iff.1 (a1 X)).2
 have l2:bc<h.length+1:=by omega
 have hd1:dcS r.dc=[108,101,97,100]:=by rw[hd]; rfl
 have r1:=rowL_set l i 7 c { c with top:=true } v v (.c (.bool true)) gi rfl (by decide)
 have hst:∀ X Y,(h++[X]).set bc Y=h.set bc Y++[X]:=fun X Y=>List.set_append_left _ _ q1
 have k1:=S294 (P:=P) (e:=e) (h:=h.set bc (.cells gc (rowL (l.set i ({ c with top:=true },v))) 0)++[enB e]) (by rw[List.getElem?_append_left (by simpa using q0),List.getElem?_set_ne (Ne.symm hne)]; exact gpl) hne hg (by rw[List.getElem?_append_left (by simpa using q1),List.getElem?_set_self q1]) (set_at (y:=({ c with top:=true },v)) gi) hw
 rw[List.set_append_left _ _ (by simpa using q1),List.set_set,List.set_set] at k1
 have hee:endC r { c with top:=true } e.time={ endC r c e.time with top:=true }:=rfl
 rw[hee] at k1
 have l0:=rowL_len l
 have a3:∀ X Y,(h.set bc X++[Y])[bc]? = some X:=fun X Y=>by rw[List.getElem?_append_left (by simpa using q1),List.getElem?_set_self q1]
 have hev:(h.length)<h.length+1:=by omega
 generalize rowL (l.set i ({ c with top:=true },v))=R1 at *
 generalize rowL (l.set i ({ endC r c e.time with top:=true },v))=R2 at *
 generalize rowL l=R0 at *
 have n2:i*11+8≤l.length*11:=by omega
 simp only[enB,enE] at *
 simp at k1
 rw[u263]
 simp[c263,plB,a0,a0',p0,a1,a1',l2,hd1,r1,l0,n2,hst,k1,frzF_ptr,frzFuncs_nil,frzFuncs_c]
theorem S267_l (gpl:h[bp]? = some (plB r names bc gc n t)) (hd:r.dc=.lead) (hne:bp≠bc) (hg:gc≠0) (gr:h[bc]? = some (.cells gc (rowL l) 0)) (gi:l[i]? = some (c,v)) (hw:IntKind.i64.wrap (e.time-c.began)=e.time-c.began) :
  sfn P 267 [.ptr bp 0 0,.ptr bc gc (i*11),.c (enE e)] h=some (.c (.tuple []),h.set bc (.cells gc (rowL (l.set i (endC r c e.time,v))) 0)++[enB e]++[enB e]) ∧
  sfn P 264 [.ptr bp 0 0,.ptr bc gc (i*11),.c (enE e)] h=some (.c (.tuple []),h.set bc (.cells gc (rowL (l.set i (endC r c e.time,v))) 0)++[enB e]++[enB e]):=by
 have q0:=ltG gpl
 have q1:=ltG gr
 have a0:∀ X,(h++[X])[bp]? = some (plB r names bc gc n t):=fun X=>by rw[List.getElem?_append_left q0]; exact gpl
 have a0':=fun X=>(List.getElem?_eq_some_iff.1 (a0 X)).2
 have p0:bp<h.length+1:=by omega
 have hd1:dcS r.dc=[108,101,97,100]:=by rw[hd]; rfl
 have k1:=S294 (P:=P) (e:=e) (h:=h++[enB e]) (a0 _) hne hg (by rw[List.getElem?_append_left q1]; exact gr) gi hw
 rw[List.set_append_left _ _ q1] at k1
 generalize rowL (l.set i (endC r c e.time,v))=R2 at *
 simp only[enB,enE] at *
 simp at k1
 constructor
 ·rw[u267]
  simp[c267,plB,a0,a0',p0,hd1,k1,frzF_ptr,frzFuncs_nil,frzFuncs_c]
 ·rw[u264]
  simp[c264,plB,a0,a0',p0,hd1,k1,frzF_ptr,frzFuncs_nil,frzFuncs_c]
theorem S267_b (gpl:h[bp]? = some (plB r names bc gc n t)) (hd:r.dc=.boulder) (gr:h[bc]? = some (.cells gc (rowL l) 0)) (gi:l[i]? = some (c,v)) (H:TrV h c.tries v.1) (hl:c.tries.length<1000) :
  sfn P 267 [.ptr bp 0 0,.ptr bc gc (i*11),.c (enE e)] h=some (.c (.tuple []),h.set bc (.cells gc (rowL (l.set i (leaveC c,v))) 0)++[enB e]):=by
 have q0:=ltG gpl
 have q1:=ltG gr
 have a0:∀ X,(h++[X])[bp]? = some (plB r names bc gc n t):=fun X=>by rw[List.getElem?_append_left q0]; exact gpl
 have a0':=fun X=>(List.getElem?_eq_some_iff.1 (a0 X)).2
 have p0:bp<h.length+1:=by omega
 have hd1:dcS r.dc=[98,111,117,108,100,101,114]:=by rw[hd]; rfl
 have k1:=S266 (P:=P) (h:=h++[enB e]) (by rw[List.getElem?_append_left q1]; exact gr) gi (H.app _) hl
 rw[List.set_append_left _ _ q1] at k1
 generalize rowL (l.set i (leaveC c,v))=R2 at *
 simp only[enB,enE] at *
 rw[u267]
 simp[c267,plB,a0,a0',p0,hd1,k1,frzF_ptr,frzFuncs_nil,frzFuncs_c]
theorem S264_b (gpl:h[bp]? = some (plB r names bc gc n t)) (hd:r.dc=.boulder) (gr:h[bc]? = some (.cells gc (rowL l) 0)) (gi:l[i]? = some (c,v)) :
  sfn P 264 [.ptr bp 0 0,.ptr bc gc (i*11),.c (enE e)] h=some (.c (.tuple []),h.set bc (.cells gc (rowL (l.set i ({ c with op:=false },v))) 0)++[enB e]):=by
 have hil:=(List.getElem?_eq_some_iff.1 gi).1
 have q0:=ltG gpl
 have q1:=ltG gr
 have a0:∀ X,(h++[X])[bp]? = some (plB r names bc gc n t):=fun X=>by rw[List.getElem?_append_left q0]; exact gpl
 have a0':=fun X=>(List.getElem?_eq_some_iff.1 (a0 X)).2
 have p0:bp<h.length+1:=by omega
 have a1:∀ X,(h++[X])[bc]? = some (.cells gc (rowL l) 0):=fun X=>by rw[List.getElem?_append_left q1]; exact gr
 have a1':=fun X=>(List.getElem?_eq_some_iff.1 (a1 X)).2
 have l2:bc<h.length+1:=by omega
 have hd1:dcS r.dc=[98,111,117,108,100,101,114]:=by rw[hd]; rfl
 have r1:=rowL_set l i 8 c { c with op:=false } v v (.c (.bool false)) gi rfl (by decide)
 have hst:∀ X Y,(h++[X]).set bc Y=h.set bc Y++[X]:=fun X Y=>List.set_append_left _ _ q1
 have l0:=rowL_len l
 generalize rowL (l.set i ({ c with op:=false },v))=R1 at *
 generalize rowL l=R0 at *
 have n2:i*11+9≤l.length*11:=by omega
 simp only[enB,enE] at *
 rw[u264]
 simp[c264,plB,a0,a0',p0,a1,a1',l2,hd1,r1,l0,n2,hst]
theorem S272_n (gpl:h[bp]? = some (plB r names bc gc n t)) (hd:r.dc≠.boulder) (gr:h[bc]? = some (.cells gc (rowL l) 0)) (gi:l[i]? = some (c,v)) :
  sfn P 272 [.ptr bp 0 0,.ptr bc gc (i*11),.c (enE e)] h=some (.c (.tuple []),h.set bc (.cells gc (rowL (l.set i ({ c.off .waiting with hold:=0,plus:=false },v))) 0)++[enB e]):=by
 have hil:=(List.getElem?_eq_some_iff.1 gi).1
 have q0:=ltG gpl
 have q1:=ltG gr
 have a0:∀ X,(h++[X])[bp]? = some (plB r names bc gc n t):=fun X=>by rw[List.getElem?_append_left q0]; exact gpl
 have a0':=fun X=>(List.getElem?_eq_some_iff.1 (a0 X)).2
 have p0:bp<h.length+1:=by omega
 have l2:bc<h.length+1:=by omega
 have hd1:¬ dcS r.dc=[98,111,117,108,100,101,114]:=by cases hx:r.dc<;>simp[dcS]; exact hd hx
 have k1:=S296 (P:=P) (h:=h++[enB e]) (by rw[List.getElem?_append_left q1]; exact gr) gi .waiting
 rw[List.set_append_left _ _ q1] at k1
 have hp2:phS .waiting=[119,97,105,116,105,110,103]:=rfl
 rw[hp2] at k1
 have r1:=rowL_set _ i 5 _ { c.off .waiting with hold:=0 } v v (.c (ci 0)) (set_at (y:=(c.off .waiting,v)) gi) rfl (by decide)
 have r2:=rowL_set _ i 6 _ { c.off .waiting with hold:=0,plus:=false } v v (.c (.bool false)) (set_at (y:=({ c.off .waiting with hold:=0 },v)) (set_at (y:=(c.off .waiting,v)) gi)) rfl (by decide)
 rw[List.set_set] at r1 r2
 rw[List.set_set] at r2
 have l0:=rowL_len (l.set i (c.off .waiting,v))
 have l1:=rowL_len (l.set i ({ c.off .waiting with hold:=0 },v))
 rw[List.length_set] at l0 l1
 have a3:∀ X Y,(h.set bc X++[Y])[bc]? = some X:=fun X Y=>by rw[List.getElem?_append_left (by simpa using q1),List.getElem?_set_self q1]
 have a3':=fun X Y=>(List.getElem?_eq_some_iff.1 (a3 X Y)).2
 have hst2:∀ X Y Z,(h.set bc X++[Y]).set bc Z=h.set bc Z++[Y]:=fun X Y Z=>by rw[List.set_append_left _ _ (by simpa using q1),List.set_set]
 generalize rowL (l.set i (c.off .waiting,v))=R0 at *
 generalize rowL (l.set i ({ c.off .waiting with hold:=0 },v))=R1 at *
 generalize rowL (l.set i ({ c.off .waiting with hold:=0,plus:=false },v))=R2 at *
 have n1:i*11+6≤l.length*11:=by omega
 have n2:i*11+7≤l.length*11:=by omega
 simp only[enB,enE] at *
 rw[u272]
 simp[c272,plB,a0,a0',p0,l2,hd1,k1,a3,a3',l0,l1,r1,r2,n1,n2,hst2,frzF_ptr,frzFuncs_nil,frzFuncs_c]
end LM.GZ
namespace LM.GZ
open Go LM
variable {P:Nat→Option SFunc} [Has P]
variable {r:CRn} {names:List Str} {s:CSs} {e:CEn} {c:CCl} {v:LV × LV} {h:Heap} {l:List (CCl × (LV × LV))} {bc gc i bp n:Nat} {t:Int}
theorem S272 (gpl:h[bp]? = some (plB r names bc gc n t)) (hd:r.dc=.boulder) (gr:h[bc]? = some (.cells gc (rowL l) 0)) (gi:l[i]? = some (c,v)) {b g:Nat} (H:TrB h c v b g) (hg:g≠0) (hb:b≠bc) (h1:1≤c.place) (h2:c.place≤c.tries.length) (hl:c.tries.length<1000) (ha:0≤(trAt c c.place).att∧(trAt c c.place).att≤99) :
  sfn P 272 [.ptr bp 0 0,.ptr bc gc (i*11),.c (enE e)] h=some (.c (.tuple []),((h++[enB e]).set b (.cells g ((c.setT { trAt c c.place with zone:=if (trAt c c.place).zone=(trAt c c.place).att then 0 else (trAt c c.place).zone,att:=(trAt c c.place).att-1 }).tries.flatMap trL) 0)).set bc (.cells gc (rowL (l.set i ({ c.setT { trAt c c.place with zone:=if (trAt c c.place).zone=(trAt c c.place).att then 0 else (trAt c c.place).zone,att:=(trAt c c.place).att-1 } with op:=false },v))) 0)):=by
 have hil:=(List.getElem?_eq_some_iff.1 gi).1
 have q0:=ltG gpl
 have q1:=ltG gr
 have a0:∀ X,(h++[X])[bp]? = some (plB r names bc gc n t):=fun X=>by rw[List.getElem?_append_left q0]; exact gpl
 have a0':=fun X=>(List.getElem?_eq_some_iff.1 (a0 X)).2
 have p0:bp<h.length+1:=by omega
 have hd1:dcS r.dc=[98,111,117,108,100,101,114]:=by rw[hd]; rfl
 have e216:=S216 (P:=P) (h:=h++[enB e]) (by rw[List.getElem?_append_left q1]; exact gr) gi (H.up _) h1 h2 hl
 have hHb:=(H.up (enB e)).2
 have hHl:=ltG H.2
 have a2:∀ X:LB,((h++[enB e]).set b X)[b]? = some X:=fun X=>List.getElem?_set_self (by simp; omega)
 have a2':=fun X=>(List.getElem?_eq_some_iff.1 (a2 X)).2
 have a3:∀ X:LB,((h++[enB e]).set b X)[bc]? = some (.cells gc (rowL l) 0):=fun X=>by rw[List.getElem?_set_ne hb,List.getElem?_append_left q1]; exact gr
 have a3':=fun X=>(List.getElem?_eq_some_iff.1 (a3 X)).2
 have hHb':=(List.getElem?_eq_some_iff.1 hHb).2
 have hHl2:b<h.length+1:=by omega
 have l2:bc<h.length+1:=by omega
 have ht:=tr_at h1 h2
 have gT:=trL_get c.tries _ 0 _ ht (by decide)
 have gZ:=trL_get c.tries _ 1 _ ht (by decide)
 have hk:(c.place-1).toNat<c.tries.length:=by omega
 have sT:=trL_set c.tries _ 0 _ { trAt c c.place with att:=(trAt c c.place).att-1 } (.c (ci ((trAt c c.place).att-1))) ht rfl (by decide)
 have sZ:=trL_set c.tries _ 1 _ { trAt c c.place with zone:=0 } (.c (ci 0)) ht rfl (by decide)
 have ht2:(c.tries.set (c.place-1).toNat { trAt c c.place with zone:=0 })[(c.place-1).toNat]? = some { trAt c c.place with zone:=0 }:=List.getElem?_set_self hk
 have gT2:=trL_get _ _ 0 _ ht2 (by decide)
 have sT2:=trL_set _ _ 0 _ { trAt c c.place with zone:=0,att:=(trAt c c.place).att-1 } (.c (ci ((trAt c c.place).att-1))) ht2 rfl (by decide)
 have gT0:(trL (trAt c c.place))[0]? = some (.c (ci (trAt c c.place).att)):=rfl
 have gZ0:(trL (trAt c c.place))[1]? = some (.c (ci (trAt c c.place).zone)):=rfl
 have gT2' : (trL { trAt c c.place with zone:=0 })[0]? = some (.c (ci (trAt c c.place).att)):=rfl
 rw[gT0,Nat.add_zero] at gT
 rw[gZ0] at gZ
 rw[gT2',Nat.add_zero] at gT2
 rw[Nat.add_zero] at sT sT2
 rw[List.set_set] at sT2
 have hcl:=trL_len c.tries
 have hcl2:=trL_len (c.tries.set (c.place-1).toNat { trAt c c.place with zone:=0 })
 rw[List.length_set] at hcl2
 have r1:=rowL_set l i 8 c { c.setT { trAt c c.place with zone:=if (trAt c c.place).zone=(trAt c c.place).att then 0 else (trAt c c.place).zone,att:=(trAt c c.place).att-1 } with op:=false } v v (.c (.bool false)) gi rfl (by decide)
 rw[← r1]
 have l0:=rowL_len l
 have hts:∀ T',(c.setT T').tries=c.tries.set (c.place-1).toNat T':=fun _=>rfl
 rw[hts]
 have n2:i*11+9≤l.length*11:=by omega
 clear r1
 have hw:IntKind.i64.wrap ((trAt c c.place).att-1)=(trAt c c.place).att-1:=wrap64 (by omega) (by omega)
 generalize hkk:(c.place-1).toNat=k at *
 have gTx:=(List.getElem?_eq_some_iff.1 gT).2
 have gZx:=(List.getElem?_eq_some_iff.1 gZ).2
 have gT2x:=(List.getElem?_eq_some_iff.1 gT2).2
 generalize rowL l=R0 at *
 have n5:k*4<c.tries.length*4:=by omega
 have n6:k*4+2≤c.tries.length*4:=by omega
 have n7:k*4+1≤c.tries.length*4:=by omega
 have n8:k*4+1<c.tries.length*4:=by omega
 generalize trAt c c.place=T at *
 obtain⟨ta,tz,tp,tw⟩:=T
 simp only at *
 by_cases hz:tz=ta
 ·rw[if_pos hz]
  generalize hC2:(c.tries.set k ⟨ta-1,0,tp,tw⟩).flatMap trL=C2 at *
  generalize hC1:(c.tries.set k ⟨ta,0,tp,tw⟩).flatMap trL=C1 at *
  generalize hC:c.tries.flatMap trL=C at *
  clear hC hC1 hC2
  simp only[enB] at *
  rw[u272]
  simp[c272,enE,plB,a0,a0',p0,hd1,e216,frzF_ptr,frzFuncs_nil,hHb,hHb',hHl2,hcl,hcl2,gT,gTx,gZ,gZx,gT2,gT2x,sZ,sT2,n2,n5,n6,n7,n8,a2,a2',a3,a3',l2,l0,hz,hg,hw]
 ·rw[if_neg hz]
  generalize hC1:(c.tries.set k ⟨ta-1,tz,tp,tw⟩).flatMap trL=C1 at *
  generalize hC:c.tries.flatMap trL=C at *
  clear hC hC1
  simp only[enB] at *
  rw[u272]
  simp[c272,enE,plB,a0,a0',p0,hd1,e216,frzF_ptr,frzFuncs_nil,hHb,hHb',hHl2,hcl,gT,gTx,gZ,gZx,sT,n2,n5,n6,n7,n8,a2,a2',a3,a3',l2,l0,hz,hg,hw]
theorem S258_n (gpl:h[bp]? = some (plB r names bc gc n t)) (hd:r.dc≠.boulder) (hne:bp≠bc) (hg:gc≠0) (gr:h[bc]? = some (.cells gc (rowL l) 0)) (gi:l[i]? = some (c,v)) :
  sfn P 258 [.ptr bp 0 0,.ptr bc gc (i*11),.c (enE e)] h=some (.c (.tuple []),h.set bc (.cells gc (rowL (l.set i ({ c with ph:=.on,place:=e.val,began:=e.time },v))) 0)++[enB e]):=by
 have hil:=(List.getElem?_eq_some_iff.1 gi).1
 have q0:=ltG gpl
 have q1:=ltG gr
 have a1:∀ X,(h++[X])[bc]? = some (.cells gc (rowL l) 0):=fun X=>by rw[List.getElem?_append_left q1]; exact gr
 have a1':=fun X=>(List.getElem?_eq_some_iff.1 (a1 X)).2
 have p0:bp<h.length+1:=by omega
 have l2:bc<h.length+1:=by omega
 have hd1:¬ dcS r.dc=[98,111,117,108,100,101,114]:=by cases hx:r.dc<;>simp[dcS]; exact hd hx
 have hp:phS .on=[111,110]:=rfl
 have r1:=rowL_set l i 0 c { c with ph:=.on } v v (.c (.str (phS .on))) gi rfl (by decide)
 have r2:=rowL_set _ i 2 _ { c with ph:=.on,place:=e.val } v v (.c (ci e.val)) (set_at (y:=({ c with ph:=.on },v)) gi) rfl (by decide)
 have r3:=rowL_set _ i 3 _ { c with ph:=.on,place:=e.val,began:=e.time } v v (.c (ci e.time)) (set_at (y:=({ c with ph:=.on,place:=e.val },v)) gi) rfl (by decide)
 rw[List.set_set] at r2 r3
 rw[Nat.add_zero,hp] at r1
 have l0:=rowL_len l
 have l1:=rowL_len (l.set i ({ c with ph:=.on },v))
 have l3:=rowL_len (l.set i ({ c with ph:=.on,place:=e.val },v))
 rw[List.length_set] at l1 l3
 have hst:∀ X Y,(h++[X]).set bc Y=h.set bc Y++[X]:=fun X Y=>List.set_append_left _ _ q1
 have a3:∀ X Y,(h.set bc X++[Y])[bc]? = some X:=fun X Y=>by rw[List.getElem?_append_left (by simpa using q1),List.getElem?_set_self q1]
 have a3':=fun X Y=>(List.getElem?_eq_some_iff.1 (a3 X Y)).2
 have a4:∀ X Y,(h.set bc X++[Y])[bp]? = some (plB r names bc gc n t):=fun X Y=>by rw[List.getElem?_append_left (by simpa using q0),List.getElem?_set_ne (Ne.symm hne)]; exact gpl
 have a4':=fun X Y=>(List.getElem?_eq_some_iff.1 (a4 X Y)).2
 have hst2:∀ X Y Z,(h.set bc X++[Y]).set bc Z=h.set bc Z++[Y]:=fun X Y Z=>by rw[List.set_append_left _ _ (by simpa using q1),List.set_set]
 generalize rowL (l.set i ({ c with ph:=.on },v))=R1 at *
 generalize rowL (l.set i ({ c with ph:=.on,place:=e.val },v))=R2 at *
 generalize rowL (l.set i ({ c with ph:=.on,place:=e.val,began:=e.time },v))=R3 at *
 generalize rowL l=R0 at *
 have n0:i*11+1≤l.length*11:=by omega
 have n1:i*11+3≤l.length*11:=by omega
 have n2:i*11+4≤l.length*11:=by omega
 simp only[enB,enE] at *
 rw[u258]
 simp[c258,plB,a1,a1',p0,l2,hd1,hg,r1,r2,r3,l0,l1,l3,n0,n1,n2,hst,a3,a3',a4,a4',hst2]
end LM.GZ
namespace LM.GZ
open Go LM
variable {P:Nat→Option SFunc} [Has P]
variable {r:CRn} {names:List Str} {s:CSs} {e:CEn} {c:CCl} {v:LV × LV} {h:Heap} {l:List (CCl × (LV × LV))} {bc gc i bp n:Nat} {t:Int}
theorem S258 (gpl:h[bp]? = some (plB r names bc gc n t)) (hd:r.dc=.boulder) {b g:Nat} (H:TrB h c v b g) (hb:b≠bc) (h1:1≤e.val) (h2:e.val≤c.tries.length) (hl:c.tries.length<1000) (hne:bp≠bc) (hg:gc≠0) (gr:h[bc]? = some (.cells gc (rowL l) 0)) (gi:l[i]? = some (c,v)) :
  sfn P 258 [.ptr bp 0 0,.ptr bc gc (i*11),.c (enE e)] h=some (.c (.tuple []),(h.set bc (.cells gc (rowL (l.set i ((({ c with ph:=.on,place:=e.val,began:=e.time }:CCl).setT { trAt c e.val with vis:=true }),v))) 0)++[enB e]).set b (.cells g ((({ c with ph:=.on,place:=e.val,began:=e.time }:CCl).setT { trAt c e.val with vis:=true }).tries.flatMap trL) 0)):=by
 have hil:=(List.getElem?_eq_some_iff.1 gi).1
 have q0:=ltG gpl
 have q1:=ltG gr
 have a1:∀ X,(h++[X])[bc]? = some (.cells gc (rowL l) 0):=fun X=>by rw[List.getElem?_append_left q1]; exact gr
 have a1':=fun X=>(List.getElem?_eq_some_iff.1 (a1 X)).2
 have p0:bp<h.length+1:=by omega
 have l2:bc<h.length+1:=by omega
 have hd1:dcS r.dc=[98,111,117,108,100,101,114]:=by rw[hd]; rfl
 have hp:phS .on=[111,110]:=rfl
 have r1:=rowL_set l i 0 c { c with ph:=.on } v v (.c (.str (phS .on))) gi rfl (by decide)
 have r2:=rowL_set _ i 2 _ { c with ph:=.on,place:=e.val } v v (.c (ci e.val)) (set_at (y:=({ c with ph:=.on },v)) gi) rfl (by decide)
 have r3:=rowL_set _ i 3 _ { c with ph:=.on,place:=e.val,began:=e.time } v v (.c (ci e.time)) (set_at (y:=({ c with ph:=.on,place:=e.val },v)) gi) rfl (by decide)
 have r4:=rowL_set _ i 3 _ (({ c with ph:=.on,place:=e.val,began:=e.time }:CCl).setT { trAt c e.val with vis:=true }) v v (.c (ci e.time)) (set_at (y:=({ c with ph:=.on,place:=e.val },v)) gi) rfl (by decide)
 rw[r3] at r4
 rw[List.set_set] at r2 r3 r4
 rw[List.set_set] at r4
 rw[← r4]
 rw[Nat.add_zero,hp] at r1
 have l0:=rowL_len l
 have l1:=rowL_len (l.set i ({ c with ph:=.on },v))
 have l3:=rowL_len (l.set i ({ c with ph:=.on,place:=e.val },v))
 rw[List.length_set] at l1 l3
 have hst:∀ X Y,(h++[X]).set bc Y=h.set bc Y++[X]:=fun X Y=>List.set_append_left _ _ q1
 have a3:∀ X Y,(h.set bc X++[Y])[bc]? = some X:=fun X Y=>by rw[List.getElem?_append_left (by simpa using q1),List.getElem?_set_self q1]
 have a3':=fun X Y=>(List.getElem?_eq_some_iff.1 (a3 X Y)).2
 have a4:∀ X Y,(h.set bc X++[Y])[bp]? = some (plB r names bc gc n t):=fun X Y=>by rw[List.getElem?_append_left (by simpa using q0),List.getElem?_set_ne (Ne.symm hne)]; exact gpl
 have a4':=fun X Y=>(List.getElem?_eq_some_iff.1 (a4 X Y)).2
 have hst2:∀ X Y Z,(h.set bc X++[Y]).set bc Z=h.set bc Z++[Y]:=fun X Y Z=>by rw[List.set_append_left _ _ (by simpa using q1),List.set_set]
 have e216:=S216 (P:=P) (c:={ c with ph:=.on,place:=e.val,began:=e.time }) (h:=h.set bc (.cells gc (rowL (l.set i ({ c with ph:=.on,place:=e.val,began:=e.time },v))) 0)++[enB e]) (a3 _ _) (set_at (y:=({ c with ph:=.on,place:=e.val,began:=e.time },v)) gi) (H.put hb _ _ (c':={ c with ph:=.on,place:=e.val,began:=e.time }) rfl) h1 h2 hl
 have hHb:=(H.put hb (.cells gc (rowL (l.set i ({ c with ph:=.on,place:=e.val,began:=e.time },v))) 0) (enB e) (c':=c) rfl).2
 have hHb':=(List.getElem?_eq_some_iff.1 hHb).2
 have hHl:=ltG H.2
 have hHl2:b<h.length+1:=by omega
 have ht:=tr_at (c:=c) h1 h2
 have sT:=trL_set c.tries _ 3 _ { trAt c e.val with vis:=true } (.c (.bool true)) ht rfl (by decide)
 have hcl:=trL_len c.tries
 have hts:(({ c with ph:=.on,place:=e.val,began:=e.time }:CCl).setT { trAt c e.val with vis:=true }).tries=c.tries.set (e.val-1).toNat { trAt c e.val with vis:=true }:=rfl
 rw[hts,← sT]
 have hk:(e.val-1).toNat<c.tries.length:=by omega
 simp only at e216
 clear r4
 generalize hkk:(e.val-1).toNat=k at *
 have n6:k*4+4≤c.tries.length*4:=by omega
 generalize c.tries.flatMap trL=C at *
 generalize rowL (l.set i ({ c with ph:=.on },v))=R1 at *
 generalize rowL (l.set i ({ c with ph:=.on,place:=e.val },v))=R2 at *
 generalize rowL (l.set i ({ c with ph:=.on,place:=e.val,began:=e.time },v))=R3 at *
 generalize rowL l=R0 at *
 have n0:i*11+1≤l.length*11:=by omega
 have n1:i*11+3≤l.length*11:=by omega
 have n2:i*11+4≤l.length*11:=by omega
 simp only[enB,enE] at *
 rw[u258]
 simp[c258,plB,a1,a1',p0,l2,hd1,hg,r1,r2,r3,l0,l1,l3,n0,n1,n2,hst,a3,a3',a4,a4',hst2,e216,frzF_ptr,frzFuncs_nil,hHb,hHb',hHl2,hcl,n6]
end LM.GZ
namespace LM.GZ
open Go LM
variable {P:Nat→Option SFunc} [Has P]
variable {r:CRn} {names:List Str} {s:CSs} {e:CEn} {c:CCl} {v:LV × LV} {h:Heap} {l:List (CCl × (LV × LV))} {bc gc i bp n:Nat} {t:Int}
def bestF (o n:Int):Int:=if 0<n∧(o=0∨n<o) then n else o
theorem L177_0 (X:List Int) (hX:(X.length:Int)<1000000):∀ (r pre:List Int) (o:Int),X=pre++r →
  execS P (limS P) c177_l0 ⟨[.c (ci o),.c (.slice (X.map ci)),.c (ci X.length),.c (ci pre.length)],[]⟩=some (.exit 0,⟨[.c (ci (r.foldl bestF o))],[]⟩):=by
 intro r
 induction r with
 | nil =>
  intro pre o hp
  have hp' : X=pre:=by simpa using hp
  subst hp'
  rw[r177_l0]
  simp[c177_l0b]
 | cons x r ih =>
  intro pre o hp
  have gx:X[pre.length]? = some x:=by rw[hp]; simp
  have hpl:pre.length<X.length:=(List.getElem?_eq_some_iff.1 gx).1
  obtain⟨_,gx'⟩:=List.getElem?_eq_some_iff.1 gx
  have hlt:(pre.length:Int)<X.length:=by omega
  have hw:IntKind.i64.wrap ((pre.length:Int)+1)=(pre.length:Int)+1:=wrap64 (by omega) (by omega)
  have ih:=ih (pre++[x]) (bestF o x) (by simp[hp])
  simp at ih
  rw[List.foldl_cons,r177_l0]
  unfold bestF at ih ⊢
  by_cases h1:0<x
  ·by_cases h2:o=0
   ·subst h2
    simp[h1] at ih ⊢
    simp[c177_l0b,hlt,hpl,gx,gx',hw,h1,ih]
   ·by_cases h3:x<o
    ·simp[h1,h2,h3] at ih ⊢
     simp[c177_l0b,hlt,hpl,gx,gx',hw,h1,h2,h3,ih]
    ·simp[h1,h2,h3] at ih ⊢
     simp[c177_l0b,hlt,hpl,gx,gx',hw,h1,h2,h3,ih]
  ·simp[h1] at ih ⊢
   simp[c177_l0b,hlt,hpl,gx,gx',hw,h1,ih]
theorem S177 (X:List Int) (hX:(X.length:Int)<1000000):fn P 177 [.slice (X.map ci)]=some (ci (bestL X)):=by
 have k:=L177_0 (P:=P) X hX X [] 0 rfl
 simp at k
 have e:X.foldl bestF 0=bestL X:=rfl
 rw[e] at k
 rw[u177]
 simp[c177,k]
end LM.GZ
namespace LM.GZ
open Go LM
variable {P:Nat→Option SFunc} [Has P]
variable {r:CRn} {names:List Str} {s:CSs} {e:CEn} {c:CCl} {v:LV × LV} {h:Heap} {l:List (CCl × (LV × LV))} {bc gc i bp n:Nat} {t:Int}
theorem run_facts {K:Heap} (gpl:K[bp]? = some (plB r names bc gc n t)) (hne:bp≠bc) (gr:K[bc]? = some (.cells gc (rowL l) 0)) (gi:l[i]? = some (c,v)) (x:Int) (w:LV) :
  (rowL l).set (i*11+10) w=rowL (l.set i ({ c with runs:=c.runs++[x] },(v.1,w))) ∧
  (∀ p:CPh,sfn P 296 [.ptr bc gc (i*11),.c (.str (phS p))] (K.set bc (.cells gc (rowL (l.set i ({ c with runs:=c.runs++[x] },(v.1,w)))) 0))=some (.c (.tuple []),K.set bc (.cells gc (rowL (l.set i (({ c with runs:=c.runs++[x] }:CCl).off p,(v.1,w)))) 0))) ∧
  (∀ p q:CPh,sfn P 296 [.ptr bc gc (i*11),.c (.str (phS p))] (K.set bc (.cells gc (rowL (l.set i (({ c with runs:=c.runs++[x] }:CCl).off q,(v.1,w)))) 0))=some (.c (.tuple []),K.set bc (.cells gc (rowL (l.set i ((({ c with runs:=c.runs++[x] }:CCl).off q).off p,(v.1,w)))) 0))) ∧
  (∀ p q:CPh,(rowL (l.set i ((({ c with runs:=c.runs++[x] }:CCl).off q).off p,(v.1,w)))).set (i*11+1) (.c (.str [100,110,102]))=rowL (l.set i ({ (({ c with runs:=c.runs++[x] }:CCl).off q).off p with st:=.dnf },(v.1,w)))) ∧
  (∀ q:CPh,(rowL (l.set i (({ c with runs:=c.runs++[x] }:CCl).off q,(v.1,w))))[i*11+10]? = some w) ∧
  (∀ p q:CPh,(rowL (l.set i ((({ c with runs:=c.runs++[x] }:CCl).off q).off p,(v.1,w))))[i*11+10]? = some w) ∧
  (∀ y,(rowL (l.set i y)).length=l.length*11):=by
 have q1:=ltG gr
 have g0:∀ y,(l.set i y)[i]? = some y:=fun y=>set_at gi
 refine⟨rowL_set l i 10 c _ v (v.1,w) w gi rfl (by decide),fun p=>?_,fun p q=>?_,fun p q=>?_,fun q=>?_,fun p q=>?_,fun y=>by rw[rowL_len,List.length_set]⟩
 ·have:=S296 (P:=P) (h:=K.set bc (.cells gc (rowL (l.set i ({ c with runs:=c.runs++[x] },(v.1,w)))) 0)) (List.getElem?_set_self q1) (g0 _) p
  rw[List.set_set,List.set_set] at this
  exact this
 ·have:=S296 (P:=P) (h:=K.set bc (.cells gc (rowL (l.set i (({ c with runs:=c.runs++[x] }:CCl).off q,(v.1,w)))) 0)) (List.getElem?_set_self q1) (g0 _) p
  rw[List.set_set,List.set_set] at this
  exact this
 ·have:=rowL_set _ i 1 _ { (({ c with runs:=c.runs++[x] }:CCl).off q).off p with st:=.dnf } (v.1,w) (v.1,w) (.c (.str [100,110,102])) (g0 ((({ c with runs:=c.runs++[x] }:CCl).off q).off p,(v.1,w))) rfl (by decide)
  rw[List.set_set] at this
  exact this
 ·exact rowL_at _ i 10 _ (g0 _) (by decide)
 ·exact rowL_at _ i 10 _ (g0 _) (by decide)
theorem S269_a (gpl:h[bp]? = some (plB r names bc gc n t)) (hne:bp≠bc) (hg:gc≠0) (gr:h[bc]? = some (.cells gc (rowL l) 0)) (gi:l[i]? = some (c,v)) (hru:c.runs=[]∧v.2=.nil) (x:Int) (hsz:1≤r.size) :
  sfn P 269 [.ptr bp 0 0,.ptr bc gc (i*11),.c (ci x)] h=some (.c (.tuple []),(h++[LB.dead,LB.cells 1 (cI [x]) 0]).set bc (.cells gc (rowL (l.set i (runC r c x,(v.1,.slice (h.length+1) 1 0 1 none none)))) 0)):=by
 have hil:=(List.getElem?_eq_some_iff.1 gi).1
 have q0:=ltG gpl
 have q1:=ltG gr
 have gr':=(List.getElem?_eq_some_iff.1 gr).2
 have g10:=rowL_at l i 10 _ gi (by decide)
 have e10:(clL c v)[10]? = some v.2:=rfl
 simp only at g10
 rw[e10,hru.2] at g10
 have g10':=(List.getElem?_eq_some_iff.1 g10).2
 have l0:=rowL_len l
 have hap:∀ H:Heap,appendOp none none 8 .emp (.c (.slice [ci x])) H=some (.slice H.length 1 0 1 none none,H++[.cells 1 [.c (ci x)] 0]):=fun _=>rfl
 have hcl:cloneP none 8 [.slice []]=some (.emp,[]):=rfl
 have gK:∀ {j:Nat} {B:LB},h[j]? = some B→(h++[LB.dead,LB.cells 1 (cI [x]) 0])[j]? = some B:=fun e=>by rw[List.getElem?_append_left (ltG e)]; exact e
 obtain⟨f1,f2,f3,f4,f5,f6,f7⟩:=run_facts (P:=P) (gK gpl) hne (gK gr) gi x (.slice (h.length+1) 1 0 1 none none)
 have hx:c.runs++[x]=[x]:=by rw[hru.1]; rfl
 have f2':=f2 .waiting
 have f3':=f3 .done .waiting
 have f4':=f4 .done .waiting
 have f5':=f5 .waiting
 have f6':=f6 .done .waiting
 have l1:=f7 (({ c with runs:=c.runs++[x] }:CCl).off .waiting,(v.1,.slice (h.length+1) 1 0 1 none none))
 have l2:=f7 ((({ c with runs:=c.runs++[x] }:CCl).off .waiting).off .done,(v.1,.slice (h.length+1) 1 0 1 none none))
 have hp1:phS .waiting=[119,97,105,116,105,110,103]:=rfl
 have hp2:phS .done=[100,111,110,101]:=rfl
 rw[hp1] at f2'
 rw[hp2] at f3'
 have e177:=S177 (P:=P) [x] (by simp)
 have f5x:=(List.getElem?_eq_some_iff.1 f5').2
 have f6x:=(List.getElem?_eq_some_iff.1 f6').2
 have hc1:cI [x]=[.c (ci x)]:=rfl
 have hrun:runC r c x=if 1<r.size then ({ c with runs:=c.runs++[x] }:CCl).off .waiting else { (({ c with runs:=c.runs++[x] }:CCl).off .waiting).off .done with st:=if bestL [x]=0 then .dnf else c.st }:=by
  unfold runC
  rw[hx,hru.1]
  rfl
 have hne' : ∀ X,(((h++[LB.dead,LB.cells 1 (cI [x]) 0]).set bc X))[bp]? = some (plB r names bc gc n t):=fun X=>by rw[List.getElem?_set_ne (Ne.symm hne)]; exact gK gpl
 have hne'':=fun X=>(List.getElem?_eq_some_iff.1 (hne' X)).2
 have hbc:∀ X,(((h++[LB.dead,LB.cells 1 (cI [x]) 0]).set bc X))[bc]? = some X:=fun X=>List.getElem?_set_self (by simp; omega)
 have hbc':=fun X=>(List.getElem?_eq_some_iff.1 (hbc X)).2
 have hs0:∀ X:LB,(h.set bc X)[bp]? = some (plB r names bc gc n t):=fun X=>by rw[List.getElem?_set_ne (Ne.symm hne)]; exact gpl
 have hs0':=fun X:LB=>(List.getElem?_eq_some_iff.1 (hs0 X)).2
 have n0:bp<h.length+1+1:=by omega
 have n1:bc<h.length+1+1:=by omega
 have n2:i*11+11≤l.length*11:=by omega
 have n3:i*11+10<l.length*11:=by omega
 have n4:i*11+2≤l.length*11:=by omega
 have hsa:∀ Y:LB,(h++[LB.dead,LB.cells 1 (cI [x]) 0]).set bc Y=h.set bc Y++[LB.dead,LB.cells 1 (cI [x]) 0]:=fun Y=>List.set_append_left _ _ q1
 rw[hrun]
 clear f2 f3 f4 f5 f6 f7 hrun gK
 simp only[hsa] at *
 generalize rowL (l.set i ({ c with runs:=c.runs++[x] },(v.1,.slice (h.length+1) 1 0 1 none none)))=R1 at *
 by_cases hs:1<r.size
 ·have hsi:(1:Int)<r.size:=by omega
  rw[if_pos hs]
  generalize rowL (l.set i (({ c with runs:=c.runs++[x] }:CCl).off .waiting,(v.1,.slice (h.length+1) 1 0 1 none none)))=R2 at *
  generalize rowL l=R0 at *
  rw[hc1] at *
  rw[u269]
  simp[c269,gr,gr',q1,q0,l0,g10,g10',n3,u118,hcl,hap,LV.shift,shiftB,f1,f2',n0,n1,n2,hne',hne'',hbc,hbc',hs0,hs0',l1,f5',f5x,plB,hg,hs,hsi,frzF_ptr,frzFuncs_nil,frzFuncs_c]
 ·have hsi:¬ (1:Int)<r.size:=by omega
  rw[if_neg hs]
  have hfz:=fun Y:LB=>frz_own (b:=h.length+1) (g:=1) (fz:=0) (e:=none) (ys:=[x].map ci) (h:=h.set bc Y++[LB.dead,LB.cells 1 (cI [x]) 0]) (len:=1) (by rw[List.getElem?_append_right (by simp)]; simp; rfl) (intElems _) (by simp) none
  have q0' : bp<h.length+2:=by omega
  generalize rowL (l.set i (({ c with runs:=c.runs++[x] }:CCl).off .waiting,(v.1,.slice (h.length+1) 1 0 1 none none)))=R2 at *
  rw[hc1] at *
  simp only[List.map_cons,List.map_nil] at hfz e177
  by_cases hb:bestL [x]=0
  ·rw[if_pos hb]
   rw[hb] at e177
   generalize rowL (l.set i ({ (({ c with runs:=c.runs++[x] }:CCl).off .waiting).off .done with st:=.dnf },(v.1,.slice (h.length+1) 1 0 1 none none)))=R4 at *
   generalize rowL (l.set i ((({ c with runs:=c.runs++[x] }:CCl).off .waiting).off .done,(v.1,.slice (h.length+1) 1 0 1 none none)))=R3 at *
   generalize rowL l=R0 at *
   rw[u269]
   simp[c269,gr,gr',q1,q0,l0,g10,g10',n3,u118,hcl,hap,LV.shift,shiftB,f1,f2',f3',f4',n0,n1,n2,n4,hne',hne'',hbc,hbc',hs0,hs0',l1,l2,f5',f5x,f6',f6x,plB,hg,hs,hsi,frzF_ptr,frzFuncs_nil,frzFuncs_c,frzArgs_cons,hfz,-frz_slice,-bump,e177]
  ·rw[if_neg hb]
   have hst:({ (({ c with runs:=c.runs++[x] }:CCl).off .waiting).off .done with st:=c.st }:CCl)=(({ c with runs:=c.runs++[x] }:CCl).off .waiting).off .done:=rfl
   rw[hst]
   generalize rowL (l.set i ({ (({ c with runs:=c.runs++[x] }:CCl).off .waiting).off .done with st:=.dnf },(v.1,.slice (h.length+1) 1 0 1 none none)))=R4 at *
   generalize rowL (l.set i ((({ c with runs:=c.runs++[x] }:CCl).off .waiting).off .done,(v.1,.slice (h.length+1) 1 0 1 none none)))=R3 at *
   generalize rowL l=R0 at *
   rw[u269]
   simp[c269,gr,gr',q1,q0,l0,g10,g10',n3,u118,hcl,hap,LV.shift,shiftB,f1,f2',f3',n0,n1,n2,n4,hne',hne'',hbc,hbc',hs0,hs0',l1,l2,f5',f5x,f6',f6x,plB,hg,hs,hsi,frzF_ptr,frzFuncs_nil,frzFuncs_c,frzArgs_cons,hfz,-frz_slice,-bump,e177,hb]
end LM.GZ
namespace LM.GZ
open Go LM
variable {P:Nat→Option SFunc} [Has P]
variable {r:CRn} {names:List Str} {s:CSs} {e:CEn} {c:CCl} {v:LV × LV} {h:Heap} {l:List (CCl × (LV × LV))} {bc gc i bp n:Nat} {t:Int}
theorem clone_int2 (X:List Int) (h:X.length<1000000) (hx:X≠[]):cloneP none 8 [.slice (X.map ci)]=some (.slice 0 1 0 X.length none none,[.cells 1 (cI X) 0]):=by
 have e1:((X.map ci).flatMap CV.cells).map LV.c=cI X:=by rw[← cellsOf_ints]; rfl
 have hn:X.length≠0:=fun e=>hx (List.eq_nil_of_length_eq_zero e)
 have hz:szOf none=1:=rfl
 have hf:flatAll (cI X)=true:=by rw[← cellsOf_ints]; exact flatAll_cellsOf (intElems X)
 unfold cloneP
 simp only[e1,List.length_map,cI_length,hf,hz]
 rw[if_neg hn,if_neg (by simp; omega)]
theorem S269 (gpl:h[bp]? = some (plB r names bc gc n t)) (hne:bp≠bc) (hg:gc≠0) (gr:h[bc]? = some (.cells gc (rowL l) 0)) (gi:l[i]? = some (c,v)) {b g:Nat} (hru:v.2=.slice b g 0 c.runs.length none none) (hrn:c.runs≠[]) (hrb:h[b]? = some (.cells g (cI c.runs) 0)) (hbc0:b≠bc) (hbp0:b≠bp) (hrl:c.runs.length<1000) (x:Int) (hsz:1≤r.size) :
  sfn P 269 [.ptr bp 0 0,.ptr bc gc (i*11),.c (ci x)] h=some (.c (.tuple []),(LM.bump b c.runs.length h++[LB.cells 2 (cI (c.runs++[x])) 0]).set bc (.cells gc (rowL (l.set i (runC r c x,(v.1,.slice h.length 2 0 (c.runs.length+1) none none)))) 0)):=by
 have hil:=(List.getElem?_eq_some_iff.1 gi).1
 have q0:=ltG gpl
 have q1:=ltG gr
 have gr':=(List.getElem?_eq_some_iff.1 gr).2
 have g10:=rowL_at l i 10 _ gi (by decide)
 have e10:(clL c v)[10]? = some v.2:=rfl
 simp only at g10
 rw[e10,hru] at g10
 have g10':=(List.getElem?_eq_some_iff.1 g10).2
 have l0:=rowL_len l
 have hz:szOf none=1:=rfl
 have hfr:=frz_own (b:=b) (g:=g) (fz:=0) (e:=none) (ys:=c.runs.map ci) (h:=h) (len:=c.runs.length) (by rw[cellsOf_ints]; exact hrb) (intElems _) (by simp) none
 rw[hz,Nat.mul_one] at hfr
 have hcl:=clone_int2 c.runs (by omega) hrn
 have hsh:=shift_cI
 have hbmp:LM.bump b c.runs.length h=h.set b (.cells g (cI c.runs) (Nat.max 0 c.runs.length)):=by unfold LM.bump; rw[hrb]
 have gpl0:(LM.bump b c.runs.length h)[bp]? = some (plB r names bc gc n t):=by rw[hbmp,List.getElem?_set_ne hbp0]; exact gpl
 have gr0:(LM.bump b c.runs.length h)[bc]? = some (.cells gc (rowL l) 0):=by rw[hbmp,List.getElem?_set_ne hbc0]; exact gr
 have hKl:(LM.bump b c.runs.length h).length=h.length:=by rw[hbmp,List.length_set]
 have hsc:scalarC (.slice (c.runs.map ci))=false:=rfl
 clear hbmp
 generalize LM.bump b c.runs.length h=K0 at *
 have gr0':=(List.getElem?_eq_some_iff.1 gr0).2
 have hap:=append_own (b:=h.length) (g:=1) (bytes:=8) (e:=none) (ys:=c.runs.map ci) (xs:=[ci x]) (h:=K0++[LB.cells 1 (cellsOf (c.runs.map ci)) 0]) (len:=c.runs.length) (fz:=0) (by rw[← hKl]; simp) (intElems _) (by intro y hy; simp at hy; rw[hy]; exact⟨rfl,rfl⟩) (by simp) (Nat.zero_le _) (by simp) (by simp; omega) (by simp; omega)
 have e1:c.runs.map ci++[ci x]=(c.runs++[x]).map ci:=by simp
 rw[e1,cellsOf_ints,cellsOf_ints] at hap
 have hset:(K0++[LB.cells 1 (cI c.runs) 0]).set h.length (.cells (1+1) (cI (c.runs++[x])) 0)=K0++[LB.cells 2 (cI (c.runs++[x])) 0]:=by rw[← hKl]; simp
 rw[hset] at hap
 have gK:∀ {j:Nat} {B:LB},K0[j]? = some B→(K0++[LB.cells 2 (cI (c.runs++[x])) 0])[j]? = some B:=fun e=>by rw[List.getElem?_append_left (ltG e)]; exact e
 obtain⟨f1,f2,f3,f4,f5,f6,f7⟩:=run_facts (P:=P) (gK gpl0) hne (gK gr0) gi x (.slice h.length 2 0 (c.runs.length+1) none none)
 have f2':=f2 .waiting
 have f3':=f3 .done .waiting
 have f4':=f4 .done .waiting
 have f5':=f5 .waiting
 have f6':=f6 .done .waiting
 have l1:=f7 (({ c with runs:=c.runs++[x] }:CCl).off .waiting,(v.1,.slice h.length 2 0 (c.runs.length+1) none none))
 have l2:=f7 ((({ c with runs:=c.runs++[x] }:CCl).off .waiting).off .done,(v.1,.slice h.length 2 0 (c.runs.length+1) none none))
 have hp1:phS .waiting=[119,97,105,116,105,110,103]:=rfl
 have hp2:phS .done=[100,111,110,101]:=rfl
 rw[hp1] at f2'
 rw[hp2] at f3'
 have e177:=S177 (P:=P) (c.runs++[x]) (by simp; omega)
 have f5x:=(List.getElem?_eq_some_iff.1 f5').2
 have f6x:=(List.getElem?_eq_some_iff.1 f6').2
 have hrun:runC r c x=if c.runs.length+1<r.size then ({ c with runs:=c.runs++[x] }:CCl).off .waiting else { (({ c with runs:=c.runs++[x] }:CCl).off .waiting).off .done with st:=if bestL (c.runs++[x])=0 then .dnf else c.st }:=rfl
 have hq0:=ltG gpl0
 have hq1:=ltG gr0
 have hsa:∀ Y:LB,(K0++[LB.cells 2 (cI (c.runs++[x])) 0]).set bc Y=K0.set bc Y++[LB.cells 2 (cI (c.runs++[x])) 0]:=fun Y=>List.set_append_left _ _ hq1
 have hs0:∀ X:LB,(K0.set bc X)[bp]? = some (plB r names bc gc n t):=fun X=>by rw[List.getElem?_set_ne (Ne.symm hne)]; exact gpl0
 have hs0':=fun X:LB=>(List.getElem?_eq_some_iff.1 (hs0 X)).2
 have hne' : ∀ X,(K0.set bc X++[LB.cells 2 (cI (c.runs++[x])) 0])[bp]? = some (plB r names bc gc n t):=fun X=>by rw[List.getElem?_append_left (by simpa using hq0)]; exact hs0 X
 have hne'':=fun X=>(List.getElem?_eq_some_iff.1 (hne' X)).2
 have hbc:∀ X,(K0.set bc X++[LB.cells 2 (cI (c.runs++[x])) 0])[bc]? = some X:=fun X=>by rw[List.getElem?_append_left (by simpa using hq1)]; exact List.getElem?_set_self hq1
 have hbc':=fun X=>(List.getElem?_eq_some_iff.1 (hbc X)).2
 have n0:bp<h.length+1:=by omega
 have n1:bc<h.length+1:=by omega
 have n2:i*11+11≤l.length*11:=by omega
 have n3:i*11+10<l.length*11:=by omega
 have n4:i*11+2≤l.length*11:=by omega
 rw[hrun]
 clear f2 f3 f4 f5 f6 f7 hrun gK
 simp only[hsa] at *
 generalize rowL (l.set i ({ c with runs:=c.runs++[x] },(v.1,.slice h.length 2 0 (c.runs.length+1) none none)))=R1 at *
 simp only[List.map_append,List.map_cons,List.map_nil] at e177
 by_cases hs:c.runs.length+1<r.size
 ·have hsi:(c.runs.length:Int)+1<r.size:=by omega
  rw[if_pos hs]
  generalize rowL (l.set i (({ c with runs:=c.runs++[x] }:CCl).off .waiting,(v.1,.slice h.length 2 0 (c.runs.length+1) none none)))=R2 at *
  generalize rowL l=R0 at *
  rw[u269]
  simp[c269,gr,gr',gr0,gr0',q1,q0,hq0,hq1,hKl,l0,g10,g10',n3,u118,hfr,hcl,hsc,hap,LV.shift,shiftB,LB.shift,hsh,f1,f2',n0,n1,n2,hne',hne'',hbc,hbc',hs0,hs0',l1,f5',f5x,plB,hg,hs,hsi,frzArgs_cons,-frz_slice,-bump,frzF_ptr,frzFuncs_nil,frzFuncs_c]
 ·have hsi:¬ (c.runs.length:Int)+1<r.size:=by omega
  rw[if_neg hs]
  have hfz:=fun Y:LB=>frz_own (b:=h.length) (g:=2) (fz:=0) (e:=none) (ys:=(c.runs++[x]).map ci) (h:=K0.set bc Y++[LB.cells 2 (cI (c.runs++[x])) 0]) (len:=c.runs.length+1) (by rw[List.getElem?_append_right (by simp[hKl]),cellsOf_ints]; simp[hKl]) (intElems _) (by simp) none
  generalize rowL (l.set i (({ c with runs:=c.runs++[x] }:CCl).off .waiting,(v.1,.slice h.length 2 0 (c.runs.length+1) none none)))=R2 at *
  simp only[List.map_append,List.map_cons,List.map_nil] at hfz
  by_cases hb:bestL (c.runs++[x])=0
  ·rw[if_pos hb]
   rw[hb] at e177
   generalize rowL (l.set i ({ (({ c with runs:=c.runs++[x] }:CCl).off .waiting).off .done with st:=.dnf },(v.1,.slice h.length 2 0 (c.runs.length+1) none none)))=R4 at *
   generalize rowL (l.set i ((({ c with runs:=c.runs++[x] }:CCl).off .waiting).off .done,(v.1,.slice h.length 2 0 (c.runs.length+1) none none)))=R3 at *
   generalize rowL l=R0 at *
   rw[u269]
   simp[c269,gr,gr',gr0,gr0',q1,q0,hq0,hq1,hKl,l0,g10,g10',n3,u118,hfr,hcl,hsc,hap,LV.shift,shiftB,LB.shift,hsh,f1,f2',f3',n0,n1,n2,n4,hne',hne'',hbc,hbc',hs0,hs0',l1,l2,f5',f5x,f6',f6x,plB,hg,hs,hsi,frzArgs_cons,-frz_slice,-bump,frzF_ptr,frzFuncs_nil,frzFuncs_c,hfz,e177,f4']
  ·rw[if_neg hb]
   have hst:({ (({ c with runs:=c.runs++[x] }:CCl).off .waiting).off .done with st:=c.st }:CCl)=(({ c with runs:=c.runs++[x] }:CCl).off .waiting).off .done:=rfl
   rw[hst]
   generalize rowL (l.set i ({ (({ c with runs:=c.runs++[x] }:CCl).off .waiting).off .done with st:=.dnf },(v.1,.slice h.length 2 0 (c.runs.length+1) none none)))=R4 at *
   generalize rowL (l.set i ((({ c with runs:=c.runs++[x] }:CCl).off .waiting).off .done,(v.1,.slice h.length 2 0 (c.runs.length+1) none none)))=R3 at *
   generalize rowL l=R0 at *
   rw[u269]
   simp[c269,gr,gr',gr0,gr0',q1,q0,hq0,hq1,hKl,l0,g10,g10',n3,u118,hfr,hcl,hsc,hap,LV.shift,shiftB,LB.shift,hsh,f1,f2',f3',n0,n1,n2,n4,hne',hne'',hbc,hbc',hs0,hs0',l1,l2,f5',f5x,f6',f6x,plB,hg,hs,hsi,frzArgs_cons,-frz_slice,-bump,frzF_ptr,frzFuncs_nil,frzFuncs_c,hfz,e177,hb]
end LM.GZ
namespace LM.GZ
open Go LM
variable {P:Nat→Option SFunc} [Has P]
variable {r:CRn} {names:List Str} {s:CSs} {e:CEn} {c:CCl} {v:LV × LV} {h:Heap} {l:List (CCl × (LV × LV))} {bc gc i bp n:Nat} {t:Int}
def blk:LV→Option Nat
 | .slice b _ _ _ _ _=>some b
 | _=>none
def Did (l:List (CCl × (LV × LV))) (i:Nat) (v:LV × LV) (bc gc:Nat) (c' : CCl) (h h' : Heap) (v' : LV × LV):Prop :=
 h'[bc]? = some (.cells gc (rowL (l.set i (c',v'))) 0)∧TrV h' c'.tries v'.1∧RuV h' c'.runs v'.2∧h.length≤h'.length∧(∀ k,k<h.length→k≠bc→blk v.1≠some k→blk v.2≠some k→h'[k]? = h[k]?)∧v'.1=v.1∧(v'.2=v.2∨∃ k,h.length≤k∧blk v'.2=some k)
structure OneOK (l:List (CCl × (LV × LV))) (i:Nat) (c:CCl) (v:LV × LV) (r:CRn) (names:List Str) (bp bc gc n:Nat) (t:Int) (h:Heap):Prop where
 pl:h[bp]? = some (plB r names bc gc n t)
 ne:bp≠bc
 g0:gc≠0
 row:h[bc]? = some (.cells gc (rowL l) 0)
 at' : l[i]? = some (c,v)
 tr:TrV h c.tries v.1
 ru:RuV h c.runs v.2
 t1:blk v.1≠some bc
 t2:blk v.1≠some bp
 u1:blk v.2≠some bc
 u2:blk v.2≠some bp
 gen:∀ b g o m e k,v.1=.slice b g o m e k→g≠0
 tl:c.tries.length<900
 rl:c.runs.length<900
theorem OneOK.up (H:OneOK l i c v r names bp bc gc n t h) (Y:LB):OneOK l i c v r names bp bc gc n t (h++[Y]):=by
 have key:∀ {j:Nat} {B:LB},h[j]? = some B→(h++[Y])[j]? = some B:=fun e=>by rw[List.getElem?_append_left (ltG e)]; exact e
 exact⟨key H.pl,H.ne,H.g0,key H.row,H.at',H.tr.app _,H.ru.app _,H.t1,H.t2,H.u1,H.u2,H.gen,H.tl,H.rl⟩
theorem Did.up {c' : CCl} {h' : Heap} {v' : LV × LV} {Y:LB} (D:Did l i v bc gc c' (h++[Y]) h' v'):Did l i v bc gc c' h h' v':=by
 obtain⟨d1,d2,d3,d4,d5,d6,d7⟩:=D
 rw[List.length_append,List.length_singleton] at d4
 refine⟨d1,d2,d3,by omega,fun k hk a b d=>?_,d6,?_⟩
 ·rw[d5 k (by simp; omega) a b d,List.getElem?_append_left hk]
 ·rcases d7 with d7 | ⟨k,k1,k2⟩
  ·exact .inl d7
  ·exact .inr ⟨k,by simp at k1; omega,k2⟩
theorem did_row (H:OneOK l i c v r names bp bc gc n t h) {c' : CCl} (ht:c'.tries=c.tries) (hr:c'.runs=c.runs) (X:Heap):Did l i v bc gc c' h (h.set bc (.cells gc (rowL (l.set i (c',v))) 0)++X) v:=by
 have q1:=ltG H.row
 have key:∀ {j:Nat} {B:LB},j≠bc→h[j]? = some B→(h.set bc (.cells gc (rowL (l.set i (c',v))) 0)++X)[j]? = some B:=fun hj e=>by rw[List.getElem?_append_left (by simpa using ltG e),List.getElem?_set_ne (Ne.symm hj)]; exact e
 refine⟨by rw[List.getElem?_append_left (by simpa using q1),List.getElem?_set_self q1],?_,?_,by simp,fun k hk a b d=>?_,rfl,.inl rfl⟩
 ·rw[ht]
  rcases H.tr with h1 | ⟨h1,b,g,h2,h3⟩
  ·exact .inl h1
  ·exact .inr ⟨h1,b,g,h2,key (fun e=>H.t1 (by rw[h2,e]; rfl)) h3⟩
 ·rw[hr]
  rcases H.ru with h1 | ⟨h1,b,g,h2,h3⟩
  ·exact .inl h1
  ·exact .inr ⟨h1,b,g,h2,key (fun e=>H.u1 (by rw[h2,e]; rfl)) h3⟩
 ·rw[List.getElem?_append_left (by simpa using hk),List.getElem?_set_ne (Ne.symm a)]
theorem did_run (H:OneOK l i c v r names bp bc gc n t h) (hsz:1≤r.size) (htr:c.tries=[]) (x:Int):∃ v' h',sfn P 269 [.ptr bp 0 0,.ptr bc gc (i*11),.c (ci x)] h=some (.c (.tuple []),h')∧Did l i v bc gc (runC r c x) h h' v':=by
 have hrr:(runC r c x).runs=c.runs++[x]:=by unfold runC; split<;>rfl
 have hrt:(runC r c x).tries=c.tries:=by unfold runC; split<;>rfl
 have q1:=ltG H.row
 have htv:v.1=.nil:=by
  rcases H.tr with ⟨_,e⟩ | ⟨h1,_⟩
  ·exact e
  ·exact absurd htr h1
 rcases H.ru with ⟨h1,h2⟩ | ⟨h1,b,g,h2,h3⟩
 ·refine⟨(v.1,.slice (h.length+1) 1 0 1 none none),_,S269_a H.pl H.ne H.g0 H.row H.at' ⟨h1,h2⟩ x hsz,?_⟩
  rw[List.set_append_left _ _ q1]
  refine⟨by rw[List.getElem?_append_left (by simpa using q1),List.getElem?_set_self q1],?_,?_,by simp,fun k hk a _ _=>?_,rfl,.inr ⟨h.length+1,by omega,rfl⟩⟩
  ·exact .inl ⟨by rw[hrt]; exact htr,htv⟩
  ·rw[hrr,h1]
   refine .inr ⟨by simp,h.length+1,1,rfl,?_⟩
   rw[List.getElem?_append_right (by simp)]
   simp
  ·rw[List.getElem?_append_left (by simpa using hk),List.getElem?_set_ne (Ne.symm a)]
 ·have hbc:b≠bc:=fun e=>H.u1 (by rw[h2,e]; rfl)
  have hbp:b≠bp:=fun e=>H.u2 (by rw[h2,e]; rfl)
  have hl:=H.rl
  have hbmp:LM.bump b c.runs.length h=h.set b (.cells g (cI c.runs) (Nat.max 0 c.runs.length)):=by unfold LM.bump; rw[h3]
  refine⟨(v.1,.slice h.length 2 0 (c.runs.length+1) none none),_,S269 H.pl H.ne H.g0 H.row H.at' h2 h1 h3 hbc hbp (by omega) x hsz,?_⟩
  rw[hbmp,List.set_append_left _ _ (by simpa using q1)]
  refine⟨by rw[List.getElem?_append_left (by simpa using q1),List.getElem?_set_self (by simpa using q1)],?_,?_,by simp,fun k hk a _ d=>?_,rfl,.inr ⟨h.length,by omega,rfl⟩⟩
  ·exact .inl ⟨by rw[hrt]; exact htr,htv⟩
  ·rw[hrr]
   refine .inr ⟨by simp,h.length,2,by simp,?_⟩
   rw[List.getElem?_append_right (by simp)]
   simp
  ·rw[List.getElem?_append_left (by simpa using hk),List.getElem?_set_ne (Ne.symm a),List.getElem?_set_ne (fun e=>d (by rw[h2,← e]; rfl))]
end LM.GZ
namespace LM.GZ
open Go LM
variable {P:Nat→Option SFunc} [Has P]
variable {r:CRn} {names:List Str} {s:CSs} {e:CEn} {c:CCl} {v:LV × LV} {h:Heap} {l:List (CCl × (LV × LV))} {bc gc i bp n:Nat} {t:Int}
theorem did_tries (H:OneOK l i c v r names bp bc gc n t h) {b g:Nat} (B:TrB h c v b g) (hru:c.runs=[]) {c' : CCl} (hl:c'.tries.length=c.tries.length) (hr:c'.runs=c.runs) {hF:Heap} (f1:hF[bc]? = some (.cells gc (rowL (l.set i (c',v))) 0)) (f2:hF[b]? = some (.cells g (c'.tries.flatMap trL) 0)) (f3:h.length≤hF.length) (f4:∀ k,k<h.length→k≠bc→k≠b→hF[k]? = h[k]?) (hne:c.tries≠[]):Did l i v bc gc c' h hF v:=by
 have hrv:v.2=.nil:=by
  rcases H.ru with ⟨_,e⟩ | ⟨h1,_⟩
  ·exact e
  ·exact absurd hru h1
 refine⟨f1,.inr ⟨?_,b,g,by rw[hl]; exact B.1,f2⟩,.inl ⟨by rw[hr]; exact hru,hrv⟩,f3,fun k hk a d _=>f4 k hk a (fun e=>d (by rw[B.1,e]; rfl)),rfl,.inl rfl⟩
 intro e
 rw[e] at hl
 exact hne (List.eq_nil_of_length_eq_zero hl.symm)
theorem do_walk (H:OneOK l i c v r names bp bc gc n t h) (hr:RnOK r) (hsz:r.size≤64) (hv:0≤e.val∧e.val≤86399999) (hte:0≤e.time∧e.time≤86399999) (ht:t≤e.time) (hc:ClOK r t c) (R:RulesOK r t e c) :
  ∃ v' h',sfn P (kdF e.kind) [.ptr bp 0 0,.ptr bc gc (i*11),.c (enE e)] h=some (.c (.tuple []),h')∧Did l i v bc gc (doC r e c) h h' v':=by
 have on:e.kind≠.start→e.kind≠.absent→e.kind≠.bar→c.ph=.on:=fun a b d=>by
  rcases R.r7 with k | k | k | k
  ·exact absurd k a
  ·exact absurd k b
  ·exact absurd k d
  ·exact k
 have h3:=R.r3
 have h12:=R.r12
 have hown:=hc.own
 have hb:=hc.began
 have hw:IntKind.i64.wrap (e.time-c.began)=e.time-c.began:=wrap64 (by omega) (by omega)
 have htl:=H.tl
 have q1:=ltG H.row
 have app1:∀ X:LB,h.set bc X++[enB e]++[enB e]=h.set bc X++[enB e,enB e]:=fun X=>by simp
 -- a climber who is on a boulder
 have bld:r.dc=.boulder→c.ph=.on→∃ b g,TrB h c v b g∧g≠0∧b≠bc∧1≤c.place∧c.place≤c.tries.length∧c.runs=[]∧c.tries≠[]∧0≤(trAt c c.place).att∧(trAt c c.place).att≤99:=by
  intro hd hon
  rw[hd] at hown
  simp only at hown
  obtain⟨p1,p2,p3,p4⟩:=hown.on hon
  have p2' : c.place≤c.tries.length:=by rw[hown.len]; exact p2
  obtain⟨q1,q2,q3,q4,q5,q6,q7,q8⟩:=hown.ok _ (tr_mem p1 p2')
  obtain⟨b,g,b1,b2⟩:=trB_get H.tr p1 p2'
  exact⟨b,g,⟨b1,b2⟩,H.gen _ _ _ _ _ _ b1,fun e=>H.t1 (by rw[b1,e]; rfl),p1,p2',hown.runs,fun e=>by rw[e] at p2'; simp at p2'; omega,q1,q2⟩
 unfold doC
 cases hk:e.kind<;>rw[hk] at h3 h12<;>simp only[kindIn,decide_eq_true_eq] at h3<;>simp only[kdF]
 case start =>
  have hw0:=R.r4 hk
  have h6:=R.r6 hk
  by_cases hd:r.dc=.boulder
  ·rw[if_pos hd]
   rw[hd] at hown
   simp only at hown
   simp only[suitsB,hd,Bool.and_eq_true,decide_eq_true_eq,Bool.not_eq_true'] at h6
   obtain⟨⟨p1,p2⟩,p3⟩:=h6
   have p2' : e.val≤c.tries.length:=by rw[hown.len]; exact p2
   obtain⟨b,g,b1,b2⟩:=trB_get H.tr p1 p2'
   have hbc:b≠bc:=fun e=>H.t1 (by rw[b1,e]; rfl)
   have hbl:=ltG b2
   refine⟨v,_,S258 H.pl hd ⟨b1,b2⟩ hbc p1 p2' (by omega) H.ne H.g0 H.row H.at',?_⟩
   refine did_tries H ⟨b1,b2⟩ hown.runs (by simp[CCl.setT]) (by rfl) ?_ ?_ (by simp) (fun k hk a d=>?_) (fun e=>by rw[e] at p2'; simp at p2'; omega)
   ·rw[List.getElem?_set_ne hbc,List.getElem?_append_left (by simpa using q1),List.getElem?_set_self q1]
   ·rw[List.getElem?_set_self (by simp; omega)]
   ·rw[List.getElem?_set_ne (Ne.symm d),List.getElem?_append_left (by simpa using hk),List.getElem?_set_ne (Ne.symm a)]
  ·rw[if_neg hd]
   exact⟨v,_,S258_n H.pl hd H.ne H.g0 H.row H.at',did_row H (by rfl) (by rfl) [enB e]⟩
 case hold=>exact⟨v,_,S259 H.row H.at' _,did_row H (by rfl) (by rfl) [enB e]⟩
 case plus=>exact⟨v,_,S260 H.row H.at' _,did_row H (by rfl) (by rfl) [enB e]⟩
 case attempt =>
  have hon:=on (by rw[hk]; decide) (by rw[hk]; decide) (by rw[hk]; decide)
  obtain⟨b,g,B,g0,hbc,p1,p2,hru,hne,a1,a2⟩:=bld h3 hon
  have hbl:=ltG B.2
  refine⟨v,_,S261 H.row H.at' B hbc p1 p2 (by omega) ⟨a1,a2⟩ _,?_⟩
  refine did_tries H B hru (by simp[CCl.setT]) (by rfl) ?_ ?_ (by simp) (fun k hk a d=>?_) hne
  ·rw[List.getElem?_set_ne hbc,List.getElem?_append_left (by simpa using q1),List.getElem?_set_self q1]
  ·rw[List.getElem?_set_self (by simp; omega)]
  ·rw[List.getElem?_set_ne (Ne.symm d),List.getElem?_append_left (by simpa using hk),List.getElem?_set_ne (Ne.symm a)]
 case zone =>
  have hon:=on (by rw[hk]; decide) (by rw[hk]; decide) (by rw[hk]; decide)
  obtain⟨b,g,B,g0,hbc,p1,p2,hru,hne,a1,a2⟩:=bld h3 hon
  have hbl:=ltG B.2
  refine⟨v,_,S262 H.row H.at' B hbc p1 p2 (by omega) _,?_⟩
  refine did_tries H B hru (by simp[CCl.setT]) (by rfl) ?_ ?_ (by simp) (fun k hk a d=>?_) hne
  ·rw[List.getElem?_set_ne hbc,List.getElem?_append_left q1,rowL_same l i c (c.setT { trAt c c.place with zone:=(trAt c c.place).att }) v H.at' rfl]
   exact H.row
  ·rw[List.getElem?_set_self (by simp; omega)]
  ·rw[List.getElem?_set_ne (Ne.symm d),List.getElem?_append_left hk]
 case top =>
  have hon:=on (by rw[hk]; decide) (by rw[hk]; decide) (by rw[hk]; decide)
  by_cases hd:r.dc=.lead
  ·rw[if_pos hd]
   refine⟨v,_,S263_l H.pl hd H.ne H.g0 H.row H.at' hw,?_⟩
   rw[app1]
   exact did_row H (by rfl) (by rfl) [enB e,enB e]
  ·rw[if_neg hd]
   have hd2:r.dc=.boulder:=by
    cases hx:r.dc
    ·exact absurd hx hd
    ·rfl
    ·exact absurd hx h3
   obtain⟨b,g,B,g0,hbc,p1,p2,hru,hne,a1,a2⟩:=bld hd2 hon
   have hbl:=ltG B.2
   refine⟨v,_,S263 H.pl hd2 H.row H.at' B hbc p1 p2 (by omega),?_⟩
   refine did_tries H B hru (by simp[CCl.setT]) (by rfl) ?_ ?_ (by simp) (fun k hk a d=>?_) hne
   ·rw[List.getElem?_set_self (by simp; omega)]
   ·rw[List.getElem?_set_ne (Ne.symm hbc),List.getElem?_set_self (by simp; omega)]
   ·rw[List.getElem?_set_ne (Ne.symm a),List.getElem?_set_ne (Ne.symm d),List.getElem?_append_left hk]
 case fall =>
  have hon:=on (by rw[hk]; decide) (by rw[hk]; decide) (by rw[hk]; decide)
  cases hd:r.dc<;>simp only
  ·refine⟨v,_,(S267_l H.pl hd H.ne H.g0 H.row H.at' hw).2,?_⟩
   rw[app1]
   exact did_row H (by rfl) (by rfl) [enB e,enB e]
  ·exact⟨v,_,S264_b H.pl hd H.row H.at',did_row H (by rfl) (by rfl) [enB e]⟩
  ·rw[hd] at hown
   simp only at hown
   obtain⟨v',h',k1,k2⟩:=did_run (P:=P) (H.up (enB e)) hr.size hown.tries 0
   refine⟨v',h',?_,k2.up⟩
   have a0:=(H.up (enB e)).pl
   have a0':=(List.getElem?_eq_some_iff.1 a0).2
   have p0:=ltG a0
   have hd1:dcS r.dc=[115,112,101,101,100]:=by rw[hd]; rfl
   simp only[enB,enE,plB] at *
   simp at a0 a0' p0 k1
   rw[u264]
   simp[c264,a0,a0',p0,hd1,k1,frzF_ptr,frzFuncs_nil,frzFuncs_c]
 case leave =>
  have hon:=on (by rw[hk]; decide) (by rw[hk]; decide) (by rw[hk]; decide)
  refine⟨v,_,S265 H.row H.at' H.tr (by omega) _,did_row H ?_ ?_ [enB e]⟩
  ·unfold leaveC; split<;>rfl
  ·unfold leaveC; split<;>rfl
 case out =>
  have hon:=on (by rw[hk]; decide) (by rw[hk]; decide) (by rw[hk]; decide)
  by_cases hd:r.dc=.lead
  ·rw[if_pos hd]
   refine⟨v,_,(S267_l H.pl hd H.ne H.g0 H.row H.at' hw).1,?_⟩
   rw[app1]
   exact did_row H (by rfl) (by rfl) [enB e,enB e]
  ·rw[if_neg hd]
   have hd2:r.dc=.boulder:=by
    cases hx:r.dc
    ·exact absurd hx hd
    ·rfl
    ·exact absurd hx h3
   refine⟨v,_,S267_b H.pl hd2 H.row H.at' H.tr (by omega),did_row H ?_ ?_ [enB e]⟩
   ·unfold leaveC; split<;>rfl
   ·unfold leaveC; split<;>rfl
 case finish =>
  have hon:=on (by rw[hk]; decide) (by rw[hk]; decide) (by rw[hk]; decide)
  rw[h3] at hown
  simp only at hown
  obtain⟨v',h',k1,k2⟩:=did_run (P:=P) (H.up (enB e)) hr.size hown.tries e.val
  refine⟨v',h',?_,k2.up⟩
  simp only[enB] at k1
  simp only[enE]
  rw[u268]
  simp[c268,k1,frzF_ptr,frzFuncs_nil,frzFuncs_c]
 case wrong=>exact⟨v,_,S270 H.row H.at' _,did_row H (by rfl) (by rfl) [enB e]⟩
 case incident =>
  have hon:=on (by rw[hk]; decide) (by rw[hk]; decide) (by rw[hk]; decide)
  by_cases hd:r.dc=.boulder
  ·rw[if_pos hd]
   obtain⟨b,g,B,g0,hbc,p1,p2,hru,hne,a1,a2⟩:=bld hd hon
   have hbl:=ltG B.2
   refine⟨v,_,S272 H.pl hd H.row H.at' B g0 hbc p1 p2 (by omega) ⟨a1,a2⟩,?_⟩
   refine did_tries H B hru (by simp[CCl.setT]) (by rfl) ?_ ?_ (by simp) (fun k hk a d=>?_) hne
   ·rw[List.getElem?_set_self (by simp; omega)]
   ·rw[List.getElem?_set_ne (Ne.symm hbc),List.getElem?_set_self (by simp; omega)]
   ·rw[List.getElem?_set_ne (Ne.symm a),List.getElem?_set_ne (Ne.symm d),List.getElem?_append_left hk]
  ·rw[if_neg hd]
   exact⟨v,_,S272_n H.pl hd H.row H.at',did_row H (by rfl) (by rfl) [enB e]⟩
 case absent=>exact⟨v,_,S273 H.row H.at' _,did_row H (by rfl) (by rfl) [enB e]⟩
 case bar=>exact⟨v,_,S274 H.row H.at' _,did_row H (by rfl) (by rfl) [enB e]⟩
end LM.GZ
namespace LM.GZ
open Go LM
variable {P:Nat→Option SFunc} [Has P]
variable {r:CRn} {names:List Str} {s:CSs} {e:CEn} {c:CCl} {v:LV × LV} {vs:List (LV × LV)} {h:Heap} {l:List (CCl × (LV × LV))} {bc gc i bp n:Nat} {t:Int}
def apartV (x y:LV × LV):Prop:=∀ k,(blk x.1=some k∨blk x.2=some k)→blk y.1≠some k∧blk y.2≠some k
structure PlayH (r:CRn) (names:List Str) (s:CSs) (vs:List (LV × LV)) (bp bc gc:Nat) (h:Heap):Prop where
 p:HpP r names s vs bp bc gc h
 ne:bp≠bc
 g0:gc≠0
 gen:∀ x ∈ vs,∀ b g o m e k,x.1=.slice b g o m e k→g≠0
 ap:∀ x ∈ vs,blk x.1≠some bc∧blk x.1≠some bp∧blk x.2≠some bc∧blk x.2≠some bp
 dis:∀ (i j:Nat) (x y:LV × LV),i≠j→vs[i]? = some x→vs[j]? = some y→apartV x y
theorem zip_set:∀ (l:List CCl) (vs:List (LV × LV)) (i:Nat) (c:CCl) (v:LV × LV),(l.zip vs).set i (c,v)=(l.set i c).zip (vs.set i v)
 | [],vs,i,c,v=>by simp
 | a::l,[],i,c,v=>by simp
 | a::l,b::vs,0,c,v=>by simp
 | a::l,b::vs,i+1,c,v=>by simp[zip_set l vs i c v]
theorem one_of (H:PlayH r names s vs bp bc gc h) (gC:s.cls[i]? = some c) (gV:vs[i]? = some v) (h1:c.tries.length<900) (h2:c.runs.length<900):OneOK (s.cls.zip vs) i c v r names bp bc gc s.cls.length s.time h:=by
 have gz:(s.cls.zip vs)[i]? = some (c,v):=by rw[List.getElem?_zip_eq_some]; exact⟨gC,gV⟩
 have hm:=List.mem_of_getElem? gV
 obtain⟨a1,a2,a3,a4⟩:=H.ap v hm
 obtain⟨t1,t2⟩:=H.p.all _ (List.mem_of_getElem? gz)
 exact⟨H.p.pl,H.ne,H.g0,H.p.row,gz,t1,t2,a1,a2,a3,a4,H.gen v hm,h1,h2⟩
theorem S198_h (H:PlayH r names s vs bp bc gc h) (gC:s.cls[e.who]? = some c) (h' : Heap) (k1:sfn P (kdF e.kind) [.ptr bp 0 0,.ptr bc gc (e.who*11),.c (enE e)] (h++[enB e])=some (.c (.tuple []),h'))
  (g1:h'[bp]? = some (plB r names bc gc s.cls.length s.time)) (g2:h'[h.length]? = some (enB e)):sfn P 198 [.ptr bp 0 0,.c (enE e)] h=some (.c (.tuple []),h'.set bp (plB r names bc gc s.cls.length e.time)):=by
 have hw:=(List.getElem?_eq_some_iff.1 gC).1
 have q0:=ltG H.p.pl
 have q1:=ltG H.p.row
 have a0:∀ X,(h++[X])[bp]? = some (plB r names bc gc s.cls.length s.time):=fun X=>by rw[List.getElem?_append_left q0]; exact H.p.pl
 have a0':=fun X=>(List.getElem?_eq_some_iff.1 (a0 X)).2
 have a1:∀ X,(h++[X])[bc]? = some (.cells gc (rowL (s.cls.zip vs)) 0):=fun X=>by rw[List.getElem?_append_left q1]; exact H.p.row
 have a1':=fun X=>(List.getElem?_eq_some_iff.1 (a1 X)).2
 have n0:bp<h.length+1:=by omega
 have n1:bc<h.length+1:=by omega
 have hwi:(e.who:Int)<s.cls.length:=by omega
 have e214:=S214 (P:=P)
 obtain⟨j,j1,j2⟩:=find_kd e.kind
 obtain⟨D1,D2,hD⟩ : ∃ D1 D2,kdC e.kind=.agg [D1,D2,.func (kdF e.kind) [] []]:=⟨_,_,rfl⟩
 rw[hD] at j2
 clear hD
 simp only[kdMap] at e214
 generalize kdAll.map (fun k=>CV.str (kdS k))=KS at *
 generalize kdAll.map kdC=VS at *
 generalize hks:kdS e.kind=ks at *
 simp only[enB,enE] at *
 rw[hks] at g2 k1 ⊢
 have g1':=(List.getElem?_eq_some_iff.1 g1).2
 have g1l:=ltG g1
 have g2':=(List.getElem?_eq_some_iff.1 g2).2
 have g2l:=ltG g2
 rw[u198]
 cases hk:e.kind<;>rw[hk] at k1 j2<;>simp only[kdF] at k1 j2
 all_goals
  have j2':=(List.getElem?_eq_some_iff.1 j2).2
  have j2l:=(List.getElem?_eq_some_iff.1 j2).1
  simp[c198,plB,a0,a0',n0,a1,a1',n1,hw,hwi,e214,keyS,j1,j2,j2',j2l,k1,frzF_ptr,frzFuncs_nil,frzFuncs_c,g1,g1',g1l,g2,g2',g2l]
end LM.GZ
namespace LM.GZ
open Go LM
variable {P:Nat→Option SFunc} [Has P]
variable {r:CRn} {names:List Str} {s:CSs} {e:CEn} {c:CCl} {v:LV × LV} {vs:List (LV × LV)} {h:Heap} {l:List (CCl × (LV × LV))} {bc gc i bp n:Nat} {t:Int}
theorem cl_lens (h:ClOK r t c) (hs:r.size≤64):c.tries.length≤64∧c.runs.length≤64:=by
 have:=h.own
 cases hd:r.dc<;>rw[hd] at this<;>simp only at this
 ·rw[this.tries,this.runs]; simp
 ·rw[this.len,this.runs]; simp; exact hs
 ·rw[this.tries]; have:=this.len; simp; omega
theorem TrV.lt {l:List CTr} {w:LV} {k:Nat} (H:TrV h l w) (hb:blk w=some k):k<h.length:=by
 rcases H with ⟨_,rfl⟩ | ⟨_,b,g,rfl,hx⟩
 ·cases hb
 ·cases hb; exact ltG hx
theorem RuV.lt {l:List Int} {w:LV} {k:Nat} (H:RuV h l w) (hb:blk w=some k):k<h.length:=by
 rcases H with ⟨_,rfl⟩ | ⟨_,b,g,rfl,hx⟩
 ·cases hb
 ·cases hb; exact ltG hx
theorem TrV.move {l:List CTr} {w:LV} {h' : Heap} (H:TrV h l w) (hm:∀ k,blk w=some k→h'[k]? = h[k]?):TrV h' l w:=by
 rcases H with h1 | ⟨h1,b,g,h2,h3⟩
 ·exact .inl h1
 ·exact .inr ⟨h1,b,g,h2,by rw[hm b (by rw[h2]; rfl)]; exact h3⟩
theorem RuV.move {l:List Int} {w:LV} {h' : Heap} (H:RuV h l w) (hm:∀ k,blk w=some k→h'[k]? = h[k]?):RuV h' l w:=by
 rcases H with h1 | ⟨h1,b,g,h2,h3⟩
 ·exact .inl h1
 ·exact .inr ⟨h1,b,g,h2,by rw[hm b (by rw[h2]; rfl)]; exact h3⟩
theorem PlayH.app (H:PlayH r names s vs bp bc gc h) (X:Heap):PlayH r names s vs bp bc gc (h++X) :=
 ⟨H.p.same ((SameH.rfl' (Nat.le_refl _)).app _),H.ne,H.g0,H.gen,H.ap,H.dis⟩
theorem PlayH.lt (H:PlayH r names s vs bp bc gc h) {x:LV × LV} (hx:x ∈ vs) {k:Nat} (hb:blk x.1=some k∨blk x.2=some k):k<h.length:=by
 obtain⟨j,hj,e⟩:=List.getElem_of_mem hx
 have hjc:j<s.cls.length:=by rw[← H.p.len]; exact hj
 have gz:(s.cls.zip vs)[j]? = some (s.cls[j],x):=by rw[List.getElem?_zip_eq_some]; exact⟨List.getElem?_eq_getElem hjc,by rw[List.getElem?_eq_getElem hj,e]⟩
 obtain⟨t1,t2⟩:=H.p.all _ (List.mem_of_getElem? gz)
 rcases hb with hb | hb
 ·exact t1.lt hb
 ·exact t2.lt hb
theorem next_walk (H:PlayH r names s vs bp bc gc h) (hr:RnOK r) (hsz:r.size≤64) (hS:SsOK r n s) (hE:EnOK n e) (hleg:legalL r s e=0) :
  ∃ vs' h',sfn P 198 [.ptr bp 0 0,.c (enE e)] h=some (.c (.tuple []),h')∧PlayH r names (nextL r s e) vs' bp bc gc h'∧h.length≤h'.length∧(∀ k,k<h.length→k≠bp→k≠bc→(∀ x ∈ vs,blk x.1≠some k∧blk x.2≠some k)→h'[k]? = h[k]?)∧(∀ x ∈ vs',∀ k,(blk x.1=some k∨blk x.2=some k)→(∃ y ∈ vs,blk y.1=some k∨blk y.2=some k)∨h.length≤k):=by
 have hw:e.who<s.cls.length:=by rw[hS.len]; exact hE.1
 have hwv:e.who<vs.length:=by rw[H.p.len]; exact hw
 obtain⟨c,gC⟩ : ∃ c,s.cls[e.who]? = some c:=⟨_,List.getElem?_eq_getElem hw⟩
 obtain⟨v,gV⟩ : ∃ v,vs[e.who]? = some v:=⟨_,List.getElem?_eq_getElem hwv⟩
 have hgd:s.cls.getD e.who clZ=c:=by rw[List.getD_eq_getElem?_getD,gC]; rfl
 have hcm:=List.mem_of_getElem? gC
 have hvm:=List.mem_of_getElem? gV
 have hco:=hS.ok _ hcm
 obtain⟨L1,L2⟩:=cl_lens hco hsz
 have hR:RulesOK r s.time e c:=by
  have:=rules_ok (broken_pos _ 1 (by decide) hleg)
  rw[hgd] at this
  exact this.1
 have HK:=H.app [enB e]
 obtain⟨v',h1,k1,d1,d2,d3,d4,d5,d6,d7⟩:=do_walk (P:=P) (one_of HK gC gV (by omega) (by omega)) hr hsz ⟨hE.2.1,hE.2.2.1⟩ ⟨hE.2.2.2.1,hE.2.2.2.2⟩ hR.r1 hco hR
 have hKl:(h++[enB e]).length=h.length+1:=by simp
 rw[hKl] at d4 d5 d7
 obtain⟨a1,a2,a3,a4⟩:=H.ap v hvm
 have q0:=ltG H.p.pl
 have q1:=ltG H.p.row
 have vl1:∀ k,blk v.1=some k→k<h.length:=fun k hb=>H.lt hvm (.inl hb)
 have vl2:∀ k,blk v.2=some k→k<h.length:=fun k hb=>H.lt hvm (.inr hb)
 have g1:h1[bp]? = some (plB r names bc gc s.cls.length s.time):=by rw[d5 bp (by omega) H.ne a2 a4]; exact HK.p.pl
 have g2:h1[h.length]? = some (enB e):=by
  rw[d5 h.length (by omega) (by omega) (fun e=>by have:=vl1 _ e; omega) (fun e=>by have:=vl2 _ e; omega)]
  simp
 have k2:=S198_h H gC h1 k1 g1 g2
 have fr:∀ k,k<h.length→k≠bp→k≠bc→blk v.1≠some k→blk v.2≠some k→(h1.set bp (plB r names bc gc s.cls.length e.time))[k]? = h[k]?:=fun k hk b1 b2 b3 b4=>by
  rw[List.getElem?_set_ne (Ne.symm b1),d5 k (by omega) b2 b3 b4,List.getElem?_append_left hk]
 have v'b:blk v'.1≠some bp∧blk v'.2≠some bp∧blk v'.1≠some bc∧blk v'.2≠some bc:=by
  rw[d6]
  rcases d7 with d7 | ⟨k,m1,m2⟩
  ·rw[d7]; exact⟨a2,a4,a1,a3⟩
  ·rw[m2]
   exact⟨a2,fun x=>by cases x; omega,a1,fun x=>by cases x; omega⟩
 refine⟨vs.set e.who v',_,k2,⟨⟨?_,?_,?_,?_⟩,H.ne,H.g0,?_,?_,?_⟩,by rw[List.length_set]; omega,fun k hk b1 b2 b3=>fr k hk b1 b2 (b3 v hvm).1 (b3 v hvm).2,fun x hx k hk=>?_⟩
 ·rw[List.getElem?_set_self (by omega)]
  simp[nextL]
 ·rw[List.getElem?_set_ne H.ne,d1,zip_set]
  simp only[nextL,hgd]
 ·simp[nextL,H.p.len]
 ·intro x hx
  have hzz:(nextL r s e).cls.zip (vs.set e.who v')=(s.cls.zip vs).set e.who (doC r e c,v'):=by rw[zip_set]; simp only[nextL,hgd]
  rw[hzz] at hx
  obtain⟨j,hj,ej⟩:=List.getElem_of_mem hx
  have gj:((s.cls.zip vs).set e.who (doC r e c,v'))[j]? = some x:=by rw[List.getElem?_eq_getElem hj,ej]
  by_cases hje:j=e.who
  ·subst hje
   rw[List.getElem?_set_self (by simpa using hj)] at gj
   cases gj
   exact⟨d2.move fun k hb=>by rw[List.getElem?_set_ne (fun x=>v'b.1 (by rw[hb,x]))],d3.move fun k hb=>by rw[List.getElem?_set_ne (fun x=>v'b.2.1 (by rw[hb,x]))]⟩
  ·rw[List.getElem?_set_ne (Ne.symm hje)] at gj
   have gz:=gj
   rw[List.getElem?_zip_eq_some] at gz
   obtain⟨t1,t2⟩:=H.p.all _ (List.mem_of_getElem? gj)
   have hxm:=List.mem_of_getElem? gz.2
   obtain⟨b1,b2,b3,b4⟩:=H.ap _ hxm
   have hap:=H.dis j e.who x.2 v hje gz.2 gV
   refine⟨t1.move fun k hb=>?_,t2.move fun k hb=>?_⟩
   ·exact fr k (t1.lt hb) (fun x=>b2 (by rw[hb,x])) (fun x=>b1 (by rw[hb,x])) (hap k (.inl hb)).1 (hap k (.inl hb)).2
   ·exact fr k (t2.lt hb) (fun x=>b4 (by rw[hb,x])) (fun x=>b3 (by rw[hb,x])) (hap k (.inr hb)).1 (hap k (.inr hb)).2
 ·intro x hx
  rcases List.mem_or_eq_of_mem_set hx with hx | rfl
  ·exact H.gen x hx
  ·rw[d6]; exact H.gen v hvm
 ·intro x hx
  rcases List.mem_or_eq_of_mem_set hx with hx | rfl
  ·exact H.ap x hx
  ·exact⟨v'b.2.2.1,v'b.1,v'b.2.2.2,v'b.2.1⟩
 ·intro j m x y hjm gx gy
  have get:∀ (k:Nat) (z:LV × LV),(vs.set e.who v')[k]? = some z→(k=e.who∧z=v')∨(k≠e.who∧vs[k]? = some z):=by
   intro k z hz
   by_cases hk:k=e.who
   ·subst hk
    rw[List.getElem?_set_self hwv] at hz
    exact .inl ⟨rfl,(Option.some.inj hz).symm⟩
   ·rw[List.getElem?_set_ne (Ne.symm hk)] at hz
    exact .inr ⟨hk,hz⟩
  rcases get j x gx with ⟨j1,rfl⟩ | ⟨j1,j2⟩
  ·rcases get m y gy with ⟨m1,rfl⟩ | ⟨m1,m2⟩
   ·omega
   ·have hym:=List.mem_of_getElem? m2
    intro k hk
    rw[d6] at hk
    rcases hk with hk | hk
    ·exact H.dis e.who m v y (Ne.symm m1) gV m2 k (.inl hk)
    ·rcases d7 with d7 | ⟨q,w1,w2⟩
     ·rw[d7] at hk
      exact H.dis e.who m v y (Ne.symm m1) gV m2 k (.inr hk)
     ·rw[w2] at hk
      cases hk
      exact⟨fun hb=>by have:=H.lt hym (.inl hb); omega,fun hb=>by have:=H.lt hym (.inr hb); omega⟩
  ·rcases get m y gy with ⟨m1,rfl⟩ | ⟨m1,m2⟩
   ·have hxm:=List.mem_of_getElem? j2
    intro k hk
    have:=H.dis j e.who x v j1 j2 gV k hk
    rw[d6]
    refine⟨this.1,?_⟩
    rcases d7 with d7 | ⟨q,w1,w2⟩
    ·rw[d7]; exact this.2
    ·rw[w2]
     have:=H.lt hxm hk
     intro e2
     cases e2
     omega
   ·exact H.dis j m x y hjm j2 m2
 ·rcases List.mem_or_eq_of_mem_set hx with hx | rfl
  ·exact .inl ⟨x,hx,hk⟩
  ·rw[d6] at hk
   rcases hk with hk | hk
   ·exact .inl ⟨v,hvm,.inl hk⟩
   ·rcases d7 with d7 | ⟨q,w1,w2⟩
    ·rw[d7] at hk
     exact .inl ⟨v,hvm,.inr hk⟩
    ·rw[w2] at hk
     cases hk
     exact .inr (by omega)
end LM.GZ
