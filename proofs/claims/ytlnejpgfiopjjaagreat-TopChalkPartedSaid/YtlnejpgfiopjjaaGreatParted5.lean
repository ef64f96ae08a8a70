/- Part 8 of what YtlnejpgfiopjjaaGreatParted leans on. -/
import Derived.Test.YtlnejpgfiopjjaaGreatRows
import Derived.WalkKit
import Derived.ProofKit
import Derived.SizedLaws
import Derived.Test.YtlnejpgfiopjjaaGreatPartedL1
import Derived.Test.YtlnejpgfiopjjaaGreatPartedL2
import Derived.Test.YtlnejpgfiopjjaaGreatPartedL3
import Derived.Test.YtlnejpgfiopjjaaGreatParted1
import Derived.Test.YtlnejpgfiopjjaaGreatParted2
import Derived.Test.YtlnejpgfiopjjaaGreatParted3
import Derived.Test.YtlnejpgfiopjjaaGreatParted4
set_option linter.all false
namespace Go.Proofs.YtlnejpgfiopjjaaGreat
open Go.ChangeShapes Go.WideShapes Go.ChangeAt Go.RowKit
theorem own_knob:ownKnob Tryz.prog.godebug=none:=by kernel_rfl
theorem laid_out:laidOutB Tryz.prog=true:=by kernel_rfl
theorem maps_rowed:mapsRowed Tryz.prog=true:=by kernel_rfl
theorem slices_full:LM.slicesFullB Tryz.prog=true:=by kernel_rfl
theorem typed_map {α:Type} {enc:α→LM.CV} {p:α→Prop} {e:LM.CTy} (h:∀ x,LM.Typed e x→∃ a,x=enc a∧p a):∀ {xs:List LM.CV},(∀ x ∈ xs,LM.Typed e x)→∃ l:List α,xs=l.map enc∧∀ a ∈ l,p a
 | [],_=>⟨[],rfl,by simp⟩
 | x::xs,hx=>by
  obtain⟨a,ha,hp⟩:=h x (hx x (by simp))
  obtain⟨l,hl,hq⟩:=typed_map h (xs:=xs) fun y hy=>hx y (by simp[hy])
  exact⟨a::l,by rw[ha,hl]; rfl,fun b hb=>by rcases List.mem_cons.1 hb with rfl | hb; exact hp; exact hq b hb⟩
theorem typed_slice {α:Type} {enc:α→LM.CV} {p:α→Prop} {e:LM.CTy} {b:Nat} (h:∀ x,LM.Typed e x→∃ a,x=enc a∧p a) {v:LM.CV} (hv:LM.Typed (.slice b e) v):∃ l:List α,v=.slice (l.map enc)∧(∀ a ∈ l,p a)∧l.length*b≤2^47:=by
 simp only[LM.Typed] at hv
 obtain⟨xs,rfl,_,hb,hx⟩:=hv
 obtain⟨l,rfl,hp⟩:=typed_map h hx
 refine⟨l,rfl,hp,?_⟩
 rw[List.length_map] at hb
 exact Nat.le_trans hb (by decide)
theorem typed_str {v:LM.CV} (hv:LM.Typed .str v):∃ s:LM.Str,v=.str s∧s.length<9223372036854775807:=by
 simp only[LM.Typed] at hv
 obtain⟨s,rfl,h⟩:=hv
 exact⟨s,rfl,Nat.lt_of_le_of_lt h (by decide)⟩
theorem typed_int {v:LM.CV} (hv:LM.Typed (.int .i64) v):∃ n,v=LM.ci n∧-9223372036854775808≤n∧n≤9223372036854775807:=by
 simp only[LM.Typed] at hv
 obtain⟨n,rfl,h⟩:=hv
 refine⟨n,rfl,?_⟩
 simp[Lit.wf,IntKind.min,IntKind.max,IntKind.bits,IntKind.signed] at h
 omega
end Go.Proofs.YtlnejpgfiopjjaaGreat
namespace LM.GZ
open Go LM
variable {P:Nat→Option SFunc} [Has P]
@[simp] theorem S73 (b:Bool) (e:Int):fn P 73 [.bool b,ci e]=some (ci (av b e)):=by
 rw[u73]; cases b<;>simp[c73,av]
@[simp] theorem af6 (c:Nat):fn P 157 [.int .i32 c]=some (.bool (gm c)):=by
 rw[ab9]; simp[MN,gm]
 rw[show decide ((97:Int)≤c)=decide (97≤c) from decide_eq_decide.2 (by omega),show decide ((c:Int)≤122)=decide (c≤122) from decide_eq_decide.2 (by omega),
  show decide ((65:Int)≤c)=decide (65≤c) from decide_eq_decide.2 (by omega),show decide ((c:Int)≤90)=decide (c≤90) from decide_eq_decide.2 (by omega)]
theorem L57:∀ (l pre:List Int),(l.length:Int)+pre.length<9223372036854775807→ac P (af P) Bg ⟨[.c (.slice ((pre++l).map ci)),.c (ci (pre++l).length),.c (ci pre.length)],[]⟩=if aq l=0 then some (.exit 0,⟨[],[]⟩) else some (.ret,⟨[.c (ci (aq l))],[]⟩):=by
 intro l
 induction l with
 | nil =>
  intro pre h
  rw[K6]
  simp[js,aq]
 | cons c r ih =>
  intro pre h
  have ih:=ih (pre++[c]) (by simp at h ⊢; omega)
  simp at ih h
  have hw:IntKind.i64.wrap (↑pre.length+1)=↑pre.length+1:=am (by omega) (by omega)
  have hlt:(pre.length:Int)<pre.length+(r.length+1):=by omega
  rw[K6]
  by_cases hc:c=0
  ·subst hc
   simp[js,aq,hw,hlt,ih]
  ·simp[js,aq,hw,hlt,hc]
@[simp] theorem S57 (l:List Int) (h:l.length<9223372036854775807):fn P 57 [.slice (l.map ci)]=some (ci (aq l)):=by
 have:=L57 (P:=P) l [] (by simp; omega)
 rw[u57]
 simp at this
 simp[c57,this]
 by_cases hc:aq l=0<;>simp[hc]
@[simp] theorem afX (a:Int):fn P 57 [.slice [ci a]]=some (ci (aq [a])):=S57 [a] (by simp)
@[simp] theorem af2 (a b:Int):fn P 57 [.slice [ci a,ci b]]=some (ci (aq [a,b])):=S57 [a,b] (by simp)
@[simp] theorem af3 (a b c:Int):fn P 57 [.slice [ci a,ci b,ci c]]=some (ci (aq [a,b,c])):=S57 [a,b,c] (by simp)
@[simp] theorem afZ (a b c d:Int):fn P 57 [.slice [ci a,ci b,ci c,ci d]]=some (ci (aq [a,b,c,d])):=S57 [a,b,c,d] (by simp)
@[simp] theorem af1 (a b c d e:Int):fn P 57 [.slice [ci a,ci b,ci c,ci d,ci e]]=some (ci (aq [a,b,c,d,e])):=S57 [a,b,c,d,e] (by simp)
theorem L61 (s:Str) (hs:s.length≤24):∀ (l pre:Str),s=pre++l→ac P (af P) qD ⟨[.c (.str s),.c (ci pre.length)],[]⟩=if dB pre.length l then some (.exit 0,⟨[],[]⟩) else some (.ret,⟨[.c (.bool false)],[]⟩):=by
 intro l
 induction l with
 | nil =>
  intro pre h
  rw[Ly]
  simp[lD,h,dB]
 | cons c r ih =>
  intro pre h
  have ih:=ih (pre++[c]) (by simp[h])
  simp at ih
  rw[h] at hs
  simp at hs
  have hw:IntKind.i64.wrap (↑pre.length+1)=↑pre.length+1:=am (by omega) (by omega)
  have hlt:(pre.length:Int)<pre.length+(r.length+1):=by omega
  have hn:(((↑c.toNat:Int)<97∨122<(↑c.toNat:Int))∧((↑c.toNat:Int)<65∨90<(↑c.toNat:Int)))∧(pre=[]∨((↑c.toNat:Int)<48∨57<(↑c.toNat:Int))∧¬(↑c.toNat:Int)=95)↔gL pre.length c.toNat=false:=by
   have hp:pre=[]↔pre.length=0:=by simp
   unfold gL gm qP
   cases pre with
   | nil=>simp; omega
   | cons x y=>simp; omega
  rw[Ly]
  simp[lD,h,dB,hw,hlt,hn]
  rw[← h,ih]
  cases gL pre.length c.toNat<;>simp
@[simp] theorem S61 (s:Str):fn P 61 [.str s]=some (.bool (isName s)):=by
 rw[u61]
 by_cases h1:s.length<1
 ·have:s=[]:=List.eq_nil_of_length_eq_zero (by omega)
  subst this
  simp[c61,isName]
 ·by_cases h2:s.length > 24
  ·have h3:¬ (s.length:Int)<1:=by omega
   have h4:(24:Int)<(s.length:Int):=by omega
   have h5:¬ s.length≤24:=by omega
   simp[c61,isName,h3,h4,h5]
  ·have:=L61 (P:=P) s (by omega) s [] rfl
   simp at this
   have h3:¬ (s.length:Int)<1:=by omega
   have h4:¬ (24:Int)<(s.length:Int):=by omega
   have h5:s.length≤24:=by omega
   have h6:1≤s.length:=by omega
   simp[c61,isName,h3,h4,h5,h6,this]
   cases dB 0 s<;>simp
theorem L85 (s:Str) (hs:s.length<9223372036854775807):∀ (l pre:Str),s=pre++l→∃ q,ac P (af P) yl ⟨[.c (.str s),.ptr 0 0 0],[.iter s pre.length]⟩=if dB pre.length l then some (.exit 0,⟨[.c (.str s)],[.iter s s.length]⟩) else some (.ret,⟨[.c (.bool false)],[.iter s q]⟩):=by
 intro l
 induction l with
 | nil =>
  intro pre h
  refine⟨0,?_⟩
  rw[KD]
  simp[jz,h,dB]
 | cons c r ih =>
  intro pre h
  obtain⟨q,ih⟩:=ih (pre++[c]) (by simp[h])
  simp at ih
  have hc:s[pre.length]? = some c:=by simp[h]
  rw[KD]
  rcases Nat.lt_or_ge c.toNat 128 with hlo | hhi
  ·have hd:=KT hc hlo
   rw[h] at hd
   have hn:(gm c.toNat=false∧(pre=[]∨¬(↑c.toNat:Int)=95∧((↑c.toNat:Int)<48∨57<(↑c.toNat:Int))))↔gL pre.length c.toNat=false:=by
    unfold gL qP
    cases pre with
    | nil=>simp
    | cons x y=>simp; cases gm c.toNat<;>simp; omega
   refine⟨if gL pre.length c.toNat=false then pre.length+1 else q,?_⟩
   simp[jz,h,dB,hd,hn]
   rw[h] at ih
   simp at ih
   cases gL pre.length c.toNat<;>simp[ih]
  ·have hd:=Hv hc hhi
   rw[h] at hd
   have hl:gm (Utf8.decode { data:=List.toArray (pre++c::r) } pre.length).fst=false:=by
    have:=Ak (i:=0) hd
    simpa[gL] using this
   have h1:¬ (↑(Utf8.decode { data:=List.toArray (pre++c::r) } pre.length).fst:Int)=95:=by omega
   have h2:(57:Int)<(↑(Utf8.decode { data:=List.toArray (pre++c::r) } pre.length).fst:Int):=by omega
   refine⟨pre.length+(Utf8.decode { data:=List.toArray (pre++c::r) } pre.length).snd,?_⟩
   simp[jz,h,dB,hl,h1,h2,Ak hhi]
@[simp] theorem S85 (s:Str) (hs:s.length<9223372036854775807):fn P 85 [.str s]=some (.bool (isName s)):=by
 rw[u85]
 obtain⟨q,this⟩:=L85 (P:=P) s hs s [] rfl
 simp at this
 simp[c85,this]
 cases hn:dB 0 s
 ·simp[isName,hn]
 ·cases s with
  | nil=>simp[isName]
  | cons c r =>
   simp[isName,hn]
   omega
end LM.GZ
namespace LM.GZ
open Go LM
variable {P:Nat→Option SFunc} [Has P]
structure Lic where
 name:Str
 frm:Int
 to:Int
def Lic.enc (x:Lic):CV:=.agg [.str x.name,ci x.frm,ci x.to]
def Lic.ok (x:Lic):Prop:=x.name.length<9223372036854775807
def aL {α:Type} (chk:List α→α→Int):List α→List α→Int
 | _,[]=>0
 | pre,x::r=>if chk pre x≠0 then chk pre x else aL chk (pre++[x]) r
end LM.GZ
namespace LM.GZ
open Go LM
def fK {α:Type} (p:α→Bool):Nat→List α→Int
 | _,[]=>-1
 | n,x::r=>if p x then n else fK p (n+1) r
theorem Eu {α:Type} (p:α→Bool):∀ (l:List α) (n:Nat),(fK p n l<0)↔l.any p=false
 | [],n=>by simp[fK]
 | x::r,n=>by
  unfold fK
  cases h:p x
  ·simp[h,Eu p r (n+1)]
  ·simp[h]
theorem mX {α:Type} {p:α→Bool}:∀ {l:List α} {n:Nat},l.any p=false→fK p n l = -1
 | [],n,_=>rfl
 | x::r,n,h=>by
  simp only[List.any_cons,Bool.or_eq_false_iff] at h
  rw[fK,if_neg (by simp[h.1]),mX h.2]
theorem zg {α:Type} (p:α→Bool) (l:List α) (n:Nat):decide (0≤fK p n l)=l.any p:=by
 have:=Eu p l n
 cases h:l.any p
 ·have:=this.2 h
  simp; omega
 ·have:¬ fK p n l<0:=fun q=>by rw[this.1 q] at h; cases h
  simp; omega
end LM.GZ
namespace LM.GZ
open Go LM
variable {P:Nat→Option SFunc} [Has P]
def Str.is (s:Str) (x:Str):Bool:=x == s
theorem Str.is_eq (s x:Str):Str.is s x=decide (x=s):=by unfold Str.is; by_cases h:x=s<;>simp[h]
theorem Str.is_eq' (s x:Str):Str.is s x=decide (s=x):=by rw[Str.is_eq]; exact decide_eq_decide.2 eq_comm
theorem acd (s:Str):∀ (l pre:List Str),((pre++l).length:Int)<9223372036854775807 →
  ac P (af P) s7 ⟨[.c (.slice ((pre++l).map CV.str)),.c (.str s),.c (ci (pre++l).length),.c (ci pre.length)],[]⟩=if l.any (Str.is s) then some (.ret,⟨[.c (ci (fK (Str.is s) pre.length l))],[]⟩) else some (.exit 0,⟨[],[]⟩):=by
 intro l
 induction l with
 | nil =>
  intro pre h
  rw[FY]
  simp[ii]
 | cons x r ih =>
  intro pre h
  have ih:=ih (pre++[x]) (by simpa using h)
  simp at ih h
  have hw:IntKind.i64.wrap (↑pre.length+1)=↑pre.length+1:=am (by omega) (by omega)
  have hlt:(pre.length:Int)<pre.length+(r.length+1):=by omega
  have e:=Str.is_eq' s x
  rw[FY]
  by_cases h0:s=x
  ·simp only[h0,decide_true] at e
   simp[ii,hw,hlt,fK,h0,e]
  ·simp only[h0,decide_false] at e
   simp[ii,hw,hlt,fK,h0,e,ih]
theorem S86 (s:Str) (l:List Str) (h:(l.length:Int)<9223372036854775807):fn P 86 [.slice (l.map CV.str),.str s]=some (.bool (l.any (Str.is s))):=by
 have hl:=acd (P:=P) s l [] (by simpa using h)
 have h2:fn P 158 [.slice (l.map CV.str),.str s]=some (ci (fK (Str.is s) 0 l)):=by
  rw[aan]
  simp at hl
  simp[Mz,hl]
  exact fun hx=>(mX (by simpa using hx)).symm
 rw[u86]
 simp[c86,h2,zg]
def once (pre:List Str) (s:Str):Int:=aq [O2 s,av (pre.any (Str.is s)) 9]
theorem L36 (s:Str):∀ (l pre:List Str),((pre++l).length:Int)<9223372036854775807 →
  ac P (af P) zx ⟨[.c (.slice ((pre++l).map CV.str)),.c (.str s),.c (ci pre.length)],[]⟩=if l.any (Str.is s) then some (.ret,⟨[.c (.bool true)],[]⟩) else some (.exit 0,⟨[],[]⟩):=by
 intro l
 induction l with
 | nil =>
  intro pre h
  rw[Ks]
  simp[jw]
 | cons x r ih =>
  intro pre h
  have ih:=ih (pre++[x]) (by simpa using h)
  simp at ih h
  have hw:IntKind.i64.wrap (↑pre.length+1)=↑pre.length+1:=am (by omega) (by omega)
  have hlt:(pre.length:Int)<pre.length+(r.length+1):=by omega
  have e:=Str.is_eq s x
  rw[Ks]
  by_cases h0:x=s
  ·simp only[h0,decide_true] at e
   simp[jw,hw,hlt,h0,e]
  ·simp only[h0,decide_false] at e
   simp[jw,hw,hlt,h0,e,ih]
theorem S36 (s:Str) (l:List Str) (h:(l.length:Int)<9223372036854775807):fn P 36 [.slice (l.map CV.str),.str s]=some (.bool (l.any (Str.is s))):=by
 have hl:=L36 (P:=P) s l [] (by simpa using h)
 simp[-List.any_eq_true] at hl
 rw[u36]
 cases h0:l.any (Str.is s)<;>rw[h0] at hl<;>simp[c36,hl]
theorem CR (pre:List Str) (s:Str):once pre s=if isName s=false then 8 else if pre.any (Str.is s) then 9 else 0:=by
 unfold once O2 av
 cases isName s<;>cases pre.any (Str.is s)<;>simp[aq]
end LM.GZ
namespace LM.GZ
open Go LM
variable {P:Nat→Option SFunc} [Has P]
def cI (xs:List Int):List LV:=xs.map fun v=>LV.c (ci v)
theorem bJ (xs:List Int):(cI xs).length=xs.length:=by simp[cI]
theorem qf {xs:List Int} {i:Nat} (h:i<xs.length):(cI xs)[i]'(by rw[bJ]; exact h)=.c (ci (xs.getD i 0)):=by
 simp[cI,List.getD_eq_getElem?_getD,h]
theorem bk (xs:List Int):cellsOf (xs.map ci)=cI xs:=by
 induction xs with
 | nil=>rfl
 | cons x r ih =>
  have:cellsOf ((x::r).map ci)=.c (ci x)::cellsOf (r.map ci):=rfl
  rw[this,ih]
  rfl
theorem dD (l:List Int):∀ x ∈ l.map ci,Elem none x:=by
 intro x hx
 obtain⟨y,_,rfl⟩:=List.mem_map.1 hx
 exact⟨rfl,rfl⟩
theorem j5 (n:Nat) (xs:List Int):underL n (cI xs)=true:=by rw[← bk]; exact bx _ _
theorem l5 (n:Nat):∀ xs:List Int,shiftL n (cI xs)=cI xs
 | []=>rfl
 | x::r=>by
  have:cI (x::r)=.c (ci x)::cI r:=rfl
  rw[this,shiftL,l5 n r]
  rfl
def sw (xs:List Int) (i k:Nat):List Int:=(xs.set i (xs.getD k 0)).set k (xs.getD i 0)
def bi (n:Nat):List Int:=(List.range n).map fun (k:Nat)=>(k:Int)
theorem bH (n:Nat):(bi n).length=n:=by simp[bi]
end LM.GZ
namespace LM.GZ
open Go LM
variable {P:Nat→Option SFunc} [Has P]
@[simp] theorem S56 (n a b:Int):fn P 56 [ci n,ci a,ci b]=some (ci (av (aF n a b) 3)):=by
 rw[u56]
 unfold aF av
 by_cases h1:n<a<;>by_cases h2:b<n<;>simp[c56,h1,h2]
@[simp] theorem S75 (n a b:Int):fn P 75 [ci n,ci a,ci b]=some (ci (av (aF n a b) 3)):=by
 rw[u75]
 unfold aF
 by_cases h1:n<a<;>by_cases h2:b<n<;>simp[c75,h1,h2]
theorem aaF:∀ (r pre:List Int) (m:Int),((pre++r).length:Int)<9223372036854775807 →
  ac P (af P) n7 ⟨[.c (.slice ((pre++r).map ci)),.c (ci m),.c (ci pre.length)],[]⟩=some (.exit 0,⟨[.c (ci (r.foldl min m))],[]⟩):=by
 intro r
 induction r with
 | nil =>
  intro pre m h
  rw[Fm]
  simp[jL]
 | cons x r ih =>
  intro pre m h
  have ih:=fun m=>ih (pre++[x]) m (by simpa using h)
  simp at ih h
  have hw:IntKind.i64.wrap (↑pre.length+1)=↑pre.length+1:=am (by omega) (by omega)
  have hlt:(pre.length:Int)<pre.length+(r.length+1):=by omega
  have hm:(if x<m then x else m)=min m x:=by split<;>omega
  rw[Fm]
  simp[jL,hw,hlt,bt,hm,ih]
theorem abj (x:Int) (l:List Int) (h:(l.length:Int)<1000):fn P 132 [.slice ((x::l).map ci)]=some (ci (l.foldl min x)):=by
 have:=aaF (P:=P) l [x] x (by simp; omega)
 simp at this
 rw[aca]
 have h1:¬ (l.length:Int)+1<1:=by omega
 simp[NV,h1,this]
theorem aaU:∀ (r pre:List Int) (m:Int),((pre++r).length:Int)<9223372036854775807 →
  ac P (af P) nZ ⟨[.c (.slice ((pre++r).map ci)),.c (ci m),.c (ci pre.length)],[]⟩=some (.exit 0,⟨[.c (ci (r.foldl max m))],[]⟩):=by
 intro r
 induction r with
 | nil =>
  intro pre m h
  rw[CN]
  simp[jU]
 | cons x r ih =>
  intro pre m h
  have ih:=fun m=>ih (pre++[x]) m (by simpa using h)
  simp at ih h
  have hw:IntKind.i64.wrap (↑pre.length+1)=↑pre.length+1:=am (by omega) (by omega)
  have hlt:(pre.length:Int)<pre.length+(r.length+1):=by omega
  have hm:(if m<x then x else m)=max m x:=by split<;>omega
  rw[CN]
  simp[jU,hw,hlt,bt,hm,ih]
theorem aaf (x:Int) (l:List Int) (h:(l.length:Int)<1000):fn P 120 [.slice ((x::l).map ci)]=some (ci (l.foldl max x)):=by
 have:=aaU (P:=P) l [x] x (by simp; omega)
 simp at this
 rw[acT]
 have h1:¬ (l.length:Int)+1<1:=by omega
 simp[NC,h1,this]
def AP (x:Int):Bool:=aF x 0 86399999
theorem S58 (x:Int) (l:List Int) (h:(l.length:Int)<1000):fn P 58 [.slice ((x::l).map ci)]=some (ci (av ((x::l).any AP) 3)):=by
 have e1:=abj (P:=P) x l h
 have e2:=aaf (P:=P) x l h
 have hmin:∀ (l:List Int) (x:Int),l.foldl min x<0↔(x<0∨∃ y ∈ l,y<0):=by
  intro l
  induction l with
  | nil=>simp
  | cons a r ih =>
   intro x
   have q:min x a<0↔x<0∨a<0:=by omega
   rw[List.foldl_cons,ih,q]; simp[or_assoc]
 have hmax:∀ (l:List Int) (x:Int),86399999<l.foldl max x↔(86399999<x∨∃ y ∈ l,86399999<y):=by
  intro l
  induction l with
  | nil=>simp
  | cons a r ih =>
   intro x
   have q:86399999<max x a↔86399999<x∨86399999<a:=by omega
   rw[List.foldl_cons,ih,q]; simp[or_assoc]
 have e:(x::l).any AP=(decide (l.foldl min x<0) || decide (86399999<l.foldl max x)):=by
  rw[Bool.eq_iff_iff]
  simp only[Bool.or_eq_true,decide_eq_true_eq,hmin,hmax,List.any_eq_true,AP,aF]
  constructor
  ·rintro⟨y,hy,h⟩
   simp at h hy
   rcases hy with rfl | hy
   ·rcases h with h | h
    ·exact .inl (.inl h)
    ·exact .inr (.inl h)
   ·rcases h with h | h
    ·exact .inl (.inr ⟨y,hy,h⟩)
    ·exact .inr (.inr ⟨y,hy,h⟩)
  ·rintro ((h | ⟨y,hy,h⟩) | (h | ⟨y,hy,h⟩))
   ·exact⟨x,by simp,by simp[h]⟩
   ·exact⟨y,by simp[hy],by simp[h]⟩
   ·exact⟨x,by simp,by simp[h]⟩
   ·exact⟨y,by simp[hy],by simp[h]⟩
 rw[e,u58]
 simp at e1 e2
 by_cases h1:l.foldl min x<0<;>by_cases h2:86399999<l.foldl max x<;>simp[c58,e1,e2,h1,h2]
def Gf (n f e:Int):Int:=av (decide (0<n) && decide (86399999<IntKind.i64.wrap (f+IntKind.i64.wrap (IntKind.i64.wrap (n-1)*e)))) 4
theorem ax (h:Heap):ah [] h=some ([],h):=by rw[ah]
theorem bA (v:CV) (l:List LV) (h:Heap):ah (.c v::l) h=bnd (ah l h) fun a=>some (.c v::a.1,a.2):=by
 rw[ah]
 rcases ah l h with _ | ⟨x,y⟩<;>rfl
 all_goals simp
theorem cw (b g o n:Nat) (e c:Option Nat) (l:List LV) (h:Heap):ah (.slice b g o n e c::l) h=bnd (ah l h) fun a=>some (.slice b g o n e c::a.1,a.2):=by
 rw[ah]
 rcases ah l h with _ | ⟨x,y⟩<;>rfl
 all_goals simp
def gh (n f e:Int) (ts:List Int):Int:=aq [av (aF n 0 160) 3,av ((ts++[f,e]).any AP) 3,Gf n f e]
theorem G6 (w f e:Int):aN none none 8 (.slice 1 1 0 1 none (some 1)) (.c (.slice [ci f,ci e])) [.cells 1 [] 0,.cells 1 [.c (ci w)] 0]=some (.slice 2 1 0 3 none none,[.cells 1 [] 0,.cells 1 [.c (ci w)] 0,.cells 1 [.c (ci w),.c (ci f),.c (ci e)] 0]):=by
 rfl
theorem YG (n f e w:Int):sfn P 77 [.c (ci n),.c (ci f),.c (ci e),.slice 1 1 0 1 none (some 1)] [.cells 1 [] 0,.cells 1 [.c (ci w)] 0]=some (.c (ci (gh n f e [w])),[.cells 1 [] 0,.cells 1 [.c (ci w)] 0,.cells 1 [.c (ci w),.c (ci f),.c (ci e)] 0]):=by
 have a:=S58 (P:=P) w [f,e] (by simp)
 simp[-List.any_cons] at a
 rw[u77]
 unfold gh
 by_cases h1:0<n
 ·simp[c77,a,G6,h1,Gf,-List.any_cons]
 ·simp[c77,a,G6,h1,Gf,-List.any_cons]
end LM.GZ
namespace LM.GZ
inductive CDc where
 | lead
 | boulder
 | speed
 deriving DecidableEq
inductive CPh where
 | waiting
 | on
 | done
 deriving DecidableEq
inductive CSt where
 | fine
 | dns
 | dnf
 | dsq
 deriving DecidableEq
inductive CKd where
 | start
 | hold
 | plus
 | attempt
 | zone
 | top
 | fall
 | leave
 | out
 | finish
 | wrong
 | incident
 | absent
 | bar
 deriving DecidableEq
structure CTr where
 att:Int
 zone:Int
 top:Int
 vis:Bool
structure CCl where
 ph:CPh
 st:CSt
 place:Int
 began:Int
 used:Int
 hold:Int
 plus:Bool
 top:Bool
 op:Bool
 tries:List CTr
 runs:List Int
structure CEn where
 who:Nat
 kind:CKd
 val:Int
 time:Int
structure CRn where
 dc:CDc
 size:Nat
 limit:Int
structure CSs where
 time:Int
 cls:List CCl
def clZ:CCl:=⟨.waiting,.fine,0,0,0,0,false,false,false,[],[]⟩
def trZ:CTr:=⟨0,0,0,false⟩
def trAt (c:CCl) (p:Int):CTr:=c.tries.getD (p-1).toNat trZ
def CCl.setT (c:CCl) (t:CTr):CCl:={ c with tries:=c.tries.set (c.place-1).toNat t }
def CCl.off (c:CCl) (p:CPh):CCl:={ c with ph:=p,place:=0,op:=false }
def CCl.stop (c:CCl) (s:CSt):CCl:={ c.off .done with st:=s }
def bestL (l:List Int):Int:=l.foldl (fun o n=>if 0<n∧(o=0∨n<o) then n else o) 0
def fU (r:CRn) (c:CCl) (t:Int):CCl:={ c.off .done with used:=min (t-c.began) r.limit }
def lM (c:CCl):CCl:=if c.tries.any (fun t=>!t.vis)=true then c.off .waiting else c.off .done
def tV (r:CRn) (c:CCl) (n:Int):CCl :=
 if c.runs.length+1<r.size then { c.off .waiting with runs:=c.runs++[n] } else
  { c.off .done with runs:=c.runs++[n],st:=if bestL (c.runs++[n])=0 then .dnf else c.st }
def kindIn:CKd→CDc→Bool
 | .start,_=>true
 | .hold,d=>decide (d=.lead)
 | .plus,d=>decide (d=.lead)
 | .attempt,d=>decide (d=.boulder)
 | .zone,d=>decide (d=.boulder)
 | .top,d=>decide (d≠.speed)
 | .fall,_=>true
 | .leave,d=>decide (d=.boulder)
 | .out,d=>decide (d≠.speed)
 | .finish,d=>decide (d=.speed)
 | .wrong,d=>decide (d=.speed)
 | .incident,_=>true
 | .absent,_=>true
 | .bar,_=>true
def jH:CKd→Bool
 | .start=>true
 | .hold=>true
 | .finish=>true
 | _=>false
def dq (r:CRn) (c:CCl) (p:Int):Bool:=decide (c.ph=.on) && (decide (r.dc=.lead) || decide (c.place=p))
def fx (r:CRn) (cs:List CCl) (e:CEn):Bool:=(List.range cs.length).all fun i=>decide (i=e.who) || !dq r (cs.getD i clZ) e.val
def suitsB (r:CRn) (c:CCl) (v:Int):Bool :=
 match r.dc with
 | .lead=>decide (v=0)
 | .speed=>decide (1≤v) && decide (v≤2)
 | .boulder=>decide (1≤v) && decide (v≤r.size) && !(trAt c v).vis
def readyB (r:CRn) (c:CCl) (k:CKd):Bool :=
 match r.dc with
 | .lead=>decide (k≠.top) || decide (c.hold=r.size)
 | .speed=>true
 | .boulder=>!(decide (k=.zone) || decide (k=.top) || decide (k=.fall) || decide (k=.incident)) || c.op
def ip (r:CRn) (c:CCl):Bool :=
 match r.dc with
 | .lead=>true
 | .speed=>decide (c.runs.length=0)
 | .boulder=>!c.tries.any fun t=>t.vis
def tNow (r:CRn) (c:CCl):CTr:=if r.dc=.boulder∧c.ph=.on then trAt c c.place else trZ
def kb (r:CRn) (s:CSs) (e:CEn) (c:CCl):List Bool :=
 [decide (s.time≤e.time),
 decide (c.ph≠.done) || (decide (e.kind=.bar) && decide (c.st≠.dsq)),
 kindIn e.kind r.dc,
 !decide (e.kind=.start) || decide (c.ph=.waiting),
 !decide (e.kind=.start) || fx r s.cls e,
 !decide (e.kind=.start) || suitsB r c e.val,
 (decide (e.kind=.start) || decide (e.kind=.absent) || decide (e.kind=.bar)) || decide (c.ph=.on),
 !(decide (e.kind=.hold) || decide (e.kind=.plus) || decide (e.kind=.attempt) || decide (e.kind=.zone) || decide (e.kind=.top)) || decide (e.time≤c.began+r.limit),
 !decide (e.kind=.out) || decide (c.began+r.limit≤e.time),
 !decide (e.kind=.hold) || (decide (c.hold<e.val) && decide (e.val≤r.size)),
 !decide (e.kind=.plus) || (!c.plus && decide (c.hold<r.size)),
 readyB r c e.kind,
 !decide (e.kind=.attempt) || (!c.op && decide ((tNow r c).top=0) && decide ((tNow r c).att<99)),
 !decide (e.kind=.zone) || decide ((tNow r c).zone=0),
 !decide (e.kind=.finish) || (decide (1≤e.val) && decide (e.val≤e.time-c.began)),
 !decide (e.kind=.absent) || (decide (c.ph=.waiting) && ip r c)]
def cx:Nat→List Bool→Nat
 | _,[]=>0
 | i,b::l=>if b=true then cx (i+1) l else i
def c6 (r:CRn) (s:CSs) (e:CEn):Nat:=cx 1 (kb r s e (s.cls.getD e.who clZ))
def doC (r:CRn) (e:CEn) (c:CCl):CCl :=
 match e.kind with
 | .start=>if r.dc=.boulder then ({ c with ph:=.on,place:=e.val,began:=e.time }:CCl).setT { trAt c e.val with vis:=true } else { c with ph:=.on,place:=e.val,began:=e.time }
 | .hold=>{ c with hold:=e.val,plus:=false }
 | .plus=>{ c with plus:=true }
 | .attempt=>({ c with op:=true }:CCl).setT { trAt c c.place with att:=(trAt c c.place).att+1 }
 | .zone=>c.setT { trAt c c.place with zone:=(trAt c c.place).att }
 | .top=>if r.dc=.lead then { fU r c e.time with top:=true } else
   { c.setT { trAt c c.place with top:=(trAt c c.place).att,zone:=if (trAt c c.place).zone=0 then (trAt c c.place).att else (trAt c c.place).zone } with op:=false }
 | .fall=>match r.dc with
  | .lead=>fU r c e.time
  | .boulder=>{ c with op:=false }
  | .speed=>tV r c 0
 | .leave=>lM c
 | .out=>if r.dc=.lead then fU r c e.time else lM c
 | .finish=>tV r c e.val
 | .wrong=>c.stop .dsq
 | .incident=>if r.dc=.boulder then
   { c.setT { trAt c c.place with zone:=if (trAt c c.place).zone=(trAt c c.place).att then 0 else (trAt c c.place).zone,att:=(trAt c c.place).att-1 } with op:=false }
   else { c.off .waiting with hold:=0,plus:=false }
 | .absent=>c.stop .dns
 | .bar=>c.stop .dsq
def dM (r:CRn) (s:CSs) (e:CEn):CSs:=⟨e.time,s.cls.set e.who (doC r e (s.cls.getD e.who clZ))⟩
def oo (r:CRn) (s:CSs) (e:CEn):CSs:=if c6 r s e=0 then dM r s e else s
def bZ (r:CRn) (s:CSs) (l:List CEn):CSs:=l.foldl (oo r) s
def dE (r:CRn):Nat→CSs→List CEn→List (Nat × Nat)
 | _,_,[]=>[]
 | i,s,e::l=>if c6 r s e=0 then dE r (i+1) (dM r s e) l else (i,c6 r s e)::dE r (i+1) s l
def trOK (t:CTr):Prop:=0≤t.att∧t.att≤99∧0≤t.zone∧t.zone≤t.att∧0≤t.top∧t.top≤t.att∧(0<t.top→t.zone≠0∧t.zone≤t.top)∧(0<t.att→t.vis=true)
structure LeadOK (r:CRn) (c:CCl):Prop where
 place:c.place=0
 op:c.op=false
 tries:c.tries=[]
 runs:c.runs=[]
 hold:0≤c.hold∧c.hold≤r.size
structure BoulderOK (r:CRn) (c:CCl):Prop where
 used:c.used=0
 plus:c.plus=false
 top:c.top=false
 hold:c.hold=0
 runs:c.runs=[]
 len:c.tries.length=r.size
 ok:∀ t ∈ c.tries,trOK t
 on:c.ph=.on→1≤c.place∧c.place≤r.size∧(trAt c c.place).vis=true∧(c.op=true→0<(trAt c c.place).att∧(trAt c c.place).top=0)
 off:c.ph≠.on→c.place=0∧c.op=false
structure SpeedOK (r:CRn) (c:CCl):Prop where
 used:c.used=0
 plus:c.plus=false
 top:c.top=false
 hold:c.hold=0
 op:c.op=false
 tries:c.tries=[]
 runs:∀ n ∈ c.runs,0≤n∧n≤86399999
 len:c.runs.length≤r.size
 on:c.ph=.on→c.place=1∨c.place=2
 off:c.ph≠.on→c.place=0
 yet:c.ph≠.done→c.runs.length<r.size
 best:c.ph=.done→c.st=.fine→bestL c.runs≠0
structure ClOK (r:CRn) (t:Int) (c:CCl):Prop where
 st:c.ph≠.done→c.st=.fine
 began:0≤c.began∧c.began≤t
 used:0≤c.used∧c.used≤r.limit
 own:match r.dc with
  | .lead=>LeadOK r c
  | .boulder=>BoulderOK r c
  | .speed=>SpeedOK r c
def Apart (r:CRn) (cs:List CCl):Prop:=∀ (i j:Nat) (a b:CCl),i<j→cs[i]? = some a→cs[j]? = some b→a.ph=.on→b.ph=.on→r.dc≠.lead∧a.place≠b.place
structure SsOK (r:CRn) (n:Nat) (s:CSs):Prop where
 time:0≤s.time∧s.time≤86399999
 len:s.cls.length=n
 ok:∀ c ∈ s.cls,ClOK r s.time c
 apart:Apart r s.cls
structure RnOK (r:CRn):Prop where
 size:1≤r.size
 lim:1≤r.limit∧r.limit≤86399999
def jZ (n:Nat) (e:CEn):Prop:=e.who<n∧0≤e.val∧e.val≤86399999∧0≤e.time∧e.time≤86399999
theorem l7:∀ (l:List Bool) (i:Nat),0<i→cx i l=0→∀ b ∈ l,b=true
 | [],_,_,_,b,h=>by cases h
 | a::l,i,hi,h,b,hb=>by
  rw[cx] at h
  cases a
  ·rw[if_neg (by simp)] at h; omega
  ·rw[if_pos rfl] at h
   rcases List.mem_cons.1 hb with rfl | hb
   ·rfl
   ·exact l7 l (i+1) (by omega) h b hb
end LM.GZ
namespace LM.GZ
variable {r:CRn} {t t' : Int} {c:CCl} {e:CEn}
structure RulesOK (r:CRn) (t:Int) (e:CEn) (c:CCl):Prop where
 r1:t≤e.time
 r2:c.ph≠.done∨(e.kind=.bar∧c.st≠.dsq)
 r3:kindIn e.kind r.dc=true
 r4:e.kind=.start→c.ph=.waiting
 r6:e.kind=.start→suitsB r c e.val=true
 r7:e.kind=.start∨e.kind=.absent∨e.kind=.bar∨c.ph=.on
 r10:e.kind=.hold→c.hold<e.val∧e.val≤r.size
 r12:readyB r c e.kind=true
 r13:e.kind=.attempt→c.op=false∧(tNow r c).top=0∧(tNow r c).att<99
 r14:e.kind=.zone→(tNow r c).zone=0
theorem zv {s:CSs} (h:∀ b ∈ kb r s e c,b=true):RulesOK r s.time e c∧(e.kind=.start→fx r s.cls e=true):=by
 simp only[kb,List.mem_cons,List.not_mem_nil,or_false,forall_eq_or_imp,forall_eq] at h
 obtain⟨h1,h2,h3,h4,h5,h6,h7,h8,h9,h10,h11,h12,h13,h14,h15,h16⟩:=h
 refine⟨⟨by simpa using h1,by simpa using h2,h3,fun k=>by simpa[k] using h4,fun k=>by simpa[k] using h6,?_,fun k=>by simpa[k] using h10,h12,fun k=>by simpa[k,and_assoc] using h13,fun k=>by simpa[k] using h14⟩,fun k=>by simpa[k] using h5⟩
 simpa[or_assoc] using h7
theorem ClOK.later (h:ClOK r t c) (ht:t≤t'):ClOK r t' c:=⟨h.st,⟨h.began.1,Int.le_trans h.began.2 ht⟩,h.used,h.own⟩
theorem gU {c:CCl} {p:Int} (h1:1≤p) (h2:p≤c.tries.length):trAt c p ∈ c.tries:=by
 have hl:(p-1).toNat<c.tries.length:=by omega
 rw[trAt,List.getD_eq_getElem?_getD,List.getElem?_eq_getElem hl]
 exact List.getElem_mem hl
theorem tu (h:ClOK r t c) (ht:t≤t') {s:CSt} (hs:s≠.fine):ClOK r t' (c.stop s):=by
 refine⟨fun h=>absurd rfl h,⟨h.began.1,Int.le_trans h.began.2 ht⟩,h.used,?_⟩
 have:=h.own
 cases hd:r.dc<;>rw[hd] at this<;>simp only at this ⊢
 ·exact⟨rfl,rfl,this.tries,this.runs,this.hold⟩
 ·exact⟨this.used,this.plus,this.top,this.hold,this.runs,this.len,this.ok,fun h=>by simp[CCl.stop,CCl.off] at h,fun _=>⟨rfl,rfl⟩⟩
 ·exact⟨this.used,this.plus,this.top,this.hold,rfl,this.tries,this.runs,this.len,fun h=>by simp[CCl.stop,CCl.off] at h,fun _=>rfl,fun h=>absurd rfl h,fun _ h=>absurd h hs⟩
theorem Br (hr:RnOK r) (hd:r.dc=.lead) (h:ClOK r t c) (ht:t≤t'):ClOK r t' (fU r c t')∧ClOK r t' { fU r c t' with top:=true }:=by
 have ho:=h.own
 rw[hd] at ho
 simp only at ho
 have hb:=h.began
 have hl:=hr.lim
 have hu:0≤min (t'-c.began) r.limit∧min (t'-c.began) r.limit≤r.limit:=by omega
 refine⟨⟨fun h=>absurd rfl h,⟨hb.1,by show c.began≤t'; omega⟩,hu,?_⟩,⟨fun h=>absurd rfl h,⟨hb.1,by show c.began≤t'; omega⟩,hu,?_⟩⟩<;>rw[hd]<;>exact⟨rfl,rfl,ho.tries,ho.runs,ho.hold⟩
theorem zi (hd:r.dc=.boulder) (h:ClOK r t c) (hon:c.ph=.on) (ht:t≤t'):ClOK r t' (lM c):=by
 have ho:=h.own
 rw[hd] at ho
 simp only at ho
 have hst:c.st=.fine:=h.st (by rw[hon]; decide)
 unfold lM
 split
 ·refine⟨fun _=>hst,⟨h.began.1,Int.le_trans h.began.2 ht⟩,h.used,?_⟩
  rw[hd]
  exact⟨ho.used,ho.plus,ho.top,ho.hold,ho.runs,ho.len,ho.ok,fun h=>by simp[CCl.off] at h,fun _=>⟨rfl,rfl⟩⟩
 ·refine⟨fun h=>absurd rfl h,⟨h.began.1,Int.le_trans h.began.2 ht⟩,h.used,?_⟩
  rw[hd]
  exact⟨ho.used,ho.plus,ho.top,ho.hold,ho.runs,ho.len,ho.ok,fun h=>by simp[CCl.off] at h,fun _=>⟨rfl,rfl⟩⟩
theorem IL (hd:r.dc=.speed) (h:ClOK r t c) (hon:c.ph=.on) (ht:t≤t') {n:Int} (hn:0≤n∧n≤86399999):ClOK r t' (tV r c n):=by
 have ho:=h.own
 rw[hd] at ho
 simp only at ho
 have hst:c.st=.fine:=h.st (by rw[hon]; decide)
 have hy:=ho.yet (by rw[hon]; decide)
 have hruns:∀ m ∈ c.runs++[n],0≤m∧m≤86399999:=by
  intro m hm
  rcases List.mem_append.1 hm with hm | hm
  ·exact ho.runs m hm
  ·rw[List.mem_singleton] at hm; subst hm; exact hn
 unfold tV
 split
 ·rename_i hl
  refine⟨fun _=>hst,⟨h.began.1,Int.le_trans h.began.2 ht⟩,h.used,?_⟩
  rw[hd]
  exact⟨ho.used,ho.plus,ho.top,ho.hold,rfl,ho.tries,hruns,by simp[CCl.off]; omega,fun h=>by simp[CCl.off] at h,fun _=>rfl,fun _=>by simp[CCl.off]; exact hl,fun h=>by simp[CCl.off] at h⟩
 ·refine⟨fun h=>absurd rfl h,⟨h.began.1,Int.le_trans h.began.2 ht⟩,h.used,?_⟩
  rw[hd]
  refine⟨ho.used,ho.plus,ho.top,ho.hold,rfl,ho.tries,hruns,by simp[CCl.off]; omega,fun h=>by simp[CCl.off] at h,fun _=>rfl,fun h=>absurd rfl h,fun _ h=>?_⟩
  simp only at h ⊢
  split at h
  ·cases h
  ·assumption
theorem BL (hd:r.dc≠.boulder) (h:ClOK r t c) (hon:c.ph=.on) (ht:t≤t'):ClOK r t' { c.off .waiting with hold:=0,plus:=false }:=by
 have ho:=h.own
 have hst:c.st=.fine:=h.st (by rw[hon]; decide)
 refine⟨fun _=>hst,⟨h.began.1,Int.le_trans h.began.2 ht⟩,h.used,?_⟩
 cases hdc:r.dc<;>rw[hdc] at ho hd<;>simp only at ho ⊢
 ·exact⟨rfl,rfl,ho.tries,ho.runs,⟨Int.le_refl _,Int.natCast_nonneg _⟩⟩
 ·exact absurd rfl hd
 ·exact⟨ho.used,rfl,ho.top,rfl,rfl,ho.tries,ho.runs,ho.len,fun h=>by simp[CCl.off] at h,fun _=>rfl,fun _=>ho.yet (by rw[hon]; decide),fun h=>by simp[CCl.off] at h⟩
theorem nY (hd:r.dc=.boulder) (h:ClOK r t c) (hon:c.ph=.on) (ht:t≤t') (q:CTr) (o:Bool) (hq:trOK q) (hv:q.vis=true) (hop:o=true→0<q.att∧q.top=0):ClOK r t' { c.setT q with op:=o }:=by
 have ho:=h.own
 rw[hd] at ho
 simp only at ho
 obtain⟨p1,p2,_,_⟩:=ho.on hon
 have hl:(c.place-1).toNat<c.tries.length:=by rw[ho.len]; omega
 refine⟨h.st,⟨h.began.1,Int.le_trans h.began.2 ht⟩,h.used,?_⟩
 rw[hd]
 have hat:trAt { c.setT q with op:=o } c.place=q:=by
  simp only[trAt,CCl.setT,List.getD_eq_getElem?_getD]
  rw[List.getElem?_set_self hl]
  rfl
 refine⟨ho.used,ho.plus,ho.top,ho.hold,ho.runs,by simp[CCl.setT,ho.len],fun x hx=>?_,fun _=>⟨p1,p2,?_,fun h=>?_⟩,fun h=>absurd hon h⟩
 ·rcases List.mem_or_eq_of_mem_set hx with hx | rfl
  ·exact ho.ok x hx
  ·exact hq
 ·show (trAt { c.setT q with op:=o } c.place).vis=true
  rw[hat]; exact hv
 ·show 0<(trAt { c.setT q with op:=o } c.place).att∧(trAt { c.setT q with op:=o } c.place).top=0
  rw[hat]; exact hop h
theorem zI {T:CTr} (h:trOK T) (hv:T.vis=true) (ha:T.att<99):trOK { T with att:=T.att+1 }:=by
 obtain⟨a,z,p,v⟩:=T
 obtain⟨q1,q2,q3,q4,q5,q6,q7,q8⟩:=h
 simp only at *
 exact⟨by simp only; omega,by simp only; omega,q3,by simp only; omega,q5,by simp only; omega,q7,fun _=>hv⟩
theorem Kj {T:CTr} (h:trOK T) (ht:T.top=0):trOK { T with zone:=T.att }:=by
 obtain⟨a,z,p,v⟩:=T
 obtain⟨q1,q2,q3,q4,q5,q6,q7,q8⟩:=h
 simp only at *
 exact⟨q1,q2,q1,Int.le_refl _,q5,q6,fun h=>by simp only at h; omega,q8⟩
theorem OM {T:CTr} (h:trOK T) (ha:0<T.att):trOK { T with top:=T.att,zone:=if T.zone=0 then T.att else T.zone }:=by
 obtain⟨a,z,p,v⟩:=T
 obtain⟨q1,q2,q3,q4,q5,q6,q7,q8⟩:=h
 simp only at *
 refine⟨q1,q2,?_,?_,q1,Int.le_refl _,fun _=>⟨?_,?_⟩,q8⟩<;>simp only<;>split<;>omega
theorem vr {T:CTr} (h:trOK T) (ha:0<T.att) (ht:T.top=0):trOK { T with zone:=if T.zone=T.att then 0 else T.zone,att:=T.att-1 }:=by
 obtain⟨a,z,p,v⟩:=T
 obtain⟨q1,q2,q3,q4,q5,q6,q7,q8⟩:=h
 simp only at *
 have hv:=q8 ha
 refine⟨by simp only; omega,by simp only; omega,?_,?_,q5,by simp only; omega,fun h=>by simp only at h; omega,fun _=>hv⟩<;>simp only<;>split<;>omega
theorem Y5 (hr:RnOK r) (hv:0≤e.val∧e.val≤86399999) (h:ClOK r t c) (R:RulesOK r t e c):ClOK r e.time (doC r e c):=by
 have ht:=R.r1
 have on:e.kind≠.start→e.kind≠.absent→e.kind≠.bar→c.ph=.on:=fun a b d=>by
  rcases R.r7 with k | k | k | k
  ·exact absurd k a
  ·exact absurd k b
  ·exact absurd k d
  ·exact k
 have h3:=R.r3
 have h12:=R.r12
 have hown:=h.own
 unfold doC
 cases hk:e.kind<;>rw[hk] at h3 h12<;>simp only[kindIn,decide_eq_true_eq] at h3<;>simp only
 case start =>
  have hw:=R.r4 hk
  have h6:=R.r6 hk
  have hst:c.st=.fine:=h.st (by rw[hw]; decide)
  have hb:0≤e.time:=by have:=h.began; omega
  cases hd:r.dc<;>rw[hd] at hown<;>simp only[suitsB,hd] at h6<;>simp only at hown
  ·simp only[decide_eq_true_eq] at h6
   rw[if_neg (by decide)]
   refine⟨fun _=>hst,⟨hb,Int.le_refl _⟩,h.used,?_⟩
   rw[hd]
   exact⟨h6,hown.op,hown.tries,hown.runs,hown.hold⟩
  ·rw[if_pos rfl]
   simp only[Bool.and_eq_true,decide_eq_true_eq,Bool.not_eq_true'] at h6
   obtain⟨⟨p1,p2⟩,p3⟩:=h6
   have hl:(e.val-1).toNat<c.tries.length:=by rw[hown.len]; omega
   have hop:=(hown.off (by rw[hw]; decide)).2
   have hm:=hown.ok _ (gU p1 (by rw[hown.len]; omega))
   have hat:trAt (({ c with ph:=.on,place:=e.val,began:=e.time }:CCl).setT { trAt c e.val with vis:=true }) e.val={ trAt c e.val with vis:=true }:=by
    simp only[trAt,CCl.setT,List.getD_eq_getElem?_getD]
    rw[List.getElem?_set_self hl]
    rfl
   refine⟨fun _=>hst,⟨hb,Int.le_refl _⟩,h.used,?_⟩
   rw[hd]
   refine⟨hown.used,hown.plus,hown.top,hown.hold,hown.runs,by simp[CCl.setT,hown.len],fun x hx=>?_,fun _=>⟨p1,p2,?_,fun h=>?_⟩,fun h=>absurd rfl h⟩
   ·rcases List.mem_or_eq_of_mem_set hx with hx | rfl
    ·exact hown.ok x hx
    ·obtain⟨q1,q2,q3,q4,q5,q6,q7,q8⟩:=hm
     exact⟨q1,q2,q3,q4,q5,q6,q7,fun _=>rfl⟩
   ·show (trAt (({ c with ph:=.on,place:=e.val,began:=e.time }:CCl).setT { trAt c e.val with vis:=true }) e.val).vis=true
    rw[hat]
   ·have:c.op=true:=h
    rw[hop] at this
    cases this
  ·rw[if_neg (by decide)]
   simp only[Bool.and_eq_true,decide_eq_true_eq] at h6
   refine⟨fun _=>hst,⟨hb,Int.le_refl _⟩,h.used,?_⟩
   rw[hd]
   exact⟨hown.used,hown.plus,hown.top,hown.hold,hown.op,hown.tries,hown.runs,hown.len,fun _=>by show e.val=1∨e.val=2; omega,fun h=>absurd rfl h,fun _=>hown.yet (by rw[hw]; decide),fun h=>by cases h⟩
 case hold =>
  have h10:=R.r10 hk
  rw[h3] at hown
  simp only at hown
  refine⟨h.st,⟨h.began.1,Int.le_trans h.began.2 ht⟩,h.used,?_⟩
  rw[h3]
  exact⟨hown.place,hown.op,hown.tries,hown.runs,hv.1,h10.2⟩
 case plus =>
  rw[h3] at hown
  simp only at hown
  refine⟨h.st,⟨h.began.1,Int.le_trans h.began.2 ht⟩,h.used,?_⟩
  rw[h3]
  exact⟨hown.place,hown.op,hown.tries,hown.runs,hown.hold⟩
 case attempt =>
  have hon:=on (by rw[hk]; decide) (by rw[hk]; decide) (by rw[hk]; decide)
  rw[h3] at hown
  simp only at hown
  obtain⟨p1,p2,p3,_⟩:=hown.on hon
  obtain⟨q1,q2,q3,q4,q5,q6,q7,q8⟩:=hown.ok _ (gU p1 (by rw[hown.len]; omega))
  obtain⟨a1,a2,a3⟩:=R.r13 hk
  rw[tNow,if_pos ⟨h3,hon⟩] at a2 a3
  have:=nY h3 h hon ht { trAt c c.place with att:=(trAt c c.place).att+1 } true (zI (hown.ok _ (gU p1 (by rw[hown.len]; omega))) p3 a3) p3 (fun _=>⟨by show 0<(trAt c c.place).att+1; omega,a2⟩)
  exact this
 case zone =>
  have hon:=on (by rw[hk]; decide) (by rw[hk]; decide) (by rw[hk]; decide)
  rw[h3] at hown
  simp only at hown
  obtain⟨p1,p2,p3,p4⟩:=hown.on hon
  obtain⟨q1,q2,q3,q4,q5,q6,q7,q8⟩:=hown.ok _ (gU p1 (by rw[hown.len]; omega))
  simp only[readyB,h3] at h12
  have hop:c.op=true:=by simpa using h12
  obtain⟨p5,p6⟩:=p4 hop
  have:=nY h3 h hon ht { trAt c c.place with zone:=(trAt c c.place).att } c.op (Kj (hown.ok _ (gU p1 (by rw[hown.len]; omega))) p6) p3 (fun _=>⟨p5,p6⟩)
  exact this
 case top =>
  have hon:=on (by rw[hk]; decide) (by rw[hk]; decide) (by rw[hk]; decide)
  cases hd:r.dc
  ·rw[if_pos rfl]
   exact (Br hr hd h ht).2
  ·rw[if_neg (by decide)]
   rw[hd] at hown
   simp only at hown
   obtain⟨p1,p2,p3,p4⟩:=hown.on hon
   obtain⟨q1,q2,q3,q4,q5,q6,q7,q8⟩:=hown.ok _ (gU p1 (by rw[hown.len]; omega))
   simp only[readyB,hd] at h12
   have hop:c.op=true:=by simpa using h12
   obtain⟨p5,p6⟩:=p4 hop
   exact nY hd h hon ht { trAt c c.place with top:=(trAt c c.place).att,zone:=if (trAt c c.place).zone=0 then (trAt c c.place).att else (trAt c c.place).zone } false
    (OM (hown.ok _ (gU p1 (by rw[hown.len]; omega))) p5) p3 (fun h=>by cases h)
  ·exact absurd hd h3
 case fall =>
  have hon:=on (by rw[hk]; decide) (by rw[hk]; decide) (by rw[hk]; decide)
  cases hd:r.dc
  ·exact (Br hr hd h ht).1
  ·rw[hd] at hown
   simp only at hown ⊢
   refine⟨h.st,⟨h.began.1,Int.le_trans h.began.2 ht⟩,h.used,?_⟩
   rw[hd]
   obtain⟨p1,p2,p3,p4⟩:=hown.on hon
   exact⟨hown.used,hown.plus,hown.top,hown.hold,hown.runs,hown.len,hown.ok,fun _=>⟨p1,p2,p3,fun h=>by cases h⟩,fun h=>absurd hon h⟩
  ·exact IL hd h hon ht ⟨Int.le_refl _,by decide⟩
 case leave =>
  have hon:=on (by rw[hk]; decide) (by rw[hk]; decide) (by rw[hk]; decide)
  exact zi h3 h hon ht
 case out =>
  have hon:=on (by rw[hk]; decide) (by rw[hk]; decide) (by rw[hk]; decide)
  cases hd:r.dc
  ·rw[if_pos rfl]
   exact (Br hr hd h ht).1
  ·rw[if_neg (by decide)]
   exact zi hd h hon ht
  ·exact absurd hd h3
 case finish =>
  have hon:=on (by rw[hk]; decide) (by rw[hk]; decide) (by rw[hk]; decide)
  exact IL h3 h hon ht hv
 case wrong=>exact tu h ht (by decide)
 case incident =>
  have hon:=on (by rw[hk]; decide) (by rw[hk]; decide) (by rw[hk]; decide)
  split
  ·rename_i hd
   rw[hd] at hown
   simp only at hown
   obtain⟨p1,p2,p3,p4⟩:=hown.on hon
   obtain⟨q1,q2,q3,q4,q5,q6,q7,q8⟩:=hown.ok _ (gU p1 (by rw[hown.len]; omega))
   simp only[readyB,hd] at h12
   have hop:c.op=true:=by simpa using h12
   obtain⟨p5,p6⟩:=p4 hop
   exact nY hd h hon ht { trAt c c.place with zone:=if (trAt c c.place).zone=(trAt c c.place).att then 0 else (trAt c c.place).zone,att:=(trAt c c.place).att-1 } false
    (vr (hown.ok _ (gU p1 (by rw[hown.len]; omega))) p5 p6) p3 (fun h=>by cases h)
  ·rename_i hd
   exact BL hd h hon ht
 case absent=>exact tu h ht (by decide)
 case bar=>exact tu h ht (by decide)
end LM.GZ
namespace LM.GZ
variable {r:CRn} {t t' : Int} {c:CCl} {e:CEn} {n:Nat} {s:CSs}
theorem Pg (h:(doC r e c).ph=.on) (h7:e.kind=.start∨e.kind=.absent∨e.kind=.bar∨c.ph=.on):(e.kind=.start∧(doC r e c).place=e.val)∨(c.ph=.on∧(doC r e c).place=c.place):=by
 unfold doC at *
 cases hk:e.kind<;>rw[hk] at h h7<;>simp only at h ⊢
 case start =>
  left
  refine⟨trivial,?_⟩
  split<;>rfl
 case fall =>
  right
  split at h
  ·simp[fU,CCl.off] at h
  ·have:c.ph=.on:=h
   exact⟨this,rfl⟩
  ·simp only[tV] at h
   split at h<;>simp[CCl.off] at h
 case absent=>simp[CCl.stop,CCl.off] at h
 case bar=>simp[CCl.stop,CCl.off] at h
 case wrong=>simp[CCl.stop,CCl.off] at h
 case leave =>
  simp only[lM] at h
  split at h<;>simp[CCl.off] at h
 case out =>
  split at h
  ·simp[fU,CCl.off] at h
  ·simp only[lM] at h
   split at h<;>simp[CCl.off] at h
 case finish =>
  simp only[tV] at h
  split at h<;>simp[CCl.off] at h
 case top =>
  right
  split at h
  ·simp[fU,CCl.off] at h
  ·rename_i hd
   have:c.ph=.on:=h
   rw[if_neg hd]
   exact⟨this,rfl⟩
 case incident =>
  right
  split at h
  ·rename_i hd
   have:c.ph=.on:=h
   rw[if_pos hd]
   exact⟨this,rfl⟩
  ·simp[CCl.off] at h
 all_goals
  right
  have:c.ph=.on:=h
  first
   | exact⟨this,rfl⟩
   | exact⟨this,trivial⟩
theorem Fv {cs:List CCl} (h:fx r cs e=true) {i:Nat} {a:CCl} (hi:i≠e.who) (ga:cs[i]? = some a) (ha:a.ph=.on):r.dc≠.lead∧a.place≠e.val:=by
 rw[fx,List.all_eq_true] at h
 have hl:=(List.getElem?_eq_some_iff.1 ga).1
 have:=h i (List.mem_range.2 hl)
 have hg:cs.getD i clZ=a:=by rw[List.getD_eq_getElem?_getD,ga]; rfl
 rw[hg] at this
 simp only[dq,ha,Bool.or_eq_true,decide_eq_true_eq,Bool.not_eq_true',decide_true,Bool.true_and,Bool.or_eq_false_iff,decide_eq_false_iff_not] at this
 rcases this with h | h
 ·exact absurd h hi
 ·exact h
theorem Fx (hr:RnOK r) (h:SsOK r n s) (he:jZ n e) (hl:c6 r s e=0):SsOK r n (dM r s e):=by
 have hw:e.who<s.cls.length:=by rw[h.len]; exact he.1
 have gc:s.cls[e.who]? = some (s.cls.getD e.who clZ):=by rw[List.getD_eq_getElem?_getD,List.getElem?_eq_getElem hw]; rfl
 obtain⟨R,hf⟩:=zv (l7 _ 1 (by decide) hl)
 have hcm:=List.mem_of_getElem? gc
 have hco:=h.ok _ hcm
 have hdo:=Y5 hr ⟨he.2.1,he.2.2.1⟩ hco R
 generalize s.cls.getD e.who clZ=c at *
 unfold dM
 have gcc:s.cls.getD e.who clZ=c:=by rw[List.getD_eq_getElem?_getD,gc]; rfl
 rw[gcc]
 refine⟨⟨he.2.2.2.1,he.2.2.2.2⟩,by simpa using h.len,fun x hx=>?_,?_⟩
 ·rcases List.mem_or_eq_of_mem_set hx with hx | rfl
  ·exact (h.ok x hx).later R.r1
  ·exact hdo
 ·intro i j a b hij ga gb ha hb
  have gi:∀ (k:Nat) (x:CCl),(s.cls.set e.who (doC r e c))[k]? = some x→(k=e.who∧x=doC r e c)∨(k≠e.who∧s.cls[k]? = some x):=by
   intro k x hx
   by_cases e1:k=e.who
   ·subst e1
    rw[List.getElem?_set_self hw] at hx
    exact .inl ⟨rfl,(Option.some.inj hx).symm⟩
   ·rw[List.getElem?_set_ne (Ne.symm e1)] at hx
    exact .inr ⟨e1,hx⟩
  rcases gi i a ga with ⟨i1,rfl⟩ | ⟨i1,i2⟩
  ·rcases gi j b gb with ⟨j1,rfl⟩ | ⟨j1,j2⟩
   ·omega
   ·rcases Pg ha R.r7 with ⟨k1,k2⟩ | ⟨k1,k2⟩
    ·have:=Fv (hf k1) j1 j2 hb
     exact⟨this.1,fun e=>this.2 (by rw[← k2]; exact e.symm)⟩
    ·rw[k2]
     exact h.apart i j c b hij (by rw[i1]; exact gc) j2 k1 hb
  ·rcases gi j b gb with ⟨j1,rfl⟩ | ⟨j1,j2⟩
   ·rcases Pg hb R.r7 with ⟨k1,k2⟩ | ⟨k1,k2⟩
    ·have:=Fv (hf k1) i1 i2 ha
     exact⟨this.1,fun e=>this.2 (by rw[← k2]; exact e)⟩
    ·rw[k2]
     exact h.apart i j a c hij i2 (by rw[j1]; exact gc) ha k1
   ·exact h.apart i j a b hij i2 j2 ha hb
theorem RX (hr:RnOK r) (h:SsOK r n s) (he:jZ n e):SsOK r n (oo r s e):=by
 unfold oo
 split
 ·rename_i hl
  exact Fx hr h he hl
 ·exact h
theorem zB (hr:RnOK r):∀ (l:List CEn) (s:CSs),SsOK r n s→(∀ e ∈ l,jZ n e)→SsOK r n (bZ r s l)
 | [],s,h,_=>h
 | e::l,s,h,he=>by
  rw[bZ,List.foldl_cons]
  exact zB hr l _ (RX hr h (he e (by simp))) fun x hx=>he x (by simp[hx])
def clS (r:CRn):CCl:=⟨.waiting,.fine,0,0,0,0,false,false,false,if r.dc=.boulder then List.replicate r.size trZ else [],[]⟩
def bo (r:CRn) (n:Nat):CSs:=⟨0,List.replicate n (clS r)⟩
theorem oS (hr:RnOK r):SsOK r n (bo r n):=by
 refine⟨⟨Int.le_refl _,by show (0:Int)≤86399999; decide⟩,by simp[bo],fun c hc=>?_,fun i j a b _ ga _ ha _=>?_⟩
 ·obtain⟨_,rfl⟩:=List.mem_replicate.1 hc
  have hlim:=hr.lim
  refine⟨fun _=>rfl,⟨Int.le_refl _,Int.le_refl _⟩,⟨Int.le_refl _,by show (0:Int)≤r.limit; omega⟩,?_⟩
  cases hd:r.dc<;>simp only
  ·exact⟨rfl,rfl,by simp[clS,hd],rfl,⟨Int.le_refl _,Int.natCast_nonneg _⟩⟩
  ·refine⟨rfl,rfl,rfl,rfl,rfl,by simp[clS,hd],fun x hx=>?_,fun h=>(by cases h),fun _=>⟨rfl,rfl⟩⟩
   simp only[clS,hd,if_true] at hx
   obtain⟨_,rfl⟩:=List.mem_replicate.1 hx
   simp[trOK,trZ]
  ·have hs:=hr.size
   exact⟨rfl,rfl,rfl,rfl,rfl,by simp[clS,hd],fun x hx=>(by cases hx),Nat.zero_le _,fun h=>(by cases h),fun _=>rfl,fun _=>(by show 0<r.size; omega),fun h=>(by cases h)⟩
 ·have:=List.mem_of_getElem? ga
  obtain⟨_,rfl⟩:=List.mem_replicate.1 this
  cases ha
end LM.GZ
namespace LM.GZ
open Go LM
theorem Qd (s:Str):Elem none (CV.str s):=⟨rfl,rfl⟩
theorem l8 (l:List Str):∀ x ∈ l.map CV.str,Elem none x:=by
 intro x hx
 obtain⟨y,_,rfl⟩:=List.mem_map.1 hx
 exact Qd y
end LM.GZ
namespace LM.GZ
open Go LM
variable {P:Nat→Option SFunc} [Has P]
structure Rs where
 who:Str
 state:Str
 vals:List Int
def Rs.enc (x:Rs):CV:=.agg [.str x.who,.str x.state,.slice (x.vals.map ci)]
def Rs.ptr (x:Rs):CV:=.ptr [.str x.who,.str x.state,.slice (x.vals.map ci)] 0
def Rs.ok (x:Rs):Prop:=x.who.length<9223372036854775807∧x.state.length<9223372036854775807∧(x.vals.length:Int)<9223372036854775807
theorem Rs.elem (x:Rs):Elem (some 3) x.enc:=⟨_,rfl,rfl,by simp[CV.flat]⟩
theorem Rs.elems (l:List Rs):∀ x ∈ l.map Rs.enc,Elem (some 3) x:=by
 intro x hx
 obtain⟨y,_,rfl⟩:=List.mem_map.1 hx
 exact y.elem
def isS (x:Rs):Bool:=decide (x.state=[])
end LM.GZ
namespace LM.GZ
open Go LM
variable {P:Nat→Option SFunc} [Has P]
def farI (n:Int):Bool:=decide (n < -999999999) || decide (n > 999999999)
def statesL:List Str:=[[],[100,110,115],[100,110,102],[100,115,113]]
def stateOk (s:Str):Bool:=statesL.any (Str.is s)
end LM.GZ
namespace LM.GZ
open Go LM
variable {P:Nat→Option SFunc} [Has P]
def oZ (pre:List Rs):Int:=match pre.find? isS with
 | some y=>y.vals.length
 | none=>-1
theorem KV (pre:List Rs) (x:Rs):oZ (pre++[x])=if oZ pre<0∧isS x=true then (x.vals.length:Int) else oZ pre:=by
 unfold oZ
 rw[List.find?_append]
 cases h:pre.find? isS with
 | some y=>simp; omega
 | none=>cases h2:isS x<;>simp[h2]
def Rs.short (x:Rs):Bool:=decide (x.who.length≤40) && decide (x.state.length≤20) && decide (x.vals.length≤10)
end LM.GZ
namespace LM.GZ
open Go LM
variable {P:Nat→Option SFunc} [Has P]
def cA {α:Type} (enc:α→CV) (xs:List α):List LV:=xs.map fun x=>LV.c (enc x)
theorem nc {α:Type} (enc:α→CV) (xs:List α):(cA enc xs).length=xs.length:=by simp[cA]
def l6 (P:Nat→Option SFunc) {α:Type} (enc:α→CV) (f:Nat) (B:List CV) (c:α→α→Int):Prop :=
 ∀ (pos:Option Nat) (q:Bool) (x y:α) (h:Heap),aC P (af P) pos q f (.c (enc x)::.c (enc y)::B.map .c) h=some (.c (ci (c x y)),h)
def CellOk {α:Type} (enc:α→CV):Prop:=∀ x,Elem none (enc x)
theorem CellOk.cells {α:Type} {enc:α→CV} (h:CellOk enc) (x:α):CV.cells (enc x)=[enc x]:=(h x).1
theorem CellOk.flat {α:Type} {enc:α→CV} (h:CellOk enc) (x:α):aT [LV.c (enc x)]=true:=by have:=(h x).2; simpa[aT] using this
def ltC {α:Type} (c:α→α→Int) (x y:α):Bool:=decide (c x y<0)
variable {α:Type} {enc:α→CV} {f:Nat} {B:List CV} {c:α→α→Int} {H:Heap} {b g:Nat} {cp:Option Nat}
theorem jC (X:LB):List.take H.length (H.set b X)=H.set b X:=List.take_of_length_le (by simp)
theorem Ur (hE:CellOk enc) (hC:l6 P enc f B c) (hb:b<H.length) (hg:g≠0) (A:List α) (a bb i:Int) (ha:a=A.length) (n:Nat) (hn:n<9223372036854775807):∀ (L:List α) (x:α) (Q:List α),n=A.length+L.length+1+Q.length →
  ac P (af P) ul ⟨[.slice b g 0 n none cp,.c (ci a),.c (ci bb),.c (.func f [] B),.c (ci i),.c (ci (A.length+L.length))],H.set b (.cells g (cA enc (A++L.reverse++x::Q)) 0)⟩ =
   some (.exit 2,⟨[.slice b g 0 n none cp,.c (ci a),.c (ci bb),.c (.func f [] B),.c (ci i)],H.set b (.cells g (cA enc (A++cZ (ltC c) x L Q)) 0)⟩):=by
 subst ha
 intro L
 induction L with
 | nil =>
  intro x Q h
  rw[Ek]
  simp[iz,cZ]
 | cons y L ih =>
  intro x Q h
  have ih:=ih x (y::Q) (by simp at h ⊢; omega)
  simp at h
  have hlt:(A.length:Int)<A.length+(L.length+1):=by omega
  have hw:IntKind.i64.wrap ((A.length:Int)+(L.length+1)-1)=A.length+L.length:=by
   rw[show (A.length:Int)+(L.length+1)-1=A.length+L.length from by omega]; exact am (by omega) (by omega)
  have t1:((A.length:Int)+(L.length+1)).toNat=A.length+(L.length+1):=by omega
  have t2:((A.length:Int)+L.length).toNat=A.length+L.length:=by omega
  have i1:(A.length:Int)+(L.length+1)<n:=by omega
  have i2:(A.length:Int)+L.length<n:=by omega
  have j1:0≤(A.length:Int)+(L.length+1):=by omega
  have j2:0≤(A.length:Int)+L.length:=by omega
  have e:A++(y::L).reverse++x::Q=A++(L.reverse++y::x::Q):=by simp
  have g1:(cA enc (A++(L.reverse++y::x::Q)))[A.length+L.length]? = some (.c (enc y)):=by
   unfold cA; rw[List.getElem?_map,List.getElem?_append_right (by omega),List.getElem?_append_right (by simp)]; simp
  have g2:(cA enc (A++(L.reverse++y::x::Q)))[A.length+(L.length+1)]? = some (.c (enc x)):=by
   unfold cA; rw[List.getElem?_map,List.getElem?_append_right (by omega),List.getElem?_append_right (by simp),List.length_reverse,show A.length+(L.length+1)-A.length-L.length=1 from by omega]; simp
  have gs:((cA enc (A++(L.reverse++y::x::Q))).set (A.length+(L.length+1)) (.c (enc y))).set (A.length+L.length) (.c (enc x))=cA enc (A++(L.reverse++x::y::Q)):=by
   have q:cA enc (A++(L.reverse++y::x::Q))=(cA enc A++cA enc L.reverse)++.c (enc y)::.c (enc x)::cA enc Q:=by simp[cA]
   have q2:cA enc (A++(L.reverse++x::y::Q))=(cA enc A++cA enc L.reverse)++.c (enc x)::.c (enc y)::cA enc Q:=by simp[cA]
   have ql:(cA enc A++cA enc L.reverse).length=A.length+L.length:=by simp[nc]
   rw[q,q2,List.set_append_right _ _ (by omega),ql,show A.length+(L.length+1)-(A.length+L.length)=1 from by omega,List.set_cons_succ,List.set_cons_zero,List.set_append_right _ _ (by omega),ql,Nat.sub_self,List.set_cons_zero]
  obtain⟨_,g1⟩:=List.getElem?_eq_some_iff.1 g1
  obtain⟨_,g2⟩:=List.getElem?_eq_some_iff.1 g2
  have k1:A.length+(L.length+1)+1≤A.length+(L.length+(Q.length+1+1)):=by omega
  have k2:A.length+L.length+1≤A.length+(L.length+(Q.length+1+1)):=by omega
  have hc:=fun pos q h=>hC pos q x y h
  have m1:=hE.cells
  simp only[CV.cells] at m1
  have m2:=hE.flat
  rw[e]
  rw[Ek]
  simp only[cZ]
  by_cases hk:c x y<0
  ·have hl:ltC c x y=true:=decide_eq_true hk
   have ih':=ih
   simp at ih
   simp[iz,hb,hlt,hw,t1,t2,i1,i2,j1,j2,g1,g2,gs,hc,hk,hl,m1,m2,jC,nc,k1,k2,ih]
  ·have hl:ltC c x y=false:=decide_eq_false hk
   simp[iz,hb,hlt,hw,t1,t2,i1,i2,j1,j2,g1,g2,hc,hk,hl,jC,nc]
theorem TI (hE:CellOk enc) (hC:l6 P enc f B c) (hb:b<H.length) (hg:g≠0) (A T:List α) (n:Nat) (hn:n<9223372036854775807) (bb:Int):∀ (U S:List α),n=A.length+S.length+U.length+T.length→bb=A.length+S.length+U.length →
  ac P (af P) n9 ⟨[.slice b g 0 n none cp,.c (ci A.length),.c (ci bb),.c (.func f [] B),.c (ci (A.length+S.length))],H.set b (.cells g (cA enc (A++(S++(U++T)))) 0)⟩ =
   some (.exit 0,⟨[],H.set b (.cells g (cA enc (A++(aR (ltC c) S U++T))) 0)⟩):=by
 intro U
 induction U with
 | nil =>
  intro S h1 h2
  have hlt:¬ (A.length:Int)+S.length<bb:=by simp at h2; omega
  rw[sO]
  simp[ir,hlt,aR]
 | cons x U ih =>
  intro S h1 h2
  have ih:=ih (ee (ltC c) x S) (by rw[iJ]; simp at h1 ⊢; omega) (by rw[iJ]; simp at h2 ⊢; omega)
  have hin:=Ur (P:=P) (cp:=cp) hE hC hb hg A A.length bb (A.length+S.length) rfl n hn S.reverse x (U++T) (by simp at h1 ⊢; omega)
  have e:cZ (ltC c) x S.reverse (U++T)=ee (ltC c) x S++(U++T):=oL x S.reverse [] (U++T)
  rw[e] at hin
  rw[iJ] at ih
  simp at hin ih h1 h2
  have hlt:(A.length:Int)+S.length<bb:=by omega
  have hw:IntKind.i64.wrap ((A.length:Int)+S.length+1)=(A.length:Int)+(S.length+1):=by
   rw[Int.add_assoc]; exact am (by omega) (by omega)
  rw[sO]
  simp only[aR]
  simp[ir,hlt,hin,hw,hb,jC,ih]
theorem abh (hE:CellOk enc) (hC:l6 P enc f B c) (hb:b<H.length) (hg:g≠0) (A U T:List α) (n:Nat) (hn:n<9223372036854775807) (h:n=A.length+U.length+T.length) :
  sfn P 189 [.slice b g 0 n none cp,.c (ci A.length),.c (ci (A.length+U.length)),.c (.func f [] B)] (H.set b (.cells g (cA enc (A++(U++T))) 0))=some (.c (.tuple []),H.set b (.cells g (cA enc (A++(aR (ltC c) [] U++T))) 0)):=by
 have hw:IntKind.i64.wrap ((A.length:Int)+1)=(A.length:Int)+1:=am (by omega) (by omega)
 rw[abM]
 cases U with
 | nil =>
  have hlt:¬ (A.length:Int)+1<A.length:=by omega
  have hL:ac P (af P) n9 ⟨[.slice b g 0 n none cp,.c (ci A.length),.c (ci A.length),.c (.func f [] B),.c (ci ((A.length:Int)+1))],H.set b (.cells g (cA enc (A++T)) 0)⟩=some (.exit 0,⟨[],H.set b (.cells g (cA enc (A++T)) 0)⟩):=by
   rw[sO]
   simp[ir,hlt]
  simp[GO,hw,hL,aR]
 | cons x U =>
  have hL:=TI (P:=P) (cp:=cp) hE hC hb hg A T n hn (A.length+(U.length+1)) U [x] (by simp at h ⊢; omega) (by simp; omega)
  have e:ee (ltC c) x []=[x]:=rfl
  simp at hL
  simp[GO,hw,hL,aR,e]
end LM.GZ
namespace LM.GZ
open Go LM
variable {P:Nat→Option SFunc} [Has P]
def tG (a b:Int):Int:=if a<b then -1 else if b<a then 1 else 0
theorem Jy (a b:Int):tG a b=0↔a=b:=by unfold tG; (repeat' split)<;>omega
def dr:List Int→List Int→Int
 | [],[]=>0
 | [],_::_=>-1
 | _::_,[]=>1
 | a::x,b::y=>if a=b then dr x y else tG a b
def OZ (x y:Rs):Int:=dr y.vals x.vals
end LM.GZ
namespace LM.GZ
open Go LM
variable {P:Nat→Option SFunc} [Has P]
def t6 (quota:Int):Int→Int→Option Rs→List Rs→List Str
 | _,_,_,[]=>[]
 | i,rank,prev,x::r =>
  let rk:=match prev with
   | some y=>if x.vals=y.vals then rank else i+1
   | none=>i+1
  (if rk≤quota then [x.who] else [])++t6 quota (i+1) rk (some x) r
end LM.GZ
namespace LM.GZ
open Go LM
variable {P:Nat→Option SFunc} [Has P]
def lQ (l:List Rs) (quota:Int):List Str:=t6 quota 0 0 none (aR (ltC OZ) [] (l.filter isS))
end LM.GZ
namespace LM.GZ
open Go LM
variable {P:Nat→Option SFunc} [Has P]
def inW (out:List Str) (x:Rs):Bool:=out.any (Str.is x.who)
def vI (l:List Rs) (out:List Str):List Rs:=l.filter (fun x=>!inW out x)
end LM.GZ
namespace LM.GZ
open Go LM
variable {P:Nat→Option SFunc} [Has P]
theorem uZ:∀ a b:List Int,dr a b=0↔a=b
 | [],[]=>by simp[dr]
 | [],b::y=>by simp[dr]
 | a::x,[]=>by simp[dr]
 | a::x,b::y=>by
  have ih:=uZ x y
  simp only[dr]
  by_cases h:a=b
  ·subst h; simp[ih]
  ·rw[if_neg h]
   have:=Jy a b
   simp[h,this]
theorem mV:∀ a b:List Int,dr a b<0↔0<dr b a
 | [],[]=>by simp[dr]
 | [],b::y=>by simp[dr]
 | a::x,[]=>by simp[dr]
 | a::x,b::y=>by
  have ih:=mV x y
  simp only[dr]
  by_cases h:a=b
  ·subst h; simp[ih]
  ·have h' : ¬ b=a:=fun q=>h q.symm
   rw[if_neg h,if_neg h']
   unfold tG
   (repeat' split)<;>omega
theorem ry:∀ a b c:List Int,dr a c<0→dr a b<0∨dr b c<0
 | [],[],[],h=>by simp[dr] at h
 | [],[],c::z,_=>.inr (by simp[dr])
 | [],b::y,_,_=>.inl (by simp[dr])
 | a::x,_,[],h=>by simp[dr] at h
 | a::x,[],c::z,_=>.inr (by simp[dr])
 | a::x,b::y,c::z,h=>by
  have ih:=ry x y z
  simp only[dr] at h ⊢
  by_cases h1:a=b
  ·subst h1
   by_cases h2:a=c
   ·subst h2
    simp at h ⊢
    exact ih h
   ·rw[if_neg h2] at h ⊢
    simp
    exact .inr h
  ·by_cases h2:b=c
   ·subst h2
    rw[if_neg h1] at h ⊢
    exact .inl h
   ·rw[if_neg h1,if_neg h2]
    by_cases h3:a=c
    ·subst h3
     unfold tG
     (repeat' split)<;>omega
    ·rw[if_neg h3] at h
     unfold tG at h ⊢
     (repeat' split at h)<;>(repeat' split)<;>omega
def btr (x y:Rs):Bool:=decide (dr y.vals x.vals<0)
theorem Wl:ltC OZ=btr:=rfl
theorem swoR:Swo btr:=by
 refine⟨?_,?_⟩
 ·intro x y h
  unfold btr at h ⊢
  simp only[decide_eq_true_eq,decide_eq_false_iff_not] at h ⊢
  have:=(mV y.vals x.vals).1 h
  omega
 ·intro x y z h
  unfold btr at h ⊢
  simp only[decide_eq_true_eq] at h ⊢
  rcases ry _ y.vals _ h with q | q
  ·exact .inr q
  ·exact .inl q
def b9 (S:List Rs) (x:Rs):Int:=((S.filter (fun y=>btr y x)).length:Nat)
theorem IK {x y:Rs} (h:¬ x.vals=y.vals) (h2:btr x y=false):btr y x=true:=by
 unfold btr at h2 ⊢
 simp only[decide_eq_true_eq,decide_eq_false_iff_not] at h2 ⊢
 have h3:=mV x.vals y.vals
 have h4:=uZ y.vals x.vals
 have h5:¬ dr y.vals x.vals=0:=fun q=>h (h4.1 q).symm
 omega
theorem z6 (quota:Int) (S:List Rs) (hS:Srt btr S):∀ (r pre:List Rs) (rank:Int),S=pre++r→(∀ y,pre.getLast? = some y→rank=b9 S y+1) →
  t6 quota pre.length rank pre.getLast? r=(r.filter (fun x=>decide (b9 S x<quota))).map (·.who)
 | [],pre,rank,_,_=>by simp[t6]
 | x::r,pre,rank,hs,hr=>by
  have hrk:(match pre.getLast? with
   | some y=>if x.vals=y.vals then rank else (pre.length:Int)+1
   | none=>(pre.length:Int)+1)=b9 S x+1:=by
   have hall:(∀ z ∈ pre,btr z x=true)→(pre.length:Int)=b9 S x:=by
    intro hz
    unfold b9
    have hs2:=hS
    unfold Srt at hs2
    rw[hs] at hs2
    obtain⟨p1,p2,p3⟩:=List.pairwise_append.1 hs2
    obtain⟨p4,p5⟩:=List.pairwise_cons.1 p2
    rw[hs,List.filter_append]
    have e1:pre.filter (fun y=>btr y x)=pre:=List.filter_eq_self.2 hz
    have e2:(x::r).filter (fun y=>btr y x)=[]:=by
     rw[List.filter_eq_nil_iff]
     intro y hy
     rcases List.mem_cons.1 hy with rfl | hy
     ·simp[swoR.irr y]
     ·simp[p4 y hy]
    rw[e1,e2]
    simp
   rcases List.eq_nil_or_concat pre with hpre | ⟨pre',y,hpre⟩
   ·subst hpre
    have:=hall (by simp)
    simp at this ⊢
    omega
   ·rw[List.concat_eq_append] at hpre
    have hlast:pre.getLast? = some y:=by rw[hpre]; simp
    rw[hlast]
    simp only
    by_cases hv:x.vals=y.vals
    ·rw[if_pos hv,hr y hlast]
     have:b9 S x=b9 S y:=by unfold b9 btr; rw[hv]
     rw[this]
    ·rw[if_neg hv]
     have hs2:=hS
     unfold Srt at hs2
     rw[hs] at hs2
     obtain⟨p1,p2,p3⟩:=List.pairwise_append.1 hs2
     have hyx:btr y x=true:=IK hv (p3 y (by rw[hpre]; simp) x (by simp))
     rw[← hall (fun z hz=>by
      rw[hpre] at hz
      rcases List.mem_append.1 hz with q | q
      ·rw[hpre] at p1
       have:=(List.pairwise_append.1 p1).2.2 z q y (by simp)
       exact swoR.lel this hyx
      ·simp at q; rw[q]; exact hyx)]
  have ih:=z6 quota S hS r (pre++[x]) (b9 S x+1) (by simp[hs]) (fun y hy=>by simp at hy; rw[hy])
  simp at ih
  have hF:t6 quota pre.length rank pre.getLast? (x::r)=(if b9 S x+1≤quota then [x.who] else [])++t6 quota (pre.length+1) (b9 S x+1) (some x) r:=by
   rw[← hrk]
   cases pre.getLast?<;>rfl
  rw[hF,ih]
  by_cases hq:b9 S x+1≤quota
  ·have:b9 S x<quota:=by omega
   simp[hq,this]
  ·have:¬ b9 S x<quota:=by omega
   simp[hq,this]
theorem Mw (l:List Rs) (quota:Int):lQ l quota=((aR btr [] (l.filter isS)).filter (fun x=>decide (b9 (aR btr [] (l.filter isS)) x<quota))).map (·.who):=by
 unfold lQ
 rw[Wl]
 exact z6 quota _ (mJ swoR [] _ (by simp[Srt])) _ [] 0 rfl (by simp)
end LM.GZ
namespace LM.GZ
open Go LM
variable {P:Nat→Option SFunc} [Has P]
def Like (l:List Rs):Prop:=∀ x ∈ l,∀ y ∈ l,isS x=true→isS y=true→x.vals.length=y.vals.length
end LM.GZ
namespace LM.GZ
open Go LM
structure RG (l:List Rs):Prop where
 one:∀ x ∈ l,isName x.who=true∧stateOk x.state=true∧(!isS x && decide (0<x.vals.length))=false∧decide (8<x.vals.length)=false∧x.vals.any farI=false
 uniq:l.Pairwise fun x y=>x.who≠y.who
 like:Like l
theorem RG.filter {l:List Rs} (p:Rs→Bool) (h:RG l):RG (l.filter p) :=
 ⟨fun x hx=>h.one x (List.mem_filter.1 hx).1,h.uniq.sublist List.filter_sublist,fun x hx y hy=>h.like x (List.mem_filter.1 hx).1 y (List.mem_filter.1 hy).1⟩
theorem wF:∀ {l:List Rs},l.Pairwise (fun x y=>x.who≠y.who)→∀ {x y:Rs},x ∈ l→y ∈ l→x.who=y.who→x=y
 | [],_,x,y,hx,_,_=>by cases hx
 | a::l,h,x,y,hx,hy,e=>by
  obtain⟨h1,h2⟩:=List.pairwise_cons.1 h
  rcases List.mem_cons.1 hx with rfl | kx
  ·rcases List.mem_cons.1 hy with rfl | ky
   ·rfl
   ·exact absurd e (h1 y ky)
  ·rcases List.mem_cons.1 hy with rfl | ky
   ·exact absurd e.symm (h1 x kx)
   ·exact wF h2 kx ky e
section
variable {α:Type} {lt:α→α→Bool}
theorem B3 (h:Swo lt) (p:α→Bool) (x:α) {S:List α} (hs:Srt lt S):(ee lt x S).filter p=if p x then ee lt x (S.filter p) else S.filter p:=by
 obtain⟨A,B,rfl,e2,e3,e4⟩:=rd h x hs
 rw[e2]
 cases q:p x
 ·simp[q]
 ·rw[List.filter_append,List.filter_append,List.filter_cons,q]
  simp only[if_true]
  rw[tY (fun y hy=>e3 y (List.mem_filter.1 hy).1) (fun y hy=>e4 y (List.mem_filter.1 hy).1)]
theorem m9 (h:Swo lt) (p:α→Bool):∀ (S U:List α),Srt lt S→aR lt (S.filter p) (U.filter p)=(aR lt S U).filter p
 | S,[],_=>rfl
 | S,x::U,hs=>by
  have ih:=m9 h p (ee lt x S) U (xb h x hs)
  have hi:=B3 h p x hs
  rw[aR,← ih,hi]
  cases q:p x
  ·simp[q]
  ·simp[q,aR]
theorem dO {a b:α→Bool}:∀ (l:List α),(∀ x ∈ l,a x=true→b x=true)→(l.filter a).length≤(l.filter b).length
 | [],_=>Nat.le_refl _
 | x::l,h=>by
  have ih:=dO l (fun y hy=>h y (by simp[hy]))
  have hx:=h x (by simp)
  rw[List.filter_cons,List.filter_cons]
  cases q1:a x
  ·cases b x<;>simp<;>omega
  ·rw[hx q1]; simp; exact ih
end
def FW (l:List Rs) (q:Int):List Rs:=(aR btr [] (l.filter isS)).filter (fun x=>decide (b9 (aR btr [] (l.filter isS)) x<q))
theorem jA (l:List Rs) (q:Int):lQ l q=(FW l q).map (·.who):=Mw l q
theorem AG {l:List Rs} {q:Int} {x:Rs}:x ∈ FW l q↔(x ∈ l∧isS x=true)∧b9 (aR btr [] (l.filter isS)) x<q:=by
 unfold FW
 rw[List.mem_filter,(gT (lt:=btr) [] (l.filter isS)).mem_iff,List.nil_append,List.mem_filter,decide_eq_true_eq]
theorem u3 (l:List Rs) (p:Rs→Bool):aR btr [] ((l.filter p).filter isS)=(aR btr [] (l.filter isS)).filter p:=by
 have:=m9 swoR p [] (l.filter isS) (by simp[Srt])
 rw[← this]
 congr 1
 rw[List.filter_filter,List.filter_filter]
 congr 1
 funext x
 rw[Bool.and_comm]
theorem RM {l:List Rs} (hl:RG l) (q:Int) (p:Rs→Bool) (hp:∀ x ∈ l,p x=false→x ∉ FW l q) (h1:∀ x ∈ l,∀ y ∈ l,p x=false→p y=false→x=y):FW (l.filter p) q=FW l q:=by
 have hm:=fun x=>AG (l:=l) (q:=q) (x:=x)
 have hmem:∀ x,x ∈ aR btr [] (l.filter isS)→x ∈ l∧isS x=true:=fun x hx=>by
  have:=(gT (lt:=btr) [] (l.filter isS)).mem_iff.1 hx
  simpa using this
 unfold FW
 rw[u3]
 generalize aR btr [] (l.filter isS)=T at *
 rw[List.filter_filter]
 apply List.filter_congr
 intro z hz
 have hzl:=hmem z hz
 cases hpz:p z
 ·have:=hp z hzl.1 hpz
  rw[hm] at this
  have h2:¬ b9 T z<q:=fun c=>this ⟨hzl,c⟩
  simp[h2]
 ·simp only[Bool.and_true]
  apply decide_eq_decide.2
  have hle:b9 (T.filter p) z≤b9 T z:=by
   unfold b9
   rw[List.filter_filter]
   have:=dO (a:=fun a=>btr a z && p a) (b:=fun y=>btr y z) T (fun x _ h=>by simp at h; exact h.1)
   omega
  constructor
  ·intro hlt
   refine Int.not_le.1 (fun hge=>?_)
   suffices q≤b9 (T.filter p) z by omega
   by_cases hr:∃ r ∈ T,p r=false∧btr r z=true
   ·obtain⟨r,hrT,hpr,hrz⟩:=hr
    have hrl:=hmem r hrT
    have:=hp r hrl.1 hpr
    rw[hm] at this
    have h2:¬ b9 T r<q:=fun c=>this ⟨hrl,c⟩
    have h3:b9 T r≤b9 (T.filter p) z:=by
     unfold b9
     rw[List.filter_filter]
     have:=dO (a:=fun y=>btr y r) (b:=fun a=>btr a z && p a) T (fun y hy h=>by
      have e1:btr y z=true:=swoR.lel (swoR.asym _ _ h) hrz
      cases hpy:p y
      ·have:=h1 y (hmem y hy).1 r hrl.1 hpy hpr
       subst this
       rw[swoR.irr] at h
       cases h
      ·simp[e1])
     omega
    omega
   ·have h3:b9 T z≤b9 (T.filter p) z:=by
     unfold b9
     rw[List.filter_filter]
     have:=dO (a:=fun y=>btr y z) (b:=fun a=>btr a z && p a) T (fun y hy h=>by
      cases hpy:p y
      ·exact absurd ⟨y,hy,hpy,h⟩ hr
      ·simp[h])
     omega
    omega
  ·intro h; omega
theorem RQ {l:List Rs} (q:Int) (p:Rs→Bool) {x:Rs} (hx:x ∈ FW l q) (hpx:p x=true):x ∈ FW (l.filter p) q:=by
 rw[AG] at hx ⊢
 refine⟨⟨List.mem_filter.2 ⟨hx.1.1,hpx⟩,hx.1.2⟩,?_⟩
 rw[u3]
 have:b9 ((aR btr [] (l.filter isS)).filter p) x≤b9 (aR btr [] (l.filter isS)) x:=by
  unfold b9
  rw[List.filter_filter]
  have:=dO (a:=fun a=>btr a x && p a) (b:=fun y=>btr y x) (aR btr [] (l.filter isS)) (fun y _ h=>by simp at h; exact h.1)
  omega
 omega
theorem om (s:Str) (x:Rs):inW [s] x=decide (x.who=s):=by
 unfold inW
 simp only[List.any_cons,List.any_nil,Bool.or_false]
 exact Str.is_eq' _ _
theorem gone (l:List Rs) (q:Int) (s:Str):(lQ (vI l [s]) q).any (Str.is s)=false:=by
 rw[List.any_eq_false,jA]
 intro n hn
 obtain⟨x,hx,rfl⟩:=List.mem_map.1 hn
 have:=(AG.1 hx).1.1
 have:=(List.mem_filter.1 this).2
 rw[om] at this
 rw[Str.is_eq]
 simpa using this
theorem kept (l:List Rs) (q:Int) (s:Str):∀ n ∈ lQ l q,n≠s→(lQ (vI l [s]) q).any (Str.is n)=true:=by
 intro n hn hs
 rw[jA] at hn
 obtain⟨x,hx,rfl⟩:=List.mem_map.1 hn
 rw[List.any_eq_true]
 refine⟨x.who,?_,by simp[Str.is]⟩
 rw[jA]
 exact List.mem_map.2 ⟨x,RQ q _ hx (by rw[om]; simp at hs; simp[hs]),rfl⟩
theorem same {l:List Rs} (hl:RG l) (q:Int) (s:Str) (h:(lQ l q).any (Str.is s)=false):lQ (vI l [s]) q=lQ l q:=by
 rw[jA,jA]
 unfold vI
 rw[RM hl]
 ·intro x hx hp hf
  rw[om] at hp
  simp at hp
  rw[List.any_eq_false] at h
  have:=h x.who (by rw[jA]; exact List.mem_map.2 ⟨x,hf,rfl⟩)
  rw[Str.is_eq] at this
  simp[hp] at this
 ·intro x hx y hy px py
  rw[om] at px py
  simp at px py
  exact wF hl.uniq hx hy (by rw[px,py])
end LM.GZ
namespace LM.GZ
open Go LM
variable {P:Nat→Option SFunc} [Has P]
def Kw (x:Rs):Int:=aq [av (!isName x.who) 8,av (!stateOk x.state) 13,av (!isS x && decide (0<x.vals.length)) 1,av (decide (8<x.vals.length)) 5,av (x.vals.any farI) 3]
end LM.GZ
namespace LM.GZ
open Go LM
variable {P:Nat→Option SFunc} [Has P]
def dcS:CDc→Str
 | .lead=>[108,101,97,100]
 | .boulder=>[98,111,117,108,100,101,114]
 | .speed=>[115,112,101,101,100]
def phS:CPh→Str
 | .waiting=>[119,97,105,116,105,110,103]
 | .on=>[111,110]
 | .done=>[100,111,110,101]
def stS:CSt→Str
 | .fine=>[]
 | .dns=>[100,110,115]
 | .dnf=>[100,110,102]
 | .dsq=>[100,115,113]
def kdS:CKd→Str
 | .start=>[115,116,97,114,116]
 | .hold=>[104,111,108,100]
 | .plus=>[112,108,117,115]
 | .attempt=>[97,116,116,101,109,112,116]
 | .zone=>[122,111,110,101]
 | .top=>[116,111,112]
 | .fall=>[102,97,108,108]
 | .leave=>[108,101,97,118,101]
 | .out=>[111,117,116]
 | .finish=>[102,105,110,105,115,104]
 | .wrong=>[102,97,108,115,101]
 | .incident=>[105,110,99,105,100,101,110,116]
 | .absent=>[97,98,115,101,110,116]
 | .bar=>[98,97,114]
def enB (e:CEn):LB:=.cells 0 [.c (ci e.who),.c (.str (kdS e.kind)),.c (ci e.val),.c (ci e.time)] 0
def trL (t:CTr):List LV:=[.c (ci t.att),.c (ci t.zone),.c (ci t.top),.c (.bool t.vis)]
def clL (c:CCl) (v:LV × LV):List LV:=[.c (.str (phS c.ph)),.c (.str (stS c.st)),.c (ci c.place),.c (ci c.began),.c (ci c.used),.c (ci c.hold),.c (.bool c.plus),.c (.bool c.top),.c (.bool c.op),v.1,v.2]
theorem ltG {h:Heap} {i:Nat} {B:LB} (e:h[i]? = some B):i<h.length:=(List.getElem?_eq_some_iff.1 e).1
structure RLoc where
 bp:Nat
 pv:Nat
 ev:Nat
 cv:Nat
 kv:Nat
 iv:Nat
 lv:Nat
 tv:Nat
 bc:Nat
 gc:Nat
def plB (r:CRn) (names:List Str) (bc gc n:Nat) (t:Int):LB:=.cells 0 [.c (.str (dcS r.dc)),.c (.slice (names.map CV.str)),.c (ci r.size),.c (ci r.limit),.c (ci t),.slice bc gc 0 n (some 11) none] 0
def kdD:CKd→List CDc
 | .start=>[.lead,.boulder,.speed]
 | .hold=>[.lead]
 | .plus=>[.lead]
 | .attempt=>[.boulder]
 | .zone=>[.boulder]
 | .top=>[.lead,.boulder]
 | .fall=>[.lead,.boulder,.speed]
 | .leave=>[.boulder]
 | .out=>[.lead,.boulder]
 | .finish=>[.speed]
 | .wrong=>[.speed]
 | .incident=>[.lead,.boulder,.speed]
 | .absent=>[.lead,.boulder,.speed]
 | .bar=>[.lead,.boulder,.speed]
def TrV (h:Heap) (l:List CTr) (v:LV):Prop:=(l=[]∧v=.nil)∨(l≠[]∧∃ b g,v=.slice b g 0 l.length (some 4) none∧h[b]? = some (.cells g (l.flatMap trL) 0))
def RuV (h:Heap) (l:List Int) (v:LV):Prop:=(l=[]∧v=.nil)∨(l≠[]∧∃ b g,v=.slice b g 0 l.length none none∧h[b]? = some (.cells g (cI l) 0))
structure HpL (r:CRn) (names:List Str) (s:CSs) (e:CEn) (c:CCl) (v:LV × LV) (vs:List (LV × LV)) (L:RLoc) (h:Heap):Prop where
 gpl:h[L.bp]? = some (plB r names L.bc L.gc s.cls.length s.time)
 gp:h[L.pv]? = some (.cells 0 [.ptr L.bp 0 0] 0)
 ge:h[L.ev]? = some (enB e)
 gc:h[L.cv]? = some (.cells 0 (clL c v) 0)
 gk:∃ X Y,h[L.kv]? = some (.cells 0 [.c (.slice ((kdD e.kind).map fun d=>.str (dcS d))),X,Y] 0)
 gi:h[L.iv]? = some (.cells 0 [.func 215 [] [.ptr L.ev 0 0]] 0)
 gl:h[L.lv]? = some (.cells 0 [.c (ci (c.began+r.limit))] 0)
 gt:h[L.tv]? = some (.cells 0 (trL (tNow r c)) 0)
 grow:h[L.bc]? = some (.cells L.gc ((s.cls.zip vs).flatMap fun x=>clL x.1 x.2) 0)
 gtr:TrV h c.tries v.1
 gru:RuV h c.runs v.2
theorem N8 (e:CEn) (h:Heap) (L:List Str) (ev:Nat) (gE:h[ev]? = some (enB e)) (hl:L.length<100):sfn P 215 [.slice h.length 1 0 L.length none (some L.length),.ptr ev 0 0] (h++[.cells 1 (L.map fun s=>.c (.str s)) 0])=some (.c (.bool (L.any (Str.is (kdS e.kind)))),h++[.cells 1 (L.map fun s=>.c (.str s)) 0]):=by
 have q1:=ltG gE
 have q1l:ev<h.length+1:=by omega
 have a1:∀ X:LB,(h++[X])[ev]? = some (enB e):=fun X=>by rw[List.getElem?_append_left q1]; exact gE
 have a1':=fun X=>(List.getElem?_eq_some_iff.1 (a1 X)).2
 have e86:=S86 (P:=P) (kdS e.kind) L (by omega)
 have hc:(L.map fun s=>LV.c (.str s))=cellsOf (L.map CV.str):=by
  induction L with
  | nil=>rfl
  | cons a l ih=>simp only[List.map_cons]; rw[ih (by simp at hl; omega) (S86 (P:=P) (kdS e.kind) l (by simp at hl; omega))]; rfl
 have hf:=lz (b:=h.length) (g:=1) (fz:=0) (e:=none) (ys:=L.map CV.str) (h:=h++[.cells 1 (cellsOf (L.map CV.str)) 0]) (len:=L.length) (by simp) (l8 _) (by simp) (some L.length)
 rw[hc]
 rw[adi]
 simp[Mf,a1,a1',q1l,enB,hf,-cL,-bump,e86,-List.any_eq_true]
 trace_state
end LM.GZ
namespace LM.GZ
open Go LM
variable {P:Nat→Option SFunc} [Has P]
def SameH (n:Nat) (h h' : Heap):Prop:=n≤h'.length∧∀ i,i<n→h'[i]? = h[i]?
theorem SameH.rfl' {n:Nat} {h:Heap} (hn:n≤h.length):SameH n h h:=⟨hn,fun _ _=>rfl⟩
theorem SameH.trans {n:Nat} {h k l:Heap} (h1:SameH n h k) (h2:SameH n k l):SameH n h l:=⟨h2.1,fun i hi=>(h2.2 i hi).trans (h1.2 i hi)⟩
theorem SameH.app {n:Nat} {h k:Heap} (h1:SameH n h k) (X:Heap):SameH n h (k++X):=⟨by have:=h1.1; rw[List.length_append]; omega,fun i hi=>by rw[List.getElem?_append_left (by have:=h1.1; omega)]; exact h1.2 i hi⟩
theorem SameH.less {n m:Nat} {h k:Heap} (h1:SameH n h k) (hm:m≤n):SameH m h k:=⟨Nat.le_trans hm h1.1,fun i hi=>h1.2 i (by omega)⟩
theorem is1 (a k:CKd):Str.is (kdS k) (kdS a)=decide (k=a):=by cases a<;>cases k<;>rfl
theorem fq (a:CKd) (e:CEn) (h:Heap) (ev:Nat) (gE:h[ev]? = some (enB e)):sfn P 215 [.slice h.length 1 0 1 none (some 1),.ptr ev 0 0] (h++[.cells 1 [.c (.str (kdS a))] 0])=some (.c (.bool (decide (e.kind=a))),h++[.cells 1 [.c (.str (kdS a))] 0]):=by
 have:=N8 (P:=P) e h [kdS a] ev gE (by simp)
 rw[List.any_cons,is1,List.any_nil,Bool.or_false] at this
 exact this
theorem VD (a b d:CKd) (e:CEn) (h:Heap) (ev:Nat) (gE:h[ev]? = some (enB e)):sfn P 215 [.slice h.length 1 0 3 none (some 3),.ptr ev 0 0] (h++[.cells 1 [.c (.str (kdS a)),.c (.str (kdS b)),.c (.str (kdS d))] 0])=some (.c (.bool (decide (e.kind=a) || (decide (e.kind=b) || decide (e.kind=d)))),h++[.cells 1 [.c (.str (kdS a)),.c (.str (kdS b)),.c (.str (kdS d))] 0]):=by
 have:=N8 (P:=P) e h [kdS a,kdS b,kdS d] ev gE (by simp)
 rw[List.any_cons,List.any_cons,List.any_cons,is1,is1,is1,List.any_nil,Bool.or_false] at this
 exact this
theorem Xa (a b d f g:CKd) (e:CEn) (h:Heap) (ev:Nat) (gE:h[ev]? = some (enB e)):sfn P 215 [.slice h.length 1 0 5 none (some 5),.ptr ev 0 0] (h++[.cells 1 [.c (.str (kdS a)),.c (.str (kdS b)),.c (.str (kdS d)),.c (.str (kdS f)),.c (.str (kdS g))] 0])=some (.c (.bool (decide (e.kind=a) || (decide (e.kind=b) || (decide (e.kind=d) || (decide (e.kind=f) || decide (e.kind=g)))))),h++[.cells 1 [.c (.str (kdS a)),.c (.str (kdS b)),.c (.str (kdS d)),.c (.str (kdS f)),.c (.str (kdS g))] 0]):=by
 have:=N8 (P:=P) e h [kdS a,kdS b,kdS d,kdS f,kdS g] ev gE (by simp)
 rw[List.any_cons,List.any_cons,List.any_cons,List.any_cons,List.any_cons,is1,is1,is1,is1,is1,List.any_nil,Bool.or_false] at this
 exact this
variable {r:CRn} {names:List Str} {s:CSs} {e:CEn} {c:CCl} {v:LV × LV} {vs:List (LV × LV)} {L:RLoc} {h:Heap}
theorem abJ (H:HpL r names s e c v vs L h):∃ h',SameH h.length h h'∧sfn P 218 [.ptr L.ev 0 0,.ptr L.pv 0 0] h=some (.c (.bool (decide (s.time≤e.time))),h'):=by
 refine⟨h,SameH.rfl' (Nat.le_refl _),?_⟩
 have q1:=ltG H.ge
 have q1':=(List.getElem?_eq_some_iff.1 H.ge).2
 have q2:=ltG H.gp
 have q2':=(List.getElem?_eq_some_iff.1 H.gp).2
 have q3:=ltG H.gpl
 have q3':=(List.getElem?_eq_some_iff.1 H.gpl).2
 rw[ac8]
 simp[MX,H.ge,q1,q1',H.gp,q2,q2',H.gpl,q3,q3',enB,plB]
theorem stE (p q:CSt):(stS p=stS q)=(p=q):=by cases p<;>cases q<;>simp[stS]
theorem abP (H:HpL r names s e c v vs L h):∃ h',SameH h.length h h'∧sfn P 219 [.ptr L.cv 0 0,.ptr L.iv 0 0] h=some (.c (.bool (decide (c.ph≠.done) || (decide (e.kind=.bar) && decide (c.st≠.dsq)))),h'):=by
 have q1:=ltG H.gc
 have q1':=(List.getElem?_eq_some_iff.1 H.gc).2
 have q2:=ltG H.gi
 have q2':=(List.getElem?_eq_some_iff.1 H.gi).2
 have a1:∀ X:LB,(h++[X])[L.cv]? = some (.cells 0 (clL c v) 0):=fun X=>by rw[List.getElem?_append_left q1]; exact H.gc
 have a1':=fun X=>(List.getElem?_eq_some_iff.1 (a1 X)).2
 have l1:L.cv<h.length+1:=by omega
 have e215:=fq (P:=P) .bar e h L.ev H.ge
 simp only[kdS] at e215
 have p1:phS c.ph=[100,111,110,101]↔c.ph=.done:=by cases c.ph<;>simp[phS]
 have p2:stS c.st=[100,115,113]↔c.st=.dsq:=by cases c.st<;>simp[stS]
 rw[aaX]
 by_cases h1:c.ph=.done
 ·by_cases h2:e.kind=.bar
  ·simp only[h2] at e215 ⊢
   refine⟨h++[.cells 1 [.c (.str [98,97,114])] 0],(SameH.rfl' (Nat.le_refl _)).app _,?_⟩
   have hp:phS .done=[100,111,110,101]:=rfl
   have hs:stS .dsq=[100,115,113]:=rfl
   by_cases h3:c.st=.dsq<;>simp[yW,H.gc,q1,q1',H.gi,q2,q2',clL,h1,e215,a1,a1',l1,p2,h3,hp,hs]
  ·refine⟨h++[.cells 1 [.c (.str [98,97,114])] 0],(SameH.rfl' (Nat.le_refl _)).app _,?_⟩
   simp[h2] at e215
   simp[yW,H.gc,q1,q1',H.gi,q2,q2',clL,h1,h2,e215,a1,a1',l1,phS]
 ·refine⟨h,SameH.rfl' (Nat.le_refl _),?_⟩
  have:¬ phS c.ph=[100,111,110,101]:=fun x=>h1 (p1.1 x)
  simp[yW,H.gc,q1,q1',H.gi,q2,q2',clL,this,h1]
theorem PV (k:CKd) (d:CDc):((kdD k).map dcS).any (Str.is (dcS d))=kindIn k d:=by cases k<;>cases d<;>rfl
theorem ade (H:HpL r names s e c v vs L h):∃ h',SameH h.length h h'∧sfn P 220 [.ptr L.kv 0 0,.ptr L.pv 0 0] h=some (.c (.bool (kindIn e.kind r.dc)),h'):=by
 refine⟨h,SameH.rfl' (Nat.le_refl _),?_⟩
 obtain⟨X,Y,gk⟩:=H.gk
 have q1:=ltG gk
 have q1':=(List.getElem?_eq_some_iff.1 gk).2
 have q2:=ltG H.gp
 have q2':=(List.getElem?_eq_some_iff.1 H.gp).2
 have q3:=ltG H.gpl
 have q3':=(List.getElem?_eq_some_iff.1 H.gpl).2
 have hl:((kdD e.kind).map dcS).length≤3:=by cases e.kind<;>simp[kdD]
 have e86:=S86 (P:=P) (dcS r.dc) ((kdD e.kind).map dcS) (by omega)
 rw[PV,List.map_map] at e86
 have he:(CV.str ∘ dcS)=fun d=>CV.str (dcS d):=rfl
 rw[he] at e86
 rw[aaB]
 simp[Mm,gk,q1,q1',H.gp,q2,q2',H.gpl,q3,q3',plB,e86]
theorem aae (H:HpL r names s e c v vs L h):∃ h',SameH h.length h h'∧sfn P 221 [.ptr L.iv 0 0,.ptr L.cv 0 0] h=some (.c (.bool (!decide (e.kind=.start) || decide (c.ph=.waiting))),h'):=by
 have q1:=ltG H.gc
 have q1':=(List.getElem?_eq_some_iff.1 H.gc).2
 have q2:=ltG H.gi
 have q2':=(List.getElem?_eq_some_iff.1 H.gi).2
 have a1:∀ X:LB,(h++[X])[L.cv]? = some (.cells 0 (clL c v) 0):=fun X=>by rw[List.getElem?_append_left q1]; exact H.gc
 have a1':=fun X=>(List.getElem?_eq_some_iff.1 (a1 X)).2
 have l1:L.cv<h.length+1:=by omega
 have e215:=fq (P:=P) .start e h L.ev H.ge
 simp only[kdS] at e215
 have p1:phS c.ph=[119,97,105,116,105,110,103]↔c.ph=.waiting:=by cases c.ph<;>simp[phS]
 rw[acJ]
 refine⟨h++[.cells 1 [.c (.str [115,116,97,114,116])] 0],(SameH.rfl' (Nat.le_refl _)).app _,?_⟩
 by_cases h2:e.kind=.start
 ·simp only[h2] at e215 ⊢
  have hp:phS .waiting=[119,97,105,116,105,110,103]:=rfl
  by_cases h1:c.ph=.waiting<;>simp[G8,H.gc,q1,q1',H.gi,q2,q2',clL,e215,a1,a1',l1,h1,p1,hp]
 ·simp[h2] at e215
  simp[G8,H.gc,q1,q1',H.gi,q2,q2',clL,e215,a1,a1',l1,h2]
theorem abL (H:HpL r names s e c v vs L h):∃ h',SameH h.length h h'∧sfn P 226 [.ptr L.iv 0 0,.ptr L.cv 0 0] h=some (.c (.bool ((decide (e.kind=.start) || (decide (e.kind=.absent) || decide (e.kind=.bar))) || decide (c.ph=.on))),h'):=by
 have q1:=ltG H.gc
 have q1':=(List.getElem?_eq_some_iff.1 H.gc).2
 have q2:=ltG H.gi
 have q2':=(List.getElem?_eq_some_iff.1 H.gi).2
 have a1:∀ X:LB,(h++[X])[L.cv]? = some (.cells 0 (clL c v) 0):=fun X=>by rw[List.getElem?_append_left q1]; exact H.gc
 have a1':=fun X=>(List.getElem?_eq_some_iff.1 (a1 X)).2
 have l1:L.cv<h.length+1:=by omega
 have e215:=VD (P:=P) .start .absent .bar e h L.ev H.ge
 simp only[kdS] at e215
 have p1:phS c.ph=[111,110]↔c.ph=.on:=by cases c.ph<;>simp[phS]
 rw[aaq]
 refine⟨_,(SameH.rfl' (Nat.le_refl _)).app [.cells 1 [.c (.str [115,116,97,114,116]),.c (.str [97,98,115,101,110,116]),.c (.str [98,97,114])] 0],?_⟩
 generalize (decide (e.kind=.start) || (decide (e.kind=.absent) || decide (e.kind=.bar)))=b at *
 cases b
 ·have hp:phS .on=[111,110]:=rfl
  by_cases h1:c.ph=.on<;>simp[Gg,H.gc,q1,q1',H.gi,q2,q2',clL,e215,a1,a1',l1,h1,p1,hp]
 ·simp[Gg,H.gc,q1,q1',H.gi,q2,q2',clL,e215,a1,a1',l1]
theorem abv (H:HpL r names s e c v vs L h):∃ h',SameH h.length h h'∧sfn P 227 [.ptr L.iv 0 0,.ptr L.ev 0 0,.ptr L.lv 0 0] h=some (.c (.bool (!(decide (e.kind=.hold) || (decide (e.kind=.plus) || (decide (e.kind=.attempt) || (decide (e.kind=.zone) || decide (e.kind=.top))))) || decide (e.time≤c.began+r.limit))),h'):=by
 have q1:=ltG H.ge
 have q3:=ltG H.gl
 have q2:=ltG H.gi
 have q2':=(List.getElem?_eq_some_iff.1 H.gi).2
 have a1:∀ X:LB,(h++[X])[L.ev]? = some (enB e):=fun X=>by rw[List.getElem?_append_left q1]; exact H.ge
 have a1':=fun X=>(List.getElem?_eq_some_iff.1 (a1 X)).2
 have l1:L.ev<h.length+1:=by omega
 have a3:∀ X:LB,(h++[X])[L.lv]? = some (.cells 0 [.c (ci (c.began+r.limit))] 0):=fun X=>by rw[List.getElem?_append_left q3]; exact H.gl
 have a3':=fun X=>(List.getElem?_eq_some_iff.1 (a3 X)).2
 have l3:L.lv<h.length+1:=by omega
 have e215:=Xa (P:=P) .hold .plus .attempt .zone .top e h L.ev H.ge
 simp only[kdS] at e215
 rw[abY]
 refine⟨_,(SameH.rfl' (Nat.le_refl _)).app [.cells 1 [.c (.str [104,111,108,100]),.c (.str [112,108,117,115]),.c (.str [97,116,116,101,109,112,116]),.c (.str [122,111,110,101]),.c (.str [116,111,112])] 0],?_⟩
 generalize (decide (e.kind=.hold) || (decide (e.kind=.plus) || (decide (e.kind=.attempt) || (decide (e.kind=.zone) || decide (e.kind=.top)))))=b at *
 cases b
 ·simp[GF,H.gi,q2,q2',enB,e215,a1,a1',l1,a3,a3',l3]
 ·simp[GF,H.gi,q2,q2',enB,e215,a1,a1',l1,a3,a3',l3]
theorem abk (H:HpL r names s e c v vs L h):∃ h',SameH h.length h h'∧sfn P 228 [.ptr L.iv 0 0,.ptr L.ev 0 0,.ptr L.lv 0 0] h=some (.c (.bool (!decide (e.kind=.out) || decide (c.began+r.limit≤e.time))),h'):=by
 have q1:=ltG H.ge
 have q3:=ltG H.gl
 have q2:=ltG H.gi
 have q2':=(List.getElem?_eq_some_iff.1 H.gi).2
 have a1:∀ X:LB,(h++[X])[L.ev]? = some (enB e):=fun X=>by rw[List.getElem?_append_left q1]; exact H.ge
 have a1':=fun X=>(List.getElem?_eq_some_iff.1 (a1 X)).2
 have l1:L.ev<h.length+1:=by omega
 have a3:∀ X:LB,(h++[X])[L.lv]? = some (.cells 0 [.c (ci (c.began+r.limit))] 0):=fun X=>by rw[List.getElem?_append_left q3]; exact H.gl
 have a3':=fun X=>(List.getElem?_eq_some_iff.1 (a3 X)).2
 have l3:L.lv<h.length+1:=by omega
 have e215:=fq (P:=P) .out e h L.ev H.ge
 simp only[kdS] at e215
 rw[aby]
 refine⟨_,(SameH.rfl' (Nat.le_refl _)).app [.cells 1 [.c (.str [111,117,116])] 0],?_⟩
 generalize decide (e.kind=.out)=b at *
 cases b
 ·simp[GU,H.gi,q2,q2',enB,e215,a1,a1',l1,a3,a3',l3]
 ·simp[GU,H.gi,q2,q2',enB,e215,a1,a1',l1,a3,a3',l3]
end LM.GZ
namespace LM.GZ
open Go LM
variable {P:Nat→Option SFunc} [Has P]
variable {r:CRn} {names:List Str} {s:CSs} {e:CEn} {c:CCl} {v:LV × LV} {vs:List (LV × LV)} {L:RLoc} {h:Heap}
theorem HpL.app (H:HpL r names s e c v vs L h) (X:Heap):HpL r names s e c v vs L (h++X):=by
 have key:∀ {i:Nat} {B:LB},h[i]? = some B→(h++X)[i]? = some B:=fun e=>by rw[List.getElem?_append_left (ltG e)]; exact e
 refine⟨key H.gpl,key H.gp,key H.ge,key H.gc,?_,key H.gi,key H.gl,key H.gt,key H.grow,?_,?_⟩
 ·obtain⟨A,B,e⟩:=H.gk
  exact⟨A,B,key e⟩
 ·rcases H.gtr with h1 | ⟨h1,b,g,h2,h3⟩
  ·exact .inl h1
  ·exact .inr ⟨h1,b,g,h2,key h3⟩
 ·rcases H.gru with h1 | ⟨h1,b,g,h2,h3⟩
  ·exact .inl h1
  ·exact .inr ⟨h1,b,g,h2,key h3⟩
theorem iB (n a b:Int):fn P 199 [ci n,ci a,ci b]=some (.bool (decide (n<a) || decide (b<n))):=by
 rw[acX]
 by_cases h1:n<a<;>by_cases h2:b<n<;>simp[OY,h1,h2]
theorem acB (H:HpL r names s e c v vs L h):∃ h',SameH h.length h h'∧sfn P 229 [.ptr L.iv 0 0,.ptr L.ev 0 0,.ptr L.cv 0 0,.ptr L.pv 0 0] h=some (.c (.bool (!decide (e.kind=.hold) || (decide (c.hold<e.val) && decide (e.val≤r.size)))),h'):=by
 have HK:=H.app [.cells 1 [.c (.str [104,111,108,100])] 0]
 have q_i:=ltG H.gi
 have q_i':=(List.getElem?_eq_some_iff.1 H.gi).2
 have a_i:=HK.gi
 have a_i':=(List.getElem?_eq_some_iff.1 HK.gi).2
 have l_i:=ltG HK.gi
 simp only[List.length_append,List.length_singleton] at l_i
 have q_e:=ltG H.ge
 have q_e':=(List.getElem?_eq_some_iff.1 H.ge).2
 have a_e:=HK.ge
 have a_e':=(List.getElem?_eq_some_iff.1 HK.ge).2
 have l_e:=ltG HK.ge
 simp only[List.length_append,List.length_singleton] at l_e
 have q_c:=ltG H.gc
 have q_c':=(List.getElem?_eq_some_iff.1 H.gc).2
 have a_c:=HK.gc
 have a_c':=(List.getElem?_eq_some_iff.1 HK.gc).2
 have l_c:=ltG HK.gc
 simp only[List.length_append,List.length_singleton] at l_c
 have q_p:=ltG H.gp
 have q_p':=(List.getElem?_eq_some_iff.1 H.gp).2
 have a_p:=HK.gp
 have a_p':=(List.getElem?_eq_some_iff.1 HK.gp).2
 have l_p:=ltG HK.gp
 simp only[List.length_append,List.length_singleton] at l_p
 have q_pl:=ltG H.gpl
 have q_pl':=(List.getElem?_eq_some_iff.1 H.gpl).2
 have a_pl:=HK.gpl
 have a_pl':=(List.getElem?_eq_some_iff.1 HK.gpl).2
 have l_pl:=ltG HK.gpl
 simp only[List.length_append,List.length_singleton] at l_pl
 have e215:=fq (P:=P) .hold e h L.ev H.ge
 simp only[kdS] at e215
 rw[acY]
 refine⟨_,(SameH.rfl' (Nat.le_refl _)).app [.cells 1 [.c (.str [104,111,108,100])] 0],?_⟩
 generalize decide (e.kind=.hold)=b at *
 cases b
 ·simp[vT,e215,enB,clL,plB,trL,H.gi,q_i,q_i',a_i,a_i',l_i,H.ge,q_e,q_e',a_e,a_e',l_e,H.gc,q_c,q_c',a_c,a_c',l_c,H.gp,q_p,q_p',a_p,a_p',l_p,H.gpl,q_pl,q_pl',a_pl,a_pl',l_pl]
 ·by_cases h1:c.hold<e.val
  ·simp[vT,e215,enB,clL,plB,trL,H.gi,q_i,q_i',a_i,a_i',l_i,H.ge,q_e,q_e',a_e,a_e',l_e,H.gc,q_c,q_c',a_c,a_c',l_c,H.gp,q_p,q_p',a_p,a_p',l_p,H.gpl,q_pl,q_pl',a_pl,a_pl',l_pl,h1]
  ·simp[vT,e215,enB,clL,plB,trL,H.gi,q_i,q_i',a_i,a_i',l_i,H.ge,q_e,q_e',a_e,a_e',l_e,H.gc,q_c,q_c',a_c,a_c',l_c,H.gp,q_p,q_p',a_p,a_p',l_p,H.gpl,q_pl,q_pl',a_pl,a_pl',l_pl,h1]
theorem acW (H:HpL r names s e c v vs L h):∃ h',SameH h.length h h'∧sfn P 230 [.ptr L.iv 0 0,.ptr L.cv 0 0,.ptr L.pv 0 0] h=some (.c (.bool (!decide (e.kind=.plus) || (!c.plus && decide (c.hold<r.size)))),h'):=by
 have HK:=H.app [.cells 1 [.c (.str [112,108,117,115])] 0]
 have q_i:=ltG H.gi
 have q_i':=(List.getElem?_eq_some_iff.1 H.gi).2
 have a_i:=HK.gi
 have a_i':=(List.getElem?_eq_some_iff.1 HK.gi).2
 have l_i:=ltG HK.gi
 simp only[List.length_append,List.length_singleton] at l_i
 have q_c:=ltG H.gc
 have q_c':=(List.getElem?_eq_some_iff.1 H.gc).2
 have a_c:=HK.gc
 have a_c':=(List.getElem?_eq_some_iff.1 HK.gc).2
 have l_c:=ltG HK.gc
 simp only[List.length_append,List.length_singleton] at l_c
 have q_p:=ltG H.gp
 have q_p':=(List.getElem?_eq_some_iff.1 H.gp).2
 have a_p:=HK.gp
 have a_p':=(List.getElem?_eq_some_iff.1 HK.gp).2
 have l_p:=ltG HK.gp
 simp only[List.length_append,List.length_singleton] at l_p
 have q_pl:=ltG H.gpl
 have q_pl':=(List.getElem?_eq_some_iff.1 H.gpl).2
 have a_pl:=HK.gpl
 have a_pl':=(List.getElem?_eq_some_iff.1 HK.gpl).2
 have l_pl:=ltG HK.gpl
 simp only[List.length_append,List.length_singleton] at l_pl
 have e215:=fq (P:=P) .plus e h L.ev H.ge
 simp only[kdS] at e215
 rw[aaK]
 refine⟨_,(SameH.rfl' (Nat.le_refl _)).app [.cells 1 [.c (.str [112,108,117,115])] 0],?_⟩
 generalize decide (e.kind=.plus)=b at *
 cases b
 ·simp[wQ,e215,enB,clL,plB,trL,H.gi,q_i,q_i',a_i,a_i',l_i,H.gc,q_c,q_c',a_c,a_c',l_c,H.gp,q_p,q_p',a_p,a_p',l_p,H.gpl,q_pl,q_pl',a_pl,a_pl',l_pl]
 ·by_cases h1:c.plus=true
  ·simp[wQ,e215,enB,clL,plB,trL,H.gi,q_i,q_i',a_i,a_i',l_i,H.gc,q_c,q_c',a_c,a_c',l_c,H.gp,q_p,q_p',a_p,a_p',l_p,H.gpl,q_pl,q_pl',a_pl,a_pl',l_pl,h1]
  ·simp[wQ,e215,enB,clL,plB,trL,H.gi,q_i,q_i',a_i,a_i',l_i,H.gc,q_c,q_c',a_c,a_c',l_c,H.gp,q_p,q_p',a_p,a_p',l_p,H.gpl,q_pl,q_pl',a_pl,a_pl',l_pl,h1]
theorem adv (H:HpL r names s e c v vs L h):∃ h',SameH h.length h h'∧sfn P 233 [.ptr L.iv 0 0,.ptr L.cv 0 0,.ptr L.tv 0 0] h=some (.c (.bool (!decide (e.kind=.attempt) || (!c.op && decide ((tNow r c).top=0) && decide ((tNow r c).att<99)))),h'):=by
 have HK:=H.app [.cells 1 [.c (.str [97,116,116,101,109,112,116])] 0]
 have q_i:=ltG H.gi
 have q_i':=(List.getElem?_eq_some_iff.1 H.gi).2
 have a_i:=HK.gi
 have a_i':=(List.getElem?_eq_some_iff.1 HK.gi).2
 have l_i:=ltG HK.gi
 simp only[List.length_append,List.length_singleton] at l_i
 have q_c:=ltG H.gc
 have q_c':=(List.getElem?_eq_some_iff.1 H.gc).2
 have a_c:=HK.gc
 have a_c':=(List.getElem?_eq_some_iff.1 HK.gc).2
 have l_c:=ltG HK.gc
 simp only[List.length_append,List.length_singleton] at l_c
 have q_t:=ltG H.gt
 have q_t':=(List.getElem?_eq_some_iff.1 H.gt).2
 have a_t:=HK.gt
 have a_t':=(List.getElem?_eq_some_iff.1 HK.gt).2
 have l_t:=ltG HK.gt
 simp only[List.length_append,List.length_singleton] at l_t
 have e215:=fq (P:=P) .attempt e h L.ev H.ge
 simp only[kdS] at e215
 rw[aam]
 refine⟨_,(SameH.rfl' (Nat.le_refl _)).app [.cells 1 [.c (.str [97,116,116,101,109,112,116])] 0],?_⟩
 generalize decide (e.kind=.attempt)=b at *
 cases b
 ·simp[pp,e215,enB,clL,plB,trL,H.gi,q_i,q_i',a_i,a_i',l_i,H.gc,q_c,q_c',a_c,a_c',l_c,H.gt,q_t,q_t',a_t,a_t',l_t]
 ·by_cases h1:c.op=true
  ·by_cases h2:(tNow r c).top=0
   ·simp[pp,e215,enB,clL,plB,trL,H.gi,q_i,q_i',a_i,a_i',l_i,H.gc,q_c,q_c',a_c,a_c',l_c,H.gt,q_t,q_t',a_t,a_t',l_t,h1,h2]
   ·simp[pp,e215,enB,clL,plB,trL,H.gi,q_i,q_i',a_i,a_i',l_i,H.gc,q_c,q_c',a_c,a_c',l_c,H.gt,q_t,q_t',a_t,a_t',l_t,h1,h2]
  ·by_cases h2:(tNow r c).top=0
   ·simp[pp,e215,enB,clL,plB,trL,H.gi,q_i,q_i',a_i,a_i',l_i,H.gc,q_c,q_c',a_c,a_c',l_c,H.gt,q_t,q_t',a_t,a_t',l_t,h1,h2]
   ·simp[pp,e215,enB,clL,plB,trL,H.gi,q_i,q_i',a_i,a_i',l_i,H.gc,q_c,q_c',a_c,a_c',l_c,H.gt,q_t,q_t',a_t,a_t',l_t,h1,h2]
theorem adn (H:HpL r names s e c v vs L h):∃ h',SameH h.length h h'∧sfn P 234 [.ptr L.iv 0 0,.ptr L.tv 0 0] h=some (.c (.bool (!decide (e.kind=.zone) || (decide ((tNow r c).zone=0)))),h'):=by
 have HK:=H.app [.cells 1 [.c (.str [122,111,110,101])] 0]
 have q_i:=ltG H.gi
 have q_i':=(List.getElem?_eq_some_iff.1 H.gi).2
 have a_i:=HK.gi
 have a_i':=(List.getElem?_eq_some_iff.1 HK.gi).2
 have l_i:=ltG HK.gi
 simp only[List.length_append,List.length_singleton] at l_i
 have q_t:=ltG H.gt
 have q_t':=(List.getElem?_eq_some_iff.1 H.gt).2
 have a_t:=HK.gt
 have a_t':=(List.getElem?_eq_some_iff.1 HK.gt).2
 have l_t:=ltG HK.gt
 simp only[List.length_append,List.length_singleton] at l_t
 have e215:=fq (P:=P) .zone e h L.ev H.ge
 simp only[kdS] at e215
 rw[ac6]
 refine⟨_,(SameH.rfl' (Nat.le_refl _)).app [.cells 1 [.c (.str [122,111,110,101])] 0],?_⟩
 generalize decide (e.kind=.zone)=b at *
 cases b
 ·simp[yL,e215,enB,clL,plB,trL,H.gi,q_i,q_i',a_i,a_i',l_i,H.gt,q_t,q_t',a_t,a_t',l_t]
 ·by_cases h1:(tNow r c).zone=0
  ·simp[yL,e215,enB,clL,plB,trL,H.gi,q_i,q_i',a_i,a_i',l_i,H.gt,q_t,q_t',a_t,a_t',l_t,h1]
  ·simp[yL,e215,enB,clL,plB,trL,H.gi,q_i,q_i',a_i,a_i',l_i,H.gt,q_t,q_t',a_t,a_t',l_t,h1]
theorem aay (H:HpL r names s e c v vs L h) (hw:IntKind.i64.wrap (e.time-c.began)=e.time-c.began):∃ h',SameH h.length h h'∧sfn P 235 [.ptr L.iv 0 0,.ptr L.ev 0 0,.ptr L.cv 0 0] h=some (.c (.bool (!decide (e.kind=.finish) || (decide (1≤e.val) && decide (e.val≤e.time-c.began)))),h'):=by
 have HK:=H.app [.cells 1 [.c (.str [102,105,110,105,115,104])] 0]
 have q_i:=ltG H.gi
 have q_i':=(List.getElem?_eq_some_iff.1 H.gi).2
 have a_i:=HK.gi
 have a_i':=(List.getElem?_eq_some_iff.1 HK.gi).2
 have l_i:=ltG HK.gi
 simp only[List.length_append,List.length_singleton] at l_i
 have q_e:=ltG H.ge
 have q_e':=(List.getElem?_eq_some_iff.1 H.ge).2
 have a_e:=HK.ge
 have a_e':=(List.getElem?_eq_some_iff.1 HK.ge).2
 have l_e:=ltG HK.ge
 simp only[List.length_append,List.length_singleton] at l_e
 have q_c:=ltG H.gc
 have q_c':=(List.getElem?_eq_some_iff.1 H.gc).2
 have a_c:=HK.gc
 have a_c':=(List.getElem?_eq_some_iff.1 HK.gc).2
 have l_c:=ltG HK.gc
 simp only[List.length_append,List.length_singleton] at l_c
 have e215:=fq (P:=P) .finish e h L.ev H.ge
 simp only[kdS] at e215
 have e199:=iB (P:=P) e.val 1 (e.time-c.began)
 have n1:(decide (1≤e.val) && decide (e.val≤e.time-c.began))=!(decide (e.val<1) || decide (e.time-c.began<e.val)):=by
  rw[Bool.eq_iff_iff]; simp
 rw[n1]
 rw[aaz]
 refine⟨_,(SameH.rfl' (Nat.le_refl _)).app [.cells 1 [.c (.str [102,105,110,105,115,104])] 0],?_⟩
 generalize decide (e.kind=.finish)=b at *
 cases b
 ·simp[po,e215,enB,clL,plB,trL,H.gi,q_i,q_i',a_i,a_i',l_i,H.ge,q_e,q_e',a_e,a_e',l_e,H.gc,q_c,q_c',a_c,a_c',l_c,hw,e199]
 ·by_cases h1:e.val<1
  ·by_cases h2:e.time-c.began<e.val
   ·simp[po,e215,enB,clL,plB,trL,H.gi,q_i,q_i',a_i,a_i',l_i,H.ge,q_e,q_e',a_e,a_e',l_e,H.gc,q_c,q_c',a_c,a_c',l_c,hw,e199,h1,h2]
   ·simp[po,e215,enB,clL,plB,trL,H.gi,q_i,q_i',a_i,a_i',l_i,H.ge,q_e,q_e',a_e,a_e',l_e,H.gc,q_c,q_c',a_c,a_c',l_c,hw,e199,h1,h2]
  ·by_cases h2:e.time-c.began<e.val
   ·simp[po,e215,enB,clL,plB,trL,H.gi,q_i,q_i',a_i,a_i',l_i,H.ge,q_e,q_e',a_e,a_e',l_e,H.gc,q_c,q_c',a_c,a_c',l_c,hw,e199,h1,h2]
   ·simp[po,e215,enB,clL,plB,trL,H.gi,q_i,q_i',a_i,a_i',l_i,H.ge,q_e,q_e',a_e,a_e',l_e,H.gc,q_c,q_c',a_c,a_c',l_c,hw,e199,h1,h2]
end LM.GZ
namespace LM.GZ
open Go LM
variable {P:Nat→Option SFunc} [Has P]
variable {r:CRn} {names:List Str} {s:CSs} {e:CEn} {c:CCl} {v:LV × LV} {vs:List (LV × LV)} {L:RLoc} {h:Heap}
theorem O8 {l:List CTr} {v:LV} {h:Heap} (H:TrV h l v) (xs:List LV):eW (v::xs)=none:=by
 rcases H with ⟨_,rfl⟩ | ⟨_,b,g,rfl,_⟩<;>rfl
theorem qb {h:Heap} (H:TrV h c.tries v.1):eW (clL c v)=none:=by
 have:=O8 H [v.2]
 simp[clL,eW,this]
theorem jR {l:List CTr} {v:LV} {h:Heap} (H:TrV h l v):LV.flat v=true:=by
 rcases H with ⟨_,rfl⟩ | ⟨_,b,g,rfl,_⟩<;>rfl
theorem jE {l:List Int} {v:LV} {h:Heap} (H:RuV h l v):LV.flat v=true:=by
 rcases H with ⟨_,rfl⟩ | ⟨_,b,g,rfl,_⟩<;>rfl
theorem cH (x:Str):LV.flat (.c (.str x))=true:=rfl
theorem cF (k:IntKind) (x:Int):LV.flat (.c (.int k x))=true:=rfl
theorem EI (b g o n:Nat) (e c:Option Nat):LV.flat (.slice b g o n e c)=true:=rfl
theorem cJ (x:Bool):LV.flat (.c (.bool x))=true:=rfl
theorem aaC (h:Heap) (bp bc gc n:Nat) (t:Int) (k:CKd) (gpl:h[bp]? = some (plB r names bc gc n t)) (H:TrV h c.tries v.1) (H2:RuV h c.runs v.2):∃ h',SameH h.length h h'∧sfn P 232 [.ptr bp 0 0,.agg (clL c v),.c (.str (kdS k))] h=some (.c (.bool (readyB r c k)),h'):=by
 have q1:=ltG gpl
 have q1':=(List.getElem?_eq_some_iff.1 gpl).2
 have a1:∀ X:LB,(h++[X])[bp]? = some (plB r names bc gc n t):=fun X=>by rw[List.getElem?_append_left q1]; exact gpl
 have a1':=fun X=>(List.getElem?_eq_some_iff.1 (a1 X)).2
 have l1:bp<h.length+1:=by omega
 have f1:=jR H
 have f2:=jE H2
 rw[acg]
 refine⟨_,(SameH.rfl' (Nat.le_refl _)).app [.cells 0 (clL c v) 0],?_⟩
 cases hd:r.dc
 ·have k1:kdS k=[116,111,112]↔k=.top:=by cases k<;>simp[kdS]
  have k2:kdS .top=[116,111,112]:=rfl
  by_cases h1:k=.top
  ·by_cases h2:c.hold=r.size<;>simp[o9,plB,a1,a1',l1,hd,dcS,clL,readyB,-LV.flat,cH,cF,cJ,f1,f2,h1,k2,h2]
  ·simp[o9,plB,a1,a1',l1,hd,dcS,clL,readyB,-LV.flat,cH,cF,cJ,f1,f2,h1,k1]
 ·have e86:=S86 (P:=P) (kdS k) [kdS .zone,kdS .top,kdS .fall,kdS .incident] (by simp)
  have e2:[kdS .zone,kdS .top,kdS .fall,kdS .incident].any (Str.is (kdS k))=(decide (k=.zone) || decide (k=.top) || decide (k=.fall) || decide (k=.incident)):=by cases k<;>rfl
  rw[e2] at e86
  simp only[List.map_cons,List.map_nil] at e86
  have e3:kdS .zone=[122,111,110,101]:=rfl
  have e4:kdS .top=[116,111,112]:=rfl
  have e5:kdS .fall=[102,97,108,108]:=rfl
  have e6:kdS .incident=[105,110,99,105,100,101,110,116]:=rfl
  rw[e3,e4,e5,e6] at e86
  unfold readyB
  rw[hd]
  simp only
  generalize (decide (k=.zone) || decide (k=.top) || decide (k=.fall) || decide (k=.incident))=b at *
  cases b
  ·simp[o9,plB,a1,a1',l1,hd,dcS,clL,-LV.flat,cH,cF,cJ,f1,f2,e86]
  ·simp[o9,plB,a1,a1',l1,hd,dcS,clL,-LV.flat,cH,cF,cJ,f1,f2,e86]
 ·simp[o9,plB,a1,a1',l1,hd,dcS,clL,readyB,-LV.flat,cH,cF,cJ,f1,f2]
theorem bf (b g o:Nat) (l:List LV) (h:Heap):ah (.ptr b g o::l) h=bnd (ah l h) fun a=>some (.ptr b g o::a.1,a.2):=by
 rw[ah]
 rcases ah l h with _ | ⟨x,y⟩<;>rfl
 all_goals simp
theorem pC (cs:List LV) (l:List LV) (h:Heap):ah (.agg cs::l) h=bnd (ah l h) fun a=>some (.agg cs::a.1,a.2):=by
 rw[ah]
 rcases ah l h with _ | ⟨x,y⟩<;>rfl
 all_goals simp
theorem acA (H:HpL r names s e c v vs L h):∃ h',SameH h.length h h'∧sfn P 231 [.ptr L.pv 0 0,.ptr L.cv 0 0,.ptr L.ev 0 0] h=some (.c (.bool (readyB r c e.kind)),h'):=by
 have q_p:=ltG H.gp
 have q_p':=(List.getElem?_eq_some_iff.1 H.gp).2
 have q_c:=ltG H.gc
 have q_c':=(List.getElem?_eq_some_iff.1 H.gc).2
 have q_e:=ltG H.ge
 have q_e':=(List.getElem?_eq_some_iff.1 H.ge).2
 obtain⟨h',k1,k2⟩:=aaC (P:=P) h L.bp L.bc L.gc s.cls.length s.time e.kind H.gpl H.gtr H.gru
 have hac:=qb H.gtr
 refine⟨h',k1,?_⟩
 rw[abt]
 simp only[clL] at hac k2
 simp[M3,enB,clL,hac,k2,bf,pC,ax,bA,H.gp,q_p,q_p',H.gc,q_c,q_c',H.ge,q_e,q_e']
end LM.GZ
namespace LM.GZ
open Go LM
variable {P:Nat→Option SFunc} [Has P]
variable {r:CRn} {names:List Str} {s:CSs} {e:CEn} {c:CCl} {v:LV × LV} {vs:List (LV × LV)} {L:RLoc} {h:Heap}
theorem CA (l:List CTr):(l.flatMap trL).length=l.length*4:=by
 induction l with
 | nil=>rfl
 | cons a l ih=>rw[List.flatMap_cons,List.length_append,ih,List.length_cons]; show 4+_=_; omega
theorem EZ:∀ (l:List CTr) (k j:Nat) (x:CTr),l[k]? = some x→j<4→(l.flatMap trL)[k*4+j]? = (trL x)[j]?
 | [],k,j,x,h,_=>by simp at h
 | a::l,0,j,x,h,hj=>by
  simp at h
  subst h
  rw[List.flatMap_cons,Nat.zero_mul,Nat.zero_add,List.getElem?_append_left (by show j<4; exact hj)]
 | a::l,k+1,j,x,h,hj=>by
  have ih:=EZ l k j x (by simpa using h) hj
  rw[List.flatMap_cons,List.getElem?_append_right (by show 4≤_; omega),← ih]
  congr 1
  show (k+1)*4+j-4=_
  omega
theorem Pa {c:CCl} {p:Int} (h1:1≤p) (h2:p≤c.tries.length):c.tries[(p-1).toNat]? = some (trAt c p):=by
 have hl:(p-1).toNat<c.tries.length:=by omega
 rw[trAt,List.getD_eq_getElem?_getD,List.getElem?_eq_getElem hl]
 rfl
theorem adp (h:Heap) (bp bc gc n:Nat) (t:Int) (x:Int) (hx:0≤x∧x≤86399999) (gpl:h[bp]? = some (plB r names bc gc n t)) (H:TrV h c.tries v.1) (H2:RuV h c.runs v.2) (hlen:r.dc=.boulder→c.tries.length=r.size):∃ h',SameH h.length h h'∧sfn P 225 [.ptr bp 0 0,.agg (clL c v),.c (ci x)] h=some (.c (.bool (suitsB r c x)),h'):=by
 have q1:=ltG gpl
 have q1':=(List.getElem?_eq_some_iff.1 gpl).2
 have a1:∀ X:LB,(h++[X])[bp]? = some (plB r names bc gc n t):=fun X=>by rw[List.getElem?_append_left q1]; exact gpl
 have a1':=fun X=>(List.getElem?_eq_some_iff.1 (a1 X)).2
 have l1:bp<h.length+1:=by omega
 have f1:=jR H
 have f2:=jE H2
 rw[abA]
 refine⟨_,(SameH.rfl' (Nat.le_refl _)).app [.cells 0 (clL c v) 0],?_⟩
 unfold suitsB
 cases hd:r.dc
 ·by_cases h1:x=0<;>simp[pe,plB,a1,a1',l1,hd,dcS,clL,-LV.flat,cH,cF,cJ,f1,f2,h1]
 ·have e199:=iB (P:=P) x 1 r.size
  by_cases h1:x<1
  ·have n1:¬ 1≤x:=by omega
   simp[h1] at e199
   simp[pe,plB,a1,a1',l1,hd,dcS,clL,-LV.flat,cH,cF,cJ,f1,f2,e199,n1]
  ·by_cases h2:(r.size:Int)<x
   ·have n2:¬ x≤r.size:=by omega
    simp[h2] at e199
    simp[pe,plB,a1,a1',l1,hd,dcS,clL,-LV.flat,cH,cF,cJ,f1,f2,e199,n2]
   ·have n1:1≤x:=by omega
    have n2:x≤r.size:=by omega
    have hl:=hlen hd
    have hta:=Pa (c:=c) n1 (by omega)
    have hw:IntKind.i64.wrap (x-1)=x-1:=am (by omega) (by omega)
    rcases H with ⟨hn,_⟩ | ⟨hn,b,g,hv,hb⟩
    ·rw[hn] at hl
     simp at hl
     omega
    ·obtain⟨v1,v2⟩:=v
     simp only at hv f2
     subst hv
     have hbl:=ltG hb
     have b1:∀ X:LB,(h++[X])[b]? = some (.cells g (c.tries.flatMap trL) 0):=fun X=>by rw[List.getElem?_append_left hbl]; exact hb
     have b1':=fun X=>(List.getElem?_eq_some_iff.1 (b1 X)).2
     have hbl1:b<h.length+1:=by omega
     have hk:(x-1).toNat<c.tries.length:=by omega
     have hg:=EZ c.tries (x-1).toNat 3 _ hta (by omega)
     have hcl:=CA c.tries
     have hg2:(trL (trAt c x))[3]? = some (.c (.bool (trAt c x).vis)):=rfl
     rw[hg2] at hg
     have n3:0≤x-1:=by omega
     have n4:x-1<c.tries.length:=by omega
     have n5:(x-1).toNat*4+3<c.tries.length*4:=by omega
     have n6:(x-1).toNat*4+4≤c.tries.length*4:=by omega
     simp[n1,n2,h1,h2] at e199
     have et:(x-1).toNat=x.toNat-1:=by omega
     rw[et] at hg hk n5 n6
     have hg':=(List.getElem?_eq_some_iff.1 hg).2
     generalize c.tries.flatMap trL=C at *
     generalize trAt c x=T at *
     simp[pe,plB,a1,a1',l1,hd,dcS,clL,-LV.flat,cH,cF,cJ,EI,f2,e199,n1,n2,hw,b1,b1',hbl1,hk,hg,hg',hcl,n3,n4,n5,n6]
 ·have e199:=iB (P:=P) x 1 2
  have n1:(decide (1≤x) && decide (x≤2))=!(decide (x<1) || decide (2<x)):=by rw[Bool.eq_iff_iff]; simp
  simp only
  rw[n1]
  simp[pe,plB,a1,a1',l1,hd,dcS,clL,-LV.flat,cH,cF,cJ,f1,f2,e199]
end LM.GZ
namespace LM.GZ
open Go LM
variable {P:Nat→Option SFunc} [Has P]
variable {r:CRn} {names:List Str} {s:CSs} {e:CEn} {c:CCl} {v:LV × LV} {vs:List (LV × LV)} {L:RLoc} {h:Heap}
theorem acv (H:HpL r names s e c v vs L h) (hx:0≤e.val∧e.val≤86399999) (hlen:r.dc=.boulder→c.tries.length=r.size):∃ h',SameH h.length h h'∧sfn P 224 [.ptr L.iv 0 0,.ptr L.pv 0 0,.ptr L.cv 0 0,.ptr L.ev 0 0] h=some (.c (.bool (!decide (e.kind=.start) || suitsB r c e.val)),h'):=by
 have HK:=H.app [.cells 1 [.c (.str [115,116,97,114,116])] 0]
 have q_i:=ltG H.gi
 have q_i':=(List.getElem?_eq_some_iff.1 H.gi).2
 have a_i:=HK.gi
 have a_i':=(List.getElem?_eq_some_iff.1 HK.gi).2
 have l_i:=ltG HK.gi
 simp only[List.length_append,List.length_singleton] at l_i
 have q_p:=ltG H.gp
 have q_p':=(List.getElem?_eq_some_iff.1 H.gp).2
 have a_p:=HK.gp
 have a_p':=(List.getElem?_eq_some_iff.1 HK.gp).2
 have l_p:=ltG HK.gp
 simp only[List.length_append,List.length_singleton] at l_p
 have q_c:=ltG H.gc
 have q_c':=(List.getElem?_eq_some_iff.1 H.gc).2
 have a_c:=HK.gc
 have a_c':=(List.getElem?_eq_some_iff.1 HK.gc).2
 have l_c:=ltG HK.gc
 simp only[List.length_append,List.length_singleton] at l_c
 have q_e:=ltG H.ge
 have q_e':=(List.getElem?_eq_some_iff.1 H.ge).2
 have a_e:=HK.ge
 have a_e':=(List.getElem?_eq_some_iff.1 HK.ge).2
 have l_e:=ltG HK.ge
 simp only[List.length_append,List.length_singleton] at l_e
 have e215:=fq (P:=P) .start e h L.ev H.ge
 simp only[kdS] at e215
 have hac:=qb H.gtr
 obtain⟨h',k1,k2⟩:=adp (P:=P) (h++[.cells 1 [.c (.str [115,116,97,114,116])] 0]) L.bp L.bc L.gc s.cls.length s.time e.val hx HK.gpl HK.gtr HK.gru hlen
 have hs:SameH h.length h (h++[.cells 1 [.c (.str [115,116,97,114,116])] 0]):=(SameH.rfl' (Nat.le_refl _)).app _
 rw[abs]
 simp only[clL] at hac k2
 generalize decide (e.kind=.start)=b at *
 cases b
 ·refine⟨_,hs,?_⟩
  simp[GK,e215,H.gi,q_i,q_i',a_i,a_i',l_i,H.gp,q_p,q_p',a_p,a_p',l_p,H.gc,q_c,q_c',a_c,a_c',l_c,H.ge,q_e,q_e',a_e,a_e',l_e]
 ·refine⟨h',hs.trans (k1.less (by simp)),?_⟩
  simp[GK,e215,enB,clL,hac,k2,bf,pC,ax,bA,H.gi,q_i,q_i',a_i,a_i',l_i,H.gp,q_p,q_p',a_p,a_p',l_p,H.gc,q_c,q_c',a_c,a_c',l_c,H.ge,q_e,q_e',a_e,a_e',l_e]
def trE (t:CTr):CV:=.agg [ci t.att,ci t.zone,ci t.top,.bool t.vis]
theorem od (l:List CTr):∀ x ∈ l.map trE,Elem (some 4) x:=by
 intro x hx
 obtain⟨t,_,rfl⟩:=List.mem_map.1 hx
 exact⟨_,rfl,rfl,by simp[CV.flat]⟩
theorem iW (l:List CTr):cellsOf (l.map trE)=l.flatMap trL:=by
 induction l with
 | nil=>rfl
 | cons a l ih=>rw[List.map_cons,List.flatMap_cons,← ih]; rfl
theorem adg (t:CTr):fn P 278 [trE t]=some (.bool (t.vis)):=by
 rw[abl]
 simp[NN,trE]
theorem LT:∀ (l pre:List CTr),((pre++l).length:Int)<1000 →
  ∃ i:Nat,ac P (af P) sh ⟨[.c (.slice ((pre++l).map trE)),.c (.func 278 [] []),.c (ci (pre++l).length),.c (ci pre.length)],[]⟩=if l.any (fun t=>t.vis)=true then some (.ret,⟨[.c (ci i)],[]⟩) else some (.exit 0,⟨[],[]⟩):=by
 intro l
 induction l with
 | nil =>
  intro pre h
  refine⟨0,?_⟩
  rw[sE]
  simp[iu]
 | cons x r ih =>
  intro pre h
  obtain⟨i,ih⟩:=ih (pre++[x]) (by simpa using h)
  have es:=adg (P:=P) x
  have hw:IntKind.i64.wrap (↑pre.length+1)=↑pre.length+1:=am (by simp at h; omega) (by simp at h; omega)
  have hlt:(pre.length:Int)<pre.length+(r.length+1):=by omega
  rw[List.any_cons]
  obtain⟨a,z,p,w⟩:=x
  cases w
  all_goals
   simp[trE,-List.any_eq_true] at ih h es
   first
    | (
     refine⟨pre.length,?_⟩
     rw[sE]
     simp[iu,trE,hlt,es,-List.any_eq_true]
     done)
    | (
     refine⟨i,?_⟩
     rw[sE]
     simp[iu,trE,hlt,hw,es,ih,-List.any_eq_true]
     done)
theorem LW (l:List CTr) (h:l.length<1000):fn P 277 [.slice (l.map trE),.func 278 [] []]=some (.bool (l.any fun t=>t.vis)):=by
 obtain⟨i,hL⟩:=LT (P:=P) l [] (by simp; omega)
 simp[-List.any_eq_true] at hL
 rw[acq]
 cases hv:l.any fun t=>t.vis
 ·rw[hv] at hL
  have e297:fn P 297 [.slice (l.map trE),.func 278 [] []]=some (ci (-1)):=by
   rw[WR]
   simp at hL
   simp[Gc,hL]
  simp[Hc,e297]
 ·rw[hv] at hL
  have e297:fn P 297 [.slice (l.map trE),.func 278 [] []]=some (ci i):=by
   rw[WR]
   simp at hL
   simp[Gc,hL]
  simp[Hc,e297]
end LM.GZ
namespace LM.GZ
open Go LM
variable {P:Nat→Option SFunc} [Has P]
variable {r:CRn} {names:List Str} {s:CSs} {e:CEn} {c:CCl} {v:LV × LV} {vs:List (LV × LV)} {L:RLoc} {h:Heap}
theorem UI {l:List CTr} {v:LV} (H:TrV h l v):∃ h',frz ay v h=some (.slice (l.map trE),h'):=by
 rcases H with ⟨rfl,rfl⟩ | ⟨hn,b,g,rfl,hb⟩
 ·exact⟨h,by simp[PH]⟩
 ·exact⟨_,lz (b:=b) (g:=g) (fz:=0) (e:=some 4) (ys:=l.map trE) (h:=h) (len:=l.length) (by rw[iW]; exact hb) (od l) (by simp) none⟩
theorem abH (h:Heap) (bp bc gc n:Nat) (t:Int) (gpl:h[bp]? = some (plB r names bc gc n t)) (H:TrV h c.tries v.1) (H2:RuV h c.runs v.2) (hl:c.tries.length<1000):∃ h',SameH h.length h h'∧sfn P 237 [.ptr bp 0 0,.agg (clL c v)] h=some (.c (.bool (ip r c)),h'):=by
 have q1:=ltG gpl
 have q1':=(List.getElem?_eq_some_iff.1 gpl).2
 have a1:∀ X:LB,(h++[X])[bp]? = some (plB r names bc gc n t):=fun X=>by rw[List.getElem?_append_left q1]; exact gpl
 have a1':=fun X=>(List.getElem?_eq_some_iff.1 (a1 X)).2
 have l1:bp<h.length+1:=by omega
 have f1:=jR H
 have f2:=jE H2
 rw[adf]
 refine⟨_,(SameH.rfl' (Nat.le_refl _)).app [.cells 0 (clL c v) 0],?_⟩
 unfold ip
 cases hd:r.dc
 ·simp[tU,plB,a1,a1',l1,hd,dcS,clL,-LV.flat,cH,cF,cJ,f1,f2]
 ·have e277:=LW (P:=P) c.tries hl
  have HK:TrV (h++[.cells 0 (clL c v) 0]) c.tries v.1:=by
   rcases H with h1 | ⟨h1,b,g,h2,h3⟩
   ·exact .inl h1
   ·exact .inr ⟨h1,b,g,h2,by rw[List.getElem?_append_left (ltG h3)]; exact h3⟩
  obtain⟨h',hf⟩:=UI HK
  have hac:=O8 HK []
  simp only[clL] at hf
  simp[tU,plB,a1,a1',l1,hd,dcS,clL,-LV.flat,cH,cF,cJ,f1,f2,cY,hf,e277]
  trace_state
 ·have hru:∀ X:LB,RuV (h++[X]) c.runs v.2:=fun X=>by
   rcases H2 with h1 | ⟨h1,b,g,h2,h3⟩
   ·exact .inl h1
   ·exact .inr ⟨h1,b,g,h2,by rw[List.getElem?_append_left (ltG h3)]; exact h3⟩
  obtain⟨v1,v2⟩:=v
  simp only at f1 f2
  rcases H2 with ⟨h1,h2⟩ | ⟨h1,b,g,h2,h3⟩
  ·simp only at h2
   subst h2
   rw[h1]
   simp[tU,plB,a1,a1',l1,hd,dcS,clL,-LV.flat,cH,cF,cJ,f1,f2]
  ·simp only at h2
   subst h2
   have hn:¬ c.runs.length=0:=fun e=>h1 (List.eq_nil_of_length_eq_zero e)
   simp[tU,plB,a1,a1',l1,hd,dcS,clL,-LV.flat,cH,cF,cJ,EI,f1,h1,hn]
theorem abZ (H:HpL r names s e c v vs L h) (hl:c.tries.length<1000):∃ h',SameH h.length h h'∧sfn P 236 [.ptr L.iv 0 0,.ptr L.cv 0 0,.ptr L.pv 0 0] h=some (.c (.bool (!decide (e.kind=.absent) || (decide (c.ph=.waiting) && ip r c))),h'):=by
 have HK:=H.app [.cells 1 [.c (.str [97,98,115,101,110,116])] 0]
 have q_i:=ltG H.gi
 have q_i':=(List.getElem?_eq_some_iff.1 H.gi).2
 have a_i:=HK.gi
 have a_i':=(List.getElem?_eq_some_iff.1 HK.gi).2
 have l_i:=ltG HK.gi
 simp only[List.length_append,List.length_singleton] at l_i
 have q_p:=ltG H.gp
 have q_p':=(List.getElem?_eq_some_iff.1 H.gp).2
 have a_p:=HK.gp
 have a_p':=(List.getElem?_eq_some_iff.1 HK.gp).2
 have l_p:=ltG HK.gp
 simp only[List.length_append,List.length_singleton] at l_p
 have q_c:=ltG H.gc
 have q_c':=(List.getElem?_eq_some_iff.1 H.gc).2
 have a_c:=HK.gc
 have a_c':=(List.getElem?_eq_some_iff.1 HK.gc).2
 have l_c:=ltG HK.gc
 simp only[List.length_append,List.length_singleton] at l_c
 have e215:=fq (P:=P) .absent e h L.ev H.ge
 simp only[kdS] at e215
 have hac:=qb H.gtr
 obtain⟨h',k1,k2⟩:=abH (P:=P) (h++[.cells 1 [.c (.str [97,98,115,101,110,116])] 0]) L.bp L.bc L.gc s.cls.length s.time HK.gpl HK.gtr HK.gru hl
 have hs:SameH h.length h (h++[.cells 1 [.c (.str [97,98,115,101,110,116])] 0]):=(SameH.rfl' (Nat.le_refl _)).app _
 have p1:phS c.ph=[119,97,105,116,105,110,103]↔c.ph=.waiting:=by cases c.ph<;>simp[phS]
 have hp:phS .waiting=[119,97,105,116,105,110,103]:=rfl
 rw[adq]
 simp only[clL] at hac k2
 generalize decide (e.kind=.absent)=b at *
 cases b
 ·refine⟨_,hs,?_⟩
  simp[zV,e215,H.gi,q_i,q_i',a_i,a_i',l_i,H.gp,q_p,q_p',a_p,a_p',l_p,H.gc,q_c,q_c',a_c,a_c',l_c]
 ·by_cases h1:c.ph=.waiting
  ·refine⟨h',hs.trans (k1.less (by simp)),?_⟩
   rw[h1] at hac k2
   rw[hp] at hac k2
   simp[zV,e215,clL,h1,hp,hac,k2,bf,pC,ax,bA,H.gi,q_i,q_i',a_i,a_i',l_i,H.gp,q_p,q_p',a_p,a_p',l_p,H.gc,q_c,q_c',a_c,a_c',l_c]
  ·refine⟨_,hs,?_⟩
   simp[zV,e215,clL,h1,p1,H.gi,q_i,q_i',a_i,a_i',l_i,H.gp,q_p,q_p',a_p,a_p',l_p,H.gc,q_c,q_c',a_c,a_c',l_c]
end LM.GZ
namespace LM.GZ
open Go LM
variable {P:Nat→Option SFunc} [Has P]
variable {r:CRn} {names:List Str} {s:CSs} {e:CEn} {c:CCl} {v:LV × LV} {vs:List (LV × LV)} {L:RLoc} {h:Heap}
def clC (c:CCl):List CV:=[.str (phS c.ph),.str (stS c.st),ci c.place,ci c.began,ci c.used,ci c.hold,.bool c.plus,.bool c.top,.bool c.op]
def clE (c:CCl):CV:=.agg (clC c++[.slice (c.tries.map trE),.slice (c.runs.map ci)])
def rnE (r:CRn) (names:List Str):CV:=.agg [.str (dcS r.dc),.slice (names.map CV.str),ci r.size,ci r.limit]
theorem fX {b k i g fz:Nat} {cs:List LV} {h:Heap} (e:h[i]? = some (.cells g cs fz)):∃ fz',(LM.bump b k h)[i]? = some (.cells g cs fz'):=by
 unfold LM.bump
 split
 ·rename_i g' cs' fz' hb
  by_cases hi:b=i
  ·subst hi
   rw[hb] at e
   cases e
   exact⟨_,by rw[List.getElem?_set_self (ltG hb)]⟩
  ·exact⟨fz,by rw[List.getElem?_set_ne hi]; exact e⟩
 ·exact⟨fz,e⟩
theorem Un (H:TrV h c.tries v.1) (H2:RuV h c.runs v.2):∃ h',frz ay (.agg (clL c v)) h=some (clE c,h'):=by
 have e0:clL c v=(clC c).map .c++[v.1,v.2]:=rfl
 have k1:∃ h1,frz 39 v.1 h=some (.slice (c.tries.map trE),h1)∧(∀ (g:Nat) (cs:List LV) (i fz:Nat),h[i]? = some (.cells g cs fz)→∃ fz',h1[i]? = some (.cells g cs fz')):=by
  rcases H with ⟨h1,h2⟩ | ⟨h1,b,g,h2,h3⟩
  ·rw[h1,h2]
   exact⟨h,by simp[qQ],fun g cs i fz e=>⟨fz,e⟩⟩
  ·rw[h2]
   exact⟨_,kA (b:=b) (g:=g) (fz:=0) (e:=some 4) (ys:=c.tries.map trE) (h:=h) (len:=c.tries.length) (by rw[iW]; exact h3) (od _) (by simp) none,fun g cs i fz e=>fX e⟩
 obtain⟨h1,e1,hb⟩:=k1
 have k2:∃ h2,frz 39 v.2 h1=some (.slice (c.runs.map ci),h2):=by
  rcases H2 with ⟨h3,h4⟩ | ⟨h3,b,g,h4,h5⟩
  ·rw[h3,h4]
   exact⟨h1,by simp[qQ]⟩
  ·obtain⟨fz,e2⟩:=hb _ _ _ _ h5
   rw[h4]
   exact⟨_,kA (b:=b) (g:=g) (fz:=fz) (e:=none) (ys:=c.runs.map ci) (h:=h1) (len:=c.runs.length) (by rw[bk]; exact e2) (dD _) (by simp) none⟩
 obtain⟨h2,e2⟩:=k2
 refine⟨h2,?_⟩
 rw[nN,e0,my 38]
 rw[bh,e1,ak,bh,e2,ak,io,ak,ak,ak,ak]
 rfl
theorem WE (x:Int):fn P 155 [rnE r names,clE c,ci x]=some (.bool (dq r c x)):=by
 have p1:phS c.ph=[111,110]↔c.ph=.on:=by cases c.ph<;>simp[phS]
 have hp:phS .on=[111,110]:=rfl
 rw[acM]
 unfold dq
 by_cases h1:c.ph=.on
 ·cases hd:r.dc
  ·simp[tT,rnE,clE,clC,h1,hp,hd,dcS]
  ·by_cases h2:c.place=x<;>simp[tT,rnE,clE,clC,h1,hp,hd,dcS,h2]
  ·by_cases h2:c.place=x<;>simp[tT,rnE,clE,clC,h1,hp,hd,dcS,h2]
 ·simp[tT,rnE,clE,clC,h1,p1]
def clB (c:CCl) (v:LV × LV):LB:=.cells 0 (clL c v) 0
def TM (bp eb bc gc n:Nat) (b:Bool) (i:Nat):List LV:=[.ptr bp 0 0,.ptr eb 0 0,.c (.bool b),.slice bc gc 0 n (some 11) none,.c (ci n),.c (ci i)]
theorem TrV.app {l:List CTr} {w:LV} (H:TrV h l w) (X:Heap):TrV (h++X) l w:=by
 rcases H with h1 | ⟨h1,b,g,h2,h3⟩
 ·exact .inl h1
 ·exact .inr ⟨h1,b,g,h2,by rw[List.getElem?_append_left (ltG h3)]; exact h3⟩
theorem RuV.app {l:List Int} {w:LV} (H:RuV h l w) (X:Heap):RuV (h++X) l w:=by
 rcases H with h1 | ⟨h1,b,g,h2,h3⟩
 ·exact .inl h1
 ·exact .inr ⟨h1,b,g,h2,by rw[List.getElem?_append_left (ltG h3)]; exact h3⟩
theorem acz (bp eb bc gc n i:Nat) (t:Int) (R:List LV) (gpl:h[bp]? = some (plB r names bc gc n t)) (ge:h[eb]? = some (enB e)) (gr:h[bc]? = some (.cells gc R 0)) (hRl:R.length=n*11) (hn:n<1000) (hi:i<n) (hR:(R.drop (i*11)).take 11=clL c v) (H:TrV h c.tries v.1) (H2:RuV h c.runs v.2) :
  ac P (af P) fo ⟨TM bp eb bc gc n true i,h⟩=if (decide (i=e.who) || !dq r c e.val)=true then some (.normal,⟨TM bp eb bc gc n true (i+1),h++[clB c v]⟩) else some (.exit 0,⟨[.c (.bool false)],h++[clB c v]⟩):=by
 obtain⟨w,kd,x,tm⟩:=e
 simp only at *
 have q1:=ltG gpl
 have q2:=ltG ge
 have q3:=ltG gr
 have q3':=(List.getElem?_eq_some_iff.1 gr).2
 have hii:(i:Int)<n:=by omega
 have hw:IntKind.i64.wrap ((i:Int)+1)=(i:Int)+1:=am (by omega) (by omega)
 have h11:11≤n*11-i*11:=by omega
 have f1:=jR H
 have f2:=jE H2
 have hac:=qb H
 have a1:∀ X:LB,(h++[X])[bp]? = some (plB r names bc gc n t):=fun X=>by rw[List.getElem?_append_left q1]; exact gpl
 have a1':=fun X=>(List.getElem?_eq_some_iff.1 (a1 X)).2
 have l1:bp<h.length+1:=by omega
 have a2:∀ X:LB,(h++[X])[eb]? = some (enB ⟨w,kd,x,tm⟩):=fun X=>by rw[List.getElem?_append_left q2]; exact ge
 have a2':=fun X=>(List.getElem?_eq_some_iff.1 (a2 X)).2
 have l2:eb<h.length+1:=by omega
 obtain⟨h',hf⟩:=Un (H.app [.cells 0 (clL c v) 0]) (H2.app _)
 have e155:=WE (P:=P) (r:=r) (names:=names) (c:=c) x
 have hwho:((i:Int)=w)=(i=w):=propext (by omega)
 simp only[clL] at hR hac hf
 simp only[rnE,clE] at e155 hf
 by_cases h1:i=w
 ·subst h1
  simp[TM,fo,hi,hii,hw,gr,q3,q3',hRl,hR,h11,hac,-LV.flat,cH,cF,cJ,f1,f2,a1,a1',l1,a2,a2',l2,enB,plB,clB,clL]
 ·generalize hb:dq r c x=b at *
  cases b
  ·simp[TM,fo,hi,hii,hw,gr,q3,q3',hRl,hR,h11,hac,-LV.flat,cH,cF,cJ,f1,f2,a1,a1',l1,a2,a2',l2,enB,plB,hwho,h1,clB,clL,cY,hf,e155]
  ·simp[TM,fo,hi,hii,hw,gr,q3,q3',hRl,hR,h11,hac,-LV.flat,cH,cF,cJ,f1,f2,a1,a1',l1,a2,a2',l2,enB,plB,hwho,h1,clB,clL,cY,hf,e155]
end LM.GZ
namespace LM.GZ
open Go LM
variable {P:Nat→Option SFunc} [Has P]
variable {r:CRn} {names:List Str} {s:CSs} {e:CEn} {c:CCl} {v:LV × LV} {vs:List (LV × LV)} {L:RLoc} {h:Heap}
def rowL (l:List (CCl × (LV × LV))):List LV:=l.flatMap fun x=>clL x.1 x.2
theorem fJ (c:CCl) (v:LV × LV):(clL c v).length=11:=rfl
theorem cE (l:List (CCl × (LV × LV))):(rowL l).length=l.length*11:=by
 induction l with
 | nil=>rfl
 | cons a l ih =>
  have:rowL (a::l)=clL a.1 a.2++rowL l:=rfl
  rw[this,List.length_append,ih,List.length_cons,fJ]; omega
theorem pq:∀ (l:List (CCl × (LV × LV))) (i:Nat) (x:CCl × (LV × LV)),l[i]? = some x→((rowL l).drop (i*11)).take 11=clL x.1 x.2
 | [],i,x,h=>by simp at h
 | a::l,0,x,h=>by
  simp at h
  subst h
  have:rowL (a::l)=clL a.1 a.2++rowL l:=rfl
  rw[this,Nat.zero_mul,List.drop_zero]
  exact List.take_left' (fJ _ _)
 | a::l,i+1,x,h=>by
  have ih:=pq l i x (by simpa using h)
  have:rowL (a::l)=clL a.1 a.2++rowL l:=rfl
  rw[this,← ih]
  have e1:(i+1)*11=(clL a.1 a.2).length+i*11:=by rw[fJ]; omega
  rw[e1,List.drop_append,List.drop_eq_nil_of_le (by omega),List.nil_append]
  congr 2
  omega
structure HpP (r:CRn) (names:List Str) (s:CSs) (vs:List (LV × LV)) (bp bc gc:Nat) (h:Heap):Prop where
 pl:h[bp]? = some (plB r names bc gc s.cls.length s.time)
 row:h[bc]? = some (.cells gc (rowL (s.cls.zip vs)) 0)
 len:vs.length=s.cls.length
 all:∀ x ∈ s.cls.zip vs,TrV h x.1.tries x.2.1∧RuV h x.1.runs x.2.2
theorem TrV.same {l:List CTr} {w:LV} {h' : Heap} {n:Nat} (H:TrV h l w) (hn:h.length≤n) (hs:SameH n h h'):TrV h' l w:=by
 rcases H with h1 | ⟨h1,b,g,h2,h3⟩
 ·exact .inl h1
 ·exact .inr ⟨h1,b,g,h2,(hs.2 _ (by have:=ltG h3; omega)).trans h3⟩
theorem RuV.same {l:List Int} {w:LV} {h' : Heap} {n:Nat} (H:RuV h l w) (hn:h.length≤n) (hs:SameH n h h'):RuV h' l w:=by
 rcases H with h1 | ⟨h1,b,g,h2,h3⟩
 ·exact .inl h1
 ·exact .inr ⟨h1,b,g,h2,(hs.2 _ (by have:=ltG h3; omega)).trans h3⟩
theorem HpP.same {bp bc gc:Nat} {h' : Heap} (H:HpP r names s vs bp bc gc h) (hs:SameH h.length h h'):HpP r names s vs bp bc gc h' :=
 ⟨(hs.2 _ (ltG H.pl)).trans H.pl,(hs.2 _ (ltG H.row)).trans H.row,H.len,fun x hx=>⟨(H.all x hx).1.same (Nat.le_refl _) hs,(H.all x hx).2.same (Nat.le_refl _) hs⟩⟩
theorem gcS {n:Nat} {ts:List LV} {h:Heap} (hn:n≤h.length) (hu:∀ v ∈ ts,v.under n=true):∃ h',gc n ⟨ts,h⟩=⟨ts,h'⟩∧SameH n h h':=by
 have hs:∀ ts:List LV,(∀ v ∈ ts,v.under n=true)→scrub n ts=ts:=by
  intro ts
  induction ts with
  | nil=>intro _; rfl
  | cons v r ih =>
   intro hu
   rw[scrub,hu v (by simp),ih (fun w hw=>hu w (by simp[hw]))]
   rfl
 unfold gc
 by_cases h1:bM n (h.take n)=true
 ·refine⟨h.take n,by simp[h1,hs ts hu],by simp; omega,fun i hi=>?_⟩
  rw[List.getElem?_take_of_lt hi]
 ·exact⟨h,by simp[h1],SameH.rfl' hn⟩
theorem abg (bp eb bc gc:Nat) (hn:s.cls.length<1000):∀ (m i:Nat) (h:Heap),i+m=s.cls.length→HpP r names s vs bp bc gc h→h[eb]? = some (enB e) →
  ∃ h',ac P (af P) lx ⟨TM bp eb bc gc s.cls.length true i,h⟩=some (.exit 0,⟨[.c (.bool ((List.range' i m).all fun i=>decide (i=e.who) || !dq r (s.cls.getD i clZ) e.val))],h'⟩)∧SameH h.length h h':=by
 intro m
 induction m with
 | zero =>
  intro i h hi H ge
  have hi' : i=s.cls.length:=by omega
  refine⟨h,?_,SameH.rfl' (Nat.le_refl _)⟩
  rw[D7]
  simp[TM,fo,hi']
 | succ m ih =>
  intro i h hi H ge
  have hil:i<s.cls.length:=by omega
  have hvl:i<vs.length:=by rw[H.len]; exact hil
  obtain⟨c,gc'⟩ : ∃ c,s.cls[i]? = some c:=⟨_,List.getElem?_eq_getElem hil⟩
  obtain⟨v,gv⟩ : ∃ v,vs[i]? = some v:=⟨_,List.getElem?_eq_getElem hvl⟩
  have gz:(s.cls.zip vs)[i]? = some (c,v):=by rw[List.getElem?_zip_eq_some]; exact⟨gc',gv⟩
  have hd:s.cls.getD i clZ=c:=by rw[List.getD_eq_getElem?_getD,gc']; rfl
  obtain⟨t1,t2⟩:=H.all _ (List.mem_of_getElem? gz)
  have hzl:(s.cls.zip vs).length=s.cls.length:=by rw[List.length_zip,H.len]; omega
  have hst:=acz (P:=P) (e:=e) bp eb bc gc s.cls.length i s.time _ H.pl ge H.row (by rw[cE,hzl]) hn hil (pq _ i _ gz) t1 t2
  rw[List.range'_succ,List.all_cons,hd,D7,hst]
  cases hb:(decide (i=e.who) || !dq r c e.val)
  ·simp only[Bool.false_eq_true,if_false,HH,Bool.false_and]
   exact⟨_,rfl,(SameH.rfl' (Nat.le_refl _)).app _⟩
  ·simp only[if_true,iE,Bool.true_and]
   have hs0:SameH h.length h (h++[clB c v]):=(SameH.rfl' (Nat.le_refl _)).app _
   have q1:=ltG H.pl
   have q2:=ltG H.row
   have q3:=ltG ge
   obtain⟨hg',hg1,hg2⟩:=gcS (n:=h.length) (ts:=TM bp eb bc gc s.cls.length true (i+1)) (h:=h++[clB c v]) (by simp) (by
    intro w hw
    simp only[TM,List.mem_cons,List.not_mem_nil,or_false] at hw
    rcases hw with rfl | rfl | rfl | rfl | rfl | rfl<;>simp[LV.under]<;>omega)
   show ∃ h',ac P (af P) lx (LM.gc h.length _)=_∧_
   rw[hg1]
   have hs:=hs0.trans hg2
   obtain⟨h',i1,i2⟩:=ih (i+1) hg' (by omega) (H.same hs) ((hs.2 _ q3).trans ge)
   exact⟨h',i1,hs.trans (i2.less hs.1)⟩
def enE (e:CEn):CV:=.agg [ci e.who,.str (kdS e.kind),ci e.val,ci e.time]
theorem ac2 {bp bc gc:Nat} (H:HpP r names s vs bp bc gc h) (hn:s.cls.length<1000):∃ h',SameH h.length h h'∧sfn P 223 [.ptr bp 0 0,.c (enE e)] h=some (.c (.bool (fx r s.cls e)),h'):=by
 have hs:SameH h.length h (h++[enB e]):=(SameH.rfl' (Nat.le_refl _)).app _
 obtain⟨h',k1,k2⟩:=abg (P:=P) (e:=e) bp h.length bc gc hn s.cls.length 0 (h++[enB e]) (by omega) (H.same hs) (by simp)
 have q1:=ltG H.pl
 have a1:∀ X:LB,(h++[X])[bp]? = some (plB r names bc gc s.cls.length s.time):=fun X=>by rw[List.getElem?_append_left q1]; exact H.pl
 have a1':=fun X=>(List.getElem?_eq_some_iff.1 (a1 X)).2
 have l1:bp<h.length+1:=by omega
 have er:(List.range' 0 s.cls.length).all (fun i=>decide (i=e.who) || !dq r (s.cls.getD i clZ) e.val)=fx r s.cls e:=by rw[← List.range_eq_range']; rfl
 rw[er] at k1
 refine⟨h',hs.trans (k2.less (by simp)),?_⟩
 generalize fx r s.cls e=b at *
 simp[TM,enB] at k1
 rw[abq]
 simp[LS,plB,enE,a1,a1',l1,k1]
end LM.GZ
namespace LM.GZ
open Go LM
variable {P:Nat→Option SFunc} [Has P]
variable {r:CRn} {names:List Str} {s:CSs} {e:CEn} {c:CCl} {v:LV × LV} {vs:List (LV × LV)} {L:RLoc} {h:Heap}
theorem aaj (H:HpL r names s e c v vs L h) (HP:HpP r names s vs L.bp L.bc L.gc h) (hn:s.cls.length<1000):∃ h',SameH h.length h h'∧sfn P 222 [.ptr L.iv 0 0,.ptr L.pv 0 0,.ptr L.ev 0 0] h=some (.c (.bool (!decide (e.kind=.start) || fx r s.cls e)),h'):=by
 have HK:=H.app [.cells 1 [.c (.str [115,116,97,114,116])] 0]
 have q_i:=ltG H.gi
 have q_i':=(List.getElem?_eq_some_iff.1 H.gi).2
 have a_i:=HK.gi
 have a_i':=(List.getElem?_eq_some_iff.1 HK.gi).2
 have l_i:=ltG HK.gi
 simp only[List.length_append,List.length_singleton] at l_i
 have q_p:=ltG H.gp
 have q_p':=(List.getElem?_eq_some_iff.1 H.gp).2
 have a_p:=HK.gp
 have a_p':=(List.getElem?_eq_some_iff.1 HK.gp).2
 have l_p:=ltG HK.gp
 simp only[List.length_append,List.length_singleton] at l_p
 have q_e:=ltG H.ge
 have q_e':=(List.getElem?_eq_some_iff.1 H.ge).2
 have a_e:=HK.ge
 have a_e':=(List.getElem?_eq_some_iff.1 HK.ge).2
 have l_e:=ltG HK.ge
 simp only[List.length_append,List.length_singleton] at l_e
 have e215:=fq (P:=P) .start e h L.ev H.ge
 simp only[kdS] at e215
 have hs:SameH h.length h (h++[.cells 1 [.c (.str [115,116,97,114,116])] 0]):=(SameH.rfl' (Nat.le_refl _)).app _
 obtain⟨h',k1,k2⟩:=ac2 (P:=P) (e:=e) (HP.same hs) hn
 rw[ac7]
 simp only[enE] at k2
 generalize decide (e.kind=.start)=b at *
 cases b
 ·refine⟨_,hs,?_⟩
  simp[GA,e215,H.gi,q_i,q_i',a_i,a_i',l_i,H.gp,q_p,q_p',a_p,a_p',l_p,H.ge,q_e,q_e',a_e,a_e',l_e]
 ·refine⟨h',hs.trans (k1.less (by simp)),?_⟩
  simp[GA,e215,enB,k2,bf,ax,bA,H.gi,q_i,q_i',a_i,a_i',l_i,H.gp,q_p,q_p',a_p,a_p',l_p,H.ge,q_e,q_e',a_e,a_e',l_e]
theorem ado (H:HpL r names s e c v vs L h):∃ h',SameH h.length h h'∧sfn P 276 [.func 218 [] [.ptr L.ev 0 0,.ptr L.pv 0 0]] h=some (.c (.bool (!(decide (s.time≤e.time)))),h'):=by
 obtain⟨h',k1,k2⟩:=abJ (P:=P) H
 refine⟨h',k1,?_⟩
 rw[fL]
 generalize (decide (s.time≤e.time))=b at *
 simp[eS,k2,bf,ax]
theorem adk (H:HpL r names s e c v vs L h):∃ h',SameH h.length h h'∧sfn P 276 [.func 219 [] [.ptr L.cv 0 0,.ptr L.iv 0 0]] h=some (.c (.bool (!(decide (c.ph≠.done) || (decide (e.kind=.bar) && decide (c.st≠.dsq))))),h'):=by
 obtain⟨h',k1,k2⟩:=abP (P:=P) H
 refine⟨h',k1,?_⟩
 rw[fL]
 generalize (decide (c.ph≠.done) || (decide (e.kind=.bar) && decide (c.st≠.dsq)))=b at *
 simp[eS,k2,bf,ax]
theorem ack (H:HpL r names s e c v vs L h):∃ h',SameH h.length h h'∧sfn P 276 [.func 220 [] [.ptr L.kv 0 0,.ptr L.pv 0 0]] h=some (.c (.bool (!(kindIn e.kind r.dc))),h'):=by
 obtain⟨h',k1,k2⟩:=ade (P:=P) H
 refine⟨h',k1,?_⟩
 rw[fL]
 generalize (kindIn e.kind r.dc)=b at *
 simp[eS,k2,bf,ax]
theorem aaV (H:HpL r names s e c v vs L h):∃ h',SameH h.length h h'∧sfn P 276 [.func 221 [] [.ptr L.iv 0 0,.ptr L.cv 0 0]] h=some (.c (.bool (!(!decide (e.kind=.start) || decide (c.ph=.waiting)))),h'):=by
 obtain⟨h',k1,k2⟩:=aae (P:=P) H
 refine⟨h',k1,?_⟩
 rw[fL]
 generalize (!decide (e.kind=.start) || decide (c.ph=.waiting))=b at *
 simp[eS,k2,bf,ax]
theorem aah (H:HpL r names s e c v vs L h) (HP:HpP r names s vs L.bp L.bc L.gc h) (hn:s.cls.length<1000):∃ h',SameH h.length h h'∧sfn P 276 [.func 222 [] [.ptr L.iv 0 0,.ptr L.pv 0 0,.ptr L.ev 0 0]] h=some (.c (.bool (!(!decide (e.kind=.start) || fx r s.cls e))),h'):=by
 obtain⟨h',k1,k2⟩:=aaj (P:=P) H HP hn
 refine⟨h',k1,?_⟩
 rw[fL]
 generalize (!decide (e.kind=.start) || fx r s.cls e)=b at *
 simp[eS,k2,bf,ax]
theorem acy (H:HpL r names s e c v vs L h) (hx:0≤e.val∧e.val≤86399999) (hlen:r.dc=.boulder→c.tries.length=r.size):∃ h',SameH h.length h h'∧sfn P 276 [.func 224 [] [.ptr L.iv 0 0,.ptr L.pv 0 0,.ptr L.cv 0 0,.ptr L.ev 0 0]] h=some (.c (.bool (!(!decide (e.kind=.start) || suitsB r c e.val))),h'):=by
 obtain⟨h',k1,k2⟩:=acv (P:=P) H hx hlen
 refine⟨h',k1,?_⟩
 rw[fL]
 generalize (!decide (e.kind=.start) || suitsB r c e.val)=b at *
 simp[eS,k2,bf,ax]
theorem acO (H:HpL r names s e c v vs L h):∃ h',SameH h.length h h'∧sfn P 276 [.func 226 [] [.ptr L.iv 0 0,.ptr L.cv 0 0]] h=some (.c (.bool (!((decide (e.kind=.start) || (decide (e.kind=.absent) || decide (e.kind=.bar))) || decide (c.ph=.on)))),h'):=by
 obtain⟨h',k1,k2⟩:=abL (P:=P) H
 refine⟨h',k1,?_⟩
 rw[fL]
 generalize ((decide (e.kind=.start) || (decide (e.kind=.absent) || decide (e.kind=.bar))) || decide (c.ph=.on))=b at *
 simp[eS,k2,bf,ax]
theorem aar (H:HpL r names s e c v vs L h):∃ h',SameH h.length h h'∧sfn P 276 [.func 227 [] [.ptr L.iv 0 0,.ptr L.ev 0 0,.ptr L.lv 0 0]] h=some (.c (.bool (!(!(decide (e.kind=.hold) || (decide (e.kind=.plus) || (decide (e.kind=.attempt) || (decide (e.kind=.zone) || decide (e.kind=.top))))) || decide (e.time≤c.began+r.limit)))),h'):=by
 obtain⟨h',k1,k2⟩:=abv (P:=P) H
 refine⟨h',k1,?_⟩
 rw[fL]
 generalize (!(decide (e.kind=.hold) || (decide (e.kind=.plus) || (decide (e.kind=.attempt) || (decide (e.kind=.zone) || decide (e.kind=.top))))) || decide (e.time≤c.began+r.limit))=b at *
 simp[eS,k2,bf,ax]
theorem aa4 (H:HpL r names s e c v vs L h):∃ h',SameH h.length h h'∧sfn P 276 [.func 228 [] [.ptr L.iv 0 0,.ptr L.ev 0 0,.ptr L.lv 0 0]] h=some (.c (.bool (!(!decide (e.kind=.out) || decide (c.began+r.limit≤e.time)))),h'):=by
 obtain⟨h',k1,k2⟩:=abk (P:=P) H
 refine⟨h',k1,?_⟩
 rw[fL]
 generalize (!decide (e.kind=.out) || decide (c.began+r.limit≤e.time))=b at *
 simp[eS,k2,bf,ax]
theorem ab6 (H:HpL r names s e c v vs L h):∃ h',SameH h.length h h'∧sfn P 276 [.func 229 [] [.ptr L.iv 0 0,.ptr L.ev 0 0,.ptr L.cv 0 0,.ptr L.pv 0 0]] h=some (.c (.bool (!(!decide (e.kind=.hold) || (decide (c.hold<e.val) && decide (e.val≤r.size))))),h'):=by
 obtain⟨h',k1,k2⟩:=acB (P:=P) H
 refine⟨h',k1,?_⟩
 rw[fL]
 generalize (!decide (e.kind=.hold) || (decide (c.hold<e.val) && decide (e.val≤r.size)))=b at *
 simp[eS,k2,bf,ax]
theorem ac4 (H:HpL r names s e c v vs L h):∃ h',SameH h.length h h'∧sfn P 276 [.func 230 [] [.ptr L.iv 0 0,.ptr L.cv 0 0,.ptr L.pv 0 0]] h=some (.c (.bool (!(!decide (e.kind=.plus) || (!c.plus && decide (c.hold<r.size))))),h'):=by
 obtain⟨h',k1,k2⟩:=acW (P:=P) H
 refine⟨h',k1,?_⟩
 rw[fL]
 generalize (!decide (e.kind=.plus) || (!c.plus && decide (c.hold<r.size)))=b at *
 simp[eS,k2,bf,ax]
theorem acL (H:HpL r names s e c v vs L h):∃ h',SameH h.length h h'∧sfn P 276 [.func 231 [] [.ptr L.pv 0 0,.ptr L.cv 0 0,.ptr L.ev 0 0]] h=some (.c (.bool (!(readyB r c e.kind))),h'):=by
 obtain⟨h',k1,k2⟩:=acA (P:=P) H
 refine⟨h',k1,?_⟩
 rw[fL]
 generalize (readyB r c e.kind)=b at *
 simp[eS,k2,bf,ax]
theorem acC (H:HpL r names s e c v vs L h):∃ h',SameH h.length h h'∧sfn P 276 [.func 233 [] [.ptr L.iv 0 0,.ptr L.cv 0 0,.ptr L.tv 0 0]] h=some (.c (.bool (!(!decide (e.kind=.attempt) || (!c.op && decide ((tNow r c).top=0) && decide ((tNow r c).att<99))))),h'):=by
 obtain⟨h',k1,k2⟩:=adv (P:=P) H
 refine⟨h',k1,?_⟩
 rw[fL]
 generalize (!decide (e.kind=.attempt) || (!c.op && decide ((tNow r c).top=0) && decide ((tNow r c).att<99)))=b at *
 simp[eS,k2,bf,ax]
theorem abz (H:HpL r names s e c v vs L h):∃ h',SameH h.length h h'∧sfn P 276 [.func 234 [] [.ptr L.iv 0 0,.ptr L.tv 0 0]] h=some (.c (.bool (!(!decide (e.kind=.zone) || (decide ((tNow r c).zone=0))))),h'):=by
 obtain⟨h',k1,k2⟩:=adn (P:=P) H
 refine⟨h',k1,?_⟩
 rw[fL]
 generalize (!decide (e.kind=.zone) || (decide ((tNow r c).zone=0)))=b at *
 simp[eS,k2,bf,ax]
theorem acZ (H:HpL r names s e c v vs L h) (hw:IntKind.i64.wrap (e.time-c.began)=e.time-c.began):∃ h',SameH h.length h h'∧sfn P 276 [.func 235 [] [.ptr L.iv 0 0,.ptr L.ev 0 0,.ptr L.cv 0 0]] h=some (.c (.bool (!(!decide (e.kind=.finish) || (decide (1≤e.val) && decide (e.val≤e.time-c.began))))),h'):=by
 obtain⟨h',k1,k2⟩:=aay (P:=P) H hw
 refine⟨h',k1,?_⟩
 rw[fL]
 generalize (!decide (e.kind=.finish) || (decide (1≤e.val) && decide (e.val≤e.time-c.began)))=b at *
 simp[eS,k2,bf,ax]
theorem acQ (H:HpL r names s e c v vs L h) (hl:c.tries.length<1000):∃ h',SameH h.length h h'∧sfn P 276 [.func 236 [] [.ptr L.iv 0 0,.ptr L.cv 0 0,.ptr L.pv 0 0]] h=some (.c (.bool (!(!decide (e.kind=.absent) || (decide (c.ph=.waiting) && ip r c)))),h'):=by
 obtain⟨h',k1,k2⟩:=abZ (P:=P) H hl
 refine⟨h',k1,?_⟩
 rw[fL]
 generalize (!decide (e.kind=.absent) || (decide (c.ph=.waiting) && ip r c))=b at *
 simp[eS,k2,bf,ax]
def oY (L:RLoc):List LV:=[.func 218 [] [.ptr L.ev 0 0,.ptr L.pv 0 0],.func 219 [] [.ptr L.cv 0 0,.ptr L.iv 0 0],.func 220 [] [.ptr L.kv 0 0,.ptr L.pv 0 0],.func 221 [] [.ptr L.iv 0 0,.ptr L.cv 0 0],.func 222 [] [.ptr L.iv 0 0,.ptr L.pv 0 0,.ptr L.ev 0 0],.func 224 [] [.ptr L.iv 0 0,.ptr L.pv 0 0,.ptr L.cv 0 0,.ptr L.ev 0 0],.func 226 [] [.ptr L.iv 0 0,.ptr L.cv 0 0],.func 227 [] [.ptr L.iv 0 0,.ptr L.ev 0 0,.ptr L.lv 0 0],.func 228 [] [.ptr L.iv 0 0,.ptr L.ev 0 0,.ptr L.lv 0 0],.func 229 [] [.ptr L.iv 0 0,.ptr L.ev 0 0,.ptr L.cv 0 0,.ptr L.pv 0 0],.func 230 [] [.ptr L.iv 0 0,.ptr L.cv 0 0,.ptr L.pv 0 0],.func 231 [] [.ptr L.pv 0 0,.ptr L.cv 0 0,.ptr L.ev 0 0],.func 233 [] [.ptr L.iv 0 0,.ptr L.cv 0 0,.ptr L.tv 0 0],.func 234 [] [.ptr L.iv 0 0,.ptr L.tv 0 0],.func 235 [] [.ptr L.iv 0 0,.ptr L.ev 0 0,.ptr L.cv 0 0],.func 236 [] [.ptr L.iv 0 0,.ptr L.cv 0 0,.ptr L.pv 0 0]]
def qI (r:CRn) (s:CSs) (e:CEn) (c:CCl):List Bool:=[decide (s.time≤e.time),decide (c.ph≠.done) || (decide (e.kind=.bar) && decide (c.st≠.dsq)),kindIn e.kind r.dc,!decide (e.kind=.start) || decide (c.ph=.waiting),!decide (e.kind=.start) || fx r s.cls e,!decide (e.kind=.start) || suitsB r c e.val,(decide (e.kind=.start) || (decide (e.kind=.absent) || decide (e.kind=.bar))) || decide (c.ph=.on),!(decide (e.kind=.hold) || (decide (e.kind=.plus) || (decide (e.kind=.attempt) || (decide (e.kind=.zone) || decide (e.kind=.top))))) || decide (e.time≤c.began+r.limit),!decide (e.kind=.out) || decide (c.began+r.limit≤e.time),!decide (e.kind=.hold) || (decide (c.hold<e.val) && decide (e.val≤r.size)),!decide (e.kind=.plus) || (!c.plus && decide (c.hold<r.size)),readyB r c e.kind,!decide (e.kind=.attempt) || (!c.op && decide ((tNow r c).top=0) && decide ((tNow r c).att<99)),!decide (e.kind=.zone) || (decide ((tNow r c).zone=0)),!decide (e.kind=.finish) || (decide (1≤e.val) && decide (e.val≤e.time-c.began)),!decide (e.kind=.absent) || (decide (c.ph=.waiting) && ip r c)]
theorem Qn (r:CRn) (s:CSs) (e:CEn) (c:CCl):qI r s e c=kb r s e c:=by
 simp only[qI,kb,Bool.or_assoc]
theorem acU (fs:List LV) (bs:List Bool) (hb:bs.length=fs.length) (hl:fs.length<1000) (lb:Nat) (h0:Heap) (hlb:h0[lb]? = some (.cells 1 fs 0)) (hrun:∀ (i:Nat) (F:LV) (b:Bool),fs[i]? = some F→bs[i]? = some b→∀ k,SameH h0.length h0 k→∃ k',SameH k.length k k'∧sfn P 276 [F] k=some (.c (.bool (!b)),k')) :
  ∀ (m i:Nat) (h:Heap),i+m=fs.length→SameH h0.length h0 h→∃ h',SameH h.length h h'∧ac P (af P) sm ⟨[.slice lb 1 0 fs.length none (some fs.length),.c (.func 276 [] []),.c (ci fs.length),.c (ci i)],h⟩=if cx (i+1) (bs.drop i)=0 then some (.exit 0,⟨[],h'⟩) else some (.ret,⟨[.c (ci ((cx (i+1) (bs.drop i):Int)-1))],h'⟩):=by
 have hlt:=ltG hlb
 intro m
 induction m with
 | zero =>
  intro i h hi hs
  refine⟨h,SameH.rfl' (Nat.le_refl _),?_⟩
  have hi' : i=fs.length:=by omega
  have hd:bs.drop i=[]:=List.drop_eq_nil_of_le (by omega)
  rw[hd,FA]
  simp[iD,hi',cx]
 | succ m ih =>
  intro i h hi hs
  have hil:i<fs.length:=by omega
  have hbl:i<bs.length:=by omega
  obtain⟨F,gF⟩ : ∃ F,fs[i]? = some F:=⟨_,List.getElem?_eq_getElem hil⟩
  obtain⟨b,gb⟩ : ∃ b,bs[i]? = some b:=⟨_,List.getElem?_eq_getElem hbl⟩
  have gF':=(List.getElem?_eq_some_iff.1 gF).2
  obtain⟨k',k1,k2⟩:=hrun i F b gF gb h hs
  have gl:h[lb]? = some (.cells 1 fs 0):=(hs.2 _ hlt).trans hlb
  have gl':=(List.getElem?_eq_some_iff.1 gl).2
  have gll:=ltG gl
  have hii:(i:Int)<fs.length:=by omega
  have hw:IntKind.i64.wrap ((i:Int)+1)=(i:Int)+1:=am (by omega) (by omega)
  have hd:bs.drop i=b::bs.drop (i+1):=by rw[List.drop_eq_getElem_cons hbl,(List.getElem?_eq_some_iff.1 gb).2]
  rw[hd,cx,FA]
  cases b
  ·refine⟨k',k1,?_⟩
   have e1:((i+1:Nat):Int)-1=i:=by omega
   simp only[Bool.false_eq_true,if_false]
   rw[if_neg (by omega:¬ i+1=0),e1]
   simp at k2
   simp[iD,hil,hii,gl,gl',gll,gF,gF',k2]
  ·rw[if_pos rfl]
   simp at k2
   obtain⟨hg',hg1,hg2⟩:=gcS (n:=h.length) (ts:=[.slice lb 1 0 fs.length none (some fs.length),.c (.func 276 [] []),.c (ci fs.length),.c (ci ((i:Int)+1))]) (h:=k') k1.1 (by
    intro w hw
    simp only[List.mem_cons,List.not_mem_nil,or_false] at hw
    rcases hw with rfl | rfl | rfl | rfl<;>simp[LV.under]<;>omega)
   obtain⟨h',i1,i2⟩:=ih (i+1) hg' (by omega) (hs.trans ((k1.trans hg2).less hs.1))
   refine⟨h',(k1.trans hg2).trans (i1.less hg2.1),?_⟩
   have ek:((i+1:Nat):Int)=(i:Int)+1:=by omega
   rw[ek] at i2
   rw[← i2,← hg1]
   simp[iD,hil,hii,gl,gl',gll,gF,gF',hw,k2,-LM.gc]
end LM.GZ
namespace LM.GZ
open Go LM
variable {P:Nat→Option SFunc} [Has P]
variable {r:CRn} {names:List Str} {s:CSs} {e:CEn} {c:CCl} {v:LV × LV} {vs:List (LV × LV)} {L:RLoc} {h:Heap}
def kdF:CKd→Nat
 | .start=>258
 | .hold=>259
 | .plus=>260
 | .attempt=>261
 | .zone=>262
 | .top=>263
 | .fall=>264
 | .leave=>265
 | .out=>267
 | .finish=>268
 | .wrong=>270
 | .incident=>272
 | .absent=>273
 | .bar=>274
def kdAll:List CKd:=[.start,.hold,.plus,.attempt,.zone,.top,.fall,.leave,.out,.finish,.wrong,.incident,.absent,.bar]
def kdC (k:CKd):CV:=.agg [.slice ((kdD k).map fun d=>.str (dcS d)),.bool (jH k),.func (kdF k) [] []]
def vN:CV:=.map (kdAll.map fun k=>.str (kdS k)) (kdAll.map kdC)
theorem fZ (x:Str):cP (.one 1) (.str x)=true:=rfl
theorem OS:fn P 214 []=some vN:=by
 have f0:aH (.one 1) (.str [115,116,97,114,116]) []=some none:=rfl
 have f1:aH (.one 1) (.str [104,111,108,100]) [.str [115,116,97,114,116]]=some none:=rfl
 have f2:aH (.one 1) (.str [112,108,117,115]) [.str [115,116,97,114,116],.str [104,111,108,100]]=some none:=rfl
 have f3:aH (.one 1) (.str [97,116,116,101,109,112,116]) [.str [115,116,97,114,116],.str [104,111,108,100],.str [112,108,117,115]]=some none:=rfl
 have f4:aH (.one 1) (.str [122,111,110,101]) [.str [115,116,97,114,116],.str [104,111,108,100],.str [112,108,117,115],.str [97,116,116,101,109,112,116]]=some none:=rfl
 have f5:aH (.one 1) (.str [116,111,112]) [.str [115,116,97,114,116],.str [104,111,108,100],.str [112,108,117,115],.str [97,116,116,101,109,112,116],.str [122,111,110,101]]=some none:=rfl
 have f6:aH (.one 1) (.str [102,97,108,108]) [.str [115,116,97,114,116],.str [104,111,108,100],.str [112,108,117,115],.str [97,116,116,101,109,112,116],.str [122,111,110,101],.str [116,111,112]]=some none:=rfl
 have f7:aH (.one 1) (.str [108,101,97,118,101]) [.str [115,116,97,114,116],.str [104,111,108,100],.str [112,108,117,115],.str [97,116,116,101,109,112,116],.str [122,111,110,101],.str [116,111,112],.str [102,97,108,108]]=some none:=rfl
 have f8:aH (.one 1) (.str [111,117,116]) [.str [115,116,97,114,116],.str [104,111,108,100],.str [112,108,117,115],.str [97,116,116,101,109,112,116],.str [122,111,110,101],.str [116,111,112],.str [102,97,108,108],.str [108,101,97,118,101]]=some none:=rfl
 have f9:aH (.one 1) (.str [102,105,110,105,115,104]) [.str [115,116,97,114,116],.str [104,111,108,100],.str [112,108,117,115],.str [97,116,116,101,109,112,116],.str [122,111,110,101],.str [116,111,112],.str [102,97,108,108],.str [108,101,97,118,101],.str [111,117,116]]=some none:=rfl
 have f10:aH (.one 1) (.str [102,97,108,115,101]) [.str [115,116,97,114,116],.str [104,111,108,100],.str [112,108,117,115],.str [97,116,116,101,109,112,116],.str [122,111,110,101],.str [116,111,112],.str [102,97,108,108],.str [108,101,97,118,101],.str [111,117,116],.str [102,105,110,105,115,104]]=some none:=rfl
 have f11:aH (.one 1) (.str [105,110,99,105,100,101,110,116]) [.str [115,116,97,114,116],.str [104,111,108,100],.str [112,108,117,115],.str [97,116,116,101,109,112,116],.str [122,111,110,101],.str [116,111,112],.str [102,97,108,108],.str [108,101,97,118,101],.str [111,117,116],.str [102,105,110,105,115,104],.str [102,97,108,115,101]]=some none:=rfl
 have f12:aH (.one 1) (.str [97,98,115,101,110,116]) [.str [115,116,97,114,116],.str [104,111,108,100],.str [112,108,117,115],.str [97,116,116,101,109,112,116],.str [122,111,110,101],.str [116,111,112],.str [102,97,108,108],.str [108,101,97,118,101],.str [111,117,116],.str [102,105,110,105,115,104],.str [102,97,108,115,101],.str [105,110,99,105,100,101,110,116]]=some none:=rfl
 have f13:aH (.one 1) (.str [98,97,114]) [.str [115,116,97,114,116],.str [104,111,108,100],.str [112,108,117,115],.str [97,116,116,101,109,112,116],.str [122,111,110,101],.str [116,111,112],.str [102,97,108,108],.str [108,101,97,118,101],.str [111,117,116],.str [102,105,110,105,115,104],.str [102,97,108,115,101],.str [105,110,99,105,100,101,110,116],.str [97,98,115,101,110,116]]=some none:=rfl
 rw[acG]
 simp[MT,fZ,f0,f1,f2,f3,f4,f5,f6,f7,f8,f9,f10,f11,f12,f13]
 rfl
theorem uF (k:CKd):∃ i,aH (.one 1) (.str (kdS k)) (kdAll.map fun k=>.str (kdS k))=some (some i)∧(kdAll.map kdC)[i]? = some (kdC k):=by
 cases k
 all_goals first
  | exact⟨0,rfl,rfl⟩
  | exact⟨1,rfl,rfl⟩
  | exact⟨2,rfl,rfl⟩
  | exact⟨3,rfl,rfl⟩
  | exact⟨4,rfl,rfl⟩
  | exact⟨5,rfl,rfl⟩
  | exact⟨6,rfl,rfl⟩
  | exact⟨7,rfl,rfl⟩
  | exact⟨8,rfl,rfl⟩
  | exact⟨9,rfl,rfl⟩
  | exact⟨10,rfl,rfl⟩
  | exact⟨11,rfl,rfl⟩
  | exact⟨12,rfl,rfl⟩
  | exact⟨13,rfl,rfl⟩
theorem Qm {l:List CTr} {w:LV} {h:Heap} {x:Int} (H:TrV h l w) (h1:1≤x) (h2:x≤l.length):∃ b g,w=.slice b g 0 l.length (some 4) none∧h[b]? = some (.cells g (l.flatMap trL) 0):=by
 rcases H with ⟨hn,_⟩ | ⟨_,b,g,hv,hb⟩
 ·rw[hn] at h2
  simp at h2
  omega
 ·exact⟨b,g,hv,hb⟩
theorem Yu (cv:Nat) (h:Heap) (gC:h[cv]? = some (.cells 0 (clL c v) 0)) (H:TrV h c.tries v.1) (h1:1≤c.place) (h2:c.place≤c.tries.length) (hl:c.tries.length<1000):∃ b g,h[b]? = some (.cells g (c.tries.flatMap trL) 0)∧sfn P 216 [.ptr cv 0 0] h=some (.ptr b g ((c.place-1).toNat*4),h):=by
 obtain⟨b,g,hv,hb⟩:=Qm H h1 h2
 refine⟨b,g,hb,?_⟩
 obtain⟨v1,v2⟩:=v
 simp only at hv
 subst hv
 have q1:=ltG gC
 have q1':=(List.getElem?_eq_some_iff.1 gC).2
 have q2:=ltG hb
 have q2':=(List.getElem?_eq_some_iff.1 hb).2
 have hw:IntKind.i64.wrap (c.place-1)=c.place-1:=am (by omega) (by omega)
 have n3:0≤c.place-1:=by omega
 have n4:c.place-1<c.tries.length:=by omega
 have n5:1≤c.place:=h1
 have et:(c.place-1).toNat=c.place.toNat-1:=by omega
 rw[et]
 rw[aau]
 simp[L3,gC,q1,q1',clL,hb,q2,q2',hw,n3,n4,n5]
theorem adu (fs:List LV) (bs:List Bool) (hb:bs.length=fs.length) (hl:fs.length<1000) (lb:Nat) (h:Heap) (hlb:h[lb]? = some (.cells 1 fs 0)) (hrun:∀ (i:Nat) (F:LV) (b:Bool),fs[i]? = some F→bs[i]? = some b→∀ k,SameH h.length h k→∃ k',SameH k.length k k'∧sfn P 276 [F] k=some (.c (.bool (!b)),k')) :
  ∃ h',SameH h.length h h'∧sfn P 217 [.slice lb 1 0 fs.length none (some fs.length)] h=some (.c (ci (cx 1 bs)),h'):=by
 obtain⟨h',k1,k2⟩:=acU (P:=P) fs bs hb hl lb h hlb hrun fs.length 0 h (by omega) (SameH.rfl' (Nat.le_refl _))
 refine⟨h',k1,?_⟩
 rw[List.drop_zero,Nat.zero_add] at k2
 have hbr:cx 1 bs≤bs.length:=by
  have key:∀ (l:List Bool) (i:Nat),cx i l≤i+l.length-1:=by
   intro l
   induction l with
   | nil=>intro i; simp[cx]
   | cons a l ih =>
    intro i
    rw[cx]
    have:=ih (i+1)
    simp only[List.length_cons]
    split<;>omega
  have:=key bs 1
  omega
 generalize cx 1 bs=B at *
 have hlB:LV.flat (.slice lb 1 0 fs.length none (some fs.length))=true:=rfl
 by_cases h0:B=0
 ·subst h0
  simp at k2
  have e275:sfn P 275 [.slice lb 1 0 fs.length none (some fs.length),.c (.func 276 [] [])] h=some (.c (ci (-1)),h'):=by
   rw[T5]
   simp[He,k2]
  have w0:IntKind.i64.wrap 0=0:=rfl
  rw[Uu]
  simp[Gd,e275,w0]
 ·rw[if_neg h0] at k2
  simp at k2
  have e275:sfn P 275 [.slice lb 1 0 fs.length none (some fs.length),.c (.func 276 [] [])] h=some (.c (ci ((B:Int)-1)),h'):=by
   rw[T5]
   simp[He,k2]
  have hw:IntKind.i64.wrap (1+((B:Int)-1))=B:=by
   have:(1+((B:Int)-1))=B:=by omega
   rw[this]
   exact am (by omega) (by omega)
  rw[Uu]
  simp[Gd,e275,hw]
end LM.GZ
namespace LM.GZ
open Go LM
variable {P:Nat→Option SFunc} [Has P]
variable {r:CRn} {names:List Str} {s:CSs} {e:CEn} {c:CCl} {v:LV × LV} {vs:List (LV × LV)} {L:RLoc} {h:Heap}
theorem HpL.same {h' : Heap} (H:HpL r names s e c v vs L h) (hs:SameH h.length h h'):HpL r names s e c v vs L h':=by
 have key:∀ {i:Nat} {B:LB},h[i]? = some B→h'[i]? = some B:=fun e=>(hs.2 _ (ltG e)).trans e
 refine⟨key H.gpl,key H.gp,key H.ge,key H.gc,?_,key H.gi,key H.gl,key H.gt,key H.grow,H.gtr.same (Nat.le_refl _) hs,H.gru.same (Nat.le_refl _) hs⟩
 obtain⟨A,B,e⟩:=H.gk
 exact⟨A,B,key e⟩
theorem Hb (K:Heap) (HK:HpL r names s e c v vs L K) (HP:HpP r names s vs L.bp L.bc L.gc K) (hn:s.cls.length<1000) (hx:0≤e.val∧e.val≤86399999) (hlen:r.dc=.boulder→c.tries.length=r.size) (hwt:IntKind.i64.wrap (e.time-c.began)=e.time-c.began) (hl:c.tries.length<1000) :
  ∀ (i:Nat) (F:LV) (b:Bool),(oY L)[i]? = some F→(qI r s e c)[i]? = some b→∀ k,SameH K.length K k→∃ k',SameH k.length k k'∧sfn P 276 [F] k=some (.c (.bool (!b)),k'):=by
 intro i F b hF hb k hk
 have Hk:=HK.same hk
 have HPk:=HP.same hk
 rcases i with _|_|_|_|_|_|_|_|_|_|_|_|_|_|_|_|i
 ·have e1:=Option.some.inj hF
  have e2:=Option.some.inj hb
  rw[← e1,← e2]
  exact ado Hk
 ·have e1:=Option.some.inj hF
  have e2:=Option.some.inj hb
  rw[← e1,← e2]
  exact adk Hk
 ·have e1:=Option.some.inj hF
  have e2:=Option.some.inj hb
  rw[← e1,← e2]
  exact ack Hk
 ·have e1:=Option.some.inj hF
  have e2:=Option.some.inj hb
  rw[← e1,← e2]
  exact aaV Hk
 ·have e1:=Option.some.inj hF
  have e2:=Option.some.inj hb
  rw[← e1,← e2]
  exact aah Hk HPk hn
 ·have e1:=Option.some.inj hF
  have e2:=Option.some.inj hb
  rw[← e1,← e2]
  exact acy Hk hx hlen
 ·have e1:=Option.some.inj hF
  have e2:=Option.some.inj hb
  rw[← e1,← e2]
  exact acO Hk
 ·have e1:=Option.some.inj hF
  have e2:=Option.some.inj hb
  rw[← e1,← e2]
  exact aar Hk
 ·have e1:=Option.some.inj hF
  have e2:=Option.some.inj hb
  rw[← e1,← e2]
  exact aa4 Hk
 ·have e1:=Option.some.inj hF
  have e2:=Option.some.inj hb
  rw[← e1,← e2]
  exact ab6 Hk
 ·have e1:=Option.some.inj hF
  have e2:=Option.some.inj hb
  rw[← e1,← e2]
  exact ac4 Hk
 ·have e1:=Option.some.inj hF
  have e2:=Option.some.inj hb
  rw[← e1,← e2]
  exact acL Hk
 ·have e1:=Option.some.inj hF
  have e2:=Option.some.inj hb
  rw[← e1,← e2]
  exact acC Hk
 ·have e1:=Option.some.inj hF
  have e2:=Option.some.inj hb
  rw[← e1,← e2]
  exact abz Hk
 ·have e1:=Option.some.inj hF
  have e2:=Option.some.inj hb
  rw[← e1,← e2]
  exact acZ Hk hwt
 ·have e1:=Option.some.inj hF
  have e2:=Option.some.inj hb
  rw[← e1,← e2]
  exact acQ Hk hl
 ·simp[oY] at hF
def hp7 (e:CEn) (c:CCl) (v:LV × LV) (bp n:Nat) (lim:Int) (T:List LV):Heap:=[.cells 0 [.ptr bp 0 0] 0,enB e,.cells 0 (clL c v) 0,.cells 0 [.c (.slice ((kdD e.kind).map fun d=>.str (dcS d))),.c (.bool (jH e.kind)),.c (.func (kdF e.kind) [] [])] 0,.cells 0 [.func 215 [] [.ptr (n+1) 0 0]] 0,.cells 0 [.c (ci lim)] 0,.cells 0 T 0]
theorem W8 {bp bc gc:Nat} (HP:HpP r names s vs bp bc gc h) (hT:TrV h c.tries v.1) (hR:RuV h c.runs v.2):HpL r names s e c v vs ⟨bp,h.length,h.length+1,h.length+2,h.length+3,h.length+4,h.length+5,h.length+6,bc,gc⟩ (h++hp7 e c v bp h.length (c.began+r.limit) (trL (tNow r c))):=by
 have key:∀ {i:Nat} {B:LB},h[i]? = some B→(h++hp7 e c v bp h.length (c.began+r.limit) (trL (tNow r c)))[i]? = some B:=fun e=>by rw[List.getElem?_append_left (ltG e)]; exact e
 refine⟨key HP.pl,?_,?_,?_,⟨.c (.bool (jH e.kind)),.c (.func (kdF e.kind) [] []),?_⟩,?_,?_,?_,key HP.row,hT.app _,hR.app _⟩
 all_goals
  simp only
  rw[List.getElem?_append_right (by omega)]
  simp[hp7]
theorem Mo (l:List CTr) (k:Nat) (x:CTr) (hk:l[k]? = some x):((l.flatMap trL).drop (k*4)).take 4=trL x:=by
 induction l generalizing k with
 | nil=>simp at hk
 | cons a l ih =>
  cases k with
  | zero =>
   simp at hk
   subst hk
   rw[List.flatMap_cons,Nat.zero_mul,List.drop_zero]
   exact List.take_left' rfl
  | succ k =>
   have:=ih k (by simpa using hk)
   rw[List.flatMap_cons,← this]
   have e1:(k+1)*4=(trL a).length+k*4:=by show _=4+_; omega
   rw[e1,List.drop_append,List.drop_eq_nil_of_le (by omega),List.nil_append]
   congr 2
   omega
theorem Z6 {bp bc gc:Nat} (HP:HpP r names s vs bp bc gc h) (hn:s.cls.length<1000) (gC:s.cls[e.who]? = some c) (gV:vs[e.who]? = some v) (hx:0≤e.val∧e.val≤86399999) (hlen:r.dc=.boulder→c.tries.length=r.size) (hon:r.dc=.boulder→c.ph=.on→1≤c.place∧c.place≤c.tries.length) (hwt:IntKind.i64.wrap (e.time-c.began)=e.time-c.began) (hwl:IntKind.i64.wrap (c.began+r.limit)=c.began+r.limit) (hl:c.tries.length<1000) :
  ∃ h',SameH h.length h h'∧sfn P 197 [.ptr bp 0 0,.c (enE e)] h=some (.c (ci (c6 r s e)),h'):=by
 have gz:(s.cls.zip vs)[e.who]? = some (c,v):=by rw[List.getElem?_zip_eq_some]; exact⟨gC,gV⟩
 obtain⟨hT,hRu⟩:=HP.all _ (List.mem_of_getElem? gz)
 have hw:e.who<s.cls.length:=(List.getElem?_eq_some_iff.1 gC).1
 have hR:=pq (s.cls.zip vs) e.who _ gz
 have hzl:(s.cls.zip vs).length=s.cls.length:=by rw[List.length_zip,HP.len]; omega
 have hRl:(rowL (s.cls.zip vs)).length=s.cls.length*11:=by rw[cE,hzl]
 have hac:=qb (c:=c) hT
 have f1:=jR hT
 have f2:=jE hRu
 have hgd:s.cls.getD e.who clZ=c:=by rw[List.getD_eq_getElem?_getD,gC]; rfl
 have HK:=W8 (e:=e) HP hT hRu
 have hs7:SameH h.length h (h++hp7 e c v bp h.length (c.began+r.limit) (trL (tNow r c))):=(SameH.rfl' (Nat.le_refl _)).app _
 generalize hLL:(⟨bp,h.length,h.length+1,h.length+2,h.length+3,h.length+4,h.length+5,h.length+6,bc,gc⟩ : RLoc)=L at *
 have hs8:SameH (h++hp7 e c v bp h.length (c.began+r.limit) (trL (tNow r c))).length (h++hp7 e c v bp h.length (c.began+r.limit) (trL (tNow r c))) ((h++hp7 e c v bp h.length (c.began+r.limit) (trL (tNow r c)))++[.cells 1 (oY L) 0]):=(SameH.rfl' (Nat.le_refl _)).app _
 have HPL:HpP r names s vs L.bp L.bc L.gc h:=by rw[← hLL]; exact HP
 have hrun:=Hb (P:=P) _ (HK.same hs8) ((HPL.same hs7).same hs8) hn hx hlen hwt hl
 have hln:(h++hp7 e c v bp h.length (c.began+r.limit) (trL (tNow r c))).length=h.length+7:=by simp[hp7]
 obtain⟨h',k1,k2⟩:=adu (P:=P) (oY L) (qI r s e c) rfl (by show 16<1000; decide) (h.length+7) _ (by rw[List.getElem?_append_right (by omega),hln]; simp) hrun
 refine⟨h',(hs7.trans (hs8.less hs7.1)).trans (k1.less (by rw[List.length_append,hln]; simp; omega)),?_⟩
 have q1:=ltG HP.pl
 have a1:∀ X,(h++X)[bp]? = some (plB r names bc gc s.cls.length s.time):=fun X=>by rw[List.getElem?_append_left q1]; exact HP.pl
 have a1':=fun X=>(List.getElem?_eq_some_iff.1 (a1 X)).2
 have q2:=ltG HP.row
 have a2:∀ X,(h++X)[bc]? = some (.cells gc (rowL (s.cls.zip vs)) 0):=fun X=>by rw[List.getElem?_append_left q2]; exact HP.row
 have a2':=fun X=>(List.getElem?_eq_some_iff.1 (a2 X)).2
 have l1:∀ n,bp<h.length+n+1:=fun n=>by omega
 have l2:∀ n,bc<h.length+n+1:=fun n=>by omega
 have hwi:(e.who:Int)<s.cls.length:=by omega
 have h11:11≤s.cls.length*11-e.who*11:=by omega
 have e214:=OS (P:=P)
 obtain⟨i,j1,j2⟩:=uF e.kind
 have j2':=(List.getElem?_eq_some_iff.1 j2).2
 have j2l:=(List.getElem?_eq_some_iff.1 j2).1
 simp only[vN] at e214
 generalize kdAll.map (fun k=>CV.str (kdS k))=KS at *
 generalize kdAll.map kdC=VS at *
 simp only[kdC] at j2 j2'
 have fp:∀ b g o,LV.flat (.ptr b g o)=true:=fun _ _ _=>rfl
 have ff:∀ f a b,LV.flat (.func f a b)=true:=fun _ _ _=>rfl
 have fc:∀ x,LV.flat (.c (.slice x))=true:=fun _=>rfl
 have fcf:∀ f a b,LV.flat (.c (.func f a b))=true:=fun _ _ _=>rfl
 have hleg:cx 1 (qI r s e c)=c6 r s e:=by rw[Qn,c6,hgd]
 rw[hleg] at k2
 have hfl:(oY L).length=16:=rfl
 rw[hfl] at k2
 simp only[clL] at hR hac
 by_cases hbo:r.dc=.boulder∧c.ph=.on
 ·obtain⟨p1,p2⟩:=hon hbo.1 hbo.2
  have hK0:∀ X,(h++hp7 e c v bp h.length (c.began+r.limit) X)[h.length+2]? = some (.cells 0 (clL c v) 0):=fun X=>by rw[List.getElem?_append_right (by omega)]; simp[hp7]
  obtain⟨b,g,e1,e2⟩:=Yu (P:=P) (h.length+2) (h++hp7 e c v bp h.length (c.began+r.limit) [.c (ci 0),.c (ci 0),.c (ci 0),.c (.bool false)]) (hK0 _) (hT.app _) p1 p2 hl
  have htk:=Mo c.tries _ _ (Pa p1 p2)
  have hn1:tNow r c=trAt c c.place:=if_pos hbo
  have hd1:dcS r.dc=[98,111,117,108,100,101,114]:=by rw[hbo.1]; rfl
  have hd2:phS c.ph=[111,110]:=by rw[hbo.2]; rfl
  rw[hn1] at k2
  subst hLL
  have e1':=(List.getElem?_eq_some_iff.1 e1).2
  have e1l:=ltG e1
  have hcl:=CA c.tries
  have n6:4≤c.tries.length*4-(c.place-1).toNat*4:=by omega
  have et:(c.place-1).toNat=c.place.toNat-1:=by omega
  rw[et] at n6 htk e2
  simp only[hp7,enB,clL,trL,oY] at k2 e1 e1' e1l e2 htk
  generalize c.tries.flatMap trL=C at *
  simp[-LV.flat,hd2] at k2 e1 e1' e1l e2
  simp only[hd2] at hac hR
  rw[UE]
  simp[Gy,fp,ff,fc,fcf,e214,fZ,j1,j2,j2',j2l,enE,plB,a1,a1',a2,a2',l1,l2,hw,hwi,hRl,hR,h11,hac,-LV.flat,cH,cF,cJ,f1,f2,hwl,hd1,hd2,k2,e1,e1',e1l,e2,htk,hcl,n6,bf,ax]
 ·have hd1:¬ (dcS r.dc=[98,111,117,108,100,101,114]∧phS c.ph=[111,110]):=by
   rintro⟨x,y⟩
   exact hbo ⟨by cases hd:r.dc<;>simp[hd,dcS] at x ⊢,by cases hp:c.ph<;>simp[hp,phS] at y ⊢⟩
  have hn1:tNow r c=trZ:=if_neg hbo
  rw[hn1] at k2
  subst hLL
  simp only[hp7,enB,clL,trL,trZ,oY] at k2
  simp[-LV.flat] at k2
  rw[UE]
  simp[Gy,fp,ff,fc,fcf,e214,fZ,j1,j2,j2',j2l,enE,plB,a1,a1',a2,a2',l1,l2,hw,hwi,hRl,hR,h11,hac,-LV.flat,cH,cF,cJ,f1,f2,hwl,hd1,k2]
end LM.GZ
namespace LM.GZ
open Go LM
variable {P:Nat→Option SFunc} [Has P]
variable {r:CRn} {names:List Str} {s:CSs} {e:CEn} {c:CCl} {v:LV × LV} {h:Heap} {l:List (CCl × (LV × LV))} {bc gc i:Nat}
theorem dj:∀ (l:List (CCl × (LV × LV))) (i j:Nat) (c c' : CCl) (v v' : LV × LV) (x:LV),l[i]? = some (c,v)→(clL c v).set j x=clL c' v'→j<11→(rowL l).set (i*11+j) x=rowL (l.set i (c',v'))
 | [],i,j,c,c',v,v',x,h,_,_=>by simp at h
 | a::l,0,j,c,c',v,v',x,h,h2,hj=>by
  simp at h
  subst h
  have e:∀ (b:CCl × (LV × LV)) (l:List (CCl × (LV × LV))),rowL (b::l)=clL b.1 b.2++rowL l:=fun _ _=>rfl
  rw[e,Nat.zero_mul,Nat.zero_add,List.set_append_left _ _ (by rw[fJ]; exact hj),List.set_cons_zero,e,h2]
 | a::l,i+1,j,c,c',v,v',x,h,h2,hj=>by
  have ih:=dj l i j c c' v v' x (by simpa using h) h2 hj
  have e:∀ (b:CCl × (LV × LV)) (l:List (CCl × (LV × LV))),rowL (b::l)=clL b.1 b.2++rowL l:=fun _ _=>rfl
  rw[e,List.set_append_right _ _ (by rw[fJ]; omega),List.set_cons_succ,e,← ih]
  congr 2
  rw[fJ]
  omega
theorem jn:∀ (l:List (CCl × (LV × LV))) (i j:Nat) (x:CCl × (LV × LV)),l[i]? = some x→j<11→(rowL l)[i*11+j]? = (clL x.1 x.2)[j]?
 | [],i,j,x,h,_=>by simp at h
 | a::l,0,j,x,h,hj=>by
  simp at h
  subst h
  have e:∀ (b:CCl × (LV × LV)) (l:List (CCl × (LV × LV))),rowL (b::l)=clL b.1 b.2++rowL l:=fun _ _=>rfl
  rw[e,Nat.zero_mul,Nat.zero_add,List.getElem?_append_left (by rw[fJ]; exact hj)]
 | a::l,i+1,j,x,h,hj=>by
  have ih:=jn l i j x (by simpa using h) hj
  have e:∀ (b:CCl × (LV × LV)) (l:List (CCl × (LV × LV))),rowL (b::l)=clL b.1 b.2++rowL l:=fun _ _=>rfl
  rw[e,List.getElem?_append_right (by rw[fJ]; omega),← ih]
  congr 1
  rw[fJ]
  omega
theorem jF {α:Type} {l:List α} {i:Nat} {x y:α} (h:l[i]? = some x):(l.set i y)[i]? = some y:=by rw[List.getElem?_set_self (List.getElem?_eq_some_iff.1 h).1]
theorem aaI (gr:h[bc]? = some (.cells gc (rowL l) 0)) (gi:l[i]? = some (c,v)) (p:CPh):sfn P 296 [.ptr bc gc (i*11),.c (.str (phS p))] h=some (.c (.tuple []),h.set bc (.cells gc (rowL (l.set i (c.off p,v))) 0)):=by
 have hil:=(List.getElem?_eq_some_iff.1 gi).1
 have q1:=ltG gr
 have q1':=(List.getElem?_eq_some_iff.1 gr).2
 have r1:=dj l i 0 c { c with ph:=p } v v (.c (.str (phS p))) gi rfl (by decide)
 have r2:=dj _ i 2 _ { c with ph:=p,place:=0 } v v (.c (ci 0)) (jF (y:=({ c with ph:=p },v)) gi) rfl (by decide)
 have r3:=dj _ i 8 _ (c.off p) v v (.c (.bool false)) (jF (y:=({ c with ph:=p,place:=0 },v)) (jF (y:=({ c with ph:=p },v)) gi)) rfl (by decide)
 rw[List.set_set] at r2 r3
 have l0:=cE l
 have l1:=cE (l.set i ({ c with ph:=p },v))
 have l2:=cE (l.set i ({ c with ph:=p,place:=0 },v))
 rw[List.length_set] at l1 l2
 rw[Nat.add_zero] at r1
 rw[List.set_set] at r3
 generalize rowL (l.set i ({ c with ph:=p },v))=R1 at *
 generalize rowL (l.set i ({ c with ph:=p,place:=0 },v))=R2 at *
 generalize rowL (l.set i (c.off p,v))=R3 at *
 generalize rowL l=R0 at *
 have n0:i*11+1≤l.length*11:=by omega
 have n1:i*11+3≤l.length*11:=by omega
 have n2:i*11+9≤l.length*11:=by omega
 have n3:i*11<l.length*11:=by omega
 have n4:i*11+2<l.length*11:=by omega
 have n5:i*11+8<l.length*11:=by omega
 rw[aaS]
 simp[LY,gr,q1,q1',l0,l1,l2,r1,r2,r3,n0,n1,n2,n3,n4,n5]
theorem Z2 {bp n:Nat} {t:Int} (gpl:h[bp]? = some (plB r names bc gc n t)) (hne:bp≠bc) (hg:gc≠0) (gr:h[bc]? = some (.cells gc (rowL l) 0)) (gi:l[i]? = some (c,v)) (hw:IntKind.i64.wrap (e.time-c.began)=e.time-c.began):sfn P 294 [.ptr bp 0 0,.ptr bc gc (i*11),.c (enE e)] h=some (.c (.tuple []),h.set bc (.cells gc (rowL (l.set i (fU r c e.time,v))) 0)++[enB e]):=by
 have hil:=(List.getElem?_eq_some_iff.1 gi).1
 have q0:=ltG gpl
 have q1:=ltG gr
 have gr2:(h++[enB e])[bc]? = some (.cells gc (rowL l) 0):=by rw[List.getElem?_append_left q1]; exact gr
 have k1:=aaI (P:=P) gr2 gi .done
 have r1:=dj _ i 4 _ (fU r c e.time) v v (.c (ci (min (e.time-c.began) r.limit))) (jF (y:=(c.off .done,v)) gi) rfl (by decide)
 have g1:=jn _ i 3 _ (jF (y:=(c.off .done,v)) gi) (by decide)
 have l1:=cE (l.set i (c.off .done,v))
 rw[List.length_set] at l1
 rw[List.set_set] at r1
 have hp:phS .done=[100,111,110,101]:=rfl
 rw[hp] at k1
 have hst:∀ X,(h++[enB e]).set bc X=h.set bc X++[enB e]:=fun X=>List.set_append_left _ _ q1
 rw[hst] at k1
 have a0:∀ X,(h.set bc X++[enB e])[bp]? = some (plB r names bc gc n t):=fun X=>by rw[List.getElem?_append_left (by simpa using q0),List.getElem?_set_ne (Ne.symm hne)]; exact gpl
 have a0':=fun X=>(List.getElem?_eq_some_iff.1 (a0 X)).2
 have l0:bp<h.length+1:=by omega
 have a1:∀ X,(h.set bc X++[enB e])[bc]? = some X:=fun X=>by rw[List.getElem?_append_left (by simpa using q1),List.getElem?_set_self q1]
 have a1':=fun X=>(List.getElem?_eq_some_iff.1 (a1 X)).2
 have l2:bc<h.length+1:=by omega
 have g1' : (clL (c.off .done) v)[3]? = some (.c (ci c.began)):=rfl
 simp only at g1
 rw[g1'] at g1
 have g1'':=(List.getElem?_eq_some_iff.1 g1).2
 have hst2:∀ X Y,(h.set bc X++[enB e]).set bc Y=h.set bc Y++[enB e]:=fun X Y=>by rw[List.set_append_left _ _ (by simpa using q1),List.set_set]
 generalize rowL (l.set i (c.off .done,v))=R1 at *
 generalize rowL (l.set i (fU r c e.time,v))=R2 at *
 have n1:i*11+5≤l.length*11:=by omega
 have n2:i*11+3<l.length*11:=by omega
 have n3:i*11+4<l.length*11:=by omega
 have hmin:min (e.time-c.began) r.limit=if r.limit<e.time-c.began then r.limit else e.time-c.began:=by split<;>omega
 rw[hmin] at r1
 simp only[enB] at *
 rw[abb]
 simp[MD,enE,k1,bf,ax,bA,a0,a0',l0,a1,a1',l2,hg,plB,g1,g1'',hw,bt,l1,n1,n2,n3,r1,hst2]
end LM.GZ
namespace LM.GZ
open Go LM
variable {P:Nat→Option SFunc} [Has P]
variable {r:CRn} {names:List Str} {s:CSs} {e:CEn} {c:CCl} {v:LV × LV} {h:Heap} {l:List (CCl × (LV × LV))} {bc gc i:Nat}
def TrB (h:Heap) (c:CCl) (v:LV × LV) (b g:Nat):Prop:=v.1=.slice b g 0 c.tries.length (some 4) none∧h[b]? = some (.cells g (c.tries.flatMap trL) 0)
end LM.GZ
namespace LM.GZ
open Go LM
variable {P:Nat→Option SFunc} [Has P]
variable {r:CRn} {names:List Str} {s:CSs} {e:CEn} {c:CCl} {v:LV × LV} {h:Heap} {l:List (CCl × (LV × LV))} {bc gc i:Nat}
theorem TrB.put {b g:Nat} (H:TrB h c v b g) (hb:b≠bc) (X:LB) (Y:LB) {c' : CCl} (ht:c'.tries=c.tries):TrB (h.set bc X++[Y]) c' v b g:=by
 have q:=ltG H.2
 refine⟨by rw[ht]; exact H.1,?_⟩
 rw[List.getElem?_append_left (by simpa using q),List.getElem?_set_ne (Ne.symm hb),ht]
 exact H.2
theorem TrB.up {b g:Nat} (H:TrB h c v b g) (Y:LB):TrB (h++[Y]) c v b g:=⟨H.1,by rw[List.getElem?_append_left (ltG H.2)]; exact H.2⟩
end LM.GZ
namespace LM.GZ
open Go LM
variable {P:Nat→Option SFunc} [Has P]
variable {r:CRn} {names:List Str} {s:CSs} {e:CEn} {c:CCl} {v:LV × LV} {h:Heap} {l:List (CCl × (LV × LV))} {bc gc i bp n:Nat} {t:Int}
theorem Vh (gpl:h[bp]? = some (plB r names bc gc n t)) (hd:r.dc=.lead) (hne:bp≠bc) (hg:gc≠0) (gr:h[bc]? = some (.cells gc (rowL l) 0)) (gi:l[i]? = some (c,v)) (hw:IntKind.i64.wrap (e.time-c.began)=e.time-c.began) :
  sfn P 267 [.ptr bp 0 0,.ptr bc gc (i*11),.c (enE e)] h=some (.c (.tuple []),h.set bc (.cells gc (rowL (l.set i (fU r c e.time,v))) 0)++[enB e]++[enB e]) ∧
  sfn P 264 [.ptr bp 0 0,.ptr bc gc (i*11),.c (enE e)] h=some (.c (.tuple []),h.set bc (.cells gc (rowL (l.set i (fU r c e.time,v))) 0)++[enB e]++[enB e]):=by
 have q0:=ltG gpl
 have q1:=ltG gr
 have a0:∀ X,(h++[X])[bp]? = some (plB r names bc gc n t):=fun X=>by rw[List.getElem?_append_left q0]; exact gpl
 have a0':=fun X=>(List.getElem?_eq_some_iff.1 (a0 X)).2
 have p0:bp<h.length+1:=by omega
 have hd1:dcS r.dc=[108,101,97,100]:=by rw[hd]; rfl
 have k1:=Z2 (P:=P) (e:=e) (h:=h++[enB e]) (a0 _) hne hg (by rw[List.getElem?_append_left q1]; exact gr) gi hw
 rw[List.set_append_left _ _ q1] at k1
 generalize rowL (l.set i (fU r c e.time,v))=R2 at *
 simp only[enB,enE] at *
 simp at k1
 constructor
 ·rw[acm]
  simp[NQ,plB,a0,a0',p0,hd1,k1,bf,ax,bA]
 ·rw[aa0]
  simp[Nx,plB,a0,a0',p0,hd1,k1,bf,ax,bA]
end LM.GZ
namespace LM.GZ
open Go LM
variable {P:Nat→Option SFunc} [Has P]
variable {r:CRn} {names:List Str} {s:CSs} {e:CEn} {c:CCl} {v:LV × LV} {h:Heap} {l:List (CCl × (LV × LV))} {bc gc i bp n:Nat} {t:Int}
theorem TV (gpl:h[bp]? = some (plB r names bc gc n t)) (hd:r.dc≠.boulder) (hne:bp≠bc) (hg:gc≠0) (gr:h[bc]? = some (.cells gc (rowL l) 0)) (gi:l[i]? = some (c,v)) :
  sfn P 258 [.ptr bp 0 0,.ptr bc gc (i*11),.c (enE e)] h=some (.c (.tuple []),h.set bc (.cells gc (rowL (l.set i ({ c with ph:=.on,place:=e.val,began:=e.time },v))) 0)++[enB e]):=by
 have hil:=(List.getElem?_eq_some_iff.1 gi).1
 have q0:=ltG gpl
 have q1:=ltG gr
 have a1:∀ X,(h++[X])[bc]? = some (.cells gc (rowL l) 0):=fun X=>by rw[List.getElem?_append_left q1]; exact gr
 have a1':=fun X=>(List.getElem?_eq_some_iff.1 (a1 X)).2
 have p0:bp<h.length+1:=by omega
 have l2:bc<h.length+1:=by omega
 have hd1:¬ dcS r.dc=[98,111,117,108,100,101,114]:=by cases hx:r.dc<;>simp[dcS]; exact hd hx
 have hp:phS .on=[111,110]:=rfl
 have r1:=dj l i 0 c { c with ph:=.on } v v (.c (.str (phS .on))) gi rfl (by decide)
 have r2:=dj _ i 2 _ { c with ph:=.on,place:=e.val } v v (.c (ci e.val)) (jF (y:=({ c with ph:=.on },v)) gi) rfl (by decide)
 have r3:=dj _ i 3 _ { c with ph:=.on,place:=e.val,began:=e.time } v v (.c (ci e.time)) (jF (y:=({ c with ph:=.on,place:=e.val },v)) gi) rfl (by decide)
 rw[List.set_set] at r2 r3
 rw[Nat.add_zero,hp] at r1
 have l0:=cE l
 have l1:=cE (l.set i ({ c with ph:=.on },v))
 have l3:=cE (l.set i ({ c with ph:=.on,place:=e.val },v))
 rw[List.length_set] at l1 l3
 have hst:∀ X Y,(h++[X]).set bc Y=h.set bc Y++[X]:=fun X Y=>List.set_append_left _ _ q1
 have a3:∀ X Y,(h.set bc X++[Y])[bc]? = some X:=fun X Y=>by rw[List.getElem?_append_left (by simpa using q1),List.getElem?_set_self q1]
 have a3':=fun X Y=>(List.getElem?_eq_some_iff.1 (a3 X Y)).2
 have a4:∀ X Y,(h.set bc X++[Y])[bp]? = some (plB r names bc gc n t):=fun X Y=>by rw[List.getElem?_append_left (by simpa using q0),List.getElem?_set_ne (Ne.symm hne)]; exact gpl
 have a4':=fun X Y=>(List.getElem?_eq_some_iff.1 (a4 X Y)).2
 have hst2:∀ X Y Z,(h.set bc X++[Y]).set bc Z=h.set bc Z++[Y]:=fun X Y Z=>by rw[List.set_append_left _ _ (by simpa using q1),List.set_set]
 generalize rowL (l.set i ({ c with ph:=.on },v))=R1 at *
 generalize rowL (l.set i ({ c with ph:=.on,place:=e.val },v))=R2 at *
 generalize rowL (l.set i ({ c with ph:=.on,place:=e.val,began:=e.time },v))=R3 at *
 generalize rowL l=R0 at *
 have n0:i*11+1≤l.length*11:=by omega
 have n1:i*11+3≤l.length*11:=by omega
 have n2:i*11+4≤l.length*11:=by omega
 simp only[enB,enE] at *
 rw[abK]
 simp[OI,plB,a1,a1',p0,l2,hd1,hg,r1,r2,r3,l0,l1,l3,n0,n1,n2,hst,a3,a3',a4,a4',hst2]
end LM.GZ
namespace LM.GZ
open Go LM
variable {P:Nat→Option SFunc} [Has P]
variable {r:CRn} {names:List Str} {s:CSs} {e:CEn} {c:CCl} {v:LV × LV} {h:Heap} {l:List (CCl × (LV × LV))} {bc gc i bp n:Nat} {t:Int}
def vK (o n:Int):Int:=if 0<n∧(o=0∨n<o) then n else o
theorem SK (X:List Int) (hX:(X.length:Int)<1000000):∀ (r pre:List Int) (o:Int),X=pre++r →
  ac P (af P) sk ⟨[.c (ci o),.c (.slice (X.map ci)),.c (ci X.length),.c (ci pre.length)],[]⟩=some (.exit 0,⟨[.c (ci (r.foldl vK o))],[]⟩):=by
 intro r
 induction r with
 | nil =>
  intro pre o hp
  have hp' : X=pre:=by simpa using hp
  subst hp'
  rw[DX]
  simp[eZ]
 | cons x r ih =>
  intro pre o hp
  have gx:X[pre.length]? = some x:=by rw[hp]; simp
  have hpl:pre.length<X.length:=(List.getElem?_eq_some_iff.1 gx).1
  obtain⟨_,gx'⟩:=List.getElem?_eq_some_iff.1 gx
  have hlt:(pre.length:Int)<X.length:=by omega
  have hw:IntKind.i64.wrap ((pre.length:Int)+1)=(pre.length:Int)+1:=am (by omega) (by omega)
  have ih:=ih (pre++[x]) (vK o x) (by simp[hp])
  simp at ih
  rw[List.foldl_cons,DX]
  unfold vK at ih ⊢
  by_cases h1:0<x
  ·by_cases h2:o=0
   ·subst h2
    simp[h1] at ih ⊢
    simp[eZ,hlt,hpl,gx,gx',hw,h1,ih]
   ·by_cases h3:x<o
    ·simp[h1,h2,h3] at ih ⊢
     simp[eZ,hlt,hpl,gx,gx',hw,h1,h2,h3,ih]
    ·simp[h1,h2,h3] at ih ⊢
     simp[eZ,hlt,hpl,gx,gx',hw,h1,h2,h3,ih]
  ·simp[h1] at ih ⊢
   simp[eZ,hlt,hpl,gx,gx',hw,h1,ih]
theorem adr (X:List Int) (hX:(X.length:Int)<1000000):fn P 177 [.slice (X.map ci)]=some (ci (bestL X)):=by
 have k:=SK (P:=P) X hX X [] 0 rfl
 simp at k
 have e:X.foldl vK 0=bestL X:=rfl
 rw[e] at k
 rw[Z9]
 simp[OX,k]
end LM.GZ
namespace LM.GZ
open Go LM
variable {P:Nat→Option SFunc} [Has P]
variable {r:CRn} {names:List Str} {s:CSs} {e:CEn} {c:CCl} {v:LV × LV} {h:Heap} {l:List (CCl × (LV × LV))} {bc gc i bp n:Nat} {t:Int}
def blk:LV→Option Nat
 | .slice b _ _ _ _ _=>some b
 | _=>none
def Did (l:List (CCl × (LV × LV))) (i:Nat) (v:LV × LV) (bc gc:Nat) (c' : CCl) (h h' : Heap) (v' : LV × LV):Prop :=
 h'[bc]? = some (.cells gc (rowL (l.set i (c',v'))) 0)∧TrV h' c'.tries v'.1∧RuV h' c'.runs v'.2∧h.length≤h'.length∧(∀ k,k<h.length→k≠bc→blk v.1≠some k→blk v.2≠some k→h'[k]? = h[k]?)∧v'.1=v.1∧(v'.2=v.2∨∃ k,h.length≤k∧blk v'.2=some k)
structure OneOK (l:List (CCl × (LV × LV))) (i:Nat) (c:CCl) (v:LV × LV) (r:CRn) (names:List Str) (bp bc gc n:Nat) (t:Int) (h:Heap):Prop where
 pl:h[bp]? = some (plB r names bc gc n t)
 ne:bp≠bc
 g0:gc≠0
 row:h[bc]? = some (.cells gc (rowL l) 0)
 at' : l[i]? = some (c,v)
 tr:TrV h c.tries v.1
 ru:RuV h c.runs v.2
 t1:blk v.1≠some bc
 t2:blk v.1≠some bp
 u1:blk v.2≠some bc
 u2:blk v.2≠some bp
 gen:∀ b g o m e k,v.1=.slice b g o m e k→g≠0
 tl:c.tries.length<900
 rl:c.runs.length<900
theorem OneOK.up (H:OneOK l i c v r names bp bc gc n t h) (Y:LB):OneOK l i c v r names bp bc gc n t (h++[Y]):=by
 have key:∀ {j:Nat} {B:LB},h[j]? = some B→(h++[Y])[j]? = some B:=fun e=>by rw[List.getElem?_append_left (ltG e)]; exact e
 exact⟨key H.pl,H.ne,H.g0,key H.row,H.at',H.tr.app _,H.ru.app _,H.t1,H.t2,H.u1,H.u2,H.gen,H.tl,H.rl⟩
theorem Did.up {c' : CCl} {h' : Heap} {v' : LV × LV} {Y:LB} (D:Did l i v bc gc c' (h++[Y]) h' v'):Did l i v bc gc c' h h' v':=by
 obtain⟨d1,d2,d3,d4,d5,d6,d7⟩:=D
 rw[List.length_append,List.length_singleton] at d4
 refine⟨d1,d2,d3,by omega,fun k hk a b d=>?_,d6,?_⟩
 ·rw[d5 k (by simp; omega) a b d,List.getElem?_append_left hk]
 ·rcases d7 with d7 | ⟨k,k1,k2⟩
  ·exact .inl d7
  ·exact .inr ⟨k,by simp at k1; omega,k2⟩
theorem Cq (H:OneOK l i c v r names bp bc gc n t h) {c' : CCl} (ht:c'.tries=c.tries) (hr:c'.runs=c.runs) (X:Heap):Did l i v bc gc c' h (h.set bc (.cells gc (rowL (l.set i (c',v))) 0)++X) v:=by
 have q1:=ltG H.row
 have key:∀ {j:Nat} {B:LB},j≠bc→h[j]? = some B→(h.set bc (.cells gc (rowL (l.set i (c',v))) 0)++X)[j]? = some B:=fun hj e=>by rw[List.getElem?_append_left (by simpa using ltG e),List.getElem?_set_ne (Ne.symm hj)]; exact e
 refine⟨by rw[List.getElem?_append_left (by simpa using q1),List.getElem?_set_self q1],?_,?_,by simp,fun k hk a b d=>?_,rfl,.inl rfl⟩
 ·rw[ht]
  rcases H.tr with h1 | ⟨h1,b,g,h2,h3⟩
  ·exact .inl h1
  ·exact .inr ⟨h1,b,g,h2,key (fun e=>H.t1 (by rw[h2,e]; rfl)) h3⟩
 ·rw[hr]
  rcases H.ru with h1 | ⟨h1,b,g,h2,h3⟩
  ·exact .inl h1
  ·exact .inr ⟨h1,b,g,h2,key (fun e=>H.u1 (by rw[h2,e]; rfl)) h3⟩
 ·rw[List.getElem?_append_left (by simpa using hk),List.getElem?_set_ne (Ne.symm a)]
end LM.GZ
namespace LM.GZ
open Go LM
def DoW (P:Nat→Option SFunc) (r:CRn) (names:List Str) (e:CEn):Prop :=
 (∀ (args:List LV) (h:Heap),aC P (af P) none false (kdF e.kind) args h=bnd (ah args h) fun a=>sfn P (kdF e.kind) a.1 a.2)∧∀ (l:List (CCl × (LV × LV))) (i:Nat) (c:CCl) (v:LV × LV) (bp bc gc n:Nat) (t:Int) (h:Heap),OneOK l i c v r names bp bc gc n t h→RnOK r→r.size≤64→(0≤e.val∧e.val≤86399999)→(0≤e.time∧e.time≤86399999)→t≤e.time→ClOK r t c→RulesOK r t e c →
  ∃ v' h',sfn P (kdF e.kind) [.ptr bp 0 0,.ptr bc gc (i*11),.c (enE e)] h=some (.c (.tuple []),h')∧Did l i v bc gc (doC r e c) h h' v'
end LM.GZ
namespace LM.GZ
open Go LM
variable {P:Nat→Option SFunc} [Has P]
variable {r:CRn} {names:List Str} {s:CSs} {e:CEn} {c:CCl} {v:LV × LV} {vs:List (LV × LV)} {h:Heap} {l:List (CCl × (LV × LV))} {bc gc i bp n:Nat} {t:Int}
def apartV (x y:LV × LV):Prop:=∀ k,(blk x.1=some k∨blk x.2=some k)→blk y.1≠some k∧blk y.2≠some k
structure PlayH (r:CRn) (names:List Str) (s:CSs) (vs:List (LV × LV)) (bp bc gc:Nat) (h:Heap):Prop where
 p:HpP r names s vs bp bc gc h
 ne:bp≠bc
 g0:gc≠0
 gen:∀ x ∈ vs,∀ b g o m e k,x.1=.slice b g o m e k→g≠0
 ap:∀ x ∈ vs,blk x.1≠some bc∧blk x.1≠some bp∧blk x.2≠some bc∧blk x.2≠some bp
 dis:∀ (i j:Nat) (x y:LV × LV),i≠j→vs[i]? = some x→vs[j]? = some y→apartV x y
theorem sB:∀ (l:List CCl) (vs:List (LV × LV)) (i:Nat) (c:CCl) (v:LV × LV),(l.zip vs).set i (c,v)=(l.set i c).zip (vs.set i v)
 | [],vs,i,c,v=>by simp
 | a::l,[],i,c,v=>by simp
 | a::l,b::vs,0,c,v=>by simp
 | a::l,b::vs,i+1,c,v=>by simp[sB l vs i c v]
theorem WM (H:PlayH r names s vs bp bc gc h) (gC:s.cls[i]? = some c) (gV:vs[i]? = some v) (h1:c.tries.length<900) (h2:c.runs.length<900):OneOK (s.cls.zip vs) i c v r names bp bc gc s.cls.length s.time h:=by
 have gz:(s.cls.zip vs)[i]? = some (c,v):=by rw[List.getElem?_zip_eq_some]; exact⟨gC,gV⟩
 have hm:=List.mem_of_getElem? gV
 obtain⟨a1,a2,a3,a4⟩:=H.ap v hm
 obtain⟨t1,t2⟩:=H.p.all _ (List.mem_of_getElem? gz)
 exact⟨H.p.pl,H.ne,H.g0,H.p.row,gz,t1,t2,a1,a2,a3,a4,H.gen v hm,h1,h2⟩
theorem W0 (kc:∀ (args:List LV) (h:Heap),aC P (af P) none false (kdF e.kind) args h=bnd (ah args h) fun a=>sfn P (kdF e.kind) a.1 a.2) (H:PlayH r names s vs bp bc gc h) (gC:s.cls[e.who]? = some c) (h' : Heap) (k1:sfn P (kdF e.kind) [.ptr bp 0 0,.ptr bc gc (e.who*11),.c (enE e)] (h++[enB e])=some (.c (.tuple []),h'))
  (g1:h'[bp]? = some (plB r names bc gc s.cls.length s.time)) (g2:h'[h.length]? = some (enB e)):sfn P 198 [.ptr bp 0 0,.c (enE e)] h=some (.c (.tuple []),h'.set bp (plB r names bc gc s.cls.length e.time)):=by
 have hw:=(List.getElem?_eq_some_iff.1 gC).1
 have q0:=ltG H.p.pl
 have q1:=ltG H.p.row
 have a0:∀ X,(h++[X])[bp]? = some (plB r names bc gc s.cls.length s.time):=fun X=>by rw[List.getElem?_append_left q0]; exact H.p.pl
 have a0':=fun X=>(List.getElem?_eq_some_iff.1 (a0 X)).2
 have a1:∀ X,(h++[X])[bc]? = some (.cells gc (rowL (s.cls.zip vs)) 0):=fun X=>by rw[List.getElem?_append_left q1]; exact H.p.row
 have a1':=fun X=>(List.getElem?_eq_some_iff.1 (a1 X)).2
 have n0:bp<h.length+1:=by omega
 have n1:bc<h.length+1:=by omega
 have hwi:(e.who:Int)<s.cls.length:=by omega
 have e214:=OS (P:=P)
 obtain⟨j,j1,j2⟩:=uF e.kind
 obtain⟨D1,D2,hD⟩ : ∃ D1 D2,kdC e.kind=.agg [D1,D2,.func (kdF e.kind) [] []]:=⟨_,_,rfl⟩
 rw[hD] at j2
 clear hD
 simp only[vN] at e214
 generalize kdAll.map (fun k=>CV.str (kdS k))=KS at *
 generalize kdAll.map kdC=VS at *
 generalize hks:kdS e.kind=ks at *
 simp only[enB,enE] at *
 rw[hks] at g2 k1 ⊢
 have g1':=(List.getElem?_eq_some_iff.1 g1).2
 have g1l:=ltG g1
 have g2':=(List.getElem?_eq_some_iff.1 g2).2
 have g2l:=ltG g2
 rw[aas]
 cases hk:e.kind<;>rw[hk] at k1 j2 kc<;>simp only[kdF] at k1 j2 kc
 all_goals
  have j2':=(List.getElem?_eq_some_iff.1 j2).2
  have j2l:=(List.getElem?_eq_some_iff.1 j2).1
  simp[NX,plB,a0,a0',n0,a1,a1',n1,hw,hwi,e214,fZ,j1,j2,j2',j2l,kc,k1,bf,ax,bA,g1,g1',g1l,g2,g2',g2l]
end LM.GZ
namespace LM.GZ
open Go LM
variable {P:Nat→Option SFunc} [Has P]
variable {r:CRn} {names:List Str} {s:CSs} {e:CEn} {c:CCl} {v:LV × LV} {vs:List (LV × LV)} {h:Heap} {l:List (CCl × (LV × LV))} {bc gc i bp n:Nat} {t:Int}
theorem Et (h:ClOK r t c) (hs:r.size≤64):c.tries.length≤64∧c.runs.length≤64:=by
 have:=h.own
 cases hd:r.dc<;>rw[hd] at this<;>simp only at this
 ·rw[this.tries,this.runs]; simp
 ·rw[this.len,this.runs]; simp; exact hs
 ·rw[this.tries]; have:=this.len; simp; omega
theorem TrV.lt {l:List CTr} {w:LV} {k:Nat} (H:TrV h l w) (hb:blk w=some k):k<h.length:=by
 rcases H with ⟨_,rfl⟩ | ⟨_,b,g,rfl,hx⟩
 ·cases hb
 ·cases hb; exact ltG hx
theorem RuV.lt {l:List Int} {w:LV} {k:Nat} (H:RuV h l w) (hb:blk w=some k):k<h.length:=by
 rcases H with ⟨_,rfl⟩ | ⟨_,b,g,rfl,hx⟩
 ·cases hb
 ·cases hb; exact ltG hx
theorem TrV.move {l:List CTr} {w:LV} {h' : Heap} (H:TrV h l w) (hm:∀ k,blk w=some k→h'[k]? = h[k]?):TrV h' l w:=by
 rcases H with h1 | ⟨h1,b,g,h2,h3⟩
 ·exact .inl h1
 ·exact .inr ⟨h1,b,g,h2,by rw[hm b (by rw[h2]; rfl)]; exact h3⟩
theorem RuV.move {l:List Int} {w:LV} {h' : Heap} (H:RuV h l w) (hm:∀ k,blk w=some k→h'[k]? = h[k]?):RuV h' l w:=by
 rcases H with h1 | ⟨h1,b,g,h2,h3⟩
 ·exact .inl h1
 ·exact .inr ⟨h1,b,g,h2,by rw[hm b (by rw[h2]; rfl)]; exact h3⟩
theorem PlayH.app (H:PlayH r names s vs bp bc gc h) (X:Heap):PlayH r names s vs bp bc gc (h++X) :=
 ⟨H.p.same ((SameH.rfl' (Nat.le_refl _)).app _),H.ne,H.g0,H.gen,H.ap,H.dis⟩
theorem PlayH.lt (H:PlayH r names s vs bp bc gc h) {x:LV × LV} (hx:x ∈ vs) {k:Nat} (hb:blk x.1=some k∨blk x.2=some k):k<h.length:=by
 obtain⟨j,hj,e⟩:=List.getElem_of_mem hx
 have hjc:j<s.cls.length:=by rw[← H.p.len]; exact hj
 have gz:(s.cls.zip vs)[j]? = some (s.cls[j],x):=by rw[List.getElem?_zip_eq_some]; exact⟨List.getElem?_eq_getElem hjc,by rw[List.getElem?_eq_getElem hj,e]⟩
 obtain⟨t1,t2⟩:=H.p.all _ (List.mem_of_getElem? gz)
 rcases hb with hb | hb
 ·exact t1.lt hb
 ·exact t2.lt hb
theorem Iu (hD:DoW P r names e) (H:PlayH r names s vs bp bc gc h) (hr:RnOK r) (hsz:r.size≤64) (hS:SsOK r n s) (hE:jZ n e) (hleg:c6 r s e=0) :
  ∃ vs' h',sfn P 198 [.ptr bp 0 0,.c (enE e)] h=some (.c (.tuple []),h')∧PlayH r names (dM r s e) vs' bp bc gc h'∧h.length≤h'.length∧(∀ k,k<h.length→k≠bp→k≠bc→(∀ x ∈ vs,blk x.1≠some k∧blk x.2≠some k)→h'[k]? = h[k]?)∧(∀ x ∈ vs',∀ k,(blk x.1=some k∨blk x.2=some k)→(∃ y ∈ vs,blk y.1=some k∨blk y.2=some k)∨h.length≤k):=by
 have hw:e.who<s.cls.length:=by rw[hS.len]; exact hE.1
 have hwv:e.who<vs.length:=by rw[H.p.len]; exact hw
 obtain⟨c,gC⟩ : ∃ c,s.cls[e.who]? = some c:=⟨_,List.getElem?_eq_getElem hw⟩
 obtain⟨v,gV⟩ : ∃ v,vs[e.who]? = some v:=⟨_,List.getElem?_eq_getElem hwv⟩
 have hgd:s.cls.getD e.who clZ=c:=by rw[List.getD_eq_getElem?_getD,gC]; rfl
 have hcm:=List.mem_of_getElem? gC
 have hvm:=List.mem_of_getElem? gV
 have hco:=hS.ok _ hcm
 obtain⟨L1,L2⟩:=Et hco hsz
 have hR:RulesOK r s.time e c:=by
  have:=zv (l7 _ 1 (by decide) hleg)
  rw[hgd] at this
  exact this.1
 have HK:=H.app [enB e]
 obtain⟨v',h1,k1,d1,d2,d3,d4,d5,d6,d7⟩:=hD.2 _ _ _ _ _ _ _ _ _ _ (WM HK gC gV (by omega) (by omega)) hr hsz ⟨hE.2.1,hE.2.2.1⟩ ⟨hE.2.2.2.1,hE.2.2.2.2⟩ hR.r1 hco hR
 have hKl:(h++[enB e]).length=h.length+1:=by simp
 rw[hKl] at d4 d5 d7
 obtain⟨a1,a2,a3,a4⟩:=H.ap v hvm
 have q0:=ltG H.p.pl
 have q1:=ltG H.p.row
 have vl1:∀ k,blk v.1=some k→k<h.length:=fun k hb=>H.lt hvm (.inl hb)
 have vl2:∀ k,blk v.2=some k→k<h.length:=fun k hb=>H.lt hvm (.inr hb)
 have g1:h1[bp]? = some (plB r names bc gc s.cls.length s.time):=by rw[d5 bp (by omega) H.ne a2 a4]; exact HK.p.pl
 have g2:h1[h.length]? = some (enB e):=by
  rw[d5 h.length (by omega) (by omega) (fun e=>by have:=vl1 _ e; omega) (fun e=>by have:=vl2 _ e; omega)]
  simp
 have k2:=W0 hD.1 H gC h1 k1 g1 g2
 have fr:∀ k,k<h.length→k≠bp→k≠bc→blk v.1≠some k→blk v.2≠some k→(h1.set bp (plB r names bc gc s.cls.length e.time))[k]? = h[k]?:=fun k hk b1 b2 b3 b4=>by
  rw[List.getElem?_set_ne (Ne.symm b1),d5 k (by omega) b2 b3 b4,List.getElem?_append_left hk]
 have v'b:blk v'.1≠some bp∧blk v'.2≠some bp∧blk v'.1≠some bc∧blk v'.2≠some bc:=by
  rw[d6]
  rcases d7 with d7 | ⟨k,m1,m2⟩
  ·rw[d7]; exact⟨a2,a4,a1,a3⟩
  ·rw[m2]
   exact⟨a2,fun x=>by cases x; omega,a1,fun x=>by cases x; omega⟩
 refine⟨vs.set e.who v',_,k2,⟨⟨?_,?_,?_,?_⟩,H.ne,H.g0,?_,?_,?_⟩,by rw[List.length_set]; omega,fun k hk b1 b2 b3=>fr k hk b1 b2 (b3 v hvm).1 (b3 v hvm).2,fun x hx k hk=>?_⟩
 ·rw[List.getElem?_set_self (by omega)]
  simp[dM]
 ·rw[List.getElem?_set_ne H.ne,d1,sB]
  simp only[dM,hgd]
 ·simp[dM,H.p.len]
 ·intro x hx
  have hzz:(dM r s e).cls.zip (vs.set e.who v')=(s.cls.zip vs).set e.who (doC r e c,v'):=by rw[sB]; simp only[dM,hgd]
  rw[hzz] at hx
  obtain⟨j,hj,ej⟩:=List.getElem_of_mem hx
  have gj:((s.cls.zip vs).set e.who (doC r e c,v'))[j]? = some x:=by rw[List.getElem?_eq_getElem hj,ej]
  by_cases hje:j=e.who
  ·subst hje
   rw[List.getElem?_set_self (by simpa using hj)] at gj
   cases gj
   exact⟨d2.move fun k hb=>by rw[List.getElem?_set_ne (fun x=>v'b.1 (by rw[hb,x]))],d3.move fun k hb=>by rw[List.getElem?_set_ne (fun x=>v'b.2.1 (by rw[hb,x]))]⟩
  ·rw[List.getElem?_set_ne (Ne.symm hje)] at gj
   have gz:=gj
   rw[List.getElem?_zip_eq_some] at gz
   obtain⟨t1,t2⟩:=H.p.all _ (List.mem_of_getElem? gj)
   have hxm:=List.mem_of_getElem? gz.2
   obtain⟨b1,b2,b3,b4⟩:=H.ap _ hxm
   have hap:=H.dis j e.who x.2 v hje gz.2 gV
   refine⟨t1.move fun k hb=>?_,t2.move fun k hb=>?_⟩
   ·exact fr k (t1.lt hb) (fun x=>b2 (by rw[hb,x])) (fun x=>b1 (by rw[hb,x])) (hap k (.inl hb)).1 (hap k (.inl hb)).2
   ·exact fr k (t2.lt hb) (fun x=>b4 (by rw[hb,x])) (fun x=>b3 (by rw[hb,x])) (hap k (.inr hb)).1 (hap k (.inr hb)).2
 ·intro x hx
  rcases List.mem_or_eq_of_mem_set hx with hx | rfl
  ·exact H.gen x hx
  ·rw[d6]; exact H.gen v hvm
 ·intro x hx
  rcases List.mem_or_eq_of_mem_set hx with hx | rfl
  ·exact H.ap x hx
  ·exact⟨v'b.2.2.1,v'b.1,v'b.2.2.2,v'b.2.1⟩
 ·intro j m x y hjm gx gy
  have get:∀ (k:Nat) (z:LV × LV),(vs.set e.who v')[k]? = some z→(k=e.who∧z=v')∨(k≠e.who∧vs[k]? = some z):=by
   intro k z hz
   by_cases hk:k=e.who
   ·subst hk
    rw[List.getElem?_set_self hwv] at hz
    exact .inl ⟨rfl,(Option.some.inj hz).symm⟩
   ·rw[List.getElem?_set_ne (Ne.symm hk)] at hz
    exact .inr ⟨hk,hz⟩
  rcases get j x gx with ⟨j1,rfl⟩ | ⟨j1,j2⟩
  ·rcases get m y gy with ⟨m1,rfl⟩ | ⟨m1,m2⟩
   ·omega
   ·have hym:=List.mem_of_getElem? m2
    intro k hk
    rw[d6] at hk
    rcases hk with hk | hk
    ·exact H.dis e.who m v y (Ne.symm m1) gV m2 k (.inl hk)
    ·rcases d7 with d7 | ⟨q,w1,w2⟩
     ·rw[d7] at hk
      exact H.dis e.who m v y (Ne.symm m1) gV m2 k (.inr hk)
     ·rw[w2] at hk
      cases hk
      exact⟨fun hb=>by have:=H.lt hym (.inl hb); omega,fun hb=>by have:=H.lt hym (.inr hb); omega⟩
  ·rcases get m y gy with ⟨m1,rfl⟩ | ⟨m1,m2⟩
   ·have hxm:=List.mem_of_getElem? j2
    intro k hk
    have:=H.dis j e.who x v j1 j2 gV k hk
    rw[d6]
    refine⟨this.1,?_⟩
    rcases d7 with d7 | ⟨q,w1,w2⟩
    ·rw[d7]; exact this.2
    ·rw[w2]
     have:=H.lt hxm hk
     intro e2
     cases e2
     omega
   ·exact H.dis j m x y hjm j2 m2
 ·rcases List.mem_or_eq_of_mem_set hx with hx | rfl
  ·exact .inl ⟨x,hx,hk⟩
  ·rw[d6] at hk
   rcases hk with hk | hk
   ·exact .inl ⟨v,hvm,.inl hk⟩
   ·rcases d7 with d7 | ⟨q,w1,w2⟩
    ·rw[d7] at hk
     exact .inl ⟨v,hvm,.inr hk⟩
    ·rw[w2] at hk
     cases hk
     exact .inr (by omega)
end LM.GZ
namespace LM.GZ
open Go LM
def TrW (h:Heap) (l:List CTr) (w:LV):Prop:=(l=[]∧w=.nil)∨(∃ b g cp fz,w=.slice b g 0 l.length (some 4) cp∧h[b]? = some (.cells g (l.flatMap trL) fz))
def RuW (h:Heap) (l:List Int) (w:LV):Prop:=(l=[]∧w=.nil)∨(∃ b g cp fz,w=.slice b g 0 l.length none cp∧h[b]? = some (.cells g (cI l) fz))
theorem TrV.w {h:Heap} {l:List CTr} {w:LV} (H:TrV h l w):TrW h l w:=by
 rcases H with h1 | ⟨_,b,g,h2,h3⟩
 ·exact .inl h1
 ·exact .inr ⟨b,g,none,0,h2,h3⟩
theorem RuV.w {h:Heap} {l:List Int} {w:LV} (H:RuV h l w):RuW h l w:=by
 rcases H with h1 | ⟨_,b,g,h2,h3⟩
 ·exact .inl h1
 ·exact .inr ⟨b,g,none,0,h2,h3⟩
def Cel (h h' : Heap):Prop:=∀ (g:Nat) (cs:List LV) (i fz:Nat),h[i]? = some (.cells g cs fz)→∃ fz',h'[i]? = some (.cells g cs fz')
theorem Cel.refl (h:Heap):Cel h h:=fun _ _ _ fz e=>⟨fz,e⟩
theorem Cel.trans {a b c:Heap} (h1:Cel a b) (h2:Cel b c):Cel a c:=fun g cs i fz e=>by
 obtain⟨f,e2⟩:=h1 g cs i fz e
 exact h2 g cs i f e2
theorem TrW.cel {h h' : Heap} {l:List CTr} {w:LV} (H:TrW h l w) (hc:Cel h h'):TrW h' l w:=by
 rcases H with h1 | ⟨b,g,cp,fz,h2,h3⟩
 ·exact .inl h1
 ·obtain⟨f,e⟩:=hc _ _ _ _ h3
  exact .inr ⟨b,g,cp,f,h2,e⟩
theorem RuW.cel {h h' : Heap} {l:List Int} {w:LV} (H:RuW h l w) (hc:Cel h h'):RuW h' l w:=by
 rcases H with h1 | ⟨b,g,cp,fz,h2,h3⟩
 ·exact .inl h1
 ·obtain⟨f,e⟩:=hc _ _ _ _ h3
  exact .inr ⟨b,g,cp,f,h2,e⟩
theorem lT {d b g fz:Nat} {e:Option Nat} {ys:List CV} {h:Heap} {len:Nat} (hb:h[b]? = some (.cells g (cellsOf ys) fz)) (hy:∀ x ∈ ys,Elem e x) (hlen:len=ys.length) (cap:Option Nat) :
  frz (d+2) (.slice b g 0 len e cap) h=some (.slice ys,LM.bump b (len*ae e) h):=by
 subst hlen
 have h3:=cU hy
 rw[eg (d+1),hb]
 simp only[Nat.zero_add,List.drop_zero]
 rw[if_pos ⟨trivial,by omega⟩]
 have:(cellsOf ys).take (ys.length*ae e)=cellsOf ys:=by rw[← h3]; exact List.take_length
 rw[this]
 unfold cellsOf
 rw[gM d]
 simp only[ak,fR hy]
theorem PP (d:Nat) {h:Heap} {l:List CTr} {w:LV} (H:TrW h l w):∃ h',frz (d+2) w h=some (.slice (l.map trE),h')∧Cel h h':=by
 rcases H with ⟨rfl,rfl⟩ | ⟨b,g,cp,fz,rfl,hb⟩
 ·exact⟨h,rfl,Cel.refl h⟩
 ·exact⟨_,lT (b:=b) (g:=g) (fz:=fz) (e:=some 4) (ys:=l.map trE) (h:=h) (len:=l.length) (by rw[iW]; exact hb) (od l) (by simp) cp,fun g cs i fz e=>fX e⟩
theorem RU (d:Nat) {h:Heap} {l:List Int} {w:LV} (H:RuW h l w):∃ h',frz (d+2) w h=some (.slice (l.map ci),h')∧Cel h h':=by
 rcases H with ⟨rfl,rfl⟩ | ⟨b,g,cp,fz,rfl,hb⟩
 ·exact⟨h,rfl,Cel.refl h⟩
 ·exact⟨_,lT (b:=b) (g:=g) (fz:=fz) (e:=none) (ys:=l.map ci) (h:=h) (len:=l.length) (by rw[bk]; exact hb) (dD l) (by simp) cp,fun g cs i fz e=>fX e⟩
def clX (c:CCl):List CV:=clC c++[.slice (c.tries.map trE),.slice (c.runs.map ci)]
theorem A3 (f:LV→Heap→Option (CV × Heap)):∀ (a b:List LV) (h:Heap),aV f (a++b) h=bnd (aV f a h) fun x=>bnd (aV f b x.2) fun y=>some (x.1++y.1,y.2)
 | [],b,h=>by
  rw[List.nil_append,io,ak]
  rcases aV f b h with _ | ⟨l,h'⟩<;>rfl
 | v::a,b,h=>by
  rw[List.cons_append,bh,bh]
  rcases f v h with _ | ⟨x,h1⟩
  ·rfl
  ·simp only[ak,A3 f a b h1]
   rcases aV f a h1 with _ | ⟨l1,h2⟩
   ·rfl
   ·simp only[ak]
    rcases aV f b h2 with _ | ⟨l2,h3⟩<;>rfl
theorem Rg (d:Nat) {h:Heap} {c:CCl} {v:LV × LV} (H:TrW h c.tries v.1) (H2:RuW h c.runs v.2):∃ h',aV (frz (d+2)) (clL c v) h=some (clX c,h')∧Cel h h':=by
 obtain⟨h1,e1,c1⟩:=PP d H
 obtain⟨h2,e2,c2⟩:=RU d (H2.cel c1)
 have e0:clL c v=(clC c).map .c++[v.1,v.2]:=rfl
 refine⟨h2,?_,c1.trans c2⟩
 rw[e0,my (d+1)]
 rw[bh,e1,ak,bh,e2,ak,io,ak,ak,ak]
 rfl
theorem yn (d:Nat):∀ (l:List (CCl × (LV × LV))) (h:Heap),(∀ x ∈ l,TrW h x.1.tries x.2.1∧RuW h x.1.runs x.2.2)→∃ h',aV (frz (d+2)) (rowL l) h=some (l.flatMap fun x=>clX x.1,h')∧Cel h h'
 | [],h,_=>⟨h,by simp[rowL],Cel.refl h⟩
 | a::l,h,H=>by
  obtain⟨t1,t2⟩:=H a (by simp)
  obtain⟨h1,e1,c1⟩:=Rg d t1 t2
  obtain⟨h2,e2,c2⟩:=yn d l h1 fun x hx=>⟨(H x (by simp[hx])).1.cel c1,(H x (by simp[hx])).2.cel c1⟩
  have e:rowL (a::l)=clL a.1 a.2++rowL l:=rfl
  refine⟨h2,?_,c1.trans c2⟩
  rw[e,A3,e1,ak,e2,ak,List.flatMap_cons]
theorem vj:∀ (l:List (CCl × (LV × LV))),bV (some 11) l.length (l.flatMap fun x=>clX x.1)=some (l.map fun x=>clE x.1)
 | []=>rfl
 | a::l=>by
  have ih:=vj l
  have e1:(clX a.1++l.flatMap fun x=>clX x.1).take 11=clX a.1:=List.take_left' rfl
  have e2:(clX a.1++l.flatMap fun x=>clX x.1).drop 11=l.flatMap fun x=>clX x.1:=List.drop_left' rfl
  rw[List.flatMap_cons,List.length_cons,List.map_cons]
  simp only[bV,bO,ae,e1,e2,ih]
  rw[if_pos (by rw[List.length_append]; show 11≤11+_; omega)]
  rfl
theorem uK (d:Nat) {h:Heap} {l:List (CCl × (LV × LV))} {b g fz:Nat} {cp:Option Nat} (hb:h[b]? = some (.cells g (rowL l) fz)) (H:∀ x ∈ l,TrW h x.1.tries x.2.1∧RuW h x.1.runs x.2.2):∃ h',frz (d+3) (.slice b g 0 l.length (some 11) cp) h=some (.slice (l.map fun x=>clE x.1),h')∧Cel h h':=by
 have hc:Cel h (LM.bump b (l.length*11) h):=fun g cs i fz e=>fX e
 obtain⟨h1,e1,c1⟩:=yn d l (LM.bump b (l.length*11) h) fun x hx=>⟨(H x hx).1.cel hc,(H x hx).2.cel hc⟩
 refine⟨h1,?_,hc.trans c1⟩
 have hl:=cE l
 have hz:ae (some 11)=11:=rfl
 rw[eg (d+2),hb]
 simp only[hz,Nat.zero_add,List.drop_zero]
 rw[if_pos ⟨trivial,by omega⟩]
 have:(rowL l).take (l.length*11)=rowL l:=by rw[← hl]; exact List.take_length
 rw[this,e1]
 simp only[ak,vj]
end LM.GZ
namespace LM.GZ
open Go LM
variable {P:Nat→Option SFunc} [Has P]
variable {r:CRn} {names:List Str} {s:CSs} {e:CEn} {c:CCl} {v:LV × LV} {vs:List (LV × LV)} {h:Heap} {l:List (CCl × (LV × LV))} {bc gc i bp n:Nat} {t:Int}
theorem PlayH.same {h' : Heap} (H:PlayH r names s vs bp bc gc h) (hs:SameH h.length h h'):PlayH r names s vs bp bc gc h' :=
 ⟨H.p.same hs,H.ne,H.g0,H.gen,H.ap,H.dis⟩
theorem Hf (H:PlayH r names s vs bp bc gc h) (hr:RnOK r) (hsz:r.size≤64) (hS:SsOK r n s) (hE:jZ n e) (hn:n≤160) :
  ∃ h',SameH h.length h h'∧sfn P 197 [.ptr bp 0 0,.c (enE e)] h=some (.c (ci (c6 r s e)),h'):=by
 have hw:e.who<s.cls.length:=by rw[hS.len]; exact hE.1
 have hwv:e.who<vs.length:=by rw[H.p.len]; exact hw
 obtain⟨c,gC⟩ : ∃ c,s.cls[e.who]? = some c:=⟨_,List.getElem?_eq_getElem hw⟩
 obtain⟨v,gV⟩ : ∃ v,vs[e.who]? = some v:=⟨_,List.getElem?_eq_getElem hwv⟩
 have hco:=hS.ok _ (List.mem_of_getElem? gC)
 obtain⟨L1,L2⟩:=Et hco hsz
 have hb:=hco.began
 have ht:=hS.time
 have hlim:=hr.lim
 have hE2:=hE.2
 refine Z6 H.p (by have:=hS.len; omega) gC gV ⟨hE2.1,hE2.2.1⟩ (fun hd=>?_) (fun hd hon=>?_) (am (by omega) (by omega)) (am (by omega) (by omega)) (by omega)
 ·have ho:=hco.own
  rw[hd] at ho
  exact ho.len
 ·have ho:=hco.own
  rw[hd] at ho
  simp only at ho
  obtain⟨p1,p2,_⟩:=ho.on hon
  exact⟨p1,by rw[ho.len]; exact p2⟩
end LM.GZ
namespace LM.GZ
open Go LM
variable {P:Nat→Option SFunc} [Has P]
variable {r:CRn} {names:List Str} {e:CEn}
@[simp] theorem aa1 (b:Bool) (e:Int):fn P 126 [.bool b,ci e]=some (ci (av b e)):=by
 rw[aa3]; cases b<;>simp[Mx,av]
theorem act:∀ (l pre:List Int),(l.length:Int)+pre.length<9223372036854775807→ac P (af P) tp ⟨[.c (.slice ((pre++l).map ci)),.c (ci (pre++l).length),.c (ci pre.length)],[]⟩=if aq l=0 then some (.exit 0,⟨[],[]⟩) else some (.ret,⟨[.c (ci (aq l))],[]⟩):=by
 intro l
 induction l with
 | nil =>
  intro pre h
  rw[Ga]
  simp[ib,aq]
 | cons c r ih =>
  intro pre h
  have ih:=ih (pre++[c]) (by simp at h ⊢; omega)
  simp at ih h
  have hw:IntKind.i64.wrap (↑pre.length+1)=↑pre.length+1:=am (by omega) (by omega)
  have hlt:(pre.length:Int)<pre.length+(r.length+1):=by omega
  rw[Ga]
  by_cases hc:c=0
  ·subst hc
   simp[ib,aq,hw,hlt,ih]
  ·simp[ib,aq,hw,hlt,hc]
@[simp] theorem oQ (l:List Int) (h:l.length<9223372036854775807):fn P 125 [.slice (l.map ci)]=some (ci (aq l)):=by
 have:=act (P:=P) l [] (by simp; omega)
 rw[aa6]
 simp at this
 simp[NR,this]
 by_cases hc:aq l=0<;>simp[hc]
@[simp] theorem afH (a:Int):fn P 125 [.slice [ci a]]=some (ci (aq [a])):=oQ [a] (by simp)
@[simp] theorem ae7 (a b:Int):fn P 125 [.slice [ci a,ci b]]=some (ci (aq [a,b])):=oQ [a,b] (by simp)
@[simp] theorem afK (a b c:Int):fn P 125 [.slice [ci a,ci b,ci c]]=some (ci (aq [a,b,c])):=oQ [a,b,c] (by simp)
@[simp] theorem afx (a b c d:Int):fn P 125 [.slice [ci a,ci b,ci c,ci d]]=some (ci (aq [a,b,c,d])):=oQ [a,b,c,d] (by simp)
@[simp] theorem afv (a b c d e:Int):fn P 125 [.slice [ci a,ci b,ci c,ci d,ci e]]=some (ci (aq [a,b,c,d,e])):=oQ [a,b,c,d,e] (by simp)
@[simp] theorem afG (a b c d e f:Int):fn P 125 [.slice [ci a,ci b,ci c,ci d,ci e,ci f]]=some (ci (aq [a,b,c,d,e,f])):=oQ [a,b,c,d,e,f] (by simp)
theorem y8 (n a b:Int):fn P 153 [ci n,ci a,ci b]=some (ci (av (aF n a b) 3)):=by
 have e199:=iB (P:=P) n a b
 have e126:=aa1 (P:=P) (decide (n<a) || decide (b<n)) 3
 rw[aaJ]
 simp[Ni,e199,e126,aF]
def mostN:CDc→Int
 | .lead=>64
 | .boulder=>8
 | .speed=>8
theorem abw (d:CDc):fn P 191 [.str (dcS d)]=some (ci (mostN d)):=by
 rw[acI]
 have f0:aH (.one 1) (.str [108,101,97,100]) []=some none:=rfl
 have f1:aH (.one 1) (.str [98,111,117,108,100,101,114]) [.str [108,101,97,100]]=some none:=rfl
 have f2:aH (.one 1) (.str [115,112,101,101,100]) [.str [108,101,97,100],.str [98,111,117,108,100,101,114]]=some none:=rfl
 have g0:aH (.one 1) (.str [108,101,97,100]) [.str [108,101,97,100],.str [98,111,117,108,100,101,114],.str [115,112,101,101,100]]=some (some 0):=rfl
 have g1:aH (.one 1) (.str [98,111,117,108,100,101,114]) [.str [108,101,97,100],.str [98,111,117,108,100,101,114],.str [115,112,101,101,100]]=some (some 1):=rfl
 have g2:aH (.one 1) (.str [115,112,101,101,100]) [.str [108,101,97,100],.str [98,111,117,108,100,101,114],.str [115,112,101,101,100]]=some (some 2):=rfl
 cases d<;>simp[Ov,fZ,f0,f1,f2,g0,g1,g2,dcS,mostN]
structure NmOK (names:List Str):Prop where
 pos:0<names.length
 most:names.length≤160
 name:∀ s ∈ names,isName s=true∧s.length<9223372036854775807
 once:names.Pairwise (·≠·)
structure RnV (r:CRn):Prop where
 size:1≤r.size∧(r.size:Int)≤mostN r.dc
 lim:1≤r.limit∧r.limit≤86399999
theorem RnV.ok (h:RnV r):RnOK r:=⟨h.size.1,h.lim⟩
theorem RnV.sz (h:RnV r):r.size≤64:=by
 have:=h.size.2
 cases hd:r.dc<;>rw[hd] at this<;>simp only[mostN] at this<;>omega
theorem abG (hn:NmOK names) (dc:CV) (sz li:CV):∀ (l pre:List Str),names=pre++l →
  ac P (af P) sj ⟨[.ptr 0 0 0,.c (.slice (names.map CV.str)),.c (ci names.length),.c (ci pre.length)],[.cells 0 [.c dc,.c (.slice (names.map CV.str)),.c sz,.c li] 0,.dead]⟩=some (.exit 0,⟨[.ptr 0 0 0],[.cells 0 [.c dc,.c (.slice (names.map CV.str)),.c sz,.c li] 0,.dead]⟩):=by
 intro l
 induction l with
 | nil =>
  intro pre h
  have h:names=pre:=by simpa using h
  subst h
  rw[CE]
  simp[j8]
 | cons c r ih =>
  intro pre h
  have ih:=ih (pre++[c]) (by simp[h])
  have gx:names[pre.length]? = some c:=by rw[h]; simp
  obtain⟨hpl,gx'⟩:=List.getElem?_eq_some_iff.1 gx
  have hcm:c ∈ names:=List.mem_of_getElem? gx
  have hmo:=hn.most
  have hw:IntKind.i64.wrap (↑pre.length+1)=↑pre.length+1:=am (by omega) (by omega)
  have hlt:(pre.length:Int)<names.length:=by omega
  have hle:(pre.length:Int)≤names.length:=by omega
  have e85:=S85 (P:=P) c (hn.name c hcm).2
  rw[(hn.name c hcm).1] at e85
  have htk:(names.map CV.str).take pre.length=pre.map CV.str:=by rw[h]; simp
  have e86:=S86 (P:=P) c pre (by omega)
  have hno:pre.any (Str.is c)=false:=by
   rw[List.any_eq_false]
   intro x hx
   have:=hn.once
   rw[h] at this
   have hne:=(List.pairwise_append.1 this).2.2 x hx c (by simp)
   intro e
   rw[Str.is_eq] at e
   exact hne (of_decide_eq_true e)
  rw[hno] at e86
  rw[CE]
  simp at ih
  simp[j8,hlt,hle,gx,gx',hpl,e85,htk,e86,hw]
  have hz:fP 1 (names.map CV.str)=true:=by cases names<;>rfl
  have hf:aq [av false 8,av false 9]=0:=rfl
  rw[if_pos hf]
  exact⟨hz,ih⟩
theorem M7 (d:CDc):mostN d≠0:=by cases d<;>decide
theorem Sj (hn:NmOK names) (hr:RnV r):fn P 148 [rnE r names]=some (ci 0):=by
 have hL:=abG (P:=P) hn (.str (dcS r.dc)) (ci r.size) (ci r.limit) names [] rfl
 simp at hL
 have e191:=abw (P:=P) r.dc
 have h1:=hn.pos
 have h2:=hn.most
 have h3:=hr.size
 have h4:=hr.lim
 have e1:=y8 (P:=P) r.size 1 (mostN r.dc)
 have e2:=y8 (P:=P) r.limit 1 86399999
 have o1:aF r.size 1 (mostN r.dc)=false:=by simp[aF]; omega
 have o2:aF r.limit 1 86399999=false:=by simp[aF]; omega
 rw[o1] at e1
 rw[o2] at e2
 have hd:=M7 r.dc
 have g1:¬ (160:Int)<names.length:=by omega
 have g2:¬ names=[]:=by rintro rfl; simp at h1
 rw[aad]
 generalize mostN r.dc=M at *
 simp[NG,rnE,e191,e1,e2,hL,hd,g1,g2,av,aq]
 trace_state
end LM.GZ
namespace LM.GZ
open Go LM
variable {P:Nat→Option SFunc} [Has P]
variable {r:CRn} {names:List Str} {e:CEn}
def EnV (n:Nat) (e:CEn):Prop:=jZ n e∧(jH e.kind=false→e.val=0)
theorem aaH (hn:names.length≤160) (he:EnV names.length e):fn P 192 [rnE r names,enE e]=some (ci 0):=by
 have e214:=OS (P:=P)
 obtain⟨j,j1,j2⟩:=uF e.kind
 obtain⟨D1,D3,hD⟩ : ∃ D1 D3,kdC e.kind=.agg [.slice D1,.bool (jH e.kind),.func D3 [] []]:=⟨_,_,rfl⟩
 rw[hD] at j2
 clear hD
 simp only[vN] at e214
 generalize kdAll.map (fun k=>CV.str (kdS k))=KS at *
 generalize kdAll.map kdC=VS at *
 obtain⟨⟨q1,q2,q3,q4,q5⟩,qv⟩:=he
 have hwr:IntKind.i64.wrap ((names.length:Int)-1)=(names.length:Int)-1:=am (by omega) (by omega)
 have o1:aF e.who 0 ((names.length:Int)-1)=false:=by simp[aF]; omega
 have o2:aF e.val 0 86399999=false:=by simp[aF]; omega
 have o3:aF e.time 0 86399999=false:=by simp[aF]; omega
 have e199:=iB (P:=P) e.who 0 ((names.length:Int)-1)
 have e1:=y8 (P:=P) e.val 0 86399999
 have e2:=y8 (P:=P) e.time 0 86399999
 unfold aF at o1
 rw[o1] at e199
 rw[o2] at e1
 rw[o3] at e2
 rw[aaE]
 cases hv:jH e.kind
 ·have h0:=qv hv
  rw[hv] at j2
  rw[h0] at e1
  have j2':=(List.getElem?_eq_some_iff.1 j2).2
  have j2l:=(List.getElem?_eq_some_iff.1 j2).1
  simp[G0,rnE,enE,e214,fZ,j1,j2,j2',j2l,hwr,e199,e1,e2,h0,av,aq]
 ·rw[hv] at j2
  have j2':=(List.getElem?_eq_some_iff.1 j2).2
  have j2l:=(List.getElem?_eq_some_iff.1 j2).1
  simp[G0,rnE,enE,e214,fZ,j1,j2,j2',j2l,hwr,e199,e1,e2,av,aq]
def rnC (r:CRn) (names:List Str):LB:=.cells 0 [.c (.str (dcS r.dc)),.c (.slice (names.map CV.str)),.c (ci r.size),.c (ci r.limit)] 0
theorem abx (hn:names.length≤160):∀ (l pre:List CEn),(∀ e ∈ l,EnV names.length e)→((pre++l).length:Int)<1000 →
  ac P (af P) nP ⟨[.ptr 0 0 0,.c (.slice ((pre++l).map enE)),.c (ci (pre++l).length),.c (ci pre.length)],[rnC r names]⟩=some (.exit 0,⟨[],[rnC r names]⟩):=by
 intro l
 induction l with
 | nil =>
  intro pre _ h
  rw[Cz]
  simp[jW]
 | cons e l ih =>
  intro pre hE h
  have ih:=ih (pre++[e]) (fun x hx=>hE x (by simp[hx])) (by simpa using h)
  have e192:=aaH (P:=P) (r:=r) hn (hE e (by simp))
  simp[enE] at ih h
  have hw:IntKind.i64.wrap (↑pre.length+1)=↑pre.length+1:=am (by omega) (by omega)
  have hlt:(pre.length:Int)<pre.length+(l.length+1):=by omega
  rw[Cz]
  simp only[rnE,enE] at e192
  simp only[rnC] at ih ⊢
  simp[jW,hw,hlt,enE,e192,ih]
theorem ads (hn:names.length≤160) (l:List CEn) (hE:∀ e ∈ l,EnV names.length e) (hl:l.length≤256):fn P 149 [rnE r names,.slice (l.map enE)]=some (ci 0):=by
 have hL:=abx (P:=P) (r:=r) hn l [] hE (by simp; omega)
 simp only[rnC] at hL
 simp at hL
 have g1:¬ (256:Int)<l.length:=by omega
 rw[acj]
 simp[Mj,rnE,g1,hL]
theorem S80 (hn:NmOK names) (hr:RnV r) (l:List CEn) (hE:∀ e ∈ l,EnV names.length e) (hl:l.length≤256):fn P 80 [rnE r names,.slice (l.map enE)]=some (ci 0):=by
 have e1:=Sj (P:=P) hn hr
 have e2:=ads (P:=P) (r:=r) hn.most l hE hl
 rw[u80]
 simp only[rnE] at *
 simp[c80,e1,e2]
end LM.GZ
namespace LM.GZ
open Go LM
variable {P:Nat→Option SFunc} [Has P]
variable {r:CRn} {names:List Str} {e:CEn} {c:CCl} {t:Int}
def kR (n:Int):Bool:=aF n 0 86399999
theorem acs (n:Int):fn P 240 [ci n]=some (.bool (kR n)):=by
 have:=iB (P:=P) n 0 86399999
 rw[aaQ]
 simp[L5,this,kR,aF]
theorem Yj:∀ (l pre:List Int),((pre++l).length:Int)<9223372036854775807 →
  ∃ k:Nat,ac P (af P) tj ⟨[.c (.slice ((pre++l).map ci)),.c (.func 240 [] []),.c (ci (pre++l).length),.c (ci pre.length)],[]⟩=if l.any kR then some (.ret,⟨[.c (ci k)],[]⟩) else some (.exit 0,⟨[],[]⟩):=by
 intro l
 induction l with
 | nil =>
  intro pre h
  refine⟨0,?_⟩
  rw[t7]
  simp[g9]
 | cons x r ih =>
  intro pre h
  obtain⟨k,ih⟩:=ih (pre++[x]) (by simpa using h)
  have es:=acs (P:=P) x
  simp[-List.any_eq_true] at ih h
  have hw:IntKind.i64.wrap (↑pre.length+1)=↑pre.length+1:=am (by omega) (by omega)
  have hlt:(pre.length:Int)<pre.length+(r.length+1):=by omega
  cases h0:kR x
  ·refine⟨k,?_⟩
   rw[h0] at es
   rw[t7]
   simp[g9,hw,hlt,es,h0,ih,-List.any_eq_true]
  ·refine⟨pre.length,?_⟩
   rw[h0] at es
   rw[t7]
   simp[g9,hw,hlt,es,h0,-List.any_eq_true]
theorem Zi (l:List Int) (h:(l.length:Int)<9223372036854775807):fn P 184 [.slice (l.map ci),.func 240 [] []]=some (.bool (l.any kR)):=by
 obtain⟨k,hl⟩:=Yj (P:=P) l [] (by simpa using h)
 simp[-List.any_eq_true] at hl
 have e170:fn P 210 [.slice (l.map ci),.func 240 [] []]=some (ci (if l.any kR then (k:Int) else -1)):=by
  rw[abo]
  cases h0:l.any kR<;>rw[h0] at hl<;>simp[Oa,hl]
 rw[abB]
 cases h0:l.any kR<;>rw[h0] at e170<;>simp[LU,e170]
def placesN (r:CRn):Int:=match r.dc with
 | .lead=>0
 | .boulder=>r.size
 | .speed=>2
def holdsN (r:CRn):Int:=match r.dc with
 | .lead=>r.size
 | .boulder=>0
 | .speed=>0
theorem abV:fn P 238 [rnE r names]=some (ci (placesN r)):=by
 rw[aav]
 have f1:aH (.one 1) (.str [98,111,117,108,100,101,114]) []=some none:=rfl
 have f2:aH (.one 1) (.str [115,112,101,101,100]) [.str [98,111,117,108,100,101,114]]=some none:=rfl
 have g0:aH (.one 1) (.str [108,101,97,100]) [.str [98,111,117,108,100,101,114],.str [115,112,101,101,100]]=some none:=rfl
 have g1:aH (.one 1) (.str [98,111,117,108,100,101,114]) [.str [98,111,117,108,100,101,114],.str [115,112,101,101,100]]=some (some 0):=rfl
 have g2:aH (.one 1) (.str [115,112,101,101,100]) [.str [98,111,117,108,100,101,114],.str [115,112,101,101,100]]=some (some 1):=rfl
 unfold placesN
 cases hd:r.dc<;>simp[Oz,fZ,rnE,hd,dcS,f1,f2,g0,g1,g2]
theorem aaT:fn P 239 [rnE r names]=some (ci (holdsN r)):=by
 rw[adh]
 have f1:aH (.one 1) (.str [108,101,97,100]) []=some none:=rfl
 have g0:aH (.one 1) (.str [108,101,97,100]) [.str [108,101,97,100]]=some (some 0):=rfl
 have g1:aH (.one 1) (.str [98,111,117,108,100,101,114]) [.str [108,101,97,100]]=some none:=rfl
 have g2:aH (.one 1) (.str [115,112,101,101,100]) [.str [108,101,97,100]]=some none:=rfl
 unfold holdsN
 cases hd:r.dc<;>simp[Oj,fZ,rnE,hd,dcS,f1,g0,g1,g2]
theorem Vv {T:CTr} (h:trOK T):aF T.att 0 99=false∧aF T.zone 0 T.att=false∧aF T.top 0 T.att=false:=by
 obtain⟨h1,h2,h3,h4,h5,h6,_⟩:=h
 refine⟨?_,?_,?_⟩<;>simp[aF]<;>omega
theorem acD:∀ (l pre:List CTr),(∀ x ∈ l,trOK x)→((pre++l).length:Int)<1000 →
  ac P (af P) uf ⟨[.c (.slice ((pre++l).map trE)),.c (ci (pre++l).length),.c (ci pre.length)],[]⟩=some (.exit 0,⟨[],[]⟩):=by
 intro l
 induction l with
 | nil =>
  intro pre _ h
  rw[CJ]
  simp[fY]
 | cons T l ih =>
  intro pre hE h
  have ih:=ih (pre++[T]) (fun x hx=>hE x (by simp[hx])) (by simpa using h)
  have hT:=hE T (by simp)
  obtain⟨o1,o2,o3⟩:=Vv hT
  have e1:=iB (P:=P) T.att 0 99
  have e2:=iB (P:=P) T.zone 0 T.att
  have e3:=iB (P:=P) T.top 0 T.att
  unfold aF at o1 o2 o3
  rw[o1] at e1
  rw[o2] at e2
  rw[o3] at e3
  simp[trE] at ih h
  have hw:IntKind.i64.wrap (↑pre.length+1)=↑pre.length+1:=am (by omega) (by omega)
  have hlt:(pre.length:Int)<pre.length+(l.length+1):=by omega
  obtain⟨k1,k2,k3,k4,k5,k6,k7,k8⟩:=hT
  rw[CJ]
  by_cases q1:0<T.top
  ·obtain⟨m1,m2⟩:=k7 q1
   have m2' : ¬ T.top<T.zone:=by omega
   have q2:0<T.att:=by omega
   have m3:=k8 q2
   rw[m3] at ih
   simp[fY,hw,hlt,trE,e1,e2,e3,q1,m1,m2',q2,m3,av,aq,ih]
  ·by_cases q2:0<T.att
   ·have m3:=k8 q2
    rw[m3] at ih
    simp[fY,hw,hlt,trE,e1,e2,e3,q1,q2,m3,av,aq,ih]
   ·simp[fY,hw,hlt,trE,e1,e2,e3,q1,q2,av,aq,ih]
theorem abI (l:List CTr) (hE:∀ x ∈ l,trOK x) (hl:l.length<1000):fn P 241 [.slice (l.map trE)]=some (ci 0):=by
 have hL:=acD (P:=P) l [] hE (by simp; omega)
 simp at hL
 rw[acF]
 simp[Mn,hL]
end LM.GZ
namespace LM.GZ
open Go LM
variable {P:Nat→Option SFunc} [Has P]
variable {r:CRn} {names:List Str} {e:CEn} {c:CCl} {t:Int}
structure FormOK (r:CRn) (c:CCl):Prop where
 place:0≤c.place∧c.place≤placesN r
 hold:0≤c.hold∧c.hold≤holdsN r
 tries:c.tries.length=if r.dc=.boulder then r.size else 0
 runs:c.runs.length≤if r.dc=.speed then r.size else 0
 trs:∀ x ∈ c.tries,trOK x
 rns:∀ n ∈ c.runs,0≤n∧n≤86399999
 lead:r.dc≠.lead→c.used=0∧c.plus=false∧c.top=false
 op:r.dc≠.boulder→c.op=false
theorem ClOK.form (h:ClOK r t c):FormOK r c:=by
 have ho:=h.own
 cases hd:r.dc<;>rw[hd] at ho<;>simp only at ho
 ·exact⟨by rw[ho.place]; simp[placesN,hd],by simpa[holdsN,hd] using ho.hold,by simp[ho.tries,hd],by simp[ho.runs],by simp[ho.tries],by simp[ho.runs],fun q=>(q hd).elim,fun _=>ho.op⟩
 ·refine⟨?_,by simp[ho.hold,holdsN,hd],by simp[ho.len,hd],by simp[ho.runs],ho.ok,by simp[ho.runs],fun _=>⟨ho.used,ho.plus,ho.top⟩,fun q=>(q hd).elim⟩
  by_cases hp:c.ph=.on
  ·obtain⟨p1,p2,_⟩:=ho.on hp
   simp[placesN,hd]
   omega
  ·rw[(ho.off hp).1]
   simp[placesN,hd]
 ·refine⟨?_,by simp[ho.hold,holdsN,hd],by simp[ho.tries,hd],by simpa[hd] using ho.len,by simp[ho.tries],ho.runs,fun _=>⟨ho.used,ho.plus,ho.top⟩,fun _=>ho.op⟩
  by_cases hp:c.ph=.on
  ·rcases ho.on hp with e | e<;>rw[e]<;>simp[placesN,hd]
  ·rw[ho.off hp]
   simp[placesN,hd]
theorem SG (p:CPh):fn P 86 [.slice [.str [119,97,105,116,105,110,103],.str [111,110],.str [100,111,110,101]],.str (phS p)]=some (.bool true):=by
 have:=S86 (P:=P) (phS p) [[119,97,105,116,105,110,103],[111,110],[100,111,110,101]] (by simp)
 simp only[List.map_cons,List.map_nil] at this
 rw[this]
 cases p<;>rfl
theorem TF (p:CSt):fn P 86 [.slice [.str [],.str [100,110,115],.str [100,110,102],.str [100,115,113]],.str (stS p)]=some (.bool true):=by
 have:=S86 (P:=P) (stS p) [[],[100,110,115],[100,110,102],[100,115,113]] (by simp)
 simp only[List.map_cons,List.map_nil] at this
 rw[this]
 cases p<;>rfl
theorem WO (a b c d e f g:Int):fn P 125 [.slice [ci a,ci b,ci c,ci d,ci e,ci f,ci g]]=some (ci (aq [a,b,c,d,e,f,g])):=oQ [a,b,c,d,e,f,g] (by simp)
theorem acn (hr:RnV r) (h:ClOK r t c) (ht:t≤86399999):fn P 200 [rnE r names,ci t,clE c]=some (ci 0):=by
 have F:=h.form
 have hsz:=hr.sz
 have f1:=SG (P:=P) c.ph
 have f2:=TF (P:=P) c.st
 have g1:=iB (P:=P) c.began 0 t
 have g2:=iB (P:=P) c.used 0 r.limit
 have g3:=iB (P:=P) c.place 0 (placesN r)
 have g4:=iB (P:=P) c.hold 0 (holdsN r)
 have q1:=h.began
 have q2:=h.used
 have q3:=F.place
 have q4:=F.hold
 rw[show (decide (c.began<0) || decide (t<c.began))=false by simp; omega] at g1
 rw[show (decide (c.used<0) || decide (r.limit<c.used))=false by simp; omega] at g2
 rw[show (decide (c.place<0) || decide (placesN r<c.place))=false by simp; omega] at g3
 rw[show (decide (c.hold<0) || decide (holdsN r<c.hold))=false by simp; omega] at g4
 have g5:=abV (P:=P) (r:=r) (names:=names)
 have g6:=aaT (P:=P) (r:=r) (names:=names)
 have hl1:c.tries.length<1000:=by rw[F.tries]; split<;>omega
 have hl2:(c.runs.length:Int)<1000:=by have:=F.runs; split at this<;>omega
 have g7:=abI (P:=P) c.tries F.trs hl1
 have g8:=Zi (P:=P) c.runs (by omega)
 have hany:c.runs.any kR=false:=by
  rw[List.any_eq_false]
  intro x hx
  have:=F.rns x hx
  simp[kR,aF]
  omega
 rw[hany] at g8
 have hst:c.ph≠.done→stS c.st=[]:=fun q=>by rw[h.st q]; rfl
 have hpd:phS c.ph=[100,111,110,101]↔c.ph=.done:=by cases c.ph<;>simp[phS]
 have n1:aH (.one 1) (.str [108,101,97,100]) []=some none:=rfl
 have n2:aH (.one 1) (.str [98,111,117,108,100,101,114]) []=some none:=rfl
 have n3:aH (.one 1) (.str [115,112,101,101,100]) []=some none:=rfl
 have m11:aH (.one 1) (.str [98,111,117,108,100,101,114]) [.str [108,101,97,100]]=some none:=rfl
 have m12:aH (.one 1) (.str [115,112,101,101,100]) [.str [108,101,97,100]]=some none:=rfl
 have m21:aH (.one 1) (.str [98,111,117,108,100,101,114]) [.str [98,111,117,108,100,101,114]]=some (some 0):=rfl
 have m22:aH (.one 1) (.str [115,112,101,101,100]) [.str [98,111,117,108,100,101,114]]=some none:=rfl
 have m31:aH (.one 1) (.str [98,111,117,108,100,101,114]) [.str [115,112,101,101,100]]=some none:=rfl
 have m32:aH (.one 1) (.str [115,112,101,101,100]) [.str [115,112,101,101,100]]=some (some 0):=rfl
 have e7:=WO (P:=P)
 have t1:=F.tries
 have t2:=F.runs
 have t3:=F.lead
 have t4:=F.op
 have hcl:clE c=.agg [.str (phS c.ph),.str (stS c.st),ci c.place,ci c.began,ci c.used,ci c.hold,.bool c.plus,.bool c.top,.bool c.op,.slice (c.tries.map trE),.slice (c.runs.map ci)]:=rfl
 rw[abC,hcl]
 simp only[rnE] at *
 generalize placesN r=PN at *
 generalize holdsN r=HN at *
 generalize phS c.ph=ph at *
 generalize stS c.st=st at *
 cases hd:r.dc<;>rw[hd] at g5 g6 t1 t2<;>simp only[dcS] at *
 ·simp at t1 t2
  have t4:=t4 (by rw[hd]; decide)
  rw[t1] at g7
  rw[t2] at g8
  simp at g7 g8
  by_cases hp:c.ph=.done
  ·have hp':=hpd.2 hp
   subst hp'
   simp[nG,fZ,dcS,hd,f1,f2,g1,g2,g3,g4,g5,g6,g7,g8,t1,t2,t4,n1,n2,n3,m11,m12,m21,m22,m31,m32,e7,av,aq]
  ·have hp' : ¬ ph=[100,111,110,101]:=fun q=>hp (hpd.1 q)
   have hst:=hst hp
   subst hst
   simp[nG,fZ,dcS,hd,f1,f2,g1,g2,g3,g4,g5,g6,g7,g8,t1,t2,t4,n1,n2,n3,m11,m12,m21,m22,m31,m32,hp',e7,av,aq]
 ·simp at t1 t2
  obtain⟨w1,w2,w3⟩:=t3 (by rw[hd]; decide)
  rw[t2] at g8
  rw[w1] at g2
  simp at g8 g2
  by_cases hp:c.ph=.done
  ·have hp':=hpd.2 hp
   subst hp'
   simp[nG,fZ,dcS,hd,f1,f2,g1,g2,g3,g4,g5,g6,g7,g8,t1,t2,w1,w2,w3,n1,n2,n3,m11,m12,m21,m22,m31,m32,e7,av,aq]
  ·have hp' : ¬ ph=[100,111,110,101]:=fun q=>hp (hpd.1 q)
   have hst:=hst hp
   subst hst
   simp[nG,fZ,dcS,hd,f1,f2,g1,g2,g3,g4,g5,g6,g7,g8,t1,t2,w1,w2,w3,n1,n2,n3,m11,m12,m21,m22,m31,m32,hp',e7,av,aq]
 ·simp at t1 t2
  obtain⟨w1,w2,w3⟩:=t3 (by rw[hd]; decide)
  have t4:=t4 (by rw[hd]; decide)
  rw[t1] at g7
  rw[w1] at g2
  simp at g7 g2
  have t2' : ¬ ((r.size:Int)<c.runs.length):=by omega
  by_cases hp:c.ph=.done
  ·have hp':=hpd.2 hp
   subst hp'
   simp[nG,fZ,dcS,hd,f1,f2,g1,g2,g3,g4,g5,g6,g7,g8,t1,t2,t4,t2',w1,w2,w3,n1,n2,n3,m11,m12,m21,m22,m31,m32,e7,av,aq]
  ·have hp' : ¬ ph=[100,111,110,101]:=fun q=>hp (hpd.1 q)
   have hst:=hst hp
   subst hst
   simp[nG,fZ,dcS,hd,f1,f2,g1,g2,g3,g4,g5,g6,g7,g8,t1,t2,t4,t2',w1,w2,w3,n1,n2,n3,m11,m12,m21,m22,m31,m32,hp',e7,av,aq]
end LM.GZ
namespace LM.GZ
open Go LM
variable {P:Nat→Option SFunc} [Has P]
variable {r:CRn} {names:List Str} {e:CEn} {c:CCl} {t:Int}
theorem abS (hr:RnV r) (h:ClOK r t c) (ht:t≤86399999):fn P 156 [rnE r names,ci t,clE c]=some (ci 0):=by
 have F:=h.form
 have hsz:=hr.sz
 have e200:=acn (P:=P) (names:=names) hr h ht
 have hl1:c.tries.length<1000:=by rw[F.tries]; split<;>omega
 have hl2:(c.runs.length:Int)<1000:=by have:=F.runs; split at this<;>omega
 have e177:=adr (P:=P) c.runs (by omega)
 have hcl:clE c=.agg [.str (phS c.ph),.str (stS c.st),ci c.place,ci c.began,ci c.used,ci c.hold,.bool c.plus,.bool c.top,.bool c.op,.slice (c.tries.map trE),.slice (c.runs.map ci)]:=rfl
 have ho:=h.own
 rw[hcl] at e200 ⊢
 rw[aaG]
 simp only[rnE] at *
 by_cases hp:c.ph=.on
 ·have hpo:=hp
  simp only[hp,phS] at e200 ⊢
  cases hd:r.dc<;>rw[hd] at ho<;>simp only[hd,dcS] at e200 ho ⊢
  ·simp[jJ,e200]
  ·obtain⟨p1,p2,p3,p4⟩:=ho.on hpo
   have hpl:=ho.len
   have n0:¬ c.place=0:=by omega
   have hw:IntKind.i64.wrap (c.place-1)=c.place-1:=am (by omega) (by omega)
   have n3:0≤c.place-1:=by omega
   have n4:c.place-1<c.tries.length:=by omega
   have gt:c.tries[(c.place-1).toNat]? = some (trAt c c.place):=by
    unfold trAt
    rw[List.getD_eq_getElem?_getD,List.getElem?_eq_getElem (by omega)]
    rfl
   have et:(c.place-1).toNat=c.place.toNat-1:=by omega
   rw[et] at gt
   obtain⟨_,gt'⟩:=List.getElem?_eq_some_iff.1 gt
   have n5:c.place.toNat-1<c.tries.length:=by omega
   generalize trAt c c.place=T at *
   cases hop:c.op
   ·simp only[hop] at e200 ⊢
    simp[jJ,e200,hop,n0,hw,n3,n4,gt,gt',p1,p3,trE,av]
   ·obtain⟨k1,k2⟩:=p4 hop
    have k3:¬ T.att=0:=by omega
    simp only[hop] at e200 ⊢
    simp[jJ,e200,hop,n0,hw,n3,n4,gt,gt',p1,p3,k2,k3,trE,av]
  ·have p1:=ho.on hpo
   have hpl:=ho.yet (by rw[hpo]; decide)
   have n0:¬ c.place=0:=by omega
   have n1:¬ (r.size:Int)≤c.runs.length:=by omega
   simp[jJ,e200,n0,n1,av]
 ·have z:c.place=0∧c.op=false:=by
   cases hd:r.dc<;>rw[hd] at ho<;>simp only at ho
   ·exact⟨ho.place,ho.op⟩
   ·exact ho.off hp
   ·exact⟨ho.off hp,ho.op⟩
  obtain⟨z1,z2⟩:=z
  have y1:r.dc=.speed→c.ph=.waiting→¬ (r.size:Int)≤c.runs.length:=fun hd hw=>by
   rw[hd] at ho
   simp only at ho
   have:=ho.yet (by rw[hw]; decide)
   omega
  have y2:r.dc=.speed→c.ph=.done→c.st=.fine→¬ bestL c.runs=0:=fun hd hw hs=>by
   rw[hd] at ho
   simp only at ho
   exact ho.best hw hs
  have hsf:stS c.st=[]↔c.st=.fine:=by cases c.st<;>simp[stS]
  simp only[z1,z2] at e200 ⊢
  generalize bestL c.runs=B at *
  cases hq:c.ph<;>simp only[hq,phS] at e200 y1 y2 ⊢
  ·by_cases hd:r.dc=.speed
   ·have y1:=y1 hd trivial
    simp only[hd,dcS] at e200 ⊢
    simp[jJ,e200,y1,av]
   ·have hd2:¬ dcS r.dc=[115,112,101,101,100]:=by cases h' : r.dc<;>simp[dcS,h'] at hd ⊢
    by_cases hz:(r.size:Int)≤c.runs.length<;>simp[jJ,e200,hz,hd2,av]
  ·exact (hp hq).elim
  ·by_cases hf:c.st=.fine
   ·simp only[hf,stS] at e200 ⊢
    by_cases hd:r.dc=.speed
    ·have y2:=y2 hd trivial hf
     simp only[hd,dcS] at e200 ⊢
     simp[jJ,e200,e177,y2,av]
    ·have hd2:¬ dcS r.dc=[115,112,101,101,100]:=by cases h' : r.dc<;>simp[dcS,h'] at hd ⊢
     by_cases hz:B=0<;>simp[jJ,e200,e177,hz,hd2,av]
   ·have hf2:¬ stS c.st=[]:=fun q=>hf (hsf.1 q)
    simp[jJ,e200,hf2,av]
end LM.GZ
namespace LM.GZ
open Go LM
variable {P:Nat→Option SFunc} [Has P]
variable {r:CRn} {names:List Str} {e:CEn} {c:CCl} {t:Int} {s:CSs} {n:Nat}
def Gw (P:Nat→Option SFunc) (f:Nat) (B:List CV) (p:CCl→Bool):Prop :=
 ∀ (pos:Option Nat) (q:Bool) (x:CCl) (h:Heap),aC P (af P) pos q f (.c (clE x)::B.map .c) h=some (.c (.bool (p x)),h)
def clV (c:CCl):List CV:=[.str (phS c.ph),.str (stS c.st),ci c.place,ci c.began,ci c.used,ci c.hold,.bool c.plus,.bool c.top,.bool c.op,.slice (c.tries.map trE),.slice (c.runs.map ci)]
theorem fQ (c:CCl):clE c=.agg (clV c):=rfl
theorem acH {f:Nat} {B:List CV} {p:CCl→Bool} (hp:Gw P f B p):∀ (l pre:List CCl),((pre++l).length:Int)<1000 →
  ∃ i:Nat,ac P (af P) tM ⟨[.c (.slice ((pre++l).map clE)),.c (.func f [] B),.c (ci (pre++l).length),.c (ci pre.length)],[]⟩=if l.any p then some (.ret,⟨[.c (ci i)],[]⟩) else some (.exit 0,⟨[],[]⟩):=by
 intro l
 induction l with
 | nil =>
  intro pre h
  refine⟨0,?_⟩
  rw[sM]
  simp[im]
 | cons x l ih =>
  intro pre h
  obtain⟨i,ih⟩:=ih (pre++[x]) (by simpa using h)
  have hc:=fun pos q h=>hp pos q x h
  simp[fQ,-List.any_eq_true,clV] at ih h hc
  have hw:IntKind.i64.wrap (↑pre.length+1)=↑pre.length+1:=am (by omega) (by omega)
  have hlt:(pre.length:Int)<pre.length+(l.length+1):=by omega
  cases h0:p x
  ·refine⟨i,?_⟩
   simp only[h0] at hc
   rw[sM]
   simp[im,hw,hlt,fQ,clV,hc,h0,ih,-List.any_eq_true]
  ·refine⟨pre.length,?_⟩
   simp only[h0] at hc
   rw[sM]
   simp[im,hw,hlt,fQ,clV,hc,h0,-List.any_eq_true]
theorem aa7 {f:Nat} {B:List CV} {p:CCl→Bool} (hp:Gw P f B p) (l:List CCl) (hl:l.length<1000):fn P 123 [.slice (l.map clE),.func f [] B]=some (.bool (l.any p)):=by
 obtain⟨i,hL⟩:=acH (P:=P) hp l [] (by simp; omega)
 simp[-List.any_eq_true] at hL
 have e176:fn P 176 [.slice (l.map clE),.func f [] B]=some (ci (if l.any p then (i:Int) else -1)):=by
  rw[aaD]
  cases h0:l.any p<;>rw[h0] at hL<;>simp[L0,hL]
 rw[abi]
 cases h0:l.any p<;>rw[h0] at e176<;>simp[MG,e176]
theorem PO (r:CRn) (names:List Str) (c:CCl):Gw P 154 [.ptr [.str (dcS r.dc),.slice (names.map CV.str),ci r.size,ci r.limit] 0,.ptr (clV c) 0] (fun x=>dq r x c.place):=by
 intro pos q x h
 have e155:=WE (P:=P) (r:=r) (names:=names) (c:=x) c.place
 have e:fn P 154 [clE x,.ptr [.str (dcS r.dc),.slice (names.map CV.str),ci r.size,ci r.limit] 0,.ptr (clV c) 0]=some (.bool (dq r x c.place)):=by
  rw[ace]
  simp only[rnE,fQ,clV] at *
  simp[NA,e155]
 simp[e]
end LM.GZ
namespace LM.GZ
open Go LM
variable {P:Nat→Option SFunc} [Has P]
variable {r:CRn} {names:List Str} {e:CEn} {c:CCl} {t:Int} {s:CSs} {n:Nat}
def stC (t:Int) (l:List CCl):LB:=.cells 0 [.c (ci t),.c (.slice (l.map clE))] 0
theorem N9 {x c:CCl} (h:dq r x c.place=true):x.ph=.on∧(r.dc=.lead∨x.place=c.place):=by
 simpa[dq] using h
theorem L82 (hr:RnV r) (ht:t≤86399999):∀ (l pre:List CCl),(∀ x ∈ l,ClOK r t x)→Apart r (pre++l)→((pre++l).length:Int)<1000 →
  ac P (af P) qi ⟨[.ptr 0 0 0,.ptr 1 0 0,.c (.slice ((pre++l).map clE)),.c (ci (pre++l).length),.c (ci pre.length)],[rnC r names,stC t (pre++l),.dead]⟩=some (.exit 0,⟨[],[rnC r names,stC t (pre++l),.dead]⟩):=by
 intro l
 induction l with
 | nil =>
  intro pre _ _ h
  rw[KO]
  simp[jp]
 | cons x l ih =>
  intro pre hE hA h
  have ih:=ih (pre++[x]) (fun y hy=>hE y (by simp[hy])) (by simpa using hA) (by simpa using h)
  have e156:=abS (P:=P) (names:=names) hr (hE x (by simp)) ht
  have e123:=aa7 (P:=P) (PO r names x) pre (by simp at h; omega)
  have hpre:pre.map clE=(pre.map clE):=rfl
  have htk:((pre++x::l).map clE).take pre.length=pre.map clE:=by simp
  have hany:x.ph=.on→pre.any (fun y=>dq r y x.place)=false:=fun hx=>by
   rw[List.any_eq_false]
   intro y hy hm
   obtain⟨m1,m2⟩:=N9 hm
   obtain⟨i,hi⟩:=List.mem_iff_getElem?.1 hy
   have hil:=(List.getElem?_eq_some_iff.1 hi).1
   obtain⟨a1,a2⟩:=hA i pre.length y x hil (by rw[List.getElem?_append_left hil]; exact hi) (by simp) m1 hx
   rcases m2 with m2 | m2
   ·exact a1 m2
   ·exact a2 m2
  simp only[rnE,fQ,clV] at e156 e123
  simp[fQ,clV,rnC,stC] at ih h htk
  have hw:IntKind.i64.wrap (↑pre.length+1)=↑pre.length+1:=am (by omega) (by omega)
  have hlt:(pre.length:Int)<pre.length+(l.length+1):=by omega
  have hle:(pre.length:Int)≤pre.length+(l.length+1):=by omega
  rw[KO]
  by_cases hx:x.ph=.on
  ·rw[hany hx] at e123
   have hz:fP 11 (List.map clE pre++CV.agg [.str [111,110],.str (stS x.st),ci x.place,ci x.began,ci x.used,ci x.hold,.bool x.plus,.bool x.top,.bool x.op,.slice (x.tries.map trE),.slice (x.runs.map ci)]::List.map clE l)=true:=by cases pre<;>rfl
   simp only[hx,phS] at e156 e123 ih htk ⊢
   simp[jp,rnC,stC,fQ,clV,hw,hlt,hle,hx,phS,hz,htk,e156,e123,av,aq]
   exact ih
  ·have hx' : ¬ phS x.ph=[111,110]:=by cases hq:x.ph<;>simp[phS,hq] at hx ⊢
   simp[jp,rnC,stC,fQ,clV,hw,hlt,hle,hx',e156,av,aq]
   exact ih
def ssV (s:CSs):CV:=.agg [ci s.time,.slice (s.cls.map clE)]
theorem S82 (hn:NmOK names) (hr:RnV r) (h:SsOK r names.length s):fn P 82 [rnE r names,ssV s]=some (ci 0):=by
 have e148:=Sj (P:=P) hn hr
 have e153:=y8 (P:=P) s.time 0 86399999
 have ht:=h.time
 have hm:=hn.most
 rw[show aF s.time 0 86399999=false by simp[aF]; omega] at e153
 have hlen:s.cls.length=names.length:=h.len
 have hL:=L82 (P:=P) (names:=names) hr ht.2 s.cls [] h.ok h.apart (by simp; omega)
 simp only[rnC,stC] at hL
 simp at hL
 rw[u82]
 simp only[rnE,ssV] at *
 simp[c82,e148,e153,hlen,av,aq]
 rw[hlen] at hL
 simp[hL]
end LM.GZ
namespace LM.GZ
open Go LM
variable {P:Nat→Option SFunc} [Has P]
theorem RG.alone {l:List Rs} (h:RG l) {x:Rs} (hx:x ∈ l):Kw x=0:=by
 obtain⟨a,b,c,d,e⟩:=h.one x hx
 unfold Kw
 rw[a,b,c,d,e]
 rfl
theorem RG.fresh {l:List Rs} (h:RG l) {pre r:List Rs} {x:Rs} (hp:l=pre++x::r):x.who ∉ pre.map (·.who):=by
 intro hm
 obtain⟨y,hy,e⟩:=List.mem_map.1 hm
 have:=h.uniq
 rw[hp] at this
 exact (List.pairwise_append.1 this).2.2 y hy x (by simp) e
theorem RG.count {l:List Rs} (h:RG l) {pre r:List Rs} {x:Rs} (hp:l=pre++x::r) (hs:isS x=true):(x.vals.length:Int)=oZ (pre++[x]):=by
 rw[KV]
 by_cases q:oZ pre<0
 ·rw[if_pos ⟨q,hs⟩]
 ·rw[if_neg (fun z=>q z.1)]
  unfold oZ at q ⊢
  cases hf:pre.find? isS with
  | none=>rw[hf] at q; simp at q
  | some y =>
   have h1:=List.find?_some hf
   have h2:=List.mem_of_find?_eq_some hf
   have:=h.like x (by rw[hp]; simp) y (by rw[hp]; simp[h2]) hs h1
   simp[this]
end LM.GZ
namespace LM.GZ
open Go LM
variable {P:Nat→Option SFunc} [Has P]
variable {r:CRn} {names:List Str} {e:CEn} {c:CCl} {t:Int} {s:CSs} {n:Nat}
def cV:Nat→List CCl→List Int
 | _,[]=>[]
 | k,c::l=>if c.ph=.done then cV (k+1) l else (k:Int)::cV (k+1) l
theorem Fy (l:List Int):∀ x ∈ l.map ci,Elem none x:=by
 intro x hx
 obtain⟨y,_,rfl⟩:=List.mem_map.1 hx
 exact⟨rfl,rfl⟩
theorem L27 (t:Int) (A:List CCl):∀ (l pre:List CCl) (ys:List Int),A=pre++l→A.length<1000→ys.length≤pre.length →
  ac P (af P) qt ⟨[.slice 3 (1+ys.length) 0 ys.length none none,.c (.slice (A.map clE)),.c (ci A.length),.c (ci pre.length)],[rnC r names,stC t A,.cells 1 [] 0,.cells (1+ys.length) (cellsOf (ys.map ci)) 0]⟩
   = some (.exit 0,⟨[.slice 3 (1+(ys++cV pre.length l).length) 0 (ys++cV pre.length l).length none none],[rnC r names,stC t A,.cells 1 [] 0,.cells (1+(ys++cV pre.length l).length) (cellsOf ((ys++cV pre.length l).map ci)) 0]⟩):=by
 intro l
 induction l with
 | nil =>
  intro pre ys hA h hy
  have hA:A=pre:=by simpa using hA
  subst hA
  rw[KI]
  simp[jj,cV]
 | cons x l ih =>
  intro pre ys hA h hy
  have gx:A[pre.length]? = some x:=by rw[hA]; simp
  obtain⟨hpl,gx'⟩:=List.getElem?_eq_some_iff.1 gx
  have hw:IntKind.i64.wrap ((pre.length:Int)+1)=(pre.length:Int)+1:=am (by omega) (by omega)
  have hlt:(pre.length:Int)<A.length:=by omega
  have hpd:phS x.ph=[100,111,110,101]↔x.ph=.done:=by cases x.ph<;>simp[phS]
  have hu0:=bx 4 (ys.map ci)
  have hcells:aT (clV x |>.map .c)=true:=rfl
  rw[KI]
  by_cases hd:x.ph=.done
  ·have ih:=ih (pre++[x]) ys (by simp[hA]) h (by simp; omega)
   simp only[List.length_append,List.length_cons,List.length_nil] at ih
   rw[cV,if_pos hd]
   simp only[rnC,stC] at ih ⊢
   generalize cV (pre.length+1) l=W at *
   generalize ys.map ci=D at *
   simp[jj,hlt,hpl,gx,gx',fQ,clV,hd,phS,hw,hu0]
   simpa using ih
  ·have ih:=ih (pre++[x]) (ys++[(pre.length:Int)]) (by simp[hA]) h (by simp; omega)
   have hd' : ¬ phS x.ph=[100,111,110,101]:=fun q=>hd (hpd.1 q)
   have ha:=fun X0 X1 X2 X4=>gN (b:=3) (g:=1+ys.length) (bytes:=8) (e:=none) (ys:=ys.map ci) (xs:=[ci (pre.length:Int)]) (h:=[X0,X1,X2,.cells (1+ys.length) (cellsOf (ys.map ci)) 0,X4]) (len:=ys.length) (fz:=0) rfl (Fy _) (by intro y hy; simp at hy; rw[hy]; exact⟨rfl,rfl⟩) (by simp) (Nat.zero_le _) (by simp) (by simp; omega) (by simp; omega)
   have e1:1+(ys.length+1)=1+ys.length+1:=by omega
   have hu1:=bx 4 (ys.map ci++[ci (pre.length:Int)])
   rw[cV,if_neg hd]
   simp only[rnC,stC,List.map_append,List.map_cons,List.map_nil,List.length_append,List.length_cons,List.length_nil] at ih ha ⊢
   generalize cV (pre.length+1) l=W at *
   generalize ys.map ci=D at *
   simp[e1] at ih ha
   simp[jj,hlt,hpl,gx,gx',fQ,clV,hd',ha,hw,hu1]
   have e2:ys.length+(W.length+1)=ys.length+1+W.length:=by omega
   rw[e2]
   simpa[Nat.add_assoc] using ih
theorem S27 (hn:NmOK names) (hr:RnV r) (h:SsOK r names.length s):fn P 27 [rnE r names,ssV s]=some (.tuple [.slice ((cV 0 s.cls).map ci),ci 0]):=by
 have e82:=S82 (P:=P) hn hr h
 have hm:=hn.most
 have hlen:=h.len
 have hL:=L27 (P:=P) (r:=r) (names:=names) s.time s.cls s.cls [] [] rfl (by omega) (Nat.le_refl _)
 have hc0:cellsOf (([]:List Int).map ci)=[]:=rfl
 simp only[rnC,stC,hc0,List.nil_append,List.length_nil] at hL
 have hr:=fun X0 X1 X2=>lU (b:=3) (g:=1+(cV 0 s.cls).length) (fz:=0) (e:=none) (ys:=(cV 0 s.cls).map ci) (h:=[X0,X1,X2,.cells (1+(cV 0 s.cls).length) (cellsOf ((cV 0 s.cls).map ci)) 0]) (len:=(cV 0 s.cls).length) rfl (Fy _) (by simp) none (ci 0)
 rw[u27]
 simp only[rnE,ssV] at *
 generalize (cV 0 s.cls).map ci=D at *
 simp at hL
 simp[c27,e82,hL,hr]
end LM.GZ
namespace LM.GZ
def Ub (o:Int × Int × Int × Int) (t:CTr):Int × Int × Int × Int:=(if 0<t.top then o.1+1 else o.1,if 0<t.zone then o.2.1+1 else o.2.1,o.2.2.1-t.top,o.2.2.2-t.zone)
end LM.GZ
namespace LM.GZ
open Go LM
variable {P:Nat→Option SFunc} [Has P]
variable {r:CRn} {names:List Str} {e:CEn} {c:CCl} {t:Int} {s:CSs} {n:Nat}
structure BouIn (k:Int) (o:Int × Int × Int × Int):Prop where
 a:0≤o.1∧o.1≤k
 b:0≤o.2.1∧o.2.1≤k
 c : -(99*k)≤o.2.2.1∧o.2.2.1≤0
 d : -(99*k)≤o.2.2.2∧o.2.2.2≤0
theorem BouIn.step {k:Int} {o:Int × Int × Int × Int} (h:BouIn k o) {T:CTr} (hT:trOK T):BouIn (k+1) (Ub o T):=by
 obtain⟨h1,h2,h3,h4⟩:=h
 obtain⟨k1,k2,k3,k4,k5,k6,k7,k8⟩:=hT
 refine⟨?_,?_,?_,?_⟩<;>unfold Ub<;>simp only<;>(try split)<;>omega
end LM.GZ
namespace LM.GZ
open Go LM
variable {P:Nat→Option SFunc} [Has P]
variable {r:CRn} {names:List Str}
def rnB (r:CRn) (names:List Str):LB:=.cells 0 [.c (.str (dcS r.dc)),.c (.slice (names.map CV.str)),.c (ci r.size),.c (ci r.limit)] 0
theorem vX {h:Heap} {b:Nat} {cs:List LV} (hb:h[b]? = some (.cells 1 cs 0)) (hl:cs.length=11) (hf:aT cs=true):aN none (some 11) 120 .nil (.slice b 1 0 1 (some 11) (some 1)) h=some (.slice h.length 1 0 1 (some 11) none,h++[.cells 1 cs 0]):=by
 have ht:cs.take 11=cs:=by rw[← hl]; exact List.take_length
 simp[aN,aO,hb,hl,ht,hf,ok,b7,cN,ae]
theorem yI {h:Heap} {b q g k:Nat} {cs ys:List LV} (hb:h[b]? = some (.cells 1 cs 0)) (hl:cs.length=11) (hf:aT cs=true) (hq:h[q]? = some (.cells g ys 0)) (hy:ys.length=k*11) (hk:k<100000):aN none (some 11) 120 (.slice q g 0 k (some 11) none) (.slice b 1 0 1 (some 11) (some 1)) h=some (.slice q (g+1) 0 (k+1) (some 11) none,h.set q (.cells (g+1) (ys++cs) 0)):=by
 have ht:cs.take 11=cs:=by rw[← hl]; exact List.take_length
 have h1:¬ ((k+1)*120 > 2^47∨k+1 > 9223372036854775807):=by omega
 have h2:¬ (2^47<(k+1)*120):=by omega
 have h3:¬ (9223372036854775807<k+1):=by omega
 simp[aN,aO,hb,hl,ht,hf,ok,ae,hq,hy]
 omega
def mo (r:CRn):LB:=.cells 1 ((List.replicate r.size trZ).flatMap trL) 0
theorem JS:∀ (n:Nat),(List.replicate n [LV.c (CV.int IntKind.i64 0),LV.c (CV.int IntKind.i64 0),LV.c (CV.int IntKind.i64 0),LV.c (CV.bool false)]).flatten=(List.replicate n trZ).flatMap trL
 | 0=>rfl
 | n+1=>by rw[List.replicate_succ,List.replicate_succ,List.flatten_cons,List.flatMap_cons,JS n]; rfl
theorem AE (c:CCl) (v:LV) (hv:v=.nil∨∃ b g k e q,v=.slice b g 0 k e q):aT (clL c (v,.nil))=true:=by
 rcases hv with rfl | ⟨b,g,k,e,q,rfl⟩<;>simp[clL,aT,LV.flat,CV.flat]
theorem N0 (hd:(dcS r.dc == [98,111,117,108,100,101,114])=false) {n k:Int} {row row' : LV} {B1:LB} {K K' : Heap} (hr:row=.nil∨∃ b g k,row=.slice b g 0 k (some 11) none) (hr2:∃ b g k,row'=.slice b g 0 k (some 11) none)
 (ha:aN none (some 11) 120 row (.slice (K.length+4) 1 0 1 (some 11) (some 1)) (rnB r names::B1::.cells 0 [.c (ci 0),row] 0::(K++[.cells 0 (clL (clS r) (.nil,.nil)) 0,.cells 1 (clL (clS r) (.nil,.nil)) 0]))=some (row',rnB r names::B1::.cells 0 [.c (ci 0),row] 0::K')) :
ac P (af P) d8 ⟨[.ptr 0 0 0,.ptr 1 0 0,.ptr 2 0 0,.c (ci n),.c (ci k)],rnB r names::B1::.cells 0 [.c (ci 0),row] 0::K⟩=some (.normal,⟨[.ptr 0 0 0,.ptr 1 0 0,.ptr 2 0 0,.c (ci n),.c (ci k)],rnB r names::B1::.cells 0 [.c (ci 0),row'] 0::K'⟩):=by
 have hs:(clS r).tries=[]:=by
  unfold clS
  simp only
  rw[if_neg]
  intro e
  rw[e] at hd
  cases hd
 simp[clL,clS,phS,stS,rnB] at ha
 obtain⟨b2,g2,k2,rfl⟩:=hr2
 rcases hr with rfl | ⟨b,g,k',rfl⟩
 ·simp[d8,jl,iq,jm,jo,rnB,hd,ha]
 ·simp[d8,jl,iq,jm,jo,rnB,hd,ha]
theorem MS (hd:(dcS r.dc == [98,111,117,108,100,101,114])=true) (hsz:r.size≤64) {n k:Int} {row row' : LV} {B1:LB} {K K' : Heap} (hr:row=.nil∨∃ b g k,row=.slice b g 0 k (some 11) none) (hr2:∃ b g k,row'=.slice b g 0 k (some 11) none)
 (ha:aN none (some 11) 120 row (.slice (K.length+5) 1 0 1 (some 11) (some 1)) (rnB r names::B1::.cells 0 [.c (ci 0),row] 0::(K++[.cells 0 (clL (clS r) (.slice (K.length+4) 1 0 r.size (some 4) (some r.size),.nil)) 0,mo r,.cells 1 (clL (clS r) (.slice (K.length+4) 1 0 r.size (some 4) (some r.size),.nil)) 0]))=some (row',rnB r names::B1::.cells 0 [.c (ci 0),row] 0::K')) :
ac P (af P) d8 ⟨[.ptr 0 0 0,.ptr 1 0 0,.ptr 2 0 0,.c (ci n),.c (ci k)],rnB r names::B1::.cells 0 [.c (ci 0),row] 0::K⟩=some (.normal,⟨[.ptr 0 0 0,.ptr 1 0 0,.ptr 2 0 0,.c (ci n),.c (ci k)],rnB r names::B1::.cells 0 [.c (ci 0),row'] 0::K'⟩):=by
 have hz:(r.size:Int)*32≤140737488355328∧(r.size:Int)≤9223372036854775807:=by omega
 simp[clL,clS,phS,stS,rnB,mo,← JS] at ha
 obtain⟨b2,g2,k2,rfl⟩:=hr2
 rcases hr with rfl | ⟨b,g,k',rfl⟩
 ·simp[d8,jl,iq,jm,jo,rnB,hd,ha,hz]
 ·simp[d8,jl,iq,jm,jo,rnB,hd,ha,hz]
def gcH (n:Nat) (H:Heap):Heap:=if bM n (H.take n) then H.take n else H
theorem cf {n:Nat}:∀ {h:Heap} {i:Nat} {x:LB},bM n h=true→h[i]? = some x→x.under n=true
 | [],i,x,_,h=>by simp at h
 | y::r,0,x,hu,h=>by
  simp only[bM,Bool.and_eq_true] at hu
  simp at h
  subst h
  exact hu.1
 | y::r,i+1,x,hu,h=>by
  simp only[bM,Bool.and_eq_true] at hu
  simp at h
  exact cf hu.2 h
theorem qr (n:Nat) (ts:List LV) (H:Heap):gc n ⟨ts,H⟩=⟨if bM n (H.take n) then LM.scrub n ts else ts,gcH n H⟩:=by
 unfold gc gcH
 split<;>simp_all
theorem underL_mem {n:Nat}:∀ {l:List LV} {v:LV},underL n l=true→v ∈ l→v.under n=true
 | [],_,_,h=>by cases h
 | x::l,v,hu,h=>by
  simp only[underL,Bool.and_eq_true] at hu
  rcases List.mem_cons.1 h with rfl | h
  ·exact hu.1
  ·exact underL_mem hu.2 h
def TrK (r:CRn) (K:Heap) (v:LV):Prop:=((clS r).tries=[]∧v=.nil)∨((clS r).tries=List.replicate r.size trZ∧∃ j,v=.slice (j+3) 1 0 r.size (some 4) (some r.size)∧K[j]? = some (mo r))
def StS (r:CRn) (k:Nat) (row:LV) (K:Heap):Prop :=
 (k=0∧row=.nil∧K=[])∨(0<k∧∃ j g l,row=.slice (j+3) g 0 k (some 11) none∧l.length=k∧K[j]? = some (.cells g (rowL l) 0)∧∀ x ∈ l,x.1=clS r∧x.2.2=.nil∧TrK r K x.2.1)
theorem xQ {l:List (CCl × (LV × LV))} {x:CCl × (LV × LV)} (h:x ∈ l):x.2.1 ∈ rowL l:=by
 unfold rowL
 rw[List.mem_flatMap]
 exact⟨x,h,by simp[clL]⟩
theorem StS.gc {B0 B1:LB} {n k:Nat} {row:LV} {K:Heap} (h:StS r k row K):∃ K',gcH (n+3) (B0::B1::.cells 0 [.c (ci 0),row] 0::K)=B0::B1::.cells 0 [.c (ci 0),row] 0::K'∧StS r k row K':=by
 unfold gcH
 split
 ·rename_i hu
  refine⟨K.take n,rfl,?_⟩
  rcases h with ⟨h1,h2,rfl⟩ | ⟨h0,j,g,l,rfl,hl,hj,hx⟩
  ·exact .inl ⟨h1,h2,by simp⟩
  ·have u1:LB.under (n+3) (.cells 0 [.c (ci 0),.slice (j+3) g 0 k (some 11) none] 0)=true:=cf (i:=2) hu rfl
   have hjn:j<n:=by
    simp[LB.under,underL,LV.under] at u1
    exact u1
   have u2:LB.under (n+3) (.cells g (rowL l) 0)=true:=cf (i:=j+3) hu (by
    show (K.take n)[j]? = _
    rw[List.getElem?_take_of_lt hjn]
    exact hj)
   simp only[LB.under] at u2
   refine .inr ⟨h0,j,g,l,rfl,hl,by rw[List.getElem?_take_of_lt hjn]; exact hj,fun x xm=>?_⟩
   obtain⟨a1,a2,a3⟩:=hx x xm
   refine⟨a1,a2,?_⟩
   rcases a3 with a3 | ⟨a4,i,e,hi⟩
   ·exact .inl a3
   ·have:=underL_mem u2 (xQ xm)
    rw[e] at this
    simp[LV.under] at this
    exact .inr ⟨a4,i,e,by rw[List.getElem?_take_of_lt this]; exact hi⟩
 ·exact⟨K,rfl,h⟩
theorem TrK.app {K X:Heap} {v:LV} (h:TrK r K v):TrK r (K++X) v:=by
 rcases h with h | ⟨h1,j,h2,h3⟩
 ·exact .inl h
 ·exact .inr ⟨h1,j,h2,by rw[List.getElem?_append_left (ltG h3)]; exact h3⟩
theorem TrK.set {K:Heap} {v:LV} {j g:Nat} {ys:List LV} (h:TrK r K v) {g0:Nat} {ys0:List LV} (hj:K[j]? = some (.cells g0 ys0 0)) (hne:(LB.cells g0 ys0 0)≠mo r):TrK r (K.set j (.cells g ys 0)) v:=by
 rcases h with h | ⟨h1,i,h2,h3⟩
 ·exact .inl h
 ·refine .inr ⟨h1,i,h2,?_⟩
  rw[List.getElem?_set_ne]
  ·exact h3
  ·rintro rfl
   rw[hj] at h3
   exact hne (Option.some.inj h3)
end LM.GZ
namespace LM.GZ
open Go LM
variable {P:Nat→Option SFunc} [Has P]
variable {r:CRn} {names:List Str}
theorem zU {g:Nat} {l:List (CCl × (LV × LV))} (hl:0<l.length):(LB.cells g (rowL l) 0)≠mo r:=by
 intro e
 cases l with
 | nil=>simp at hl
 | cons a l =>
  unfold mo at e
  rcases hs:r.size with _ | n
  ·rw[hs] at e; simp[rowL,clL] at e
  ·rw[hs,List.replicate_succ,List.flatMap_cons] at e
   simp[rowL,clL,trL] at e
theorem ow:(dcS r.dc == [98,111,117,108,100,101,114])=decide (r.dc=.boulder):=by cases r.dc<;>rfl
theorem P9 (hsz:r.size≤64) {n kk:Int} {k:Nat} (hk:k<1000) {row:LV} {B1:LB} {K:Heap} (hS:StS r k row K) :
  ∃ row' K',ac P (af P) d8 ⟨[.ptr 0 0 0,.ptr 1 0 0,.ptr 2 0 0,.c (ci n),.c (ci kk)],rnB r names::B1::.cells 0 [.c (ci 0),row] 0::K⟩=some (.normal,⟨[.ptr 0 0 0,.ptr 1 0 0,.ptr 2 0 0,.c (ci n),.c (ci kk)],rnB r names::B1::.cells 0 [.c (ci 0),row'] 0::K'⟩)∧StS r (k+1) row' K'∧K.length≤K'.length:=by
 have hr:row=.nil∨∃ b g k,row=.slice b g 0 k (some 11) none:=by
  rcases hS with ⟨_,h,_⟩ | ⟨_,j,g,l,h,_⟩
  ·exact .inl h
  ·exact .inr ⟨_,_,_,h⟩
 by_cases hd:r.dc=.boulder
 ·have hd2:(dcS r.dc == [98,111,117,108,100,101,114])=true:=by rw[ow,decide_eq_true hd]
  have htr:(clS r).tries=List.replicate r.size trZ:=by simp[clS,hd]
  have hfl:=AE (clS r) (.slice (K.length+4) 1 0 r.size (some 4) (some r.size)) (.inr ⟨_,_,_,_,_,rfl⟩)
  have step:=fun row' K'=>MS (P:=P) (names:=names) hd2 hsz (n:=n) (k:=kk) (row:=row) (row':=row') (B1:=B1) (K:=K) (K':=K') hr
  generalize hcs:clL (clS r) (.slice (K.length+4) 1 0 r.size (some 4) (some r.size),.nil)=cs at step hfl
  have hcl:cs.length=11:=by rw[← hcs]; rfl
  rcases hS with ⟨rfl,rfl,rfl⟩ | ⟨h0,j,g,l,rfl,hl,hj,hx⟩
  ·have ha:=vX (h:=rnB r names::B1::.cells 0 [.c (ci 0),.nil] 0::([]++[.cells 0 cs 0,mo r,.cells 1 cs 0])) (b:=5) rfl hcl hfl
   refine⟨_,_,step _ _ ⟨_,_,_,rfl⟩ ha,?_,by simp⟩
   refine .inr ⟨by omega,3,1,[(clS r,(.slice 4 1 0 r.size (some 4) (some r.size),.nil))],rfl,rfl,?_,?_⟩
   ·simp[rowL,← hcs]
   ·intro x hx
    simp at hx
    subst hx
    exact⟨rfl,rfl,.inr ⟨htr,1,rfl,rfl⟩⟩
  ·have hjl:=ltG hj
   have ha:=yI (h:=rnB r names::B1::.cells 0 [.c (ci 0),.slice (j+3) g 0 k (some 11) none] 0::(K++[.cells 0 cs 0,mo r,.cells 1 cs 0])) (b:=K.length+5) (q:=j+3) (g:=g) (k:=k) (ys:=rowL l) (by simp) hcl hfl (by simp[List.getElem?_append_left hjl]; exact hj) (by rw[cE,hl]) (by omega)
   refine⟨_,_,step _ _ ⟨_,_,_,rfl⟩ ha,?_,by simp⟩
   refine .inr ⟨by omega,j,g+1,l++[(clS r,(.slice (K.length+4) 1 0 r.size (some 4) (some r.size),.nil))],rfl,by simp[hl],?_,?_⟩
   ·rw[List.getElem?_set_self (by simp; omega)]
    simp[rowL,← hcs]
   ·intro x hx'
    have gj:(K++[.cells 0 cs 0,mo r,.cells 1 cs 0])[j]? = some (.cells g (rowL l) 0):=by rw[List.getElem?_append_left hjl]; exact hj
    rcases List.mem_append.1 hx' with hx' | hx'
    ·obtain⟨a1,a2,a3⟩:=hx x hx'
     exact⟨a1,a2,(a3.app).set gj (zU (by omega))⟩
    ·simp at hx'
     subst hx'
     refine⟨rfl,rfl,TrK.set (.inr ⟨htr,K.length+1,rfl,?_⟩) gj (zU (by omega))⟩
     simp
 ·have hd2:(dcS r.dc == [98,111,117,108,100,101,114])=false:=by rw[ow,decide_eq_false hd]
  have htr:(clS r).tries=[]:=by simp[clS,hd]
  have hfl:=AE (clS r) .nil (.inl rfl)
  have step:=fun row' K'=>N0 (P:=P) (names:=names) hd2 (n:=n) (k:=kk) (row:=row) (row':=row') (B1:=B1) (K:=K) (K':=K') hr
  generalize hcs:clL (clS r) (.nil,.nil)=cs at step hfl
  have hcl:cs.length=11:=by rw[← hcs]; rfl
  rcases hS with ⟨rfl,rfl,rfl⟩ | ⟨h0,j,g,l,rfl,hl,hj,hx⟩
  ·have ha:=vX (h:=rnB r names::B1::.cells 0 [.c (ci 0),.nil] 0::([]++[.cells 0 cs 0,.cells 1 cs 0])) (b:=4) rfl hcl hfl
   refine⟨_,_,step _ _ ⟨_,_,_,rfl⟩ ha,?_,by simp⟩
   refine .inr ⟨by omega,2,1,[(clS r,(.nil,.nil))],rfl,rfl,?_,?_⟩
   ·simp[rowL,← hcs]
   ·intro x hx
    simp at hx
    subst hx
    exact⟨rfl,rfl,.inl ⟨htr,rfl⟩⟩
  ·have hjl:=ltG hj
   have ha:=yI (h:=rnB r names::B1::.cells 0 [.c (ci 0),.slice (j+3) g 0 k (some 11) none] 0::(K++[.cells 0 cs 0,.cells 1 cs 0])) (b:=K.length+4) (q:=j+3) (g:=g) (k:=k) (ys:=rowL l) (by simp) hcl hfl (by simp[List.getElem?_append_left hjl]; exact hj) (by rw[cE,hl]) (by omega)
   refine⟨_,_,step _ _ ⟨_,_,_,rfl⟩ ha,?_,by simp⟩
   refine .inr ⟨by omega,j,g+1,l++[(clS r,(.nil,.nil))],rfl,by simp[hl],?_,?_⟩
   ·rw[List.getElem?_set_self (by simp; omega)]
    simp[rowL,← hcs]
   ·intro x hx'
    have gj:(K++[.cells 0 cs 0,.cells 1 cs 0])[j]? = some (.cells g (rowL l) 0):=by rw[List.getElem?_append_left hjl]; exact hj
    rcases List.mem_append.1 hx' with hx' | hx'
    ·obtain⟨a1,a2,a3⟩:=hx x hx'
     exact⟨a1,a2,(a3.app).set gj (zU (by omega))⟩
    ·simp at hx'
     subst hx'
     exact⟨rfl,rfl,.inl ⟨htr,rfl⟩⟩
theorem aaY (hsz:r.size≤64) (hn:names.length≤160) {B1:LB}:∀ (i k:Nat) (row:LV) (K:Heap),k+i=names.length→StS r k row K →
  ∃ row' K',ac P (af P) nJ ⟨[.ptr 0 0 0,.ptr 1 0 0,.ptr 2 0 0,.c (ci names.length),.c (ci k)],rnB r names::B1::.cells 0 [.c (ci 0),row] 0::K⟩=some (.exit 0,⟨[.ptr 1 0 0,.ptr 2 0 0],rnB r names::B1::.cells 0 [.c (ci 0),row'] 0::K'⟩)∧StS r names.length row' K':=by
 intro i
 induction i with
 | zero =>
  intro k row K hk hS
  have:k=names.length:=by omega
  subst this
  refine⟨row,K,?_,hS⟩
  rw[C7]
  simp[jT,nT]
 | succ i ih =>
  intro k row K hk hS
  have hw:IntKind.i64.wrap ((k:Int)+1)=(k:Int)+1:=am (by omega) (by omega)
  have hlt:(k:Int)<names.length:=by omega
  obtain⟨row1,K1,e1,s1,l1⟩:=P9 (P:=P) (names:=names) hsz (n:=names.length) (kk:=k) (by omega) (B1:=B1) hS
  obtain⟨K2,g2,s2⟩:=s1.gc (B0:=rnB r names) (B1:=B1) (n:=K.length)
  obtain⟨row',K',e3,s3⟩:=ih (k+1) row1 K2 (by omega) s2
  refine⟨row',K',?_,s3⟩
  rw[C7]
  unfold jT nT nR
  generalize hX:d8=X at e1
  clear hX
  simp[-gc,hlt,e1,hw]
  rw[qr,show K.length+1+1+1=K.length+3 from rfl,g2]
  have hsc:∀ c:Prop,[Decidable c]→(if c then LM.scrub (K.length+3) [.ptr 0 0 0,.ptr 1 0 0,.ptr 2 0 0,.c (ci names.length),.c (ci ((k:Int)+1))] else [.ptr 0 0 0,.ptr 1 0 0,.ptr 2 0 0,.c (ci names.length),.c (ci ((k:Int)+1))])=[.ptr 0 0 0,.ptr 1 0 0,.ptr 2 0 0,.c (ci names.length),.c (ci ((k:Int)+1))]:=by
   intro c _
   split
   ·simp[LM.scrub,LV.under]
   ·rfl
  rw[hsc]
  exact e3
theorem StS.row_ok {r:CRn} {k:Nat} {row:LV} {B0 B1 B2:LB} {K:Heap} (h:StS r k row K):∃ h',frz (36+3) row (B0::B1::B2::K)=some (.slice (List.replicate k (clE (clS r))),h'):=by
 rcases h with ⟨rfl,rfl,rfl⟩ | ⟨h0,j,g,l,rfl,hl,hj,hx⟩
 ·exact⟨_,rfl⟩
 ·subst hl
  obtain⟨h',e,_⟩:=uK 36 (h:=B0::B1::B2::K) (l:=l) (b:=j+3) (g:=g) (fz:=0) (cp:=none) hj fun x xm=>by
   obtain⟨a1,a2,a3⟩:=hx x xm
   rw[a1,a2]
   refine⟨?_,.inl ⟨by simp[clS],rfl⟩⟩
   rcases a3 with ⟨b1,b2⟩ | ⟨b1,i,b2,b3⟩
   ·exact .inl ⟨b1,b2⟩
   ·refine .inr ⟨i+3,1,some r.size,0,?_,?_⟩
    ·rw[b2,b1,List.length_replicate]
    ·rw[b1]; exact b3
  refine⟨h',?_⟩
  rw[e]
  have:l.map (fun x=>clE x.1)=List.replicate l.length (clE (clS r)):=by
   rw[List.eq_replicate_iff]
   refine⟨by simp,fun b hb=>?_⟩
   obtain⟨x,xm,rfl⟩:=List.mem_map.1 hb
   rw[(hx x xm).1]
  rw[this]
theorem ac1 (hsz:r.size≤64) (hn:names.length≤160):fn P 151 [rnE r names]=some (.agg [ci 0,.slice (List.replicate names.length (clE (clS r)))]):=by
 obtain⟨row',K',e,s⟩:=aaY (P:=P) (names:=names) hsz hn (B1:=.cells 0 [.c (ci 0),.nil] 0) names.length 0 .nil [] (by omega) (.inl ⟨rfl,rfl,rfl⟩)
 rw[abE]
 unfold rnB at e
 simp[-gc] at e
 obtain⟨h',e2⟩:=s.row_ok (B0:=rnB r names) (B1:=.cells 0 [.c (ci 0),row'] 0) (B2:=.cells 0 [.c (ci 0),row'] 0)
 have hr:row'=.nil∨∃ b g k,row'=.slice b g 0 k (some 11) none:=by
  rcases s with ⟨_,h,_⟩ | ⟨_,j,g,l,h,_⟩
  ·exact .inl h
  ·exact .inr ⟨_,_,_,h⟩
 have fin:dR (aK ⟨[.ptr 1 0 0],rnB r names::.cells 0 [.c (ci 0),row'] 0::.cells 0 [.c (ci 0),row'] 0::K'⟩ [.cell 0 (some 2)]) (rnB r names::.cells 0 [.c (ci 0),row'] 0::.cells 0 [.c (ci 0),row'] 0::K')=some (.agg [ci 0,.slice (List.replicate names.length (clE (clS r)))]):=by
  have h1:aK ⟨[.ptr 1 0 0],rnB r names::.cells 0 [.c (ci 0),row'] 0::.cells 0 [.c (ci 0),row'] 0::K'⟩ [.cell 0 (some 2)]=some (.agg [.c (ci 0),row']):=by rcases hr with rfl | ⟨b,g,k,rfl⟩<;>simp[aK,bT,cX,rnB]
  rw[h1]
  show bnd (frz ay _ _) _=_
  rw[nN,bh,ep,ak,bh,e2]
  rfl
 simp[xR,rnE,-cL,-bump,e]
 rcases hr with rfl | ⟨b,g,k,rfl⟩
 ·simp[rnB] at fin
  simp[-cL,-bump,fin]
 ·simp[rnB] at fin
  simp[-cL,-bump,fin]
end LM.GZ
namespace LM.GZ
abbrev Du:=Nat × Nat
def wAt (W:List Int) (o:Nat):Int:=W.getD o (-1)
def rAt (R:List Int) (c:Nat):Int:=R.getD c 0
def aAt (A:List Bool) (c:Nat):Bool:=A.getD c false
structure Gs where
 W:List Int
 R:List Int
 A:List Bool
def dAt (D:List Du) (o:Nat):Du:=D.getD o (0,0)
def left (A:List Bool):Nat:=A.count false
variable {D:List Du} {n:Nat}
def FitW (D:List Du) (W:List Int):Prop:=∀ o,o<D.length→wAt W o = -1∨wAt W o=((dAt D o).1:Nat)∨wAt W o=((dAt D o).2:Nat)
structure GInv (D:List Du) (n:Nat) (s:Gs):Prop where
 w:s.W.length=D.length
 r:s.R.length=n
 a:s.A.length=n
 fit:FitW D s.W
 pos:∀ c,0≤rAt s.R c
def Held (A:Nat→Bool) (w:Int):Prop:=w = -1∨∃ c:Nat,w=(c:Int)∧A c=true
structure GVain (D:List Du) (n d:Nat) (s t:Gs):Prop where
 w:t.W=s.W
 r:t.R=s.R
 a:t.A.length=n
 mono:∀ c,aAt s.A c=true→aAt t.A c=true
 cl:∀ c:Nat,aAt t.A c=true→aAt s.A c=false→rAt s.R c≤0∧(∀ o,o<D.length→wAt s.W o=(c:Int)→aAt t.A (dAt D o).1=true∧aAt t.A (dAt D o).2=true)∧∃ o,o<D.length∧(o=d∨wAt s.W o≠-1)∧((dAt D o).1=c∨(dAt D o).2=c)
theorem GVain.rfl' {d:Nat} {s:Gs} (h:GInv D n s):GVain D n d s s:=⟨rfl,rfl,h.a,fun _ h=>h,fun c h1 h2=>by rw[h1] at h2; cases h2⟩
theorem GVain.inv {d:Nat} {s t:Gs} (h:GInv D n s) (v:GVain D n d s t):GInv D n t:=⟨by rw[v.w]; exact h.w,by rw[v.r]; exact h.r,v.a,by rw[v.w]; exact h.fit,by rw[v.r]; exact h.pos⟩
theorem GVain.trans {d:Nat} {s t u:Gs} (h1:GVain D n d s t) (h2:GVain D n d t u):GVain D n d s u:=by
 refine⟨h2.w.trans h1.w,h2.r.trans h1.r,h2.a,fun c h=>h2.mono c (h1.mono c h),fun c hu hs=>?_⟩
 cases ht:aAt t.A c
 ·have:=h2.cl c hu ht
  rw[h1.w,h1.r] at this
  exact this
 ·obtain⟨a1,a2,a3⟩:=h1.cl c ht hs
  exact⟨a1,fun o ho e=>⟨h2.mono _ (a2 o ho e).1,h2.mono _ (a2 o ho e).2⟩,a3⟩
theorem Held.mono {A B:Nat→Bool} {w:Int} (h:∀ c,A c=true→B c=true):Held A w→Held B w
 | .inl e=>.inl e
 | .inr ⟨c,e,hc⟩=>.inr ⟨c,e,h c hc⟩
end LM.GZ
namespace LM.GZ
variable {D:List Du} {P:List Int} {cl n:Nat}
def fresh (n:Nat) (s:List Int × List Int):Gs:=⟨s.1,s.2,List.replicate n false⟩
theorem RI {c:Nat} (h:c<P.length):rAt P c ∈ P:=by
 simp only[rAt,List.getD_eq_getElem?_getD,List.getElem?_eq_getElem h,Option.getD_some]
 exact List.getElem_mem h
end LM.GZ
namespace LM.GZ
open Go LM
structure Op where
 who:Str
 low:Int
 high:Int
def Op.enc (x:Op):CV:=.agg [.str x.who,ci x.low,ci x.high]
def NU {α:Type} (c:Nat) (p:α→Bool):Nat→List α→Int
 | _,[]=>0
 | i,x::r=>(if i≠c∧p x=true then 1 else 0)+NU c p (i+1) r
def UZ (v:Int) (x:Op):Bool:=decide (x.low > v)
def Yl (v:Int) (x:Op):Bool:=decide (x.high > v)
def Ss (l:List Op) (c:Nat) (v:Int):Int:=NU c (UZ v) 0 l
def YF (l:List Op) (c:Nat) (v:Int):Int:=NU c (Yl v) 0 l
structure OG (l:List Op):Prop where
 one:∀ x ∈ l,isName x.who=true∧0≤x.low∧x.low≤99999∧0≤x.high∧x.high≤99999∧x.low≤x.high
 uniq:l.Pairwise fun x y=>x.who≠y.who
def Box:List Op→List Int→Prop
 | [],[]=>True
 | x::r,v::vs=>x.low≤v∧v≤x.high∧Box r vs
 | _,_=>False
theorem Box.len:∀ {l:List Op} {vs:List Int},Box l vs→vs.length=l.length
 | [],[],_=>rfl
 | x::r,v::vs,h=>by simp[Box.len h.2.2]
 | [],v::vs,h=>h.elim
 | x::r,[],h=>h.elim
end LM.GZ
namespace LM.GZ
open Go LM
def ltN (a b:Int):Bool:=decide (a<b)
section
variable {own:Op} {l:List Op} {c:Nat}
end
structure Bar where
 frm:Int
 to:Int
 up:Bool
def TC:Str:=[97,98,111,118,101]
def Vs:Str:=[98,101,108,111,119]
def Bar.word (b:Bar):Str:=if b.up then TC else Vs
def Bar.enc (b:Bar):CV:=.agg [ci b.frm,ci b.to,.str b.word]
def vE (l:List Op) (c:Nat) (rank:Int) (b:Bar):Bool:=if b.up then decide (Ss l c b.to ≥ rank) else decide (YF l c b.frm≤rank-2)
def x7 (out:List Bar) (b:Bar):List Bar:=match out.getLast? with
 | some y=>if b.up && y.up then out.dropLast++[⟨y.frm,b.to,true⟩] else out++[b]
 | none=>out++[b]
def Okb (l:List Op) (c:Nat) (rank:Int):Int→List Bar→Int→Prop
 | a,[],e=>a=e
 | a,b::r,e=>b.frm=a∧b.frm≤b.to∧vE l c rank b=true∧Okb l c rank (b.to+1) r e
theorem Okb.snoc {l:List Op} {c:Nat} {rank:Int} {b:Bar}:∀ {out:List Bar} {a e:Int},Okb l c rank a out e→b.frm=e→b.frm≤b.to→vE l c rank b=true→Okb l c rank a (out++[b]) (b.to+1)
 | [],a,e,h,h1,h2,h3=>⟨h1.trans h.symm,h2,h3,rfl⟩
 | y::out,a,e,h,h1,h2,h3=>⟨h.1,h.2.1,h.2.2.1,h.2.2.2.snoc h1 h2 h3⟩
theorem Okb.last {l:List Op} {c:Nat} {rank:Int} {y:Bar}:∀ {out:List Bar} {a e:Int},Okb l c rank a (out++[y]) e→∃ e',Okb l c rank a out e'∧y.frm=e'∧y.frm≤y.to∧e=y.to+1
 | [],a,e,h=>⟨a,rfl,h.1,h.2.1,h.2.2.2.symm⟩
 | x::out,a,e,h=>by
  obtain⟨e',h1,h2,h3,h4⟩:=(h.2.2.2).last
  exact⟨e',⟨h.1,h.2.1,h.2.2.1,h1⟩,h2,h3,h4⟩
theorem Okb.add {l:List Op} {c:Nat} {rank:Int} {b:Bar} {out:List Bar} {a e:Int} (h:Okb l c rank a out e) (h1:b.frm=e) (h2:b.frm≤b.to) (h3:vE l c rank b=true):Okb l c rank a (x7 out b) (b.to+1)∧x7 out b≠[]:=by
 unfold x7
 rcases List.eq_nil_or_concat out with hn | ⟨o',y,hc⟩
 ·subst hn
  exact⟨h.snoc h1 h2 h3,by simp⟩
 ·rw[List.concat_eq_append] at hc
  subst hc
  simp only[List.getLast?_append,List.getLast?_singleton,Option.some_or]
  split
  ·rename_i q
   simp at q
   obtain⟨e',g1,g2,g3,g4⟩:=h.last
   refine⟨?_,by simp⟩
   rw[List.dropLast_concat]
   refine g1.snoc (b:=⟨y.frm,b.to,true⟩) g2 (by simp only; omega) ?_
   unfold vE at h3 ⊢
   rw[q.1] at h3
   simpa using h3
  ·exact⟨h.snoc h1 h2 h3,by simp⟩
end LM.GZ
namespace LM.GZ
open Go LM
def szO (x:Op):Nat:=(x.high-x.low+1).toNat
section
variable {l:List Op} {c:Nat} {own:Op}
end
end LM.GZ
namespace LM.GZ
open Go LM
variable {P:Nat→Option SFunc} [Has P]
abbrev Nr:=Nat × Rs
def Nr.enc (p:Nr):CV:=ci p.1
end LM.GZ
namespace LM.GZ
open Go LM
variable {P:Nat→Option SFunc} [Has P]
def Op.ok (x:Op):Prop:=x.who.length<9223372036854775807
def OB3 (x:Op) (z:Nat):LB:=.cells 0 [.c (.str x.who),.c (ci x.low),.c (ci x.high)] z
end LM.GZ
namespace LM.GZ
open Go LM
variable {P:Nat→Option SFunc} [Has P]
theorem OG.fresh {l:List Op} (h:OG l) {pre r:List Op} {x:Op} (hp:l=pre++x::r):x.who ∉ pre.map (·.who):=by
 intro hm
 obtain⟨y,hy,e⟩:=List.mem_map.1 hm
 have:=h.uniq
 rw[hp] at this
 exact (List.pairwise_append.1 this).2.2 y hy x (by simp) e
end LM.GZ
namespace LM.GZ
open Go LM
variable {P:Nat→Option SFunc} [Has P]
def hP (own x:Op) (O:List Int):Heap:=[.cells 1 [] 0,OB3 own 0,.cells O.length (cI O) 0,OB3 x 0,.cells 1 [.c (ci x.low),.c (ci x.high)] 0]
end LM.GZ
namespace LM.GZ
open Go LM
variable {P:Nat→Option SFunc} [Has P]
section
variable {own:Op} {l:List Op} {c:Nat}
def cB (B:List Bar):List LV:=B.flatMap fun b=>[.c (ci b.frm),.c (ci b.to),.c (.str b.word)]
theorem uS (B:List Bar):(cB B).length=B.length*3:=by
 induction B with
 | nil=>rfl
 | cons x r ih=>simp[cB] at ih ⊢; omega
end
end LM.GZ
namespace LM.GZ
open Go LM
variable {P:Nat→Option SFunc} [Has P]
section
variable {own:Op} {l:List Op} {c:Nat}
theorem Okb.bound {l:List Op} {c:Nat} {rank:Int}:∀ {B:List Bar} {a e:Int},Okb l c rank a B e→a≤e∧∀ b ∈ B,a≤b.to∧b.to<e
 | [],a,e,h=>by
  have h:a=e:=h
  exact⟨by omega,by simp⟩
 | b::r,a,e,h=>by
  obtain⟨h1,h2,_,h4⟩:=h
  obtain⟨i1,i2⟩:=h4.bound
  refine⟨by omega,?_⟩
  intro x hx
  rcases List.mem_cons.1 hx with rfl | hx
  ·omega
  ·have:=i2 x hx; omega
end
end LM.GZ
namespace LM.GZ
open Go LM
variable {P:Nat→Option SFunc} [Has P] [HasP P]
def qq:List Op→Nat→List Rs
 | [],_=>[]
 | x::r,n=>⟨x.who,[],[x.low+(n % szO x:Nat)]⟩::qq r (n / szO x)
end LM.GZ
namespace LM.GZ
open Go LM
variable {P:Nat→Option SFunc} [Has P]
structure Lg where
 names:List Str
 pts:List Int
 duels:List (Int × Int)
def aa2 (d:Int × Int):CV:=.agg [ci d.1,ci d.2]
def Lg.enc (l:Lg):CV:=.agg [.slice (l.names.map CV.str),.slice (l.pts.map ci),.slice (l.duels.map aa2)]
end LM.GZ
namespace LM.GZ
open Go LM
variable {P:Nat→Option SFunc} [Has P]
def abU (d:Du):CV:=.agg [ci d.1,ci d.2]
structure GG (N:List Str) (Q:List Int) (D:List Du):Prop where
 ne:N≠[]
 n5:N.length≤5
 nm:∀ pre s r,N=pre++s::r→isName s=true∧pre.any (Str.is s)=false
 so:∀ s ∈ N,s.length<9223372036854775807
 lp:Q.length=N.length
 pr:∀ p ∈ Q,0≤p∧p≤99999
 dl:D.length≤7
 du:∀ d ∈ D,d.1<N.length∧d.2<N.length∧d.1≠d.2
theorem GG.at {N:List Str} {Q:List Int} {D:List Du} (h:GG N Q D) (c:Nat):0≤rAt Q c∧rAt Q c≤99999:=by
 by_cases hc:c<Q.length
 ·exact h.pr _ (RI hc)
 ·have:rAt Q c=0:=by
   simp only[rAt,List.getD_eq_getElem?_getD,List.getElem?_eq_none (Nat.le_of_not_lt hc)]
   rfl
  omega
variable {N:List Str} {Q:List Int} {D:List Du}
end LM.GZ
namespace LM.GZ
open Go LM
variable {P:Nat→Option SFunc} [Has P]
variable {N:List Str} {Q:List Int} {D:List Du}
def Same (n:Nat) (h h' : Heap):Prop:=n≤h'.length∧∀ i,i<n→h'[i]? = h[i]?
theorem Same.rfl' {n:Nat} {h:Heap} (hn:n≤h.length):Same n h h:=⟨hn,fun _ _=>rfl⟩
theorem Same.trans {n:Nat} {h k l:Heap} (h1:Same n h k) (h2:Same n k l):Same n h l:=⟨h2.1,fun i hi=>(h2.2 i hi).trans (h1.2 i hi)⟩
theorem Same.app {n:Nat} {h k:Heap} (h1:Same n h k) (X:Heap):Same n h (k++X):=⟨by have:=h1.1; rw[List.length_append]; omega,fun i hi=>by rw[List.getElem?_append_left (by have:=h1.1; omega)]; exact h1.2 i hi⟩
theorem qH {h:Heap} {i:Nat} {B:LB} (e:h[i]? = some B):i<h.length:=(List.getElem?_eq_some_iff.1 e).1
def cO (A:List Bool):List LV:=A.map fun b=>.c (.bool b)
structure GLoc where
 bs:Nat
 bw:Nat
 br:Nat
 ba:Nat
 gr:Nat
 cr:Option Nat
structure GLoc.ok (L:GLoc):Prop where
 gr:L.gr≠0
 sw:L.bs≠L.bw
 sr:L.bs≠L.br
 sa:L.bs≠L.ba
 wr:L.bw≠L.br
 wa:L.bw≠L.ba
 ra:L.br≠L.ba
structure GLoc.lt (L:GLoc) (n:Nat):Prop where
 s:L.bs<n
 w:L.bw<n
 r:L.br<n
 a:L.ba<n
def gB (N:List Str) (Q:List Int) (D:List Du) (L:GLoc) (z:Nat):LB:=.cells 0 [.c (.slice (N.map CV.str)),.c (.slice (Q.map ci)),.c (.slice (D.map abU)),.slice L.br L.gr 0 N.length none L.cr,.slice L.bw 1 0 D.length none (some D.length)] z
structure HpG (N:List Str) (Q:List Int) (D:List Du) (L:GLoc) (s:Gs) (h:Heap):Prop where
 sch:h[L.bs]? = some (gB N Q D L 0)
 w:h[L.bw]? = some (.cells 1 (cI s.W) 0)
 r:h[L.br]? = some (.cells L.gr (cI s.R) 0)
 a:h[L.ba]? = some (.cells 1 (cO s.A) 0)
variable {L:GLoc} {s:Gs} {h h' : Heap}
theorem HpG.lt (H:HpG N Q D L s h):L.lt h.length:=⟨qH H.sch,qH H.w,qH H.r,qH H.a⟩
theorem HpG.near (H:HpG N Q D L s h) {n:Nat} (hn:L.lt n) (hs:Same n h h'):HpG N Q D L s h' :=
 ⟨(hs.2 _ hn.s).trans H.sch,(hs.2 _ hn.w).trans H.w,(hs.2 _ hn.r).trans H.r,(hs.2 _ hn.a).trans H.a⟩
theorem HpG.app (H:HpG N Q D L s h) (X:Heap):HpG N Q D L s (h++X):=H.near H.lt ((Same.rfl' (Nat.le_refl _)).app X)
def FrG (L:GLoc) (h h' : Heap):Prop:=h.length≤h'.length∧∀ i,i<h.length→i≠L.bw→i≠L.br→i≠L.ba→h'[i]? = h[i]?
theorem FrG.rfl' (L:GLoc) (h:Heap):FrG L h h:=⟨Nat.le_refl _,fun _ _ _ _ _=>rfl⟩
theorem FrG.trans {k l:Heap} (h1:FrG L h k) (h2:FrG L k l):FrG L h l:=⟨Nat.le_trans h1.1 h2.1,fun i hi a b c=>(h2.2 i (Nat.lt_of_lt_of_le hi h1.1) a b c).trans (h1.2 i hi a b c)⟩
theorem FrG.gc {k l:Heap} (h1:FrG L h k) (h2:Same h.length k l):FrG L h l:=⟨h2.1,fun i hi a b c=>(h2.2 i hi).trans (h1.2 i hi a b c)⟩
theorem FrG.set {k:Heap} (h1:FrG L h k) {b:Nat} (hb:b=L.bw∨b=L.br∨b=L.ba) (X:LB):FrG L h (k.set b X):=by
 refine⟨by simpa using h1.1,fun i hi x1 x2 x3=>?_⟩
 rw[List.getElem?_set_ne (by rintro rfl; rcases hb with e | e | e<;>contradiction)]
 exact h1.2 i hi x1 x2 x3
theorem HpG.room (H:HpG N Q D L s h) (ok:L.ok) (R:List Int):HpG N Q D L { s with R:=R } (h.set L.br (.cells L.gr (cI R) 0)) :=
 ⟨by rw[List.getElem?_set_ne ok.sr.symm]; exact H.sch,by rw[List.getElem?_set_ne ok.wr.symm]; exact H.w,by rw[List.getElem?_set_self H.lt.r],by rw[List.getElem?_set_ne ok.ra]; exact H.a⟩
end LM.GZ
namespace LM.GZ
open Go LM
variable {P:Nat→Option SFunc} [Has P]
variable {r:CRn} {names:List Str}
theorem vL {e:Option Nat} {bytes:Nat} {xs:List CV} {h:Heap} (hx:∀ x ∈ xs,Elem e x) (hs:xs.length*bytes≤2^47) (hs2:xs.length≤9223372036854775807) (hn:xs≠[]):aN none e bytes .nil (.c (.slice xs)) h=some (.slice h.length 1 0 xs.length e none,h++[.cells 1 (cellsOf xs) 0]):=by
 have h1:aO e h (.c (.slice xs))=some (xs.length,cellsOf xs):=rfl
 have h2:=cU hx
 have hne:xs.length≠0:=fun e=>hn (List.eq_nil_of_length_eq_zero e)
 have h4:¬ (2^47<xs.length*bytes∨9223372036854775807<xs.length):=by omega
 simp[aN,h1,gH hx,h2,hne,ok,b7,cN]
 exact⟨hs,hs2⟩
theorem Hi {e:Option Nat} {bytes:Nat} {h:Heap}:aN none e bytes .nil (.c (.slice [])) h=some (.nil,h):=by
 simp[aN,aO,ok,aT]
theorem Qv (l:List CCl):∀ x ∈ l.map clE,Elem (some 11) x:=by
 intro x hx
 obtain⟨t,_,rfl⟩:=List.mem_map.1 hx
 exact⟨_,rfl,rfl,by simp[clC,CV.flat]⟩
theorem Vd (l:List CTr) (hl:l.length<1000):ffn P 194 [.slice (l.map trE)]=some (if l=[] then (.nil,[.cells 1 [] 0]) else (.slice 1 1 0 l.length (some 4) none,[.cells 1 [] 0,.cells 1 (l.flatMap trL) 0])):=by
 rw[aaZ]
 rcases l with _ | ⟨a,l⟩
 ·simp[Gu,Hi]
 ·have:=vL (e:=some 4) (bytes:=32) (xs:=(a::l).map trE) (h:=[.cells 1 [] 0]) (od _) (by rw[List.length_map]; omega) (by rw[List.length_map]; omega) (by simp)
  rw[iW] at this
  generalize hC:(a::l).flatMap trL=C at *
  generalize hX:a::l=X at *
  have hne:X≠[]:=by rw[← hX]; simp
  simp[Gu,this,hne]
theorem Wh (l:List Int) (hl:l.length<1000):ffn P 195 [.slice (l.map ci)]=some (if l=[] then (.nil,[.cells 1 [] 0]) else (.slice 1 1 0 l.length none none,[.cells 1 [] 0,.cells 1 (cI l) 0])):=by
 rw[acV]
 rcases l with _ | ⟨a,l⟩
 ·simp[GW,Hi]
 ·have:=vL (e:=none) (bytes:=8) (xs:=(a::l).map ci) (h:=[.cells 1 [] 0]) (dD _) (by rw[List.length_map]; omega) (by rw[List.length_map]; omega) (by simp)
  rw[bk] at this
  generalize hX:a::l=X at *
  have hne:X≠[]:=by rw[← hX]; simp
  simp[GW,this,hne]
theorem ada (l:List CCl) (hl:l.length<1000):ffn P 193 [.slice (l.map clE)]=some (if l=[] then (.nil,[.cells 1 [] 0]) else (.slice 1 1 0 l.length (some 11) none,[.cells 1 [] 0,.cells 1 (cellsOf (l.map clE)) 0])):=by
 rw[abd]
 rcases l with _ | ⟨a,l⟩
 ·simp[Gx,Hi]
 ·have:=vL (e:=some 11) (bytes:=120) (xs:=(a::l).map clE) (h:=[.cells 1 [] 0]) (Qv _) (by rw[List.length_map]; omega) (by rw[List.length_map]; omega) (by simp)
  generalize hX:a::l=X at *
  have hne:X≠[]:=by rw[← hX]; simp
  simp[Gx,this,hne]
theorem eR (h X:Heap):∀ (n k:Nat),bI (h++X) (h.length+k) n=bI X k n
 | 0,k=>rfl
 | n+1,k=>by
  have ih:=eR h X n (k+1)
  rw[← Nat.add_assoc] at ih
  rw[bI,bI,ih]
  unfold cQ
  rw[List.getElem?_append_right (by omega),Nat.add_sub_cancel_left]
theorem eQ (h:Heap):∀ (l:List LB) (X:Heap) (k:Nat),bj (h++X) (h.length+k) l=h++bj X k l
 | [],X,k=>rfl
 | b::l,X,k=>by
  have ih:=eQ h l (X.set k b) (k+1)
  rw[← Nat.add_assoc] at ih
  rw[bj,bj,List.set_append_right _ _ (by omega),Nat.add_sub_cancel_left,ih]
theorem R9 (h X:Heap) (k:Nat) (B:LB):(h++X).set (h.length+k) B=h++X.set k B:=by
 rw[List.set_append_right _ _ (by omega),Nat.add_sub_cancel_left]
theorem Oh (h X:Heap) (k j:Nat) (B:LB):(h++X).set (h.length+k+j) B=h++X.set (k+j) B:=by
 rw[Nat.add_assoc,R9]
theorem pH (n:Nat):∀ l:List CV,shiftL n (l.map .c)=l.map .c
 | []=>rfl
 | a::l=>by simp only[List.map_cons,shiftL,LV.shift,pH n l]
def stB (t:Int) (l:List CCl):LB:=.cells 0 [.c (ci t),.c (.slice (l.map clE))] 0
theorem YE (l:List CCl) (t:Int) (hl:l≠[]) (hl2:l.length<1000) (h:Heap):ac P (af P) lC ⟨[.ptr h.length 0 0,.ptr (h.length+1) 0 0],h++[rnB r names,stB t l]⟩=some (.normal,⟨[.ptr (h.length+4) 0 0],h++[rnB r names,stB t l,.cells 1 [] 0,.cells 1 (cellsOf (l.map clE)) 0,plB r names (h.length+3) 1 l.length t]⟩):=by
 have e193:=ada (P:=P) l hl2
 rw[if_neg hl] at e193
 have hs:shiftL (h.length+2) (cellsOf (l.map clE))=cellsOf (l.map clE):=pH _ _
 have hA:∀ B C,bI (h++[B,C,.dead,.dead,.dead]) (h.length+2) 2=true:=fun B C=>by rw[eR]; rfl
 have hS:∀ B C,bj (h++[B,C,.dead,.dead,.dead]) (h.length+2) (bC (h.length+2) [.cells 1 [] 0,.cells 1 (cellsOf (l.map clE)) 0])=h++[B,C,.cells 1 [] 0,.cells 1 (cellsOf (l.map clE)) 0,.dead]:=fun B C=>by
  rw[eQ]
  simp only[bC,LB.shift,shiftL,hs]
  rfl
 have hD:∀ B C D E,(h++[B,C,D,E,LB.dead])[h.length+2+2]? = some .dead:=fun B C D E=>by
  rw[List.getElem?_append_right (by omega)]
  simp[show h.length+2+2-h.length=4 from by omega]
 have hD' : ∀ B C D E hh,(h++[B,C,D,E,LB.dead])[h.length+2+2]'hh=.dead:=fun B C D E hh=>(List.getElem?_eq_some_iff.1 (hD B C D E)).2
 have h1:1+(h.length+2)=h.length+3:=by omega
 simp[lC,rnB,stB,e193,hA,hs,hS,hD,hD',h1,LV.shift,shiftL,plB,Oh]
def cst (c:CCl):LV × LV:=(.c (.slice (c.tries.map trE)),.c (.slice (c.runs.map ci)))
theorem Yf {H:Heap} {bp bc n i:Nat} {t:Int} {c:CCl} {l:List (CCl × (LV × LV))} (hbp:H[bp]? = some (plB r names bc 1 n t)) (hbc:H[bc]? = some (.cells 1 (rowL l) 0)) (hne:bp≠bc) (hi:l[i]? = some (c,cst c)) (hn:l.length=n) (hn2:n<1000) (ht:c.tries=[]) (hr:c.runs=[]) :
  ac P (af P) gA ⟨[.ptr bp 0 0,.c (ci i),.c (ci n),.c (ci i)],H⟩=some (.normal,⟨[.ptr bp 0 0,.c (ci n),.c (ci i)],List.set (H++[LB.cells 1 [] 0,LB.dead,LB.cells 1 [] 0,LB.dead]) bc (LB.cells 1 (rowL (l.set i (c,(.nil,.nil)))) 0)⟩):=by
 have e194:=Vd (P:=P) [] (by simp)
 have e195:=Wh (P:=P) [] (by simp)
 simp at e194 e195
 have q0:=ltG hbp
 have q1:=ltG hbc
 have a0:∀ X,(H++X)[bp]? = some (plB r names bc 1 n t):=fun X=>by rw[List.getElem?_append_left q0]; exact hbp
 have a0':=fun X=>(List.getElem?_eq_some_iff.1 (a0 X)).2
 have a1:∀ X,(H++X)[bc]? = some (.cells 1 (rowL l) 0):=fun X=>by rw[List.getElem?_append_left q1]; exact hbc
 have a1':=fun X=>(List.getElem?_eq_some_iff.1 (a1 X)).2
 have n0:bp<H.length+4:=by omega
 have n1:bc<H.length+4:=by omega
 have hil:i<n:=by rw[← hn]; exact (List.getElem?_eq_some_iff.1 hi).1
 have hii:(i:Int)<n:=by omega
 have c9:(rowL l)[i*11+9]? = some (.c (.slice [])):=by rw[jn l i 9 _ hi (by decide)]; simp[clL,cst,ht]
 have c10:(rowL l)[i*11+10]? = some (.c (.slice [])):=by rw[jn l i 10 _ hi (by decide)]; simp[clL,cst,hr]
 obtain⟨p9,c9'⟩:=List.getElem?_eq_some_iff.1 c9
 obtain⟨p10,c10'⟩:=List.getElem?_eq_some_iff.1 c10
 have s9:=dj l i 9 c c (cst c) (.nil,(cst c).2) .nil hi rfl (by decide)
 have s10:=dj (l.set i (c,(.nil,(cst c).2))) i 10 c c (.nil,(cst c).2) (.nil,.nil) .nil (by rw[List.getElem?_set_self (by omega)]) rfl (by decide)
 rw[List.set_set,← s9] at s10
 rw[← s10]
 have hA:∀ C D,bI (H++[.dead,.dead,C,D]) H.length 1=true:=fun C D=>by have:=eR H [.dead,.dead,C,D] 1 0; simp only[Nat.add_zero] at this; rw[this]; rfl
 have hA2:∀ C D,bI (H++[C,D,.dead,.dead]) (H.length+2) 1=true:=fun C D=>by rw[eR]; rfl
 have hS1:∀ A B C D,bj (H++[A,B,C,D]) H.length (bC H.length [LB.cells 1 [] 0])=H++[LB.cells 1 [] 0,B,C,D]:=fun A B C D=>by
  have:=eQ H (bC H.length [LB.cells 1 [] 0]) [A,B,C,D] 0
  rw[Nat.add_zero] at this
  rw[this]
  rfl
 have hS2:∀ A B C D,bj (H++[A,B,C,D]) (H.length+2) (bC (H.length+2) [LB.cells 1 [] 0])=H++[A,B,LB.cells 1 [] 0,D]:=fun A B C D=>by
  rw[eQ]
  rfl
 have hX:∀ (X:Heap) (B:LB),List.set (H++X) bc B=List.set H bc B++X:=fun X B=>by rw[List.set_append_left _ _ q1]
 have hQ:∀ (X:Heap) (B:LB),(List.set H bc B++X)[bp]? = some (plB r names bc 1 n t):=fun X B=>by
  rw[List.getElem?_append_left (by rw[List.length_set]; omega),List.getElem?_set_ne (Ne.symm hne)]
  exact hbp
 have hQ':=fun X B=>(List.getElem?_eq_some_iff.1 (hQ X B)).2
 have hR:∀ (X:Heap) (B:LB),(List.set H bc B++X)[bc]? = some B:=fun X B=>by
  rw[List.getElem?_append_left (by rw[List.length_set]; omega),List.getElem?_set_self q1]
 have hR':=fun X B=>(List.getElem?_eq_some_iff.1 (hR X B)).2
 have hX2:∀ (X:Heap) (B C:LB),List.set (List.set H bc B++X) bc C=List.set H bc C++X:=fun X B C=>by rw[List.set_append_left _ _ (by rw[List.length_set]; omega),List.set_set]
 have hl2:∀ X:List LV,X.length=n*11→i*11+10<X.length:=by intro X hX; omega
 have hrl:(rowL l).length=n*11:=by rw[cE,hn]
 unfold plB at a0 a0' hQ hQ'
 simp[gA,a0,a0',a1,a1',n0,n1,q0,q1,hil,hii,e194,e195,c9,c9',p9,c10,c10',p10,hA,hA2,hS1,hS2,LV.shift,hX,hX2,hQ,hQ',hR,hR',hrl]
 omega
theorem Zj {H:Heap} {bp bc n i:Nat} {t:Int} {c:CCl} {l:List (CCl × (LV × LV))} (hbp:H[bp]? = some (plB r names bc 1 n t)) (hbc:H[bc]? = some (.cells 1 (rowL l) 0)) (hne:bp≠bc) (hi:l[i]? = some (c,cst c)) (hn:l.length=n) (hn2:n<1000) (ht:c.tries≠[]) (ht2:c.tries.length<1000) (hr:c.runs=[]) :
  ac P (af P) gA ⟨[.ptr bp 0 0,.c (ci i),.c (ci n),.c (ci i)],H⟩=some (.normal,⟨[.ptr bp 0 0,.c (ci n),.c (ci i)],List.set (H++[LB.cells 1 [] 0,LB.cells 1 (c.tries.flatMap trL) 0,LB.cells 1 [] 0,LB.dead]) bc (LB.cells 1 (rowL (l.set i (c,(.slice (H.length+1) 1 0 c.tries.length (some 4) none,.nil)))) 0)⟩):=by
 have trc:shiftL H.length (c.tries.flatMap trL)=c.tries.flatMap trL:=by rw[← iW]; exact pH _ _
 have e194:=Vd (P:=P) c.tries ht2
 have e195:=Wh (P:=P) [] (by simp)
 rw[if_neg ht] at e194
 simp at e195
 have q0:=ltG hbp
 have q1:=ltG hbc
 have a0:∀ X,(H++X)[bp]? = some (plB r names bc 1 n t):=fun X=>by rw[List.getElem?_append_left q0]; exact hbp
 have a0':=fun X=>(List.getElem?_eq_some_iff.1 (a0 X)).2
 have a1:∀ X,(H++X)[bc]? = some (.cells 1 (rowL l) 0):=fun X=>by rw[List.getElem?_append_left q1]; exact hbc
 have a1':=fun X=>(List.getElem?_eq_some_iff.1 (a1 X)).2
 have n0:bp<H.length+4:=by omega
 have n1:bc<H.length+4:=by omega
 have hil:i<n:=by rw[← hn]; exact (List.getElem?_eq_some_iff.1 hi).1
 have hii:(i:Int)<n:=by omega
 have c9:(rowL l)[i*11+9]? = some (.c (.slice (c.tries.map trE))):=by rw[jn l i 9 _ hi (by decide)]; simp[clL,cst]
 have c10:(rowL l)[i*11+10]? = some (.c (.slice [])):=by rw[jn l i 10 _ hi (by decide)]; simp[clL,cst,hr]
 obtain⟨p9,c9'⟩:=List.getElem?_eq_some_iff.1 c9
 obtain⟨p10,c10'⟩:=List.getElem?_eq_some_iff.1 c10
 obtain⟨V,hV⟩ : ∃ V,V=LV.slice (H.length+1) 1 0 c.tries.length (some 4) none:=⟨_,rfl⟩
 rw[← hV]
 have s9:=dj l i 9 c c (cst c) (V,(cst c).2) V hi rfl (by decide)
 have s10:=dj (l.set i (c,(V,(cst c).2))) i 10 c c (V,(cst c).2) (V,.nil) .nil (by rw[List.getElem?_set_self (by omega)]) rfl (by decide)
 rw[List.set_set,← s9] at s10
 rw[← s10]
 have hA:∀ C D,bI (H++[.dead,.dead,C,D]) H.length 2=true:=fun C D=>by have:=eR H [.dead,.dead,C,D] 2 0; simp only[Nat.add_zero] at this; rw[this]; rfl
 have hA2:∀ C D,bI (H++[C,D,.dead,.dead]) (H.length+2) 1=true:=fun C D=>by rw[eR]; rfl
 have hS1:∀ A B C D,bj (H++[A,B,C,D]) H.length (bC H.length [LB.cells 1 [] 0,LB.cells 1 (c.tries.flatMap trL) 0])=H++[LB.cells 1 [] 0,LB.cells 1 (c.tries.flatMap trL) 0,C,D]:=fun A B C D=>by
  have:=eQ H (bC H.length [LB.cells 1 [] 0,LB.cells 1 (c.tries.flatMap trL) 0]) [A,B,C,D] 0
  rw[Nat.add_zero] at this
  rw[this]
  simp only[bC,LB.shift,shiftL,trc]
  rfl
 have hS2:∀ A B C D,bj (H++[A,B,C,D]) (H.length+2) (bC (H.length+2) [LB.cells 1 [] 0])=H++[A,B,LB.cells 1 [] 0,D]:=fun A B C D=>by
  rw[eQ]
  rfl
 have hX:∀ (X:Heap) (B:LB),List.set (H++X) bc B=List.set H bc B++X:=fun X B=>by rw[List.set_append_left _ _ q1]
 have hQ:∀ (X:Heap) (B:LB),(List.set H bc B++X)[bp]? = some (plB r names bc 1 n t):=fun X B=>by
  rw[List.getElem?_append_left (by rw[List.length_set]; omega),List.getElem?_set_ne (Ne.symm hne)]
  exact hbp
 have hQ':=fun X B=>(List.getElem?_eq_some_iff.1 (hQ X B)).2
 have hR:∀ (X:Heap) (B:LB),(List.set H bc B++X)[bc]? = some B:=fun X B=>by
  rw[List.getElem?_append_left (by rw[List.length_set]; omega),List.getElem?_set_self q1]
 have hR':=fun X B=>(List.getElem?_eq_some_iff.1 (hR X B)).2
 have hX2:∀ (X:Heap) (B C:LB),List.set (List.set H bc B++X) bc C=List.set H bc C++X:=fun X B C=>by rw[List.set_append_left _ _ (by rw[List.length_set]; omega),List.set_set]
 have hl2:∀ X:List LV,X.length=n*11→i*11+10<X.length:=by intro X hX; omega
 have hrl:(rowL l).length=n*11:=by rw[cE,hn]
 have h11:1+H.length=H.length+1:=by omega
 unfold plB at a0 a0' hQ hQ'
 subst hV
 simp[gA,a0,a0',a1,a1',n0,n1,q0,q1,hil,hii,e194,e195,c9,c9',p9,c10,c10',p10,hA,hA2,hS1,hS2,LV.shift,hX,hX2,hQ,hQ',hR,hR',hrl,h11]
 omega
end LM.GZ
namespace LM.GZ
open Go LM
variable {P:Nat→Option SFunc} [Has P]
variable {r:CRn} {names:List Str} {c:CCl} {n bp bc n0 i:Nat} {t:Int} {vs:List (LV × LV)} {H0 H:Heap}
def rowV (c:CCl) (vs:List (LV × LV)):List (CCl × (LV × LV)):=vs.map fun v=>(c,v)
def okW (c:CCl) (n0:Nat) (H:Heap) (v:LV × LV):Prop:=(c.tries=[]∧v=(.nil,.nil))∨(c.tries≠[]∧∃ b,n0≤b∧v=(.slice b 1 0 c.tries.length (some 4) none,.nil)∧H[b]? = some (.cells 1 (c.tries.flatMap trL) 0))
structure OpS (r:CRn) (names:List Str) (c:CCl) (n bp bc n0:Nat) (t:Int) (i:Nat) (vs:List (LV × LV)) (H0 H:Heap):Prop where
 bpn:bp<n0
 bcn:bc<n0
 ne:bp≠bc
 pl:H[bp]? = some (plB r names bc 1 n t)
 row:H[bc]? = some (.cells 1 (rowL (rowV c vs)) 0)
 len:vs.length=n
 ln:n0≤H.length
 low:∀ k,k<n0→k≠bc→H[k]? = H0[k]?
 rest:∀ j,i≤j→j<n→vs[j]? = some (cst c)
 done:∀ j v,j<i→vs[j]? = some v→okW c n0 H v
 dis:∀ (j k:Nat) (x y:LV × LV),j≠k→j<i→k<i→vs[j]? = some x→vs[k]? = some y→apartV x y
theorem okW.keep {v:LV × LV} {H' : Heap} (h:okW c n0 H v) (hk:∀ b B,n0≤b→blk v.1=some b→H[b]? = some B→H'[b]? = some B):okW c n0 H' v:=by
 rcases h with h | ⟨h1,b,h2,h3,h4⟩
 ·exact .inl h
 ·exact .inr ⟨h1,b,h2,h3,hk b _ h2 (by rw[h3]; rfl) h4⟩
theorem OJ {v:LV × LV} (h:v ∈ vs):v.1 ∈ rowL (rowV c vs):=xQ (x:=(c,v)) (List.mem_map.2 ⟨v,h,rfl⟩)
theorem OpS.gc (h:OpS r names c n bp bc n0 t i vs H0 H) {m:Nat} (hm:n0≤m):OpS r names c n bp bc n0 t i vs H0 (gcH m H):=by
 unfold gcH
 split
 ·rename_i hu
  have tk:∀ k,k<m→(H.take m)[k]? = H[k]?:=fun k hk=>List.getElem?_take_of_lt hk
  have b0:=h.bpn
  have b1:=h.bcn
  refine⟨h.bpn,h.bcn,h.ne,by rw[tk _ (by omega)]; exact h.pl,by rw[tk _ (by omega)]; exact h.row,h.len,by rw[List.length_take]; have:=h.ln; omega,fun k hk hk2=>by rw[tk _ (by omega)]; exact h.low k hk hk2,h.rest,fun j v hj hv=>?_,h.dis⟩
  have u2:LB.under m (.cells 1 (rowL (rowV c vs)) 0)=true:=cf (i:=bc) hu (by rw[tk _ (by omega)]; exact h.row)
  simp only[LB.under] at u2
  refine (h.done j v hj hv).keep fun b B hb hb2 hB=>?_
  have:=underL_mem u2 (OJ (c:=c) (List.mem_of_getElem? hv))
  rw[tk]
  ·exact hB
  ·cases hv1:v.1 with
   | slice b' g o len e q =>
    rw[hv1] at hb2 this
    simp[blk] at hb2
    simp[LV.under] at this
    omega
   | ptr b' g o =>
    rw[hv1] at hb2 this
    simp[blk] at hb2
   | _=>rw[hv1] at hb2; simp[blk] at hb2
 ·exact h
theorem wq (v:LV × LV):(rowV c vs).set i (c,v)=rowV c (vs.set i v):=by
 unfold rowV
 rw[List.map_set]
theorem OpS.step (h:OpS r names c n bp bc n0 t i vs H0 H) (hi:i<n) (X:Heap) (v:LV × LV) (hv:okW c H.length (H++X) v):OpS r names c n bp bc n0 t (i+1) (vs.set i v) H0 (List.set (H++X) bc (LB.cells 1 (rowL (rowV c (vs.set i v))) 0)):=by
 have b0:=h.bpn
 have b1:=h.bcn
 have b2:=h.ln
 have hl:=h.len
 refine⟨h.bpn,h.bcn,h.ne,?_,?_,by simp[hl],by simp; omega,fun k hk hk2=>?_,fun j hj hj2=>?_,fun j w hj hw=>?_,fun j k x y hjk hj hk hx hy=>?_⟩
 ·rw[List.getElem?_set_ne (Ne.symm h.ne),List.getElem?_append_left (by omega)]; exact h.pl
 ·rw[List.getElem?_set_self (by simp; omega)]
 ·rw[List.getElem?_set_ne (Ne.symm hk2),List.getElem?_append_left (by omega)]; exact h.low k hk hk2
 ·rw[List.getElem?_set_ne (by omega)]; exact h.rest j (by omega) hj2
 ·by_cases e:j=i
  ·subst e
   rw[List.getElem?_set_self (by omega)] at hw
   cases hw
   rcases hv with hv | ⟨v1,b,v2,v3,v4⟩
   ·exact .inl hv
   ·refine .inr ⟨v1,b,by omega,v3,?_⟩
    rw[List.getElem?_set_ne (by omega)]; exact v4
  ·rw[List.getElem?_set_ne (Ne.symm e)] at hw
   refine (h.done j w (by omega) hw).keep fun b B hb hb2 hB=>?_
   rw[List.getElem?_set_ne (by omega),List.getElem?_append_left (ltG hB)]; exact hB
 ·have bl:∀ (j:Nat) (w:LV × LV),j<i→vs[j]? = some w→(∀ k,blk w.1=some k→k<H.length)∧∀ k,blk w.2≠some k:=by
   intro j w hj hw
   rcases h.done j w hj hw with ⟨_,rfl⟩ | ⟨_,b,_,rfl,e⟩
   ·exact⟨fun k hk=>by simp[blk] at hk,fun k hk=>by simp[blk] at hk⟩
   ·exact⟨fun k hk=>by simp[blk] at hk; subst hk; exact ltG e,fun k hk=>by simp[blk] at hk⟩
  have bv:(∀ k,blk v.1=some k→H.length≤k)∧∀ k,blk v.2≠some k:=by
   rcases hv with ⟨_,rfl⟩ | ⟨_,b,e,rfl,_⟩
   ·exact⟨fun k hk=>by simp[blk] at hk,fun k hk=>by simp[blk] at hk⟩
   ·exact⟨fun k hk=>by simp[blk] at hk; subst hk; exact e,fun k hk=>by simp[blk] at hk⟩
  by_cases ej:j=i
  ·subst ej
   rw[List.getElem?_set_self (by omega)] at hx
   cases hx
   rw[List.getElem?_set_ne hjk] at hy
   have y1:=bl k y (by omega) hy
   intro q hq
   rcases hq with hq | hq
   ·refine⟨fun e=>?_,y1.2 q⟩
    have:=bv.1 q hq
    have:=y1.1 q e
    omega
   ·exact absurd hq (bv.2 q)
  ·rw[List.getElem?_set_ne (Ne.symm ej)] at hx
   have x1:=bl j x (by omega) hx
   by_cases ek:k=i
   ·subst ek
    rw[List.getElem?_set_self (by omega)] at hy
    cases hy
    intro q hq
    rcases hq with hq | hq
    ·refine⟨fun e=>?_,bv.2 q⟩
     have:=bv.1 q e
     have:=x1.1 q hq
     omega
    ·exact absurd hq (x1.2 q)
   ·rw[List.getElem?_set_ne (Ne.symm ek)] at hy
    exact h.dis j k x y hjk (by omega) (by omega) hx hy
theorem Rv (h:OpS r names c n bp bc n0 t i vs H0 H) (hi:i<n) (hn:n<1000) (ht:c.tries.length<1000) (hr:c.runs=[]) :
  ∃ vs' H',ac P (af P) gA ⟨[.ptr bp 0 0,.c (ci i),.c (ci n),.c (ci i)],H⟩=some (.normal,⟨[.ptr bp 0 0,.c (ci n),.c (ci i)],H'⟩)∧OpS r names c n bp bc n0 t (i+1) vs' H0 H':=by
 have gi:(rowV c vs)[i]? = some (c,cst c):=by unfold rowV; rw[List.getElem?_map,h.rest i (Nat.le_refl _) hi]; rfl
 have hl:(rowV c vs).length=n:=by unfold rowV; rw[List.length_map,h.len]
 by_cases hT:c.tries=[]
 ·have e:=Yf (P:=P) h.pl h.row h.ne gi hl hn hT hr
  rw[wq] at e
  exact⟨_,_,e,h.step hi _ _ (.inl ⟨hT,rfl⟩)⟩
 ·have e:=Zj (P:=P) h.pl h.row h.ne gi hl hn hT ht hr
  rw[wq] at e
  refine⟨_,_,e,h.step hi _ _ (.inr ⟨hT,H.length+1,by omega,rfl,?_⟩)⟩
  rw[List.getElem?_append_right (by omega),Nat.add_sub_cancel_left]
  rfl
theorem adc (hn:n<1000) (ht:c.tries.length<1000) (hr:c.runs=[]):∀ (k i:Nat) (vs:List (LV × LV)) (H:Heap),i+k=n→OpS r names c n bp bc n0 t i vs H0 H →
  ∃ vs' H',ac P (af P) lm ⟨[.ptr bp 0 0,.c (ci n),.c (ci i)],H⟩=some (.exit 0,⟨[.ptr bp 0 0],H'⟩)∧OpS r names c n bp bc n0 t n vs' H0 H':=by
 intro k
 induction k with
 | zero =>
  intro i vs H hk hS
  have:i=n:=by omega
  subst this
  refine⟨vs,H,?_,hS⟩
  rw[FL]
  simp[jM,n8]
 | succ k ih =>
  intro i vs H hk hS
  have hw:IntKind.i64.wrap ((i:Int)+1)=(i:Int)+1:=am (by omega) (by omega)
  have hlt:(i:Int)<n:=by omega
  obtain⟨vs1,H1,e1,s1⟩:=Rv (P:=P) hS (by omega) hn ht hr
  have hg:=s1.gc (m:=H.length) hS.ln
  obtain⟨vs',H',e3,s3⟩:=ih (i+1) vs1 _ (by omega) hg
  refine⟨vs',H',?_,s3⟩
  have hbl:bp<H.length:=ltG hS.pl
  rw[FL]
  unfold jM n8 nU nS
  generalize hX:gA=X at e1
  clear hX
  simp[-gc,hlt,e1,hw]
  rw[qr]
  have hsc:∀ q:Prop,[Decidable q]→(if q then LM.scrub H.length [.ptr bp 0 0,.c (ci n),.c (ci ((i:Int)+1))] else [.ptr bp 0 0,.c (ci n),.c (ci ((i:Int)+1))])=[.ptr bp 0 0,.c (ci n),.c (ci ((i:Int)+1))]:=by
   intro q _
   split
   ·simp[LM.scrub,LV.under,hbl]
   ·rfl
  rw[hsc]
  exact e3
theorem xB:∀ {vs:List (LV × LV)} {k:Nat},vs.length=k→(List.replicate k c).zip vs=rowV c vs
 | [],k,h=>by simp[rowV]
 | v::vs,k,h=>by
  subst h
  rw[List.length_cons,List.replicate_succ,List.zip_cons_cons,xB rfl]
  rfl
theorem ac3 {k:Nat} (hk:0<k) (hk2:k<1000) (ht:c.tries.length<1000) (hr:c.runs=[]) (h:Heap) :
  ∃ vs H',sfn P 150 [.c (rnE r names),.c (.agg [ci t,.slice ((List.replicate k c).map clE)])] h=some (.ptr (h.length+4) 0 0,H')∧PlayH r names ⟨t,List.replicate k c⟩ vs (h.length+4) (h.length+3) 1 H'∧(∀ q,q<h.length→H'[q]? = h[q]?)∧∀ x ∈ vs,∀ q,(blk x.1=some q∨blk x.2=some q)→h.length≤q:=by
 have hl:List.replicate k c≠[]:=by simp; omega
 have hl2:(List.replicate k c).length=k:=by simp
 have e:=YE (P:=P) (r:=r) (names:=names) (List.replicate k c) t hl (by rw[hl2]; exact hk2) h
 rw[hl2] at e
 have hrow:cellsOf ((List.replicate k c).map clE)=rowL (rowV c (List.replicate k (cst c))):=by
  have:∀ k,cellsOf ((List.replicate k c).map clE)=rowL (rowV c (List.replicate k (cst c))):=by
   intro k
   induction k with
   | zero=>rfl
   | succ k ih =>
    simp only[List.replicate_succ,List.map_cons,rowV] at ih ⊢
    have e1:∀ (x:CV) (l:List CV),cellsOf (x::l)=x.cells.map .c++cellsOf l:=fun x l=>by simp[cellsOf]
    have e2:∀ (x:CCl × (LV × LV)) l,rowL (x::l)=clL x.1 x.2++rowL l:=fun x l=>by simp[rowL]
    rw[e1,e2,ih]
    rfl
  exact this k
 generalize hH0:h++[rnB r names,stB t (List.replicate k c),.cells 1 [] 0,.cells 1 (cellsOf ((List.replicate k c).map clE)) 0,plB r names (h.length+3) 1 k t]=H0 at e
 have hO:OpS r names c k (h.length+4) (h.length+3) (h.length+5) t 0 (List.replicate k (cst c)) H0 H0:=by
  refine⟨by omega,by omega,by omega,?_,?_,by simp,by rw[← hH0]; simp,fun _ _ _=>rfl,fun j _ hj=>by simp[hj],fun j v hj=>by omega,fun j k' x y _ hj=>by omega⟩
  ·rw[← hH0,List.getElem?_append_right (by omega),Nat.add_sub_cancel_left]; rfl
  ·rw[← hH0,List.getElem?_append_right (by omega),Nat.add_sub_cancel_left,← hrow]; rfl
 obtain⟨vs,H',e2,s⟩:=adc (P:=P) hk2 ht hr k 0 _ _ (by omega) hO
 have g4:H0[h.length+4]? = some (plB r names (h.length+3) 1 k t):=hO.pl
 refine⟨vs,H',?_,⟨⟨?_,?_,?_,?_⟩,by omega,by decide,?_,?_,?_⟩,fun q hq=>?_,fun x hx q hq=>?_⟩
 ·obtain⟨_,g4'⟩:=List.getElem?_eq_some_iff.1 g4
  rw[abX]
  unfold AC tX
  generalize hX:lC=X at e
  clear hX
  have en:∀ B C,h++[B,C]=(h++[B])++[C]:=fun B C=>by simp
  unfold rnB stB at e
  unfold plB at g4 g4'
  simp only[List.map_replicate] at e
  have e2' : ac P (af P) lm ⟨[.ptr (h.length+4) 0 0,.c (CV.int IntKind.i64 k),.c (CV.int IntKind.i64 0)],H0⟩=_:=e2
  simp[rnE,e,g4,g4',e2']
 ·have:=s.pl
  simpa using this
 ·have:=s.row
  rw[xB (by simpa using s.len)]
  exact this
 ·simpa using s.len
 ·intro x hx
  obtain⟨j,hj,ej⟩:=List.getElem_of_mem hx
  have gj:(((⟨t,List.replicate k c⟩ : CSs).cls).zip vs)[j]? = some x:=by rw[List.getElem?_eq_getElem hj,ej]
  rw[List.getElem?_zip_eq_some] at gj
  have hjk:j<k:=by have:=(List.getElem?_eq_some_iff.1 gj.1).1; simpa using this
  have hc:x.1=c:=by have:=List.mem_of_getElem? gj.1; exact (List.mem_replicate.1 this).2
  have hd:=s.done j _ hjk gj.2
  rw[hc,hr]
  rcases hd with ⟨a,b⟩ | ⟨a,b,_,d,e⟩
  ·rw[b]; exact⟨.inl ⟨a,rfl⟩,.inl ⟨rfl,rfl⟩⟩
  ·rw[d]; exact⟨.inr ⟨a,b,1,rfl,e⟩,.inl ⟨rfl,rfl⟩⟩
 ·intro x hx b g o m e q hq
  obtain⟨j,hj,ej⟩:=List.getElem_of_mem hx
  have hd:=s.done j x (by rw[← s.len]; exact hj) (by rw[List.getElem?_eq_getElem hj,ej])
  rcases hd with ⟨_,rfl⟩ | ⟨_,_,_,rfl,_⟩
  ·cases hq
  ·cases hq; decide
 ·intro x hx
  obtain⟨j,hj,ej⟩:=List.getElem_of_mem hx
  have hd:=s.done j x (by rw[← s.len]; exact hj) (by rw[List.getElem?_eq_getElem hj,ej])
  rcases hd with ⟨_,rfl⟩ | ⟨_,b,hb,rfl,_⟩
  ·simp[blk]
  ·simp[blk]; omega
 ·intro i j x y hij hx hy
  have li:=(List.getElem?_eq_some_iff.1 hx).1
  have lj:=(List.getElem?_eq_some_iff.1 hy).1
  have:=s.len
  exact s.dis i j x y hij (by omega) (by omega) hx hy
 ·rw[s.low q (by omega) (by omega),← hH0,List.getElem?_append_left hq]
 ·obtain⟨j,hj,ej⟩:=List.getElem_of_mem hx
  have hd:=s.done j x (by rw[← s.len]; exact hj) (by rw[List.getElem?_eq_getElem hj,ej])
  rcases hd with ⟨_,rfl⟩ | ⟨_,b,hb,rfl,_⟩
  ·simp[blk] at hq
  ·simp[blk] at hq; omega
end LM.GZ
namespace LM.GZ
open Go LM
variable {P:Nat→Option SFunc} [Has P]
def eY:LCode:=match ja with
 | .seq _ (.block _ (.loop _ b))=>b
 | _=>.skip
def GV:LCode:=match ja with
 | .seq a _=>a
 | _=>.skip
theorem No:ja=.seq GV (.block 0 (.loop true eY)):=rfl
def vG (P:Nat→Option SFunc) (Q:Nat→Option LFunc):Prop:=∀ pos q f args h x,aC P (af P) pos q f args h=some x→∃ n,∀ M,n≤M→bD Q (runs Q M).1 pos q f args h=some x
theorem aaL (bp:Nat) (v:List CV) (h:Heap):sfn P 152 [.ptr bp 0 0,.c (.slice v)] h=some (.func 196 [] [.ptr (h.length+1) 0 0,.ptr h.length 0 0],h++[.cells 0 [.ptr bp 0 0] 0,.cells 0 [.c (.slice v)] 0]):=by
 rw[acN]
 simp[uw]
def At196 (bl bq:Nat) (L:List CEn) (j:Nat) (ts:List LV):Prop:=∃ x3 x4 x5 x6 x10 x11 x12 x13 x14 x15 x16 x17 x18 x19 x20 x21 x22 x23 x24 x25 x26 x27 x28:LV,ts=[.tuple [],.ptr bl 0 0,.ptr bq 0 0,x3,x4,x5,x6,.c (.slice (L.map enE)),.c (ci L.length),.c (ci j),x10,x11,x12,x13,x14,x15,x16,x17,x18,x19,x20,x21,x22,x23,x24,x25,x26,x27,x28]
variable {Q:Nat→Option LFunc} {m:Nat} {yh:dG} {L:List CEn} {bl bq bp j k:Nat} {e:CEn} {H H2 H3 H4:Heap}
theorem At196.scrub {ts:List LV} {n:Nat} (h:At196 bl bq L j ts) (h1:bl<n) (h2:bq<n):At196 bl bq L j (LM.scrub n ts):=by
 obtain⟨x3,x4,x5,x6,x10,x11,x12,x13,x14,x15,x16,x17,x18,x19,x20,x21,x22,x23,x24,x25,x26,x27,x28,rfl⟩:=h
 simp only[LM.scrub,LV.under,underL,decide_eq_true h1,decide_eq_true h2,if_true]
 exact⟨_,_,_,_,_,_,_,_,_,_,_,_,_,_,_,_,_,_,_,_,_,_,_,rfl⟩
theorem PA (hj:L[j]? = some e) (hL:L.length<1000) (gq:(H++[enB e])[bq]? = some (.cells 0 [.ptr bp 0 0] 0)) (gq2:H2[bq]? = some (.cells 0 [.ptr bp 0 0] 0)) (ge2:H2[H.length]? = some (enB e))
  (c1:bD Q (runs Q m).1 none false 197 [.ptr bp 0 0,.c (enE e)] (H++[enB e])=some (.c (ci 0),H2)) (c2:bD Q (runs Q m).1 none false 198 [.ptr bp 0 0,.c (enE e)] H2=some (.c (.tuple []),H3)) (hy:yh [.c (ci (j+1)),.c (ci 0)] H3=some (H4,none)) (ts:List LV) (ha:At196 bl bq L j ts) :
  ∃ ts',aJ Q (runs Q m).1 (runs Q m).2 yh eY ⟨ts,H⟩ none=some (.normal,⟨ts',H4⟩,none)∧At196 bl bq L (j+1) ts':=by
 obtain⟨x3,x4,x5,x6,x10,x11,x12,x13,x14,x15,x16,x17,x18,x19,x20,x21,x22,x23,x24,x25,x26,x27,x28,rfl⟩:=ha
 have hjl:j<L.length:=(List.getElem?_eq_some_iff.1 hj).1
 have hjl' : (j:Int)<L.length:=by omega
 obtain⟨_,hj'⟩:=List.getElem?_eq_some_iff.1 hj
 have hw:IntKind.i64.wrap ((j:Int)+1)=(j:Int)+1:=am (by omega) (by omega)
 obtain⟨_,gq'⟩:=List.getElem?_eq_some_iff.1 gq
 obtain⟨_,gq2'⟩:=List.getElem?_eq_some_iff.1 gq2
 obtain⟨_,ge2'⟩:=List.getElem?_eq_some_iff.1 ge2
 refine⟨?ts,?e,?f⟩
 case e =>
  unfold eY ja
  simp only[enB,enE] at *
  simp[fh,opI,hj,hj',hjl,hjl',hw,gq,gq',gq2,gq2',ge2,ge2',c1,c2,hy,enE]
  rfl
 case f=>exact⟨_,_,_,_,_,_,_,_,_,_,_,_,_,_,_,_,_,_,_,_,_,_,_,rfl⟩
theorem QX (hj:L[j]? = some e) (hL:L.length<1000) (gq:(H++[enB e])[bq]? = some (.cells 0 [.ptr bp 0 0] 0))
  (c1:bD Q (runs Q m).1 none false 197 [.ptr bp 0 0,.c (enE e)] (H++[enB e])=some (.c (ci k),H2)) (hk:k≠0) (hy:yh [.c (ci (j+1)),.c (ci k)] H2=some (H4,none)) (ts:List LV) (ha:At196 bl bq L j ts) :
  ∃ ts',aJ Q (runs Q m).1 (runs Q m).2 yh eY ⟨ts,H⟩ none=some (.normal,⟨ts',H4⟩,none)∧At196 bl bq L (j+1) ts':=by
 obtain⟨x3,x4,x5,x6,x10,x11,x12,x13,x14,x15,x16,x17,x18,x19,x20,x21,x22,x23,x24,x25,x26,x27,x28,rfl⟩:=ha
 have hjl:j<L.length:=(List.getElem?_eq_some_iff.1 hj).1
 have hjl' : (j:Int)<L.length:=by omega
 obtain⟨_,hj'⟩:=List.getElem?_eq_some_iff.1 hj
 have hw:IntKind.i64.wrap ((j:Int)+1)=(j:Int)+1:=am (by omega) (by omega)
 obtain⟨_,gq'⟩:=List.getElem?_eq_some_iff.1 gq
 have hk2:¬ (k:Int)=0:=by omega
 refine⟨?ts,?e,?f⟩
 case e =>
  unfold eY ja
  simp only[enB,enE] at *
  simp[fh,opI,hj,hj',hjl,hjl',hw,gq,gq',c1,hk,hk2,hy,enE]
  rfl
 case f=>exact⟨_,_,_,_,_,_,_,_,_,_,_,_,_,_,_,_,_,_,_,_,_,_,_,rfl⟩
theorem ME (ts:List LV) (ha:At196 bl bq L L.length ts):∃ ts',aJ Q (runs Q m).1 (runs Q m).2 yh eY ⟨ts,H⟩ none=some (.exit 0,⟨ts',H⟩,none):=by
 obtain⟨x3,x4,x5,x6,x10,x11,x12,x13,x14,x15,x16,x17,x18,x19,x20,x21,x22,x23,x24,x25,x26,x27,x28,rfl⟩:=ha
 refine⟨?ts,?e⟩
 case e =>
  unfold eY ja
  simp[fh,opI]
  rfl
theorem Py (gl:H[bl]? = some (.cells 0 [.c (.slice (L.map enE))] 0)):∃ ts,aJ Q (runs Q m).1 (runs Q m).2 yh GV ⟨pad 29 [.tuple [],.ptr bl 0 0,.ptr bq 0 0],H⟩ none=some (.normal,⟨ts,H⟩,none)∧At196 bl bq L 0 ts:=by
 obtain⟨_,gl'⟩:=List.getElem?_eq_some_iff.1 gl
 refine⟨?ts,?e,?f⟩
 case e =>
  unfold GV ja
  simp[fh,opI,gl,gl',pad,List.replicate]
  rfl
 case f=>exact⟨_,_,_,_,_,_,_,_,_,_,_,_,_,_,_,_,_,_,_,_,_,_,_,rfl⟩
end LM.GZ
namespace LM.GZ
open Go LM
variable {P:Nat→Option SFunc} [Has P]
variable {r:CRn} {names:List Str} {s:CSs} {e:CEn} {vs vs' : List (LV × LV)} {H H' : Heap} {pa bp bc n:Nat} {keep:List (Nat × LB)} {out:List (Nat × Nat)}
def Sep (vs:List (LV × LV)) (bp bc k:Nat):Prop:=k≠bp∧k≠bc∧∀ x ∈ vs,blk x.1≠some k∧blk x.2≠some k
theorem PlayH.stay (h:PlayH r names s vs bp bc 1 H) (hk:∀ k,k<H.length→¬ Sep vs bp bc k→H'[k]? = H[k]?):PlayH r names s vs bp bc 1 H':=by
 refine⟨⟨?_,?_,h.p.len,fun x hx=>?_⟩,h.ne,h.g0,h.gen,h.ap,h.dis⟩
 ·rw[hk _ (ltG h.p.pl) fun q=>q.1 rfl]; exact h.p.pl
 ·rw[hk _ (ltG h.p.row) fun q=>q.2.1 rfl]; exact h.p.row
 ·obtain⟨t1,t2⟩:=h.p.all x hx
  have hm:x.2 ∈ vs:=(List.of_mem_zip (show (x.1,x.2) ∈ s.cls.zip vs from hx)).2
  refine⟨t1.move fun k hb=>hk k (t1.lt hb) fun q=>(q.2.2 x.2 hm).1 hb,t2.move fun k hb=>hk k (t2.lt hb) fun q=>(q.2.2 x.2 hm).2 hb⟩
def refE (x:Nat × Nat):CV:=.agg [ci x.1,ci x.2]
theorem Rq (x:Nat × Nat):Elem (some 2) (refE x):=⟨_,rfl,rfl,by simp[CV.flat]⟩
theorem l4 (l:List (Nat × Nat)):∀ x ∈ l.map refE,Elem (some 2) x:=by
 intro x hx
 obtain⟨t,_,rfl⟩:=List.mem_map.1 hx
 exact Rq t
def Tel (pa:Nat) (x:Nat × Nat) (H H' : Heap):Prop:=∃ a b g len H1,H[pa]? = some (.cells 0 [a] 0)∧(a=.nil∨∃ b g len,a=.slice b g 0 len (some 2) none)∧aN none (some 2) 16 a (.c (.slice [refE x])) H=some (.slice b g 0 len (some 2) none,H1)∧H1[pa]? = some (.cells 0 [a] 0)∧H'=H1.set pa (.cells 0 [.slice b g 0 len (some 2) none] 0)
def G3 (yh:dG) (pa:Nat):Prop:=(∀ (i:Nat) H,yh [.c (ci i),.c (ci 0)] H=some (H,none))∧∀ (i k:Nat) H H',k≠0→Tel pa (i,k) H H'→yh [.c (ci i),.c (ci k)] H=some (H',none)
structure BehS (r:CRn) (names:List Str) (keep:List (Nat × LB)) (pa bp bc:Nat) (s:CSs) (vs:List (LV × LV)) (out:List (Nat × Nat)) (H:Heap):Prop where
 play:PlayH r names s vs bp bc 1 H
 kept:∀ x ∈ keep,H[x.1]? = some x.2∧Sep vs bp bc x.1∧x.1≠pa
 pas:Sep vs bp bc pa
 out:(out=[]∧H[pa]? = some (.cells 0 [.nil] 0))∨(out≠[]∧∃ b g,H[pa]? = some (.cells 0 [.slice b g 0 out.length (some 2) none] 0)∧H[b]? = some (.cells g (cellsOf (out.map refE)) 0)∧Sep vs bp bc b∧b≠pa∧∀ x ∈ keep,x.1≠b)
theorem BehS.pal (h:BehS r names keep pa bp bc s vs out H):pa<H.length:=by
 rcases h.out with ⟨_,g⟩ | ⟨_,b,g,g1,_⟩
 ·exact ltG g
 ·exact ltG g1
theorem BehS.same (h:BehS r names keep pa bp bc s vs out H) (hs:SameH H.length H H'):BehS r names keep pa bp bc s vs out H':=by
 refine⟨h.play.same hs,fun x hx=>?_,h.pas,?_⟩
 ·obtain⟨a,b⟩:=h.kept x hx
  exact⟨by rw[hs.2 _ (ltG a)]; exact a,b⟩
 ·rcases h.out with ⟨a,g⟩ | ⟨a,b,g,g1,g2,g3⟩
  ·exact .inl ⟨a,by rw[hs.2 _ (ltG g)]; exact g⟩
  ·exact .inr ⟨a,b,g,by rw[hs.2 _ (ltG g1)]; exact g1,by rw[hs.2 _ (ltG g2)]; exact g2,g3⟩
theorem BehS.next {s' : CSs} (h:BehS r names keep pa bp bc s vs out H) (hp:PlayH r names s' vs' bp bc 1 H') (hf:∀ k,k<H.length→k≠bp→k≠bc→(∀ x ∈ vs,blk x.1≠some k∧blk x.2≠some k)→H'[k]? = H[k]?)
  (hv:∀ x ∈ vs',∀ k,(blk x.1=some k∨blk x.2=some k)→(∃ y ∈ vs,blk y.1=some k∨blk y.2=some k)∨H.length≤k):BehS r names keep pa bp bc s' vs' out H':=by
 have sp:∀ k,k<H.length→Sep vs bp bc k→Sep vs' bp bc k:=fun k hk hs=>by
  refine⟨hs.1,hs.2.1,fun x hx=>⟨fun e=>?_,fun e=>?_⟩⟩
  ·rcases hv x hx k (.inl e) with ⟨y,hy,e2 | e2⟩ | e2
   ·exact (hs.2.2 y hy).1 e2
   ·exact (hs.2.2 y hy).2 e2
   ·omega
  ·rcases hv x hx k (.inr e) with ⟨y,hy,e2 | e2⟩ | e2
   ·exact (hs.2.2 y hy).1 e2
   ·exact (hs.2.2 y hy).2 e2
   ·omega
 have gt:∀ k B,H[k]? = some B→Sep vs bp bc k→H'[k]? = some B:=fun k B hk hs=>by rw[hf k (ltG hk) hs.1 hs.2.1 hs.2.2]; exact hk
 refine⟨hp,fun x hx=>?_,sp _ h.pal h.pas,?_⟩
 ·obtain⟨a,b,c⟩:=h.kept x hx
  exact⟨gt _ _ a b,sp _ (ltG a) b,c⟩
 ·rcases h.out with ⟨a,g⟩ | ⟨a,b,g,g1,g2,g3,g4⟩
  ·exact .inl ⟨a,gt _ _ g h.pas⟩
  ·exact .inr ⟨a,b,g,gt _ _ g1 h.pas,gt _ _ g2 g3,sp _ (ltG g2) g3,g4⟩
theorem PlayH.sep (h:PlayH r names s vs bp bc 1 H) {k:Nat} (hk:H.length≤k):Sep vs bp bc k :=
 ⟨fun e=>by have:=ltG h.p.pl; omega,fun e=>by have:=ltG h.p.row; omega,fun x hx=>⟨fun e=>by have:=h.lt hx (.inl e); omega,fun e=>by have:=h.lt hx (.inr e); omega⟩⟩
theorem BehS.tell (h:BehS r names keep pa bp bc s vs out H) (x:Nat × Nat) (ho:out.length<100000):∃ H',Tel pa x H H'∧BehS r names keep pa bp bc s vs (out++[x]) H':=by
 have pl:=h.pal
 rcases h.out with ⟨rfl,g⟩ | ⟨a,b,g,g1,g2,g3,g4,g5⟩
 ·have ha:=vL (e:=some 2) (bytes:=16) (xs:=[refE x]) (h:=H) (l4 [x]) (by simp) (by simp) (by simp)
  have gk:∀ k B,H[k]? = some B→(H++[LB.cells 1 (cellsOf [refE x]) 0])[k]? = some B:=fun k B hk=>by rw[List.getElem?_append_left (ltG hk)]; exact hk
  refine⟨_,⟨.nil,H.length,1,1,_,g,.inl rfl,ha,gk _ _ g,rfl⟩,?_,fun y hy=>?_,h.pas,.inr ⟨by simp,H.length,1,?_,?_,h.play.sep (Nat.le_refl _),by omega,fun y hy=>?_⟩⟩
  ·refine h.play.stay fun k hk hs=>?_
   rw[List.getElem?_set_ne (by rintro rfl; exact hs h.pas),List.getElem?_append_left hk]
  ·obtain⟨a,b,c⟩:=h.kept y hy
   exact⟨by rw[List.getElem?_set_ne (Ne.symm c)]; exact gk _ _ a,b,c⟩
  ·rw[List.getElem?_set_self (by simp; omega)]; rfl
  ·rw[List.getElem?_set_ne (by omega),List.getElem?_append_right (Nat.le_refl _),Nat.sub_self]; rfl
  ·obtain⟨a,b,c⟩:=h.kept y hy
   have:=ltG a
   omega
 ·have ha:=gN (b:=b) (g:=g) (bytes:=16) (e:=some 2) (ys:=out.map refE) (xs:=[refE x]) (h:=H) (len:=out.length) (fz:=0) g2 (l4 out) (l4 [x]) (by simp) (Nat.zero_le _) (by simp) (by simp; omega) (by simp; omega)
  have e1:out.map refE++[refE x]=(out++[x]).map refE:=by simp
  rw[e1] at ha
  have gk:∀ k B X,k≠b→H[k]? = some B→(H.set b X)[k]? = some B:=fun k B X hk hB=>by rw[List.getElem?_set_ne (Ne.symm hk)]; exact hB
  refine⟨_,⟨_,b,g+1,out.length+1,_,g1,.inr ⟨_,_,_,rfl⟩,ha,gk _ _ _ (Ne.symm g4) g1,rfl⟩,?_,fun y hy=>?_,h.pas,.inr ⟨by simp,b,g+1,?_,?_,g3,g4,g5⟩⟩
  ·refine h.play.stay fun k hk hs=>?_
   rw[List.getElem?_set_ne (by rintro rfl; exact hs h.pas),List.getElem?_set_ne (by rintro rfl; exact hs g3)]
  ·obtain⟨a,b',c⟩:=h.kept y hy
   exact⟨by rw[List.getElem?_set_ne (Ne.symm c)]; exact gk _ _ _ (g5 y hy) a,b',c⟩
  ·rw[List.getElem?_set_self (by simp; omega)]; simp
  ·rw[List.getElem?_set_ne (Ne.symm g4),List.getElem?_set_self (ltG g2)]
theorem vi {v:LV} {k:Nat} (hb:blk v=some k) (hu:v.under n=true):k<n:=by
 cases v with
 | slice b' g o len e q =>
  simp[blk] at hb
  simp[LV.under] at hu
  omega
 | _=>simp[blk] at hb
theorem PlayH.gc (h:PlayH r names s vs bp bc 1 H) (hn:bp<n):PlayH r names s vs bp bc 1 (gcH n H):=by
 unfold gcH
 split
 ·rename_i hu
  have tk:∀ k,k<n→(H.take n)[k]? = H[k]?:=fun k hk=>List.getElem?_take_of_lt hk
  have u1:LB.under n (plB r names bc 1 s.cls.length s.time)=true:=cf (i:=bp) hu (by rw[tk _ hn]; exact h.p.pl)
  have hc:bc<n:=by
   simp[plB,LB.under,underL,LV.under] at u1
   exact u1
  have u2:LB.under n (.cells 1 (rowL (s.cls.zip vs)) 0)=true:=cf (i:=bc) hu (by rw[tk _ hc]; exact h.p.row)
  simp only[LB.under] at u2
  have mm:∀ x ∈ s.cls.zip vs,x.2.1 ∈ rowL (s.cls.zip vs)∧x.2.2 ∈ rowL (s.cls.zip vs):=fun x hx=>by
   unfold rowL
   rw[List.mem_flatMap,List.mem_flatMap]
   exact⟨⟨x,hx,by simp[clL]⟩,⟨x,hx,by simp[clL]⟩⟩
  refine⟨⟨by rw[tk _ hn]; exact h.p.pl,by rw[tk _ hc]; exact h.p.row,h.p.len,fun x hx=>?_⟩,h.ne,h.g0,h.gen,h.ap,h.dis⟩
  obtain⟨t1,t2⟩:=h.p.all x hx
  exact⟨t1.move fun k hb=>tk _ (vi hb (underL_mem u2 (mm x hx).1)),t2.move fun k hb=>tk _ (vi hb (underL_mem u2 (mm x hx).2))⟩
 ·exact h
theorem BehS.gc (h:BehS r names keep pa bp bc s vs out H) (hb:bp<n) (hp:pa<n) (hk:∀ x ∈ keep,x.1<n):BehS r names keep pa bp bc s vs out (gcH n H):=by
 refine⟨h.play.gc hb,fun x hx=>?_,h.pas,?_⟩
 ·obtain⟨a,b⟩:=h.kept x hx
  refine⟨?_,b⟩
  unfold gcH
  split
  ·rw[List.getElem?_take_of_lt (hk x hx)]; exact a
  ·exact a
 ·unfold gcH
  split
  ·rename_i hu
   have tk:∀ k,k<n→(H.take n)[k]? = H[k]?:=fun k hk=>List.getElem?_take_of_lt hk
   rcases h.out with ⟨a,g⟩ | ⟨a,b,g,g1,g2,g3⟩
   ·exact .inl ⟨a,by rw[tk _ hp]; exact g⟩
   ·have u1:=cf (i:=pa) hu (by rw[tk _ hp]; exact g1)
    simp[LB.under,underL,LV.under] at u1
    exact .inr ⟨a,b,g,by rw[tk _ hp]; exact g1,by rw[tk _ u1]; exact g2,g3⟩
  ·exact h.out
end LM.GZ
namespace LM.GZ
open Go LM
variable {P:Nat→Option SFunc} [Has P]
variable {Q:Nat→Option LFunc} {r:CRn} {names:List Str} {n:Nat} {L:List CEn} {bl bq pa bp bc:Nat} {keep:List (Nat × LB)}
theorem abR (hQ:vG P Q) (hr:RnOK r) (hsz:r.size≤64) (hn:n≤160) (hL:L.length<1000) (hD:∀ e ∈ L,DoW P r names e) (hE:∀ e ∈ L,jZ n e) (kl:(bl,LB.cells 0 [.c (.slice (L.map enE))] 0) ∈ keep) (kq:(bq,LB.cells 0 [.ptr bp 0 0] 0) ∈ keep) :
  ∀ (rest:List CEn) (j:Nat) (s:CSs) (vs:List (LV × LV)) (out:List (Nat × Nat)) (H:Heap),L.drop j=rest→j+rest.length=L.length→SsOK r n s→BehS r names keep pa bp bc s vs out H→out.length≤j →
  ∃ (N:Nat) (vs' : List (LV × LV)) (H' : Heap),BehS r names keep pa bp bc (bZ r s rest) vs' (out++dE r (j+1) s rest) H' ∧
   ∀ M,N≤M→∀ (yh:dG),G3 yh pa→∀ ts,At196 bl bq L j ts→∃ ts',aJ Q (runs Q M).1 (runs Q M).2 yh (.loop true eY) ⟨ts,H⟩ none=some (.exit 0,⟨ts',H'⟩,none):=by
 intro rest
 induction rest with
 | nil =>
  intro j s vs out H hd hj hS hB ho
  have hjl:j=L.length:=by simpa using hj
  subst hjl
  refine⟨0,vs,H,by simpa[bZ,dE] using hB,fun M _ yh _ ts ha=>?_⟩
  obtain⟨ts',e⟩:=ME (Q:=Q) (m:=M) (yh:=yh) (H:=H) ts ha
  exact⟨ts',by rw[sT,e]; rfl⟩
 | cons e rest ih =>
  intro j s vs out H hd hj hS hB ho
  rw[List.length_cons] at hj
  have hjl:j<L.length:=by omega
  have gj:L[j]? = some e:=by
   have:=List.getElem?_drop (xs:=L) (i:=j) (j:=0)
   rw[hd] at this
   simpa using this.symm
  have hd2:L.drop (j+1)=rest:=by
   rw[List.drop_eq_getElem_cons hjl] at hd
   injection hd
  have he:jZ n e:=hE e (List.mem_of_getElem? gj)
  have hB1:BehS r names keep pa bp bc s vs out (H++[enB e]):=hB.same ((SameH.rfl' (Nat.le_refl _)).app _)
  have hl1:(H++[enB e]).length=H.length+1:=by simp
  obtain⟨H2,s2,w1⟩:=Hf (P:=P) hB1.play hr hsz hS he hn
  have hB2:=hB1.same s2
  have hl2:=s2.1
  have g1:aC P (af P) none false 197 [.ptr bp 0 0,.c (enE e)] (H++[enB e])=some (.c (ci (c6 r s e)),H2):=by rw[Qx]; exact w1
  obtain⟨N1,f1⟩:=hQ _ _ _ _ _ _ g1
  have kql:=ltG (hB.kept _ kq).1
  have kll:=ltG (hB.kept _ kl).1
  have ll:∀ k B,H[k]? = some B→k<H.length:=fun k B h=>ltG h
  have kk:∀ x ∈ keep,x.1<H.length:=fun x hx=>ltG (hB.kept x hx).1
  have gE2:H2[H.length]? = some (enB e):=by rw[s2.2 _ (by omega)]; simp
  by_cases hleg:c6 r s e=0
  ·obtain⟨vs3,H3,w2,p3,l3,f3,v3⟩:=Iu (P:=P) (hD e (List.mem_of_getElem? gj)) hB2.play hr hsz hS he hleg
   have hB3:=hB2.next p3 f3 v3
   have g2:aC P (af P) none false 198 [.ptr bp 0 0,.c (enE e)] H2=some (.c (.tuple []),H3):=by rw[Qj]; exact w2
   obtain⟨N2,f2⟩:=hQ _ _ _ _ _ _ g2
   have hB4:=hB3.gc (n:=H.length) (ltG hB.play.p.pl) hB.pal kk
   have hS3:SsOK r n (dM r s e):=Fx hr hS he hleg
   obtain⟨N,vs',H',b,ex⟩:=ih (j+1) (dM r s e) vs3 out (gcH H.length H3) hd2 (by omega) hS3 hB4 (by omega)
   refine⟨N1+N2+N+1,vs',H',?_,fun M hM yh hy ts ha=>?_⟩
   ·have e1:bZ r s (e::rest)=bZ r (dM r s e) rest:=by simp[bZ,oo,hleg]
    rw[e1,dE,if_pos hleg]
    exact b
   ·obtain⟨M',rfl⟩ : ∃ M',M=M'+1:=⟨M-1,by omega⟩
    have c1:=f1 (M'+1) (by omega)
    have c2:=f2 (M'+1) (by omega)
    rw[hleg] at c1
    obtain⟨ts1,x1,x2⟩:=PA (m:=M'+1) (yh:=yh) gj hL (hB1.kept _ kq).1 (hB2.kept _ kq).1 gE2 c1 c2 (hy.1 (j+1) H3) ts ha
    have x3:At196 bl bq L (j+1) (if bM H.length (H3.take H.length) then LM.scrub H.length ts1 else ts1):=by
     split
     ·exact x2.scrub kll kql
     ·exact x2
    obtain⟨ts',x4⟩:=ex M' (by omega) yh hy _ x3
    refine⟨ts',?_⟩
    rw[sT,x1]
    simp only[oF,if_true]
    rw[qr]
    exact x4
  ·obtain⟨H3,t3,hB3⟩:=hB2.tell (j+1,c6 r s e) (by omega)
   have hB4:=hB3.gc (n:=H.length) (ltG hB.play.p.pl) hB.pal kk
   obtain⟨N,vs',H',b,ex⟩:=ih (j+1) s vs (out++[(j+1,c6 r s e)]) (gcH H.length H3) hd2 (by omega) hS hB4 (by simp; omega)
   refine⟨N1+N+1,vs',H',?_,fun M hM yh hy ts ha=>?_⟩
   ·have e1:bZ r s (e::rest)=bZ r s rest:=by simp[bZ,oo,hleg]
    rw[e1,dE,if_neg hleg]
    simpa using b
   ·obtain⟨M',rfl⟩ : ∃ M',M=M'+1:=⟨M-1,by omega⟩
    have c1:=f1 (M'+1) (by omega)
    obtain⟨ts1,x1,x2⟩:=QX (m:=M'+1) (yh:=yh) gj hL (hB1.kept _ kq).1 c1 hleg (hy.2 (j+1) _ H2 H3 hleg t3) ts ha
    have x3:At196 bl bq L (j+1) (if bM H.length (H3.take H.length) then LM.scrub H.length ts1 else ts1):=by
     split
     ·exact x2.scrub kll kql
     ·exact x2
    obtain⟨ts',x4⟩:=ex M' (by omega) yh hy _ x3
    refine⟨ts',?_⟩
    rw[sT,x1]
    simp only[oF,if_true]
    rw[qr]
    exact x4
theorem OV (Q:Nat→Option LFunc) (M:Nat):(runs Q (M+1)).2=aJ Q (runs Q M).1 (runs Q M).2:=rfl
theorem aao (hQ:vG P Q) (hr:RnOK r) (hsz:r.size≤64) (hn:n≤160) (hL:L.length<1000) (hD:∀ e ∈ L,DoW P r names e) (hE:∀ e ∈ L,jZ n e) (kl:(bl,LB.cells 0 [.c (.slice (L.map enE))] 0) ∈ keep) (kq:(bq,LB.cells 0 [.ptr bp 0 0] 0) ∈ keep)
  {s:CSs} {vs:List (LV × LV)} {H:Heap} (hS:SsOK r n s) (hB:BehS r names keep pa bp bc s vs [] H) :
  ∃ (N:Nat) (vs' : List (LV × LV)) (H' : Heap),BehS r names keep pa bp bc (bZ r s L) vs' (dE r 1 s L) H' ∧
   ∀ M,N≤M→∀ (yh:dG),G3 yh pa→∃ ts',(runs Q M).2 yh ja ⟨pad 29 [.tuple [],.ptr bl 0 0,.ptr bq 0 0],H⟩ none=some (.normal,⟨ts',H'⟩,none):=by
 obtain⟨N,vs',H',b,ex⟩:=abR (P:=P) hQ hr hsz hn hL hD hE kl kq L 0 s vs [] H (by simp) (by simp) hS hB (by simp)
 refine⟨N+1,vs',H',by simpa using b,fun M hM yh hy=>?_⟩
 obtain⟨M',rfl⟩ : ∃ M',M=M'+1:=⟨M-1,by omega⟩
 obtain⟨ts,x1,x2⟩:=Py (Q:=Q) (m:=M') (yh:=yh) (bq:=bq) (hB.kept _ kl).1
 obtain⟨ts',x3⟩:=ex M' (by omega) yh hy ts x2
 refine⟨ts',?_⟩
 rw[OV,No]
 simp[x1,x3]
end LM.GZ
