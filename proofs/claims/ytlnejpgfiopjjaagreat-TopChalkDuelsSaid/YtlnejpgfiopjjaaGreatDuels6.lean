/- Part 9 of what YtlnejpgfiopjjaaGreatDuels leans on. -/
import Derived.KernelRfl
import Derived.Test.YtlnejpgfiopjjaaGreatDuelsL1
import Derived.Test.YtlnejpgfiopjjaaGreatDuelsL2
import Derived.Test.YtlnejpgfiopjjaaGreatDuelsL3
import Derived.Test.YtlnejpgfiopjjaaGreatDuels1
import Derived.Test.YtlnejpgfiopjjaaGreatDuels2
import Derived.Test.YtlnejpgfiopjjaaGreatDuels3
import Derived.Test.YtlnejpgfiopjjaaGreatDuels4
import Derived.Test.YtlnejpgfiopjjaaGreatDuels5
set_option linter.all false
namespace LM.GZ
open Go LM
def TrW (h:Heap) (l:List CTr) (w:LV):Prop:=(l=[]∧w=.nil)∨(∃ b g cp fz,w=.slice b g 0 l.length (some 4) cp∧h[b]? = some (.cells g (l.flatMap trL) fz))
def RuW (h:Heap) (l:List Int) (w:LV):Prop:=(l=[]∧w=.nil)∨(∃ b g cp fz,w=.slice b g 0 l.length none cp∧h[b]? = some (.cells g (cI l) fz))
theorem TrV.w {h:Heap} {l:List CTr} {w:LV} (H:TrV h l w):TrW h l w:=by
 rcases H with h1 | ⟨_,b,g,h2,h3⟩
 ·exact .inl h1
 ·exact .inr ⟨b,g,none,0,h2,h3⟩
theorem RuV.w {h:Heap} {l:List Int} {w:LV} (H:RuV h l w):RuW h l w:=by
 rcases H with h1 | ⟨_,b,g,h2,h3⟩
 ·exact .inl h1
 ·exact .inr ⟨b,g,none,0,h2,h3⟩
def Cel (h h' : Heap):Prop:=∀ (g:Nat) (cs:List LV) (i fz:Nat),h[i]? = some (.cells g cs fz)→∃ fz',h'[i]? = some (.cells g cs fz')
theorem Cel.refl (h:Heap):Cel h h:=fun _ _ _ fz e=>⟨fz,e⟩
theorem Cel.trans {a b c:Heap} (h1:Cel a b) (h2:Cel b c):Cel a c:=fun g cs i fz e=>by
 obtain⟨f,e2⟩:=h1 g cs i fz e
 exact h2 g cs i f e2
theorem TrW.cel {h h' : Heap} {l:List CTr} {w:LV} (H:TrW h l w) (hc:Cel h h'):TrW h' l w:=by
 rcases H with h1 | ⟨b,g,cp,fz,h2,h3⟩
 ·exact .inl h1
 ·obtain⟨f,e⟩:=hc _ _ _ _ h3
  exact .inr ⟨b,g,cp,f,h2,e⟩
theorem RuW.cel {h h' : Heap} {l:List Int} {w:LV} (H:RuW h l w) (hc:Cel h h'):RuW h' l w:=by
 rcases H with h1 | ⟨b,g,cp,fz,h2,h3⟩
 ·exact .inl h1
 ·obtain⟨f,e⟩:=hc _ _ _ _ h3
  exact .inr ⟨b,g,cp,f,h2,e⟩
theorem frzD_own {d b g fz:Nat} {e:Option Nat} {ys:List CV} {h:Heap} {len:Nat} (hb:h[b]? = some (.cells g (cellsOf ys) fz)) (hy:∀ x ∈ ys,Elem e x) (hlen:len=ys.length) (cap:Option Nat) :
  frz (d+2) (.slice b g 0 len e cap) h=some (.slice ys,LM.bump b (len*szOf e) h):=by
 subst hlen
 have h3:=cellsOf_length hy
 rw[frz_succ_slice (d+1),hb]
 simp only[Nat.zero_add,List.drop_zero]
 rw[if_pos ⟨trivial,by omega⟩]
 have:(cellsOf ys).take (ys.length*szOf e)=cellsOf ys:=by rw[← h3]; exact List.take_length
 rw[this]
 unfold cellsOf
 rw[mapH_map_c d]
 simp only[bnd_some,chunk_cellsOf hy]
theorem frzD_tr (d:Nat) {h:Heap} {l:List CTr} {w:LV} (H:TrW h l w):∃ h',frz (d+2) w h=some (.slice (l.map trE),h')∧Cel h h':=by
 rcases H with ⟨rfl,rfl⟩ | ⟨b,g,cp,fz,rfl,hb⟩
 ·exact⟨h,rfl,Cel.refl h⟩
 ·exact⟨_,frzD_own (b:=b) (g:=g) (fz:=fz) (e:=some 4) (ys:=l.map trE) (h:=h) (len:=l.length) (by rw[trE_cells]; exact hb) (trElems l) (by simp) cp,fun g cs i fz e=>bump_get e⟩
theorem frzD_ru (d:Nat) {h:Heap} {l:List Int} {w:LV} (H:RuW h l w):∃ h',frz (d+2) w h=some (.slice (l.map ci),h')∧Cel h h':=by
 rcases H with ⟨rfl,rfl⟩ | ⟨b,g,cp,fz,rfl,hb⟩
 ·exact⟨h,rfl,Cel.refl h⟩
 ·exact⟨_,frzD_own (b:=b) (g:=g) (fz:=fz) (e:=none) (ys:=l.map ci) (h:=h) (len:=l.length) (by rw[cellsOf_ints]; exact hb) (intElems l) (by simp) cp,fun g cs i fz e=>bump_get e⟩
def clX (c:CCl):List CV:=clC c++[.slice (c.tries.map trE),.slice (c.runs.map ci)]
theorem mapH_app (f:LV→Heap→Option (CV × Heap)):∀ (a b:List LV) (h:Heap),mapH f (a++b) h=bnd (mapH f a h) fun x=>bnd (mapH f b x.2) fun y=>some (x.1++y.1,y.2)
 | [],b,h=>by
  rw[List.nil_append,mapH_nil,bnd_some]
  rcases mapH f b h with _ | ⟨l,h'⟩<;>rfl
 | v::a,b,h=>by
  rw[List.cons_append,mapH_cons,mapH_cons]
  rcases f v h with _ | ⟨x,h1⟩
  ·rfl
  ·simp only[bnd_some,mapH_app f a b h1]
   rcases mapH f a h1 with _ | ⟨l1,h2⟩
   ·rfl
   ·simp only[bnd_some]
    rcases mapH f b h2 with _ | ⟨l2,h3⟩<;>rfl
theorem frzD_cl (d:Nat) {h:Heap} {c:CCl} {v:LV × LV} (H:TrW h c.tries v.1) (H2:RuW h c.runs v.2):∃ h',mapH (frz (d+2)) (clL c v) h=some (clX c,h')∧Cel h h':=by
 obtain⟨h1,e1,c1⟩:=frzD_tr d H
 obtain⟨h2,e2,c2⟩:=frzD_ru d (H2.cel c1)
 have e0:clL c v=(clC c).map .c++[v.1,v.2]:=rfl
 refine⟨h2,?_,c1.trans c2⟩
 rw[e0,mapH_append_c (d+1)]
 rw[mapH_cons,e1,bnd_some,mapH_cons,e2,bnd_some,mapH_nil,bnd_some,bnd_some,bnd_some]
 rfl
theorem frzD_row (d:Nat):∀ (l:List (CCl × (LV × LV))) (h:Heap),(∀ x ∈ l,TrW h x.1.tries x.2.1∧RuW h x.1.runs x.2.2)→∃ h',mapH (frz (d+2)) (rowL l) h=some (l.flatMap fun x=>clX x.1,h')∧Cel h h'
 | [],h,_=>⟨h,by simp[rowL],Cel.refl h⟩
 | a::l,h,H=>by
  obtain⟨t1,t2⟩:=H a (by simp)
  obtain⟨h1,e1,c1⟩:=frzD_cl d t1 t2
  obtain⟨h2,e2,c2⟩:=frzD_row d l h1 fun x hx=>⟨(H x (by simp[hx])).1.cel c1,(H x (by simp[hx])).2.cel c1⟩
  have e:rowL (a::l)=clL a.1 a.2++rowL l:=rfl
  refine⟨h2,?_,c1.trans c2⟩
  rw[e,mapH_app,e1,bnd_some,e2,bnd_some,List.flatMap_cons]
theorem chunk_row:∀ (l:List (CCl × (LV × LV))),chunk (some 11) l.length (l.flatMap fun x=>clX x.1)=some (l.map fun x=>clE x.1)
 | []=>rfl
 | a::l=>by
  have ih:=chunk_row l
  have e1:(clX a.1++l.flatMap fun x=>clX x.1).take 11=clX a.1:=List.take_left' rfl
  have e2:(clX a.1++l.flatMap fun x=>clX x.1).drop 11=l.flatMap fun x=>clX x.1:=List.drop_left' rfl
  rw[List.flatMap_cons,List.length_cons,List.map_cons]
  simp only[chunk,ofCellsC,szOf,e1,e2,ih]
  rw[if_pos (by rw[List.length_append]; show 11≤11+_; omega)]
  rfl
theorem frzD_rows (d:Nat) {h:Heap} {l:List (CCl × (LV × LV))} {b g fz:Nat} {cp:Option Nat} (hb:h[b]? = some (.cells g (rowL l) fz)) (H:∀ x ∈ l,TrW h x.1.tries x.2.1∧RuW h x.1.runs x.2.2):∃ h',frz (d+3) (.slice b g 0 l.length (some 11) cp) h=some (.slice (l.map fun x=>clE x.1),h')∧Cel h h':=by
 have hc:Cel h (LM.bump b (l.length*11) h):=fun g cs i fz e=>bump_get e
 obtain⟨h1,e1,c1⟩:=frzD_row d l (LM.bump b (l.length*11) h) fun x hx=>⟨(H x hx).1.cel hc,(H x hx).2.cel hc⟩
 refine⟨h1,?_,hc.trans c1⟩
 have hl:=rowL_len l
 have hz:szOf (some 11)=11:=rfl
 rw[frz_succ_slice (d+2),hb]
 simp only[hz,Nat.zero_add,List.drop_zero]
 rw[if_pos ⟨trivial,by omega⟩]
 have:(rowL l).take (l.length*11)=rowL l:=by rw[← hl]; exact List.take_length
 rw[this,e1]
 simp only[bnd_some,chunk_row]
end LM.GZ
namespace LM.GZ
open Go LM
variable {P:Nat→Option SFunc} [Has P]
variable {r:CRn} {names:List Str} {s:CSs} {e:CEn} {c:CCl} {v:LV × LV} {vs:List (LV × LV)} {h:Heap} {l:List (CCl × (LV × LV))} {bc gc i bp n:Nat} {t:Int}
theorem PlayH.same {h' : Heap} (H:PlayH r names s vs bp bc gc h) (hs:SameH h.length h h'):PlayH r names s vs bp bc gc h' :=
 ⟨H.p.same hs,H.ne,H.g0,H.gen,H.ap,H.dis⟩
theorem legal_walk (H:PlayH r names s vs bp bc gc h) (hr:RnOK r) (hsz:r.size≤64) (hS:SsOK r n s) (hE:EnOK n e) (hn:n≤160) :
  ∃ h',SameH h.length h h'∧sfn P 197 [.ptr bp 0 0,.c (enE e)] h=some (.c (ci (legalL r s e)),h'):=by
 have hw:e.who<s.cls.length:=by rw[hS.len]; exact hE.1
 have hwv:e.who<vs.length:=by rw[H.p.len]; exact hw
 obtain⟨c,gC⟩ : ∃ c,s.cls[e.who]? = some c:=⟨_,List.getElem?_eq_getElem hw⟩
 obtain⟨v,gV⟩ : ∃ v,vs[e.who]? = some v:=⟨_,List.getElem?_eq_getElem hwv⟩
 have hco:=hS.ok _ (List.mem_of_getElem? gC)
 obtain⟨L1,L2⟩:=cl_lens hco hsz
 have hb:=hco.began
 have ht:=hS.time
 have hlim:=hr.lim
 have hE2:=hE.2
 refine S197 H.p (by have:=hS.len; omega) gC gV ⟨hE2.1,hE2.2.1⟩ (fun hd=>?_) (fun hd hon=>?_) (wrap64 (by omega) (by omega)) (wrap64 (by omega) (by omega)) (by omega)
 ·have ho:=hco.own
  rw[hd] at ho
  exact ho.len
 ·have ho:=hco.own
  rw[hd] at ho
  simp only at ho
  obtain⟨p1,p2,_⟩:=ho.on hon
  exact⟨p1,by rw[ho.len]; exact p2⟩
end LM.GZ
namespace LM.GZ
open Go LM
variable {P:Nat→Option SFunc} [Has P]
variable {r:CRn} {names:List Str} {e:CEn}
@[simp] theorem S126 (b:Bool) (e:Int):fn P 126 [.bool b,ci e]=some (ci (whenE b e)):=by
 rw[u126]; cases b<;>simp[c126,whenE]
theorem L125:∀ (l pre:List Int),(l.length:Int)+pre.length<9223372036854775807→execS P (limS P) c125_l0 ⟨[.c (.slice ((pre++l).map ci)),.c (ci (pre++l).length),.c (ci pre.length)],[]⟩=if firstE l=0 then some (.exit 0,⟨[],[]⟩) else some (.ret,⟨[.c (ci (firstE l))],[]⟩):=by
 intro l
 induction l with
 | nil =>
  intro pre h
  rw[r125_l0]
  simp[c125_l0b,firstE]
 | cons c r ih =>
  intro pre h
  have ih:=ih (pre++[c]) (by simp at h ⊢; omega)
  simp at ih h
  have hw:IntKind.i64.wrap (↑pre.length+1)=↑pre.length+1:=wrap64 (by omega) (by omega)
  have hlt:(pre.length:Int)<pre.length+(r.length+1):=by omega
  rw[r125_l0]
  by_cases hc:c=0
  ·subst hc
   simp[c125_l0b,firstE,hw,hlt,ih]
  ·simp[c125_l0b,firstE,hw,hlt,hc]
@[simp] theorem S125 (l:List Int) (h:l.length<9223372036854775807):fn P 125 [.slice (l.map ci)]=some (ci (firstE l)):=by
 have:=L125 (P:=P) l [] (by simp; omega)
 rw[u125]
 simp at this
 simp[c125,this]
 by_cases hc:firstE l=0<;>simp[hc]
@[simp] theorem S125_1 (a:Int):fn P 125 [.slice [ci a]]=some (ci (firstE [a])):=S125 [a] (by simp)
@[simp] theorem S125_2 (a b:Int):fn P 125 [.slice [ci a,ci b]]=some (ci (firstE [a,b])):=S125 [a,b] (by simp)
@[simp] theorem S125_3 (a b c:Int):fn P 125 [.slice [ci a,ci b,ci c]]=some (ci (firstE [a,b,c])):=S125 [a,b,c] (by simp)
@[simp] theorem S125_4 (a b c d:Int):fn P 125 [.slice [ci a,ci b,ci c,ci d]]=some (ci (firstE [a,b,c,d])):=S125 [a,b,c,d] (by simp)
@[simp] theorem S125_5 (a b c d e:Int):fn P 125 [.slice [ci a,ci b,ci c,ci d,ci e]]=some (ci (firstE [a,b,c,d,e])):=S125 [a,b,c,d,e] (by simp)
@[simp] theorem S125_6 (a b c d e f:Int):fn P 125 [.slice [ci a,ci b,ci c,ci d,ci e,ci f]]=some (ci (firstE [a,b,c,d,e,f])):=S125 [a,b,c,d,e,f] (by simp)
theorem S153 (n a b:Int):fn P 153 [ci n,ci a,ci b]=some (ci (whenE (outside n a b) 3)):=by
 have e199:=S199 (P:=P) n a b
 have e126:=S126 (P:=P) (decide (n<a) || decide (b<n)) 3
 rw[u153]
 simp[c153,e199,e126,outside]
def mostN:CDc→Int
 | .lead=>64
 | .boulder=>8
 | .speed=>8
theorem S191 (d:CDc):fn P 191 [.str (dcS d)]=some (ci (mostN d)):=by
 rw[u191]
 have f0:findK (.one 1) (.str [108,101,97,100]) []=some none:=rfl
 have f1:findK (.one 1) (.str [98,111,117,108,100,101,114]) [.str [108,101,97,100]]=some none:=rfl
 have f2:findK (.one 1) (.str [115,112,101,101,100]) [.str [108,101,97,100],.str [98,111,117,108,100,101,114]]=some none:=rfl
 have g0:findK (.one 1) (.str [108,101,97,100]) [.str [108,101,97,100],.str [98,111,117,108,100,101,114],.str [115,112,101,101,100]]=some (some 0):=rfl
 have g1:findK (.one 1) (.str [98,111,117,108,100,101,114]) [.str [108,101,97,100],.str [98,111,117,108,100,101,114],.str [115,112,101,101,100]]=some (some 1):=rfl
 have g2:findK (.one 1) (.str [115,112,101,101,100]) [.str [108,101,97,100],.str [98,111,117,108,100,101,114],.str [115,112,101,101,100]]=some (some 2):=rfl
 cases d<;>simp[c191,keyS,f0,f1,f2,g0,g1,g2,dcS,mostN]
structure NmOK (names:List Str):Prop where
 pos:0<names.length
 most:names.length≤160
 name:∀ s ∈ names,isName s=true∧s.length<9223372036854775807
 once:names.Pairwise (·≠·)
structure RnV (r:CRn):Prop where
 size:1≤r.size∧(r.size:Int)≤mostN r.dc
 lim:1≤r.limit∧r.limit≤86399999
theorem RnV.ok (h:RnV r):RnOK r:=⟨h.size.1,h.lim⟩
theorem RnV.sz (h:RnV r):r.size≤64:=by
 have:=h.size.2
 cases hd:r.dc<;>rw[hd] at this<;>simp only[mostN] at this<;>omega
theorem L148 (hn:NmOK names) (dc:CV) (sz li:CV):∀ (l pre:List Str),names=pre++l →
  execS P (limS P) c148_l0 ⟨[.ptr 0 0 0,.c (.slice (names.map CV.str)),.c (ci names.length),.c (ci pre.length)],[.cells 0 [.c dc,.c (.slice (names.map CV.str)),.c sz,.c li] 0,.dead]⟩=some (.exit 0,⟨[.ptr 0 0 0],[.cells 0 [.c dc,.c (.slice (names.map CV.str)),.c sz,.c li] 0,.dead]⟩):=by
 intro l
 induction l with
 | nil =>
  intro pre h
  have h:names=pre:=by simpa using h
  subst h
  rw[r148_l0]
  simp[c148_l0b]
 | cons c r ih =>
  intro pre h
  have ih:=ih (pre++[c]) (by simp[h])
  have gx:names[pre.length]? = some c:=by rw[h]; simp
  obtain⟨hpl,gx'⟩:=List.getElem?_eq_some_iff.1 gx
  have hcm:c ∈ names:=List.mem_of_getElem? gx
  have hmo:=hn.most
  have hw:IntKind.i64.wrap (↑pre.length+1)=↑pre.length+1:=wrap64 (by omega) (by omega)
  have hlt:(pre.length:Int)<names.length:=by omega
  have hle:(pre.length:Int)≤names.length:=by omega
  have e85:=S85 (P:=P) c (hn.name c hcm).2
  rw[(hn.name c hcm).1] at e85
  have htk:(names.map CV.str).take pre.length=pre.map CV.str:=by rw[h]; simp
  have e86:=S86 (P:=P) c pre (by omega)
  have hno:pre.any (Str.is c)=false:=by
   rw[List.any_eq_false]
   intro x hx
   have:=hn.once
   rw[h] at this
   have hne:=(List.pairwise_append.1 this).2.2 x hx c (by simp)
   intro e
   rw[Str.is_eq] at e
   exact hne (of_decide_eq_true e)
  rw[hno] at e86
  rw[r148_l0]
  simp at ih
  simp[c148_l0b,hlt,hle,gx,gx',hpl,e85,htk,e86,hw]
  have hz:szFits 1 (names.map CV.str)=true:=by cases names<;>rfl
  have hf:firstE [whenE false 8,whenE false 9]=0:=rfl
  rw[if_pos hf]
  exact⟨hz,ih⟩
theorem dcS_most (d:CDc):mostN d≠0:=by cases d<;>decide
theorem S148 (hn:NmOK names) (hr:RnV r):fn P 148 [rnE r names]=some (ci 0):=by
 have hL:=L148 (P:=P) hn (.str (dcS r.dc)) (ci r.size) (ci r.limit) names [] rfl
 simp at hL
 have e191:=S191 (P:=P) r.dc
 have h1:=hn.pos
 have h2:=hn.most
 have h3:=hr.size
 have h4:=hr.lim
 have e1:=S153 (P:=P) r.size 1 (mostN r.dc)
 have e2:=S153 (P:=P) r.limit 1 86399999
 have o1:outside r.size 1 (mostN r.dc)=false:=by simp[outside]; omega
 have o2:outside r.limit 1 86399999=false:=by simp[outside]; omega
 rw[o1] at e1
 rw[o2] at e2
 have hd:=dcS_most r.dc
 have g1:¬ (160:Int)<names.length:=by omega
 have g2:¬ names=[]:=by rintro rfl; simp at h1
 rw[u148]
 generalize mostN r.dc=M at *
 simp[c148,rnE,e191,e1,e2,hL,hd,g1,g2,whenE,firstE]
 trace_state
end LM.GZ
namespace LM.GZ
open Go LM
variable {P:Nat→Option SFunc} [Has P]
variable {r:CRn} {names:List Str} {e:CEn}
def EnV (n:Nat) (e:CEn):Prop:=EnOK n e∧(valued e.kind=false→e.val=0)
theorem S192 (hn:names.length≤160) (he:EnV names.length e):fn P 192 [rnE r names,enE e]=some (ci 0):=by
 have e214:=S214 (P:=P)
 obtain⟨j,j1,j2⟩:=find_kd e.kind
 obtain⟨D1,D3,hD⟩ : ∃ D1 D3,kdC e.kind=.agg [.slice D1,.bool (valued e.kind),.func D3 [] []]:=⟨_,_,rfl⟩
 rw[hD] at j2
 clear hD
 simp only[kdMap] at e214
 generalize kdAll.map (fun k=>CV.str (kdS k))=KS at *
 generalize kdAll.map kdC=VS at *
 obtain⟨⟨q1,q2,q3,q4,q5⟩,qv⟩:=he
 have hwr:IntKind.i64.wrap ((names.length:Int)-1)=(names.length:Int)-1:=wrap64 (by omega) (by omega)
 have o1:outside e.who 0 ((names.length:Int)-1)=false:=by simp[outside]; omega
 have o2:outside e.val 0 86399999=false:=by simp[outside]; omega
 have o3:outside e.time 0 86399999=false:=by simp[outside]; omega
 have e199:=S199 (P:=P) e.who 0 ((names.length:Int)-1)
 have e1:=S153 (P:=P) e.val 0 86399999
 have e2:=S153 (P:=P) e.time 0 86399999
 unfold outside at o1
 rw[o1] at e199
 rw[o2] at e1
 rw[o3] at e2
 rw[u192]
 cases hv:valued e.kind
 ·have h0:=qv hv
  rw[hv] at j2
  rw[h0] at e1
  have j2':=(List.getElem?_eq_some_iff.1 j2).2
  have j2l:=(List.getElem?_eq_some_iff.1 j2).1
  simp[c192,rnE,enE,e214,keyS,j1,j2,j2',j2l,hwr,e199,e1,e2,h0,whenE,firstE]
 ·rw[hv] at j2
  have j2':=(List.getElem?_eq_some_iff.1 j2).2
  have j2l:=(List.getElem?_eq_some_iff.1 j2).1
  simp[c192,rnE,enE,e214,keyS,j1,j2,j2',j2l,hwr,e199,e1,e2,whenE,firstE]
def rnC (r:CRn) (names:List Str):LB:=.cells 0 [.c (.str (dcS r.dc)),.c (.slice (names.map CV.str)),.c (ci r.size),.c (ci r.limit)] 0
theorem L149 (hn:names.length≤160):∀ (l pre:List CEn),(∀ e ∈ l,EnV names.length e)→((pre++l).length:Int)<1000 →
  execS P (limS P) c149_l0 ⟨[.ptr 0 0 0,.c (.slice ((pre++l).map enE)),.c (ci (pre++l).length),.c (ci pre.length)],[rnC r names]⟩=some (.exit 0,⟨[],[rnC r names]⟩):=by
 intro l
 induction l with
 | nil =>
  intro pre _ h
  rw[r149_l0]
  simp[c149_l0b]
 | cons e l ih =>
  intro pre hE h
  have ih:=ih (pre++[e]) (fun x hx=>hE x (by simp[hx])) (by simpa using h)
  have e192:=S192 (P:=P) (r:=r) hn (hE e (by simp))
  simp[enE] at ih h
  have hw:IntKind.i64.wrap (↑pre.length+1)=↑pre.length+1:=wrap64 (by omega) (by omega)
  have hlt:(pre.length:Int)<pre.length+(l.length+1):=by omega
  rw[r149_l0]
  simp only[rnE,enE] at e192
  simp only[rnC] at ih ⊢
  simp[c149_l0b,hw,hlt,enE,e192,ih]
theorem S149 (hn:names.length≤160) (l:List CEn) (hE:∀ e ∈ l,EnV names.length e) (hl:l.length≤256):fn P 149 [rnE r names,.slice (l.map enE)]=some (ci 0):=by
 have hL:=L149 (P:=P) (r:=r) hn l [] hE (by simp; omega)
 simp only[rnC] at hL
 simp at hL
 have g1:¬ (256:Int)<l.length:=by omega
 rw[u149]
 simp[c149,rnE,g1,hL]
theorem S80 (hn:NmOK names) (hr:RnV r) (l:List CEn) (hE:∀ e ∈ l,EnV names.length e) (hl:l.length≤256):fn P 80 [rnE r names,.slice (l.map enE)]=some (ci 0):=by
 have e1:=S148 (P:=P) hn hr
 have e2:=S149 (P:=P) (r:=r) hn.most l hE hl
 rw[u80]
 simp only[rnE] at *
 simp[c80,e1,e2]
end LM.GZ
namespace LM.GZ
open Go LM
variable {P:Nat→Option SFunc} [Has P]
variable {r:CRn} {names:List Str} {e:CEn} {c:CCl} {t:Int}
def farT (n:Int):Bool:=outside n 0 86399999
theorem S240 (n:Int):fn P 240 [ci n]=some (.bool (farT n)):=by
 have:=S199 (P:=P) n 0 86399999
 rw[u240]
 simp[c240,this,farT,outside]
theorem L210t:∀ (l pre:List Int),((pre++l).length:Int)<9223372036854775807 →
  ∃ k:Nat,execS P (limS P) c210_l0 ⟨[.c (.slice ((pre++l).map ci)),.c (.func 240 [] []),.c (ci (pre++l).length),.c (ci pre.length)],[]⟩=if l.any farT then some (.ret,⟨[.c (ci k)],[]⟩) else some (.exit 0,⟨[],[]⟩):=by
 intro l
 induction l with
 | nil =>
  intro pre h
  refine⟨0,?_⟩
  rw[r210_l0]
  simp[c210_l0b]
 | cons x r ih =>
  intro pre h
  obtain⟨k,ih⟩:=ih (pre++[x]) (by simpa using h)
  have es:=S240 (P:=P) x
  simp[-List.any_eq_true] at ih h
  have hw:IntKind.i64.wrap (↑pre.length+1)=↑pre.length+1:=wrap64 (by omega) (by omega)
  have hlt:(pre.length:Int)<pre.length+(r.length+1):=by omega
  cases h0:farT x
  ·refine⟨k,?_⟩
   rw[h0] at es
   rw[r210_l0]
   simp[c210_l0b,hw,hlt,es,h0,ih,-List.any_eq_true]
  ·refine⟨pre.length,?_⟩
   rw[h0] at es
   rw[r210_l0]
   simp[c210_l0b,hw,hlt,es,h0,-List.any_eq_true]
theorem S184t (l:List Int) (h:(l.length:Int)<9223372036854775807):fn P 184 [.slice (l.map ci),.func 240 [] []]=some (.bool (l.any farT)):=by
 obtain⟨k,hl⟩:=L210t (P:=P) l [] (by simpa using h)
 simp[-List.any_eq_true] at hl
 have e170:fn P 210 [.slice (l.map ci),.func 240 [] []]=some (ci (if l.any farT then (k:Int) else -1)):=by
  rw[u210]
  cases h0:l.any farT<;>rw[h0] at hl<;>simp[c210,hl]
 rw[u184]
 cases h0:l.any farT<;>rw[h0] at e170<;>simp[c184,e170]
def placesN (r:CRn):Int:=match r.dc with
 | .lead=>0
 | .boulder=>r.size
 | .speed=>2
def holdsN (r:CRn):Int:=match r.dc with
 | .lead=>r.size
 | .boulder=>0
 | .speed=>0
theorem S238:fn P 238 [rnE r names]=some (ci (placesN r)):=by
 rw[u238]
 have f1:findK (.one 1) (.str [98,111,117,108,100,101,114]) []=some none:=rfl
 have f2:findK (.one 1) (.str [115,112,101,101,100]) [.str [98,111,117,108,100,101,114]]=some none:=rfl
 have g0:findK (.one 1) (.str [108,101,97,100]) [.str [98,111,117,108,100,101,114],.str [115,112,101,101,100]]=some none:=rfl
 have g1:findK (.one 1) (.str [98,111,117,108,100,101,114]) [.str [98,111,117,108,100,101,114],.str [115,112,101,101,100]]=some (some 0):=rfl
 have g2:findK (.one 1) (.str [115,112,101,101,100]) [.str [98,111,117,108,100,101,114],.str [115,112,101,101,100]]=some (some 1):=rfl
 unfold placesN
 cases hd:r.dc<;>simp[c238,keyS,rnE,hd,dcS,f1,f2,g0,g1,g2]
theorem S239:fn P 239 [rnE r names]=some (ci (holdsN r)):=by
 rw[u239]
 have f1:findK (.one 1) (.str [108,101,97,100]) []=some none:=rfl
 have g0:findK (.one 1) (.str [108,101,97,100]) [.str [108,101,97,100]]=some (some 0):=rfl
 have g1:findK (.one 1) (.str [98,111,117,108,100,101,114]) [.str [108,101,97,100]]=some none:=rfl
 have g2:findK (.one 1) (.str [115,112,101,101,100]) [.str [108,101,97,100]]=some none:=rfl
 unfold holdsN
 cases hd:r.dc<;>simp[c239,keyS,rnE,hd,dcS,f1,g0,g1,g2]
theorem tr_out {T:CTr} (h:trOK T):outside T.att 0 99=false∧outside T.zone 0 T.att=false∧outside T.top 0 T.att=false:=by
 obtain⟨h1,h2,h3,h4,h5,h6,_⟩:=h
 refine⟨?_,?_,?_⟩<;>simp[outside]<;>omega
theorem L241:∀ (l pre:List CTr),(∀ x ∈ l,trOK x)→((pre++l).length:Int)<1000 →
  execS P (limS P) c241_l0 ⟨[.c (.slice ((pre++l).map trE)),.c (ci (pre++l).length),.c (ci pre.length)],[]⟩=some (.exit 0,⟨[],[]⟩):=by
 intro l
 induction l with
 | nil =>
  intro pre _ h
  rw[r241_l0]
  simp[c241_l0b]
 | cons T l ih =>
  intro pre hE h
  have ih:=ih (pre++[T]) (fun x hx=>hE x (by simp[hx])) (by simpa using h)
  have hT:=hE T (by simp)
  obtain⟨o1,o2,o3⟩:=tr_out hT
  have e1:=S199 (P:=P) T.att 0 99
  have e2:=S199 (P:=P) T.zone 0 T.att
  have e3:=S199 (P:=P) T.top 0 T.att
  unfold outside at o1 o2 o3
  rw[o1] at e1
  rw[o2] at e2
  rw[o3] at e3
  simp[trE] at ih h
  have hw:IntKind.i64.wrap (↑pre.length+1)=↑pre.length+1:=wrap64 (by omega) (by omega)
  have hlt:(pre.length:Int)<pre.length+(l.length+1):=by omega
  obtain⟨k1,k2,k3,k4,k5,k6,k7,k8⟩:=hT
  rw[r241_l0]
  by_cases q1:0<T.top
  ·obtain⟨m1,m2⟩:=k7 q1
   have m2' : ¬ T.top<T.zone:=by omega
   have q2:0<T.att:=by omega
   have m3:=k8 q2
   rw[m3] at ih
   simp[c241_l0b,hw,hlt,trE,e1,e2,e3,q1,m1,m2',q2,m3,whenE,firstE,ih]
  ·by_cases q2:0<T.att
   ·have m3:=k8 q2
    rw[m3] at ih
    simp[c241_l0b,hw,hlt,trE,e1,e2,e3,q1,q2,m3,whenE,firstE,ih]
   ·simp[c241_l0b,hw,hlt,trE,e1,e2,e3,q1,q2,whenE,firstE,ih]
theorem S241 (l:List CTr) (hE:∀ x ∈ l,trOK x) (hl:l.length<1000):fn P 241 [.slice (l.map trE)]=some (ci 0):=by
 have hL:=L241 (P:=P) l [] hE (by simp; omega)
 simp at hL
 rw[u241]
 simp[c241,hL]
end LM.GZ
namespace LM.GZ
open Go LM
variable {P:Nat→Option SFunc} [Has P]
variable {r:CRn} {names:List Str} {e:CEn} {c:CCl} {t:Int}
structure FormOK (r:CRn) (c:CCl):Prop where
 place:0≤c.place∧c.place≤placesN r
 hold:0≤c.hold∧c.hold≤holdsN r
 tries:c.tries.length=if r.dc=.boulder then r.size else 0
 runs:c.runs.length≤if r.dc=.speed then r.size else 0
 trs:∀ x ∈ c.tries,trOK x
 rns:∀ n ∈ c.runs,0≤n∧n≤86399999
 lead:r.dc≠.lead→c.used=0∧c.plus=false∧c.top=false
 op:r.dc≠.boulder→c.op=false
theorem ClOK.form (h:ClOK r t c):FormOK r c:=by
 have ho:=h.own
 cases hd:r.dc<;>rw[hd] at ho<;>simp only at ho
 ·exact⟨by rw[ho.place]; simp[placesN,hd],by simpa[holdsN,hd] using ho.hold,by simp[ho.tries,hd],by simp[ho.runs],by simp[ho.tries],by simp[ho.runs],fun q=>(q hd).elim,fun _=>ho.op⟩
 ·refine⟨?_,by simp[ho.hold,holdsN,hd],by simp[ho.len,hd],by simp[ho.runs],ho.ok,by simp[ho.runs],fun _=>⟨ho.used,ho.plus,ho.top⟩,fun q=>(q hd).elim⟩
  by_cases hp:c.ph=.on
  ·obtain⟨p1,p2,_⟩:=ho.on hp
   simp[placesN,hd]
   omega
  ·rw[(ho.off hp).1]
   simp[placesN,hd]
 ·refine⟨?_,by simp[ho.hold,holdsN,hd],by simp[ho.tries,hd],by simpa[hd] using ho.len,by simp[ho.tries],ho.runs,fun _=>⟨ho.used,ho.plus,ho.top⟩,fun _=>ho.op⟩
  by_cases hp:c.ph=.on
  ·rcases ho.on hp with e | e<;>rw[e]<;>simp[placesN,hd]
  ·rw[ho.off hp]
   simp[placesN,hd]
theorem e86_ph (p:CPh):fn P 86 [.slice [.str [119,97,105,116,105,110,103],.str [111,110],.str [100,111,110,101]],.str (phS p)]=some (.bool true):=by
 have:=S86 (P:=P) (phS p) [[119,97,105,116,105,110,103],[111,110],[100,111,110,101]] (by simp)
 simp only[List.map_cons,List.map_nil] at this
 rw[this]
 cases p<;>rfl
theorem e86_st (p:CSt):fn P 86 [.slice [.str [],.str [100,110,115],.str [100,110,102],.str [100,115,113]],.str (stS p)]=some (.bool true):=by
 have:=S86 (P:=P) (stS p) [[],[100,110,115],[100,110,102],[100,115,113]] (by simp)
 simp only[List.map_cons,List.map_nil] at this
 rw[this]
 cases p<;>rfl
theorem S125_7 (a b c d e f g:Int):fn P 125 [.slice [ci a,ci b,ci c,ci d,ci e,ci f,ci g]]=some (ci (firstE [a,b,c,d,e,f,g])):=S125 [a,b,c,d,e,f,g] (by simp)
theorem S200 (hr:RnV r) (h:ClOK r t c) (ht:t≤86399999):fn P 200 [rnE r names,ci t,clE c]=some (ci 0):=by
 have F:=h.form
 have hsz:=hr.sz
 have f1:=e86_ph (P:=P) c.ph
 have f2:=e86_st (P:=P) c.st
 have g1:=S199 (P:=P) c.began 0 t
 have g2:=S199 (P:=P) c.used 0 r.limit
 have g3:=S199 (P:=P) c.place 0 (placesN r)
 have g4:=S199 (P:=P) c.hold 0 (holdsN r)
 have q1:=h.began
 have q2:=h.used
 have q3:=F.place
 have q4:=F.hold
 rw[show (decide (c.began<0) || decide (t<c.began))=false by simp; omega] at g1
 rw[show (decide (c.used<0) || decide (r.limit<c.used))=false by simp; omega] at g2
 rw[show (decide (c.place<0) || decide (placesN r<c.place))=false by simp; omega] at g3
 rw[show (decide (c.hold<0) || decide (holdsN r<c.hold))=false by simp; omega] at g4
 have g5:=S238 (P:=P) (r:=r) (names:=names)
 have g6:=S239 (P:=P) (r:=r) (names:=names)
 have hl1:c.tries.length<1000:=by rw[F.tries]; split<;>omega
 have hl2:(c.runs.length:Int)<1000:=by have:=F.runs; split at this<;>omega
 have g7:=S241 (P:=P) c.tries F.trs hl1
 have g8:=S184t (P:=P) c.runs (by omega)
 have hany:c.runs.any farT=false:=by
  rw[List.any_eq_false]
  intro x hx
  have:=F.rns x hx
  simp[farT,outside]
  omega
 rw[hany] at g8
 have hst:c.ph≠.done→stS c.st=[]:=fun q=>by rw[h.st q]; rfl
 have hpd:phS c.ph=[100,111,110,101]↔c.ph=.done:=by cases c.ph<;>simp[phS]
 have n1:findK (.one 1) (.str [108,101,97,100]) []=some none:=rfl
 have n2:findK (.one 1) (.str [98,111,117,108,100,101,114]) []=some none:=rfl
 have n3:findK (.one 1) (.str [115,112,101,101,100]) []=some none:=rfl
 have m11:findK (.one 1) (.str [98,111,117,108,100,101,114]) [.str [108,101,97,100]]=some none:=rfl
 have m12:findK (.one 1) (.str [115,112,101,101,100]) [.str [108,101,97,100]]=some none:=rfl
 have m21:findK (.one 1) (.str [98,111,117,108,100,101,114]) [.str [98,111,117,108,100,101,114]]=some (some 0):=rfl
 have m22:findK (.one 1) (.str [115,112,101,101,100]) [.str [98,111,117,108,100,101,114]]=some none:=rfl
 have m31:findK (.one 1) (.str [98,111,117,108,100,101,114]) [.str [115,112,101,101,100]]=some none:=rfl
 have m32:findK (.one 1) (.str [115,112,101,101,100]) [.str [115,112,101,101,100]]=some (some 0):=rfl
 have e7:=S125_7 (P:=P)
 have t1:=F.tries
 have t2:=F.runs
 have t3:=F.lead
 have t4:=F.op
 have hcl:clE c=.agg [.str (phS c.ph),.str (stS c.st),ci c.place,ci c.began,ci c.used,ci c.hold,.bool c.plus,.bool c.top,.bool c.op,.slice (c.tries.map trE),.slice (c.runs.map ci)]:=rfl
 rw[u200,hcl]
 simp only[rnE] at *
 generalize placesN r=PN at *
 generalize holdsN r=HN at *
 generalize phS c.ph=ph at *
 generalize stS c.st=st at *
 cases hd:r.dc<;>rw[hd] at g5 g6 t1 t2<;>simp only[dcS] at *
 ·simp at t1 t2
  have t4:=t4 (by rw[hd]; decide)
  rw[t1] at g7
  rw[t2] at g8
  simp at g7 g8
  by_cases hp:c.ph=.done
  ·have hp':=hpd.2 hp
   subst hp'
   simp[c200,keyS,dcS,hd,f1,f2,g1,g2,g3,g4,g5,g6,g7,g8,t1,t2,t4,n1,n2,n3,m11,m12,m21,m22,m31,m32,e7,whenE,firstE]
  ·have hp' : ¬ ph=[100,111,110,101]:=fun q=>hp (hpd.1 q)
   have hst:=hst hp
   subst hst
   simp[c200,keyS,dcS,hd,f1,f2,g1,g2,g3,g4,g5,g6,g7,g8,t1,t2,t4,n1,n2,n3,m11,m12,m21,m22,m31,m32,hp',e7,whenE,firstE]
 ·simp at t1 t2
  obtain⟨w1,w2,w3⟩:=t3 (by rw[hd]; decide)
  rw[t2] at g8
  rw[w1] at g2
  simp at g8 g2
  by_cases hp:c.ph=.done
  ·have hp':=hpd.2 hp
   subst hp'
   simp[c200,keyS,dcS,hd,f1,f2,g1,g2,g3,g4,g5,g6,g7,g8,t1,t2,w1,w2,w3,n1,n2,n3,m11,m12,m21,m22,m31,m32,e7,whenE,firstE]
  ·have hp' : ¬ ph=[100,111,110,101]:=fun q=>hp (hpd.1 q)
   have hst:=hst hp
   subst hst
   simp[c200,keyS,dcS,hd,f1,f2,g1,g2,g3,g4,g5,g6,g7,g8,t1,t2,w1,w2,w3,n1,n2,n3,m11,m12,m21,m22,m31,m32,hp',e7,whenE,firstE]
 ·simp at t1 t2
  obtain⟨w1,w2,w3⟩:=t3 (by rw[hd]; decide)
  have t4:=t4 (by rw[hd]; decide)
  rw[t1] at g7
  rw[w1] at g2
  simp at g7 g2
  have t2' : ¬ ((r.size:Int)<c.runs.length):=by omega
  by_cases hp:c.ph=.done
  ·have hp':=hpd.2 hp
   subst hp'
   simp[c200,keyS,dcS,hd,f1,f2,g1,g2,g3,g4,g5,g6,g7,g8,t1,t2,t4,t2',w1,w2,w3,n1,n2,n3,m11,m12,m21,m22,m31,m32,e7,whenE,firstE]
  ·have hp' : ¬ ph=[100,111,110,101]:=fun q=>hp (hpd.1 q)
   have hst:=hst hp
   subst hst
   simp[c200,keyS,dcS,hd,f1,f2,g1,g2,g3,g4,g5,g6,g7,g8,t1,t2,t4,t2',w1,w2,w3,n1,n2,n3,m11,m12,m21,m22,m31,m32,hp',e7,whenE,firstE]
end LM.GZ
namespace LM.GZ
open Go LM
variable {P:Nat→Option SFunc} [Has P]
variable {r:CRn} {names:List Str} {e:CEn} {c:CCl} {t:Int}
theorem S156 (hr:RnV r) (h:ClOK r t c) (ht:t≤86399999):fn P 156 [rnE r names,ci t,clE c]=some (ci 0):=by
 have F:=h.form
 have hsz:=hr.sz
 have e200:=S200 (P:=P) (names:=names) hr h ht
 have hl1:c.tries.length<1000:=by rw[F.tries]; split<;>omega
 have hl2:(c.runs.length:Int)<1000:=by have:=F.runs; split at this<;>omega
 have e177:=S177 (P:=P) c.runs (by omega)
 have hcl:clE c=.agg [.str (phS c.ph),.str (stS c.st),ci c.place,ci c.began,ci c.used,ci c.hold,.bool c.plus,.bool c.top,.bool c.op,.slice (c.tries.map trE),.slice (c.runs.map ci)]:=rfl
 have ho:=h.own
 rw[hcl] at e200 ⊢
 rw[u156]
 simp only[rnE] at *
 by_cases hp:c.ph=.on
 ·have hpo:=hp
  simp only[hp,phS] at e200 ⊢
  cases hd:r.dc<;>rw[hd] at ho<;>simp only[hd,dcS] at e200 ho ⊢
  ·simp[c156,e200]
  ·obtain⟨p1,p2,p3,p4⟩:=ho.on hpo
   have hpl:=ho.len
   have n0:¬ c.place=0:=by omega
   have hw:IntKind.i64.wrap (c.place-1)=c.place-1:=wrap64 (by omega) (by omega)
   have n3:0≤c.place-1:=by omega
   have n4:c.place-1<c.tries.length:=by omega
   have gt:c.tries[(c.place-1).toNat]? = some (trAt c c.place):=by
    unfold trAt
    rw[List.getD_eq_getElem?_getD,List.getElem?_eq_getElem (by omega)]
    rfl
   have et:(c.place-1).toNat=c.place.toNat-1:=by omega
   rw[et] at gt
   obtain⟨_,gt'⟩:=List.getElem?_eq_some_iff.1 gt
   have n5:c.place.toNat-1<c.tries.length:=by omega
   generalize trAt c c.place=T at *
   cases hop:c.op
   ·simp only[hop] at e200 ⊢
    simp[c156,e200,hop,n0,hw,n3,n4,gt,gt',p1,p3,trE,whenE]
   ·obtain⟨k1,k2⟩:=p4 hop
    have k3:¬ T.att=0:=by omega
    simp only[hop] at e200 ⊢
    simp[c156,e200,hop,n0,hw,n3,n4,gt,gt',p1,p3,k2,k3,trE,whenE]
  ·have p1:=ho.on hpo
   have hpl:=ho.yet (by rw[hpo]; decide)
   have n0:¬ c.place=0:=by omega
   have n1:¬ (r.size:Int)≤c.runs.length:=by omega
   simp[c156,e200,n0,n1,whenE]
 ·have z:c.place=0∧c.op=false:=by
   cases hd:r.dc<;>rw[hd] at ho<;>simp only at ho
   ·exact⟨ho.place,ho.op⟩
   ·exact ho.off hp
   ·exact⟨ho.off hp,ho.op⟩
  obtain⟨z1,z2⟩:=z
  have y1:r.dc=.speed→c.ph=.waiting→¬ (r.size:Int)≤c.runs.length:=fun hd hw=>by
   rw[hd] at ho
   simp only at ho
   have:=ho.yet (by rw[hw]; decide)
   omega
  have y2:r.dc=.speed→c.ph=.done→c.st=.fine→¬ bestL c.runs=0:=fun hd hw hs=>by
   rw[hd] at ho
   simp only at ho
   exact ho.best hw hs
  have hsf:stS c.st=[]↔c.st=.fine:=by cases c.st<;>simp[stS]
  simp only[z1,z2] at e200 ⊢
  generalize bestL c.runs=B at *
  cases hq:c.ph<;>simp only[hq,phS] at e200 y1 y2 ⊢
  ·by_cases hd:r.dc=.speed
   ·have y1:=y1 hd trivial
    simp only[hd,dcS] at e200 ⊢
    simp[c156,e200,y1,whenE]
   ·have hd2:¬ dcS r.dc=[115,112,101,101,100]:=by cases h' : r.dc<;>simp[dcS,h'] at hd ⊢
    by_cases hz:(r.size:Int)≤c.runs.length<;>simp[c156,e200,hz,hd2,whenE]
  ·exact (hp hq).elim
  ·by_cases hf:c.st=.fine
   ·simp only[hf,stS] at e200 ⊢
    by_cases hd:r.dc=.speed
    ·have y2:=y2 hd trivial hf
     simp only[hd,dcS] at e200 ⊢
     simp[c156,e200,e177,y2,whenE]
    ·have hd2:¬ dcS r.dc=[115,112,101,101,100]:=by cases h' : r.dc<;>simp[dcS,h'] at hd ⊢
     by_cases hz:B=0<;>simp[c156,e200,e177,hz,hd2,whenE]
   ·have hf2:¬ stS c.st=[]:=fun q=>hf (hsf.1 q)
    simp[c156,e200,hf2,whenE]
end LM.GZ
namespace LM.GZ
open Go LM
variable {P:Nat→Option SFunc} [Has P]
variable {r:CRn} {names:List Str} {e:CEn} {c:CCl} {t:Int} {s:CSs} {n:Nat}
def PredC (P:Nat→Option SFunc) (f:Nat) (B:List CV) (p:CCl→Bool):Prop :=
 ∀ (pos:Option Nat) (q:Bool) (x:CCl) (h:Heap),callS P (limS P) pos q f (.c (clE x)::B.map .c) h=some (.c (.bool (p x)),h)
def clV (c:CCl):List CV:=[.str (phS c.ph),.str (stS c.st),ci c.place,ci c.began,ci c.used,ci c.hold,.bool c.plus,.bool c.top,.bool c.op,.slice (c.tries.map trE),.slice (c.runs.map ci)]
theorem clE_eq (c:CCl):clE c=.agg (clV c):=rfl
theorem L176 {f:Nat} {B:List CV} {p:CCl→Bool} (hp:PredC P f B p):∀ (l pre:List CCl),((pre++l).length:Int)<1000 →
  ∃ i:Nat,execS P (limS P) c176_l0 ⟨[.c (.slice ((pre++l).map clE)),.c (.func f [] B),.c (ci (pre++l).length),.c (ci pre.length)],[]⟩=if l.any p then some (.ret,⟨[.c (ci i)],[]⟩) else some (.exit 0,⟨[],[]⟩):=by
 intro l
 induction l with
 | nil =>
  intro pre h
  refine⟨0,?_⟩
  rw[r176_l0]
  simp[c176_l0b]
 | cons x l ih =>
  intro pre h
  obtain⟨i,ih⟩:=ih (pre++[x]) (by simpa using h)
  have hc:=fun pos q h=>hp pos q x h
  simp[clE_eq,-List.any_eq_true,clV] at ih h hc
  have hw:IntKind.i64.wrap (↑pre.length+1)=↑pre.length+1:=wrap64 (by omega) (by omega)
  have hlt:(pre.length:Int)<pre.length+(l.length+1):=by omega
  cases h0:p x
  ·refine⟨i,?_⟩
   simp only[h0] at hc
   rw[r176_l0]
   simp[c176_l0b,hw,hlt,clE_eq,clV,hc,h0,ih,-List.any_eq_true]
  ·refine⟨pre.length,?_⟩
   simp only[h0] at hc
   rw[r176_l0]
   simp[c176_l0b,hw,hlt,clE_eq,clV,hc,h0,-List.any_eq_true]
theorem S123 {f:Nat} {B:List CV} {p:CCl→Bool} (hp:PredC P f B p) (l:List CCl) (hl:l.length<1000):fn P 123 [.slice (l.map clE),.func f [] B]=some (.bool (l.any p)):=by
 obtain⟨i,hL⟩:=L176 (P:=P) hp l [] (by simp; omega)
 simp[-List.any_eq_true] at hL
 have e176:fn P 176 [.slice (l.map clE),.func f [] B]=some (ci (if l.any p then (i:Int) else -1)):=by
  rw[u176]
  cases h0:l.any p<;>rw[h0] at hL<;>simp[c176,hL]
 rw[u123]
 cases h0:l.any p<;>rw[h0] at e176<;>simp[c123,e176]
theorem pred124:PredC P 124 [] (fun c=>decide (c.ph≠.done)):=by
 intro pos q x h
 have hp:phS x.ph=[100,111,110,101]↔x.ph=.done:=by cases x.ph<;>simp[phS]
 have e:fn P 124 [clE x]=some (.bool (decide (x.ph≠.done))):=by
  rw[u124]
  by_cases h:x.ph=.done
  ·simp[c124,clE_eq,clV,h,phS]
  ·have h' : ¬ phS x.ph=[100,111,110,101]:=fun q=>h (hp.1 q)
   simp[c124,clE_eq,clV,h,h']
 simp[e]
theorem pred154 (r:CRn) (names:List Str) (c:CCl):PredC P 154 [.ptr [.str (dcS r.dc),.slice (names.map CV.str),ci r.size,ci r.limit] 0,.ptr (clV c) 0] (fun x=>meetsB r x c.place):=by
 intro pos q x h
 have e155:=S155 (P:=P) (r:=r) (names:=names) (c:=x) c.place
 have e:fn P 154 [clE x,.ptr [.str (dcS r.dc),.slice (names.map CV.str),ci r.size,ci r.limit] 0,.ptr (clV c) 0]=some (.bool (meetsB r x c.place)):=by
  rw[u154]
  simp only[rnE,clE_eq,clV] at *
  simp[c154,e155]
 simp[e]
end LM.GZ
namespace LM.GZ
open Go LM
variable {P:Nat→Option SFunc} [Has P]
variable {r:CRn} {names:List Str} {e:CEn} {c:CCl} {t:Int} {s:CSs} {n:Nat}
def stC (t:Int) (l:List CCl):LB:=.cells 0 [.c (ci t),.c (.slice (l.map clE))] 0
theorem meets_on {x c:CCl} (h:meetsB r x c.place=true):x.ph=.on∧(r.dc=.lead∨x.place=c.place):=by
 simpa[meetsB] using h
theorem L82 (hr:RnV r) (ht:t≤86399999):∀ (l pre:List CCl),(∀ x ∈ l,ClOK r t x)→Apart r (pre++l)→((pre++l).length:Int)<1000 →
  execS P (limS P) c82_l0 ⟨[.ptr 0 0 0,.ptr 1 0 0,.c (.slice ((pre++l).map clE)),.c (ci (pre++l).length),.c (ci pre.length)],[rnC r names,stC t (pre++l),.dead]⟩=some (.exit 0,⟨[],[rnC r names,stC t (pre++l),.dead]⟩):=by
 intro l
 induction l with
 | nil =>
  intro pre _ _ h
  rw[r82_l0]
  simp[c82_l0b]
 | cons x l ih =>
  intro pre hE hA h
  have ih:=ih (pre++[x]) (fun y hy=>hE y (by simp[hy])) (by simpa using hA) (by simpa using h)
  have e156:=S156 (P:=P) (names:=names) hr (hE x (by simp)) ht
  have e123:=S123 (P:=P) (pred154 r names x) pre (by simp at h; omega)
  have hpre:pre.map clE=(pre.map clE):=rfl
  have htk:((pre++x::l).map clE).take pre.length=pre.map clE:=by simp
  have hany:x.ph=.on→pre.any (fun y=>meetsB r y x.place)=false:=fun hx=>by
   rw[List.any_eq_false]
   intro y hy hm
   obtain⟨m1,m2⟩:=meets_on hm
   obtain⟨i,hi⟩:=List.mem_iff_getElem?.1 hy
   have hil:=(List.getElem?_eq_some_iff.1 hi).1
   obtain⟨a1,a2⟩:=hA i pre.length y x hil (by rw[List.getElem?_append_left hil]; exact hi) (by simp) m1 hx
   rcases m2 with m2 | m2
   ·exact a1 m2
   ·exact a2 m2
  simp only[rnE,clE_eq,clV] at e156 e123
  simp[clE_eq,clV,rnC,stC] at ih h htk
  have hw:IntKind.i64.wrap (↑pre.length+1)=↑pre.length+1:=wrap64 (by omega) (by omega)
  have hlt:(pre.length:Int)<pre.length+(l.length+1):=by omega
  have hle:(pre.length:Int)≤pre.length+(l.length+1):=by omega
  rw[r82_l0]
  by_cases hx:x.ph=.on
  ·rw[hany hx] at e123
   have hz:szFits 11 (List.map clE pre++CV.agg [.str [111,110],.str (stS x.st),ci x.place,ci x.began,ci x.used,ci x.hold,.bool x.plus,.bool x.top,.bool x.op,.slice (x.tries.map trE),.slice (x.runs.map ci)]::List.map clE l)=true:=by cases pre<;>rfl
   simp only[hx,phS] at e156 e123 ih htk ⊢
   simp[c82_l0b,rnC,stC,clE_eq,clV,hw,hlt,hle,hx,phS,hz,htk,e156,e123,whenE,firstE]
   exact ih
  ·have hx' : ¬ phS x.ph=[111,110]:=by cases hq:x.ph<;>simp[phS,hq] at hx ⊢
   simp[c82_l0b,rnC,stC,clE_eq,clV,hw,hlt,hle,hx',e156,whenE,firstE]
   exact ih
def ssV (s:CSs):CV:=.agg [ci s.time,.slice (s.cls.map clE)]
theorem S82 (hn:NmOK names) (hr:RnV r) (h:SsOK r names.length s):fn P 82 [rnE r names,ssV s]=some (ci 0):=by
 have e148:=S148 (P:=P) hn hr
 have e153:=S153 (P:=P) s.time 0 86399999
 have ht:=h.time
 have hm:=hn.most
 rw[show outside s.time 0 86399999=false by simp[outside]; omega] at e153
 have hlen:s.cls.length=names.length:=h.len
 have hL:=L82 (P:=P) (names:=names) hr ht.2 s.cls [] h.ok h.apart (by simp; omega)
 simp only[rnC,stC] at hL
 simp at hL
 rw[u82]
 simp only[rnE,ssV] at *
 simp[c82,e148,e153,hlen,whenE,firstE]
 rw[hlen] at hL
 simp[hL]
end LM.GZ
namespace LM.GZ
open Go LM
variable {P:Nat→Option SFunc} [Has P]
theorem RG.alone {l:List Rs} (h:RG l) {x:Rs} (hx:x ∈ l):aloneE x=0:=by
 obtain⟨a,b,c,d,e⟩:=h.one x hx
 unfold aloneE
 rw[a,b,c,d,e]
 rfl
theorem RG.fresh {l:List Rs} (h:RG l) {pre r:List Rs} {x:Rs} (hp:l=pre++x::r):x.who ∉ pre.map (·.who):=by
 intro hm
 obtain⟨y,hy,e⟩:=List.mem_map.1 hm
 have:=h.uniq
 rw[hp] at this
 exact (List.pairwise_append.1 this).2.2 y hy x (by simp) e
theorem RG.count {l:List Rs} (h:RG l) {pre r:List Rs} {x:Rs} (hp:l=pre++x::r) (hs:isS x=true):(x.vals.length:Int)=cntR (pre++[x]):=by
 rw[cntR_snoc]
 by_cases q:cntR pre<0
 ·rw[if_pos ⟨q,hs⟩]
 ·rw[if_neg (fun z=>q z.1)]
  unfold cntR at q ⊢
  cases hf:pre.find? isS with
  | none=>rw[hf] at q; simp at q
  | some y =>
   have h1:=List.find?_some hf
   have h2:=List.mem_of_find?_eq_some hf
   have:=h.like x (by rw[hp]; simp) y (by rw[hp]; simp[h2]) hs h1
   simp[this]
end LM.GZ
namespace LM.GZ
open Go LM
variable {P:Nat→Option SFunc} [Has P]
variable {r:CRn} {names:List Str} {e:CEn} {c:CCl} {t:Int} {s:CSs} {n:Nat}
theorem ciElems (l:List Int):∀ x ∈ l.map ci,Elem none x:=by
 intro x hx
 obtain⟨y,_,rfl⟩:=List.mem_map.1 hx
 exact⟨rfl,rfl⟩
end LM.GZ
namespace LM.GZ
def bouF (o:Int × Int × Int × Int) (t:CTr):Int × Int × Int × Int:=(if 0<t.top then o.1+1 else o.1,if 0<t.zone then o.2.1+1 else o.2.1,o.2.2.1-t.top,o.2.2.2-t.zone)
def bouL (l:List CTr):Int × Int × Int × Int:=l.foldl bouF (0,0,0,0)
def valsL (r:CRn) (c:CCl):List Int :=
 if c.st=.fine then
  match r.dc with
  | .speed=>[-bestL c.runs]
  | .boulder=>[(bouL c.tries).1,(bouL c.tries).2.1,(bouL c.tries).2.2.1,(bouL c.tries).2.2.2]
  | .lead=>if c.top=true then [2*r.size+2,-c.used] else [2*c.hold+(if c.plus=true then 1 else 0),-c.used]
 else []
def resC (r:CRn) (x:Str × CCl):Rs:=⟨x.1,stS x.2.st,valsL r x.2⟩
def resL (r:CRn) (names:List Str) (cs:List CCl):List Rs:=(names.zip cs).map (resC r)
theorem stS_fine (s:CSt):stS s=[]↔s=.fine:=by cases s<;>simp[stS]
theorem resL_len {r:CRn} {names:List Str} {cs:List CCl} (h:names.length=cs.length):(resL r names cs).length=cs.length:=by
 simp[resL,h]
end LM.GZ
namespace LM.GZ
open Go LM
variable {P:Nat→Option SFunc} [Has P]
variable {r:CRn} {names:List Str} {e:CEn} {c:CCl} {t:Int} {s:CSs} {n:Nat}
theorem neg_best (l:List Int) (h:∀ n ∈ l,0≤n∧n≤86399999):0≤bestL l∧bestL l≤86399999:=by
 have key:∀ (l:List Int) (o:Int),0≤o∧o≤86399999→(∀ n ∈ l,0≤n∧n≤86399999)→0≤l.foldl (fun o n=>if 0<n∧(o=0∨n<o) then n else o) o∧l.foldl (fun o n=>if 0<n∧(o=0∨n<o) then n else o) o≤86399999:=by
  intro l
  induction l with
  | nil=>intro o ho _; exact ho
  | cons a l ih =>
   intro o ho h
   refine ih _ ?_ (fun n hn=>h n (by simp[hn]))
   show 0≤(if 0<a∧(o=0∨a<o) then a else o)∧(if 0<a∧(o=0∨a<o) then a else o)≤86399999
   split
   ·exact h a (by simp)
   ·exact ho
 exact key l 0 (by omega) h
theorem resI (X0 X1 X2:LB) (ys:List Int) (cp:Option Nat) (len:Nat) (hl:len=ys.length):resV (some (.slice 3 1 0 len none cp)) [X0,X1,X2,.cells 1 (ys.map fun v=>LV.c (ci v)) 0]=some (.slice (ys.map ci)):=by
 have e:(ys.map fun v=>LV.c (ci v))=cellsOf (ys.map ci):=by rw[cellsOf_ints]; rfl
 rw[e]
 exact resV_own1 (b:=3) (g:=1) (fz:=0) (e:=none) (ys:=ys.map ci) rfl (ciElems _) (by simpa using hl) cp
def bouB (o:Int × Int × Int × Int):LB:=.cells 1 [.c (ci o.1),.c (ci o.2.1),.c (ci o.2.2.1),.c (ci o.2.2.2)] 0
structure BouIn (k:Int) (o:Int × Int × Int × Int):Prop where
 a:0≤o.1∧o.1≤k
 b:0≤o.2.1∧o.2.1≤k
 c : -(99*k)≤o.2.2.1∧o.2.2.1≤0
 d : -(99*k)≤o.2.2.2∧o.2.2.2≤0
theorem BouIn.step {k:Int} {o:Int × Int × Int × Int} (h:BouIn k o) {T:CTr} (hT:trOK T):BouIn (k+1) (bouF o T):=by
 obtain⟨h1,h2,h3,h4⟩:=h
 obtain⟨k1,k2,k3,k4,k5,k6,k7,k8⟩:=hT
 refine⟨?_,?_,?_,?_⟩<;>unfold bouF<;>simp only<;>(try split)<;>omega
def clC0 (c:CCl):LB:=.cells 0 ((clV c).map .c) 0
theorem L127_0 (T:CTr) (hT:trOK T) (o:Int × Int × Int × Int) (hb:BouIn 1000 o) (tr len k:CV) :
  execS P (limS P) c127_l0 ⟨[.slice 3 1 0 4 none (some 4),.c tr,.c len,.c k,.c (.agg [ci T.top,ci T.zone]),.c (ci 0)],[rnC r names,clC0 c,.cells 1 [] 0,bouB o,.cells 0 (trL T) 0]⟩
   = some (.exit 3,⟨[.slice 3 1 0 4 none (some 4),.c tr,.c len,.c k],[rnC r names,clC0 c,.cells 1 [] 0,bouB (bouF o T),.cells 0 (trL T) 0]⟩):=by
 obtain⟨h1,h2,h3,h4⟩:=hb
 obtain⟨k1,k2,k3,k4,k5,k6,k7,k8⟩:=hT
 obtain⟨a,b,d,f⟩:=o
 simp only at h1 h2 h3 h4
 have w1:IntKind.i64.wrap (a+1)=a+1:=wrap64 (by omega) (by omega)
 have w2:IntKind.i64.wrap (b+1)=b+1:=wrap64 (by omega) (by omega)
 have w3:IntKind.i64.wrap (d-T.top)=d-T.top:=wrap64 (by omega) (by omega)
 have w4:IntKind.i64.wrap (f-T.zone)=f-T.zone:=wrap64 (by omega) (by omega)
 have w5:IntKind.i64.wrap 1=1:=rfl
 have w6:IntKind.i64.wrap 2=2:=rfl
 have w7:IntKind.i64.wrap 3=3:=rfl
 rw[r127_l0]
 by_cases q1:0<T.top<;>by_cases q2:0<T.zone
 ·simp[c127_l0b,rnC,clC0,clV,trL,bouB,bouF,w1,w2,w3,w4,w5,w6,w7,q1,q2]
  rw[r127_l0]
  simp[c127_l0b,rnC,clC0,clV,trL,bouB,bouF,w1,w2,w3,w4,w5,w6,w7,q1,q2]
  rw[r127_l0]
  simp[c127_l0b,rnC,clC0,clV,trL,bouB,bouF,w1,w2,w3,w4,w5,w6,w7,q1,q2]
 ·simp[c127_l0b,rnC,clC0,clV,trL,bouB,bouF,w1,w2,w3,w4,w5,w6,w7,q1,q2]
  rw[r127_l0]
  simp[c127_l0b,rnC,clC0,clV,trL,bouB,bouF,w1,w2,w3,w4,w5,w6,w7,q1,q2]
  rw[r127_l0]
  simp[c127_l0b,rnC,clC0,clV,trL,bouB,bouF,w1,w2,w3,w4,w5,w6,w7,q1,q2]
 ·simp[c127_l0b,rnC,clC0,clV,trL,bouB,bouF,w1,w2,w3,w4,w5,w6,w7,q1,q2]
  rw[r127_l0]
  simp[c127_l0b,rnC,clC0,clV,trL,bouB,bouF,w1,w2,w3,w4,w5,w6,w7,q1,q2]
  rw[r127_l0]
  simp[c127_l0b,rnC,clC0,clV,trL,bouB,bouF,w1,w2,w3,w4,w5,w6,w7,q1,q2]
 ·simp[c127_l0b,rnC,clC0,clV,trL,bouB,bouF,w1,w2,w3,w4,w5,w6,w7,q1,q2]
  rw[r127_l0]
  simp[c127_l0b,rnC,clC0,clV,trL,bouB,bouF,w1,w2,w3,w4,w5,w6,w7,q1,q2]
  rw[r127_l0]
  simp[c127_l0b,rnC,clC0,clV,trL,bouB,bouF,w1,w2,w3,w4,w5,w6,w7,q1,q2]
theorem L127_1 (A:List CTr) (hA:A.length≤64) (hok:∀ x ∈ A,trOK x):∀ (l pre:List CTr) (o:Int × Int × Int × Int),A=pre++l→BouIn pre.length o →
  execS P (limS P) c127_l1 ⟨[.slice 3 1 0 4 none (some 4),.c (.slice (A.map trE)),.c (ci A.length),.c (ci pre.length)],[rnC r names,clC0 c,.cells 1 [] 0,bouB o]⟩
   = some (.exit 1,⟨[.slice 3 1 0 4 none (some 4)],[rnC r names,clC0 c,.cells 1 [] 0,bouB (l.foldl bouF o)]⟩):=by
 intro l
 induction l with
 | nil =>
  intro pre o h _
  have h:A=pre:=by simpa using h
  subst h
  rw[r127_l1]
  simp[c127_l1b]
 | cons x l ih =>
  intro pre o h hb
  have hx:=hok x (by rw[h]; simp)
  have ih:=ih (pre++[x]) (bouF o x) (by simp[h]) (by simpa using hb.step hx)
  have gx:A[pre.length]? = some x:=by rw[h]; simp
  obtain⟨hpl,gx'⟩:=List.getElem?_eq_some_iff.1 gx
  have hw:IntKind.i64.wrap ((pre.length:Int)+1)=(pre.length:Int)+1:=wrap64 (by omega) (by omega)
  have hlt:(pre.length:Int)<A.length:=by omega
  have hb2:BouIn 1000 o:=⟨by have:=hb.a; omega,by have:=hb.b; omega,by have:=hb.c; omega,by have:=hb.d; omega⟩
  have h0:=L127_0 (P:=P) (r:=r) (names:=names) (c:=c) x hx o hb2 (.slice (A.map trE)) (ci A.length) (ci pre.length)
  rw[List.foldl_cons]
  generalize hB:bouF o x=o' at *
  simp only[rnC,clC0,clV,trL,bouB,List.map_cons,List.map_nil] at h0 ih ⊢
  rw[r127_l1]
  simp at ih h0
  simp[c127_l1b,hlt,hpl,gx,gx',trE,h0,hw,ih]
theorem S127 (hr:RnV r) (h:ClOK r t c):fn P 127 [rnE r names,clE c]=some (.slice ((valsL r c).map ci)):=by
 have F:=h.form
 have hsz:=hr.sz
 have hl2:(c.runs.length:Int)<1000:=by have:=F.runs; split at this<;>omega
 have e177:=S177 (P:=P) c.runs (by omega)
 have hb:=neg_best c.runs F.rns
 have hu:=h.used
 have hlim:=hr.lim
 have hsf:stS c.st=[]↔c.st=.fine:=by cases c.st<;>simp[stS]
 rw[u127]
 unfold valsL
 rw[clE_eq]
 by_cases hf:c.st=.fine
 ·rw[if_pos hf]
  have ho:=F.hold
  cases hd:r.dc
  ·have w1:IntKind.i64.wrap (2*(r.size:Int))=2*r.size:=wrap64 (by omega) (by omega)
   have w2:IntKind.i64.wrap (2*(r.size:Int)+2)=2*r.size+2:=wrap64 (by omega) (by omega)
   have w3:IntKind.i64.wrap (-c.used) = -c.used:=wrap64 (by omega) (by omega)
   have hh:holdsN r=r.size:=by simp[holdsN,hd]
   rw[hh] at ho
   have w4:IntKind.i64.wrap (2*c.hold)=2*c.hold:=wrap64 (by omega) (by omega)
   have w5:IntKind.i64.wrap (2*c.hold+1)=2*c.hold+1:=wrap64 (by omega) (by omega)
   cases ht:c.top
   ·cases hp:c.plus<;>simp[c127,rnE,clV,hd,dcS,hf,stS,w1,w2,w3,w4,w5,ht,hp,cellsOf]
    ·exact resI _ _ _ [2*c.hold,-c.used] _ 2 rfl
    ·exact resI _ _ _ [2*c.hold+1,-c.used] _ 2 rfl
   ·simp[c127,rnE,clV,hd,dcS,hf,stS,w1,w2,w3,w4,w5,ht]
    exact resI _ _ _ [2*(r.size:Int)+2,-c.used] _ 2 rfl
  ·have hlen:=F.tries
   rw[hd,if_pos rfl] at hlen
   have hL:=L127_1 (P:=P) (r:=r) (names:=names) (c:=c) c.tries (by omega) F.trs c.tries [] (0,0,0,0) rfl ⟨by simp,by simp,by simp,by simp⟩
   have hB:c.tries.foldl bouF (0,0,0,0)=bouL c.tries:=rfl
   rw[hB] at hL
   simp only[rnC,clC0,clV,bouB,hd,dcS,hf,stS,List.map_cons,List.map_nil,List.length_nil] at hL
   simp at hL
   simp[c127,rnE,clV,hd,dcS,hf,stS,hL]
   exact resI _ _ _ [(bouL c.tries).1,(bouL c.tries).2.1,(bouL c.tries).2.2.1,(bouL c.tries).2.2.2] _ 4 rfl
  ·have w3:IntKind.i64.wrap (-bestL c.runs) = -bestL c.runs:=wrap64 (by omega) (by omega)
   simp[c127,rnE,clV,hd,dcS,hf,stS,e177,w3]
   exact resI _ _ _ [-bestL c.runs] _ 1 rfl
 ·have hf2:¬ stS c.st=[]:=fun q=>hf (hsf.1 q)
  rw[if_neg hf]
  simp[c127,rnE,clV,hf2]
end LM.GZ
namespace LM.GZ
open Go LM
variable {P:Nat→Option SFunc} [Has P]
variable {r:CRn} {names:List Str} {e:CEn} {c:CCl} {t:Int} {s:CSs} {n:Nat}
def rwB (ys:List Rs):LB:=.cells (1+ys.length) (cellsOf (ys.map Rs.enc)) 0
theorem L52 (hr:RnV r) (t:Int) (A:List CCl) (hA:A.length<1000) (hN:names.length=A.length) (hok:∀ x ∈ A,ClOK r t x):∀ (l pre:List CCl) (nl npre:List Str) (ys:List Rs),A=pre++l→names=npre++nl→npre.length=pre.length→ys.length=pre.length →
  execS P (limS P) c52_l0 ⟨[.ptr 0 0 0,.slice 3 (1+ys.length) 0 ys.length (some 3) none,.c (.slice (A.map clE)),.c (ci A.length),.c (ci pre.length)],[rnC r names,stC t A,.cells 1 [] 0,rwB ys]⟩
   = some (.exit 0,⟨[.slice 3 (1+(ys++resL r nl l).length) 0 (ys++resL r nl l).length (some 3) none],[rnC r names,stC t A,.cells 1 [] 0,rwB (ys++resL r nl l)]⟩):=by
 intro l
 induction l with
 | nil =>
  intro pre nl npre ys h hn hl hy
  have h:A=pre:=by simpa using h
  subst h
  have hz:resL r nl []=[]:=by simp[resL]
  rw[r52_l0,hz]
  simp[c52_l0b]
 | cons x l ih =>
  intro pre nl npre ys h hn hl hy
  rcases nl with _ | ⟨nm,nl⟩
  ·rw[h,hn] at hN
   simp at hN
   omega
  have ih:=ih (pre++[x]) nl (npre++[nm]) (ys++[resC r (nm,x)]) (by simp[h]) (by simp[hn]) (by simp[hl]) (by simp[hy])
  have gx:A[pre.length]? = some x:=by rw[h]; simp
  obtain⟨hpl,gx'⟩:=List.getElem?_eq_some_iff.1 gx
  have gn:names[pre.length]? = some nm:=by rw[hn,← hl]; simp
  obtain⟨hpn,gn'⟩:=List.getElem?_eq_some_iff.1 gn
  have hw:IntKind.i64.wrap ((pre.length:Int)+1)=(pre.length:Int)+1:=wrap64 (by omega) (by omega)
  have hlt:(pre.length:Int)<A.length:=by omega
  have hltn:(pre.length:Int)<names.length:=by omega
  have e127:=S127 (P:=P) (names:=names) hr (hok x (by rw[h]; simp))
  have hz:resL r (nm::nl) (x::l)=resC r (nm,x)::resL r nl l:=rfl
  have ha:=fun X0 X1 X2 X4 X5 X6=>append_ownP (some 6) (b:=3) (g:=1+ys.length) (bytes:=56) (e:=some 3) (ys:=ys.map Rs.enc) (xs:=[Rs.enc (resC r (nm,x))]) (h:=[X0,X1,X2,.cells (1+ys.length) (cellsOf (ys.map Rs.enc)) 0,X4,X5,X6]) (len:=ys.length) (fz:=0) rfl (Rs.elems _) (by intro y hy; simp at hy; rw[hy]; exact Rs.elem _) (by simp) (Nat.zero_le _) (by simp) (by simp; omega) (by simp; omega)
  have e1:1+(ys.length+1)=1+ys.length+1:=by omega
  have hu0:=underL_cellsOf 4 (ys.map Rs.enc++[Rs.enc (resC r (nm,x))])
  rw[hz]
  simp only[rnC,stC,rwB,List.map_append,List.map_cons,List.map_nil,List.length_append,List.length_cons,List.length_nil,List.append_assoc,List.cons_append,List.nil_append] at ih ha hu0 ⊢
  generalize resL r nl l=W at *
  generalize ys.map Rs.enc=D at *
  simp only[Rs.enc,resC] at ih ha hu0 ⊢
  simp only[rnE,clE_eq,clV] at e127
  rw[r52_l0]
  simp[e1] at ih ha hu0
  simp[c52_l0b,hlt,hltn,hpl,hpn,gx,gx',gn,gn',clE_eq,clV,e127,ha,hw,hu0]
  simpa[Nat.add_assoc] using ih
theorem S52 (hn:NmOK names) (hr:RnV r) (h:SsOK r names.length s) (hd:∀ c ∈ s.cls,c.ph=.done):fn P 52 [rnE r names,ssV s]=some (.tuple [.slice ((resL r names s.cls).map Rs.enc),ci 0]):=by
 have e82:=S82 (P:=P) hn hr h
 have hm:=hn.most
 have hlen:=h.len
 have e123:=S123 (P:=P) (pred124 (P:=P)) s.cls (by omega)
 have hany:s.cls.any (fun c=>decide (c.ph≠.done))=false:=by
  rw[List.any_eq_false]
  intro c hc
  simp[hd c hc]
 rw[hany] at e123
 have hL:=L52 (P:=P) (names:=names) hr s.time s.cls (by omega) hlen.symm h.ok s.cls [] names [] [] rfl rfl rfl rfl
 have hc0:cellsOf (([]:List Rs).map Rs.enc)=[]:=rfl
 simp only[rnC,stC,rwB,hc0,List.nil_append,List.length_nil] at hL
 have hR:=fun X0 X1 X2=>resV_own (b:=3) (g:=1+(resL r names s.cls).length) (fz:=0) (e:=some 3) (ys:=(resL r names s.cls).map Rs.enc) (h:=[X0,X1,X2,.cells (1+(resL r names s.cls).length) (cellsOf ((resL r names s.cls).map Rs.enc)) 0]) (len:=(resL r names s.cls).length) rfl (Rs.elems _) (by simp) none (ci 0)
 rw[u52]
 simp only[rnE,ssV] at *
 generalize (resL r names s.cls).map Rs.enc=D at *
 simp at hL
 simp[c52,e82,e123,whenE,firstE,hL,hR]
end LM.GZ
namespace LM.GZ
open Go LM
variable {P:Nat→Option SFunc} [Has P]
variable {r:CRn} {names:List Str}
def rnB (r:CRn) (names:List Str):LB:=.cells 0 [.c (.str (dcS r.dc)),.c (.slice (names.map CV.str)),.c (ci r.size),.c (ci r.limit)] 0
theorem app_nil1 {h:Heap} {b:Nat} {cs:List LV} (hb:h[b]? = some (.cells 1 cs 0)) (hl:cs.length=11) (hf:flatAll cs=true):appendOp none (some 11) 120 .nil (.slice b 1 0 1 (some 11) (some 1)) h=some (.slice h.length 1 0 1 (some 11) none,h++[.cells 1 cs 0]):=by
 have ht:cs.take 11=cs:=by rw[← hl]; exact List.take_length
 simp[appendOp,sliceCells,hb,hl,ht,hf,ok,newId,newAt,szOf]
theorem app_own1 {h:Heap} {b q g k:Nat} {cs ys:List LV} (hb:h[b]? = some (.cells 1 cs 0)) (hl:cs.length=11) (hf:flatAll cs=true) (hq:h[q]? = some (.cells g ys 0)) (hy:ys.length=k*11) (hk:k<100000):appendOp none (some 11) 120 (.slice q g 0 k (some 11) none) (.slice b 1 0 1 (some 11) (some 1)) h=some (.slice q (g+1) 0 (k+1) (some 11) none,h.set q (.cells (g+1) (ys++cs) 0)):=by
 have ht:cs.take 11=cs:=by rw[← hl]; exact List.take_length
 have h1:¬ ((k+1)*120 > 2^47∨k+1 > 9223372036854775807):=by omega
 have h2:¬ (2^47<(k+1)*120):=by omega
 have h3:¬ (9223372036854775807<k+1):=by omega
 simp[appendOp,sliceCells,hb,hl,ht,hf,ok,szOf,hq,hy]
 omega
def trsC (r:CRn):LB:=.cells 1 ((List.replicate r.size trZ).flatMap trL) 0
theorem trs_eq:∀ (n:Nat),(List.replicate n [LV.c (CV.int IntKind.i64 0),LV.c (CV.int IntKind.i64 0),LV.c (CV.int IntKind.i64 0),LV.c (CV.bool false)]).flatten=(List.replicate n trZ).flatMap trL
 | 0=>rfl
 | n+1=>by rw[List.replicate_succ,List.replicate_succ,List.flatten_cons,List.flatMap_cons,trs_eq n]; rfl
theorem flat_clL (c:CCl) (v:LV) (hv:v=.nil∨∃ b g k e q,v=.slice b g 0 k e q):flatAll (clL c (v,.nil))=true:=by
 rcases hv with rfl | ⟨b,g,k,e,q,rfl⟩<;>simp[clL,flatAll,LV.flat,CV.flat]
theorem step151a (hd:(dcS r.dc == [98,111,117,108,100,101,114])=false) {n k:Int} {row row' : LV} {B1:LB} {K K' : Heap} (hr:row=.nil∨∃ b g k,row=.slice b g 0 k (some 11) none) (hr2:∃ b g k,row'=.slice b g 0 k (some 11) none)
 (ha:appendOp none (some 11) 120 row (.slice (K.length+4) 1 0 1 (some 11) (some 1)) (rnB r names::B1::.cells 0 [.c (ci 0),row] 0::(K++[.cells 0 (clL (clS r) (.nil,.nil)) 0,.cells 1 (clL (clS r) (.nil,.nil)) 0]))=some (row',rnB r names::B1::.cells 0 [.c (ci 0),row] 0::K')) :
execS P (limS P) c151_n3 ⟨[.ptr 0 0 0,.ptr 1 0 0,.ptr 2 0 0,.c (ci n),.c (ci k)],rnB r names::B1::.cells 0 [.c (ci 0),row] 0::K⟩=some (.normal,⟨[.ptr 0 0 0,.ptr 1 0 0,.ptr 2 0 0,.c (ci n),.c (ci k)],rnB r names::B1::.cells 0 [.c (ci 0),row'] 0::K'⟩):=by
 have hs:(clS r).tries=[]:=by
  unfold clS
  simp only
  rw[if_neg]
  intro e
  rw[e] at hd
  cases hd
 simp[clL,clS,phS,stS,rnB] at ha
 obtain⟨b2,g2,k2,rfl⟩:=hr2
 rcases hr with rfl | ⟨b,g,k',rfl⟩
 ·simp[c151_n3,c151_n4,c151_n5,c151_n6,c151_n7,rnB,hd,ha]
 ·simp[c151_n3,c151_n4,c151_n5,c151_n6,c151_n7,rnB,hd,ha]
theorem step151b (hd:(dcS r.dc == [98,111,117,108,100,101,114])=true) (hsz:r.size≤64) {n k:Int} {row row' : LV} {B1:LB} {K K' : Heap} (hr:row=.nil∨∃ b g k,row=.slice b g 0 k (some 11) none) (hr2:∃ b g k,row'=.slice b g 0 k (some 11) none)
 (ha:appendOp none (some 11) 120 row (.slice (K.length+5) 1 0 1 (some 11) (some 1)) (rnB r names::B1::.cells 0 [.c (ci 0),row] 0::(K++[.cells 0 (clL (clS r) (.slice (K.length+4) 1 0 r.size (some 4) (some r.size),.nil)) 0,trsC r,.cells 1 (clL (clS r) (.slice (K.length+4) 1 0 r.size (some 4) (some r.size),.nil)) 0]))=some (row',rnB r names::B1::.cells 0 [.c (ci 0),row] 0::K')) :
execS P (limS P) c151_n3 ⟨[.ptr 0 0 0,.ptr 1 0 0,.ptr 2 0 0,.c (ci n),.c (ci k)],rnB r names::B1::.cells 0 [.c (ci 0),row] 0::K⟩=some (.normal,⟨[.ptr 0 0 0,.ptr 1 0 0,.ptr 2 0 0,.c (ci n),.c (ci k)],rnB r names::B1::.cells 0 [.c (ci 0),row'] 0::K'⟩):=by
 have hz:(r.size:Int)*32≤140737488355328∧(r.size:Int)≤9223372036854775807:=by omega
 simp[clL,clS,phS,stS,rnB,trsC,← trs_eq] at ha
 obtain⟨b2,g2,k2,rfl⟩:=hr2
 rcases hr with rfl | ⟨b,g,k',rfl⟩
 ·simp[c151_n3,c151_n4,c151_n5,c151_n6,c151_n7,rnB,hd,ha,hz]
 ·simp[c151_n3,c151_n4,c151_n5,c151_n6,c151_n7,rnB,hd,ha,hz]
def gcH (n:Nat) (H:Heap):Heap:=if underB n (H.take n) then H.take n else H
theorem underB_get {n:Nat}:∀ {h:Heap} {i:Nat} {x:LB},underB n h=true→h[i]? = some x→x.under n=true
 | [],i,x,_,h=>by simp at h
 | y::r,0,x,hu,h=>by
  simp only[underB,Bool.and_eq_true] at hu
  simp at h
  subst h
  exact hu.1
 | y::r,i+1,x,hu,h=>by
  simp only[underB,Bool.and_eq_true] at hu
  simp at h
  exact underB_get hu.2 h
theorem gc_eq (n:Nat) (ts:List LV) (H:Heap):gc n ⟨ts,H⟩=⟨if underB n (H.take n) then LM.scrub n ts else ts,gcH n H⟩:=by
 unfold gc gcH
 split<;>simp_all
theorem underL_mem {n:Nat}:∀ {l:List LV} {v:LV},underL n l=true→v ∈ l→v.under n=true
 | [],_,_,h=>by cases h
 | x::l,v,hu,h=>by
  simp only[underL,Bool.and_eq_true] at hu
  rcases List.mem_cons.1 h with rfl | h
  ·exact hu.1
  ·exact underL_mem hu.2 h
def TrK (r:CRn) (K:Heap) (v:LV):Prop:=((clS r).tries=[]∧v=.nil)∨((clS r).tries=List.replicate r.size trZ∧∃ j,v=.slice (j+3) 1 0 r.size (some 4) (some r.size)∧K[j]? = some (trsC r))
def StS (r:CRn) (k:Nat) (row:LV) (K:Heap):Prop :=
 (k=0∧row=.nil∧K=[])∨(0<k∧∃ j g l,row=.slice (j+3) g 0 k (some 11) none∧l.length=k∧K[j]? = some (.cells g (rowL l) 0)∧∀ x ∈ l,x.1=clS r∧x.2.2=.nil∧TrK r K x.2.1)
theorem rowL_mem {l:List (CCl × (LV × LV))} {x:CCl × (LV × LV)} (h:x ∈ l):x.2.1 ∈ rowL l:=by
 unfold rowL
 rw[List.mem_flatMap]
 exact⟨x,h,by simp[clL]⟩
theorem StS.gc {B0 B1:LB} {n k:Nat} {row:LV} {K:Heap} (h:StS r k row K):∃ K',gcH (n+3) (B0::B1::.cells 0 [.c (ci 0),row] 0::K)=B0::B1::.cells 0 [.c (ci 0),row] 0::K'∧StS r k row K':=by
 unfold gcH
 split
 ·rename_i hu
  refine⟨K.take n,rfl,?_⟩
  rcases h with ⟨h1,h2,rfl⟩ | ⟨h0,j,g,l,rfl,hl,hj,hx⟩
  ·exact .inl ⟨h1,h2,by simp⟩
  ·have u1:LB.under (n+3) (.cells 0 [.c (ci 0),.slice (j+3) g 0 k (some 11) none] 0)=true:=underB_get (i:=2) hu rfl
   have hjn:j<n:=by
    simp[LB.under,underL,LV.under] at u1
    exact u1
   have u2:LB.under (n+3) (.cells g (rowL l) 0)=true:=underB_get (i:=j+3) hu (by
    show (K.take n)[j]? = _
    rw[List.getElem?_take_of_lt hjn]
    exact hj)
   simp only[LB.under] at u2
   refine .inr ⟨h0,j,g,l,rfl,hl,by rw[List.getElem?_take_of_lt hjn]; exact hj,fun x xm=>?_⟩
   obtain⟨a1,a2,a3⟩:=hx x xm
   refine⟨a1,a2,?_⟩
   rcases a3 with a3 | ⟨a4,i,e,hi⟩
   ·exact .inl a3
   ·have:=underL_mem u2 (rowL_mem xm)
    rw[e] at this
    simp[LV.under] at this
    exact .inr ⟨a4,i,e,by rw[List.getElem?_take_of_lt this]; exact hi⟩
 ·exact⟨K,rfl,h⟩
theorem TrK.app {K X:Heap} {v:LV} (h:TrK r K v):TrK r (K++X) v:=by
 rcases h with h | ⟨h1,j,h2,h3⟩
 ·exact .inl h
 ·exact .inr ⟨h1,j,h2,by rw[List.getElem?_append_left (ltG h3)]; exact h3⟩
theorem TrK.set {K:Heap} {v:LV} {j g:Nat} {ys:List LV} (h:TrK r K v) {g0:Nat} {ys0:List LV} (hj:K[j]? = some (.cells g0 ys0 0)) (hne:(LB.cells g0 ys0 0)≠trsC r):TrK r (K.set j (.cells g ys 0)) v:=by
 rcases h with h | ⟨h1,i,h2,h3⟩
 ·exact .inl h
 ·refine .inr ⟨h1,i,h2,?_⟩
  rw[List.getElem?_set_ne]
  ·exact h3
  ·rintro rfl
   rw[hj] at h3
   exact hne (Option.some.inj h3)
end LM.GZ
namespace LM.GZ
open Go LM
variable {P:Nat→Option SFunc} [Has P]
variable {r:CRn} {names:List Str}
theorem row_ne {g:Nat} {l:List (CCl × (LV × LV))} (hl:0<l.length):(LB.cells g (rowL l) 0)≠trsC r:=by
 intro e
 cases l with
 | nil=>simp at hl
 | cons a l =>
  unfold trsC at e
  rcases hs:r.size with _ | n
  ·rw[hs] at e; simp[rowL,clL] at e
  ·rw[hs,List.replicate_succ,List.flatMap_cons] at e
   simp[rowL,clL,trL] at e
theorem dcS_boulder:(dcS r.dc == [98,111,117,108,100,101,114])=decide (r.dc=.boulder):=by cases r.dc<;>rfl
theorem step151 (hsz:r.size≤64) {n kk:Int} {k:Nat} (hk:k<1000) {row:LV} {B1:LB} {K:Heap} (hS:StS r k row K) :
  ∃ row' K',execS P (limS P) c151_n3 ⟨[.ptr 0 0 0,.ptr 1 0 0,.ptr 2 0 0,.c (ci n),.c (ci kk)],rnB r names::B1::.cells 0 [.c (ci 0),row] 0::K⟩=some (.normal,⟨[.ptr 0 0 0,.ptr 1 0 0,.ptr 2 0 0,.c (ci n),.c (ci kk)],rnB r names::B1::.cells 0 [.c (ci 0),row'] 0::K'⟩)∧StS r (k+1) row' K'∧K.length≤K'.length:=by
 have hr:row=.nil∨∃ b g k,row=.slice b g 0 k (some 11) none:=by
  rcases hS with ⟨_,h,_⟩ | ⟨_,j,g,l,h,_⟩
  ·exact .inl h
  ·exact .inr ⟨_,_,_,h⟩
 by_cases hd:r.dc=.boulder
 ·have hd2:(dcS r.dc == [98,111,117,108,100,101,114])=true:=by rw[dcS_boulder,decide_eq_true hd]
  have htr:(clS r).tries=List.replicate r.size trZ:=by simp[clS,hd]
  have hfl:=flat_clL (clS r) (.slice (K.length+4) 1 0 r.size (some 4) (some r.size)) (.inr ⟨_,_,_,_,_,rfl⟩)
  have step:=fun row' K'=>step151b (P:=P) (names:=names) hd2 hsz (n:=n) (k:=kk) (row:=row) (row':=row') (B1:=B1) (K:=K) (K':=K') hr
  generalize hcs:clL (clS r) (.slice (K.length+4) 1 0 r.size (some 4) (some r.size),.nil)=cs at step hfl
  have hcl:cs.length=11:=by rw[← hcs]; rfl
  rcases hS with ⟨rfl,rfl,rfl⟩ | ⟨h0,j,g,l,rfl,hl,hj,hx⟩
  ·have ha:=app_nil1 (h:=rnB r names::B1::.cells 0 [.c (ci 0),.nil] 0::([]++[.cells 0 cs 0,trsC r,.cells 1 cs 0])) (b:=5) rfl hcl hfl
   refine⟨_,_,step _ _ ⟨_,_,_,rfl⟩ ha,?_,by simp⟩
   refine .inr ⟨by omega,3,1,[(clS r,(.slice 4 1 0 r.size (some 4) (some r.size),.nil))],rfl,rfl,?_,?_⟩
   ·simp[rowL,← hcs]
   ·intro x hx
    simp at hx
    subst hx
    exact⟨rfl,rfl,.inr ⟨htr,1,rfl,rfl⟩⟩
  ·have hjl:=ltG hj
   have ha:=app_own1 (h:=rnB r names::B1::.cells 0 [.c (ci 0),.slice (j+3) g 0 k (some 11) none] 0::(K++[.cells 0 cs 0,trsC r,.cells 1 cs 0])) (b:=K.length+5) (q:=j+3) (g:=g) (k:=k) (ys:=rowL l) (by simp) hcl hfl (by simp[List.getElem?_append_left hjl]; exact hj) (by rw[rowL_len,hl]) (by omega)
   refine⟨_,_,step _ _ ⟨_,_,_,rfl⟩ ha,?_,by simp⟩
   refine .inr ⟨by omega,j,g+1,l++[(clS r,(.slice (K.length+4) 1 0 r.size (some 4) (some r.size),.nil))],rfl,by simp[hl],?_,?_⟩
   ·rw[List.getElem?_set_self (by simp; omega)]
    simp[rowL,← hcs]
   ·intro x hx'
    have gj:(K++[.cells 0 cs 0,trsC r,.cells 1 cs 0])[j]? = some (.cells g (rowL l) 0):=by rw[List.getElem?_append_left hjl]; exact hj
    rcases List.mem_append.1 hx' with hx' | hx'
    ·obtain⟨a1,a2,a3⟩:=hx x hx'
     exact⟨a1,a2,(a3.app).set gj (row_ne (by omega))⟩
    ·simp at hx'
     subst hx'
     refine⟨rfl,rfl,TrK.set (.inr ⟨htr,K.length+1,rfl,?_⟩) gj (row_ne (by omega))⟩
     simp
 ·have hd2:(dcS r.dc == [98,111,117,108,100,101,114])=false:=by rw[dcS_boulder,decide_eq_false hd]
  have htr:(clS r).tries=[]:=by simp[clS,hd]
  have hfl:=flat_clL (clS r) .nil (.inl rfl)
  have step:=fun row' K'=>step151a (P:=P) (names:=names) hd2 (n:=n) (k:=kk) (row:=row) (row':=row') (B1:=B1) (K:=K) (K':=K') hr
  generalize hcs:clL (clS r) (.nil,.nil)=cs at step hfl
  have hcl:cs.length=11:=by rw[← hcs]; rfl
  rcases hS with ⟨rfl,rfl,rfl⟩ | ⟨h0,j,g,l,rfl,hl,hj,hx⟩
  ·have ha:=app_nil1 (h:=rnB r names::B1::.cells 0 [.c (ci 0),.nil] 0::([]++[.cells 0 cs 0,.cells 1 cs 0])) (b:=4) rfl hcl hfl
   refine⟨_,_,step _ _ ⟨_,_,_,rfl⟩ ha,?_,by simp⟩
   refine .inr ⟨by omega,2,1,[(clS r,(.nil,.nil))],rfl,rfl,?_,?_⟩
   ·simp[rowL,← hcs]
   ·intro x hx
    simp at hx
    subst hx
    exact⟨rfl,rfl,.inl ⟨htr,rfl⟩⟩
  ·have hjl:=ltG hj
   have ha:=app_own1 (h:=rnB r names::B1::.cells 0 [.c (ci 0),.slice (j+3) g 0 k (some 11) none] 0::(K++[.cells 0 cs 0,.cells 1 cs 0])) (b:=K.length+4) (q:=j+3) (g:=g) (k:=k) (ys:=rowL l) (by simp) hcl hfl (by simp[List.getElem?_append_left hjl]; exact hj) (by rw[rowL_len,hl]) (by omega)
   refine⟨_,_,step _ _ ⟨_,_,_,rfl⟩ ha,?_,by simp⟩
   refine .inr ⟨by omega,j,g+1,l++[(clS r,(.nil,.nil))],rfl,by simp[hl],?_,?_⟩
   ·rw[List.getElem?_set_self (by simp; omega)]
    simp[rowL,← hcs]
   ·intro x hx'
    have gj:(K++[.cells 0 cs 0,.cells 1 cs 0])[j]? = some (.cells g (rowL l) 0):=by rw[List.getElem?_append_left hjl]; exact hj
    rcases List.mem_append.1 hx' with hx' | hx'
    ·obtain⟨a1,a2,a3⟩:=hx x hx'
     exact⟨a1,a2,(a3.app).set gj (row_ne (by omega))⟩
    ·simp at hx'
     subst hx'
     exact⟨rfl,rfl,.inl ⟨htr,rfl⟩⟩
theorem L151 (hsz:r.size≤64) (hn:names.length≤160) {B1:LB}:∀ (i k:Nat) (row:LV) (K:Heap),k+i=names.length→StS r k row K →
  ∃ row' K',execS P (limS P) c151_l0 ⟨[.ptr 0 0 0,.ptr 1 0 0,.ptr 2 0 0,.c (ci names.length),.c (ci k)],rnB r names::B1::.cells 0 [.c (ci 0),row] 0::K⟩=some (.exit 0,⟨[.ptr 1 0 0,.ptr 2 0 0],rnB r names::B1::.cells 0 [.c (ci 0),row'] 0::K'⟩)∧StS r names.length row' K':=by
 intro i
 induction i with
 | zero =>
  intro k row K hk hS
  have:k=names.length:=by omega
  subst this
  refine⟨row,K,?_,hS⟩
  rw[r151_l0]
  simp[c151_l0b,c151_n1]
 | succ i ih =>
  intro k row K hk hS
  have hw:IntKind.i64.wrap ((k:Int)+1)=(k:Int)+1:=wrap64 (by omega) (by omega)
  have hlt:(k:Int)<names.length:=by omega
  obtain⟨row1,K1,e1,s1,l1⟩:=step151 (P:=P) (names:=names) hsz (n:=names.length) (kk:=k) (by omega) (B1:=B1) hS
  obtain⟨K2,g2,s2⟩:=s1.gc (B0:=rnB r names) (B1:=B1) (n:=K.length)
  obtain⟨row',K',e3,s3⟩:=ih (k+1) row1 K2 (by omega) s2
  refine⟨row',K',?_,s3⟩
  rw[r151_l0]
  unfold c151_l0b c151_n1 c151_n2
  generalize hX:c151_n3=X at e1
  clear hX
  simp[-gc,hlt,e1,hw]
  rw[gc_eq,show K.length+1+1+1=K.length+3 from rfl,g2]
  have hsc:∀ c:Prop,[Decidable c]→(if c then LM.scrub (K.length+3) [.ptr 0 0 0,.ptr 1 0 0,.ptr 2 0 0,.c (ci names.length),.c (ci ((k:Int)+1))] else [.ptr 0 0 0,.ptr 1 0 0,.ptr 2 0 0,.c (ci names.length),.c (ci ((k:Int)+1))])=[.ptr 0 0 0,.ptr 1 0 0,.ptr 2 0 0,.c (ci names.length),.c (ci ((k:Int)+1))]:=by
   intro c _
   split
   ·simp[LM.scrub,LV.under]
   ·rfl
  rw[hsc]
  exact e3
theorem StS.row_ok {r:CRn} {k:Nat} {row:LV} {B0 B1 B2:LB} {K:Heap} (h:StS r k row K):∃ h',frz (36+3) row (B0::B1::B2::K)=some (.slice (List.replicate k (clE (clS r))),h'):=by
 rcases h with ⟨rfl,rfl,rfl⟩ | ⟨h0,j,g,l,rfl,hl,hj,hx⟩
 ·exact⟨_,rfl⟩
 ·subst hl
  obtain⟨h',e,_⟩:=frzD_rows 36 (h:=B0::B1::B2::K) (l:=l) (b:=j+3) (g:=g) (fz:=0) (cp:=none) hj fun x xm=>by
   obtain⟨a1,a2,a3⟩:=hx x xm
   rw[a1,a2]
   refine⟨?_,.inl ⟨by simp[clS],rfl⟩⟩
   rcases a3 with ⟨b1,b2⟩ | ⟨b1,i,b2,b3⟩
   ·exact .inl ⟨b1,b2⟩
   ·refine .inr ⟨i+3,1,some r.size,0,?_,?_⟩
    ·rw[b2,b1,List.length_replicate]
    ·rw[b1]; exact b3
  refine⟨h',?_⟩
  rw[e]
  have:l.map (fun x=>clE x.1)=List.replicate l.length (clE (clS r)):=by
   rw[List.eq_replicate_iff]
   refine⟨by simp,fun b hb=>?_⟩
   obtain⟨x,xm,rfl⟩:=List.mem_map.1 hb
   rw[(hx x xm).1]
  rw[this]
theorem S151 (hsz:r.size≤64) (hn:names.length≤160):fn P 151 [rnE r names]=some (.agg [ci 0,.slice (List.replicate names.length (clE (clS r)))]):=by
 obtain⟨row',K',e,s⟩:=L151 (P:=P) (names:=names) hsz hn (B1:=.cells 0 [.c (ci 0),.nil] 0) names.length 0 .nil [] (by omega) (.inl ⟨rfl,rfl,rfl⟩)
 rw[u151]
 unfold rnB at e
 simp[-gc] at e
 obtain⟨h',e2⟩:=s.row_ok (B0:=rnB r names) (B1:=.cells 0 [.c (ci 0),row'] 0) (B2:=.cells 0 [.c (ci 0),row'] 0)
 have hr:row'=.nil∨∃ b g k,row'=.slice b g 0 k (some 11) none:=by
  rcases s with ⟨_,h,_⟩ | ⟨_,j,g,l,h,_⟩
  ·exact .inl h
  ·exact .inr ⟨_,_,_,h⟩
 have fin:resV (resultV ⟨[.ptr 1 0 0],rnB r names::.cells 0 [.c (ci 0),row'] 0::.cells 0 [.c (ci 0),row'] 0::K'⟩ [.cell 0 (some 2)]) (rnB r names::.cells 0 [.c (ci 0),row'] 0::.cells 0 [.c (ci 0),row'] 0::K')=some (.agg [ci 0,.slice (List.replicate names.length (clE (clS r)))]):=by
  have h1:resultV ⟨[.ptr 1 0 0],rnB r names::.cells 0 [.c (ci 0),row'] 0::.cells 0 [.c (ci 0),row'] 0::K'⟩ [.cell 0 (some 2)]=some (.agg [.c (ci 0),row']):=by rcases hr with rfl | ⟨b,g,k,rfl⟩<;>simp[resultV,resultsAll,resultOne,rnB]
  rw[h1]
  show bnd (frz frzDepth _ _) _=_
  rw[frz_agg,mapH_cons,frz_succ_c,bnd_some,mapH_cons,e2]
  rfl
 simp[c151,rnE,-frz_slice,-bump,e]
 rcases hr with rfl | ⟨b,g,k,rfl⟩
 ·simp[rnB] at fin
  simp[-frz_slice,-bump,fin]
 ·simp[rnB] at fin
  simp[-frz_slice,-bump,fin]
end LM.GZ
namespace LM.GZ
abbrev Du:=Nat × Nat
def wAt (W:List Int) (o:Nat):Int:=W.getD o (-1)
def rAt (R:List Int) (c:Nat):Int:=R.getD c 0
def aAt (A:List Bool) (c:Nat):Bool:=A.getD c false
structure Gs where
 W:List Int
 R:List Int
 A:List Bool
def dAt (D:List Du) (o:Nat):Du:=D.getD o (0,0)
def left (A:List Bool):Nat:=A.count false
variable {D:List Du} {n:Nat}
def FitW (D:List Du) (W:List Int):Prop:=∀ o,o<D.length→wAt W o = -1∨wAt W o=((dAt D o).1:Nat)∨wAt W o=((dAt D o).2:Nat)
structure GInv (D:List Du) (n:Nat) (s:Gs):Prop where
 w:s.W.length=D.length
 r:s.R.length=n
 a:s.A.length=n
 fit:FitW D s.W
 pos:∀ c,0≤rAt s.R c
def Held (A:Nat→Bool) (w:Int):Prop:=w = -1∨∃ c:Nat,w=(c:Int)∧A c=true
structure GVain (D:List Du) (n d:Nat) (s t:Gs):Prop where
 w:t.W=s.W
 r:t.R=s.R
 a:t.A.length=n
 mono:∀ c,aAt s.A c=true→aAt t.A c=true
 cl:∀ c:Nat,aAt t.A c=true→aAt s.A c=false→rAt s.R c≤0∧(∀ o,o<D.length→wAt s.W o=(c:Int)→aAt t.A (dAt D o).1=true∧aAt t.A (dAt D o).2=true)∧∃ o,o<D.length∧(o=d∨wAt s.W o≠-1)∧((dAt D o).1=c∨(dAt D o).2=c)
theorem GVain.rfl' {d:Nat} {s:Gs} (h:GInv D n s):GVain D n d s s:=⟨rfl,rfl,h.a,fun _ h=>h,fun c h1 h2=>by rw[h1] at h2; cases h2⟩
theorem GVain.inv {d:Nat} {s t:Gs} (h:GInv D n s) (v:GVain D n d s t):GInv D n t:=⟨by rw[v.w]; exact h.w,by rw[v.r]; exact h.r,v.a,by rw[v.w]; exact h.fit,by rw[v.r]; exact h.pos⟩
theorem GVain.trans {d:Nat} {s t u:Gs} (h1:GVain D n d s t) (h2:GVain D n d t u):GVain D n d s u:=by
 refine⟨h2.w.trans h1.w,h2.r.trans h1.r,h2.a,fun c h=>h2.mono c (h1.mono c h),fun c hu hs=>?_⟩
 cases ht:aAt t.A c
 ·have:=h2.cl c hu ht
  rw[h1.w,h1.r] at this
  exact this
 ·obtain⟨a1,a2,a3⟩:=h1.cl c ht hs
  exact⟨a1,fun o ho e=>⟨h2.mono _ (a2 o ho e).1,h2.mono _ (a2 o ho e).2⟩,a3⟩
theorem Held.mono {A B:Nat→Bool} {w:Int} (h:∀ c,A c=true→B c=true):Held A w→Held B w
 | .inl e=>.inl e
 | .inr ⟨c,e,hc⟩=>.inr ⟨c,e,h c hc⟩
end LM.GZ
namespace LM.GZ
variable {D:List Du} {P:List Int} {cl n:Nat}
def fresh (n:Nat) (s:List Int × List Int):Gs:=⟨s.1,s.2,List.replicate n false⟩
theorem rAt_mem {c:Nat} (h:c<P.length):rAt P c ∈ P:=by
 simp only[rAt,List.getD_eq_getElem?_getD,List.getElem?_eq_getElem h,Option.getD_some]
 exact List.getElem_mem h
end LM.GZ
namespace LM.GZ
open Go LM
structure Op where
 who:Str
 low:Int
 high:Int
def Op.enc (x:Op):CV:=.agg [.str x.who,ci x.low,ci x.high]
def cntA {α:Type} (c:Nat) (p:α→Bool):Nat→List α→Int
 | _,[]=>0
 | i,x::r=>(if i≠c∧p x=true then 1 else 0)+cntA c p (i+1) r
def leastP (v:Int) (x:Op):Bool:=decide (x.low > v)
def mostP (v:Int) (x:Op):Bool:=decide (x.high > v)
def leastL (l:List Op) (c:Nat) (v:Int):Int:=cntA c (leastP v) 0 l
def mostL (l:List Op) (c:Nat) (v:Int):Int:=cntA c (mostP v) 0 l
structure OG (l:List Op):Prop where
 one:∀ x ∈ l,isName x.who=true∧0≤x.low∧x.low≤99999∧0≤x.high∧x.high≤99999∧x.low≤x.high
 uniq:l.Pairwise fun x y=>x.who≠y.who
def Box:List Op→List Int→Prop
 | [],[]=>True
 | x::r,v::vs=>x.low≤v∧v≤x.high∧Box r vs
 | _,_=>False
theorem Box.len:∀ {l:List Op} {vs:List Int},Box l vs→vs.length=l.length
 | [],[],_=>rfl
 | x::r,v::vs,h=>by simp[Box.len h.2.2]
 | [],v::vs,h=>h.elim
 | x::r,[],h=>h.elim
end LM.GZ
namespace LM.GZ
open Go LM
section
variable {own:Op} {l:List Op} {c:Nat}
end
structure Bar where
 frm:Int
 to:Int
 up:Bool
def aboveS:Str:=[97,98,111,118,101]
def belowS:Str:=[98,101,108,111,119]
def Bar.word (b:Bar):Str:=if b.up then aboveS else belowS
def Bar.enc (b:Bar):CV:=.agg [ci b.frm,ci b.to,.str b.word]
def barOk (l:List Op) (c:Nat) (rank:Int) (b:Bar):Bool:=if b.up then decide (leastL l c b.to ≥ rank) else decide (mostL l c b.frm≤rank-2)
def addBar (out:List Bar) (b:Bar):List Bar:=match out.getLast? with
 | some y=>if b.up && y.up then out.dropLast++[⟨y.frm,b.to,true⟩] else out++[b]
 | none=>out++[b]
def Okb (l:List Op) (c:Nat) (rank:Int):Int→List Bar→Int→Prop
 | a,[],e=>a=e
 | a,b::r,e=>b.frm=a∧b.frm≤b.to∧barOk l c rank b=true∧Okb l c rank (b.to+1) r e
theorem Okb.snoc {l:List Op} {c:Nat} {rank:Int} {b:Bar}:∀ {out:List Bar} {a e:Int},Okb l c rank a out e→b.frm=e→b.frm≤b.to→barOk l c rank b=true→Okb l c rank a (out++[b]) (b.to+1)
 | [],a,e,h,h1,h2,h3=>⟨h1.trans h.symm,h2,h3,rfl⟩
 | y::out,a,e,h,h1,h2,h3=>⟨h.1,h.2.1,h.2.2.1,h.2.2.2.snoc h1 h2 h3⟩
theorem Okb.last {l:List Op} {c:Nat} {rank:Int} {y:Bar}:∀ {out:List Bar} {a e:Int},Okb l c rank a (out++[y]) e→∃ e',Okb l c rank a out e'∧y.frm=e'∧y.frm≤y.to∧e=y.to+1
 | [],a,e,h=>⟨a,rfl,h.1,h.2.1,h.2.2.2.symm⟩
 | x::out,a,e,h=>by
  obtain⟨e',h1,h2,h3,h4⟩:=(h.2.2.2).last
  exact⟨e',⟨h.1,h.2.1,h.2.2.1,h1⟩,h2,h3,h4⟩
theorem Okb.add {l:List Op} {c:Nat} {rank:Int} {b:Bar} {out:List Bar} {a e:Int} (h:Okb l c rank a out e) (h1:b.frm=e) (h2:b.frm≤b.to) (h3:barOk l c rank b=true):Okb l c rank a (addBar out b) (b.to+1)∧addBar out b≠[]:=by
 unfold addBar
 rcases List.eq_nil_or_concat out with hn | ⟨o',y,hc⟩
 ·subst hn
  exact⟨h.snoc h1 h2 h3,by simp⟩
 ·rw[List.concat_eq_append] at hc
  subst hc
  simp only[List.getLast?_append,List.getLast?_singleton,Option.some_or]
  split
  ·rename_i q
   simp at q
   obtain⟨e',g1,g2,g3,g4⟩:=h.last
   refine⟨?_,by simp⟩
   rw[List.dropLast_concat]
   refine g1.snoc (b:=⟨y.frm,b.to,true⟩) g2 (by simp only; omega) ?_
   unfold barOk at h3 ⊢
   rw[q.1] at h3
   simpa using h3
  ·exact⟨h.snoc h1 h2 h3,by simp⟩
end LM.GZ
namespace LM.GZ
open Go LM
def szO (x:Op):Nat:=(x.high-x.low+1).toNat
section
variable {l:List Op} {c:Nat} {own:Op}
end
end LM.GZ
namespace LM.GZ
open Go LM
variable {P:Nat→Option SFunc} [Has P]
abbrev Nr:=Nat × Rs
def Nr.enc (p:Nr):CV:=ci p.1
end LM.GZ
namespace LM.GZ
open Go LM
variable {P:Nat→Option SFunc} [Has P]
def Op.ok (x:Op):Prop:=x.who.length<9223372036854775807
def OB3 (x:Op) (z:Nat):LB:=.cells 0 [.c (.str x.who),.c (ci x.low),.c (ci x.high)] z
end LM.GZ
namespace LM.GZ
open Go LM
variable {P:Nat→Option SFunc} [Has P]
theorem OG.fresh {l:List Op} (h:OG l) {pre r:List Op} {x:Op} (hp:l=pre++x::r):x.who ∉ pre.map (·.who):=by
 intro hm
 obtain⟨y,hy,e⟩:=List.mem_map.1 hm
 have:=h.uniq
 rw[hp] at this
 exact (List.pairwise_append.1 this).2.2 y hy x (by simp) e
end LM.GZ
namespace LM.GZ
open Go LM
variable {P:Nat→Option SFunc} [Has P]
def hP (own x:Op) (O:List Int):Heap:=[.cells 1 [] 0,OB3 own 0,.cells O.length (cI O) 0,OB3 x 0,.cells 1 [.c (ci x.low),.c (ci x.high)] 0]
end LM.GZ
namespace LM.GZ
open Go LM
variable {P:Nat→Option SFunc} [Has P]
section
variable {own:Op} {l:List Op} {c:Nat}
theorem Okb.bound {l:List Op} {c:Nat} {rank:Int}:∀ {B:List Bar} {a e:Int},Okb l c rank a B e→a≤e∧∀ b ∈ B,a≤b.to∧b.to<e
 | [],a,e,h=>by
  have h:a=e:=h
  exact⟨by omega,by simp⟩
 | b::r,a,e,h=>by
  obtain⟨h1,h2,_,h4⟩:=h
  obtain⟨i1,i2⟩:=h4.bound
  refine⟨by omega,?_⟩
  intro x hx
  rcases List.mem_cons.1 hx with rfl | hx
  ·omega
  ·have:=i2 x hx; omega
end
end LM.GZ
namespace LM.GZ
open Go LM
variable {P:Nat→Option SFunc} [Has P] [HasP P]
def rowsOf:List Op→Nat→List Rs
 | [],_=>[]
 | x::r,n=>⟨x.who,[],[x.low+(n % szO x:Nat)]⟩::rowsOf r (n / szO x)
end LM.GZ
namespace LM.GZ
open Go LM
variable {P:Nat→Option SFunc} [Has P]
structure Lg where
 names:List Str
 pts:List Int
 duels:List (Int × Int)
def encI (d:Int × Int):CV:=.agg [ci d.1,ci d.2]
def Lg.enc (l:Lg):CV:=.agg [.slice (l.names.map CV.str),.slice (l.pts.map ci),.slice (l.duels.map encI)]
end LM.GZ
namespace LM.GZ
open Go LM
variable {P:Nat→Option SFunc} [Has P]
def encD (d:Du):CV:=.agg [ci d.1,ci d.2]
structure GG (N:List Str) (Q:List Int) (D:List Du):Prop where
 ne:N≠[]
 n5:N.length≤5
 nm:∀ pre s r,N=pre++s::r→isName s=true∧pre.any (Str.is s)=false
 so:∀ s ∈ N,s.length<9223372036854775807
 lp:Q.length=N.length
 pr:∀ p ∈ Q,0≤p∧p≤99999
 dl:D.length≤7
 du:∀ d ∈ D,d.1<N.length∧d.2<N.length∧d.1≠d.2
theorem GG.at {N:List Str} {Q:List Int} {D:List Du} (h:GG N Q D) (c:Nat):0≤rAt Q c∧rAt Q c≤99999:=by
 by_cases hc:c<Q.length
 ·exact h.pr _ (rAt_mem hc)
 ·have:rAt Q c=0:=by
   simp only[rAt,List.getD_eq_getElem?_getD,List.getElem?_eq_none (Nat.le_of_not_lt hc)]
   rfl
  omega
variable {N:List Str} {Q:List Int} {D:List Du}
end LM.GZ
namespace LM.GZ
open Go LM
variable {P:Nat→Option SFunc} [Has P]
variable {N:List Str} {Q:List Int} {D:List Du}
def Same (n:Nat) (h h' : Heap):Prop:=n≤h'.length∧∀ i,i<n→h'[i]? = h[i]?
theorem Same.rfl' {n:Nat} {h:Heap} (hn:n≤h.length):Same n h h:=⟨hn,fun _ _=>rfl⟩
theorem Same.trans {n:Nat} {h k l:Heap} (h1:Same n h k) (h2:Same n k l):Same n h l:=⟨h2.1,fun i hi=>(h2.2 i hi).trans (h1.2 i hi)⟩
theorem Same.app {n:Nat} {h k:Heap} (h1:Same n h k) (X:Heap):Same n h (k++X):=⟨by have:=h1.1; rw[List.length_append]; omega,fun i hi=>by rw[List.getElem?_append_left (by have:=h1.1; omega)]; exact h1.2 i hi⟩
theorem lt_get {h:Heap} {i:Nat} {B:LB} (e:h[i]? = some B):i<h.length:=(List.getElem?_eq_some_iff.1 e).1
def cO (A:List Bool):List LV:=A.map fun b=>.c (.bool b)
structure GLoc where
 bs:Nat
 bw:Nat
 br:Nat
 ba:Nat
 gr:Nat
 cr:Option Nat
structure GLoc.ok (L:GLoc):Prop where
 gr:L.gr≠0
 sw:L.bs≠L.bw
 sr:L.bs≠L.br
 sa:L.bs≠L.ba
 wr:L.bw≠L.br
 wa:L.bw≠L.ba
 ra:L.br≠L.ba
structure GLoc.lt (L:GLoc) (n:Nat):Prop where
 s:L.bs<n
 w:L.bw<n
 r:L.br<n
 a:L.ba<n
def gB (N:List Str) (Q:List Int) (D:List Du) (L:GLoc) (z:Nat):LB:=.cells 0 [.c (.slice (N.map CV.str)),.c (.slice (Q.map ci)),.c (.slice (D.map encD)),.slice L.br L.gr 0 N.length none L.cr,.slice L.bw 1 0 D.length none (some D.length)] z
structure HpG (N:List Str) (Q:List Int) (D:List Du) (L:GLoc) (s:Gs) (h:Heap):Prop where
 sch:h[L.bs]? = some (gB N Q D L 0)
 w:h[L.bw]? = some (.cells 1 (cI s.W) 0)
 r:h[L.br]? = some (.cells L.gr (cI s.R) 0)
 a:h[L.ba]? = some (.cells 1 (cO s.A) 0)
variable {L:GLoc} {s:Gs} {h h' : Heap}
theorem HpG.lt (H:HpG N Q D L s h):L.lt h.length:=⟨lt_get H.sch,lt_get H.w,lt_get H.r,lt_get H.a⟩
theorem HpG.near (H:HpG N Q D L s h) {n:Nat} (hn:L.lt n) (hs:Same n h h'):HpG N Q D L s h' :=
 ⟨(hs.2 _ hn.s).trans H.sch,(hs.2 _ hn.w).trans H.w,(hs.2 _ hn.r).trans H.r,(hs.2 _ hn.a).trans H.a⟩
theorem HpG.app (H:HpG N Q D L s h) (X:Heap):HpG N Q D L s (h++X):=H.near H.lt ((Same.rfl' (Nat.le_refl _)).app X)
def FrG (L:GLoc) (h h' : Heap):Prop:=h.length≤h'.length∧∀ i,i<h.length→i≠L.bw→i≠L.br→i≠L.ba→h'[i]? = h[i]?
theorem FrG.rfl' (L:GLoc) (h:Heap):FrG L h h:=⟨Nat.le_refl _,fun _ _ _ _ _=>rfl⟩
theorem FrG.trans {k l:Heap} (h1:FrG L h k) (h2:FrG L k l):FrG L h l:=⟨Nat.le_trans h1.1 h2.1,fun i hi a b c=>(h2.2 i (Nat.lt_of_lt_of_le hi h1.1) a b c).trans (h1.2 i hi a b c)⟩
theorem FrG.gc {k l:Heap} (h1:FrG L h k) (h2:Same h.length k l):FrG L h l:=⟨h2.1,fun i hi a b c=>(h2.2 i hi).trans (h1.2 i hi a b c)⟩
theorem FrG.set {k:Heap} (h1:FrG L h k) {b:Nat} (hb:b=L.bw∨b=L.br∨b=L.ba) (X:LB):FrG L h (k.set b X):=by
 refine⟨by simpa using h1.1,fun i hi x1 x2 x3=>?_⟩
 rw[List.getElem?_set_ne (by rintro rfl; rcases hb with e | e | e<;>contradiction)]
 exact h1.2 i hi x1 x2 x3
theorem HpG.room (H:HpG N Q D L s h) (ok:L.ok) (R:List Int):HpG N Q D L { s with R:=R } (h.set L.br (.cells L.gr (cI R) 0)) :=
 ⟨by rw[List.getElem?_set_ne ok.sr.symm]; exact H.sch,by rw[List.getElem?_set_ne ok.wr.symm]; exact H.w,by rw[List.getElem?_set_self H.lt.r],by rw[List.getElem?_set_ne ok.ra]; exact H.a⟩
end LM.GZ
namespace LM.GZ
open Go LM
variable {P:Nat→Option SFunc} [Has P]
variable {r:CRn} {names:List Str}
theorem app_c {e:Option Nat} {bytes:Nat} {xs:List CV} {h:Heap} (hx:∀ x ∈ xs,Elem e x) (hs:xs.length*bytes≤2^47) (hs2:xs.length≤9223372036854775807) (hn:xs≠[]):appendOp none e bytes .nil (.c (.slice xs)) h=some (.slice h.length 1 0 xs.length e none,h++[.cells 1 (cellsOf xs) 0]):=by
 have h1:sliceCells e h (.c (.slice xs))=some (xs.length,cellsOf xs):=rfl
 have h2:=cellsOf_length hx
 have hne:xs.length≠0:=fun e=>hn (List.eq_nil_of_length_eq_zero e)
 have h4:¬ (2^47<xs.length*bytes∨9223372036854775807<xs.length):=by omega
 simp[appendOp,h1,flatAll_cellsOf hx,h2,hne,ok,newId,newAt]
 exact⟨hs,hs2⟩
theorem app_e {e:Option Nat} {bytes:Nat} {h:Heap}:appendOp none e bytes .nil (.c (.slice [])) h=some (.nil,h):=by
 simp[appendOp,sliceCells,ok,flatAll]
theorem clElems (l:List CCl):∀ x ∈ l.map clE,Elem (some 11) x:=by
 intro x hx
 obtain⟨t,_,rfl⟩:=List.mem_map.1 hx
 exact⟨_,rfl,rfl,by simp[clC,CV.flat]⟩
theorem S194 (l:List CTr) (hl:l.length<1000):ffn P 194 [.slice (l.map trE)]=some (if l=[] then (.nil,[.cells 1 [] 0]) else (.slice 1 1 0 l.length (some 4) none,[.cells 1 [] 0,.cells 1 (l.flatMap trL) 0])):=by
 rw[u194]
 rcases l with _ | ⟨a,l⟩
 ·simp[c194,app_e]
 ·have:=app_c (e:=some 4) (bytes:=32) (xs:=(a::l).map trE) (h:=[.cells 1 [] 0]) (trElems _) (by rw[List.length_map]; omega) (by rw[List.length_map]; omega) (by simp)
  rw[trE_cells] at this
  generalize hC:(a::l).flatMap trL=C at *
  generalize hX:a::l=X at *
  have hne:X≠[]:=by rw[← hX]; simp
  simp[c194,this,hne]
theorem S195 (l:List Int) (hl:l.length<1000):ffn P 195 [.slice (l.map ci)]=some (if l=[] then (.nil,[.cells 1 [] 0]) else (.slice 1 1 0 l.length none none,[.cells 1 [] 0,.cells 1 (cI l) 0])):=by
 rw[u195]
 rcases l with _ | ⟨a,l⟩
 ·simp[c195,app_e]
 ·have:=app_c (e:=none) (bytes:=8) (xs:=(a::l).map ci) (h:=[.cells 1 [] 0]) (intElems _) (by rw[List.length_map]; omega) (by rw[List.length_map]; omega) (by simp)
  rw[cellsOf_ints] at this
  generalize hX:a::l=X at *
  have hne:X≠[]:=by rw[← hX]; simp
  simp[c195,this,hne]
theorem S193 (l:List CCl) (hl:l.length<1000):ffn P 193 [.slice (l.map clE)]=some (if l=[] then (.nil,[.cells 1 [] 0]) else (.slice 1 1 0 l.length (some 11) none,[.cells 1 [] 0,.cells 1 (cellsOf (l.map clE)) 0])):=by
 rw[u193]
 rcases l with _ | ⟨a,l⟩
 ·simp[c193,app_e]
 ·have:=app_c (e:=some 11) (bytes:=120) (xs:=(a::l).map clE) (h:=[.cells 1 [] 0]) (clElems _) (by rw[List.length_map]; omega) (by rw[List.length_map]; omega) (by simp)
  generalize hX:a::l=X at *
  have hne:X≠[]:=by rw[← hX]; simp
  simp[c193,this,hne]
theorem allDead_app (h X:Heap):∀ (n k:Nat),allDead (h++X) (h.length+k) n=allDead X k n
 | 0,k=>rfl
 | n+1,k=>by
  have ih:=allDead_app h X n (k+1)
  rw[← Nat.add_assoc] at ih
  rw[allDead,allDead,ih]
  unfold isDead
  rw[List.getElem?_append_right (by omega),Nat.add_sub_cancel_left]
theorem setFrom_app (h:Heap):∀ (l:List LB) (X:Heap) (k:Nat),setFrom (h++X) (h.length+k) l=h++setFrom X k l
 | [],X,k=>rfl
 | b::l,X,k=>by
  have ih:=setFrom_app h l (X.set k b) (k+1)
  rw[← Nat.add_assoc] at ih
  rw[setFrom,setFrom,List.set_append_right _ _ (by omega),Nat.add_sub_cancel_left,ih]
theorem seth_at (h X:Heap) (k:Nat) (B:LB):(h++X).set (h.length+k) B=h++X.set k B:=by
 rw[List.set_append_right _ _ (by omega),Nat.add_sub_cancel_left]
theorem seth_at1 (h X:Heap) (k j:Nat) (B:LB):(h++X).set (h.length+k+j) B=h++X.set (k+j) B:=by
 rw[Nat.add_assoc,seth_at]
theorem shiftL_c (n:Nat):∀ l:List CV,shiftL n (l.map .c)=l.map .c
 | []=>rfl
 | a::l=>by simp only[List.map_cons,shiftL,LV.shift,shiftL_c n l]
def stB (t:Int) (l:List CCl):LB:=.cells 0 [.c (ci t),.c (.slice (l.map clE))] 0
theorem S150a (l:List CCl) (t:Int) (hl:l≠[]) (hl2:l.length<1000) (h:Heap):execS P (limS P) c150_n6 ⟨[.ptr h.length 0 0,.ptr (h.length+1) 0 0],h++[rnB r names,stB t l]⟩=some (.normal,⟨[.ptr (h.length+4) 0 0],h++[rnB r names,stB t l,.cells 1 [] 0,.cells 1 (cellsOf (l.map clE)) 0,plB r names (h.length+3) 1 l.length t]⟩):=by
 have e193:=S193 (P:=P) l hl2
 rw[if_neg hl] at e193
 have hs:shiftL (h.length+2) (cellsOf (l.map clE))=cellsOf (l.map clE):=shiftL_c _ _
 have hA:∀ B C,allDead (h++[B,C,.dead,.dead,.dead]) (h.length+2) 2=true:=fun B C=>by rw[allDead_app]; rfl
 have hS:∀ B C,setFrom (h++[B,C,.dead,.dead,.dead]) (h.length+2) (shiftB (h.length+2) [.cells 1 [] 0,.cells 1 (cellsOf (l.map clE)) 0])=h++[B,C,.cells 1 [] 0,.cells 1 (cellsOf (l.map clE)) 0,.dead]:=fun B C=>by
  rw[setFrom_app]
  simp only[shiftB,LB.shift,shiftL,hs]
  rfl
 have hD:∀ B C D E,(h++[B,C,D,E,LB.dead])[h.length+2+2]? = some .dead:=fun B C D E=>by
  rw[List.getElem?_append_right (by omega)]
  simp[show h.length+2+2-h.length=4 from by omega]
 have hD' : ∀ B C D E hh,(h++[B,C,D,E,LB.dead])[h.length+2+2]'hh=.dead:=fun B C D E hh=>(List.getElem?_eq_some_iff.1 (hD B C D E)).2
 have h1:1+(h.length+2)=h.length+3:=by omega
 simp[c150_n6,rnB,stB,e193,hA,hs,hS,hD,hD',h1,LV.shift,shiftL,plB,seth_at1]
def cst (c:CCl):LV × LV:=(.c (.slice (c.tries.map trE)),.c (.slice (c.runs.map ci)))
theorem S150b {H:Heap} {bp bc n i:Nat} {t:Int} {c:CCl} {l:List (CCl × (LV × LV))} (hbp:H[bp]? = some (plB r names bc 1 n t)) (hbc:H[bc]? = some (.cells 1 (rowL l) 0)) (hne:bp≠bc) (hi:l[i]? = some (c,cst c)) (hn:l.length=n) (hn2:n<1000) (ht:c.tries=[]) (hr:c.runs=[]) :
  execS P (limS P) c150_n4 ⟨[.ptr bp 0 0,.c (ci i),.c (ci n),.c (ci i)],H⟩=some (.normal,⟨[.ptr bp 0 0,.c (ci n),.c (ci i)],List.set (H++[LB.cells 1 [] 0,LB.dead,LB.cells 1 [] 0,LB.dead]) bc (LB.cells 1 (rowL (l.set i (c,(.nil,.nil)))) 0)⟩):=by
 have e194:=S194 (P:=P) [] (by simp)
 have e195:=S195 (P:=P) [] (by simp)
 simp at e194 e195
 have q0:=ltG hbp
 have q1:=ltG hbc
 have a0:∀ X,(H++X)[bp]? = some (plB r names bc 1 n t):=fun X=>by rw[List.getElem?_append_left q0]; exact hbp
 have a0':=fun X=>(List.getElem?_eq_some_iff.1 (a0 X)).2
 have a1:∀ X,(H++X)[bc]? = some (.cells 1 (rowL l) 0):=fun X=>by rw[List.getElem?_append_left q1]; exact hbc
 have a1':=fun X=>(List.getElem?_eq_some_iff.1 (a1 X)).2
 have n0:bp<H.length+4:=by omega
 have n1:bc<H.length+4:=by omega
 have hil:i<n:=by rw[← hn]; exact (List.getElem?_eq_some_iff.1 hi).1
 have hii:(i:Int)<n:=by omega
 have c9:(rowL l)[i*11+9]? = some (.c (.slice [])):=by rw[rowL_at l i 9 _ hi (by decide)]; simp[clL,cst,ht]
 have c10:(rowL l)[i*11+10]? = some (.c (.slice [])):=by rw[rowL_at l i 10 _ hi (by decide)]; simp[clL,cst,hr]
 obtain⟨p9,c9'⟩:=List.getElem?_eq_some_iff.1 c9
 obtain⟨p10,c10'⟩:=List.getElem?_eq_some_iff.1 c10
 have s9:=rowL_set l i 9 c c (cst c) (.nil,(cst c).2) .nil hi rfl (by decide)
 have s10:=rowL_set (l.set i (c,(.nil,(cst c).2))) i 10 c c (.nil,(cst c).2) (.nil,.nil) .nil (by rw[List.getElem?_set_self (by omega)]) rfl (by decide)
 rw[List.set_set,← s9] at s10
 rw[← s10]
 have hA:∀ C D,allDead (H++[.dead,.dead,C,D]) H.length 1=true:=fun C D=>by have:=allDead_app H [.dead,.dead,C,D] 1 0; simp only[Nat.add_zero] at this; rw[this]; rfl
 have hA2:∀ C D,allDead (H++[C,D,.dead,.dead]) (H.length+2) 1=true:=fun C D=>by rw[allDead_app]; rfl
 have hS1:∀ A B C D,setFrom (H++[A,B,C,D]) H.length (shiftB H.length [LB.cells 1 [] 0])=H++[LB.cells 1 [] 0,B,C,D]:=fun A B C D=>by
  have:=setFrom_app H (shiftB H.length [LB.cells 1 [] 0]) [A,B,C,D] 0
  rw[Nat.add_zero] at this
  rw[this]
  rfl
 have hS2:∀ A B C D,setFrom (H++[A,B,C,D]) (H.length+2) (shiftB (H.length+2) [LB.cells 1 [] 0])=H++[A,B,LB.cells 1 [] 0,D]:=fun A B C D=>by
  rw[setFrom_app]
  rfl
 have hX:∀ (X:Heap) (B:LB),List.set (H++X) bc B=List.set H bc B++X:=fun X B=>by rw[List.set_append_left _ _ q1]
 have hQ:∀ (X:Heap) (B:LB),(List.set H bc B++X)[bp]? = some (plB r names bc 1 n t):=fun X B=>by
  rw[List.getElem?_append_left (by rw[List.length_set]; omega),List.getElem?_set_ne (Ne.symm hne)]
  exact hbp
 have hQ':=fun X B=>(List.getElem?_eq_some_iff.1 (hQ X B)).2
 have hR:∀ (X:Heap) (B:LB),(List.set H bc B++X)[bc]? = some B:=fun X B=>by
  rw[List.getElem?_append_left (by rw[List.length_set]; omega),List.getElem?_set_self q1]
 have hR':=fun X B=>(List.getElem?_eq_some_iff.1 (hR X B)).2
 have hX2:∀ (X:Heap) (B C:LB),List.set (List.set H bc B++X) bc C=List.set H bc C++X:=fun X B C=>by rw[List.set_append_left _ _ (by rw[List.length_set]; omega),List.set_set]
 have hl2:∀ X:List LV,X.length=n*11→i*11+10<X.length:=by intro X hX; omega
 have hrl:(rowL l).length=n*11:=by rw[rowL_len,hn]
 unfold plB at a0 a0' hQ hQ'
 simp[c150_n4,a0,a0',a1,a1',n0,n1,q0,q1,hil,hii,e194,e195,c9,c9',p9,c10,c10',p10,hA,hA2,hS1,hS2,LV.shift,hX,hX2,hQ,hQ',hR,hR',hrl]
 omega
theorem S150c {H:Heap} {bp bc n i:Nat} {t:Int} {c:CCl} {l:List (CCl × (LV × LV))} (hbp:H[bp]? = some (plB r names bc 1 n t)) (hbc:H[bc]? = some (.cells 1 (rowL l) 0)) (hne:bp≠bc) (hi:l[i]? = some (c,cst c)) (hn:l.length=n) (hn2:n<1000) (ht:c.tries≠[]) (ht2:c.tries.length<1000) (hr:c.runs=[]) :
  execS P (limS P) c150_n4 ⟨[.ptr bp 0 0,.c (ci i),.c (ci n),.c (ci i)],H⟩=some (.normal,⟨[.ptr bp 0 0,.c (ci n),.c (ci i)],List.set (H++[LB.cells 1 [] 0,LB.cells 1 (c.tries.flatMap trL) 0,LB.cells 1 [] 0,LB.dead]) bc (LB.cells 1 (rowL (l.set i (c,(.slice (H.length+1) 1 0 c.tries.length (some 4) none,.nil)))) 0)⟩):=by
 have trc:shiftL H.length (c.tries.flatMap trL)=c.tries.flatMap trL:=by rw[← trE_cells]; exact shiftL_c _ _
 have e194:=S194 (P:=P) c.tries ht2
 have e195:=S195 (P:=P) [] (by simp)
 rw[if_neg ht] at e194
 simp at e195
 have q0:=ltG hbp
 have q1:=ltG hbc
 have a0:∀ X,(H++X)[bp]? = some (plB r names bc 1 n t):=fun X=>by rw[List.getElem?_append_left q0]; exact hbp
 have a0':=fun X=>(List.getElem?_eq_some_iff.1 (a0 X)).2
 have a1:∀ X,(H++X)[bc]? = some (.cells 1 (rowL l) 0):=fun X=>by rw[List.getElem?_append_left q1]; exact hbc
 have a1':=fun X=>(List.getElem?_eq_some_iff.1 (a1 X)).2
 have n0:bp<H.length+4:=by omega
 have n1:bc<H.length+4:=by omega
 have hil:i<n:=by rw[← hn]; exact (List.getElem?_eq_some_iff.1 hi).1
 have hii:(i:Int)<n:=by omega
 have c9:(rowL l)[i*11+9]? = some (.c (.slice (c.tries.map trE))):=by rw[rowL_at l i 9 _ hi (by decide)]; simp[clL,cst]
 have c10:(rowL l)[i*11+10]? = some (.c (.slice [])):=by rw[rowL_at l i 10 _ hi (by decide)]; simp[clL,cst,hr]
 obtain⟨p9,c9'⟩:=List.getElem?_eq_some_iff.1 c9
 obtain⟨p10,c10'⟩:=List.getElem?_eq_some_iff.1 c10
 obtain⟨V,hV⟩ : ∃ V,V=LV.slice (H.length+1) 1 0 c.tries.length (some 4) none:=⟨_,rfl⟩
 rw[← hV]
 have s9:=rowL_set l i 9 c c (cst c) (V,(cst c).2) V hi rfl (by decide)
 have s10:=rowL_set (l.set i (c,(V,(cst c).2))) i 10 c c (V,(cst c).2) (V,.nil) .nil (by rw[List.getElem?_set_self (by omega)]) rfl (by decide)
 rw[List.set_set,← s9] at s10
 rw[← s10]
 have hA:∀ C D,allDead (H++[.dead,.dead,C,D]) H.length 2=true:=fun C D=>by have:=allDead_app H [.dead,.dead,C,D] 2 0; simp only[Nat.add_zero] at this; rw[this]; rfl
 have hA2:∀ C D,allDead (H++[C,D,.dead,.dead]) (H.length+2) 1=true:=fun C D=>by rw[allDead_app]; rfl
 have hS1:∀ A B C D,setFrom (H++[A,B,C,D]) H.length (shiftB H.length [LB.cells 1 [] 0,LB.cells 1 (c.tries.flatMap trL) 0])=H++[LB.cells 1 [] 0,LB.cells 1 (c.tries.flatMap trL) 0,C,D]:=fun A B C D=>by
  have:=setFrom_app H (shiftB H.length [LB.cells 1 [] 0,LB.cells 1 (c.tries.flatMap trL) 0]) [A,B,C,D] 0
  rw[Nat.add_zero] at this
  rw[this]
  simp only[shiftB,LB.shift,shiftL,trc]
  rfl
 have hS2:∀ A B C D,setFrom (H++[A,B,C,D]) (H.length+2) (shiftB (H.length+2) [LB.cells 1 [] 0])=H++[A,B,LB.cells 1 [] 0,D]:=fun A B C D=>by
  rw[setFrom_app]
  rfl
 have hX:∀ (X:Heap) (B:LB),List.set (H++X) bc B=List.set H bc B++X:=fun X B=>by rw[List.set_append_left _ _ q1]
 have hQ:∀ (X:Heap) (B:LB),(List.set H bc B++X)[bp]? = some (plB r names bc 1 n t):=fun X B=>by
  rw[List.getElem?_append_left (by rw[List.length_set]; omega),List.getElem?_set_ne (Ne.symm hne)]
  exact hbp
 have hQ':=fun X B=>(List.getElem?_eq_some_iff.1 (hQ X B)).2
 have hR:∀ (X:Heap) (B:LB),(List.set H bc B++X)[bc]? = some B:=fun X B=>by
  rw[List.getElem?_append_left (by rw[List.length_set]; omega),List.getElem?_set_self q1]
 have hR':=fun X B=>(List.getElem?_eq_some_iff.1 (hR X B)).2
 have hX2:∀ (X:Heap) (B C:LB),List.set (List.set H bc B++X) bc C=List.set H bc C++X:=fun X B C=>by rw[List.set_append_left _ _ (by rw[List.length_set]; omega),List.set_set]
 have hl2:∀ X:List LV,X.length=n*11→i*11+10<X.length:=by intro X hX; omega
 have hrl:(rowL l).length=n*11:=by rw[rowL_len,hn]
 have h11:1+H.length=H.length+1:=by omega
 unfold plB at a0 a0' hQ hQ'
 subst hV
 simp[c150_n4,a0,a0',a1,a1',n0,n1,q0,q1,hil,hii,e194,e195,c9,c9',p9,c10,c10',p10,hA,hA2,hS1,hS2,LV.shift,hX,hX2,hQ,hQ',hR,hR',hrl,h11]
 omega
end LM.GZ
namespace LM.GZ
open Go LM
variable {P:Nat→Option SFunc} [Has P]
variable {r:CRn} {names:List Str} {c:CCl} {n bp bc n0 i:Nat} {t:Int} {vs:List (LV × LV)} {H0 H:Heap}
def rowV (c:CCl) (vs:List (LV × LV)):List (CCl × (LV × LV)):=vs.map fun v=>(c,v)
def okW (c:CCl) (n0:Nat) (H:Heap) (v:LV × LV):Prop:=(c.tries=[]∧v=(.nil,.nil))∨(c.tries≠[]∧∃ b,n0≤b∧v=(.slice b 1 0 c.tries.length (some 4) none,.nil)∧H[b]? = some (.cells 1 (c.tries.flatMap trL) 0))
structure OpS (r:CRn) (names:List Str) (c:CCl) (n bp bc n0:Nat) (t:Int) (i:Nat) (vs:List (LV × LV)) (H0 H:Heap):Prop where
 bpn:bp<n0
 bcn:bc<n0
 ne:bp≠bc
 pl:H[bp]? = some (plB r names bc 1 n t)
 row:H[bc]? = some (.cells 1 (rowL (rowV c vs)) 0)
 len:vs.length=n
 ln:n0≤H.length
 low:∀ k,k<n0→k≠bc→H[k]? = H0[k]?
 rest:∀ j,i≤j→j<n→vs[j]? = some (cst c)
 done:∀ j v,j<i→vs[j]? = some v→okW c n0 H v
 dis:∀ (j k:Nat) (x y:LV × LV),j≠k→j<i→k<i→vs[j]? = some x→vs[k]? = some y→apartV x y
theorem okW.keep {v:LV × LV} {H' : Heap} (h:okW c n0 H v) (hk:∀ b B,n0≤b→blk v.1=some b→H[b]? = some B→H'[b]? = some B):okW c n0 H' v:=by
 rcases h with h | ⟨h1,b,h2,h3,h4⟩
 ·exact .inl h
 ·exact .inr ⟨h1,b,h2,h3,hk b _ h2 (by rw[h3]; rfl) h4⟩
theorem rowV_mem {v:LV × LV} (h:v ∈ vs):v.1 ∈ rowL (rowV c vs):=rowL_mem (x:=(c,v)) (List.mem_map.2 ⟨v,h,rfl⟩)
theorem OpS.gc (h:OpS r names c n bp bc n0 t i vs H0 H) {m:Nat} (hm:n0≤m):OpS r names c n bp bc n0 t i vs H0 (gcH m H):=by
 unfold gcH
 split
 ·rename_i hu
  have tk:∀ k,k<m→(H.take m)[k]? = H[k]?:=fun k hk=>List.getElem?_take_of_lt hk
  have b0:=h.bpn
  have b1:=h.bcn
  refine⟨h.bpn,h.bcn,h.ne,by rw[tk _ (by omega)]; exact h.pl,by rw[tk _ (by omega)]; exact h.row,h.len,by rw[List.length_take]; have:=h.ln; omega,fun k hk hk2=>by rw[tk _ (by omega)]; exact h.low k hk hk2,h.rest,fun j v hj hv=>?_,h.dis⟩
  have u2:LB.under m (.cells 1 (rowL (rowV c vs)) 0)=true:=underB_get (i:=bc) hu (by rw[tk _ (by omega)]; exact h.row)
  simp only[LB.under] at u2
  refine (h.done j v hj hv).keep fun b B hb hb2 hB=>?_
  have:=underL_mem u2 (rowV_mem (c:=c) (List.mem_of_getElem? hv))
  rw[tk]
  ·exact hB
  ·cases hv1:v.1 with
   | slice b' g o len e q =>
    rw[hv1] at hb2 this
    simp[blk] at hb2
    simp[LV.under] at this
    omega
   | ptr b' g o =>
    rw[hv1] at hb2 this
    simp[blk] at hb2
   | _=>rw[hv1] at hb2; simp[blk] at hb2
 ·exact h
theorem rowV_set (v:LV × LV):(rowV c vs).set i (c,v)=rowV c (vs.set i v):=by
 unfold rowV
 rw[List.map_set]
theorem OpS.step (h:OpS r names c n bp bc n0 t i vs H0 H) (hi:i<n) (X:Heap) (v:LV × LV) (hv:okW c H.length (H++X) v):OpS r names c n bp bc n0 t (i+1) (vs.set i v) H0 (List.set (H++X) bc (LB.cells 1 (rowL (rowV c (vs.set i v))) 0)):=by
 have b0:=h.bpn
 have b1:=h.bcn
 have b2:=h.ln
 have hl:=h.len
 refine⟨h.bpn,h.bcn,h.ne,?_,?_,by simp[hl],by simp; omega,fun k hk hk2=>?_,fun j hj hj2=>?_,fun j w hj hw=>?_,fun j k x y hjk hj hk hx hy=>?_⟩
 ·rw[List.getElem?_set_ne (Ne.symm h.ne),List.getElem?_append_left (by omega)]; exact h.pl
 ·rw[List.getElem?_set_self (by simp; omega)]
 ·rw[List.getElem?_set_ne (Ne.symm hk2),List.getElem?_append_left (by omega)]; exact h.low k hk hk2
 ·rw[List.getElem?_set_ne (by omega)]; exact h.rest j (by omega) hj2
 ·by_cases e:j=i
  ·subst e
   rw[List.getElem?_set_self (by omega)] at hw
   cases hw
   rcases hv with hv | ⟨v1,b,v2,v3,v4⟩
   ·exact .inl hv
   ·refine .inr ⟨v1,b,by omega,v3,?_⟩
    rw[List.getElem?_set_ne (by omega)]; exact v4
  ·rw[List.getElem?_set_ne (Ne.symm e)] at hw
   refine (h.done j w (by omega) hw).keep fun b B hb hb2 hB=>?_
   rw[List.getElem?_set_ne (by omega),List.getElem?_append_left (ltG hB)]; exact hB
 ·have bl:∀ (j:Nat) (w:LV × LV),j<i→vs[j]? = some w→(∀ k,blk w.1=some k→k<H.length)∧∀ k,blk w.2≠some k:=by
   intro j w hj hw
   rcases h.done j w hj hw with ⟨_,rfl⟩ | ⟨_,b,_,rfl,e⟩
   ·exact⟨fun k hk=>by simp[blk] at hk,fun k hk=>by simp[blk] at hk⟩
   ·exact⟨fun k hk=>by simp[blk] at hk; subst hk; exact ltG e,fun k hk=>by simp[blk] at hk⟩
  have bv:(∀ k,blk v.1=some k→H.length≤k)∧∀ k,blk v.2≠some k:=by
   rcases hv with ⟨_,rfl⟩ | ⟨_,b,e,rfl,_⟩
   ·exact⟨fun k hk=>by simp[blk] at hk,fun k hk=>by simp[blk] at hk⟩
   ·exact⟨fun k hk=>by simp[blk] at hk; subst hk; exact e,fun k hk=>by simp[blk] at hk⟩
  by_cases ej:j=i
  ·subst ej
   rw[List.getElem?_set_self (by omega)] at hx
   cases hx
   rw[List.getElem?_set_ne hjk] at hy
   have y1:=bl k y (by omega) hy
   intro q hq
   rcases hq with hq | hq
   ·refine⟨fun e=>?_,y1.2 q⟩
    have:=bv.1 q hq
    have:=y1.1 q e
    omega
   ·exact absurd hq (bv.2 q)
  ·rw[List.getElem?_set_ne (Ne.symm ej)] at hx
   have x1:=bl j x (by omega) hx
   by_cases ek:k=i
   ·subst ek
    rw[List.getElem?_set_self (by omega)] at hy
    cases hy
    intro q hq
    rcases hq with hq | hq
    ·refine⟨fun e=>?_,bv.2 q⟩
     have:=bv.1 q e
     have:=x1.1 q hq
     omega
    ·exact absurd hq (x1.2 q)
   ·rw[List.getElem?_set_ne (Ne.symm ek)] at hy
    exact h.dis j k x y hjk (by omega) (by omega) hx hy
theorem step150 (h:OpS r names c n bp bc n0 t i vs H0 H) (hi:i<n) (hn:n<1000) (ht:c.tries.length<1000) (hr:c.runs=[]) :
  ∃ vs' H',execS P (limS P) c150_n4 ⟨[.ptr bp 0 0,.c (ci i),.c (ci n),.c (ci i)],H⟩=some (.normal,⟨[.ptr bp 0 0,.c (ci n),.c (ci i)],H'⟩)∧OpS r names c n bp bc n0 t (i+1) vs' H0 H':=by
 have gi:(rowV c vs)[i]? = some (c,cst c):=by unfold rowV; rw[List.getElem?_map,h.rest i (Nat.le_refl _) hi]; rfl
 have hl:(rowV c vs).length=n:=by unfold rowV; rw[List.length_map,h.len]
 by_cases hT:c.tries=[]
 ·have e:=S150b (P:=P) h.pl h.row h.ne gi hl hn hT hr
  rw[rowV_set] at e
  exact⟨_,_,e,h.step hi _ _ (.inl ⟨hT,rfl⟩)⟩
 ·have e:=S150c (P:=P) h.pl h.row h.ne gi hl hn hT ht hr
  rw[rowV_set] at e
  refine⟨_,_,e,h.step hi _ _ (.inr ⟨hT,H.length+1,by omega,rfl,?_⟩)⟩
  rw[List.getElem?_append_right (by omega),Nat.add_sub_cancel_left]
  rfl
theorem L150 (hn:n<1000) (ht:c.tries.length<1000) (hr:c.runs=[]):∀ (k i:Nat) (vs:List (LV × LV)) (H:Heap),i+k=n→OpS r names c n bp bc n0 t i vs H0 H →
  ∃ vs' H',execS P (limS P) c150_l0 ⟨[.ptr bp 0 0,.c (ci n),.c (ci i)],H⟩=some (.exit 0,⟨[.ptr bp 0 0],H'⟩)∧OpS r names c n bp bc n0 t n vs' H0 H':=by
 intro k
 induction k with
 | zero =>
  intro i vs H hk hS
  have:i=n:=by omega
  subst this
  refine⟨vs,H,?_,hS⟩
  rw[r150_l0]
  simp[c150_l0b,c150_n1]
 | succ k ih =>
  intro i vs H hk hS
  have hw:IntKind.i64.wrap ((i:Int)+1)=(i:Int)+1:=wrap64 (by omega) (by omega)
  have hlt:(i:Int)<n:=by omega
  obtain⟨vs1,H1,e1,s1⟩:=step150 (P:=P) hS (by omega) hn ht hr
  have hg:=s1.gc (m:=H.length) hS.ln
  obtain⟨vs',H',e3,s3⟩:=ih (i+1) vs1 _ (by omega) hg
  refine⟨vs',H',?_,s3⟩
  have hbl:bp<H.length:=ltG hS.pl
  rw[r150_l0]
  unfold c150_l0b c150_n1 c150_n2 c150_n3
  generalize hX:c150_n4=X at e1
  clear hX
  simp[-gc,hlt,e1,hw]
  rw[gc_eq]
  have hsc:∀ q:Prop,[Decidable q]→(if q then LM.scrub H.length [.ptr bp 0 0,.c (ci n),.c (ci ((i:Int)+1))] else [.ptr bp 0 0,.c (ci n),.c (ci ((i:Int)+1))])=[.ptr bp 0 0,.c (ci n),.c (ci ((i:Int)+1))]:=by
   intro q _
   split
   ·simp[LM.scrub,LV.under,hbl]
   ·rfl
  rw[hsc]
  exact e3
theorem zip_rowV:∀ {vs:List (LV × LV)} {k:Nat},vs.length=k→(List.replicate k c).zip vs=rowV c vs
 | [],k,h=>by simp[rowV]
 | v::vs,k,h=>by
  subst h
  rw[List.length_cons,List.replicate_succ,List.zip_cons_cons,zip_rowV rfl]
  rfl
theorem S150 {k:Nat} (hk:0<k) (hk2:k<1000) (ht:c.tries.length<1000) (hr:c.runs=[]) (h:Heap) :
  ∃ vs H',sfn P 150 [.c (rnE r names),.c (.agg [ci t,.slice ((List.replicate k c).map clE)])] h=some (.ptr (h.length+4) 0 0,H')∧PlayH r names ⟨t,List.replicate k c⟩ vs (h.length+4) (h.length+3) 1 H'∧(∀ q,q<h.length→H'[q]? = h[q]?)∧∀ x ∈ vs,∀ q,(blk x.1=some q∨blk x.2=some q)→h.length≤q:=by
 have hl:List.replicate k c≠[]:=by simp; omega
 have hl2:(List.replicate k c).length=k:=by simp
 have e:=S150a (P:=P) (r:=r) (names:=names) (List.replicate k c) t hl (by rw[hl2]; exact hk2) h
 rw[hl2] at e
 have hrow:cellsOf ((List.replicate k c).map clE)=rowL (rowV c (List.replicate k (cst c))):=by
  have:∀ k,cellsOf ((List.replicate k c).map clE)=rowL (rowV c (List.replicate k (cst c))):=by
   intro k
   induction k with
   | zero=>rfl
   | succ k ih =>
    simp only[List.replicate_succ,List.map_cons,rowV] at ih ⊢
    have e1:∀ (x:CV) (l:List CV),cellsOf (x::l)=x.cells.map .c++cellsOf l:=fun x l=>by simp[cellsOf]
    have e2:∀ (x:CCl × (LV × LV)) l,rowL (x::l)=clL x.1 x.2++rowL l:=fun x l=>by simp[rowL]
    rw[e1,e2,ih]
    rfl
  exact this k
 generalize hH0:h++[rnB r names,stB t (List.replicate k c),.cells 1 [] 0,.cells 1 (cellsOf ((List.replicate k c).map clE)) 0,plB r names (h.length+3) 1 k t]=H0 at e
 have hO:OpS r names c k (h.length+4) (h.length+3) (h.length+5) t 0 (List.replicate k (cst c)) H0 H0:=by
  refine⟨by omega,by omega,by omega,?_,?_,by simp,by rw[← hH0]; simp,fun _ _ _=>rfl,fun j _ hj=>by simp[hj],fun j v hj=>by omega,fun j k' x y _ hj=>by omega⟩
  ·rw[← hH0,List.getElem?_append_right (by omega),Nat.add_sub_cancel_left]; rfl
  ·rw[← hH0,List.getElem?_append_right (by omega),Nat.add_sub_cancel_left,← hrow]; rfl
 obtain⟨vs,H',e2,s⟩:=L150 (P:=P) hk2 ht hr k 0 _ _ (by omega) hO
 have g4:H0[h.length+4]? = some (plB r names (h.length+3) 1 k t):=hO.pl
 refine⟨vs,H',?_,⟨⟨?_,?_,?_,?_⟩,by omega,by decide,?_,?_,?_⟩,fun q hq=>?_,fun x hx q hq=>?_⟩
 ·obtain⟨_,g4'⟩:=List.getElem?_eq_some_iff.1 g4
  rw[u150]
  unfold c150 c150_n5
  generalize hX:c150_n6=X at e
  clear hX
  have en:∀ B C,h++[B,C]=(h++[B])++[C]:=fun B C=>by simp
  unfold rnB stB at e
  unfold plB at g4 g4'
  simp only[List.map_replicate] at e
  have e2' : execS P (limS P) c150_l0 ⟨[.ptr (h.length+4) 0 0,.c (CV.int IntKind.i64 k),.c (CV.int IntKind.i64 0)],H0⟩=_:=e2
  simp[rnE,e,g4,g4',e2']
 ·have:=s.pl
  simpa using this
 ·have:=s.row
  rw[zip_rowV (by simpa using s.len)]
  exact this
 ·simpa using s.len
 ·intro x hx
  obtain⟨j,hj,ej⟩:=List.getElem_of_mem hx
  have gj:(((⟨t,List.replicate k c⟩ : CSs).cls).zip vs)[j]? = some x:=by rw[List.getElem?_eq_getElem hj,ej]
  rw[List.getElem?_zip_eq_some] at gj
  have hjk:j<k:=by have:=(List.getElem?_eq_some_iff.1 gj.1).1; simpa using this
  have hc:x.1=c:=by have:=List.mem_of_getElem? gj.1; exact (List.mem_replicate.1 this).2
  have hd:=s.done j _ hjk gj.2
  rw[hc,hr]
  rcases hd with ⟨a,b⟩ | ⟨a,b,_,d,e⟩
  ·rw[b]; exact⟨.inl ⟨a,rfl⟩,.inl ⟨rfl,rfl⟩⟩
  ·rw[d]; exact⟨.inr ⟨a,b,1,rfl,e⟩,.inl ⟨rfl,rfl⟩⟩
 ·intro x hx b g o m e q hq
  obtain⟨j,hj,ej⟩:=List.getElem_of_mem hx
  have hd:=s.done j x (by rw[← s.len]; exact hj) (by rw[List.getElem?_eq_getElem hj,ej])
  rcases hd with ⟨_,rfl⟩ | ⟨_,_,_,rfl,_⟩
  ·cases hq
  ·cases hq; decide
 ·intro x hx
  obtain⟨j,hj,ej⟩:=List.getElem_of_mem hx
  have hd:=s.done j x (by rw[← s.len]; exact hj) (by rw[List.getElem?_eq_getElem hj,ej])
  rcases hd with ⟨_,rfl⟩ | ⟨_,b,hb,rfl,_⟩
  ·simp[blk]
  ·simp[blk]; omega
 ·intro i j x y hij hx hy
  have li:=(List.getElem?_eq_some_iff.1 hx).1
  have lj:=(List.getElem?_eq_some_iff.1 hy).1
  have:=s.len
  exact s.dis i j x y hij (by omega) (by omega) hx hy
 ·rw[s.low q (by omega) (by omega),← hH0,List.getElem?_append_left hq]
 ·obtain⟨j,hj,ej⟩:=List.getElem_of_mem hx
  have hd:=s.done j x (by rw[← s.len]; exact hj) (by rw[List.getElem?_eq_getElem hj,ej])
  rcases hd with ⟨_,rfl⟩ | ⟨_,b,hb,rfl,_⟩
  ·simp[blk] at hq
  ·simp[blk] at hq; omega
end LM.GZ
namespace LM.GZ
open Go LM
variable {P:Nat→Option SFunc} [Has P]
def lbody196:LCode:=match lc196 with
 | .seq _ (.block _ (.loop _ b))=>b
 | _=>.skip
def rC196:LCode:=match lc196 with
 | .seq a _=>a
 | _=>.skip
theorem lc196_eq:lc196=.seq rC196 (.block 0 (.loop true lbody196)):=rfl
def OverS (P:Nat→Option SFunc) (Q:Nat→Option LFunc):Prop:=∀ pos q f args h x,callS P (limS P) pos q f args h=some x→∃ n,∀ M,n≤M→callF Q (runs Q M).1 pos q f args h=some x
theorem S152 (bp:Nat) (v:List CV) (h:Heap):sfn P 152 [.ptr bp 0 0,.c (.slice v)] h=some (.func 196 [] [.ptr (h.length+1) 0 0,.ptr h.length 0 0],h++[.cells 0 [.ptr bp 0 0] 0,.cells 0 [.c (.slice v)] 0]):=by
 rw[u152]
 simp[c152]
def At196 (bl bq:Nat) (L:List CEn) (j:Nat) (ts:List LV):Prop:=∃ x3 x4 x5 x6 x10 x11 x12 x13 x14 x15 x16 x17 x18 x19 x20 x21 x22 x23 x24 x25 x26 x27 x28:LV,ts=[.tuple [],.ptr bl 0 0,.ptr bq 0 0,x3,x4,x5,x6,.c (.slice (L.map enE)),.c (ci L.length),.c (ci j),x10,x11,x12,x13,x14,x15,x16,x17,x18,x19,x20,x21,x22,x23,x24,x25,x26,x27,x28]
variable {Q:Nat→Option LFunc} {m:Nat} {yh:Hand} {L:List CEn} {bl bq bp j k:Nat} {e:CEn} {H H2 H3 H4:Heap}
theorem At196.scrub {ts:List LV} {n:Nat} (h:At196 bl bq L j ts) (h1:bl<n) (h2:bq<n):At196 bl bq L j (LM.scrub n ts):=by
 obtain⟨x3,x4,x5,x6,x10,x11,x12,x13,x14,x15,x16,x17,x18,x19,x20,x21,x22,x23,x24,x25,x26,x27,x28,rfl⟩:=h
 simp only[LM.scrub,LV.under,underL,decide_eq_true h1,decide_eq_true h2,if_true]
 exact⟨_,_,_,_,_,_,_,_,_,_,_,_,_,_,_,_,_,_,_,_,_,_,_,rfl⟩
theorem I196_go (hj:L[j]? = some e) (hL:L.length<1000) (gq:(H++[enB e])[bq]? = some (.cells 0 [.ptr bp 0 0] 0)) (gq2:H2[bq]? = some (.cells 0 [.ptr bp 0 0] 0)) (ge2:H2[H.length]? = some (enB e))
  (c1:callF Q (runs Q m).1 none false 197 [.ptr bp 0 0,.c (enE e)] (H++[enB e])=some (.c (ci 0),H2)) (c2:callF Q (runs Q m).1 none false 198 [.ptr bp 0 0,.c (enE e)] H2=some (.c (.tuple []),H3)) (hy:yh [.c (ci (j+1)),.c (ci 0)] H3=some (H4,none)) (ts:List LV) (ha:At196 bl bq L j ts) :
  ∃ ts',execI Q (runs Q m).1 (runs Q m).2 yh lbody196 ⟨ts,H⟩ none=some (.normal,⟨ts',H4⟩,none)∧At196 bl bq L (j+1) ts':=by
 obtain⟨x3,x4,x5,x6,x10,x11,x12,x13,x14,x15,x16,x17,x18,x19,x20,x21,x22,x23,x24,x25,x26,x27,x28,rfl⟩:=ha
 have hjl:j<L.length:=(List.getElem?_eq_some_iff.1 hj).1
 have hjl' : (j:Int)<L.length:=by omega
 obtain⟨_,hj'⟩:=List.getElem?_eq_some_iff.1 hj
 have hw:IntKind.i64.wrap ((j:Int)+1)=(j:Int)+1:=wrap64 (by omega) (by omega)
 obtain⟨_,gq'⟩:=List.getElem?_eq_some_iff.1 gq
 obtain⟨_,gq2'⟩:=List.getElem?_eq_some_iff.1 gq2
 obtain⟨_,ge2'⟩:=List.getElem?_eq_some_iff.1 ge2
 refine⟨?ts,?e,?f⟩
 case e =>
  unfold lbody196 lc196
  simp only[enB,enE] at *
  simp[plainI_eq,opI,hj,hj',hjl,hjl',hw,gq,gq',gq2,gq2',ge2,ge2',c1,c2,hy,enE]
  rfl
 case f=>exact⟨_,_,_,_,_,_,_,_,_,_,_,_,_,_,_,_,_,_,_,_,_,_,_,rfl⟩
theorem I196_no (hj:L[j]? = some e) (hL:L.length<1000) (gq:(H++[enB e])[bq]? = some (.cells 0 [.ptr bp 0 0] 0))
  (c1:callF Q (runs Q m).1 none false 197 [.ptr bp 0 0,.c (enE e)] (H++[enB e])=some (.c (ci k),H2)) (hk:k≠0) (hy:yh [.c (ci (j+1)),.c (ci k)] H2=some (H4,none)) (ts:List LV) (ha:At196 bl bq L j ts) :
  ∃ ts',execI Q (runs Q m).1 (runs Q m).2 yh lbody196 ⟨ts,H⟩ none=some (.normal,⟨ts',H4⟩,none)∧At196 bl bq L (j+1) ts':=by
 obtain⟨x3,x4,x5,x6,x10,x11,x12,x13,x14,x15,x16,x17,x18,x19,x20,x21,x22,x23,x24,x25,x26,x27,x28,rfl⟩:=ha
 have hjl:j<L.length:=(List.getElem?_eq_some_iff.1 hj).1
 have hjl' : (j:Int)<L.length:=by omega
 obtain⟨_,hj'⟩:=List.getElem?_eq_some_iff.1 hj
 have hw:IntKind.i64.wrap ((j:Int)+1)=(j:Int)+1:=wrap64 (by omega) (by omega)
 obtain⟨_,gq'⟩:=List.getElem?_eq_some_iff.1 gq
 have hk2:¬ (k:Int)=0:=by omega
 refine⟨?ts,?e,?f⟩
 case e =>
  unfold lbody196 lc196
  simp only[enB,enE] at *
  simp[plainI_eq,opI,hj,hj',hjl,hjl',hw,gq,gq',c1,hk,hk2,hy,enE]
  rfl
 case f=>exact⟨_,_,_,_,_,_,_,_,_,_,_,_,_,_,_,_,_,_,_,_,_,_,_,rfl⟩
theorem I196_end (ts:List LV) (ha:At196 bl bq L L.length ts):∃ ts',execI Q (runs Q m).1 (runs Q m).2 yh lbody196 ⟨ts,H⟩ none=some (.exit 0,⟨ts',H⟩,none):=by
 obtain⟨x3,x4,x5,x6,x10,x11,x12,x13,x14,x15,x16,x17,x18,x19,x20,x21,x22,x23,x24,x25,x26,x27,x28,rfl⟩:=ha
 refine⟨?ts,?e⟩
 case e =>
  unfold lbody196 lc196
  simp[plainI_eq,opI]
  rfl
theorem I196_at (gl:H[bl]? = some (.cells 0 [.c (.slice (L.map enE))] 0)):∃ ts,execI Q (runs Q m).1 (runs Q m).2 yh rC196 ⟨pad 29 [.tuple [],.ptr bl 0 0,.ptr bq 0 0],H⟩ none=some (.normal,⟨ts,H⟩,none)∧At196 bl bq L 0 ts:=by
 obtain⟨_,gl'⟩:=List.getElem?_eq_some_iff.1 gl
 refine⟨?ts,?e,?f⟩
 case e =>
  unfold rC196 lc196
  simp[plainI_eq,opI,gl,gl',pad,List.replicate]
  rfl
 case f=>exact⟨_,_,_,_,_,_,_,_,_,_,_,_,_,_,_,_,_,_,_,_,_,_,_,rfl⟩
end LM.GZ
namespace LM.GZ
open Go LM
variable {P:Nat→Option SFunc} [Has P]
variable {r:CRn} {names:List Str} {s:CSs} {e:CEn} {vs vs' : List (LV × LV)} {H H' : Heap} {pa bp bc n:Nat} {keep:List (Nat × LB)} {out:List (Nat × Nat)}
def Sep (vs:List (LV × LV)) (bp bc k:Nat):Prop:=k≠bp∧k≠bc∧∀ x ∈ vs,blk x.1≠some k∧blk x.2≠some k
theorem PlayH.stay (h:PlayH r names s vs bp bc 1 H) (hk:∀ k,k<H.length→¬ Sep vs bp bc k→H'[k]? = H[k]?):PlayH r names s vs bp bc 1 H':=by
 refine⟨⟨?_,?_,h.p.len,fun x hx=>?_⟩,h.ne,h.g0,h.gen,h.ap,h.dis⟩
 ·rw[hk _ (ltG h.p.pl) fun q=>q.1 rfl]; exact h.p.pl
 ·rw[hk _ (ltG h.p.row) fun q=>q.2.1 rfl]; exact h.p.row
 ·obtain⟨t1,t2⟩:=h.p.all x hx
  have hm:x.2 ∈ vs:=(List.of_mem_zip (show (x.1,x.2) ∈ s.cls.zip vs from hx)).2
  refine⟨t1.move fun k hb=>hk k (t1.lt hb) fun q=>(q.2.2 x.2 hm).1 hb,t2.move fun k hb=>hk k (t2.lt hb) fun q=>(q.2.2 x.2 hm).2 hb⟩
def refE (x:Nat × Nat):CV:=.agg [ci x.1,ci x.2]
theorem refElem (x:Nat × Nat):Elem (some 2) (refE x):=⟨_,rfl,rfl,by simp[CV.flat]⟩
theorem refElems (l:List (Nat × Nat)):∀ x ∈ l.map refE,Elem (some 2) x:=by
 intro x hx
 obtain⟨t,_,rfl⟩:=List.mem_map.1 hx
 exact refElem t
def Tel (pa:Nat) (x:Nat × Nat) (H H' : Heap):Prop:=∃ a b g len H1,H[pa]? = some (.cells 0 [a] 0)∧(a=.nil∨∃ b g len,a=.slice b g 0 len (some 2) none)∧appendOp none (some 2) 16 a (.c (.slice [refE x])) H=some (.slice b g 0 len (some 2) none,H1)∧H1[pa]? = some (.cells 0 [a] 0)∧H'=H1.set pa (.cells 0 [.slice b g 0 len (some 2) none] 0)
def Tells (yh:Hand) (pa:Nat):Prop:=(∀ (i:Nat) H,yh [.c (ci i),.c (ci 0)] H=some (H,none))∧∀ (i k:Nat) H H',k≠0→Tel pa (i,k) H H'→yh [.c (ci i),.c (ci k)] H=some (H',none)
structure BehS (r:CRn) (names:List Str) (keep:List (Nat × LB)) (pa bp bc:Nat) (s:CSs) (vs:List (LV × LV)) (out:List (Nat × Nat)) (H:Heap):Prop where
 play:PlayH r names s vs bp bc 1 H
 kept:∀ x ∈ keep,H[x.1]? = some x.2∧Sep vs bp bc x.1∧x.1≠pa
 pas:Sep vs bp bc pa
 out:(out=[]∧H[pa]? = some (.cells 0 [.nil] 0))∨(out≠[]∧∃ b g,H[pa]? = some (.cells 0 [.slice b g 0 out.length (some 2) none] 0)∧H[b]? = some (.cells g (cellsOf (out.map refE)) 0)∧Sep vs bp bc b∧b≠pa∧∀ x ∈ keep,x.1≠b)
theorem BehS.pal (h:BehS r names keep pa bp bc s vs out H):pa<H.length:=by
 rcases h.out with ⟨_,g⟩ | ⟨_,b,g,g1,_⟩
 ·exact ltG g
 ·exact ltG g1
theorem BehS.same (h:BehS r names keep pa bp bc s vs out H) (hs:SameH H.length H H'):BehS r names keep pa bp bc s vs out H':=by
 refine⟨h.play.same hs,fun x hx=>?_,h.pas,?_⟩
 ·obtain⟨a,b⟩:=h.kept x hx
  exact⟨by rw[hs.2 _ (ltG a)]; exact a,b⟩
 ·rcases h.out with ⟨a,g⟩ | ⟨a,b,g,g1,g2,g3⟩
  ·exact .inl ⟨a,by rw[hs.2 _ (ltG g)]; exact g⟩
  ·exact .inr ⟨a,b,g,by rw[hs.2 _ (ltG g1)]; exact g1,by rw[hs.2 _ (ltG g2)]; exact g2,g3⟩
theorem BehS.next {s' : CSs} (h:BehS r names keep pa bp bc s vs out H) (hp:PlayH r names s' vs' bp bc 1 H') (hf:∀ k,k<H.length→k≠bp→k≠bc→(∀ x ∈ vs,blk x.1≠some k∧blk x.2≠some k)→H'[k]? = H[k]?)
  (hv:∀ x ∈ vs',∀ k,(blk x.1=some k∨blk x.2=some k)→(∃ y ∈ vs,blk y.1=some k∨blk y.2=some k)∨H.length≤k):BehS r names keep pa bp bc s' vs' out H':=by
 have sp:∀ k,k<H.length→Sep vs bp bc k→Sep vs' bp bc k:=fun k hk hs=>by
  refine⟨hs.1,hs.2.1,fun x hx=>⟨fun e=>?_,fun e=>?_⟩⟩
  ·rcases hv x hx k (.inl e) with ⟨y,hy,e2 | e2⟩ | e2
   ·exact (hs.2.2 y hy).1 e2
   ·exact (hs.2.2 y hy).2 e2
   ·omega
  ·rcases hv x hx k (.inr e) with ⟨y,hy,e2 | e2⟩ | e2
   ·exact (hs.2.2 y hy).1 e2
   ·exact (hs.2.2 y hy).2 e2
   ·omega
 have gt:∀ k B,H[k]? = some B→Sep vs bp bc k→H'[k]? = some B:=fun k B hk hs=>by rw[hf k (ltG hk) hs.1 hs.2.1 hs.2.2]; exact hk
 refine⟨hp,fun x hx=>?_,sp _ h.pal h.pas,?_⟩
 ·obtain⟨a,b,c⟩:=h.kept x hx
  exact⟨gt _ _ a b,sp _ (ltG a) b,c⟩
 ·rcases h.out with ⟨a,g⟩ | ⟨a,b,g,g1,g2,g3,g4⟩
  ·exact .inl ⟨a,gt _ _ g h.pas⟩
  ·exact .inr ⟨a,b,g,gt _ _ g1 h.pas,gt _ _ g2 g3,sp _ (ltG g2) g3,g4⟩
theorem PlayH.sep (h:PlayH r names s vs bp bc 1 H) {k:Nat} (hk:H.length≤k):Sep vs bp bc k :=
 ⟨fun e=>by have:=ltG h.p.pl; omega,fun e=>by have:=ltG h.p.row; omega,fun x hx=>⟨fun e=>by have:=h.lt hx (.inl e); omega,fun e=>by have:=h.lt hx (.inr e); omega⟩⟩
theorem BehS.tell (h:BehS r names keep pa bp bc s vs out H) (x:Nat × Nat) (ho:out.length<100000):∃ H',Tel pa x H H'∧BehS r names keep pa bp bc s vs (out++[x]) H':=by
 have pl:=h.pal
 rcases h.out with ⟨rfl,g⟩ | ⟨a,b,g,g1,g2,g3,g4,g5⟩
 ·have ha:=app_c (e:=some 2) (bytes:=16) (xs:=[refE x]) (h:=H) (refElems [x]) (by simp) (by simp) (by simp)
  have gk:∀ k B,H[k]? = some B→(H++[LB.cells 1 (cellsOf [refE x]) 0])[k]? = some B:=fun k B hk=>by rw[List.getElem?_append_left (ltG hk)]; exact hk
  refine⟨_,⟨.nil,H.length,1,1,_,g,.inl rfl,ha,gk _ _ g,rfl⟩,?_,fun y hy=>?_,h.pas,.inr ⟨by simp,H.length,1,?_,?_,h.play.sep (Nat.le_refl _),by omega,fun y hy=>?_⟩⟩
  ·refine h.play.stay fun k hk hs=>?_
   rw[List.getElem?_set_ne (by rintro rfl; exact hs h.pas),List.getElem?_append_left hk]
  ·obtain⟨a,b,c⟩:=h.kept y hy
   exact⟨by rw[List.getElem?_set_ne (Ne.symm c)]; exact gk _ _ a,b,c⟩
  ·rw[List.getElem?_set_self (by simp; omega)]; rfl
  ·rw[List.getElem?_set_ne (by omega),List.getElem?_append_right (Nat.le_refl _),Nat.sub_self]; rfl
  ·obtain⟨a,b,c⟩:=h.kept y hy
   have:=ltG a
   omega
 ·have ha:=append_own (b:=b) (g:=g) (bytes:=16) (e:=some 2) (ys:=out.map refE) (xs:=[refE x]) (h:=H) (len:=out.length) (fz:=0) g2 (refElems out) (refElems [x]) (by simp) (Nat.zero_le _) (by simp) (by simp; omega) (by simp; omega)
  have e1:out.map refE++[refE x]=(out++[x]).map refE:=by simp
  rw[e1] at ha
  have gk:∀ k B X,k≠b→H[k]? = some B→(H.set b X)[k]? = some B:=fun k B X hk hB=>by rw[List.getElem?_set_ne (Ne.symm hk)]; exact hB
  refine⟨_,⟨_,b,g+1,out.length+1,_,g1,.inr ⟨_,_,_,rfl⟩,ha,gk _ _ _ (Ne.symm g4) g1,rfl⟩,?_,fun y hy=>?_,h.pas,.inr ⟨by simp,b,g+1,?_,?_,g3,g4,g5⟩⟩
  ·refine h.play.stay fun k hk hs=>?_
   rw[List.getElem?_set_ne (by rintro rfl; exact hs h.pas),List.getElem?_set_ne (by rintro rfl; exact hs g3)]
  ·obtain⟨a,b',c⟩:=h.kept y hy
   exact⟨by rw[List.getElem?_set_ne (Ne.symm c)]; exact gk _ _ _ (g5 y hy) a,b',c⟩
  ·rw[List.getElem?_set_self (by simp; omega)]; simp
  ·rw[List.getElem?_set_ne (Ne.symm g4),List.getElem?_set_self (ltG g2)]
theorem blk_under {v:LV} {k:Nat} (hb:blk v=some k) (hu:v.under n=true):k<n:=by
 cases v with
 | slice b' g o len e q =>
  simp[blk] at hb
  simp[LV.under] at hu
  omega
 | _=>simp[blk] at hb
theorem PlayH.gc (h:PlayH r names s vs bp bc 1 H) (hn:bp<n):PlayH r names s vs bp bc 1 (gcH n H):=by
 unfold gcH
 split
 ·rename_i hu
  have tk:∀ k,k<n→(H.take n)[k]? = H[k]?:=fun k hk=>List.getElem?_take_of_lt hk
  have u1:LB.under n (plB r names bc 1 s.cls.length s.time)=true:=underB_get (i:=bp) hu (by rw[tk _ hn]; exact h.p.pl)
  have hc:bc<n:=by
   simp[plB,LB.under,underL,LV.under] at u1
   exact u1
  have u2:LB.under n (.cells 1 (rowL (s.cls.zip vs)) 0)=true:=underB_get (i:=bc) hu (by rw[tk _ hc]; exact h.p.row)
  simp only[LB.under] at u2
  have mm:∀ x ∈ s.cls.zip vs,x.2.1 ∈ rowL (s.cls.zip vs)∧x.2.2 ∈ rowL (s.cls.zip vs):=fun x hx=>by
   unfold rowL
   rw[List.mem_flatMap,List.mem_flatMap]
   exact⟨⟨x,hx,by simp[clL]⟩,⟨x,hx,by simp[clL]⟩⟩
  refine⟨⟨by rw[tk _ hn]; exact h.p.pl,by rw[tk _ hc]; exact h.p.row,h.p.len,fun x hx=>?_⟩,h.ne,h.g0,h.gen,h.ap,h.dis⟩
  obtain⟨t1,t2⟩:=h.p.all x hx
  exact⟨t1.move fun k hb=>tk _ (blk_under hb (underL_mem u2 (mm x hx).1)),t2.move fun k hb=>tk _ (blk_under hb (underL_mem u2 (mm x hx).2))⟩
 ·exact h
theorem BehS.gc (h:BehS r names keep pa bp bc s vs out H) (hb:bp<n) (hp:pa<n) (hk:∀ x ∈ keep,x.1<n):BehS r names keep pa bp bc s vs out (gcH n H):=by
 refine⟨h.play.gc hb,fun x hx=>?_,h.pas,?_⟩
 ·obtain⟨a,b⟩:=h.kept x hx
  refine⟨?_,b⟩
  unfold gcH
  split
  ·rw[List.getElem?_take_of_lt (hk x hx)]; exact a
  ·exact a
 ·unfold gcH
  split
  ·rename_i hu
   have tk:∀ k,k<n→(H.take n)[k]? = H[k]?:=fun k hk=>List.getElem?_take_of_lt hk
   rcases h.out with ⟨a,g⟩ | ⟨a,b,g,g1,g2,g3⟩
   ·exact .inl ⟨a,by rw[tk _ hp]; exact g⟩
   ·have u1:=underB_get (i:=pa) hu (by rw[tk _ hp]; exact g1)
    simp[LB.under,underL,LV.under] at u1
    exact .inr ⟨a,b,g,by rw[tk _ hp]; exact g1,by rw[tk _ u1]; exact g2,g3⟩
  ·exact h.out
end LM.GZ
namespace LM.GZ
open Go LM
variable {P:Nat→Option SFunc} [Has P]
variable {Q:Nat→Option LFunc} {r:CRn} {names:List Str} {n:Nat} {L:List CEn} {bl bq pa bp bc:Nat} {keep:List (Nat × LB)}
theorem L196 (hQ:OverS P Q) (hr:RnOK r) (hsz:r.size≤64) (hn:n≤160) (hL:L.length<1000) (hE:∀ e ∈ L,EnOK n e) (kl:(bl,LB.cells 0 [.c (.slice (L.map enE))] 0) ∈ keep) (kq:(bq,LB.cells 0 [.ptr bp 0 0] 0) ∈ keep) :
  ∀ (rest:List CEn) (j:Nat) (s:CSs) (vs:List (LV × LV)) (out:List (Nat × Nat)) (H:Heap),L.drop j=rest→j+rest.length=L.length→SsOK r n s→BehS r names keep pa bp bc s vs out H→out.length≤j →
  ∃ (N:Nat) (vs' : List (LV × LV)) (H' : Heap),BehS r names keep pa bp bc (runL r s rest) vs' (out++asideL r (j+1) s rest) H' ∧
   ∀ M,N≤M→∀ (yh:Hand),Tells yh pa→∀ ts,At196 bl bq L j ts→∃ ts',execI Q (runs Q M).1 (runs Q M).2 yh (.loop true lbody196) ⟨ts,H⟩ none=some (.exit 0,⟨ts',H'⟩,none):=by
 intro rest
 induction rest with
 | nil =>
  intro j s vs out H hd hj hS hB ho
  have hjl:j=L.length:=by simpa using hj
  subst hjl
  refine⟨0,vs,H,by simpa[runL,asideL] using hB,fun M _ yh _ ts ha=>?_⟩
  obtain⟨ts',e⟩:=I196_end (Q:=Q) (m:=M) (yh:=yh) (H:=H) ts ha
  exact⟨ts',by rw[ix_loop,e]; rfl⟩
 | cons e rest ih =>
  intro j s vs out H hd hj hS hB ho
  rw[List.length_cons] at hj
  have hjl:j<L.length:=by omega
  have gj:L[j]? = some e:=by
   have:=List.getElem?_drop (xs:=L) (i:=j) (j:=0)
   rw[hd] at this
   simpa using this.symm
  have hd2:L.drop (j+1)=rest:=by
   rw[List.drop_eq_getElem_cons hjl] at hd
   injection hd
  have he:EnOK n e:=hE e (List.mem_of_getElem? gj)
  have hB1:BehS r names keep pa bp bc s vs out (H++[enB e]):=hB.same ((SameH.rfl' (Nat.le_refl _)).app _)
  have hl1:(H++[enB e]).length=H.length+1:=by simp
  obtain⟨H2,s2,w1⟩:=legal_walk (P:=P) hB1.play hr hsz hS he hn
  have hB2:=hB1.same s2
  have hl2:=s2.1
  have g1:callS P (limS P) none false 197 [.ptr bp 0 0,.c (enE e)] (H++[enB e])=some (.c (ci (legalL r s e)),H2):=by rw[call197]; exact w1
  obtain⟨N1,f1⟩:=hQ _ _ _ _ _ _ g1
  have kql:=ltG (hB.kept _ kq).1
  have kll:=ltG (hB.kept _ kl).1
  have ll:∀ k B,H[k]? = some B→k<H.length:=fun k B h=>ltG h
  have kk:∀ x ∈ keep,x.1<H.length:=fun x hx=>ltG (hB.kept x hx).1
  have gE2:H2[H.length]? = some (enB e):=by rw[s2.2 _ (by omega)]; simp
  by_cases hleg:legalL r s e=0
  ·obtain⟨vs3,H3,w2,p3,l3,f3,v3⟩:=next_walk (P:=P) hB2.play hr hsz hS he hleg
   have hB3:=hB2.next p3 f3 v3
   have g2:callS P (limS P) none false 198 [.ptr bp 0 0,.c (enE e)] H2=some (.c (.tuple []),H3):=by rw[call198]; exact w2
   obtain⟨N2,f2⟩:=hQ _ _ _ _ _ _ g2
   have hB4:=hB3.gc (n:=H.length) (ltG hB.play.p.pl) hB.pal kk
   have hS3:SsOK r n (nextL r s e):=next_ok hr hS he hleg
   obtain⟨N,vs',H',b,ex⟩:=ih (j+1) (nextL r s e) vs3 out (gcH H.length H3) hd2 (by omega) hS3 hB4 (by omega)
   refine⟨N1+N2+N+1,vs',H',?_,fun M hM yh hy ts ha=>?_⟩
   ·have e1:runL r s (e::rest)=runL r (nextL r s e) rest:=by simp[runL,stepL,hleg]
    rw[e1,asideL,if_pos hleg]
    exact b
   ·obtain⟨M',rfl⟩ : ∃ M',M=M'+1:=⟨M-1,by omega⟩
    have c1:=f1 (M'+1) (by omega)
    have c2:=f2 (M'+1) (by omega)
    rw[hleg] at c1
    obtain⟨ts1,x1,x2⟩:=I196_go (m:=M'+1) (yh:=yh) gj hL (hB1.kept _ kq).1 (hB2.kept _ kq).1 gE2 c1 c2 (hy.1 (j+1) H3) ts ha
    have x3:At196 bl bq L (j+1) (if underB H.length (H3.take H.length) then LM.scrub H.length ts1 else ts1):=by
     split
     ·exact x2.scrub kll kql
     ·exact x2
    obtain⟨ts',x4⟩:=ex M' (by omega) yh hy _ x3
    refine⟨ts',?_⟩
    rw[ix_loop,x1]
    simp only[seqI_normal,if_true]
    rw[gc_eq]
    exact x4
  ·obtain⟨H3,t3,hB3⟩:=hB2.tell (j+1,legalL r s e) (by omega)
   have hB4:=hB3.gc (n:=H.length) (ltG hB.play.p.pl) hB.pal kk
   obtain⟨N,vs',H',b,ex⟩:=ih (j+1) s vs (out++[(j+1,legalL r s e)]) (gcH H.length H3) hd2 (by omega) hS hB4 (by simp; omega)
   refine⟨N1+N+1,vs',H',?_,fun M hM yh hy ts ha=>?_⟩
   ·have e1:runL r s (e::rest)=runL r s rest:=by simp[runL,stepL,hleg]
    rw[e1,asideL,if_neg hleg]
    simpa using b
   ·obtain⟨M',rfl⟩ : ∃ M',M=M'+1:=⟨M-1,by omega⟩
    have c1:=f1 (M'+1) (by omega)
    obtain⟨ts1,x1,x2⟩:=I196_no (m:=M'+1) (yh:=yh) gj hL (hB1.kept _ kq).1 c1 hleg (hy.2 (j+1) _ H2 H3 hleg t3) ts ha
    have x3:At196 bl bq L (j+1) (if underB H.length (H3.take H.length) then LM.scrub H.length ts1 else ts1):=by
     split
     ·exact x2.scrub kll kql
     ·exact x2
    obtain⟨ts',x4⟩:=ex M' (by omega) yh hy _ x3
    refine⟨ts',?_⟩
    rw[ix_loop,x1]
    simp only[seqI_normal,if_true]
    rw[gc_eq]
    exact x4
theorem runs_two (Q:Nat→Option LFunc) (M:Nat):(runs Q (M+1)).2=execI Q (runs Q M).1 (runs Q M).2:=rfl
theorem E196 (hQ:OverS P Q) (hr:RnOK r) (hsz:r.size≤64) (hn:n≤160) (hL:L.length<1000) (hE:∀ e ∈ L,EnOK n e) (kl:(bl,LB.cells 0 [.c (.slice (L.map enE))] 0) ∈ keep) (kq:(bq,LB.cells 0 [.ptr bp 0 0] 0) ∈ keep)
  {s:CSs} {vs:List (LV × LV)} {H:Heap} (hS:SsOK r n s) (hB:BehS r names keep pa bp bc s vs [] H) :
  ∃ (N:Nat) (vs' : List (LV × LV)) (H' : Heap),BehS r names keep pa bp bc (runL r s L) vs' (asideL r 1 s L) H' ∧
   ∀ M,N≤M→∀ (yh:Hand),Tells yh pa→∃ ts',(runs Q M).2 yh lc196 ⟨pad 29 [.tuple [],.ptr bl 0 0,.ptr bq 0 0],H⟩ none=some (.normal,⟨ts',H'⟩,none):=by
 obtain⟨N,vs',H',b,ex⟩:=L196 (P:=P) hQ hr hsz hn hL hE kl kq L 0 s vs [] H (by simp) (by simp) hS hB (by simp)
 refine⟨N+1,vs',H',by simpa using b,fun M hM yh hy=>?_⟩
 obtain⟨M',rfl⟩ : ∃ M',M=M'+1:=⟨M-1,by omega⟩
 obtain⟨ts,x1,x2⟩:=I196_at (Q:=Q) (m:=M') (yh:=yh) (bq:=bq) (hB.kept _ kl).1
 obtain⟨ts',x3⟩:=ex M' (by omega) yh hy ts x2
 refine⟨ts',?_⟩
 rw[runs_two,lc196_eq]
 simp[x1,x3]
end LM.GZ
namespace LM.GZ
open Go LM
variable {P:Nat→Option SFunc} [Has P]
variable {Q:Nat→Option LFunc} {r:CRn} {names:List Str} {n m:Nat} {L:List CEn} {bl bq pa bp bc:Nat} {keep:List (Nat × LB)}
def asg81:LCode:=match lc81 with
 | .seq _ (.seq _ (.seq _ (.seq (.seq _ (.block _ (.rangeFn _ _ a _))) _)))=>a
 | _=>.skip
def bod81:LCode:=match lc81 with
 | .seq _ (.seq _ (.seq _ (.seq (.seq _ (.block _ (.rangeFn _ _ _ b))) _)))=>b
 | _=>.skip
def pA81:LCode:=match lc81 with
 | .seq a _=>a
 | _=>.skip
def pB81:LCode:=match lc81 with
 | .seq _ (.seq b _)=>b
 | _=>.skip
def pC81:LCode:=match lc81 with
 | .seq _ (.seq _ (.seq c _))=>c
 | _=>.skip
def pD81:LCode:=match lc81 with
 | .seq _ (.seq _ (.seq _ (.seq (.seq d _) _)))=>d
 | _=>.skip
def pF81:LCode:=match lc81 with
 | .seq _ (.seq _ (.seq _ (.seq _ (.seq f _))))=>f
 | _=>.skip
theorem lc81_eq:lc81=.seq pA81 (.seq pB81 (.seq pC81 (.seq (.seq pD81 (.block 0 (.rangeFn (.t 16) [17,18] asg81 bod81))) (.seq pF81 .ret)))):=rfl
theorem tells81 (x0 x1 x2 x3 x4 x5 x6 x8 x9 x10 x11 x12 x13 x14 x15 x16 x17 x18 x19 x20 x21 x22 x23 x24 x25 x26 x27 x28 x29 x30 x31:LV):Tells (handOf (exec Q (runs Q m).1 (runs Q m).2 asg81) (exec Q (runs Q m).1 (runs Q m).2 bod81) [17,18] [x0,x1,x2,x3,x4,x5,x6,.ptr pa 0 0,x8,x9,x10,x11,x12,x13,x14,x15,x16,x17,x18,x19,x20,x21,x22,x23,x24,x25,x26,x27,x28,x29,x30,x31]) pa:=by
 refine⟨fun i H=>?_,fun i k H H' hk ht=>?_⟩
 ·unfold handOf asg81 bod81 lc81
  simp[setPs]
 ·obtain⟨a,b,g,len,H1,g1,ha,hap,g2,rfl⟩:=ht
  have hk2:¬ (k:Int)=0:=by omega
  obtain⟨l1,g1'⟩:=List.getElem?_eq_some_iff.1 g1
  obtain⟨l2,g2'⟩:=List.getElem?_eq_some_iff.1 g2
  simp only[refE] at hap
  rcases ha with rfl | ⟨b1,g3,len1,rfl⟩
  ·unfold handOf asg81 bod81 lc81
   simp[setPs,hk,hk2,g1,g1',g2,g2',hap,l1,l2]
  ·unfold handOf asg81 bod81 lc81
   simp[setPs,hk,hk2,g1,g1',g2,g2',hap,l1,l2]
end LM.GZ
namespace LM.GZ
open Go LM
variable {P:Nat→Option SFunc} [Has P]
variable {Q:Nat→Option LFunc} {r:CRn} {names:List Str} {n m:Nat} {L:List CEn} {bl bq pa bp bc:Nat} {keep:List (Nat × LB)} {s:CSs} {vs:List (LV × LV)} {H:Heap}
theorem rangeF_live {ru:Run} {ri:RunI} {f nt:Nat} {itb:LCode} (hp:Q f=some (.code .shared nt [] itb)) (ps:List Nat) (asg body:LCode) (s:St) (a b:Nat):rangeF Q ru ri ps asg body s (.func f [] [.ptr a 0 0,.ptr b 0 0])=rangeK s.tmps (ri (handOf (exec Q ru ri asg) (exec Q ru ri body) ps s.tmps) itb ⟨pad nt [.tuple [],.ptr a 0 0,.ptr b 0 0],s.heap⟩ none):=by
 unfold rangeF
 simp[funcOf,hp]
theorem F81 {H:Heap} {t:Int} {k:Nat} {a:LV} (ha:a=.nil∨∃ b g len,a=.slice b g 0 len (some 2) none) (g1:H[1]? = some (.cells 1 [.c (ci 0),.nil] 0)) (gp:H[bp]? = some (plB r names bc 1 k t)) (ga:H[pa]? = some (.cells 0 [a] 0)) (x0 x1 x2 x3 x5 x8 x9 x10 x11 x12 x13 x14 x15 x16 x17 x18 x19 x20 x21 x22 x23 x24 x25 x26 x27 x28 x29 x30 x31:LV) :
  ∃ ts,exec Q (runs Q m).1 (runs Q m).2 pF81 ⟨[x0,x1,x2,x3,.ptr 1 1 0,x5,.ptr bp 0 0,.ptr pa 0 0,x8,x9,x10,x11,x12,x13,x14,x15,x16,x17,x18,x19,x20,x21,x22,x23,x24,x25,x26,x27,x28,x29,x30,x31],H⟩=some (.normal,⟨ts,H.set 1 (.cells 1 [.c (ci t),.slice bc 1 0 k (some 11) none] 0)⟩)∧ts.getD 4 .undef=.ptr 1 1 0∧ts.getD 5 .undef=a:=by
 obtain⟨l1,g1'⟩:=List.getElem?_eq_some_iff.1 g1
 obtain⟨l2,gp'⟩:=List.getElem?_eq_some_iff.1 gp
 obtain⟨l3,ga'⟩:=List.getElem?_eq_some_iff.1 ga
 refine⟨?ts,?e,?f,?g⟩
 case e =>
  unfold pF81 lc81
  unfold plB at gp gp'
  simp[lr_some,g1,g1',gp,gp',ga,ga',l1,l2,l3]
  rfl
 case f=>rfl
 case g=>rfl
def ssE (s:CSs):CV:=.agg [ci s.time,.slice (s.cls.map clE)]
theorem PlayH.frz (h:PlayH r names s vs bp bc 1 H) (d:Nat):∃ h',frz (d+3) (.slice bc 1 0 s.cls.length (some 11) none) H=some (.slice (s.cls.map clE),h')∧Cel H h':=by
 obtain⟨h',e,c⟩:=frzD_rows d (h:=H) (l:=s.cls.zip vs) (b:=bc) (g:=1) (fz:=0) (cp:=none) h.p.row fun x hx=>⟨(h.p.all x hx).1.w,(h.p.all x hx).2.w⟩
 have hl:(s.cls.zip vs).length=s.cls.length:=by rw[List.length_zip,h.p.len,Nat.min_self]
 have hm:(s.cls.zip vs).map (fun x=>clE x.1)=s.cls.map clE:=by
  have:(s.cls.zip vs).map Prod.fst=s.cls:=List.map_fst_zip (by rw[h.p.len]; exact Nat.le_refl _)
  show List.map (clE ∘ Prod.fst) _=_
  rw[← List.map_map,this]
 rw[hl,hm] at e
 exact⟨h',e,c⟩
theorem E81 (hQ:OverS P Q) (q81:Q 81=some lf81) (q196:Q 196=some lf196) (hr:RnOK r) (hsz:r.size≤64) (hn0:0<names.length) (hn:names.length≤160) (hL:L.length<1000) (hE:∀ e ∈ L,EnOK names.length e) :
  ∃ N,pcall Q N 81 [rnE r names,.slice (L.map enE)]=some (.tuple [ssE (runL r (startL r names.length) L),.slice ((asideL r 1 (startL r names.length) L).map refE)]):=by
 obtain⟨hA,hhA⟩ : ∃ hA:Heap,hA=[rnB r names,.cells 1 [.c (ci 0),.nil] 0,.cells 1 [] 0]:=⟨_,rfl⟩
 have hAl:hA.length=3:=by rw[hhA]; rfl
 have ht:(clS r).tries.length<1000:=by unfold clS; simp only; split<;>simp<;>omega
 have hst:CV.agg [ci 0,.slice (List.replicate names.length (clE (clS r)))]=.agg [ci 0,.slice ((List.replicate names.length (clS r)).map clE)]:=by rw[List.map_replicate]
 have e151:=S151 (P:=P) (r:=r) (names:=names) hsz hn
 rw[hst] at e151
 generalize hS0:CV.agg [ci 0,.slice ((List.replicate names.length (clS r)).map clE)]=st0 at *
 obtain⟨vs,H1,e150,p1,f1,v1⟩:=S150 (P:=P) (r:=r) (names:=names) (c:=clS r) (t:=0) hn0 (by omega) ht rfl hA
 rw[hS0] at e150
 have c151:callS P (limS P) none false 151 [.c (rnE r names)] hA=some (.c st0,hA):=by
  rw[call151]
  simp[frzArgs,e151,← hS0]
 have c150:callS P (limS P) none false 150 [.c (rnE r names),.c st0] hA=some (.ptr 7 0 0,H1):=by
  rw[call150]
  simp[frzFuncs,e150,hAl]
 have h7:hA.length+4=7:=by rw[hAl]
 have h6:hA.length+3=6:=by rw[hAl]
 rw[h7,h6] at p1
 obtain⟨pa,hpa⟩ : ∃ pa,pa=H1.length:=⟨_,rfl⟩
 have hp7:7<pa:=by rw[hpa]; exact ltG p1.p.pl
 have lA:(H1++[LB.cells 0 [.nil] 0]).length=pa+1:=by simp[hpa]
 have e152:=S152 (P:=P) 7 (L.map enE) (H1++[.cells 0 [.nil] 0])
 rw[lA] at e152
 have c152:callS P (limS P) none false 152 [.ptr 7 0 0,.c (.slice (L.map enE))] (H1++[.cells 0 [.nil] 0])=some (.func 196 [] [.ptr (pa+2) 0 0,.ptr (pa+1) 0 0],H1++[.cells 0 [.nil] 0]++[.cells 0 [.ptr 7 0 0] 0,.cells 0 [.c (.slice (L.map enE))] 0]):=by
  rw[call152]
  simp[frzFuncs] at e152 ⊢
  exact e152
 obtain⟨H2,hH2⟩ : ∃ H2:Heap,H2=H1++[.cells 0 [.nil] 0]++[.cells 0 [.ptr 7 0 0] 0,.cells 0 [.c (.slice (L.map enE))] 0]:=⟨_,rfl⟩
 rw[← hH2] at c152
 have up:∀ k,k<H1.length→H2[k]? = H1[k]?:=fun k hk=>by rw[hH2,List.append_assoc,List.getElem?_append_left hk]
 have p2:PlayH r names (startL r names.length) vs 7 6 1 H2:=p1.stay fun k hk _=>up k hk
 have lo:∀ k,k<3→Sep vs 7 6 k:=fun k hk=>⟨by omega,by omega,fun x hx=>⟨fun e=>by have:=v1 x hx k (.inl e); omega,fun e=>by have:=v1 x hx k (.inr e); omega⟩⟩
 ·have g1:H2[1]? = some (.cells 1 [.c (ci 0),.nil] 0):=by rw[up 1 (by omega),f1 1 (by omega),hhA]; rfl
  have gpa:H2[pa]? = some (.cells 0 [.nil] 0):=by rw[hH2,List.append_assoc,List.getElem?_append_right (by omega),hpa,Nat.sub_self]; rfl
  have gpq:H2[pa+1]? = some (.cells 0 [.ptr 7 0 0] 0):=by rw[hH2,List.append_assoc,List.getElem?_append_right (by omega),show pa+1-H1.length=1 from by omega]; rfl
  have gpl:H2[pa+2]? = some (.cells 0 [.c (.slice (L.map enE))] 0):=by rw[hH2,List.append_assoc,List.getElem?_append_right (by omega),show pa+2-H1.length=2 from by omega]; rfl
  have hB:BehS r names [(pa+2,.cells 0 [.c (.slice (L.map enE))] 0),(pa+1,.cells 0 [.ptr 7 0 0] 0),(1,.cells 1 [.c (ci 0),.nil] 0)] pa 7 6 (startL r names.length) vs [] H2:=by
   refine⟨p2,fun x hx=>?_,p1.sep (by omega),.inl ⟨rfl,gpa⟩⟩
   simp only[List.mem_cons,List.mem_nil_iff,or_false] at hx
   rcases hx with rfl | rfl | rfl
   ·exact⟨gpl,p1.sep (by show H1.length≤pa+2; omega),by show pa+2≠pa; omega⟩
   ·exact⟨gpq,p1.sep (by show H1.length≤pa+1; omega),by show pa+1≠pa; omega⟩
   ·exact⟨g1,lo 1 (by omega),by show 1≠pa; omega⟩
  obtain⟨N4,vs',H',hB',ex⟩:=E196 (P:=P) hQ hr hsz hn hL hE (bl:=pa+2) (bq:=pa+1) (by simp) (by simp) (start_ok hr) hB
  obtain⟨N1,k1⟩:=hQ _ _ _ _ _ _ c151
  obtain⟨N2,k2⟩:=hQ _ _ _ _ _ _ c150
  obtain⟨N3,k3⟩:=hQ _ _ _ _ _ _ c152
  obtain⟨M,hM⟩ : ∃ M,M=N1+N2+N3+N4:=⟨_,rfl⟩
  have k1:=k1 M (by omega)
  have k2:=k2 M (by omega)
  have k3:=k3 M (by omega)
  have ex:=ex M (by omega)
  have hk1:=hB'.kept (1,.cells 1 [.c (ci 0),.nil] 0) (by simp)
  have hp':=hB'.play.stay (H':=H'.set 1 (.cells 1 [.c (ci (runL r (startL r names.length) L).time),.slice 6 1 0 (runL r (startL r names.length) L).cls.length (some 11) none] 0)) fun k _ hs=>by
   rw[List.getElem?_set_ne]
   rintro rfl
   exact hs hk1.2.1
  obtain⟨a,ha,hga,hfa⟩ : ∃ a,(a=.nil∨∃ b g len,a=.slice b g 0 len (some 2) none)∧H'[pa]? = some (.cells 0 [a] 0)∧∀ h1 X,Cel (H'.set 1 X) h1→∃ h',frz (37+2) a h1=some (.slice ((asideL r 1 (startL r names.length) L).map refE),h'):=by
   rcases hB'.out with ⟨o1,o2⟩ | ⟨o1,b,g,o2,o3,o4,o5,o6⟩
   ·refine⟨_,.inl rfl,o2,fun h1 X _=>⟨h1,by rw[o1]; rfl⟩⟩
   ·refine⟨_,.inr ⟨_,_,_,rfl⟩,o2,fun h1 X hc=>?_⟩
    have hb1:(1:Nat)≠b:=o6 _ (by simp:(1,LB.cells 1 [.c (ci 0),.nil] 0) ∈ _)
    obtain⟨fz,e⟩:=hc _ _ _ _ (show (H'.set 1 X)[b]? = _ from by rw[List.getElem?_set_ne hb1]; exact o3)
    exact⟨_,frzD_own (d:=37) e (refElems _) (by simp) none⟩
  obtain⟨h3,z1,z2⟩:=hp'.frz 35
  obtain⟨h4,z3⟩:=hfa h3 _ z2
  have hll:(runL r (startL r names.length) L).cls.length=names.length:=(run_ok hr L _ (start_ok hr) hE).len
  refine⟨M+1,?_⟩
  rw[pcall_code q81,lc81_eq]
  have e1:exec Q (runs Q M).1 (runs Q M).2 pA81 ⟨pad 32 [.c (rnE r names),.c (.slice (L.map enE))],[]⟩=some (.normal,⟨[.c (rnE r names),.c (.slice (L.map enE)),.ptr 0 0 0,.undef,.ptr 1 1 0,.slice 2 1 0 0 (some 2) none,.undef,.undef,.undef,.undef,.undef,.undef,.undef,.undef,.undef,.undef,.undef,.undef,.undef,.undef,.undef,.undef,.undef,.undef,.undef,.undef,.undef,.undef,.undef,.undef,.undef,.undef],hA⟩):=by
   rw[hhA]
   unfold pA81 lc81
   simp[pad,List.replicate,rnE,rnB]
  have e2:exec Q (runs Q M).1 (runs Q M).2 pB81 ⟨[.c (rnE r names),.c (.slice (L.map enE)),.ptr 0 0 0,.undef,.ptr 1 1 0,.slice 2 1 0 0 (some 2) none,.undef,.undef,.undef,.undef,.undef,.undef,.undef,.undef,.undef,.undef,.undef,.undef,.undef,.undef,.undef,.undef,.undef,.undef,.undef,.undef,.undef,.undef,.undef,.undef,.undef,.undef],hA⟩=some (.normal,⟨[.c (rnE r names),.c (.slice (L.map enE)),.ptr 0 0 0,.undef,.ptr 1 1 0,.slice 2 1 0 0 (some 2) none,.ptr 7 0 0,.undef,.undef,.undef,.c (rnE r names),.c (rnE r names),.c st0,.ptr 7 0 0,.undef,.undef,.undef,.undef,.undef,.undef,.undef,.undef,.undef,.undef,.undef,.undef,.undef,.undef,.undef,.undef,.undef,.undef],H1⟩):=by
   rw[hhA] at k1 k2 ⊢
   unfold rnB at k1 k2
   simp only[rnE] at k1 k2
   unfold pB81 lc81
   simp[lr_some,rnE,rnB,k1,k2]
  have e3:exec Q (runs Q M).1 (runs Q M).2 pC81 ⟨[.c (rnE r names),.c (.slice (L.map enE)),.ptr 0 0 0,.undef,.ptr 1 1 0,.slice 2 1 0 0 (some 2) none,.ptr 7 0 0,.undef,.undef,.undef,.c (rnE r names),.c (rnE r names),.c st0,.ptr 7 0 0,.undef,.undef,.undef,.undef,.undef,.undef,.undef,.undef,.undef,.undef,.undef,.undef,.undef,.undef,.undef,.undef,.undef,.undef],H1⟩=some (.normal,⟨[.c (rnE r names),.c (.slice (L.map enE)),.ptr 0 0 0,.undef,.ptr 1 1 0,.slice 2 1 0 0 (some 2) none,.ptr 7 0 0,.ptr pa 0 0,.undef,.undef,.c (rnE r names),.c (rnE r names),.c st0,.ptr 7 0 0,.undef,.undef,.undef,.undef,.undef,.undef,.undef,.undef,.undef,.undef,.undef,.undef,.undef,.undef,.undef,.undef,.undef,.undef],H1++[.cells 0 [.nil] 0]⟩):=by
   rw[hpa]
   unfold pC81 lc81
   simp
  have e4:exec Q (runs Q M).1 (runs Q M).2 pD81 ⟨[.c (rnE r names),.c (.slice (L.map enE)),.ptr 0 0 0,.undef,.ptr 1 1 0,.slice 2 1 0 0 (some 2) none,.ptr 7 0 0,.ptr pa 0 0,.undef,.undef,.c (rnE r names),.c (rnE r names),.c st0,.ptr 7 0 0,.undef,.undef,.undef,.undef,.undef,.undef,.undef,.undef,.undef,.undef,.undef,.undef,.undef,.undef,.undef,.undef,.undef,.undef],H1++[.cells 0 [.nil] 0]⟩=some (.normal,⟨[.c (rnE r names),.c (.slice (L.map enE)),.ptr 0 0 0,.undef,.ptr 1 1 0,.slice 2 1 0 0 (some 2) none,.ptr 7 0 0,.ptr pa 0 0,.undef,.undef,.c (rnE r names),.c (rnE r names),.c st0,.ptr 7 0 0,.ptr 7 0 0,.c (.slice (L.map enE)),.func 196 [] [.ptr (pa+2) 0 0,.ptr (pa+1) 0 0],.undef,.undef,.undef,.undef,.undef,.undef,.undef,.undef,.undef,.undef,.undef,.undef,.undef,.undef,.undef],H2⟩):=by
   unfold pD81 lc81
   simp[k3]
  obtain⟨ts5,e5⟩:=ex _ (tells81 (Q:=Q) (m:=M) (pa:=pa) (.c (rnE r names)) (.c (.slice (L.map enE))) (.ptr 0 0 0) .undef (.ptr 1 1 0) (.slice 2 1 0 0 (some 2) none) (.ptr 7 0 0) .undef .undef (.c (rnE r names)) (.c (rnE r names)) (.c st0) (.ptr 7 0 0) (.ptr 7 0 0) (.c (.slice (L.map enE))) (.func 196 [] [.ptr (pa+2) 0 0,.ptr (pa+1) 0 0]) .undef .undef .undef .undef .undef .undef .undef .undef .undef .undef .undef .undef .undef .undef .undef)
  obtain⟨ts6,e6,e7,e8⟩:=F81 (Q:=Q) (m:=M) ha hk1.1 hB'.play.p.pl hga (.c (rnE r names)) (.c (.slice (L.map enE))) (.ptr 0 0 0) .undef (.slice 2 1 0 0 (some 2) none) .undef .undef (.c (rnE r names)) (.c (rnE r names)) (.c st0) (.ptr 7 0 0) (.ptr 7 0 0) (.c (.slice (L.map enE))) (.func 196 [] [.ptr (pa+2) 0 0,.ptr (pa+1) 0 0]) .undef .undef .undef .undef .undef .undef .undef .undef .undef .undef .undef .undef .undef .undef .undef
  simp only[lx_seq,lx_block,lx_range,lx_ret,List.map_cons,List.map_nil,e1,e2,e3,e4,seqK_normal]
  have ev16:∀ (a0 a1 a2 a3 a4 a5 a6 a7 a8 a9 a10 a11 a12 a13 a14 a15 a16:LV) l,ev (a0::a1::a2::a3::a4::a5::a6::a7::a8::a9::a10::a11::a12::a13::a14::a15::a16::l) (.t 16)=a16:=fun _ _ _ _ _ _ _ _ _ _ _ _ _ _ _ _ _ _=>rfl
  rw[ev16,rangeF_live q196]
  simp only
  rw[e5]
  simp only[rangeK_normal,blockK_normal,seqK_normal]
  rw[lx_seq,e6]
  simp only[seqK_normal,lx_ret,resK_ret]
  generalize hH5:H'.set 1 (.cells 1 [.c (ci (runL r (startL r names.length) L).time),.slice 6 1 0 (runL r (startL r names.length) L).cls.length (some 11) none] 0)=H5 at *
  have g5:H5[1]? = some (.cells 1 [.c (ci (runL r (startL r names.length) L).time),.slice 6 1 0 (runL r (startL r names.length) L).cls.length (some 11) none] 0):=by
   rw[← hH5,List.getElem?_set_self (ltG hk1.1)]
  rw[List.getD_eq_getElem?_getD] at e7 e8
  have hv:resultV ⟨ts6,H5⟩ [.cell 4 (some 2),.tmp 5]=some (.tuple [.agg [.c (ci (runL r (startL r names.length) L).time),.slice 6 1 0 (runL r (startL r names.length) L).cls.length (some 11) none],a]):=by
   rcases ha with rfl | ⟨b,g,len,rfl⟩<;>simp[resultV,resultsAll,resultOne,e7,e8,g5,mkTuple,ev]
  rw[hv]
  have fa:∀ cs,LM.frz 39 (.agg cs) H5=bnd (mapH (LM.frz 38) cs H5) fun a=>some (.agg a.1,a.2):=fun cs=>by
   simp only[LM.frz]
   rcases mapH (LM.frz 38) _ _ with _ | ⟨l,h'⟩<;>rfl
  show bnd (LM.frz frzDepth _ _) _=_
  have z1:LM.frz 38 (.slice 6 1 0 (runL r (startL r names.length) L).cls.length (some 11) none) H5=_:=z1
  have z3:LM.frz 39 a h3=_:=z3
  rw[frz_tuple,mapH_cons,fa,mapH_cons,frz_succ_c,bnd_some,mapH_cons,z1,bnd_some,mapH_nil,bnd_some,bnd_some,bnd_some,bnd_some,mapH_cons]
  rw[z3]
  rfl
end LM.GZ
namespace LM.GZ
open Go LM
variable {P:Nat→Option SFunc} [Has P] [HasP P]
variable {r:CRn} {names:List Str} {L:List CEn}
def BehOK (P:Nat→Option SFunc):Prop:=∀ (r:CRn) (names:List Str) (L:List CEn),RnOK r→r.size≤64→0<names.length→names.length≤160→L.length<1000→(∀ e ∈ L,EnOK names.length e) →
 fn P 81 [rnE r names,.slice (L.map enE)]=some (.tuple [ssV (runL r (startL r names.length) L),.slice ((asideL r 1 (startL r names.length) L).map refE)])
theorem S26 (hB:BehOK P) (hn:NmOK names) (hr:RnV r) (hE:∀ e ∈ L,EnV names.length e) (hl:L.length≤256) :
  fn P 26 [rnE r names,.slice (L.map enE)]=some (.tuple [ssV (runL r (startL r names.length) L),.slice ((asideL r 1 (startL r names.length) L).map refE),ci 0]):=by
 have e80:=S80 (P:=P) hn hr L hE hl
 have e81:=hB r names L hr.ok hr.sz hn.pos hn.most (by omega) fun e he=>(hE e he).1
 rw[u26]
 simp only[rnE,ssV] at *
 generalize (asideL r 1 (startL r names.length) L).map refE=A at *
 generalize (runL r (startL r names.length) L).cls.map clE=C at *
 generalize (runL r (startL r names.length) L).time=T at *
 generalize L.map enE=E at *
 simp[c26,e80,e81,resultV,resultsAll,resultOne,mkTuple,ev]
end LM.GZ
namespace LM.GZ
open Go LM
theorem key_mem {α:Type} {f:Nat} {x:α}:∀ {l:List (Nat × α)},lookupPrim f l=some x→f ∈ l.map Prod.fst
 | [],h=>by cases h
 | (k,y)::l,h=>by
  simp only[lookupPrim] at h
  by_cases e:k=f
  ·simp[e]
  ·rw[if_neg e] at h
   simp[key_mem h]
theorem keysA:(lprog.map Prod.fst).all (fun k=>(lookupPrim k tableA).isNone)=true:=by kernel_rfl
theorem disjA:∀ f x,lookupPrim f lprog=some x→lookupPrim f tableA=none:=by
 intro f x h
 have:=List.all_eq_true.1 keysA f (key_mem h)
 simpa using this
theorem overS_Q:OverS (lookupPrim · tableA) progQ:=fun _ _ _ _ _ _ h=>call_mix readA disjA h
theorem beh_prog:BehOK prog:=by
 intro r names L hr hsz hn0 hn hL hE
 obtain⟨N,q⟩:=E81 (P:=(lookupPrim · tableA)) overS_Q rfl rfl hr hsz hn0 hn hL hE
 exact g81_of q
end LM.GZ
namespace LM.GZ
def duR:CRn:=⟨.speed,1,1⟩
def duE (i:Nat) (a t:Int):CEn:=if a<100 then ⟨i,.wrong,0,86399999⟩ else if t=0 then ⟨i,.fall,0,86399999⟩ else ⟨i,.finish,t,86399999⟩
def duL (a t b u:Int):List CEn:=[⟨0,.start,1,0⟩,⟨1,.start,2,0⟩,duE 0 a t,duE 1 b u]
def duW:CCl:=⟨.waiting,.fine,0,0,0,0,false,false,false,[],[]⟩
def duO (p:Int):CCl:=⟨.on,.fine,p,0,0,0,false,false,false,[],[]⟩
def duC (a t:Int):CCl:=if a<100 then ⟨.done,.dsq,0,0,0,0,false,false,false,[],[]⟩ else if t=0 then ⟨.done,.dnf,0,0,0,0,false,false,false,[],[0]⟩ else ⟨.done,.fine,0,0,0,0,false,false,false,[],[t]⟩
theorem du_start:startL duR 2=⟨0,[duW,duW]⟩:=rfl
theorem du_a1:legalL duR ⟨0,[duW,duW]⟩ ⟨0,.start,1,0⟩=0:=by decide
theorem du_a2:legalL duR ⟨0,[duO 1,duW]⟩ ⟨1,.start,2,0⟩=0:=by decide
theorem du_n1:nextL duR ⟨0,[duW,duW]⟩ ⟨0,.start,1,0⟩=⟨0,[duO 1,duW]⟩:=rfl
theorem du_n2:nextL duR ⟨0,[duO 1,duW]⟩ ⟨1,.start,2,0⟩=⟨0,[duO 1,duO 2]⟩:=rfl
theorem du_legal {s:CSs} {i:Nat} {p a t:Int} (hs:s.time≤86399999) (hi:s.cls.getD i clZ=duO p) (ht:0≤t∧t≤86399999):legalL duR s (duE i a t)=0:=by
 unfold legalL rulesL duE
 by_cases h1:a<100
 ·simp only[if_pos h1,hi]
  simp[duO,kindIn,duR,readyB,brokenL,hs]
 ·by_cases h2:t=0
  ·simp only[if_neg h1,if_pos h2,hi]
   simp[duO,kindIn,duR,readyB,brokenL,hs]
  ·have h3:1≤t:=by omega
   simp only[if_neg h1,if_neg h2,hi]
   simp[duO,kindIn,duR,readyB,brokenL,hs,h3,ht.2]
theorem du_next {s:CSs} {i:Nat} {p a t:Int} (hi:s.cls.getD i clZ=duO p) (ht:0≤t):nextL duR s (duE i a t)=⟨86399999,s.cls.set i (duC a t)⟩:=by
 unfold nextL duE duC
 by_cases h1:a<100
 ·simp only[if_pos h1,hi]
  rfl
 ·by_cases h2:t=0
  ·simp only[if_neg h1,if_pos h2,hi]
   rfl
  ·have h3:0<t:=by omega
   have hb:bestL [t]=t:=by simp[bestL,h3]
   have hb' : bestL ([]++[t])=t:=hb
   simp only[if_neg h1,if_neg h2,hi]
   simp[doC,runC,duO,duR,CCl.off,hb,h2]
theorem du_run {a t b u:Int} (ht:0≤t∧t≤86399999) (hu:0≤u∧u≤86399999):runL duR (startL duR 2) (duL a t b u)=⟨86399999,[duC a t,duC b u]⟩∧asideL duR 1 (startL duR 2) (duL a t b u)=[]:=by
 have k1:legalL duR ⟨0,[duO 1,duO 2]⟩ (duE 0 a t)=0:=du_legal (by decide) rfl ht
 have m1:nextL duR ⟨0,[duO 1,duO 2]⟩ (duE 0 a t)=⟨86399999,[duC a t,duO 2]⟩:=du_next rfl ht.1
 have k2:legalL duR ⟨86399999,[duC a t,duO 2]⟩ (duE 1 b u)=0:=du_legal (Int.le_refl _) rfl hu
 have m2:nextL duR ⟨86399999,[duC a t,duO 2]⟩ (duE 1 b u)=⟨86399999,[duC a t,duC b u]⟩:=du_next rfl hu.1
 constructor
 ·simp only[runL,duL,List.foldl_cons,List.foldl_nil,stepL,du_start,du_a1,du_n1,du_a2,du_n2,k1,m1,k2,m2,if_true]
 ·simp only[duL,asideL,du_start,du_a1,du_n1,du_a2,du_n2,k1,m1,k2,m2,if_true]
end LM.GZ
namespace LM.GZ
def nAnn:Str:=[97,110,110]
def nBen:Str:=[98,101,110]
def duRes (a t b u:Int):List Rs:=resL duR [nAnn,nBen] [duC a t,duC b u]
def timed (a t:Int):Bool:=decide (100≤a) && decide (t≠0)
def duS (a t:Int):Str:=if a<100 then [100,115,113] else if t=0 then [100,110,102] else []
def duV (a t:Int):List Int:=if timed a t=true then [-t] else []
theorem du_res1 (n:Str) (a t:Int) (ht:0≤t):resC duR (n,duC a t)=⟨n,duS a t,duV a t⟩:=by
 unfold resC duC duS duV timed
 by_cases h1:a<100
 ·have:¬ 100≤a:=by omega
  simp[h1,this,stS,valsL]
 ·have h1' : 100≤a:=by omega
  by_cases h2:t=0
  ·simp[h1,h2,stS,valsL]
  ·have h3:0<t:=by omega
   simp[h1,h1',h2,stS,valsL,duR,bestL,h3]
theorem du_res (a t b u:Int) (ht:0≤t) (hu:0≤u):duRes a t b u=[⟨nAnn,duS a t,duV a t⟩,⟨nBen,duS b u,duV b u⟩]:=by
 simp[duRes,resL,du_res1,ht,hu]
theorem du_isS (n:Str) (a t:Int):isS ⟨n,duS a t,duV a t⟩=timed a t:=by
 unfold isS duS timed
 by_cases h1:a<100
 ·have:¬ 100≤a:=by omega
  simp[h1,this]
 ·have h1' : 100≤a:=by omega
  by_cases h2:t=0<;>simp[h1,h1',h2]
def duF (a t b u:Int):List Str :=
 if timed a t=true then
  if timed b u=true then if t<u then [nAnn] else if u<t then [nBen] else [nAnn,nBen]
  else [nAnn]
 else if timed b u=true then [nBen] else []
theorem du_fwd (a t b u:Int) (ht:0≤t) (hu:0≤u):fwdL (duRes a t b u) 1=duF a t b u:=by
 rw[du_res a t b u ht hu]
 unfold fwdL duF
 simp only[List.filter_cons,List.filter_nil,du_isS]
 have hv:∀ {x y},timed x y=true→duV x y=[-y]:=fun h=>by rw[duV,if_pos h]
 cases h1:timed a t<;>cases h2:timed b u
 ·simp[sortI,fwdR]
 ·simp[sortI,insS,insL,fwdR]
 ·simp[sortI,insS,insL,fwdR]
 ·simp only[if_true,hv h1,hv h2]
  rcases Int.lt_trichotomy t u with h | h | h
  ·have n1:¬ u<t:=by omega
   have n2:¬ t=u:=by omega
   have n3:¬ -t = -u:=by omega
   have n4:¬ -u = -t:=by omega
   simp[sortI,insS,insL,ltC,cmpRs,cmpL,cmpJ,fwdR,h,n1,n2,n3,n4]
  ·subst h
   simp[sortI,insS,insL,ltC,cmpRs,cmpL,cmpJ,fwdR]
  ·have n1:¬ t<u:=by omega
   have n2:¬ t=u:=by omega
   have n3:¬ -t = -u:=by omega
   have n4:¬ -u = -t:=by omega
   simp[sortI,insS,insL,ltC,cmpRs,cmpL,cmpJ,fwdR,h,n1,n2,n3,n4]
end LM.GZ
namespace LM.GZ
open Go LM
variable {P:Nat→Option SFunc} [Has P] [HasP P]
variable {a t b u:Int}
theorem du_names:NmOK [nAnn,nBen]:=⟨by decide,by decide,by decide,by decide⟩
theorem du_rn:RnV duR:=⟨by decide,by decide⟩
theorem duE_ok {i:Nat} (hi:i<2) (ht:0≤t∧t≤86399999):EnV 2 (duE i a t):=by
 unfold duE
 split
 ·exact⟨⟨hi,by simp,by simp,by simp,by simp⟩,fun _=>rfl⟩
 ·split
  ·exact⟨⟨hi,by simp,by simp,by simp,by simp⟩,fun _=>rfl⟩
  ·exact⟨⟨hi,ht.1,ht.2,by simp,by simp⟩,fun h=>by cases h⟩
theorem duL_ok (ht:0≤t∧t≤86399999) (hu:0≤u∧u≤86399999):∀ e ∈ duL a t b u,EnV 2 e:=by
 intro e he
 simp only[duL,List.mem_cons,List.not_mem_nil,or_false] at he
 rcases he with rfl | rfl | rfl | rfl
 ·exact⟨⟨by decide,by decide,by decide,by decide,by decide⟩,fun h=>by cases h⟩
 ·exact⟨⟨by decide,by decide,by decide,by decide,by decide⟩,fun h=>by cases h⟩
 ·exact duE_ok (by decide) ht
 ·exact duE_ok (by decide) hu
theorem duC_done:(duC a t).ph=.done:=by unfold duC; split; rfl; split<;>rfl
def duEv (i:Int) (a t:Int):CV:=.agg [ci i,.str (if a<100 then [102,97,108,115,101] else if t=0 then [102,97,108,108] else [102,105,110,105,115,104]),ci (if a<100 then 0 else t),ci 86399999]
theorem duE_enc (i:Nat):enE (duE i a t)=duEv i a t:=by
 unfold duE duEv
 by_cases h1:a<100
 ·simp[h1,enE,kdS]
 ·by_cases h2:t=0<;>simp[h1,h2,enE,kdS]
def hp12 (a t b u:Int) (R:LB):Heap:=[.cells 0 [.c (ci a),.c (ci t)] 0,.cells 0 [.c (ci b),.c (ci u)] 0,.cells 1 [] 0,.cells 1 [.c (.str [97,110,110]),.c (.str [98,101,110])] 0,.cells 0 [.c (.str [115,112,101,101,100]),.slice 3 1 0 2 none (some 2),.c (ci 1),.c (ci 1)] 0,R,.cells 1 [.c (ci a),.c (ci t),.c (ci b),.c (ci u)] 0]
theorem R12_0 (a t b u:Int) (g:Nat) (ys:List CV) (hy:∀ x ∈ ys,Elem (some 4) x) (hl:ys.length<100) :
  execS P (limS P) c12_l0 ⟨[.ptr 4 0 0,.slice 5 g 0 ys.length (some 4) none,.slice 6 1 0 2 (some 2) (some 2),.c (ci 2),.c (ci 0)],hp12 a t b u (.cells g (cellsOf ys) 0)⟩
   = execS P (limS P) c12_l0 ⟨[.ptr 4 0 0,.slice 5 (g+1) 0 (ys.length+1) (some 4) none,.slice 6 1 0 2 (some 2) (some 2),.c (ci 2),.c (ci 1)],hp12 a t b u (.cells (g+1) (cellsOf (ys++[duEv 0 a t])) 0)⟩:=by
 have ha:=fun X0 X1 X2 X3 X4 X6 X7 X8=>append_own (b:=5) (g:=g) (bytes:=40) (e:=some 4) (ys:=ys) (xs:=[duEv 0 a t]) (h:=[X0,X1,X2,X3,X4,.cells g (cellsOf ys) 0,X6,X7,X8]) (len:=ys.length) (fz:=0) rfl hy (by intro y hy; simp at hy; rw[hy]; exact⟨_,rfl,rfl,by simp[duEv,CV.flat]⟩) (by simp) (Nat.zero_le _) (by simp) (by simp; omega) (by simp; omega)
 have hu:=underL_cellsOf 7 (ys++[duEv 0 a t])
 have w:IntKind.i64.wrap 2=2:=rfl
 have w1:IntKind.i64.wrap 1=1:=rfl
 conv=>lhs; rw[r12_l0]
 unfold hp12
 unfold duEv at ha hu ⊢
 by_cases h1:a<100
 ·by_cases h2:t=0
  ·simp[h1,h2] at ha hu ⊢
   simp[c12_l0b,h1,h2,ha,hu,w,w1]
  ·simp[h1,h2] at ha hu ⊢
   simp[c12_l0b,h1,h2,ha,hu,w,w1]
 ·by_cases h2:t=0
  ·simp[h1,h2] at ha hu ⊢
   simp[c12_l0b,h1,h2,ha,hu,w,w1]
  ·simp[h1,h2] at ha hu ⊢
   simp[c12_l0b,h1,h2,ha,hu,w,w1]
theorem R12_1 (a t b u:Int) (g:Nat) (ys:List CV) (hy:∀ x ∈ ys,Elem (some 4) x) (hl:ys.length<100) :
  execS P (limS P) c12_l0 ⟨[.ptr 4 0 0,.slice 5 g 0 ys.length (some 4) none,.slice 6 1 0 2 (some 2) (some 2),.c (ci 2),.c (ci 1)],hp12 a t b u (.cells g (cellsOf ys) 0)⟩
   = execS P (limS P) c12_l0 ⟨[.ptr 4 0 0,.slice 5 (g+1) 0 (ys.length+1) (some 4) none,.slice 6 1 0 2 (some 2) (some 2),.c (ci 2),.c (ci 2)],hp12 a t b u (.cells (g+1) (cellsOf (ys++[duEv 1 b u])) 0)⟩:=by
 have ha:=fun X0 X1 X2 X3 X4 X6 X7 X8=>append_own (b:=5) (g:=g) (bytes:=40) (e:=some 4) (ys:=ys) (xs:=[duEv 1 b u]) (h:=[X0,X1,X2,X3,X4,.cells g (cellsOf ys) 0,X6,X7,X8]) (len:=ys.length) (fz:=0) rfl hy (by intro y hy; simp at hy; rw[hy]; exact⟨_,rfl,rfl,by simp[duEv,CV.flat]⟩) (by simp) (Nat.zero_le _) (by simp) (by simp; omega) (by simp; omega)
 have hu:=underL_cellsOf 7 (ys++[duEv 1 b u])
 have w:IntKind.i64.wrap 2=2:=rfl
 have w1:IntKind.i64.wrap 1=1:=rfl
 conv=>lhs; rw[r12_l0]
 unfold hp12
 unfold duEv at ha hu ⊢
 by_cases h1:b<100
 ·by_cases h2:u=0
  ·simp[h1,h2] at ha hu ⊢
   simp[c12_l0b,h1,h2,ha,hu,w,w1]
  ·simp[h1,h2] at ha hu ⊢
   simp[c12_l0b,h1,h2,ha,hu,w,w1]
 ·by_cases h2:u=0
  ·simp[h1,h2] at ha hu ⊢
   simp[c12_l0b,h1,h2,ha,hu,w,w1]
  ·simp[h1,h2] at ha hu ⊢
   simp[c12_l0b,h1,h2,ha,hu,w,w1]
theorem S12 (hB:BehOK P) (ht:0≤t∧t≤86399999) (hu:0≤u∧u≤86399999):fn P 12 [.agg [ci a,ci t],.agg [ci b,ci u]]=some (.tuple [.slice ((duRes a t b u).map Rs.enc),.bool true]):=by
 obtain⟨e1,e2⟩:=du_run (a:=a) (b:=b) ht hu
 have hE:=duL_ok (a:=a) (b:=b) ht hu
 have e26:=S26 (P:=P) (L:=duL a t b u) hB du_names du_rn hE (by simp[duL])
 have hok:=run_ok du_rn.ok (duL a t b u) (startL duR 2) (start_ok du_rn.ok) fun e he=>(hE e he).1
 have hlen:([nAnn,nBen]:List Str).length=2:=rfl
 rw[hlen,e1,e2] at e26
 rw[e1] at hok
 have e52:=S52 (P:=P) (names:=[nAnn,nBen]) du_names du_rn hok (by
  intro c hc
  simp only[List.mem_cons,List.not_mem_nil,or_false] at hc
  rcases hc with rfl | rfl<;>exact duC_done)
 have hres:resL duR [nAnn,nBen] [duC a t,duC b u]=duRes a t b u:=rfl
 simp only[hres] at e52
 have hl:(duRes a t b u).length=2:=rfl
 have hL:(duL a t b u).map enE=[.agg [ci 0,.str [115,116,97,114,116],ci 1,ci 0],.agg [ci 1,.str [115,116,97,114,116],ci 2,ci 0],duEv 0 a t,duEv 1 b u]:=by
  simp only[duL,List.map_cons,List.map_nil,duE_enc]
  rfl
 rw[hL] at e26
 simp only[rnE,ssV,duR,dcS] at e26 e52
 rw[u12]
 generalize duRes a t b u=R at *
 generalize duC a t=C1 at *
 generalize duC b u=C2 at *
 have st:∀ x ∈ ([.agg [ci 0,.str [115,116,97,114,116],ci 1,ci 0],.agg [ci 1,.str [115,116,97,114,116],ci 2,ci 0]]:List CV),Elem (some 4) x:=by
  intro x hx
  simp only[List.mem_cons,List.not_mem_nil,or_false] at hx
  rcases hx with rfl | rfl<;>exact⟨_,rfl,rfl,by simp[CV.flat]⟩
 have st2:∀ x ∈ ([.agg [ci 0,.str [115,116,97,114,116],ci 1,ci 0],.agg [ci 1,.str [115,116,97,114,116],ci 2,ci 0]]:List CV)++[duEv 0 a t],Elem (some 4) x:=by
  intro x hx
  rcases List.mem_append.1 hx with hx | hx
  ·exact st x hx
  ·simp at hx; rw[hx]; exact⟨_,rfl,rfl,by simp[duEv,CV.flat]⟩
 have st3:∀ x ∈ ([.agg [ci 0,.str [115,116,97,114,116],ci 1,ci 0],.agg [ci 1,.str [115,116,97,114,116],ci 2,ci 0],duEv 0 a t,duEv 1 b u]:List CV),Elem (some 4) x:=by
  intro x hx
  have:x ∈ ([.agg [ci 0,.str [115,116,97,114,116],ci 1,ci 0],.agg [ci 1,.str [115,116,97,114,116],ci 2,ci 0]]:List CV)++[duEv 0 a t]∨x=duEv 1 b u:=by
   simp only[List.mem_cons,List.not_mem_nil,or_false,List.mem_append] at hx ⊢
   rcases hx with h | h | h | h<;>simp[h]
  rcases this with h | rfl
  ·exact st2 x h
  ·exact⟨_,rfl,rfl,by simp[duEv,CV.flat]⟩
 have q0:=R12_0 (P:=P) a t b u 1 _ st (by decide)
 have q1:=R12_1 (P:=P) a t b u 2 _ st2 (by simp)
 have q2:∀ X,execS P (limS P) c12_l0 ⟨[.ptr 4 0 0,.slice 5 3 0 4 (some 4) none,.slice 6 1 0 2 (some 2) (some 2),.c (ci 2),.c (ci 2)],hp12 a t b u X⟩=some (.exit 0,⟨[.ptr 4 0 0,.slice 5 3 0 4 (some 4) none],hp12 a t b u X⟩):=fun X=>by
  rw[r12_l0]
  simp[c12_l0b]
 have hq:=(q0.trans q1).trans (q2 _)
 clear q0 q1 q2
 have hc0:cellsOf [.agg [ci 0,.str [115,116,97,114,116],ci 1,ci 0],.agg [ci 1,.str [115,116,97,114,116],ci 2,ci 0]]=[.c (ci 0),.c (.str [115,116,97,114,116]),.c (ci 1),.c (ci 0),.c (ci 1),.c (.str [115,116,97,114,116]),.c (ci 2),.c (ci 0)]:=rfl
 rw[hc0] at hq
 have hc1:cellsOf [.agg [ci 0,.str [115,116,97,114,116],ci 1,ci 0],.agg [ci 1,.str [115,116,97,114,116],ci 2,ci 0],duEv 0 a t,duEv 1 b u]=[.c (ci 0),.c (.str [115,116,97,114,116]),.c (ci 1),.c (ci 0),.c (ci 1),.c (.str [115,116,97,114,116]),.c (ci 2),.c (ci 0),.c (ci 0),.c (.str (if a<100 then [102,97,108,115,101] else if t=0 then [102,97,108,108] else [102,105,110,105,115,104])),.c (ci (if a<100 then 0 else t)),.c (ci 86399999),.c (ci 1),.c (.str (if b<100 then [102,97,108,115,101] else if u=0 then [102,97,108,108] else [102,105,110,105,115,104])),.c (ci (if b<100 then 0 else u)),.c (ci 86399999)]:=rfl
 unfold hp12 at hq
 simp at hq
 rw[hc1] at hq
 unfold duEv at e26
 simp only[nAnn,nBen,List.map_cons,List.map_nil] at e26 e52
 generalize (if a<100 then [102,97,108,115,101] else if t=0 then [102,97,108,108] else [102,105,110,105,115,104]:Str)=S1 at *
 generalize (if b<100 then [102,97,108,115,101] else if u=0 then [102,97,108,108] else [102,105,110,105,115,104]:Str)=S2 at *
 generalize (if a<100 then 0 else t)=V1 at *
 generalize (if b<100 then 0 else u)=V2 at *
 have hA:frzArgs false [.agg [.c (.str [115,112,101,101,100]),.slice 3 1 0 2 none (some 2),.c (ci 1),.c (ci 1)],.slice 5 3 0 4 (some 4) none] [.cells 0 [.c (ci a),.c (ci t)] 0,.cells 0 [.c (ci b),.c (ci u)] 0,.cells 1 [] 0,.cells 1 [.c (.str [97,110,110]),.c (.str [98,101,110])] 0,.cells 0 [.c (.str [115,112,101,101,100]),.slice 3 1 0 2 none (some 2),.c (ci 1),.c (ci 1)] 0,.cells 3 [.c (ci 0),.c (.str [115,116,97,114,116]),.c (ci 1),.c (ci 0),.c (ci 1),.c (.str [115,116,97,114,116]),.c (ci 2),.c (ci 0),.c (ci 0),.c (.str S1),.c (ci V1),.c (ci 86399999),.c (ci 1),.c (.str S2),.c (ci V2),.c (ci 86399999)] 0,.cells 1 [.c (ci a),.c (ci t),.c (ci b),.c (ci u)] 0]=some ([.agg [.str [115,112,101,101,100],.slice [.str [97,110,110],.str [98,101,110]],ci 1,ci 1],.slice [.agg [ci 0,.str [115,116,97,114,116],ci 1,ci 0],.agg [ci 1,.str [115,116,97,114,116],ci 2,ci 0],.agg [ci 0,.str S1,ci V1,ci 86399999],.agg [ci 1,.str S2,ci V2,ci 86399999]]],[.cells 0 [.c (ci a),.c (ci t)] 0,.cells 0 [.c (ci b),.c (ci u)] 0,.cells 1 [] 0,.cells 1 [.c (.str [97,110,110]),.c (.str [98,101,110])] 2,.cells 0 [.c (.str [115,112,101,101,100]),.slice 3 1 0 2 none (some 2),.c (ci 1),.c (ci 1)] 0,.cells 3 [.c (ci 0),.c (.str [115,116,97,114,116]),.c (ci 1),.c (ci 0),.c (ci 1),.c (.str [115,116,97,114,116]),.c (ci 2),.c (ci 0),.c (ci 0),.c (.str S1),.c (ci V1),.c (ci 86399999),.c (ci 1),.c (.str S2),.c (ci V2),.c (ci 86399999)] 16,.cells 1 [.c (ci a),.c (ci t),.c (ci b),.c (ci u)] 0]):=rfl
 have hA2:frzArgs false [.agg [.c (.str [115,112,101,101,100]),.slice 3 1 0 2 none (some 2),.c (ci 1),.c (ci 1)],.c (.agg [ci 86399999,.slice [clE C1,clE C2]])] [.cells 0 [.c (ci a),.c (ci t)] 0,.cells 0 [.c (ci b),.c (ci u)] 0,.cells 1 [] 0,.cells 1 [.c (.str [97,110,110]),.c (.str [98,101,110])] 2,.cells 0 [.c (.str [115,112,101,101,100]),.slice 3 1 0 2 none (some 2),.c (ci 1),.c (ci 1)] 0,.cells 3 [.c (ci 0),.c (.str [115,116,97,114,116]),.c (ci 1),.c (ci 0),.c (ci 1),.c (.str [115,116,97,114,116]),.c (ci 2),.c (ci 0),.c (ci 0),.c (.str S1),.c (ci V1),.c (ci 86399999),.c (ci 1),.c (.str S2),.c (ci V2),.c (ci 86399999)] 16,.cells 1 [.c (ci a),.c (ci t),.c (ci b),.c (ci u)] 0,.cells 0 [.c (ci 86399999),.c (.slice [clE C1,clE C2])] 0]=some ([.agg [.str [115,112,101,101,100],.slice [.str [97,110,110],.str [98,101,110]],ci 1,ci 1],.agg [ci 86399999,.slice [clE C1,clE C2]]],[.cells 0 [.c (ci a),.c (ci t)] 0,.cells 0 [.c (ci b),.c (ci u)] 0,.cells 1 [] 0,.cells 1 [.c (.str [97,110,110]),.c (.str [98,101,110])] 2,.cells 0 [.c (.str [115,112,101,101,100]),.slice 3 1 0 2 none (some 2),.c (ci 1),.c (ci 1)] 0,.cells 3 [.c (ci 0),.c (.str [115,116,97,114,116]),.c (ci 1),.c (ci 0),.c (ci 1),.c (.str [115,116,97,114,116]),.c (ci 2),.c (ci 0),.c (ci 0),.c (.str S1),.c (ci V1),.c (ci 86399999),.c (ci 1),.c (.str S2),.c (ci V2),.c (ci 86399999)] 16,.cells 1 [.c (ci a),.c (ci t),.c (ci b),.c (ci u)] 0,.cells 0 [.c (ci 86399999),.c (.slice [clE C1,clE C2])] 0]):=rfl
 simp at e26 e52 hA hA2
 have hRl:(R.map Rs.enc).length=2:=by rw[List.length_map]; exact hl
 have w0:IntKind.i64.wrap 0=0:=rfl
 simp[c12,hq,hA,e26,hA2,e52,hRl,hl,w0]
end LM.GZ
namespace LM.GZ
variable {r:CRn} {names:List Str} {t:Int} {c:CCl} {s:CSs}
def cntV:CDc→Nat
 | .lead=>2
 | .boulder=>4
 | .speed=>1
theorem vals_len (r:CRn) (c:CCl):(valsL r c).length=if c.st=.fine then cntV r.dc else 0:=by
 unfold valsL
 split
 ·cases r.dc
  ·simp only[cntV]; split<;>rfl
  ·rfl
  ·rfl
 ·rfl
theorem bou_in:∀ (l:List CTr) (k:Int) (o:Int × Int × Int × Int),BouIn k o→(∀ x ∈ l,trOK x)→BouIn (k+l.length) (l.foldl bouF o)
 | [],k,o,h,_=>by simpa using h
 | x::l,k,o,h,hx=>by
  have:=bou_in l (k+1) (bouF o x) (h.step (hx x (by simp))) fun y hy=>hx y (by simp[hy])
  rw[List.foldl_cons,List.length_cons]
  rwa [show k+((l.length+1:Nat):Int)=k+1+l.length by omega]
theorem far_no {n:Int} (h : -999999999≤n∧n≤999999999):farI n=false:=by simp[farI]; omega
theorem vals_far (hr:RnV r) (h:ClOK r t c):(valsL r c).any farI=false:=by
 have F:=h.form
 have hsz:=hr.sz
 have hlim:=hr.lim
 have hu:=h.used
 have hh:=F.hold
 unfold valsL
 split
 ·cases hd:r.dc
  ·have e:holdsN r=r.size:=by simp[holdsN,hd]
   rw[e] at hh
   have f1:farI (2*(r.size:Int)+2)=false:=far_no (by omega)
   have f2:farI (-c.used)=false:=far_no (by omega)
   have f3:∀ b:Bool,farI (2*c.hold+if b=true then 1 else 0)=false:=fun b=>far_no (by cases b<;>simp<;>omega)
   simp only
   split
   ·simp[f1,f2]
   ·simp[f3 c.plus,f2]
  ·have hl:=F.tries
   rw[hd,if_pos rfl] at hl
   have hb:=bou_in c.tries 0 (0,0,0,0) ⟨by simp,by simp,by simp,by simp⟩ F.trs
   have e:c.tries.foldl bouF (0,0,0,0)=bouL c.tries:=rfl
   rw[e] at hb
   obtain⟨b1,b2,b3,b4⟩:=hb
   have f1:farI (bouL c.tries).1=false:=far_no (by omega)
   have f2:farI (bouL c.tries).2.1=false:=far_no (by omega)
   have f3:farI (bouL c.tries).2.2.1=false:=far_no (by omega)
   have f4:farI (bouL c.tries).2.2.2=false:=far_no (by omega)
   simp[f1,f2,f3,f4]
  ·have hb:=neg_best c.runs F.rns
   have f1:farI (-bestL c.runs)=false:=far_no (by omega)
   simp[f1]
 ·rfl
structure GoodR (k:Nat) (x:Rs):Prop where
 name:isName x.who=true
 st:stateOk x.state=true
 one:isS x=true→x.vals.length=k
 none:isS x=false→x.vals=[]
 far:x.vals.any farI=false
theorem resC_good (hr:RnV r) (h:ClOK r t c) {n:Str} (hn:isName n=true):GoodR (cntV r.dc) (resC r (n,c)):=by
 have hl:=vals_len r c
 have hs:isS (resC r (n,c))=decide (c.st=.fine):=by
  unfold isS resC
  exact decide_eq_decide.2 (stS_fine c.st)
 refine⟨hn,?_,?_,?_,vals_far hr h⟩
 ·show stateOk (stS c.st)=true
  cases c.st<;>decide
 ·intro e
  rw[hs] at e
  show (valsL r c).length=_
  rw[hl,if_pos (of_decide_eq_true e)]
 ·intro e
  rw[hs] at e
  have:¬ c.st=.fine:=of_decide_eq_false e
  rw[if_neg this] at hl
  exact List.eq_nil_of_length_eq_zero hl
theorem each_res {k:Nat} (hk:k≤8):∀ (l pre:List Rs),(∀ x ∈ pre++l,GoodR k x)→(pre++l).Pairwise (fun x y=>x.who≠y.who)→eachE resE pre l=0
 | [],_,_,_=>rfl
 | x::l,pre,hg,hp=>by
  have hx:=hg x (by simp)
  have hpre:pre.any (isW x.who)=false:=by
   rw[List.any_eq_false]
   intro y hy
   have:=(List.pairwise_append.1 hp).2.2 y hy x (by simp)
   simpa[isW] using this
  have hsh:shapeE pre x=false:=by
   unfold shapeE
   cases hf:pre.find? isS with
   | none=>rfl
   | some y =>
    have hy:=hg y (by simp[List.mem_of_find?_eq_some hf])
    have hys:=List.find?_some hf
    cases hxs:isS x
    ·rfl
    ·simp[hx.one hxs,hy.one hys]
  have h1:(!isS x && decide (0<x.vals.length))=false:=by
   cases hxs:isS x
   ·simp[hx.none hxs]
   ·rfl
  have h2:decide (8<x.vals.length)=false:=by
   cases hxs:isS x
   ·simp[hx.none hxs]
   ·simp[hx.one hxs]; omega
  have h0:resE pre x=0:=by
   unfold resE
   rw[hx.name,hpre,hx.st,h1,h2,hx.far,hsh]
   rfl
  rw[eachE,if_neg (by simpa using h0)]
  exact each_res hk l (pre++[x]) (by simpa using hg) (by simpa using hp)
theorem zip_pair:∀ (names:List Str) (cs:List CCl),names.Pairwise (·≠·)→(names.zip cs).Pairwise (fun x y=>x.1≠y.1)
 | [],_,_=>by simp
 | n::names,[],_=>by simp
 | n::names,c::cs,h=>by
  rw[List.pairwise_cons] at h
  rw[List.zip_cons_cons,List.pairwise_cons]
  exact⟨fun x hx=>h.1 _ (List.of_mem_zip (show (x.1,x.2) ∈ _ from hx)).1,zip_pair names cs h.2⟩
theorem resL_good (hn:NmOK names) (hr:RnV r) (h:SsOK r names.length s):∀ x ∈ resL r names s.cls,GoodR (cntV r.dc) x:=by
 intro x hx
 obtain⟨y,hy,rfl⟩:=List.mem_map.1 hx
 obtain⟨m1,m2⟩:=List.of_mem_zip (show (y.1,y.2) ∈ _ from hy)
 exact resC_good hr (h.ok _ m2) (hn.name _ m1).1
theorem resL_once (hn:NmOK names):(resL r names s.cls).Pairwise (fun x y=>x.who≠y.who):=by
 unfold resL
 rw[List.pairwise_map]
 exact zip_pair _ _ hn.once
theorem cntV_le (d:CDc):cntV d≤8:=by cases d<;>decide
theorem res_zero (hn:NmOK names) (hr:RnV r) (h:SsOK r names.length s):resultsE (resL r names s.cls)=0:=by
 unfold resultsE
 have hl:(resL r names s.cls).length=s.cls.length:=resL_len h.len.symm
 have hm:=hn.most
 have hlen:=h.len
 rw[if_neg (by omega)]
 exact each_res (cntV_le r.dc) _ [] (by simpa using resL_good hn hr h) (by simpa using resL_once hn)
theorem resL_ok (hn:NmOK names):∀ x ∈ resL r names s.cls,x.ok:=by
 intro x hx
 obtain⟨y,hy,rfl⟩:=List.mem_map.1 hx
 obtain⟨m1,m2⟩:=List.of_mem_zip (show (y.1,y.2) ∈ _ from hy)
 refine⟨(hn.name _ m1).2,?_,?_⟩
 ·show (stS y.2.st).length<_
  cases y.2.st<;>decide
 ·show ((valsL r y.2).length:Int)<_
  rw[vals_len]
  have:=cntV_le r.dc
  split<;>omega
end LM.GZ
namespace LM.GZ.J
open Go LM
variable {P:Nat→Option SFunc} [Has P]
def two (m:Nat) (s:Int):List Int:=[s,2*(m:Int)+1-s]
end LM.GZ.J
namespace LM.GZ.J
open Go LM
variable {P:Nat→Option SFunc} [Has P]
structure Pr where
 a:Int
 b:Int
def Pr.enc (x:Pr):CV:=.agg [ci x.a,ci x.b]
theorem Pr.elem (x:Pr):Elem (some 2) x.enc:=⟨_,rfl,rfl,by simp⟩
theorem Pr.elems (l:List Pr):∀ x ∈ l.map Pr.enc,Elem (some 2) x:=by
 intro x hx
 obtain⟨y,_,rfl⟩:=List.mem_map.1 hx
 exact y.elem
end LM.GZ.J
namespace LM.GZ.J
open Go LM
variable {P:Nat→Option SFunc} [Has P]
structure Rc where
 a:Str
 b:Str
 w:Int
def Rc.enc (x:Rc):CV:=.agg [.str x.a,.str x.b,ci x.w]
theorem Rc.elem (x:Rc):Elem (some 3) x.enc:=⟨_,rfl,rfl,by simp⟩
theorem Rc.elems (l:List Rc):∀ x ∈ l.map Rc.enc,Elem (some 3) x:=by
 intro x hx
 obtain⟨y,_,rfl⟩:=List.mem_map.1 hx
 exact y.elem
def walkV (a b:Str):Int:=if a=[]∧b=[] then 3 else if b=[] then 1 else if a=[] then 2 else 0
def decR (a b:Str):Rc:=⟨a,b,walkV a b⟩
def pairsL:List Str→List Rc
 | a::b::r=>decR a b::pairsL r
 | _=>[]
end LM.GZ.J
namespace LM.GZ.J
open Go LM
variable {P:Nat→Option SFunc} [Has P]
def winR (r:Rc):Str:=if r.w=1 then r.a else if r.w=2 then r.b else []
def nextL (l:List Rc):List Rc:=pairsL (l.map winR)
end LM.GZ.J
namespace LM.GZ.J
open Go LM
structure Pl where
 n:Str
 p:Int
def Pl.enc (x:Pl):CV:=.agg [.str x.n,ci x.p]
def cPl (xs:List Pl):List LV:=cellsOf (xs.map Pl.enc)
def Inv (out:List Pl) (H:Heap):Prop :=
 if out=[] then H[1]? = some (.cells 0 [.nil] 0) else ∃ b,H[1]? = some (.cells 0 [.slice b out.length 0 out.length (some 2) none] 0)∧H[b]? = some (.cells out.length (cPl out) 0)
def Fr (H H' : Heap):Prop:=H.length≤H'.length∧∀ (i:Nat) (cs:List LV),i≠1→H[i]? = some (.cells 0 cs 0)→H'[i]? = some (.cells 0 cs 0)
theorem Fr.refl (H:Heap):Fr H H:=⟨Nat.le_refl _,fun _ _ _ h=>h⟩
theorem Fr.trans {A B C:Heap} (h:Fr A B) (k:Fr B C):Fr A C:=⟨Nat.le_trans h.1 k.1,fun i cs hi hc=>k.2 i cs hi (h.2 i cs hi hc)⟩
theorem Fr.app (H:Heap) (K:Heap):Fr H (H++K):=⟨by simp,fun i cs _ h=>by
 have:=(List.getElem?_eq_some_iff.1 h).1
 rw[List.getElem?_append_left this]
 exact h⟩
def gcH (n:Nat) (H:Heap):Heap:=if underB n (H.take n) then H.take n else H
theorem underB_get {n:Nat}:∀ {h:Heap} {i:Nat} {x:LB},underB n h=true→h[i]? = some x→x.under n=true
 | [],i,x,_,h=>by simp at h
 | y::r,0,x,hu,h=>by
  simp only[underB,Bool.and_eq_true] at hu
  simp at h
  subst h
  exact hu.1
 | y::r,i+1,x,hu,h=>by
  simp only[underB,Bool.and_eq_true] at hu
  simp at h
  exact underB_get hu.2 h
theorem Inv.gc {out:List Pl} {H:Heap} (h:Inv out H) (n:Nat) (hn:1<n):Inv out (gcH n H):=by
 unfold gcH
 split
 ·rename_i hu
  unfold Inv at h ⊢
  split
  ·rename_i ho
   rw[if_pos ho] at h
   rw[List.getElem?_take_of_lt hn]
   exact h
  ·rename_i ho
   rw[if_neg ho] at h
   obtain⟨b,h1,h2⟩:=h
   have h1' : (H.take n)[1]? = some (.cells 0 [.slice b out.length 0 out.length (some 2) none] 0):=by rw[List.getElem?_take_of_lt hn]; exact h1
   have:=underB_get hu h1'
   simp[LB.under,underL,LV.under] at this
   exact⟨b,h1',by rw[List.getElem?_take_of_lt this]; exact h2⟩
 ·exact h
theorem Fr.gc {H H' : Heap} (h:Fr H H') (n:Nat) (hn:H.length≤n):Fr H (gcH n H'):=by
 unfold gcH
 split
 ·refine⟨by rw[List.length_take]; have:=h.1; omega,fun i cs hi hc=>?_⟩
  have:=(List.getElem?_eq_some_iff.1 hc).1
  rw[List.getElem?_take_of_lt (by omega)]
  exact h.2 i cs hi hc
 ·exact h
theorem Inv.app {out:List Pl} {H:Heap} (h:Inv out H) (K:Heap):Inv out (H++K):=by
 have ap:∀ (i:Nat) (x:LB),H[i]? = some x→(H++K)[i]? = some x:=fun i x hx=>by
  rw[List.getElem?_append_left (List.getElem?_eq_some_iff.1 hx).1]
  exact hx
 unfold Inv at h ⊢
 split
 ·rename_i ho
  rw[if_pos ho] at h
  exact ap _ _ h
 ·rename_i ho
  rw[if_neg ho] at h
  obtain⟨b,h1,h2⟩:=h
  exact⟨b,ap _ _ h1,ap _ _ h2⟩
theorem Inv.pos {out:List Pl} {H:Heap} (h:Inv out H):1<H.length:=by
 unfold Inv at h
 split at h
 ·exact (List.getElem?_eq_some_iff.1 h).1
 ·obtain⟨b,h1,_⟩:=h
  exact (List.getElem?_eq_some_iff.1 h1).1
def InR (l:List Rc) (j p:Nat) (a b:Str) (k:Nat) (ts:List LV):Prop:=∃ x2 x3 x5 x6 x10 x11 x12 x13 x14 x15 x16 x19 x20 x21 x22 x23 x24 x25 x26 x27 x28 x29 x30 x31 x32 x33 x34:LV,ts=[.tuple [],.c (.ptr [.slice (l.map Rc.enc)] 0),x2,x3,.ptr p 0 0,x5,x6,.c (.slice (l.map Rc.enc)),.c (ci l.length),.c (ci j),x10,x11,x12,x13,x14,x15,x16,.c (.agg [.str a,.str b]),.c (ci k),x19,x20,x21,x22,x23,x24,x25,x26,x27,x28,x29,x30,x31,x32,x33,x34]
def AtR (l:List Rc) (j:Nat) (ts:List LV):Prop:=∃ x2 x3 x4 x5 x6 x10 x11 x12 x13 x14 x15 x16 x17 x18 x19 x20 x21 x22 x23 x24 x25 x26 x27 x28 x29 x30 x31 x32 x33 x34:LV,ts=[.tuple [],.c (.ptr [.slice (l.map Rc.enc)] 0),x2,x3,x4,x5,x6,.c (.slice (l.map Rc.enc)),.c (ci l.length),.c (ci j),x10,x11,x12,x13,x14,x15,x16,x17,x18,x19,x20,x21,x22,x23,x24,x25,x26,x27,x28,x29,x30,x31,x32,x33,x34]
theorem InR.scrub {l:List Rc} {j p:Nat} {a b:Str} {k:Nat} {ts:List LV} {n:Nat} (h:InR l j p a b k ts) (hp:p<n):InR l j p a b k (LM.scrub n ts):=by
 obtain⟨x2,x3,x5,x6,x10,x11,x12,x13,x14,x15,x16,x19,x20,x21,x22,x23,x24,x25,x26,x27,x28,x29,x30,x31,x32,x33,x34,rfl⟩:=h
 simp only[LM.scrub,LV.under,underL,decide_eq_true hp,if_true]
 exact⟨_,_,_,_,_,_,_,_,_,_,_,_,_,_,_,_,_,_,_,_,_,_,_,_,_,_,_,rfl⟩
theorem AtR.scrub {l:List Rc} {j:Nat} {ts:List LV} {n:Nat} (h:AtR l j ts):AtR l j (LM.scrub n ts):=by
 obtain⟨x2,x3,x4,x5,x6,x10,x11,x12,x13,x14,x15,x16,x17,x18,x19,x20,x21,x22,x23,x24,x25,x26,x27,x28,x29,x30,x31,x32,x33,x34,rfl⟩:=h
 simp only[LM.scrub,LV.under,underL,if_true]
 exact⟨_,_,_,_,_,_,_,_,_,_,_,_,_,_,_,_,_,_,_,_,_,_,_,_,_,_,_,_,_,_,rfl⟩
theorem InR.g {l:List Rc} {j p:Nat} {a b:Str} {k:Nat} {ts:List LV} (h:InR l j p a b k ts):AtR l j ts:=by
 obtain⟨x2,x3,x5,x6,x10,x11,x12,x13,x14,x15,x16,x19,x20,x21,x22,x23,x24,x25,x26,x27,x28,x29,x30,x31,x32,x33,x34,rfl⟩:=h
 exact⟨_,_,_,_,_,_,_,_,_,_,_,_,_,_,_,_,_,_,_,_,_,_,_,_,_,_,_,_,_,_,rfl⟩
theorem gc_eq (n:Nat) (ts:List LV) (H:Heap):gc n ⟨ts,H⟩=⟨if underB n (H.take n) then LM.scrub n ts else ts,gcH n H⟩:=by
 unfold gc gcH
 split<;>simp_all
variable {Q:Nat→Option LFunc} {yh:Hand} {l:List Rc}
def Tells (yh:Hand) (kb:Nat) (cs:List LV) (N:Int):Prop:=∀ (H:Heap) (out:List Pl) (nm:Str),Inv out H→H[kb]? = some (.cells 0 cs 0)→out.length<100000→∃ H',yh [.c (.str nm)] H=some (H',none)∧Inv (out++[⟨nm,N⟩]) H'∧Fr H H'
end LM.GZ.J
namespace LM.GZ.J
open Go LM
variable {Q:Nat→Option LFunc} {m:Nat} {yh:Hand} {l:List Rc}
theorem runs_two (Q:Nat→Option LFunc) (M:Nat):(runs Q (M+1)).2=execI Q (runs Q M).1 (runs Q M).2:=rfl
end LM.GZ.J
namespace LM.GZ.J
open Go LM
theorem Pl.elem (x:Pl):Elem (some 2) x.enc:=⟨_,rfl,rfl,by simp⟩
theorem Pl.elems (l:List Pl):∀ x ∈ l.map Pl.enc,Elem (some 2) x:=by
 intro x hx
 obtain⟨y,_,rfl⟩:=List.mem_map.1 hx
 exact y.elem
variable {Q:Nat→Option LFunc} {m:Nat}
end LM.GZ.J
namespace LM.GZ.J
open Go LM
variable {P:Nat→Option SFunc} [Has P]
def runOk (r t:Int):Bool:=!(outside r 0 86399999) && !(outside t 0 86399999)
theorem S9 (r t:Int):fn P 9 [.agg [ci r,ci t]]=some (ci (if runOk r t then 0 else 3)):=by
 have e1:=S56 (P:=P) r 0 86399999
 have e2:=S56 (P:=P) t 0 86399999
 rw[u9]
 rcases Bool.eq_false_or_eq_true (outside r 0 86399999) with h1 | h1<;>rcases Bool.eq_false_or_eq_true (outside t 0 86399999) with h2 | h2<;>rw[h1] at e1<;>rw[h2] at e2<;>simp[whenE] at e1 e2<;>simp[c9,runOk,whenE,h1,h2,e1,e2,wrap64]
theorem T124 (r t:Int):fn P 58 [.slice [ci r,ci t]]=some (ci (if runOk r t then 0 else 3)):=by
 have:=S58 (P:=P) r [t] (by simp)
 simp only[List.map_cons,List.map_nil] at this
 rw[this]
 congr 3
 rcases Bool.eq_false_or_eq_true (outside r 0 86399999) with h1 | h1<;>rcases Bool.eq_false_or_eq_true (outside t 0 86399999) with h2 | h2<;>simp[badT,runOk,whenE,h1,h2]
theorem S59_2 (a b:Int):fn P 59 [.slice [ci a,ci b]]=some (ci (firstE [a,b])):=by
 rw[u59]
 simp[c59]
 rw[r59_l0]
 by_cases ha:a=0
 ·simp[c59_l0b,ha,wrap64]
  rw[r59_l0]
  by_cases hb:b=0
  ·simp[c59_l0b,hb,wrap64]
   rw[r59_l0]
   simp[c59_l0b,firstE]
  ·simp[c59_l0b,firstE,hb]
 ·simp[c59_l0b,ha,firstE]
def duelN (rX1 t1 rX2 t2:Int):Int :=
 if rX1<100∧rX2<100 then 3 else if rX1<100 then 2 else if rX2<100 then 1 else
 if t1=0∧t2=0 then 0 else if t1=0 then 2 else if t2=0 then 1 else
 if t1<t2 then 1 else if t2<t1 then 2 else if rX1<rX2 then 1 else if rX2<rX1 then 2 else 0
def duelE (rX1 t1 rX2 t2:Int):Int:=firstE [if runOk rX1 t1 then 0 else 3,if runOk rX2 t2 then 0 else 3]
set_option maxHeartbeats 4000000 in
theorem S11 (rX1 t1 rX2 t2:Int):fn P 11 [.agg [ci rX1,ci t1],.agg [ci rX2,ci t2]]=some (.tuple (if duelE rX1 t1 rX2 t2=0 then [ci (duelN rX1 t1 rX2 t2),ci 0] else [ci 0,ci (duelE rX1 t1 rX2 t2)])):=by
 have e1:=T124 (P:=P) rX1 t1
 have e2:=T124 (P:=P) rX2 t2
 have e88:=S57_2 (P:=P) (if runOk rX1 t1 then 0 else 3) (if runOk rX2 t2 then 0 else 3)
 have hE:firstE [if runOk rX1 t1 then 0 else 3,if runOk rX2 t2 then 0 else 3]=duelE rX1 t1 rX2 t2:=rfl
 rw[hE] at e88
 have f1:=S96j (P:=P) t1 t2
 have f2:=S96j (P:=P) rX1 rX2
 have f3:=S59_2 (P:=P) (cmpJ t1 t2) (cmpJ rX1 rX2)
 rw[u11]
 generalize (if runOk rX1 t1=true then (0:Int) else 3)=a1 at *
 generalize (if runOk rX2 t2=true then (0:Int) else 3)=a2 at *
 by_cases hd:duelE rX1 t1 rX2 t2=0
 ·rw[hd] at e88
  rw[if_pos hd]
  have k1q:(t1<t2∧cmpJ t1 t2 = -1)∨(t2<t1∧¬ t1<t2∧cmpJ t1 t2=1)∨(t1=t2∧cmpJ t1 t2=0):=by
   unfold cmpJ
   rcases Int.lt_trichotomy t1 t2 with h | h | h
   ·exact .inl ⟨h,by rw[if_pos h]⟩
   ·exact .inr (.inr ⟨h,by rw[if_neg (by omega),if_neg (by omega)]⟩)
   ·exact .inr (.inl ⟨h,by omega,by rw[if_neg (by omega),if_pos h]⟩)
  have k2q:(rX1<rX2∧cmpJ rX1 rX2 = -1)∨(rX2<rX1∧¬ rX1<rX2∧cmpJ rX1 rX2=1)∨(rX1=rX2∧cmpJ rX1 rX2=0):=by
   unfold cmpJ
   rcases Int.lt_trichotomy rX1 rX2 with h | h | h
   ·exact .inl ⟨h,by rw[if_pos h]⟩
   ·exact .inr (.inr ⟨h,by rw[if_neg (by omega),if_neg (by omega)]⟩)
   ·exact .inr (.inl ⟨h,by omega,by rw[if_neg (by omega),if_pos h]⟩)
  simp[c11,e1,e2,e88,f1,f2,f3]
  rcases k1q with ⟨k1q,d1⟩ | ⟨k1q,k1q',d1⟩ | ⟨k1q,d1⟩<;>rcases k2q with ⟨k2q,d2⟩ | ⟨k2q,k2q',d2⟩ | ⟨k2q,d2⟩<;>simp only[firstE,d1,d2,duelN]<;>(repeat' split)<;>first | rfl | (exfalso; omega)
 ·rw[if_neg hd]
  simp[c11,e1,e2,e88,hd]
end LM.GZ.J
namespace LM.GZ
open Go LM J
variable {P:Nat→Option SFunc} [Has P] [HasP P]
variable {a t b u:Int}
theorem du_ok (ht:0≤t∧t≤86399999) (hu:0≤u∧u≤86399999):SsOK duR 2 ⟨86399999,[duC a t,duC b u]⟩:=by
 have hE:=duL_ok (a:=a) (b:=b) ht hu
 have hok:=run_ok du_rn.ok (duL a t b u) (startL duR 2) (start_ok du_rn.ok) fun e he=>(hE e he).1
 rw[(du_run (a:=a) (b:=b) ht hu).1] at hok
 exact hok
theorem duRes_ok:∀ x ∈ duRes a t b u,x.ok:=resL_ok (s:=⟨86399999,[duC a t,duC b u]⟩) du_names
theorem duRes_zero (ht:0≤t∧t≤86399999) (hu:0≤u∧u≤86399999):resultsE (duRes a t b u)=0:=res_zero (s:=⟨86399999,[duC a t,duC b u]⟩) du_names du_rn (du_ok ht hu)
theorem S3 (hB:BehOK P) (h10:fn P 10 []=some (.bool true)) (a t b u:Int):fn P 3 [.agg [ci a,ci t],.agg [ci b,ci u]]=some (.bool true):=by
 have e9a:=S9 (P:=P) a t
 have e9b:=S9 (P:=P) b u
 have e11:=S11 (P:=P) a t b u
 rw[u3]
 cases ha:runOk a t
 ·rw[ha] at e9a
  simp at e9a
  simp[c3,e9a,h10]
 ·cases hb:runOk b u
  ·rw[ha] at e9a
   rw[hb] at e9b
   simp at e9a e9b
   simp[c3,e9a,e9b,h10]
  ·have ht:0≤t∧t≤86399999:=by simp[runOk,outside] at ha; omega
   have hu:0≤u∧u≤86399999:=by simp[runOk,outside] at hb; omega
   have e12:=S12 (P:=P) (a:=a) (b:=b) hB ht hu
   have hz:=duRes_zero (a:=a) (b:=b) ht hu
   have hl:(duRes a t b u).length=2:=rfl
   have e13:=S13 (P:=P) (duRes a t b u) duRes_ok (by rw[hl]; decide)
   have e14:=S14 (P:=P) (duRes a t b u) 1 duRes_ok (by rw[hl]; decide) (fun _=>by rw[hl]; decide)
   have hf:fwdE (duRes a t b u) 1=0:=by unfold fwdE; rw[hz]; rfl
   have hE:duelE a t b u=0:=by unfold duelE; rw[ha,hb]; rfl
   rw[hz] at e13
   rw[if_pos hf,du_fwd a t b u ht.1 hu.1] at e14
   rw[if_pos hE] at e11
   rw[ha] at e9a
   rw[hb] at e9b
   simp at e9a e9b
   generalize duRes a t b u=R at *
   have w0:IntKind.i64.wrap 0=0:=rfl
   by_cases h1:a<100<;>by_cases h2:b<100
   ·have hF:duF a t b u=[]:=by
     have q1:timed a t=false:=by simp[timed]; omega
     have q2:timed b u=false:=by simp[timed]; omega
     simp[duF,q1,q2]
    have hN:duelN a t b u=3:=by simp[duelN,h1,h2]
    rw[hF] at e14
    rw[hN] at e11
    simp at e14
    simp[c3,e9a,e9b,e11,e12,e13,e14,h10,w0,h1,h2]
   ·have hN:duelN a t b u=2:=by simp[duelN,h1,h2]
    rw[hN] at e11
    by_cases h3:u=0
    ·have hF:duF a t b u=[]:=by
      have q1:timed a t=false:=by simp[timed]; omega
      have q2:timed b u=false:=by simp[timed]; omega
      simp[duF,q1,q2]
     rw[hF] at e14
     simp at e14
     simp[c3,e9a,e9b,e11,e12,e13,e14,h10,w0,h1,h2]
    ·have hF:duF a t b u=[nBen]:=by
      have:timed a t=false:=by simp[timed]; omega
      have t2:timed b u=true:=by simp[timed,h3]; omega
      simp[duF,this,t2]
     rw[hF] at e14
     simp[nBen] at e14
     simp[c3,e9a,e9b,e11,e12,e13,e14,h10,w0,h1,h2]
   ·have hN:duelN a t b u=1:=by simp[duelN,h1,h2]
    rw[hN] at e11
    by_cases h3:t=0
    ·have hF:duF a t b u=[]:=by
      have q1:timed a t=false:=by simp[timed]; omega
      have q2:timed b u=false:=by simp[timed]; omega
      simp[duF,q1,q2]
     rw[hF] at e14
     simp at e14
     simp[c3,e9a,e9b,e11,e12,e13,e14,h10,w0,h1,h2]
    ·have hF:duF a t b u=[nAnn]:=by
      have:timed b u=false:=by simp[timed]; omega
      have t2:timed a t=true:=by simp[timed,h3]; omega
      simp[duF,this,t2]
     rw[hF] at e14
     simp[nAnn] at e14
     simp[c3,e9a,e9b,e11,e12,e13,e14,h10,w0,h1,h2]
   ·have g1:100≤a:=by omega
    have g2:100≤b:=by omega
    by_cases h3:t=0<;>by_cases h4:u=0
    ·have hF:duF a t b u=[]:=by simp[duF,timed,h3,h4]
     have hN:duelN a t b u=0:=by simp[duelN,h1,h2,h3,h4]
     rw[hF] at e14
     rw[hN] at e11
     simp at e14
     simp[c3,e9a,e9b,e11,e12,e13,e14,h10,w0,h1,h2]
    ·have hF:duF a t b u=[nBen]:=by simp[duF,timed,h3,h4,g1,g2]
     have hN:duelN a t b u=2:=by simp[duelN,h1,h2,h3,h4]
     rw[hF] at e14
     rw[hN] at e11
     simp[nBen] at e14
     simp[c3,e9a,e9b,e11,e12,e13,e14,h10,w0,h1,h2]
    ·have hF:duF a t b u=[nAnn]:=by simp[duF,timed,h3,h4,g1,g2]
     have hN:duelN a t b u=1:=by simp[duelN,h1,h2,h3,h4]
     rw[hF] at e14
     rw[hN] at e11
     simp[nAnn] at e14
     simp[c3,e9a,e9b,e11,e12,e13,e14,h10,w0,h1,h2]
    ·rcases Int.lt_trichotomy t u with h5 | h5 | h5
     ·have hF:duF a t b u=[nAnn]:=by simp[duF,timed,h3,h4,g1,g2,h5]
      have hN:duelN a t b u=1:=by simp[duelN,h1,h2,h3,h4,h5]
      rw[hF] at e14
      rw[hN] at e11
      simp[nAnn] at e14
      simp[c3,e9a,e9b,e11,e12,e13,e14,h10,w0,h1,h2]
     ·subst h5
      have hF:duF a t b t=[nAnn,nBen]:=by simp[duF,timed,h3,g1,g2]
      rw[hF] at e14
      simp[nAnn,nBen] at e14
      rcases Int.lt_trichotomy a b with h6 | h6 | h6
      ·have h7:¬ b<a:=by omega
       have hN:duelN a t b t=1:=by simp[duelN,h1,h2,h3,h6]
       rw[hN] at e11
       simp[c3,e9a,e9b,e11,e12,e13,e14,h10,w0,h6,h7]
      ·subst h6
       have hN:duelN a t a t=0:=by simp[duelN,h1,h3]
       rw[hN] at e11
       simp[c3,e9a,e9b,e11,e12,e13,e14,h10,w0]
      ·have h7:¬ a<b:=by omega
       have hN:duelN a t b t=2:=by simp[duelN,h1,h2,h3,h6,h7]
       rw[hN] at e11
       simp[c3,e9a,e9b,e11,e12,e13,e14,h10,w0,h6,h7]
     ·have h6:¬ t<u:=by omega
      have hF:duF a t b u=[nBen]:=by simp[duF,timed,h3,h4,g1,g2,h5,h6]
      have hN:duelN a t b u=2:=by simp[duelN,h1,h2,h3,h4,h5,h6]
      rw[hF] at e14
      rw[hN] at e11
      simp[nBen] at e14
      simp[c3,e9a,e9b,e11,e12,e13,e14,h10,w0,h1,h2]
end LM.GZ
