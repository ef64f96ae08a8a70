/- Part 2 of what YtlnejpgfiopjjaaGreatParted leans on. -/
import Derived.RangeFuncRecord
import Derived.Orders
import Derived.RangeFuncNested
import Derived.Scope
import Derived.ReadAgain
import Derived.ChangeBears
import Derived.ChangeSame
import Derived.SizedLaws
import Derived.RowKit
import Derived.Handed
import Derived.JoinedOf
import Derived.Test.YtlnejpgfiopjjaaGreatPartedL1
set_option linter.all false
namespace LM
open Go Go.RowKit
variable {DS:List Deferred}
section
variable {P:Program} {F:Fz} {J:JMap} {a:Act} {w:World} {o:Oper} {ts:List LV} {h h' : Heap} {v:LV} {pos:Option Nat}
theorem GB {t e:TypeId} {n:Nat} {x:Operand} {c:Call} (hop:o.op=.call c) (hc:c.callee=.builtin .len) (h0:c.argTypes[0]? = some t) (ha:c.args=#[x]) (ht:P.underlying t=some (.array n e))
  (hH:HRel F J h w) (hs:ab pos ts h (.move (.k (.c (.int .i64 n))))=some (v,h')):aG P F J a w o h' v:=by
 obtain⟨rfl,rfl⟩:=aI hs
 refine Good.op (s:=Builtin.len_ c.argTypes o.type #[a.eval x]) ?_ (.same (u:=goInt n) hH (.c _ _ (.int _ _)) ?_)
 ·obtain⟨cs,he⟩:=dY (a:=a) hop hc
  rw[he,ha,List.map_toArray]
  rfl
 ·have e1:(#[a.eval x]:Array Value)[0]? = some (a.eval x):=rfl
  simp only[Builtin.len_,h0,e1,Sem.run_bind,run_underlying ht,Result.andThen_ok]
  rfl
theorem vw {b:Builtin} {c:Call} {lop:LOp} (hop:o.op=.call c) (hcal:c.callee=.builtin b) (hc:gd P b c.argTypes.toList c.args.toList=some lop)
  (hT:TRel DS F J ts a) (hH:HRel F J h w) (hp:dW pos h) (hs:ab pos ts h lop=some (v,h')):aG P F J a w o h' v:=by
 unfold gd at hc
 split at hc
 ·rename_i t r x e1 e2
  have h0:c.argTypes[0]? = some t:=by rw[← Array.getElem?_toList,e1]; rfl
  have ha:c.args=#[x]:=by rw[← Array.toList_inj]; exact e2
  split at hc
  ·rename_i ht
   obtain⟨y,hy,rfl⟩:=bY hc
   exact sD hop hcal h0 ha hy (.inl ⟨rfl,ht⟩) hT hH hs
  ·rename_i e ht
   obtain⟨y,hy,rfl⟩:=bY hc
   exact sD hop hcal h0 ha hy (.inr (.inl ⟨rfl,e,ht⟩)) hT hH hs
  ·rename_i e f ht
   obtain⟨y,hy,rfl⟩:=bY hc
   exact sD hop hcal h0 ha hy (.inr (.inr ⟨rfl,e,f,ht⟩)) hT hH hs
  ·rename_i n e ht
   simp only[Option.some.injEq] at hc
   subst hc
   exact GB hop hcal h0 ha ht hH hs
  ·cases hc
 ·rename_i t t2 s x e1 e2
  have h0:c.argTypes=#[t,t2]:=by rw[← Array.toList_inj]; exact e1
  have ha:c.args=#[s,x]:=by rw[← Array.toList_inj]; exact e2
  split at hc
  ·rename_i e ht hk
   split at hc
   ·rename_i z it hz hit
    split at hc
    ·rename_i hcond
     obtain⟨ys,yx,h1,h2,rfl⟩:=cG hc
     exact G7 hop hcal h0 ha h1 h2 ht hk hz hit hcond.2 hT hH hp hs
    ·cases hc
   ·cases hc
  ·cases hc
 ·rename_i x r e2
  split at hc
  ·rename_i y l hy hl
   simp only[Option.some.injEq] at hc
   subst hc
   exact qy (b:=true) hop hcal e2 hy hl hT hH hs
  ·cases hc
 ·rename_i x r e2
  split at hc
  ·rename_i y l hy hl
   simp only[Option.some.injEq] at hc
   subst hc
   exact qy (b:=false) hop hcal e2 hy hl hT hH hs
  ·cases hc
 ·rename_i t r x e1 e2
  have h0:c.argTypes[0]? = some t:=by rw[← Array.getElem?_toList,e1]; rfl
  have ha:c.args=#[x]:=by rw[← Array.toList_inj]; exact e2
  split at hc
  ·rename_i e ht
   split at hc
   ·rename_i z n hz hn
    split at hc
    ·obtain⟨y,hy,rfl⟩:=bY hc
     exact II hop hcal h0 ha hy ht hz hT hH hs
    ·cases hc
   ·cases hc
  ·cases hc
 ·rename_i t t2 s x e1 e2
  have h0:c.argTypes=#[t,t2]:=by rw[← Array.toList_inj]; exact e1
  have ha:c.args=#[s,x]:=by rw[← Array.toList_inj]; exact e2
  split at hc
  ·rename_i e ht hk
   split at hc
   ·rename_i z hz
    split at hc
    ·rename_i hz0
     obtain⟨ys,yx,h1,h2,rfl⟩:=cG hc
     exact On hop hcal h0 ha h1 h2 ht hz hz0 hT hH hs
    ·cases hc
   ·cases hc
  ·cases hc
 ·cases hc
theorem p8 {quiet:Bool} {ty:TypeId} {x:Operand} {lop:LOp} (hop:o.op=.move x∨o.op=.assign x) (hc:eT P quiet ty x=some lop)
  (hT:TRel DS F J ts a) (hH:HRel F J h w) (hp:dW pos h) (hs:ab pos ts h lop=some (v,h')):aG P F J a w o h' v:=by
 unfold eT at hc
 split at hc
 ·split at hc
  ·split at hc
   ·simp only[Option.some.injEq] at hc
    subst hc
    exact Ht hop hH hp hs
   ·cases hc
  ·cases hc
 ·obtain⟨y,hy,rfl⟩:=bY hc
  exact M5 hop hy hT hH hs
theorem RW {quiet:Bool} {const:Nat} {ty:TypeId} {lop:LOp} (hc:cOp P quiet const ty o.op=some lop)
  (hT:TRel DS F J ts a) (hH:HRel F J h w) (hp:dW pos h) (hs:ab pos ts h lop=some (v,h')):aG P F J a w o h' v:=by
 unfold cOp at hc
 split at hc
 ·rename_i x hop
  exact p8 (.inl hop) hc hT hH hp hs
 ·rename_i x hop
  exact p8 (.inr hop) hc hT hH hp hs
 ·rename_i c x y hop
  obtain⟨y1,y2,y3,h1,h2,h3,rfl⟩:=lF hc
  exact Nb hop h1 h2 h3 hT hH hs
 ·rename_i e hop
  simp only[Option.map_eq_some_iff] at hc
  obtain⟨z,hz,rfl⟩:=hc
  exact RJ hop hz hH hp hs
 ·rename_i t x hop
  obtain⟨y,hy,rfl⟩:=bY hc
  exact Qb hop hy hT hH hp hs
 ·rename_i t parts hop
  split at hc
  ·rename_i fs z ht hz
   split at hc
   ·rename_i hpl
    obtain⟨pl,hpl⟩:=Option.isSome_iff_exists.1 hpl
    simp only[Option.map_eq_some_iff] at hc
    obtain⟨qs,hqs,rfl⟩:=hc
    exact uT hop hz (.inl ⟨fs,pl,ht,hpl,hqs⟩) hT hH hs
   ·cases hc
  ·rename_i n e z ht hz
   split at hc
   ·rename_i m hm
    simp only[Option.map_eq_some_iff] at hc
    obtain⟨qs,hqs,rfl⟩:=hc
    exact uT hop hz (.inr ⟨n,e,m,ht,hm,hqs⟩) hT hH hs
   ·cases hc
  ·cases hc
 ·rename_i t len parts hop
  split at hc
  ·rename_i e ht
   split at hc
   ·rename_i z zs ps hz hzs hps
    split at hc
    ·rename_i hcond
     simp only[Option.some.injEq] at hc
     subst hc
     exact sR hop ht hz hzs hps hcond.1 hcond.2.1 hcond.2.2 hT hH hp hs
    ·cases hc
   ·cases hc
  ·cases hc
 ·rename_i t x hop
  split at hc
  ·rename_i z hz
   obtain⟨y,hy,rfl⟩:=bY hc
   exact Me hop hy hz hT hH hs
  ·cases hc
 ·rename_i t x y hop
  split at hc
  ·rename_i n hn
   obtain⟨y1,y2,h1,h2,rfl⟩:=cG hc
   exact Lp hop h1 h2 hn hT hH hs
  ·cases hc
 ·rename_i op t x y yt hop
  split at hc
  ·rename_i e ht
   split at hc
   ·obtain⟨y1,h1,rfl⟩:=bY hc
    exact vg hop (.inl ⟨rfl,rfl⟩) h1 ht hT hH hs
   ·obtain⟨y1,h1,rfl⟩:=bY hc
    exact vg hop (.inr ⟨rfl,rfl⟩) h1 ht hT hH hs
   ·cases hc
  ·rename_i ht
   obtain⟨y1,y2,h1,h2,rfl⟩:=cG hc
   exact BQ hop h1 h2 ht hT hH hs
  ·obtain⟨y1,y2,h1,h2,rfl⟩:=cG hc
   exact Dj hop h1 h2 hT hH hs
  ·obtain⟨y1,y2,h1,h2,rfl⟩:=cG hc
   exact Dj hop h1 h2 hT hH hs
  ·rename_i fs ht
   split at hc
   ·rename_i kk hkk
    split at hc
    ·cases hc
    ·rename_i hg
     simp only[Bool.not_eq_true] at hg
     split at hc
     ·obtain⟨y1,y2,h1,h2,rfl⟩:=cG hc
      exact kr hop (.inl ⟨rfl,rfl⟩) h1 h2 hkk (.inl ⟨fs,ht⟩) hg hT hH hs
     ·obtain⟨y1,y2,h1,h2,rfl⟩:=cG hc
      exact kr hop (.inr ⟨rfl,rfl⟩) h1 h2 hkk (.inl ⟨fs,ht⟩) hg hT hH hs
     ·cases hc
   ·cases hc
  ·rename_i n e ht
   split at hc
   ·rename_i kk hkk
    split at hc
    ·cases hc
    ·rename_i hg
     simp only[Bool.not_eq_true] at hg
     split at hc
     ·obtain⟨y1,y2,h1,h2,rfl⟩:=cG hc
      exact kr hop (.inl ⟨rfl,rfl⟩) h1 h2 hkk (.inr ⟨n,e,ht⟩) hg hT hH hs
     ·obtain⟨y1,y2,h1,h2,rfl⟩:=cG hc
      exact kr hop (.inr ⟨rfl,rfl⟩) h1 h2 hkk (.inr ⟨n,e,ht⟩) hg hT hH hs
     ·cases hc
   ·cases hc
  ·cases hc
 ·rename_i x hop
  obtain⟨y,hy,rfl⟩:=bY hc
  exact Bt hop hy hT hH hs
 ·rename_i t x hop
  obtain⟨y,hy,rfl⟩:=bY hc
  exact P1 hop hy hT hH hs
 ·rename_i t x hop
  obtain⟨y,hy,rfl⟩:=bY hc
  exact Rh hop hy hT hH hs
 ·rename_i src dst x hop
  split at hc
  ·rename_i k' k hsrc hdst
   obtain⟨y,hy,rfl⟩:=bY hc
   exact OA hop hy hsrc hdst hT hH hs
  ·rename_i hsrc hdst
   obtain⟨y,hy,rfl⟩:=bY hc
   exact Cb hop hy hsrc hdst hT hH hs
  ·cases hc
 ·rename_i f first caps hop
  split at hc
  ·rename_i l1 l2 h1 h2
   simp only[Option.some.injEq] at hc
   subst hc
   exact GQ hop h1 h2 hT hH hs
  ·cases hc
 ·rename_i t r hop
  split at hc
  ·simp only[Option.some.injEq] at hc
   subst hc
   exact ou hop (.inl rfl) hH hp hs
  ·rename_i k n e f ht
   simp only[Option.some.injEq] at hc
   subst hc
   exact ou hop (.inr ⟨⟨k,n,rfl⟩,e,f,ht⟩) hH hp hs
  ·cases hc
 ·rename_i t l c hop
  split at hc
  ·rename_i e ht
   split at hc
   ·rename_i z zs it hz hzs hit
    split at hc
    ·rename_i hcond
     obtain⟨y1,y2,h1,h2,rfl⟩:=cG hc
     exact vo hop h1 h2 ht hz hzs hit hcond.1 hcond.2 hT hH hp hs
    ·cases hc
   ·cases hc
  ·cases hc
 ·rename_i t x lo hi mx hop
  split at hc
  ·rename_i y l hh ht h1 hlo hhi hmx
   simp only[Option.some.injEq] at hc
   subst hc
   have:mx=none:=by
    rcases fm hmx with ⟨rfl,_⟩ | ⟨x0,y0,rfl,h,_⟩
    ·rfl
    ·cases h
   subst this
   exact Ax hop h1 hlo hhi ht hT hH hs
  ·rename_i e y l hh m ht h1 hlo hhi hmx
   split at hc
   ·rename_i z hz
    split at hc
    ·simp only[Option.some.injEq] at hc
     subst hc
     exact Ca hop h1 hlo hhi hmx ht hz hT hH hs
    ·cases hc
   ·cases hc
  ·rename_i n e y l hh m ht h1 hlo hhi hmx
   split at hc
   ·rename_i z hz
    simp only[Option.some.injEq] at hc
    subst hc
    exact zp hop h1 hlo hhi hmx ht hz hT hH hs
   ·cases hc
  ·cases hc
 ·rename_i s x f hop
  split at hc
  ·rename_i fs ht
   split at hc
   ·rename_i fd hf
    split at hc
    ·rename_i n hn
     split at hc
     ·cases hc
     ·rename_i hn0
      obtain⟨y,hy,rfl⟩:=bY hc
      exact vB hop hy ht hf hn hn0 hT hH hs
    ·cases hc
   ·cases hc
  ·cases hc
 ·rename_i t x f hop
  split at hc
  ·rename_i fs ht
   split at hc
   ·rename_i fd hf
    split at hc
    ·rename_i z hz
     obtain⟨y,hy,rfl⟩:=bY hc
     exact LL hop hy ht hf hz hT hH hs
    ·cases hc
   ·cases hc
  ·cases hc
 ·rename_i t x i hop
  split at hc
  ·rename_i e ht
   split at hc
   ·rename_i z hz
    obtain⟨y1,y2,h1,h2,rfl⟩:=cG hc
    exact xF hop h1 h2 ht hz hT hH hs
   ·cases hc
  ·rename_i n e ht
   split at hc
   ·rename_i z hz
    obtain⟨y1,y2,h1,h2,rfl⟩:=cG hc
    exact GD hop h1 h2 ht hz hT hH hs
   ·cases hc
  ·cases hc
 ·rename_i t x i hop
  split at hc
  ·rename_i n e ht
   split at hc
   ·rename_i z hz
    obtain⟨y1,y2,h1,h2,rfl⟩:=cG hc
    exact zl hop h1 h2 ht hz hT hH hs
   ·cases hc
  ·rename_i ht
   obtain⟨y1,y2,h1,h2,rfl⟩:=cG hc
   exact yy hop h1 h2 ht hT hH hs
  ·cases hc
 ·rename_i t x k isOk hop
  split at hc
  ·rename_i kt et ht
   split at hc
   ·rename_i zero kn hz hkn
    obtain⟨y1,y2,h1,h2,rfl⟩:=cG hc
    exact Ho hop h1 h2 ht hkn hz hT hH hs
   ·cases hc
  ·cases hc
 ·rename_i t m k x hop
  split at hc
  ·rename_i kt et ht
   split at hc
   ·rename_i kn hkn
    obtain⟨y1,y2,y3,h1,h2,h3,rfl⟩:=lF hc
    exact mz (.inl hop) h1 h2 h3 ht hkn hT hH hs
   ·cases hc
  ·cases hc
 ·rename_i t m k x hop
  split at hc
  ·rename_i kt et ht
   split at hc
   ·rename_i kn hkn
    obtain⟨y1,y2,y3,h1,h2,h3,rfl⟩:=lF hc
    exact mz (.inr hop) h1 h2 h3 ht hkn hT hH hs
   ·cases hc
  ·cases hc
 ·rename_i t x hop
  split at hc
  ·rename_i ht
   obtain⟨y,hy,rfl⟩:=bY hc
   exact Ko hop hy ht hT hH hp hs
  ·cases hc
 ·rename_i x hop
  obtain⟨y,hy,rfl⟩:=bY hc
  exact Oe hop hy hT hH hs
 ·rename_i x i hop
  obtain⟨y,hy,rfl⟩:=bY hc
  exact B8 hop hy hT hH hs
 ·rename_i b args ats nd hop
  exact vw hop rfl hc hT hH hp hs
 ·split at hc
  ·simp only[Option.some.injEq] at hc
   subst hc
   cases hs
  ·cases hc
 ·cases hc
end
end LM
namespace LM
open Go Go.RowKit
section
variable {P:Program} {F:Fz} {J:JMap} {w:World} {h h' : Heap}
def FSame (F:Fz) (J:JMap) (F' : Fz):Prop:=∀ cb,(∀ (b:Nat) (i:Info),J[b]? = some (some i)→i.virt=false→i.cb≠cb)→(∀ o,F'.cell cb o=F.cell cb o)∧F'.map cb=F.map cb
theorem FSame.refl (F:Fz) (J:JMap):FSame F J F:=fun _ _=>⟨fun _=>rfl,rfl⟩
theorem FSame.trans {A B C:Fz} (h:FSame A J B) (k:FSame B J C):FSame A J C:=fun cb hc=>⟨fun o=>((k cb hc).1 o).trans ((h cb hc).1 o),(k cb hc).2.trans (h cb hc).2⟩
theorem FSame.ext {F' : Fz} (hF:F.le F') (h:FSame F J F'):Ext F J w F' J w :=
 ⟨hF,.refl J,rfl,rfl,rfl,Nat.le_refl _,fun cb _ hne=>⟨rfl,(h cb hne).1,(h cb hne).2⟩,fun b i hi hv _=>⟨b,i,hi,hv,rfl⟩⟩
theorem HRel.freeze {F' : Fz} {b:Nat} {i:Info} {blk' : LB} (hH:HRel F J h w) (hi:J[b]? = some (some i)) (hv:i.virt=false) (hd:blk'≠.dead) (hF:F.le F') (hsame:∀ cb,cb≠i.cb→(∀ o,F'.cell cb o=F.cell cb o)∧F'.map cb=F.map cb)
  (hfz:FzOk F' w) (hB:BRel F' J i w blk'):HRel F' J (h.set b blk') w∧FSame F J F':=by
 have hbl:b<J.length:=(List.getElem?_eq_some_iff.1 hi).1
 refine⟨⟨by simp[hH.len],fun c blk hc hdc=>?_,fun c hc=>?_,hH.inj,hH.bound,hfz⟩,fun cb hc=>hsame cb (fun e=>hc b i hi hv e.symm)⟩
 ·by_cases e:b=c
  ·subst e
   rw[List.getElem?_set_self (by rw[hH.len]; exact hbl)] at hc
   simp only[Option.some.injEq] at hc
   subst hc
   exact⟨i,hi,hB⟩
  ·rw[List.getElem?_set_ne e] at hc
   obtain⟨i2,hi2,hr⟩:=hH.live c blk hc hdc
   exact⟨i2,hi2,hr.mono hF (.refl J) fun hv2=>⟨rfl,hsame _ fun ecb=>e (hH.inj b c i i2 hi hi2 hv hv2 ecb.symm)⟩⟩
 ·by_cases e:b=c
  ·subst e
   rw[List.getElem?_set_self (by rw[hH.len]; exact hbl)] at hc
   simp only[Option.some.injEq] at hc
   exact absurd hc hd
  ·rw[List.getElem?_set_ne e] at hc
   exact hH.dead c hc
def Fz.addMap (F:Fz) (r:Nat) (es:Array MapEntry):Fz where
 cell:=F.cell
 map:=fun r'=>match F.map r' with
  | some v=>some v
  | none=>if r'=r then some es else none
theorem Fz.le_addMap (F:Fz) (r:Nat) (es:Array MapEntry):F.le (F.addMap r es):=⟨fun _ _ _ h=>h,fun r' m h=>by simp[Fz.addMap,h]⟩
theorem A6 {b g top:Nat} {cs:List LV} {fz:Nat} {i:Info} (hH:HRel F J h w) (hb:h[b]? = some (.cells g cs fz)) (hi:J[b]? = some (some i)) (ht:top≤cs.length) :
  ∃ F',F.le F'∧FSame F J F'∧HRel F' J (bump b top h) w∧(i.virt=false→∃ (arr:Array Value) (el:TypeId),w.heap[i.cb]? = some (.cells arr el (0,0))∧∀ k,k<top→∃ v,arr[i.base+k]? = some v∧F'.cell i.cb (i.base+k)=some v):=by
 obtain⟨i2,hi2,hg,hfix,hvirt,hlive⟩:=hH.cellsAt hb
 rw[hi] at hi2
 simp only[Option.some.injEq] at hi2
 subst hi2
 have hbump:bump b top h=h.set b (.cells g cs (Nat.max fz top)):=by unfold bump; rw[hb]
 cases hv:i.virt with
 | true =>
  refine⟨F,F.le_refl,.refl F J,?_,fun h=>by cases h⟩
  rw[hbump]
  have hbl:b<J.length:=(List.getElem?_eq_some_iff.1 hi).1
  refine⟨by simp[hH.len],fun c blk hc hdc=>?_,fun c hc=>?_,hH.inj,hH.bound,hH.fz⟩
  ·by_cases e:b=c
   ·subst e
    rw[List.getElem?_set_self (by rw[hH.len]; exact hbl)] at hc
    simp only[Option.some.injEq] at hc
    subst hc
    exact⟨i,hi,hg.symm,hfix,hvirt,fun h=>by rw[hv] at h; cases h⟩
   ·rw[List.getElem?_set_ne e] at hc
    exact hH.live c blk hc hdc
  ·by_cases e:b=c
   ·subst e
    rw[List.getElem?_set_self (by rw[hH.len]; exact hbl)] at hc
    simp at hc
   ·rw[List.getElem?_set_ne e] at hc
    exact hH.dead c hc
 | false =>
  obtain⟨arr,el,harr,hsize,hbase,hun,us,hus,huarr⟩:=hlive hv
  let gF:Nat→Option Value:=fun o=>if i.base≤o∧o<i.base+top then arr[o]? else none
  have hgF:∀ o v,gF o=some v→w.cell? ⟨i.cb,o,none⟩=some v:=by
   intro o v hg
   simp only[gF] at hg
   split at hg
   ·exact dC harr hg
   ·cases hg
  have hfz:=hH.fz.add (g:=gF) (b:=i.cb) hgF
  have hle:=F.le_add i.cb gF
  have hsame:∀ cb,cb≠i.cb→(∀ o,(F.add i.cb gF).cell cb o=F.cell cb o)∧(F.add i.cb gF).map cb=F.map cb:=by
   intro cb hne
   refine⟨fun o=>?_,rfl⟩
   simp only[Fz.add]
   split
   ·rename_i v hv; exact hv.symm
   ·rename_i hv; rw[if_neg hne,hv]
  have hB:BRel (F.add i.cb gF) J i w (.cells g cs (Nat.max fz top)):=by
   refine⟨hg.symm,hfix,hvirt,fun _=>⟨arr,el,harr,hsize,hbase,fun k x hx=>?_,fun o ho=>?_⟩⟩
   ·obtain⟨u,hu,hr,hc⟩:=hus.2 k x hx
    exact⟨u,huarr k u hu,hr.mono hle (.refl J),hc⟩
   ·have h1:fz≤Nat.max fz top:=Nat.le_max_left _ _
    have h2:top≤Nat.max fz top:=Nat.le_max_right _ _
    simp only[Fz.add,hun o (by omega),if_true,gF]
    rw[if_neg (by omega)]
  obtain⟨h1,h2⟩:=hH.freeze (F':=F.add i.cb gF) (blk':=.cells g cs (Nat.max fz top)) hi hv (by simp) hle hsame hfz hB
  refine⟨_,hle,h2,by rw[hbump]; exact h1,fun _=>⟨arr,el,harr,fun k hk=>?_⟩⟩
  have hlt:i.base+k<arr.size:=by omega
  refine⟨arr[i.base+k],Array.getElem?_eq_getElem hlt,?_⟩
  have hcell:=hgF (i.base+k) arr[i.base+k] (by simp only[gF]; rw[if_pos (by omega),Array.getElem?_eq_getElem hlt])
  simp only[Fz.add,if_true]
  cases hF:F.cell i.cb (i.base+k) with
  | some v' =>
   have:=hH.fz.cell _ _ _ hF
   rw[this] at hcell
   simpa using hcell
  | none =>
   simp only[gF]
   rw[if_pos (by omega),Array.getElem?_eq_getElem hlt]
theorem G9 {F' : Fz} {cs:List LV} {us:List Value} {l:List CV} (hus:VL F J cs us) (hlen:us.length=l.length) (hrel:∀ (i:Nat) (x:CV),l[i]? = some x→∃ u,us[i]? = some u∧CRel F' x u):CL F' l us:=by
 refine⟨hlen,fun k x hx=>?_⟩
 obtain⟨u,hu,hr⟩:=hrel k x hx
 have hk:k<cs.length:=by rw[← hus.1,hlen]; exact (List.getElem?_eq_some_iff.1 hx).1
 obtain⟨u2,hu2,_,hc⟩:=hus.2 k cs[k] (List.getElem?_eq_getElem hk)
 rw[hu] at hu2
 simp only[Option.some.injEq] at hu2
 subst hu2
 exact⟨u,hu,hr,hc⟩
def An (n:Nat):Prop :=
 (∀ {F:Fz} {J:JMap} {w:World} {h h' : Heap} {v:LV} {u:Value} {c:CV},HRel F J h w→VRel F J v u→frz n v h=some (c,h')→∃ F',F.le F'∧FSame F J F'∧HRel F' J h' w∧CRel F' c u)
def vQ (n:Nat):Prop :=
 (∀ {F:Fz} {J:JMap} {w:World} {h h' : Heap} {l:List LV} {us:List Value} {cs:List CV},HRel F J h w→us.length=l.length→(∀ (i:Nat) (x:LV),l[i]? = some x→∃ u,us[i]? = some u∧VRel F J x u)→sU n l h=some (cs,h') →
  ∃ F',F.le F'∧FSame F J F'∧HRel F' J h' w∧us.length=cs.length∧∀ (i:Nat) (x:CV),cs[i]? = some x→∃ u,us[i]? = some u∧CRel F' x u)
def YQ (n:Nat):Prop:=An n∧vQ n
theorem yb {n:Nat} (ih:An n):vQ n:=by
 intro F J w h h' l us cs hH hlen hrel hs
 induction l generalizing F h us cs with
 | nil =>
  simp only[aV,Option.some.injEq,Prod.mk.injEq] at hs
  obtain⟨rfl,rfl⟩:=hs
  exact⟨F,F.le_refl,.refl F J,hH,hlen,by simp⟩
 | cons v r ihL =>
  simp only[aV] at hs
  split at hs
  ·rename_i x h1 hx
   split at hs
   ·rename_i l h2 hl
    simp only[Option.some.injEq,Prod.mk.injEq] at hs
    obtain⟨rfl,rfl⟩:=hs
    obtain⟨u,hu,hr⟩:=hrel 0 v rfl
    obtain⟨us',rfl⟩ : ∃ us',us=u::us':=by
     cases us with
     | nil=>simp at hu
     | cons u0 us'=>simp only[List.getElem?_cons_zero,Option.some.injEq] at hu; subst hu; exact⟨us',rfl⟩
    obtain⟨F1,hle1,hs1,hH1,hc⟩:=ih hH hr hx
    obtain⟨F2,hle2,hs2,hH2,hlen2,hrel2⟩:=ihL (us:=us') hH1 (by simpa using hlen) (fun k y hy=>by
     obtain⟨u,hu,hr⟩:=hrel (k+1) y hy
     exact⟨u,by simpa using hu,hr.mono hle1 (.refl J)⟩) hl
    refine⟨F2,Fz.le_trans hle1 hle2,hs1.trans hs2,hH2,by simp[hlen2],fun k y hy=>?_⟩
    cases k with
    | zero =>
     simp only[List.getElem?_cons_zero,Option.some.injEq] at hy
     subst hy
     exact⟨u,rfl,hc.mono hle2⟩
    | succ k=>exact hrel2 k y (by simpa using hy)
   ·cases hs
  ·cases hs
theorem ER (n:Nat):An n:=by
 induction n with
 | zero=>intro F J w h h' v u c hH hr hs; simp[frz] at hs
 | succ n ih =>
  have ihL:vQ n:=@yb n @ih
  ·intro F J w h h' v u c hH hr hs
   cases v with
   | c x =>
    simp only[frz,Option.some.injEq,Prod.mk.injEq] at hs
    obtain⟨rfl,rfl⟩:=hs
    exact⟨F,F.le_refl,.refl F J,hH,hr.of_c⟩
   | nil =>
    simp only[frz,Option.some.injEq,Prod.mk.injEq] at hs
    obtain⟨rfl,rfl⟩:=hs
    cases hr
    exact⟨F,F.le_refl,.refl F J,hH,.sliceE none 0⟩
   | emp =>
    simp only[frz,Option.some.injEq,Prod.mk.injEq] at hs
    obtain⟨rfl,rfl⟩:=hs
    cases hr
    exact⟨F,F.le_refl,.refl F J,hH,.sliceE _ 0⟩
   | undef=>simp[frz] at hs
   | ptr b g off =>
    simp only[frz] at hs
    split at hs
    ·rename_i g' cs fz hb
     split at hs
     ·rename_i hg
      subst hg
      split at hs
      ·rename_i l h2 hl
       simp only[Option.some.injEq,Prod.mk.injEq] at hs
       obtain⟨rfl,rfl⟩:=hs
       obtain⟨i,ad,hi,_,rfl,hptr⟩:=hr.ptr_inv
       obtain⟨i2,hi2,hgen,_,hvirt,hlive⟩:=hH.cellsAt hb
       rw[hi] at hi2
       simp only[Option.some.injEq] at hi2
       subst hi2
       obtain⟨hv,rfl⟩:=hptr hgen.symm
       obtain⟨arr0,el0,harr0,_,_,_,us,hus,huarr⟩:=hlive hv
       obtain⟨F1,hle1,hs1,hH1,hcells⟩:=A6 hH hb hi (Nat.le_refl _)
       obtain⟨arr,el,harr,hval⟩:=hcells hv
       rw[harr0] at harr
       simp only[Option.some.injEq,Obj.cells.injEq] at harr
       obtain⟨rfl,_,_⟩:=harr
       obtain⟨F2,hle2,hs2,hH2,hlen,hrel⟩:=ihL hH1 hus.1 (fun k x hx=>let ⟨u,hu,hr,_⟩:=hus.2 k x hx; ⟨u,hu,hr.mono hle1 (.refl J)⟩) hl
       refine⟨F2,Fz.le_trans hle1 hle2,hs1.trans hs2,hH2,CRel.mkPtr (us:=us) (G9 hus hlen hrel) fun k x hx=>?_⟩
       have hk:k<cs.length:=by rw[← hus.1]; exact (List.getElem?_eq_some_iff.1 hx).1
       obtain⟨v,hv1,hv2⟩:=hval k hk
       have:=huarr k x hx
       rw[hv1] at this
       simp only[Option.some.injEq] at this
       subst this
       exact hle2.cell _ _ _ hv2
      ·cases hs
     ·cases hs
    ·cases hs
   | slice b g off len esz cap =>
    simp only[frz] at hs
    split at hs
    ·rename_i g' cs fz hb
     split at hs
     ·rename_i hc
      obtain⟨hg,hle⟩:=hc
      subst hg
      split at hs
      ·rename_i l h2 hl
       split at hs
       ·rename_i xs hxs
        simp only[Option.some.injEq,Prod.mk.injEq] at hs
        obtain⟨rfl,rfl⟩:=hs
        obtain⟨i,ad,c',hi,_,rfl,hlc,hnone,_,hcur⟩:=hr.slice_inv
        obtain⟨i2,hi2,hgen,_,hvirt,hlive⟩:=hH.cellsAt hb
        rw[hi] at hi2
        simp only[Option.some.injEq] at hi2
        subst hi2
        obtain⟨F1,hle1,hs1,hH1,hcells⟩:=A6 hH hb hi hle
        cases hv:i.virt with
        | true =>
         have h0:=((hcur hgen.symm).1 hv).1
         have hl0:len=0:=by omega
         subst hl0
         have hnil:(cs.drop off).take (0*ae esz)=[]:=by simp
         rw[hnil] at hl
         obtain⟨F2,hle2,hs2,hH2,hlen,hrel⟩:=ihL (us:=[]) hH1 rfl (by simp) hl
         have:xs=[]:=by
          simp only[bV,Option.some.injEq] at hxs
          exact hxs.symm
         subst this
         exact⟨F2,Fz.le_trans hle1 hle2,hs1.trans hs2,hH2,.sliceE ad c'⟩
        | false =>
         obtain⟨arr0,el0,harr0,hsize,hbase,_,us,hus,huarr⟩:=hlive hv
         obtain⟨had,hfit⟩:=(hcur hgen.symm).2 hv
         subst had
         obtain⟨arr,el,harr,hval⟩:=hcells hv
         rw[harr0] at harr
         simp only[Option.some.injEq,Obj.cells.injEq] at harr
         obtain⟨rfl,_,_⟩:=harr
         have hvl:=(hus.drop off).take (len*ae esz)
         obtain⟨F2,hle2,hs2,hH2,hlen,hrel⟩:=ihL hH1 hvl.1 (fun k x hx=>let ⟨u,hu,hr,_⟩:=hvl.2 k x hx; ⟨u,hu,hr.mono hle1 (.refl J)⟩) hl
         refine⟨F2,Fz.le_trans hle1 hle2,hs1.trans hs2,hH2,CRel.mkSlice (us:=(us.drop off).take (len*ae esz)) (G9 hvl hlen hrel) hxs hlc fun k x hx=>?_⟩
         have hk:k<len*ae esz:=by
          have:=(List.getElem?_eq_some_iff.1 hx).1
          rw[List.length_take] at this
          omega
         rw[List.getElem?_take,if_pos hk,List.getElem?_drop] at hx
         obtain⟨v,hv1,hv2⟩:=hval (off+k) (by omega)
         have:=huarr _ x hx
         rw[hv1] at this
         simp only[Option.some.injEq] at this
         subst this
         have:=hle2.cell _ _ _ hv2
         rw[← Nat.add_assoc] at this
         exact this
       ·cases hs
      ·cases hs
     ·cases hs
    ·cases hs
   | map b =>
    simp only[frz] at hs
    split at hs
    ·rename_i ks vs fz hb
     split at hs
     ·rename_i l h2 hl
      simp only[Option.some.injEq,Prod.mk.injEq] at hs
      obtain⟨rfl,rfl⟩:=hs
      cases hr with
      | map _ _ hm =>
      obtain⟨i,hi,hfix,hv,rfl⟩:=hm
      obtain⟨i2,hi2,_,_,es,clk,hes,hks,hvs,r1,r2,hun⟩:=hH.live b _ hb (by simp)
      rw[hi] at hi2
      simp only[Option.some.injEq] at hi2
      subst hi2
      have hle:=F.le_addMap i.cb es
      have hmap:(F.addMap i.cb es).map i.cb=some es:=by
       simp only[Fz.addMap,if_true]
       cases hF:F.map i.cb with
       | none=>rfl
       | some es' =>
        obtain⟨clk',hc⟩:=hH.fz.map _ _ hF
        rw[hes] at hc
        simp only[Option.some.injEq,Obj.map.injEq] at hc
        simp[hc.1]
      have hfz:FzOk (F.addMap i.cb es) w:=by
       refine⟨hH.fz.cell,fun r es' hr=>?_⟩
       by_cases e:r=i.cb
       ·subst e
        rw[hmap] at hr
        simp only[Option.some.injEq] at hr
        subst hr
        exact⟨clk,hes⟩
       ·have:F.map r=some es':=by
         simp only[Fz.addMap,if_neg e] at hr
         split at hr
         ·rename_i v hv
          rw[hv,hr]
         ·cases hr
        exact hH.fz.map r es' this
      have hsame:∀ cb,cb≠i.cb→(∀ o,(F.addMap i.cb es).cell cb o=F.cell cb o)∧(F.addMap i.cb es).map cb=F.map cb:=by
       intro cb hne
       refine⟨fun _=>rfl,?_⟩
       simp only[Fz.addMap,if_neg hne]
       split
       ·rename_i v hv; exact hv.symm
       ·rename_i hv; exact hv.symm
      have hB:BRel (F.addMap i.cb es) J i w (.map ks vs true) :=
       ⟨hfix,hv,es,clk,hes,hks,hvs,fun k x hx=>let ⟨e,he,hr⟩:=r1 k x hx; ⟨e,he,hr.mono hle⟩,fun k x hx=>let ⟨e,he,hr⟩:=r2 k x hx; ⟨e,he,hr.mono hle (.refl J)⟩,fun h=>by cases h⟩
      obtain⟨hH1,hs1⟩:=hH.freeze (F':=F.addMap i.cb es) (blk':=.map ks vs true) hi hv (by simp) hle hsame hfz hB
      have hel:es.toList.length=vs.length:=by rw[Array.length_toList,hks,hvs]
      obtain⟨F2,hle2,hs2,hH2,hlen,hrel⟩:=ihL (us:=es.toList.map (·.val)) hH1 (by simp[hks,hvs]) (fun k x hx=>by
       obtain⟨e,he,hr⟩:=r2 k x hx
       exact⟨e.val,by simp[he],hr.mono hle (.refl J)⟩) hl
      have hll:l.length=ks.length:=by rw[← hlen]; simp[hks]
      refine⟨F2,Fz.le_trans hle hle2,hs1.trans hs2,hH2,.map ks l i.cb es (hle2.map _ _ hmap) hks hll (fun k=>es.getD k default) (fun k hk=>?_) (fun k x hx=>?_) (fun k x hx=>?_)⟩
      ·have hlt:k<es.size:=by omega
       simp[Array.getD_eq_getD_getElem?,hlt]
      ·obtain⟨e,he,hr⟩:=r1 k x hx
       simpa[Array.getD_eq_getD_getElem?,he] using hr.mono (Fz.le_trans hle hle2)
      ·obtain⟨u,hu,hr⟩:=hrel k x hx
       simp only[List.getElem?_map,Option.map_eq_some_iff,Array.getElem?_toList] at hu
       obtain⟨e,he,rfl⟩:=hu
       simpa[Array.getD_eq_getD_getElem?,he] using hr
     ·cases hs
    ·cases hs
   | func f a b =>
    simp only[frz] at hs
    split at hs
    ·rename_i a' h1 ha
     split at hs
     ·rename_i b' h2 hb
      simp only[Option.some.injEq,Prod.mk.injEq] at hs
      obtain⟨rfl,rfl⟩:=hs
      cases hr with
      | func _ _ _ xs ys u1 u2 hl1 hl2 q1 q2 q3 q4 =>
       obtain⟨F1,hle1,hs1,hH1,hlen1,hrel1⟩:=ihL (us:=xs.toList) hH (by simpa using hl1) (fun k x hx=>⟨u1 k,by simpa using q1 k x hx,q3 k x hx⟩) ha
       obtain⟨F2,hle2,hs2,hH2,hlen2,hrel2⟩:=ihL (us:=ys.toList) hH1 (by simpa using hl2) (fun k x hx=>⟨u2 k,by simpa using q2 k x hx,(q4 k x hx).mono hle1 (.refl J)⟩) hb
       have:=CRel.mkFunc (F:=F2) (f:=f) (us1:=xs.toList) (us2:=ys.toList) ⟨hlen1,fun k x hx=>let ⟨u,hu,hr⟩:=hrel1 k x hx; ⟨u,hu,hr.mono hle2⟩⟩ ⟨hlen2,hrel2⟩
       exact⟨F2,Fz.le_trans hle1 hle2,hs1.trans hs2,hH2,by simpa using this⟩
     ·cases hs
    ·cases hs
   | agg cs =>
    simp only[frz] at hs
    split at hs
    ·rename_i l h2 hl
     simp only[Option.some.injEq,Prod.mk.injEq] at hs
     obtain⟨rfl,rfl⟩:=hs
     obtain⟨us,rfl,hus⟩:=hr.agg_inv
     obtain⟨F2,hle2,hs2,hH2,hlen,hrel⟩:=ihL hH hus.1 (fun k x hx=>let ⟨u,hu,hr,_⟩:=hus.2 k x hx; ⟨u,hu,hr⟩) hl
     exact⟨F2,hle2,hs2,hH2,(G9 hus hlen hrel).agg⟩
    ·cases hs
   | tuple cs =>
    simp only[frz] at hs
    split at hs
    ·rename_i l h2 hl
     simp only[Option.some.injEq,Prod.mk.injEq] at hs
     obtain⟨rfl,rfl⟩:=hs
     obtain⟨us,rfl,hlu,hus⟩:=hr.tuple_inv
     obtain⟨F2,hle2,hs2,hH2,hlen,hrel⟩:=ihL (us:=us.toList) hH (by simpa using hlu) (fun k x hx=>let ⟨u,hu,hr⟩:=hus k x hx; ⟨u,by simpa using hu,hr⟩) hl
     refine⟨F2,hle2,hs2,hH2,.tuple l us (fun k=>us.getD k Go.undef) (by simpa using hlen) (fun k x hx=>?_) (fun k x hx=>?_)⟩<;>obtain⟨u,hu,hr⟩:=hrel k x hx
     ·simp only[Array.getElem?_toList] at hu
      simp[Array.getD_eq_getD_getElem?,hu]
     ·simp only[Array.getElem?_toList] at hu
      simpa[Array.getD_eq_getD_getElem?,hu] using hr
    ·cases hs
theorem tD (n:Nat):YQ n:=⟨@ER n,@yb n (@ER n)⟩
end
end LM
namespace LM
open Go Go.RowKit
variable {DS:List Deferred}
section
variable {P:Program} {F:Fz} {J:JMap} {a:Act} {w:World} {h h' : Heap}
def AllV (F:Fz) (J:JMap) (l:List LV) (us:List Value):Prop:=us.length=l.length∧∀ (i:Nat) (x:LV),l[i]? = some x→∃ u,us[i]? = some u∧VRel F J x u
def AllC (F:Fz) (l:List CV) (us:List Value):Prop:=us.length=l.length∧∀ (i:Nat) (x:CV),l[i]? = some x→∃ u,us[i]? = some u∧CRel F x u
theorem AllV.nil:AllV F J [] []:=⟨rfl,by simp⟩
theorem AllC.nil:AllC F [] []:=⟨rfl,by simp⟩
theorem AllV.cons {x:LV} {u:Value} {l:List LV} {us:List Value} (hx:VRel F J x u) (h:AllV F J l us):AllV F J (x::l) (u::us):=by
 refine⟨by simp[h.1],fun i y hy=>?_⟩
 cases i with
 | zero=>simp only[List.getElem?_cons_zero,Option.some.injEq] at hy; subst hy; exact⟨u,rfl,hx⟩
 | succ i=>exact h.2 i y (by simpa using hy)
theorem AllC.cons {x:CV} {u:Value} {l:List CV} {us:List Value} (hx:CRel F x u) (h:AllC F l us):AllC F (x::l) (u::us):=by
 refine⟨by simp[h.1],fun i y hy=>?_⟩
 cases i with
 | zero=>simp only[List.getElem?_cons_zero,Option.some.injEq] at hy; subst hy; exact⟨u,rfl,hx⟩
 | succ i=>exact h.2 i y (by simpa using hy)
theorem AllV.head {x:LV} {l:List LV} {us:List Value} (h:AllV F J (x::l) us):∃ u us',us=u::us'∧VRel F J x u∧AllV F J l us':=by
 obtain⟨u,hu,hr⟩:=h.2 0 x rfl
 cases us with
 | nil=>simp at hu
 | cons u0 us' =>
  simp only[List.getElem?_cons_zero,Option.some.injEq] at hu
  subst hu
  exact⟨u0,us',rfl,hr,by simpa using h.1,fun i y hy=>by simpa using h.2 (i+1) y (by simpa using hy)⟩
theorem AllV.mono {F' : Fz} {J' : JMap} (hF:F.le F') (hJ:JLe J J') {l:List LV} {us:List Value} (h:AllV F J l us):AllV F' J' l us :=
 ⟨h.1,fun i x hx=>let ⟨u,hu,hr⟩:=h.2 i x hx; ⟨u,hu,hr.mono hF hJ⟩⟩
theorem AllC.mono {F' : Fz} (hF:F.le F') {l:List CV} {us:List Value} (h:AllC F l us):AllC F' l us :=
 ⟨h.1,fun i x hx=>let ⟨u,hu,hr⟩:=h.2 i x hx; ⟨u,hu,hr.mono hF⟩⟩
theorem AllV.append {l l' : List LV} {us us' : List Value} (h:AllV F J l us) (h' : AllV F J l' us'):AllV F J (l++l') (us++us'):=by
 induction l generalizing us with
 | nil =>
  have:us=[]:=List.eq_nil_of_length_eq_zero h.1
  subst this
  exact h'
 | cons x l ih =>
  obtain⟨u,us1,rfl,hr,h1⟩:=h.head
  exact (ih h1).cons hr
theorem AllC.toV {l:List CV} {us:List Value} (h:AllC F l us):AllV F J (l.map .c) us:=by
 refine⟨by simpa using h.1,fun i x hx=>?_⟩
 simp only[List.getElem?_map,Option.map_eq_some_iff] at hx
 obtain⟨c,hc,rfl⟩:=hx
 obtain⟨u,hu,hr⟩:=h.2 i c hc
 exact⟨u,hu,.c _ _ hr⟩
mutual
theorem Qe:∀ {v:LV} {c:CV} {u:Value},toC v=some c→VRel F J v u→CRel F c u
 | .c x,c,u,h,hr=>by
  simp only[toC,Option.some.injEq] at h
  subst h
  exact hr.of_c
 | .nil,c,u,h,hr=>by
  simp only[toC,Option.some.injEq] at h
  subst h
  cases hr
  exact .sliceE none 0
 | .emp,c,u,h,hr=>by
  simp only[toC,Option.some.injEq] at h
  subst h
  cases hr
  exact .sliceE _ 0
 | .func f a b,c,u,h,hr=>by
  simp only[toC] at h
  split at h
  ·rename_i a' ha
   split at h
   ·rename_i b' hb
    simp only[Option.some.injEq] at h
    subst h
    cases hr with
    | func _ _ _ xs ys u1 u2 hl1 hl2 q1 q2 q3 q4 =>
     have r1:=toCL_rel (us:=xs.toList) ha ⟨by simpa using hl1,fun k x hx=>⟨u1 k,by simpa using q1 k x hx,q3 k x hx⟩⟩
     have r2:=toCL_rel (us:=ys.toList) hb ⟨by simpa using hl2,fun k x hx=>⟨u2 k,by simpa using q2 k x hx,q4 k x hx⟩⟩
     have:=CRel.mkFunc (f:=f) r1 r2
     simpa using this
   ·cases h
  ·cases h
 | .agg cs,c,u,h,hr=>by
  simp only[toC] at h
  split at h
  ·rename_i l hl
   simp only[Option.some.injEq] at h
   subst h
   obtain⟨us,rfl,hus⟩:=hr.agg_inv
   have r1:=toCL_rel (us:=us) hl ⟨hus.1,fun k x hx=>let ⟨u,hu,hr,_⟩:=hus.2 k x hx; ⟨u,hu,hr⟩⟩
   exact (G9 hus r1.1 r1.2).agg
  ·cases h
 | .tuple cs,c,u,h,hr=>by
  simp only[toC] at h
  split at h
  ·rename_i l hl
   simp only[Option.some.injEq] at h
   subst h
   obtain⟨us,rfl,hlu,hus⟩:=hr.tuple_inv
   have r1:=toCL_rel (us:=us.toList) hl ⟨by simpa using hlu,fun k x hx=>let ⟨u,hu,hr⟩:=hus k x hx; ⟨u,by simpa using hu,hr⟩⟩
   refine .tuple l us (fun k=>us.getD k Go.undef) (by simpa using r1.1) (fun k x hx=>?_) (fun k x hx=>?_)<;>obtain⟨u,hu,hr⟩:=r1.2 k x hx
   ·simp only[Array.getElem?_toList] at hu
    simp[Array.getD_eq_getD_getElem?,hu]
   ·simp only[Array.getElem?_toList] at hu
    simpa[Array.getD_eq_getD_getElem?,hu] using hr
  ·cases h
 | .ptr _ _ _,c,u,h,hr=>by simp[toC] at h
 | .slice _ _ _ _ _ _,c,u,h,hr=>by simp[toC] at h
 | .map _,c,u,h,hr=>by simp[toC] at h
 | .undef,c,u,h,hr=>by simp[toC] at h
theorem toCL_rel:∀ {l:List LV} {cs:List CV} {us:List Value},toCL l=some cs→AllV F J l us→AllC F cs us
 | [],cs,us,h,hr=>by
  simp only[toCL,Option.some.injEq] at h
  subst h
  have:us=[]:=List.eq_nil_of_length_eq_zero hr.1
  subst this
  exact .nil
 | v::r,cs,us,h,hr=>by
  simp only[toCL] at h
  split at h
  ·rename_i x hx
   split at h
   ·rename_i l hl
    simp only[Option.some.injEq] at h
    subst h
    obtain⟨u,us',rfl,h1,h2⟩:=hr.head
    exact (toCL_rel hl h2).cons (Qe hx h1)
   ·cases h
  ·cases h
end
theorem iQ {quiet:Bool} {args:List LV} {us:List Value} {cs:List CV} (hH:HRel F J h w) (hr:AllV F J args us) (hs:aD quiet args h=some (cs,h')) :
  ∃ F',F.le F'∧FSame F J F'∧HRel F' J h' w∧AllC F' cs us:=by
 unfold aD at hs
 split at hs
 ·split at hs
  ·rename_i l hl
   simp only[Option.some.injEq,Prod.mk.injEq] at hs
   obtain⟨rfl,rfl⟩:=hs
   exact⟨F,F.le_refl,.refl F J,hH,toCL_rel hl hr⟩
  ·cases hs
 ·obtain⟨F',h1,h2,h3,h4,h5⟩:=(tD ay).2 hH hr.1 hr.2 hs
  exact⟨F',h1,h2,h3,h4,h5⟩
theorem jV:∀ {args:List LV} {us:List Value} {args' : List LV} {F:Fz} {h h' : Heap},HRel F J h w→AllV F J args us→ah args h=some (args',h') →
  ∃ F',F.le F'∧FSame F J F'∧HRel F' J h' w∧AllV F' J args' us
 | [],us,args',F,h,h',hH,hr,hs=>by
  simp only[ah,Option.some.injEq,Prod.mk.injEq] at hs
  obtain⟨rfl,rfl⟩:=hs
  exact⟨F,F.le_refl,.refl F J,hH,hr⟩
 | v::r,us,args',F,h,h',hH,hr,hs=>by
  obtain⟨u,us',rfl,hv,hr'⟩:=hr.head
  unfold ah at hs
  split at hs
  ·rename_i heq; cases heq
  ·rename_i f a b r' h0 heq
   injection heq with e1 e2
   subst e1 e2
   split at hs
   ·rename_i c h1 hc
    split at hs
    ·rename_i l h2 hl
     simp only[Option.some.injEq,Prod.mk.injEq] at hs
     obtain⟨rfl,rfl⟩:=hs
     obtain⟨F1,hle1,hs1,hH1,hc1⟩:=(tD ay).1 hH hv hc
     obtain⟨F2,hle2,hs2,hH2,hr2⟩:=jV hH1 (hr'.mono hle1 (.refl J)) hl
     exact⟨F2,Fz.le_trans hle1 hle2,hs1.trans hs2,hH2,hr2.cons (.c _ _ (hc1.mono hle2))⟩
    ·cases hs
   ·cases hs
  ·rename_i v' r' h0 hne heq
   injection heq with e1 e2
   subst e1 e2
   split at hs
   ·rename_i l h2 hl
    simp only[Option.some.injEq,Prod.mk.injEq] at hs
    obtain⟨rfl,rfl⟩:=hs
    obtain⟨F2,hle2,hs2,hH2,hr2⟩:=jV hH hr' hl
    exact⟨F2,hle2,hs2,hH2,hr2.cons (hv.mono hle2 (.refl J))⟩
   ·cases hs
theorem oI {F' : Fz} {x:CV} {u:Value} (hs:eM x=true) (h:CRel F x u):CRel F' x u:=by
 cases h<;>first | (constructor; done) | (simp[eM] at hs)
theorem BG {F' : Fz} {x:CV} {u:Value} (hs:bE x=true) (h:CRel F x u):CRel F' x u:=by
 cases x with
 | tuple vs =>
  simp only[bE,List.all_eq_true] at hs
  cases h with
  | tuple _ cs' u hl h1 h2=>exact .tuple vs cs' u hl h1 (fun i x hx=>oI (hs x (List.mem_of_getElem? hx)) (h2 i x hx))
 | _=>exact oI hs h
def dw (tmps:Array Value):ResultVar→Sem Value
 | .tmp t=>pure (tmps.getD t Go.undef)
 | .cell b t=>do loadVar t (← asAddr (tmps.getD b Go.undef))
theorem vl {t:Tmp} {ty:TypeId} {z:Option Nat} {s:St} {v:LV} (hT:TRel DS F J s.tmps a) (hH:HRel F J s.heap w) (hz:bX P ty=some z) (hs:cX s (.cell t z)=some v) :
  ∃ u,(dw a.tmps (.cell t ty)).run P w=.ok u w∧VRel F J v u:=by
 have e1:=hT.ev t
 simp only[cX] at hs
 have main:∀ (b c:Nat) (us:List Value) (u:Value),a.tmps.getD t Go.undef=.pointer (some ⟨b,c,none⟩)→c7 z us=some u→(∀ (j:Nat) (y:Value),us[j]? = some y→w.cell? ⟨b,c+j,none⟩=some y)→(dw a.tmps (.cell t ty)).run P w=.ok u w:=by
  intro b c us u hu hv hc
  simp only[dw,hu,asAddr,Sem.run_bind,Sem.run_pure,Result.andThen_ok]
  exact oD hz hv hc
 split at hs
 ·rename_i cells off hx
  rw[hx] at e1
  simp only[Option.map_eq_some_iff] at hs
  obtain⟨r,hr,rfl⟩:=hs
  obtain⟨b,c,us,hu,hl,hF⟩:=e1.of_c.ptr_inv
  obtain⟨u,hu',hrel⟩:=gK (hl.drop _) hr
  refine⟨u,main b (c+off) _ u hu hu' (fun j y hy=>?_),.c _ _ hrel⟩
  rw[List.getElem?_drop] at hy
  have:=hH.fz.cell _ _ _ (hF _ y hy)
  rwa [← Nat.add_assoc] at this
 ·rename_i b g off hx
  rw[hx] at e1
  split at hs
  ·rename_i g' cs fz hb
   split at hs
   ·rename_i hg
    subst hg
    obtain⟨i,hi,hgen,_,_,hlive⟩:=hH.cellsAt hb
    obtain⟨i',ad,hi',_,hu0,hu⟩:=e1.ptr_inv
    rw[hi] at hi'
    simp only[Option.some.injEq] at hi'
    subst hi'
    obtain⟨hvirt,rfl⟩:=hu hgen.symm
    obtain⟨arr,el,ha,_,_,_,us,hl,hus⟩:=hlive hvirt
    obtain⟨u,hu',hrel⟩:=iG (hl.drop off) hs
    refine⟨u,main i.cb (i.base+off) _ u hu0 hu' (fun j y hy=>?_),hrel⟩
    rw[List.getElem?_drop] at hy
    have:=dC ha (hus _ y hy)
    rwa [← Nat.add_assoc] at this
   ·cases hs
  ·cases hs
 ·cases hs
theorem hI {s:St} (hT:TRel DS F J s.tmps a) (hH:HRel F J s.heap w):∀ {rvs:List ResultVar} {rs:List LRes} {vs:List LV},ij P rvs=some rs→bT s rs=some vs →
  ∃ us,(rvs.mapM (dw a.tmps)).run P w=.ok us w∧AllV F J vs us
 | [],rs,vs,hc,hs=>by
  simp only[ij,Option.some.injEq] at hc
  subst hc
  simp only[bT,Option.some.injEq] at hs
  subst hs
  exact⟨[],rfl,.nil⟩
 | rv::rvs,rs,vs,hc,hs=>by
  have key:∀ (r:LRes) (rs' : List LRes),rs=r::rs'→ij P rvs=some rs'→(∀ v,cX s r=some v→∃ u,(dw a.tmps rv).run P w=.ok u w∧VRel F J v u) →
    ∃ us,((rv::rvs).mapM (dw a.tmps)).run P w=.ok us w∧AllV F J vs us:=by
   intro r rs' e hrest h1
   subst e
   simp only[bT] at hs
   split at hs
   ·rename_i v hv
    split at hs
    ·rename_i l hl
     simp only[Option.some.injEq] at hs
     subst hs
     obtain⟨u,hu,hr⟩:=h1 v hv
     obtain⟨us,hus,hrs⟩:=hI hT hH hrest hl
     exact⟨u::us,by simp only[List.mapM_cons,Sem.run_bind,hu,hus,Result.andThen_ok,Sem.run_pure],hrs.cons hr⟩
    ·cases hs
   ·cases hs
  cases rv with
  | tmp t =>
   simp only[ij] at hc
   split at hc
   ·rename_i l hl
    simp only[Option.some.injEq] at hc
    exact key _ l hc.symm hl fun v hv=>by
     simp only[cX,Option.some.injEq] at hv
     subst hv
     exact⟨_,rfl,hT.ev t⟩
   ·cases hc
  | cell t ty =>
   simp only[ij] at hc
   split at hc
   ·rename_i z l hz hl
    simp only[Option.some.injEq] at hc
    exact key _ l hc.symm hl fun v hv=>vl hT hH hz hv
   ·cases hc
theorem oJ {fn:Func} {rs:List LRes} {s:St} {v:LV} (hT:TRel DS F J s.tmps a) (hH:HRel F J s.heap w) (hc:ij P fn.results.toList=some rs) (hs:aK s rs=some v) :
  ∃ u,(results fn a.tmps).run P w=.ok u w∧VRel F J v u:=by
 have hm:∀ us:List Value,(fn.results.toList.mapM (dw a.tmps)).run P w=.ok us w→(results fn a.tmps).run P w=.ok (if h:us.toArray.size=1 then us.toArray[0] else .tuple us.toArray) w:=by
  intro us hus
  have e:fn.results.mapM (dw a.tmps)=List.toArray <$> fn.results.toList.mapM (dw a.tmps):=by
   rw[← List.mapM_toArray]
  have e2:results fn a.tmps=(do let vs ← fn.results.mapM (dw a.tmps); pure (if h:vs.size=1 then vs[0] else .tuple vs)):=by
   unfold results
   congr 2
  rw[e2,e]
  simp only[Sem.run_bind,map_eq_pure_bind,hus,Result.andThen_ok,Sem.run_pure]
 unfold aK at hs
 split at hs
 ·rename_i v' hv
  simp only[Option.some.injEq] at hs
  subst hs
  obtain⟨us,hus,hr⟩:=hI hT hH hc hv
  obtain⟨u,us',rfl,h1,h2⟩:=hr.head
  have:us'=[]:=List.eq_nil_of_length_eq_zero h2.1
  subst this
  exact⟨u,hm _ hus,h1⟩
 ·rename_i l hne hl
  simp only[Option.some.injEq] at hs
  subst hs
  obtain⟨us,hus,hr⟩:=hI hT hH hc hl
  have hlen:¬ us.toArray.size=1:=by
   intro e
   simp only[List.size_toArray] at e
   rw[hr.1] at e
   match l,e,hne with
   | [x],_,hne=>exact hne x rfl
  refine⟨.tuple us.toArray,?_,VRel.mkTuple hr.1 hr.2⟩
  rw[hm _ hus,dif_neg hlen]
 ·cases hs
end
end LM
namespace LM
open Go Go.RowKit
variable {DS:List Deferred}
section
variable {P:Program} {F:Fz} {J J2 Jc:JMap} {a:Act} {w w' : World} {h h' : Heap} {n:Nat}
theorem fy:∀ (l:List LV) (i:Nat),(shiftL n l)[i]? = (l[i]?).map (·.shift n)
 | [],i=>by simp[shiftL]
 | v::r,i=>by
  cases i with
  | zero=>simp[shiftL]
  | succ i=>simpa[shiftL] using fy r i
theorem dk:∀ (l:List LV),(shiftL n l).length=l.length
 | []=>rfl
 | v::r=>by simp[shiftL,dk r]
theorem l9:∀ (l:List LB) (i:Nat),(bC n l)[i]? = (l[i]?).map (·.shift n)
 | [],i=>by simp[bC]
 | v::r,i=>by
  cases i with
  | zero=>simp[bC]
  | succ i=>simpa[bC] using l9 r i
theorem bS:∀ (l:List LB),(bC n l).length=l.length
 | []=>rfl
 | v::r=>by simp[bC,bS r]
def vH (n:Nat) (Jc J2:JMap):Prop:=∀ (b:Nat) (i:Info),Jc[b]? = some (some i)→J2[b+n]? = some (some i)
theorem VRel.shift (hJ:vH n Jc J2) {v:LV} {u:Value} (h:VRel F Jc v u):VRel F J2 (v.shift n) u:=by
 induction h with
 | c x u h=>exact .c x u h
 | nil=>exact .nil
 | emp a=>exact .emp a
 | undef u=>exact .undef u
 | ptr b g off u h =>
  obtain⟨i,ad,hi,rest⟩:=h
  exact .ptr _ _ _ _ ⟨i,ad,hJ b i hi,rest⟩
 | slice b g off len esz cap u h =>
  obtain⟨i,ad,c,hi,rest⟩:=h
  exact .slice _ _ _ _ _ _ _ ⟨i,ad,c,hJ b i hi,rest⟩
 | map b u h =>
  obtain⟨i,hi,rest⟩:=h
  exact .map _ _ ⟨i,hJ b i hi,rest⟩
 | func f a b a' b' u v ha hb h1 h2 h3 h4 i1 i2 =>
  refine .func f _ _ a' b' u v (by rw[ha,dk]) (by rw[hb,dk]) ?_ ?_ ?_ ?_<;>intro i x hx<;>rw[fy,Option.map_eq_some_iff] at hx<;>obtain⟨y,hy,rfl⟩:=hx
  ·exact h1 i y hy
  ·exact h2 i y hy
  ·exact i1 i y hy
  ·exact i2 i y hy
 | agg cs cs' u hl h1 h2 h3 ih =>
  refine .agg _ cs' u (by rw[hl,dk]) ?_ ?_ ?_<;>intro i x hx<;>rw[fy,Option.map_eq_some_iff] at hx<;>obtain⟨y,hy,rfl⟩:=hx
  ·exact h1 i y hy
  ·exact ih i y hy
  ·exact h3 i y hy
 | tuple cs cs' u hl h1 h2 ih =>
  refine .tuple _ cs' u (by rw[hl,dk]) ?_ ?_<;>intro i x hx<;>rw[fy,Option.map_eq_some_iff] at hx<;>obtain⟨y,hy,rfl⟩:=hx
  ·exact h1 i y hy
  ·exact ih i y hy
theorem BRel.shift (hJ:vH n Jc J2) {i:Info} {blk:LB} (h:BRel F Jc i w blk):BRel F J2 i w (blk.shift n):=by
 cases blk with
 | cells g cs fz =>
  obtain⟨h1,h2,h3,h4⟩:=h
  refine⟨h1,h2,fun hv=>(by rw[h3 hv]; rfl),fun hv=>?_⟩
  obtain⟨arr,el,a1,a2,a3,a4,a5⟩:=h4 hv
  refine⟨arr,el,a1,a2,by rw[dk]; exact a3,fun k x hx=>?_,a5⟩
  rw[fy,Option.map_eq_some_iff] at hx
  obtain⟨y,hy,rfl⟩:=hx
  obtain⟨u,hu,hr,hc⟩:=a4 k y hy
  exact⟨u,hu,hr.shift hJ,hc⟩
 | map ks vs fz =>
  obtain⟨h1,h2,es,clk,a1,a2,a3,a4,a5,a6⟩:=h
  refine⟨h1,h2,es,clk,a1,a2,by rw[dk]; exact a3,a4,fun k x hx=>?_,a6⟩
  rw[fy,Option.map_eq_some_iff] at hx
  obtain⟨y,hy,rfl⟩:=hx
  obtain⟨e,he,hr⟩:=a5 k y hy
  exact⟨e,he,hr.shift hJ⟩
 | iter s pos=>exact h
 | dead=>exact h.elim
def cR (J:JMap) (p:Nat):JMap→JMap
 | []=>J
 | b::r=>cR (J.set p b) (p+1) r
theorem kC:∀ (l J:JMap) (p:Nat),(cR J p l).length=J.length
 | [],J,p=>rfl
 | b::r,J,p=>by simp[cR,kC r]
theorem dZ:∀ (l:List LB) (h:Heap) (p:Nat),(bj h p l).length=h.length
 | [],h,p=>rfl
 | b::r,h,p=>by simp[bj,dZ r]
theorem nH:∀ (l J:JMap) (p c:Nat),p+l.length≤J.length→(cR J p l)[c]? = if p≤c∧c<p+l.length then l[c-p]? else J[c]?
 | [],J,p,c,_=>by simp only[cR,List.length_nil]; rw[if_neg (by omega)]
 | b::r,J,p,c,hl=>by
  simp only[List.length_cons] at hl
  simp only[cR,List.length_cons]
  rw[nH r _ _ _ (by simp; omega)]
  by_cases e:p=c
  ·subst e
   rw[if_neg (by omega),if_pos (by omega),List.getElem?_set_self (by omega)]
   simp
  ·by_cases hc:p+1≤c∧c<p+1+r.length
   ·rw[if_pos hc,if_pos (by omega)]
    have:c-p=(c-(p+1))+1:=by omega
    rw[this,List.getElem?_cons_succ]
   ·rw[if_neg hc,if_neg (by omega),List.getElem?_set_ne e]
theorem dz:∀ (l:List LB) (h:Heap) (p c:Nat),p+l.length≤h.length→(bj h p l)[c]? = if p≤c∧c<p+l.length then l[c-p]? else h[c]?
 | [],h,p,c,_=>by simp only[bj,List.length_nil]; rw[if_neg (by omega)]
 | b::r,h,p,c,hl=>by
  simp only[List.length_cons] at hl
  simp only[bj,List.length_cons]
  rw[dz r _ _ _ (by simp; omega)]
  by_cases e:p=c
  ·subst e
   rw[if_neg (by omega),if_pos (by omega),List.getElem?_set_self (by omega)]
   simp
  ·by_cases hc:p+1≤c∧c<p+1+r.length
   ·rw[if_pos hc,if_pos (by omega)]
    have:c-p=(c-(p+1))+1:=by omega
    rw[this,List.getElem?_cons_succ]
   ·rw[if_neg hc,if_neg (by omega),List.getElem?_set_ne e]
theorem HRel.place {bs:List LB} {p:Nat} (hH:HRel F J h w) (hC:HRel F Jc bs w) (hd:∀ k,k<bs.length→h[p+k]? = some .dead)
  (apart:∀ (b:Nat) (i:Info) (c:Nat) (j:Info),J[b]? = some (some i)→Jc[c]? = some (some j)→i.virt=false→j.virt=false→i.cb≠j.cb) :
  HRel F (cR J p Jc) (bj h p (bC p bs)) w∧JLe J (cR J p Jc)∧vH p Jc (cR J p Jc) ∧
   ∀ (b:Nat) (i:Info),(cR J p Jc)[b]? = some (some i)→J[b]? = some (some i)∨∃ c:Nat,Jc[c]? = some (some i):=by
 have hlc:bs.length=Jc.length:=hC.len
 by_cases h0:bs.length=0
 ·have e1:bs=[]:=List.eq_nil_of_length_eq_zero h0
  have e2:Jc=[]:=List.eq_nil_of_length_eq_zero (by omega)
  subst e1 e2
  exact⟨hH,.refl J,fun b i hb=>by simp at hb,fun b i hb=>.inl hb⟩
 have hfit:p+bs.length≤h.length:=by
  have:=hd (bs.length-1) (by omega)
  have:=(List.getElem?_eq_some_iff.1 this).1
  omega
 have hfitJ:p+Jc.length≤J.length:=by rw[← hlc,← hH.len]; exact hfit
 have getJ:=fun c=>nH Jc J p c hfitJ
 have getH:=fun c=>dz (bC p bs) h p c (by rw[bS]; exact hfit)
 have hJd:∀ k,k<bs.length→J[p+k]? = some none:=fun k hk=>hH.dead _ (hd k hk)
 have hJ:JLe J (cR J p Jc):=by
  intro b i hb
  refine⟨i,?_,Nat.le_refl _,fun _=>rfl,fun _=>rfl⟩
  rw[getJ,if_neg,hb]
  rintro⟨c1,c2⟩
  have:=hJd (b-p) (by omega)
  rw[show p+(b-p)=b by omega,hb] at this
  simp at this
 have hM:vH p Jc (cR J p Jc):=by
  intro b i hb
  have hl:=(List.getElem?_eq_some_iff.1 hb).1
  rw[getJ,if_pos (by omega),Nat.add_sub_cancel,hb]
 have out:∀ (b:Nat) (i:Info),(cR J p Jc)[b]? = some (some i)→(¬ (p≤b∧b<p+Jc.length)∧J[b]? = some (some i))∨((p≤b∧b<p+Jc.length)∧Jc[b-p]? = some (some i)):=by
  intro b i hb
  rw[getJ] at hb
  split at hb
  ·rename_i hc; exact .inr ⟨hc,hb⟩
  ·rename_i hc; exact .inl ⟨hc,hb⟩
 refine⟨⟨by rw[dZ,kC]; exact hH.len,fun b blk hb hdb=>?_,fun b hb=>?_,fun b b' i i' hi hi' hv hv' e=>?_,fun b i hi hv=>?_,hH.fz⟩,hJ,hM,fun b i hb=>?_⟩
 ·rw[getH,bS] at hb
  split at hb
  ·rename_i hc
   rw[l9,Option.map_eq_some_iff] at hb
   obtain⟨y,hy,rfl⟩:=hb
   have hyd:y≠.dead:=by rintro rfl; exact hdb rfl
   obtain⟨i,hi,hr⟩:=hC.live _ y hy hyd
   refine⟨i,?_,hr.shift hM⟩
   rw[getJ,if_pos (by omega),hi]
  ·rename_i hc
   obtain⟨i,hi,hr⟩:=hH.live b blk hb hdb
   exact⟨i,by rw[getJ,if_neg (by omega),hi],hr.mono F.le_refl hJ (fun _=>⟨rfl,fun _=>rfl,rfl⟩)⟩
 ·rw[getH,bS] at hb
  split at hb
  ·rename_i hc
   rw[l9,Option.map_eq_some_iff] at hb
   obtain⟨y,hy,e⟩:=hb
   have:y=.dead:=by cases y<;>first | rfl | (simp[LB.shift] at e)
   subst this
   rw[getJ,if_pos (by omega)]
   exact hC.dead _ hy
  ·rename_i hc
   rw[getJ,if_neg (by omega)]
   exact hH.dead b hb
 ·rcases out b i hi with ⟨c1,o1⟩ | ⟨c1,o1⟩<;>rcases out b' i' hi' with ⟨c2,o2⟩ | ⟨c2,o2⟩
  ·exact hH.inj b b' i i' o1 o2 hv hv' e
  ·exact absurd e (apart _ _ _ _ o1 o2 hv hv')
  ·exact absurd e.symm (apart _ _ _ _ o2 o1 hv' hv)
  ·have:=hC.inj _ _ i i' o1 o2 hv hv' e
   omega
 ·rcases out b i hi with ⟨c1,o1⟩ | ⟨c1,o1⟩
  ·exact hH.bound b i o1 hv
  ·exact hC.bound _ i o1 hv
 ·rcases out b i hb with ⟨c1,o1⟩ | ⟨c1,o1⟩
  ·exact .inl o1
  ·exact .inr ⟨_,o1⟩
theorem iF:∀ (n p:Nat),bI h p n=true→∀ k,k<n→h[p+k]? = some .dead
 | 0,p,_,k,hk=>by omega
 | n+1,p,hs,k,hk=>by
  simp only[bI,Bool.and_eq_true] at hs
  cases k with
  | zero =>
   have:=hs.1
   unfold cQ at this
   split at this
   ·rename_i hx; simpa using hx
   ·cases this
  | succ k =>
   have:=iF n (p+1) hs.2 k (by omega)
   rw[← this]
   congr 1
   omega
theorem ld (k:Nat):∀ (l:List LB) (h:Heap),l.length≤k→bj (h++List.replicate k .dead) h.length l=h++l++List.replicate (k-l.length) .dead
 | [],h,_=>by simp[bj]
 | b::r,h,hk=>by
  simp only[List.length_cons] at hk
  obtain⟨k',rfl⟩ : ∃ k',k=k'+1:=⟨k-1,by omega⟩
  simp only[bj]
  have e:(h++List.replicate (k'+1) LB.dead).set h.length b=(h++[b])++List.replicate k' LB.dead:=by
   rw[List.replicate_succ]
   simp
  rw[e]
  have:=ld k' r (h++[b]) (by omega)
  simp only[List.length_append,List.length_singleton] at this
  rw[this]
  simp
theorem qE {F' : Fz} {pos:Option Nat} {k:Nat} {v v' : LV} {u:Value} {bs:List LB} (hH:HRel F J h w) (hF:F.le F') (hB:Below w.heap.size w w') (hsame:∀ cb,cb<w.heap.size→(∀ o,F'.cell cb o=F.cell cb o)∧F'.map cb=F.map cb)
  (hC:HRel F' Jc bs w') (hnew:∀ (c:Nat) (j:Info),Jc[c]? = some (some j)→j.virt=false→w.heap.size≤j.cb) (hv:VRel F' Jc v u) (hs:bW pos k v bs h=some (v',h')) :
  ∃ J',VRel F' J' v' u∧HRel F' J' h' w'∧Ext F J w F' J' w':=by
 obtain⟨hH1,hE1⟩:=hH.elsewhere hF hB hsame hC.fz
 -- at a place that is free
 have main:∀ (J0:JMap) (h0:Heap) (p:Nat),HRel F' J0 h0 w'→Ext F J w F' J0 w'→(∀ (b:Nat) (i:Info),J0[b]? = some (some i)→i.virt=false→i.cb<w.heap.size)→(∀ k,k<bs.length→h0[p+k]? = some .dead) →
   ∃ J',VRel F' J' (v.shift p) u∧HRel F' J' (bj h0 p (bC p bs)) w'∧Ext F J w F' J' w':=by
  intro J0 h0 p hH0 hE0 hlow hd
  obtain⟨r1,r2,r3,r4⟩:=hH0.place (p:=p) hC hd (fun b i c j hi hj hv hv' e=>by have:=hlow b i hi hv; have:=hnew c j hj hv'; omega)
  refine⟨_,hv.shift r3,r1,⟨hE0.fle,hE0.jle.trans r2,hE0.os,hE0.tape,hE0.output,hE0.size,hE0.blk,fun b i hi hv' hlt=>?_⟩⟩
  rcases r4 b i hi with o | ⟨c,o⟩
  ·exact hE0.own b i o hv' hlt
  ·have:=hnew c i o hv'
   omega
 unfold bW at hs
 split at hs
 ·rename_i hk
  split at hs
  ·simp only[Option.some.injEq,Prod.mk.injEq] at hs
   obtain⟨rfl,rfl⟩:=hs
   have hP:=hH1.pushDead k
   have:=main _ _ h.length hP (hE1.trans (Ext.pushDead F' J w' k)) (fun b i hb hv=>?_) (fun j hj=>?_)
   ·rw[ld k _ _ (by rw[bS]; exact hk),bS] at this
    exact this
   ·rcases Nat.lt_or_ge b J.length with hl | hl
    ·rw[List.getElem?_append_left hl] at hb
     exact hH.bound b i hb hv
    ·rw[List.getElem?_append_right hl,List.getElem?_replicate] at hb
     split at hb<;>simp at hb
   ·rw[List.getElem?_append_right (by omega),List.getElem?_replicate,if_pos (by omega)]
  ·rename_i p
   split at hs
   ·rename_i hd
    simp only[Option.some.injEq,Prod.mk.injEq] at hs
    obtain⟨rfl,rfl⟩:=hs
    exact main J h p hH1 hE1 hH.bound (fun k hk=>iF _ _ hd k hk)
   ·cases hs
 ·cases hs
mutual
theorem VRel.under:∀ {v:LV} {u:Value},v.under n=true→VRel F J v u→VRel F (J.take n) v u
 | .c x,u,_,h=>.c _ _ h.of_c
 | .nil,u,_,h=>by cases h; exact .nil
 | .emp,u,_,h=>by cases h; exact .emp _
 | .undef,u,_,h=>.undef u
 | .ptr b g off,u,hu,h=>by
  simp only[LV.under,decide_eq_true_eq] at hu
  obtain⟨i,ad,hi,rest⟩:=h.ptr_inv
  exact .ptr _ _ _ _ ⟨i,ad,by rw[List.getElem?_take,if_pos hu]; exact hi,rest⟩
 | .slice b g off len esz cap,u,hu,h=>by
  simp only[LV.under,decide_eq_true_eq] at hu
  obtain⟨i,ad,c,hi,rest⟩:=h.slice_inv
  exact .slice _ _ _ _ _ _ _ ⟨i,ad,c,by rw[List.getElem?_take,if_pos hu]; exact hi,rest⟩
 | .map b,u,hu,h=>by
  simp only[LV.under,decide_eq_true_eq] at hu
  cases h with
  | map _ _ h =>
   obtain⟨i,hi,rest⟩:=h
   exact .map _ _ ⟨i,by rw[List.getElem?_take,if_pos hu]; exact hi,rest⟩
 | .func f a b,u,hu,h=>by
  simp only[LV.under,Bool.and_eq_true] at hu
  cases h with
  | func _ _ _ xs ys u1 u2 hl1 hl2 q1 q2 q3 q4 =>
   exact .func f a b xs ys u1 u2 hl1 hl2 q1 q2 (fun i x hx=>underL_mem hu.1 i x hx (q3 i x hx)) (fun i x hx=>underL_mem hu.2 i x hx (q4 i x hx))
 | .agg cs,u,hu,h=>by
  simp only[LV.under] at hu
  cases h with
  | agg _ cs' u hl h1 h2 h3=>exact .agg cs cs' u hl h1 (fun i x hx=>underL_mem hu i x hx (h2 i x hx)) h3
 | .tuple cs,u,hu,h=>by
  simp only[LV.under] at hu
  cases h with
  | tuple _ cs' u hl h1 h2=>exact .tuple cs cs' u hl h1 (fun i x hx=>underL_mem hu i x hx (h2 i x hx))
theorem underL_mem:∀ {l:List LV},underL n l=true→∀ (i:Nat) (x:LV),l[i]? = some x→∀ {u:Value},VRel F J x u→VRel F (J.take n) x u
 | [],_,i,x,hx,_,_=>by simp at hx
 | v::r,hu,0,x,hx,u,h=>by
  simp only[underL,Bool.and_eq_true] at hu
  simp only[List.getElem?_cons_zero,Option.some.injEq] at hx
  subst hx
  exact VRel.under hu.1 h
 | v::r,hu,i+1,x,hx,u,h=>by
  simp only[underL,Bool.and_eq_true] at hu
  exact underL_mem hu.2 i x (by simpa using hx) h
end
theorem BRel.under {i:Info} {blk:LB} (hu:blk.under n=true) (h:BRel F J i w blk):BRel F (J.take n) i w blk:=by
 cases blk with
 | cells g cs fz =>
  obtain⟨h1,h2,h3,h4⟩:=h
  refine⟨h1,h2,h3,fun hv=>?_⟩
  obtain⟨arr,el,a1,a2,a3,a4,a5⟩:=h4 hv
  exact⟨arr,el,a1,a2,a3,fun k x hx=>let ⟨u,hu',hr,hc⟩:=a4 k x hx; ⟨u,hu',underL_mem hu k x hx hr,hc⟩,a5⟩
 | map ks vs fz =>
  obtain⟨h1,h2,es,clk,a1,a2,a3,a4,a5,a6⟩:=h
  exact⟨h1,h2,es,clk,a1,a2,a3,a4,fun k x hx=>let ⟨e,he,hr⟩:=a5 k x hx; ⟨e,he,underL_mem hu k x hx hr⟩,a6⟩
 | iter s pos=>exact h
 | dead=>exact h.elim
theorem cf:∀ {l:List LB},bM n l=true→∀ (i:Nat) (x:LB),l[i]? = some x→x.under n=true
 | [],_,i,x,hx=>by simp at hx
 | v::r,hu,0,x,hx=>by
  simp only[bM,Bool.and_eq_true] at hu
  simp only[List.getElem?_cons_zero,Option.some.injEq] at hx
  subst hx
  exact hu.1
 | v::r,hu,i+1,x,hx=>by
  simp only[bM,Bool.and_eq_true] at hu
  exact cf hu.2 i x (by simpa using hx)
theorem HRel.take (hH:HRel F J h w) (hu:bM n (h.take n)=true):HRel F (J.take n) (h.take n) w:=by
 have out:∀ (b:Nat) (i:Info),(J.take n)[b]? = some (some i)→J[b]? = some (some i):=by
  intro b i hb
  rw[List.getElem?_take] at hb
  split at hb
  ·exact hb
  ·cases hb
 refine⟨by simp[hH.len],fun b blk hb hd=>?_,fun b hb=>?_,fun b b' i i' hi hi'=>hH.inj b b' i i' (out b i hi) (out b' i' hi'),fun b i hi=>hH.bound b i (out b i hi),hH.fz⟩
 ·have hul:=cf hu b blk hb
  rw[List.getElem?_take] at hb
  split at hb
  ·rename_i hlt
   obtain⟨i,hi,hr⟩:=hH.live b blk hb hd
   exact⟨i,by rw[List.getElem?_take,if_pos hlt]; exact hi,hr.under hul⟩
  ·cases hb
 ·rw[List.getElem?_take] at hb ⊢
  split at hb
  ·rename_i hlt
   rw[if_pos hlt]
   exact hH.dead b hb
  ·cases hb
theorem nI:∀ (l:List LV) (i:Nat),(scrub n l)[i]? = (l[i]?).map fun v=>if v.under n then v else .undef
 | [],i=>by simp[scrub]
 | v::r,i=>by
  cases i with
  | zero=>simp[scrub]
  | succ i=>simpa[scrub] using nI r i
theorem j7:∀ (l:List LV),(scrub n l).length=l.length
 | []=>rfl
 | v::r=>by simp[scrub,j7 r]
theorem JE {F0:Fz} {J0:JMap} {w0:World} {s:St} (hT:TRel DS F J s.tmps a) (hH:HRel F J s.heap w) (hE:Ext F0 J0 w0 F J w) (hn:J0.length=n) :
  ∃ J',TRel DS F J' (gc n s).tmps a∧HRel F J' (gc n s).heap w∧Ext F0 J0 w0 F J' w:=by
 unfold gc
 split
 ·rename_i hu
  refine⟨J.take n,⟨hT.defers,by rw[j7]; exact hT.size,fun t x hx=>?_⟩,hH.take hu,⟨hE.fle,fun b i hb=>?_,hE.os,hE.tape,hE.output,hE.size,hE.blk,fun b i hi hv hlt=>?_⟩⟩
  ·rw[nI,Option.map_eq_some_iff] at hx
   obtain⟨y,hy,rfl⟩:=hx
   obtain⟨u,hu',hr⟩:=hT.rel t y hy
   refine⟨u,hu',?_⟩
   split
   ·rename_i hy'
    exact hr.under hy'
   ·exact .undef u
  ·obtain⟨i',hi',rest⟩:=hE.jle b i hb
   have hlt:b<n:=by rw[← hn]; exact (List.getElem?_eq_some_iff.1 hb).1
   exact⟨i',by rw[List.getElem?_take,if_pos hlt]; exact hi',rest⟩
  ·rw[List.getElem?_take] at hi
   split at hi
   ·exact hE.own b i hi hv hlt
   ·cases hi
 ·exact⟨J,hT,hH,hE⟩
end
end LM
namespace LM
open Go Go.RowKit
section
variable {P:Program} {F F' : Fz} {J J' : JMap} {w w' : World} {h h' : Heap}
def foreign:Obj→Bool
 | .cells ..=>false
 | .map ..=>false
 | .stringIter ..=>false
 | _=>true
theorem HRel.foreign {D:Nat} {o:Obj} (hH:HRel F J h w) (hD:w.heap[D]? = some o) (ho:foreign o=true):∀ (b:Nat) (i:Info),J[b]? = some (some i)→i.virt=false→i.cb≠D:=by
 intro b i hi hv e
 subst e
 have hb:b<h.length:=by rw[hH.len]; exact (List.getElem?_eq_some_iff.1 hi).1
 have hblk:=List.getElem?_eq_getElem hb
 by_cases hd:h[b]=.dead
 ·have:=hH.dead b (by rw[hblk,hd])
  rw[this] at hi
  cases hi
 ·obtain⟨i',hi',hr⟩:=hH.live b _ hblk hd
  rw[hi] at hi'
  simp only[Option.some.injEq] at hi'
  subst hi'
  cases hx:h[b] with
  | cells g cs fz =>
   rw[hx] at hr
   obtain⟨_,_,_,h4⟩:=hr
   obtain⟨arr,el,h5,_⟩:=h4 hv
   rw[hD] at h5
   simp only[Option.some.injEq] at h5
   subst h5
   cases ho
  | map ks vs fz =>
   rw[hx] at hr
   obtain⟨_,_,es,clk,h5,_⟩:=hr
   rw[hD] at h5
   simp only[Option.some.injEq] at h5
   subst h5
   cases ho
  | iter s pos =>
   rw[hx] at hr
   obtain⟨_,_,_,_,bs,_,h5⟩:=hr
   rw[hD] at h5
   simp only[Option.some.injEq] at h5
   subst h5
   cases ho
  | dead=>exact hd hx
theorem Ext.foreign {D:Nat} {o:Obj} (hH:HRel F J h w) (hE:Ext F J w F' J' w') (hD:w.heap[D]? = some o) (ho:foreign o=true):w'.heap[D]? = some o:=by
 rw[(hE.blk D (Array.getElem?_eq_some_iff.1 hD).1 (hH.foreign hD ho)).1]
 exact hD
theorem BO {D:Nat} {o o' : Obj} {a:Addr} {v:Value} (hD:w.heap[D]? = some o) (ho:LM.foreign o=true) (hc:w.cell? a=some v):(w.putObj D o').cell? a=some v:=by
 by_cases e:a.block=D
 ·subst e
  unfold World.cell? at hc
  rw[hD] at hc
  cases o<;>first | (cases ho; done) | (simp at hc)
 ·unfold World.cell? at hc ⊢
  rw[World.putObj_heap_other e]
  exact hc
theorem HRel.putObj {D:Nat} {o:Obj} (o' : Obj) (hH:HRel F J h w) (hD:w.heap[D]? = some o) (ho:LM.foreign o=true):HRel F J h (w.putObj D o'):=by
 refine⟨hH.len,fun b blk hb hd=>?_,hH.dead,hH.inj,fun b i hi hv=>by simpa using hH.bound b i hi hv,⟨fun b o v hc=>BO hD ho (hH.fz.cell b o v hc),fun r es hr=>?_⟩⟩
 ·obtain⟨i,hi,hr⟩:=hH.live b blk hb hd
  exact⟨i,hi,hr.mono F.le_refl (.refl J) fun hv=>⟨World.putObj_heap_other (hH.foreign hD ho b i hi hv),fun _=>rfl,rfl⟩⟩
 ·obtain⟨clk,hc⟩:=hH.fz.map r es hr
  refine⟨clk,?_⟩
  rw[World.putObj_heap_other (fun e=>?_)]
  ·exact hc
  ·subst e
   rw[hD] at hc
   simp only[Option.some.injEq] at hc
   subst hc
   cases ho
theorem Ext.putObj {F0:Fz} {J0:JMap} {w0:World} {D:Nat} (o:Obj) (hE:Ext F0 J0 w0 F J w) (hD:w0.heap.size≤D):Ext F0 J0 w0 F J (w.putObj D o):=by
 refine⟨hE.fle,hE.jle,hE.os,hE.tape,hE.output,by simpa using hE.size,fun cb hcb hne=>?_,hE.own⟩
 rw[World.putObj_heap_other (by omega)]
 exact hE.blk cb hcb hne
theorem HRel.allocOther (hH:HRel F J h w) (o:Obj):HRel F J h (w.alloc o)∧Ext F J w F J (w.alloc o) :=
 hH.elsewhere F.le_refl ((Below.refl _ w).alloc (Nat.le_refl _) o) (fun _ _=>⟨fun _=>rfl,rfl⟩) (hH.fz.alloc o)
def dV (Ds:List Nat):List Deferred:=Ds.map fun D=>{ target:=.collected D,args:=#[] }
def Shut (B:Nat) (Ds:List Nat) (w:World):Prop:=Ds.Nodup∧∀ D ∈ Ds,B≤D∧w.heap[D]? = some (.deferred (some []))
theorem Shut.nil (B:Nat) (w:World):Shut B [] w:=⟨by simp,by simp⟩
theorem Shut.ext {B:Nat} {Ds:List Nat} (hs:Shut B Ds w) (hH:HRel F J h w) (hE:Ext F J w F' J' w'):Shut B Ds w' :=
 ⟨hs.1,fun D hD=>⟨(hs.2 D hD).1,hE.foreign hH (hs.2 D hD).2 rfl⟩⟩
theorem mK {fn:Func} {tmps:Array Value} {R:Ending→World→Prop} {F0:Fz} {J0:JMap} {w0:World}:∀ {Ds:List Nat} {w:World},Shut w0.heap.size Ds w→HRel F J h w→Ext F0 J0 w0 F J w →
  (∀ w',HRel F J h w'→Ext F0 J0 w0 F J w'→∃ v,(results fn tmps).run P w'=.ok v w'∧R (.returned v) w')→LeavesInM Fence.wide 0 P fn tmps R (dV Ds) .returning w
 | [],w,hs,hH,hE,hR=>hR w hH hE
 | D::Ds,w,hs,hH,hE,hR=>by
  obtain⟨hnd,hall⟩:=hs
  obtain⟨hB,hD⟩:=hall D (by simp)
  refine⟨by simp,.inl ⟨D,_,rfl,run_takeDeferred hD,?_⟩⟩
  refine mK (Ds:=Ds) ⟨(List.nodup_cons.1 hnd).2,fun D' hD'=>?_⟩ (hH.putObj _ hD rfl) (hE.putObj _ hB) hR
  obtain⟨h1,h2⟩:=hall D' (by simp[hD'])
  refine⟨h1,?_⟩
  rw[World.putObj_heap_other (fun e=>?_)]
  ·exact h2
  ·subst e
   exact (List.nodup_cons.1 hnd).1 hD'
end
end LM
namespace LM
open Go Go.RowKit
variable {DS:List Deferred}
def eL:Ex→Exit
 | .normal=>.normal
 | .exit id=>.exit id
 | .ret=>.ret
def dd (P:Program) (H:Hints) (r:Run):Prop :=
 ∀ (f:Nat) (c:Code) (s s' : St) (ex:Ex),r (aM P H f c) s=some (ex,s') →
  ∀ (F:Fz) (J:JMap) (a:Act) (w:World) (Q:Exit→Act→World→Prop),TRel [] F J s.tmps a→HRel F J s.heap w →
   (∀ Ds F' J' a' w',TRel (dV Ds) F' J' s'.tmps a'→Shut w.heap.size Ds w'→HRel F' J' s'.heap w'→Ext F J w F' J' w'→Q (eL ex) a' w')→c.wp P Q a w
def qe (F:Fz) (w:World) (v:CV):Ending→World→Prop:=fun e w' =>
 ∃ u F',e=.returned u∧CRel F' v u∧F.le F'∧FzOk F' w'∧Below w.heap.size w w'∧∀ cb,cb<w.heap.size→(∀ o,F'.cell cb o=F.cell cb o)∧F'.map cb=F.map cb
def vM (F:Fz) (w:World) (v:LV) (bs:List LB):Ending→World→Prop:=fun e w' =>
 ∃ u F' Jc,e=.returned u∧VRel F' Jc v u∧HRel F' Jc bs w'∧(∀ (c:Nat) (j:Info),Jc[c]? = some (some j)→j.virt=false→w.heap.size≤j.cb)∧F.le F'∧Below w.heap.size w w' ∧
  ∀ cb,cb<w.heap.size→(∀ o,F'.cell cb o=F.cell cb o)∧F'.map cb=F.map cb
def vJ (F:Fz) (J:JMap) (w:World) (v:LV) (h' : Heap):Ending→World→Prop:=fun e w' =>
 ∃ u F' J',e=.returned u∧VRel F' J' v u∧HRel F' J' h' w'∧Ext F J w F' J' w'
def Enters (P:Program) (f:Nat):Prop:=∃ fn,P.funcs[f]? = some fn∧fn.body.isSome=true∧(fn.name == "runtime.NumGoroutine")=false
def PrimOk (P:Program) (f:Nat) (g:List CV→Option CV):Prop :=
 Enters P f∧∀ (F:Fz) (w:World) (args:List CV) (us:List Value) (v:CV),FzOk F w→AllC F args us→g args=some v→Calls P f us.toArray w (qe F w v)
def FprimOk (P:Program) (f:Nat) (g:List CV→Option (LV × List LB)):Prop :=
 Enters P f∧∀ (F:Fz) (w:World) (args:List CV) (us:List Value) (v:LV) (bs:List LB),FzOk F w→AllC F args us→g args=some (v,bs)→Calls P f us.toArray w (vM F w v bs)
structure ProgOk (P:Program) (H:Hints) (prog:Nat→Option LFunc):Prop where
 prog:∀ f lf,prog f=some lf→cFunc P H f=some lf
 prims:∀ f g,lookupPrim f H.prims=some g→PrimOk P f g
 fprims:∀ f k g,lookupPrim f H.fprims=some (k,g)→FprimOk P f g
 mixed:P.follows .mixedOrders=true
section
variable {P:Program} {H:Hints} {prog:Nat→Option LFunc} {r:Run} {F:Fz} {J:JMap} {a:Act} {w:World} {h h' : Heap}
theorem HRel.empty (hF:FzOk F w):HRel F [] [] w :=
 ⟨rfl,by simp,by simp,by simp,by simp,hF⟩
theorem Cm {args:List LV} {us:List Value} {n:Nat} (h:AllV F J args us):TRel [] F J (pad n args) { tmps:=us.toArray++Array.replicate (n-us.toArray.size) undef,defers:=[] }:=by
 have hl:=h.1
 refine⟨rfl,by simp[pad,hl],fun t x hx=>?_⟩
 unfold pad at hx
 by_cases ht:t<args.length
 ·rw[List.getElem?_append_left ht] at hx
  obtain⟨u,hu,hr⟩:=h.2 t x hx
  refine⟨u,?_,hr⟩
  rw[Array.getElem?_append_left (by simpa[hl] using ht)]
  simpa using hu
 ·rw[List.getElem?_append_right (by omega),List.getElem?_replicate] at hx
  split at hx
  ·rename_i hlt
   simp only[Option.some.injEq] at hx
   subst hx
   refine⟨undef,?_,.undef _⟩
   rw[Array.getElem?_append_right (by simp; omega)]
   simp[hl,hlt]
  ·cases hx
theorem jf {f:Nat} {fn:Func} {c:Code} {rs:List LRes} {args:List LV} {us:List Value} {ex:Ex} {s:St} {v:LV} {R:Ending→World→Prop} (hr:dd P H r) (hf:P.funcs[f]? = some fn) (hb:fn.body=some c)
  (hrs:ij P fn.results.toList=some rs) (ha:AllV F J args us) (hH:HRel F J h w) (hex:∀ id,ex≠.exit id) (hrun:r (aM P H f c) ⟨pad fn.ntmps args,h⟩=some (ex,s)) (hv:aK s rs=some v)
  (hR:∀ u F' J' w',VRel F' J' v u→HRel F' J' s.heap w'→Ext F J w F' J' w'→R (.returned u) w'):Calls P f us.toArray w R:=by
 refine callsIn_wide.1 (callsIn_of_wp_marks (F:=Fence.wide) (n:=0) hf hb trivial (wpIn_wide.2 (hr f c _ _ _ hrun F J _ w _ (Cm ha) hH fun Ds F' J' a' w' hT' hS' hH' hE'=>?_)) rfl)
 have main:LeavesInM Fence.wide 0 P fn a'.tmps R a'.defers .returning w':=by
  rw[hT'.defers]
  refine mK hS' hH' hE' fun w2 hH2 hE2=>?_
  obtain⟨u,hu,hrel⟩:=oJ (fn:=fn) hT' hH2 hrs hv
  exact⟨u,hu,hR u F' J' w2 hrel hH2 hE2⟩
 cases ex with
 | normal=>exact main
 | ret=>exact main
 | exit id=>exact absurd rfl (hex id)
theorem Ext.below {F' : Fz} {J' : JMap} {w' : World} (h:Ext F [] w F' J' w'):Below w.heap.size w w'∧(∀ cb,cb<w.heap.size→(∀ o,F'.cell cb o=F.cell cb o)∧F'.map cb=F.map cb) ∧
  ∀ (c:Nat) (j:Info),J'[c]? = some (some j)→j.virt=false→w.heap.size≤j.cb:=by
 refine⟨⟨h.os,h.tape,h.output,h.size,fun k hk=>(h.blk k hk (by simp)).1⟩,fun cb hcb=>⟨(h.blk cb hcb (by simp)).2.1,(h.blk cb hcb (by simp)).2.2⟩,fun c j hj hv=>?_⟩
 rcases Nat.lt_or_ge j.cb w.heap.size with hl | hl
 ·obtain⟨b',i',hb',_⟩:=h.own c j hj hv hl
  simp at hb'
 ·exact hl
theorem pZ {f:Nat} {fn:Func} {c:Code} {rs:List LRes} {args:List CV} {us:List Value} {v:CV} (hr:dd P H r) (hf:P.funcs[f]? = some fn) (hb:fn.body=some c)
  (hrs:ij P fn.results.toList=some rs) (ha:AllC F args us) (hF:FzOk F w) (hrun:cT r fn.ntmps rs (aM P H f c) args=some v):Calls P f us.toArray w (qe F w v):=by
 unfold cT at hrun
 split at hrun
 ·rename_i ex s hs
  have key:(∀ id,ex≠.exit id)→(match aK s rs with
    | some v=>match frz ay v s.heap with
     | some (c,_)=>some c
     | none=>none
    | none=>none)=some v→Calls P f us.toArray w (qe F w v):=by
   intro hex hrun
   split at hrun
   ·rename_i lv hlv
    split at hrun
    ·rename_i cv hp hfz
     simp only[Option.some.injEq] at hrun
     subst hrun
     refine jf hr hf hb hrs (ha.toV (J:=[])) (HRel.empty hF) hex hs hlv fun u F' J' w' hrel hH' hE'=>?_
     obtain⟨F2,hle,hsame,hH2,hc⟩:=(tD ay).1 hH' hrel hfz
     obtain⟨b1,b2,b3⟩:=(hE'.trans (hsame.ext (w:=w') hle)).below
     exact⟨u,F2,rfl,hc,Fz.le_trans hE'.fle hle,hH2.fz,b1,b2⟩
    ·cases hrun
   ·cases hrun
  cases ex with
  | exit id=>cases hrun
  | normal=>exact key (fun id=>by simp) hrun
  | ret=>exact key (fun id=>by simp) hrun
 ·cases hrun
theorem oE {f:Nat} {fn:Func} {c:Code} {rs:List LRes} {args:List CV} {us:List Value} {v:LV} {bs:List LB} (hr:dd P H r) (hf:P.funcs[f]? = some fn) (hb:fn.body=some c)
  (hrs:ij P fn.results.toList=some rs) (ha:AllC F args us) (hF:FzOk F w) (hrun:c8 r fn.ntmps rs (aM P H f c) args=some (v,bs)):Calls P f us.toArray w (vM F w v bs):=by
 unfold c8 at hrun
 split at hrun
 ·rename_i ex s hs
  have key:(∀ id,ex≠.exit id)→(match aK s rs with
    | some v=>some (v,s.heap)
    | none=>none)=some (v,bs)→Calls P f us.toArray w (vM F w v bs):=by
   intro hex hrun
   split at hrun
   ·rename_i lv hlv
    simp only[Option.some.injEq,Prod.mk.injEq] at hrun
    obtain⟨rfl,rfl⟩:=hrun
    refine jf hr hf hb hrs (ha.toV (J:=[])) (HRel.empty hF) hex hs hlv fun u F' J' w' hrel hH' hE'=>?_
    obtain⟨b1,b2,b3⟩:=hE'.below
    exact⟨u,F',J',rfl,hrel,hH',b3,hE'.fle,b1,b2⟩
   ·cases hrun
  cases ex with
  | exit id=>cases hrun
  | normal=>exact key (fun id=>by simp) hrun
  | ret=>exact key (fun id=>by simp) hrun
 ·cases hrun
theorem Enters.of {f:Nat} {fn:Func} {c:Code} (hf:P.funcs[f]? = some fn) (hb:fn.body=some c) (hn:¬ (fn.name == "runtime.NumGoroutine")=true):Enters P f:=⟨fn,hf,by rw[hb]; rfl,by simpa using hn⟩
theorem cu {f:Nat} {lf:LFunc} (h:cFunc P H f=some lf) :
  (∃ g,lf=.prim g∧lookupPrim f H.prims=some g)∨(∃ k g,lf=.fprim k g∧lookupPrim f H.fprims=some (k,g)) ∨
  (∃ fn c rs,lf=.code (lP H f) fn.ntmps rs (aM P H f c)∧P.funcs[f]? = some fn∧fn.body=some c∧ij P fn.results.toList=some rs∧Enters P f):=by
 unfold cFunc at h
 split at h
 ·rename_i g hg
  simp only[Option.some.injEq] at h
  exact .inl ⟨g,h.symm,hg⟩
 ·split at h
  ·rename_i k g hg
   simp only[Option.some.injEq] at h
   exact .inr (.inl ⟨k,g,h.symm,hg⟩)
  ·split at h
   ·rename_i fn hfn
    split at h
    ·rename_i c rs hc hrs
     split at h
     ·cases h
     ·rename_i hn
      simp only[Option.some.injEq] at h
      exact .inr (.inr ⟨fn,c,rs,h.symm,hfn,hc,hrs,.of hfn hc hn⟩)
    ·cases h
   ·cases h
theorem qg {F1:Fz} {v:CV} {h1:Heap} (hH:HRel F J h w) (hle:F.le F1) (hsame:FSame F J F1) (hH1:HRel F1 J h1 w):∀ e w',qe F1 w v e w'→vJ F J w (.c v) (if bE v then h else h1) e w':=by
 rintro e w' ⟨u,F',rfl,hc,hle2,hfz,hB,hsm⟩
 split
 ·rename_i hs
  have hfz0:FzOk F w':=⟨fun b o v hb=>hfz.cell _ _ _ (hle2.cell _ _ _ (hle.cell _ _ _ hb)),fun r es hr=>hfz.map _ _ (hle2.map _ _ (hle.map _ _ hr))⟩
  obtain⟨q1,q2⟩:=hH.elsewhere (F':=F) F.le_refl hB (fun _ _=>⟨fun _=>rfl,rfl⟩) hfz0
  exact⟨u,F,J,rfl,.c _ _ (BG hs hc),q1,q2⟩
 ·obtain⟨q1,q2⟩:=hH1.elsewhere hle2 hB hsm hfz
  exact⟨u,F',J,rfl,.c _ _ hc,q1,(hsame.ext hle).trans q2⟩
theorem Ok (hP:ProgOk P H prog) (hr:dd P H r) {pos:Option Nat} {quiet:Bool} {f:Nat} {args:List LV} {us:List Value} {v:LV} (ha:AllV F J args us) (hH:HRel F J h w)
  (hs:bD prog r pos quiet f args h=some (v,h')):Enters P f∧Calls P f us.toArray w (vJ F J w v h'):=by
 unfold bD at hs
 split at hs
 ·cases hs
 ·-- a primitive
  rename_i g hg
  rcases cu (hP.prog _ _ hg) with ⟨g',e,hp⟩ | ⟨k,g',e,_⟩ | ⟨fn,c,rs,e,_⟩
  ·injection e with e
   subst e
   split at hs
   ·cases hs
   ·rename_i cs h1 hfa
    split at hs
    ·cases hs
    ·rename_i cv hcv
     simp only[Option.some.injEq,Prod.mk.injEq] at hs
     obtain⟨rfl,rfl⟩:=hs
     obtain⟨F1,hle,hsame,hH1,hac⟩:=iQ hH ha hfa
     obtain⟨he,hc⟩:=hP.prims _ _ hp
     exact⟨he,Calls.mono (hc F1 w cs us cv hH1.fz hac hcv) (qg hH hle hsame hH1)⟩
  ·cases e
  ·cases e
 ·rename_i nt rs body hg
  rcases cu (hP.prog _ _ hg) with ⟨g',e,hp⟩ | ⟨k,g',e,_⟩ | ⟨fn,c,rs',e,hf,hb,hrs,he⟩
  ·cases e
  ·cases e
  ·injection e with e1 e2 e3 e4
   subst e2 e3 e4
   split at hs
   ·cases hs
   ·rename_i cs h1 hfa
    split at hs
    ·cases hs
    ·rename_i cv hcv
     simp only[Option.some.injEq,Prod.mk.injEq] at hs
     obtain⟨rfl,rfl⟩:=hs
     obtain⟨F1,hle,hsame,hH1,hac⟩:=iQ hH ha hfa
     exact⟨he,Calls.mono (pZ hr hf hb hrs hac hH1.fz hcv) (qg hH hle hsame hH1)⟩
 ·rename_i k g hg
  rcases cu (hP.prog _ _ hg) with ⟨g',e,hp⟩ | ⟨k',g',e,hp⟩ | ⟨fn,c,rs,e,_⟩
  ·cases e
  ·injection e with e1 e2
   subst e1 e2
   split at hs
   ·cases hs
   split at hs
   ·cases hs
   ·rename_i cs h1 hfa
    split at hs
    ·cases hs
    ·rename_i v0 bs hcv
     obtain⟨F1,hle,hsame,hH1,hac⟩:=iQ hH ha hfa
     obtain⟨he,hc⟩:=hP.fprims _ _ _ hp
     refine⟨he,Calls.mono (hc F1 w cs us v0 bs hH1.fz hac hcv) ?_⟩
     rintro e w' ⟨u,F',Jc,rfl,hv,hC,hnew,hle2,hB,hsm⟩
     obtain⟨J',q1,q2,q3⟩:=qE hH1 hle2 hB hsm hC hnew hv hs
     exact⟨u,F',J',rfl,q1,q2,(hsame.ext hle).trans q3⟩
  ·cases e
 ·rename_i k nt rs body hg
  rcases cu (hP.prog _ _ hg) with ⟨g',e,hp⟩ | ⟨k',g',e,_⟩ | ⟨fn,c,rs',e,hf,hb,hrs,he⟩
  ·cases e
  ·cases e
  ·injection e with e1 e2 e3 e4
   subst e2 e3 e4
   split at hs
   ·cases hs
   split at hs
   ·cases hs
   ·rename_i cs h1 hfa
    split at hs
    ·cases hs
    ·rename_i v0 bs hcv
     obtain⟨F1,hle,hsame,hH1,hac⟩:=iQ hH ha hfa
     refine⟨he,Calls.mono (oE hr hf hb hrs hac hH1.fz hcv) ?_⟩
     rintro e w' ⟨u,F',Jc,rfl,hv,hC,hnew,hle2,hB,hsm⟩
     obtain⟨J',q1,q2,q3⟩:=qE hH1 hle2 hB hsm hC hnew hv hs
     exact⟨u,F',J',rfl,q1,q2,(hsame.ext hle).trans q3⟩
 ·rename_i nt rs body hg
  rcases cu (hP.prog _ _ hg) with ⟨g',e,hp⟩ | ⟨k',g',e,_⟩ | ⟨fn,c,rs',e,hf,hb,hrs,he⟩
  ·cases e
  ·cases e
  ·injection e with e1 e2 e3 e4
   subst e2 e3 e4
   split at hs
   ·cases hs
   split at hs
   ·cases hs
   ·rename_i args' h1 hfa
    obtain⟨F1,hle,hsame,hH1,hac⟩:=jV hH ha hfa
    split at hs
    ·rename_i ex s hrun
     have key:(∀ id,ex≠.exit id)→(match aK s rs with
       | some v=>some (v,s.heap)
       | none=>none)=some (v,h')→Enters P f∧Calls P f us.toArray w (vJ F J w v h'):=by
      intro hex hs
      split at hs
      ·rename_i lv hlv
       simp only[Option.some.injEq,Prod.mk.injEq] at hs
       obtain⟨rfl,rfl⟩:=hs
       refine⟨he,jf hr hf hb hrs hac hH1 hex hrun hlv fun u F' J' w' hrel hH' hE'=>?_⟩
       exact⟨u,F',J',rfl,hrel,hH',(hsame.ext hle).trans hE'⟩
      ·cases hs
     cases ex with
     | exit id=>cases hs
     | normal=>exact key (fun id=>by simp) hs
     | ret=>exact key (fun id=>by simp) hs
    ·cases hs
 ·rename_i nt rs body hg
  rcases cu (hP.prog _ _ hg) with ⟨g',e,hp⟩ | ⟨k',g',e,_⟩ | ⟨fn,c,rs',e,hf,hb,hrs,he⟩
  ·cases e
  ·cases e
  ·injection e with e1 e2 e3 e4
   subst e2 e3 e4
   split at hs
   ·cases hs
   split at hs
   ·rename_i ex s hrun
    have key:(∀ id,ex≠.exit id)→(match aK s rs with
      | some v=>some (v,s.heap)
      | none=>none)=some (v,h')→Enters P f∧Calls P f us.toArray w (vJ F J w v h'):=by
     intro hex hs
     split at hs
     ·rename_i lv hlv
      simp only[Option.some.injEq,Prod.mk.injEq] at hs
      obtain⟨rfl,rfl⟩:=hs
      exact⟨he,jf hr hf hb hrs ha hH hex hrun hlv fun u F' J' w' hrel hH' hE'=>⟨u,F',J',rfl,hrel,hH',hE'⟩⟩
     ·cases hs
    cases ex with
    | exit id=>cases hs
    | normal=>exact key (fun id=>by simp) hs
    | ret=>exact key (fun id=>by simp) hs
   ·cases hs
theorem rg {x:LV} {u:Value} {f:Nat} {l1 l2:List LV} (hr:VRel F J x u) (h:da x=some (f,l1,l2)):∃ u1 u2:List Value,u=.func (.func f) u1.toArray u2.toArray∧AllV F J l1 u1∧AllV F J l2 u2:=by
 cases x with
 | c cv =>
  cases cv with
  | func f' a b =>
   simp only[da,Option.some.injEq,Prod.mk.injEq] at h
   obtain⟨rfl,rfl,rfl⟩:=h
   cases hr.of_c with
   | func _ _ _ xs ys u1 u2 hl1 hl2 q1 q2 q3 q4 =>
    refine⟨xs.toList,ys.toList,by simp,AllC.toV ⟨by simpa using hl1,fun k x hx=>⟨u1 k,by simpa using q1 k x hx,q3 k x hx⟩⟩,AllC.toV ⟨by simpa using hl2,fun k x hx=>⟨u2 k,by simpa using q2 k x hx,q4 k x hx⟩⟩⟩
  | _=>simp[da] at h
 | func f' a b =>
  simp only[da,Option.some.injEq,Prod.mk.injEq] at h
  obtain⟨rfl,rfl,rfl⟩:=h
  cases hr with
  | func _ _ _ xs ys u1 u2 hl1 hl2 q1 q2 q3 q4 =>
   refine⟨xs.toList,ys.toList,by simp,⟨by simpa using hl1,fun k x hx=>⟨u1 k,by simpa using q1 k x hx,q3 k x hx⟩⟩,⟨by simpa using hl2,fun k x hx=>⟨u2 k,by simpa using q2 k x hx,q4 k x hx⟩⟩⟩
 | _=>simp[da] at h
theorem ny {f:Nat} (he:Enters P f) (args:Array Value):(callFunc f args).run P w=.ok (.enter f args) w:=by
 obtain⟨fn,hf,hb,hn⟩:=he
 have hbn:fn.body.isNone=false:=by
  cases h:fn.body with
  | none=>rw[h] at hb; cases hb
  | some _=>rfl
 simp only[callFunc,Sem.run_bind,run_program,Result.andThen_ok,hf,hn,hbn,Bool.false_eq_true,if_false,Sem.run_pure]
end
end LM
namespace LM
open Go Go.RowKit
variable {DS:List Deferred}
section
variable {P:Program} {H:Hints} {prog:Nat→Option LFunc} {r:Run} {F:Fz} {J:JMap} {a:Act} {w:World} {h h' : Heap} {ops:Array Oper}
theorem sX {x:Operand} {f:LO→LOp} {q:Bool} {g:LO} {l:List LO} (hf:∀ y,f y≠.call q g l):o1 x f≠some (.call q g l):=by
 intro h
 obtain⟨y,_,e⟩:=bY h
 exact hf y e
theorem Fo {x y:Operand} {f:LO→LO→LOp} {q:Bool} {g:LO} {l:List LO} (hf:∀ a b,f a b≠.call q g l):o2 x y f≠some (.call q g l):=by
 intro h
 obtain⟨a,b,_,_,e⟩:=cG h
 exact hf a b e
theorem R6 {x y z:Operand} {f:LO→LO→LO→LOp} {q:Bool} {g:LO} {l:List LO} (hf:∀ a b c,f a b c≠.call q g l):o3 x y z f≠some (.call q g l):=by
 intro h
 obtain⟨a,b,c,_,_,_,e⟩:=lF h
 exact hf a b c e
theorem rx {quiet:Bool} {ty:TypeId} {x:Operand} {q:Bool} {g:LO} {l:List LO}:eT P quiet ty x≠some (.call q g l):=by
 intro h
 unfold eT at h
 split at h
 ·split at h
  ·split at h
   ·simp at h
   ·cases h
  ·cases h
 ·exact sX (by simp) h
theorem vt {b:Builtin} {ts:List TypeId} {xs:List Operand} {q:Bool} {g:LO} {l:List LO}:gd P b ts xs≠some (.call q g l):=by
 intro h
 unfold gd at h
 repeat' split at h
 all_goals first
  | (cases h; done)
  | (exact sX (by simp) h)
  | (exact Fo (by simp) h)
  | (simp at h; done)
theorem wT {quiet:Bool} {const:Nat} {ty:TypeId} {op:Op} {q:Bool} {g:LO} {l:List LO} (h:cOp P quiet const ty op=some (.call q g l)) :
  ∃ f args ats,op=.call ⟨.value f,args,ats⟩∧aE f=some g∧dF args.toList=some l:=by
 unfold cOp at h
 split at h
 case _=>exact absurd h rx
 case _=>exact absurd h rx
 all_goals repeat' split at h
 all_goals first
  | (cases h; done)
  | (exact absurd h (sX (by simp)))
  | (exact absurd h (Fo (by simp)))
  | (exact absurd h (R6 (by simp)))
  | (exact absurd h vt)
  | (simp[Option.map_eq_some_iff] at h; done)
  | skip
 rename_i f args ats _ _ g' l' hg hl
 simp only[Option.some.injEq,LOp.call.injEq] at h
 obtain⟨_,rfl,rfl⟩:=h
 exact⟨f,args,ats,rfl,hg,hl⟩
structure OperRel (P:Program) (ops:Array Oper) (lo:LOper) (o:Oper):Prop where
 dst:lo.dst=o.dst
 op:∃ q k n,lo.op=orBad n (cOp P q k o.type o.op)
 guard:match o.guard with
  | none=>lo.guard=none
  | some (j,b)=>∃ t,(ops[j]?).bind (·.dst)=some t∧lo.guard=some (t,b)
theorem jg {p:Nat} (hd:cQ h p=true):h[p]? = some .dead:=by
 unfold cQ at hd
 split at hd
 ·rename_i hx; exact hx
 ·cases hd
theorem cn {pos:Option Nat} {ts:List LV} {op:LOp} (hn:∀ q g l,op≠.call q g l):step prog r pos ts h op=ab pos ts h op:=by
 cases op<;>first | rfl | (exact absurd rfl (hn _ _ _))
theorem Q8 (hP:ProgOk P H prog) (hr:dd P H r) {lo:LOper} {o:Oper} {base:Nat} {s s' : St} {K:Act→World→Prop} {Q:Exit→Act→World→Prop} (hrel:OperRel P ops lo o) (hs:bu prog r base lo s=some s')
  (hT:TRel DS F J s.tmps a) (hH:HRel F J s.heap w) (hK:∀ F' J' a' w',(∃ u,a'=a.put o.dst u)→TRel DS F' J' s'.tmps a'→HRel F' J' s'.heap w'→Ext F J w F' J' w'→K a' w'):o.wp P a w K Q:=by
 obtain⟨q0,k0,n0,hop⟩:=hrel.op
 unfold bu at hs
 split at hs
 ·rename_i hcond
  simp only[Bool.and_eq_true] at hcond
  split at hs
  ·rename_i v h1 hstep
   simp only[Option.some.injEq] at hs
   subst hs
   have hp:dW (lo.slot.map (base+·)) s.heap:=by
    intro p hp
    obtain⟨k,hk,rfl⟩:=Option.map_eq_some_iff.1 hp
    have:=hcond.2
    rw[hk] at this
    exact jg this
   cases hc:cOp P q0 k0 o.type o.op with
   | none =>
    rw[hc] at hop
    simp only[orBad,Option.getD_none] at hop
    rw[hop] at hstep
    simp[step,ab] at hstep
   | some lop =>
    rw[hc] at hop
    simp only[orBad,Option.getD_some] at hop
    by_cases hcall:∃ q g l,lop=.call q g l
    ·obtain⟨q,g,l,rfl⟩:=hcall
     obtain⟨f,args,ats,ho,hg,hl⟩:=wT hc
     rw[hop] at hstep
     simp only[step] at hstep
     split at hstep
     ·rename_i f0 l1 l2 hf0
      obtain⟨u1,u2,hu,r1,r2⟩:=rg (an hT hg) hf0
      have r3:AllV F J (l.map (LM.ev s.tmps)) (args.toList.map a.eval):=iT hT hl
      obtain⟨hent,hcalls⟩:=Ok hP hr ((r1.append r3).append r2) hH hstep
      have hexec:(execOp a.eval o).run P w=.ok (.enter f0 (u1++args.toList.map a.eval++u2).toArray) w:=by
       have hv:(Deferred.ofValue (a.eval f) (args.map a.eval))=pure { target:=.fn (.func f0) u2.toArray,args:=u1.toArray++args.map a.eval }:=by
        rw[hu]; rfl
       have he:(u1++args.toList.map a.eval++u2).toArray=u1.toArray++args.map a.eval++u2.toArray:=by
        apply Array.ext'
        simp
       simp only[execOp,ho,resolve,hv,Sem.run_bind,Sem.run_pure,Result.andThen_ok,invoke]
       rw[he]
       exact ny hent _
      unfold Oper.wp
      rw[hexec,Oper.upon_enter]
      refine Calls.mono hcalls ?_
      rintro e w' ⟨u,F',J',rfl,hv,hH',hE'⟩
      exact hK F' J' _ w' ⟨_,rfl⟩ (by rw[hrel.dst]; exact (hT.mono hE'.fle hE'.jle).put o.dst hv) hH' hE'
     ·cases hstep
    ·have hn:∀ q g l,lop≠.call q g l:=fun q g l e=>hcall ⟨q,g,l,e⟩
     rw[hop,cn hn] at hstep
     obtain⟨u,w',F',J',hruns,hv,hH',hE'⟩:=RW hc hT hH hp hstep
     have hk:=hK F' J' (a.put o.dst u) w' ⟨_,rfl⟩ (by rw[hrel.dst]; exact (hT.mono hE'.fle hE'.jle).put o.dst hv) hH' hE'
     unfold Oper.wp
     rcases hruns with e | ⟨e,rfl⟩
     ·rw[e]; exact hk
     ·rw[e]; exact hk
  ·cases hs
 ·cases hs
theorem Kn:VRel F J (.c (.tuple [])) undef:=.c _ _ (.tuple [] #[] (fun _=>undef) rfl (by simp) (by simp))
end
end LM
namespace LM
open Go Go.RowKit
section
variable {prog:Nat→Option LFunc} {r:Run} {ts ts' : List LV} {h:Heap} {pos:Option Nat}
def Agree (l:List Nat) (ts ts' : List LV):Prop:=∀ t ∈ l,ts.getD t .undef=ts'.getD t .undef
theorem Agree.left {l l' : List Nat} (h:Agree (l++l') ts ts'):Agree l ts ts':=fun t ht=>h t (List.mem_append_left _ ht)
theorem Agree.right {l l' : List Nat} (h:Agree (l++l') ts ts'):Agree l' ts ts':=fun t ht=>h t (List.mem_append_right _ ht)
theorem ao {x:LO} (h:Agree (b6 x) ts ts'):ev ts x=ev ts' x:=by
 cases x with
 | t i=>exact h i (by simp[b6])
 | k v=>rfl
theorem fi {x:Option LO} (h:Agree (lE x) ts ts'):x.map (ev ts)=x.map (ev ts'):=by
 cases x with
 | none=>rfl
 | some y=>simp only[Option.map_some]; rw[ao (x:=y) h]
theorem kp:∀ {l:List LO},Agree (l.flatMap b6) ts ts'→l.map (ev ts)=l.map (ev ts')
 | [],_=>rfl
 | x::l,h=>by
  rw[List.flatMap_cons] at h
  simp only[List.map_cons]
  rw[ao h.left,kp h.right]
theorem ku {sz:Nat}:∀ {l:List (Nat × LO)} {cs:List LV},Agree (l.flatMap fun p=>b6 p.2) ts ts'→bz ts sz l cs=bz ts' sz l cs
 | [],_,_=>rfl
 | (i,x)::l,cs,h=>by
  rw[List.flatMap_cons] at h
  simp only[bz]
  rw[ao (x:=x) h.left]
  split
  ·exact ku h.right
  ·rfl
theorem ke:∀ {l:List (Nat × Nat × LO)} {cs:List LV},Agree (l.flatMap fun p=>b6 p.2.2) ts ts'→bF ts l cs=bF ts' l cs
 | [],_,_=>rfl
 | (i,n,x)::l,cs,h=>by
  rw[List.flatMap_cons] at h
  simp only[bF]
  rw[ao (x:=x) h.left]
  split
  ·exact ke h.right
  ·rfl
theorem i0 {f:Int→Int→Int}:∀ {l:List LO} {v:LV},Agree (l.flatMap b6) ts ts'→bt f ts v l=bt f ts' v l
 | [],_,_=>rfl
 | x::l,v,h=>by
  rw[List.flatMap_cons] at h
  cases v with
  | c cv =>
   cases cv with
   | int k a =>
    simp only[bt]
    rw[ao (x:=x) h.left]
    split
    ·exact i0 h.right
    ·rfl
   | _=>rfl
  | _=>rfl
theorem AT {op:LOp} (h0:Agree (ix op) ts ts'):ab pos ts h op=ab pos ts' h op:=by
 cases op<;>simp only[ix] at h0
 case move x=>simp only[ab,ao h0]
 case pick c x y=>simp only[ab,ao h0.left.left,ao h0.left.right,ao h0.right]
 case bin op x y=>simp only[ab,ao h0.left,ao h0.right]
 case binBool op x y=>simp only[ab,ao h0.left,ao h0.right]
 case convStr x=>simp only[ab,ao h0]
 case eqAgg kk neg x y=>simp only[ab,ao h0.left,ao h0.right]
 case mkNil z=>rfl
 case eqNil neg x=>simp only[ab,ao h0]
 case nilCheck x=>simp only[ab,ao h0]
 case not x=>simp only[ab,ao h0]
 case neg x=>simp only[ab,ao h0]
 case conv k x=>simp only[ab,ao h0]
 case mkFunc f l1 l2=>simp only[ab,kp h0.left,kp h0.right]
 case extract x i=>simp only[ab,ao h0]
 case field off n x=>simp only[ab,ao h0]
 case indexArr len z x i=>simp only[ab,ao h0.left,ao h0.right]
 case indexStr x i=>simp only[ab,ao h0.left,ao h0.right]
 case idxSlice sz x i=>simp only[ab,ao h0.left,ao h0.right]
 case idxArr len sz x i=>simp only[ab,ao h0.left,ao h0.right]
 case fieldAddr off x=>simp only[ab,ao h0]
 case load n x=>simp only[ab,ao h0]
 case store n x y=>simp only[ab,ao h0.left,ao h0.right]
 case copy sz x y=>simp only[ab,ao h0.left,ao h0.right]
 case new z g=>rfl
 case box x=>simp only[ab,ao h0]
 case build z ps=>simp only[ab,ke h0]
 case buildSlice k z len zs ps=>simp only[ab,ku h0]
 case makeSlice z b zs l c=>simp only[ab,ao h0.left,ao h0.right]
 case makeMap=>rfl
 case sliceStr x lo hi=>simp only[ab,ao h0.left.left,fi h0.left.right,fi h0.right]
 case sliceSl sz x lo hi mx=>simp only[ab,ao h0.left.left.left,fi h0.left.left.right,fi h0.left.right,fi h0.right]
 case sliceArr n z x lo hi mx=>simp only[ab,ao h0.left.left.left,fi h0.left.right,fi h0.left.left.right]
 case lookup kn z isOk x k=>simp only[ab,ao h0.left,ao h0.right]
 case mapUpdate kn m k x=>simp only[ab,ao h0.left.left,ao h0.left.right,ao h0.right]
 case range x=>simp only[ab,ao h0]
 case next x=>simp only[ab,ao h0]
 case len k x=>simp only[ab,ao h0]
 case append z b s x=>simp only[ab,ao h0.left,ao h0.right]
 case max x l=>simp only[ab,ao h0.left,i0 h0.right]
 case min x l=>simp only[ab,ao h0.left,i0 h0.right]
 case clear z x=>simp only[ab,ao h0]
 case call q f args=>rfl
 case bad n=>rfl
theorem Gk {op:LOp} (h0:Agree (ix op) ts ts'):step prog r pos ts h op=step prog r pos ts' h op:=by
 by_cases hc:∃ q g l,op=.call q g l
 ·obtain⟨q,g,l,rfl⟩:=hc
  simp only[ix] at h0
  simp only[step,ao h0.left,kp h0.right]
 ·have hn:∀ q g l,op≠.call q g l:=fun q g l e=>hc ⟨q,g,l,e⟩
  rw[cn hn,cn hn,AT h0]
theorem vz {op:LOp} {x:LO} (hm:cK op=some x) (h0:Agree (ix op) ts ts'):ev ts x=ev ts' x:=by
 cases op<;>simp only[cK,Option.some.injEq,reduceCtorEq] at hm<;>subst hm<;>simp only[ix] at h0
 all_goals first
  | exact ao h0
  | exact ao h0.left
  | exact ao h0.left.left
def gO (prog:Nat→Option LFunc) (r:Run) (base:Nat) (o:LOper) (ts:List LV) (h:Heap):Option (LV × Heap) :=
 let go:=if aX base o.wh ts o.op && de base o.slot h then step prog r (o.slot.map (base+·)) ts h o.op else none
 match o.guard with
 | none=>go
 | some (t,b)=>match ts.getD t .undef with
  | .c (.bool b')=>if b' == b then go else some (.c (.tuple []),h)
  | .c (.tuple [])=>some (.c (.tuple []),h)
  | _=>none
theorem kF {base:Nat} {o:LOper} {s:St}:aY prog r base o s=(gO prog r base o s.tmps s.heap).map fun p=>⟨put s.tmps o.dst p.1,p.2⟩:=by
 have hgo:bu prog r base o s=(if aX base o.wh s.tmps o.op && de base o.slot s.heap then step prog r (o.slot.map (base+·)) s.tmps s.heap o.op else none).map fun p=>⟨put s.tmps o.dst p.1,p.2⟩:=by
  unfold bu
  split
  ·cases step prog r (o.slot.map (base+·)) s.tmps s.heap o.op<;>rfl
  ·rfl
 unfold aY gO
 split
 ·rename_i hg
  simp only[hg]
  exact hgo
 ·rename_i t b hg
  simp only[hg]
  split
  ·rename_i b' hb'
   simp only[hb']
   by_cases hbb:(b' == b)=true
   ·simp only[hbb,if_true]
    exact hgo
   ·simp only[hbb]
    rfl
  ·rename_i hb'
   simp only[hb']
   rfl
  ·rename_i h1 h2
   split
   ·rename_i b' hb'
    exact absurd hb' (h1 b')
   ·rename_i hb'
    exact absurd hb' h2
   ·rfl
theorem oz {base:Nat} {o:LOper} (h0:Agree (ei o) ts ts'):gO prog r base o ts h=gO prog r base o ts' h:=by
 unfold ei at h0
 have hw:aX base o.wh ts o.op=aX base o.wh ts' o.op:=by
  unfold aX
  split
  ·rename_i x hx
   rw[vz hx h0.left]
  ·rfl
 unfold gO
 rw[hw,Gk h0.left]
 cases hg:o.guard with
 | none=>rfl
 | some gb =>
  obtain⟨t,b⟩:=gb
  rw[hg] at h0
  have:=h0.right t (by simp)
  simp only[this]
theorem vU {dst:Option Nat} {v:LV} {t:Nat} (hne:dst≠some t):(put ts dst v).getD t .undef=ts.getD t .undef:=by
 cases dst with
 | none=>rfl
 | some d =>
  have:d≠t:=fun e=>hne (by rw[e])
  simp only[put,List.getD_eq_getElem?_getD]
  rw[List.getElem?_set_ne this]
theorem Nl {d d' : Option Nat} {v v' : LV} (hne:∀ t,d=some t→d'≠some t):put (put ts d v) d' v'=put (put ts d' v') d v:=by
 cases d with
 | none=>rfl
 | some t =>
  cases d' with
  | none=>rfl
  | some t' =>
   have:t≠t':=fun e=>hne t rfl (by rw[e])
   simp only[put]
   rw[List.set_comm _ _ this]
end
end LM
namespace LM
open Go Go.RowKit
section
variable {H:Hints} {prog:Nat→Option LFunc} {r:Run} {ts:List LV} {h h' : Heap} {pos:Option Nat}
def ic:LOp→Bool
 | .move _ | .pick .. | .bin .. | .binBool .. | .convStr _ | .eqAgg .. | .eqNil .. | .nilCheck _ | .not _ | .neg _ | .conv .. | .mkFunc .. | .extract .. | .field .. | .indexArr .. | .indexStr ..
 | .idxSlice .. | .idxArr .. | .fieldAddr .. | .max .. | .min .. | .sliceStr .. | .sliceSl .. | .build ..=>true
 | .buildSlice 1 ..=>true
 | .len 0 _ | .len 1 _=>true
 | _=>false
theorem u5 {op:LOp} (hp:ic op=true):ab pos ts h op=(ab none ts [] op).map fun p=>(p.1,h):=by
 cases op<;>simp only[ic,Bool.false_eq_true] at hp
 case buildSlice k z len zs ps =>
  have:k=1:=by
   split at hp
   all_goals first | rfl | (simp_all; done)
  subst this
  simp only[ab]
  cases bz ts (ae z) ps (aP len zs) with
  | none=>rfl
  | some cs =>
   dsimp only
   by_cases hf:aT cs=true
   ·simp only[if_pos hf]
    cases eW cs with
    | none=>simp
    | some l=>cases hx:bV z len l<;>simp[hx,okC]
   ·simp only[if_neg hf]
    rfl
 case len k x =>
  have:k=0∨k=1:=by
   split at hp
   all_goals first | (exact .inl rfl) | (exact .inr rfl) | (simp_all; done)
  rcases this with rfl | rfl
  ·cases hx:ev ts x with
   | c cv=>cases cv<;>simp only[ab,hx]<;>rfl
   | _=>simp only[ab,hx]; rfl
  ·cases hx:ev ts x with
   | c cv=>cases cv<;>simp only[ab,hx]<;>rfl
   | _=>simp only[ab,hx]; rfl
 all_goals
  simp only[ab]
  repeat' (first | rfl | split)
end
end LM
namespace LM
open Go Go.RowKit
section
variable {H:Hints} {prog:Nat→Option LFunc} {r:Run} {ts:List LV} {h h' : Heap} {pos:Option Nat}
abbrev HF:=Heap→Option (LV × Heap)
def FzEqB:LB→LB→Prop
 | .cells g cs _,.cells g' cs' _=>g=g'∧cs=cs'
 | .map ks vs _,.map ks' vs' _=>ks=ks'∧vs=vs'
 | a,b=>a=b
theorem FzEqB.refl (a:LB):FzEqB a a:=by cases a<;>simp[FzEqB]
theorem FzEqB.symm {a b:LB} (h:FzEqB a b):FzEqB b a:=by
 cases a<;>cases b<;>simp only[FzEqB] at h ⊢<;>first | exact⟨h.1.symm,h.2.symm⟩ | exact h.symm | (simp at h; done) | skip
theorem FzEqB.trans {a b c:LB} (h:FzEqB a b) (k:FzEqB b c):FzEqB a c:=by
 cases a<;>cases b<;>simp only[FzEqB] at h<;>first | (simp at h; done) | skip
 ·cases c<;>simp only[FzEqB] at k ⊢<;>first | exact⟨h.1.trans k.1,h.2.trans k.2⟩ | (simp at k; done)
 ·cases c<;>simp only[FzEqB] at k ⊢<;>first | exact⟨h.1.trans k.1,h.2.trans k.2⟩ | (simp at k; done)
 ·rw[h]; exact k
 ·exact k
def FzAgree (base:Nat) (h h2:Heap):Prop:=h2.length=h.length∧∀ (b:Nat) (x:LB),b<base→h[b]? = some x→∃ y,h2[b]? = some y∧FzEqB x y
theorem FzAgree.refl (base:Nat) (h:Heap):FzAgree base h h:=⟨rfl,fun b x _ hx=>⟨x,hx,.refl x⟩⟩
theorem FzAgree.trans {base:Nat} {a b c:Heap} (h:FzAgree base a b) (k:FzAgree base b c):FzAgree base a c :=
 ⟨k.1.trans h.1,fun i x hi hx=>let ⟨y,hy,e⟩:=h.2 i x hi hx; let ⟨z,hz,e'⟩:=k.2 i y hi hy; ⟨z,hz,e.trans e'⟩⟩
theorem FzAgree.symm {base:Nat} {a b:Heap} (h:FzAgree base a b):FzAgree base b a:=by
 refine⟨h.1.symm,fun i y hi hy=>?_⟩
 have hl:i<a.length:=by rw[← h.1]; exact (List.getElem?_eq_some_iff.1 hy).1
 obtain⟨y',hy',e⟩:=h.2 i a[i] hi (List.getElem?_eq_getElem hl)
 rw[hy] at hy'
 simp only[Option.some.injEq] at hy'
 subst hy'
 exact⟨a[i],List.getElem?_eq_getElem hl,e.symm⟩
theorem FzAgree.set {base b:Nat} {x y:LB} (hx:h[b]? = some x) (e:FzEqB x y):FzAgree base h (h.set b y):=by
 refine⟨by simp,fun c z _ hz=>?_⟩
 by_cases ec:b=c
 ·subst ec
  rw[hx] at hz
  simp only[Option.some.injEq] at hz
  subst hz
  exact⟨y,List.getElem?_set_self (List.getElem?_eq_some_iff.1 hx).1,e⟩
 ·exact⟨z,by rw[List.getElem?_set_ne ec]; exact hz,.refl z⟩
theorem bump_agree {base b top:Nat}:FzAgree base h (bump b top h):=by
 unfold bump
 split
 ·rename_i g cs fz hb
  exact .set hb ⟨rfl,rfl⟩
 ·exact .refl base h
theorem qp (base:Nat) (n:Nat) (ih:∀ {v:LV} {h h' : Heap} {c:CV},frz n v h=some (c,h')→FzAgree base h h'):∀ {l:List LV} {h h' : Heap} {cs:List CV},sU n l h=some (cs,h')→FzAgree base h h':=by
 intro l h h' cs hs
 induction l generalizing h cs with
 | nil=>simp only[aV,Option.some.injEq,Prod.mk.injEq] at hs; obtain⟨_,rfl⟩:=hs; exact .refl base _
 | cons v r ihL =>
  simp only[aV] at hs
  split at hs
  ·rename_i hx
   split at hs
   ·rename_i hl
    simp only[Option.some.injEq,Prod.mk.injEq] at hs
    obtain⟨_,rfl⟩:=hs
    exact (ih hx).trans (ihL hl)
   ·cases hs
  ·cases hs
theorem qM (base:Nat) (n:Nat):∀ {v:LV} {h h' : Heap} {c:CV},frz n v h=some (c,h')→FzAgree base h h':=by
 induction n with
 | zero=>intro v h h' c hs; simp[frz] at hs
 | succ n ih =>
  have ihL:=@qp base n @ih
  ·intro v h h' c hs
   cases v with
   | c x=>simp only[frz,Option.some.injEq,Prod.mk.injEq] at hs; obtain⟨_,rfl⟩:=hs; exact .refl base _
   | nil=>simp only[frz,Option.some.injEq,Prod.mk.injEq] at hs; obtain⟨_,rfl⟩:=hs; exact .refl base _
   | emp=>simp only[frz,Option.some.injEq,Prod.mk.injEq] at hs; obtain⟨_,rfl⟩:=hs; exact .refl base _
   | undef=>simp[frz] at hs
   | ptr b g off =>
    simp only[frz] at hs
    repeat' split at hs
    all_goals first | (cases hs; done) | skip
    rename_i hl
    simp only[Option.some.injEq,Prod.mk.injEq] at hs
    obtain⟨_,rfl⟩:=hs
    exact bump_agree.trans (ihL hl)
   | slice b g off len esz cap =>
    simp only[frz] at hs
    repeat' split at hs
    all_goals first | (cases hs; done) | skip
    rename_i hl _ _ _
    simp only[Option.some.injEq,Prod.mk.injEq] at hs
    obtain⟨_,rfl⟩:=hs
    exact bump_agree.trans (ihL hl)
   | map b =>
    simp only[frz] at hs
    split at hs
    ·rename_i ks vs fz hb
     split at hs
     ·rename_i hl
      simp only[Option.some.injEq,Prod.mk.injEq] at hs
      obtain⟨_,rfl⟩:=hs
      exact (FzAgree.set (y:=.map ks vs true) hb ⟨rfl,rfl⟩).trans (ihL hl)
     ·cases hs
    ·cases hs
   | func f a b =>
    simp only[frz] at hs
    split at hs
    ·rename_i ha
     split at hs
     ·rename_i hb
      simp only[Option.some.injEq,Prod.mk.injEq] at hs
      obtain⟨_,rfl⟩:=hs
      exact (ihL ha).trans (ihL hb)
     ·cases hs
    ·cases hs
   | agg cs =>
    simp only[frz] at hs
    split at hs
    ·rename_i hl
     simp only[Option.some.injEq,Prod.mk.injEq] at hs
     obtain⟨_,rfl⟩:=hs
     exact ihL hl
    ·cases hs
   | tuple cs =>
    simp only[frz] at hs
    split at hs
    ·rename_i hl
     simp only[Option.some.injEq,Prod.mk.injEq] at hs
     obtain⟨_,rfl⟩:=hs
     exact ihL hl
    ·cases hs
theorem Lt (base:Nat) (n:Nat):(∀ {v:LV} {h h' : Heap} {c:CV},frz n v h=some (c,h')→FzAgree base h h')∧(∀ {l:List LV} {h h' : Heap} {cs:List CV},sU n l h=some (cs,h')→FzAgree base h h'):=⟨qM base n,qp base n (qM base n)⟩
def cls (h:Heap) (b:Nat):Nat :=
 match h[b]? with
 | some (.cells g _ _)=>if g=0 then 0 else 1
 | some (.map ..)=>2
 | _=>3
def RIn (e:Eff) (base:Nat) (h:Heap) (b:Nat):Prop :=
 (b<base∧((cls h b=0∧e.rv=true)∨(cls h b=1∧e.rr=true)∨(cls h b=2∧e.rm=true)))∨(base≤b∧e.nw=true)
def WIn (e:Eff) (base slot n:Nat) (h:Heap) (b:Nat):Prop :=
 (b<base∧((cls h b=0∧e.wv=true)∨(cls h b=1∧e.wr=true)∨(cls h b=2∧e.wm=true)))∨(base≤b∧(e.nw=true∨(e.al=true∧base+slot≤b∧b<base+slot+n)))
def PureF (f:HF):Prop:=∀ h v h',f h=some (v,h')→h'=h∧∀ h2,f h2=some (v,h2)
def ReadF (base:Nat) (f:HF):Prop:=∀ h v h',f h=some (v,h')→h'=h∧∀ h2,FzAgree base h h2→f h2=some (v,h2)
def FrF (base:Nat) (f:HF):Prop:=∀ h v h',f h=some (v,h')→FzAgree base h h'
def LocF (e:Eff) (base slot n:Nat) (f:HF):Prop:=∀ h v h',f h=some (v,h')→∃ R W:Nat→Prop,h'.length=h.length∧(∀ b,b<base→cls h' b=cls h b)∧(∀ b:Nat,¬ W b→h'[b]? = h[b]?) ∧
 (∀ h2:Heap,h2.length=h.length→(∀ b:Nat,R b∨W b→h2[b]? = h[b]?)→∃ h2' : Heap,f h2=some (v,h2')∧h2'.length=h2.length∧∀ b:Nat,(W b→h2'[b]? = h'[b]?)∧(¬ W b→h2'[b]? = h2[b]?)) ∧
 (∀ b,R b→RIn e base h b)∧(∀ b,W b→WIn e base slot n h b)
theorem PureF.read {base:Nat} {f:HF} (hp:PureF f):ReadF base f:=fun h v h' hs=>⟨(hp h v h' hs).1,fun h2 _=>(hp h v h' hs).2 h2⟩
theorem PureF.loc {e:Eff} {base slot n:Nat} {f:HF} (hp:PureF f):LocF e base slot n f:=by
 intro h v h' hs
 obtain⟨rfl,h2⟩:=hp h v h' hs
 exact⟨fun _=>False,fun _=>False,rfl,fun _ _=>rfl,fun _ _=>rfl,fun h3 _ _=>⟨h3,h2 h3,rfl,fun b=>⟨False.elim,fun _=>rfl⟩⟩,fun _=>False.elim,fun _=>False.elim⟩
theorem LocF.read1 {e:Eff} {base slot n b:Nat} {f:HF} (hf:∀ h v h',f h=some (v,h')→h'=h∧(∀ h2:Heap,h2[b]? = h[b]?→f h2=some (v,h2))∧RIn e base h b):LocF e base slot n f:=by
 intro h v h' hs
 obtain⟨rfl,h2,hR⟩:=hf h v h' hs
 exact⟨fun c=>c=b,fun _=>False,rfl,fun _ _=>rfl,fun _ _=>rfl,fun h3 _ hag=>⟨h3,h2 h3 (hag b (.inl rfl)),rfl,fun c=>⟨False.elim,fun _=>rfl⟩⟩,fun c hc=>hc ▸ hR,fun _=>False.elim⟩
theorem LocF.write1 {e:Eff} {base slot n b:Nat} {f:HF} (hf:∀ h v h',f h=some (v,h')→∃ blk,h'=h.set b blk∧b<h.length∧(b<base→cls h' b=cls h b)∧(∀ h2:Heap,h2.length=h.length→h2[b]? = h[b]?→f h2=some (v,h2.set b blk))∧WIn e base slot n h b) :
  LocF e base slot n f:=by
 intro h v h' hs
 obtain⟨blk,rfl,hl,hcls,h2,hW⟩:=hf h v h' hs
 refine⟨fun _=>False,fun c=>c=b,by simp,fun c hc=>?_,fun c hc=>List.getElem?_set_ne (fun e=>hc e.symm),fun h3 hl3 hag=>?_,fun _=>False.elim,fun c hc=>hc ▸ hW⟩
 ·by_cases e:c=b
  ·subst e; exact hcls hc
  ·unfold cls
   rw[List.getElem?_set_ne (fun e'=>e e'.symm)]
 ·refine⟨h3.set b blk,h2 h3 hl3 (hag b (.inr rfl)),by simp,fun c=>⟨fun e=>?_,fun e=>List.getElem?_set_ne (fun e'=>e e'.symm)⟩⟩
  subst e
  rw[List.getElem?_set_self (by omega),List.getElem?_set_self hl]
end
end LM
namespace LM
open Go Go.RowKit
section
variable {P:Program} {H:Hints} {prog:Nat→Option LFunc} {r:Run} {ts:List LV} {h h' : Heap} {pos:Option Nat} {base:Nat}
def goF (prog:Nat→Option LFunc) (r:Run) (base:Nat) (o:LOper) (ts:List LV):HF:=fun h =>
 if aX base o.wh ts o.op && de base o.slot h then step prog r (o.slot.map (base+·)) ts h o.op else none
theorem rT {o:LOper} {v:LV} (hs:goF prog r base o ts h=some (v,h')):aX base o.wh ts o.op=true∧de base o.slot h=true∧step prog r (o.slot.map (base+·)) ts h o.op=some (v,h'):=by
 unfold goF at hs
 split at hs
 ·rename_i hc
  simp only[Bool.and_eq_true] at hc
  exact⟨hc.1,hc.2,hs⟩
 ·cases hs
theorem A1 {o:LOper} {v:LV} (h1:aX base o.wh ts o.op=true) (h2:de base o.slot h=true) (h3:step prog r (o.slot.map (base+·)) ts h o.op=some (v,h')):goF prog r base o ts h=some (v,h'):=by
 unfold goF
 rw[h1,h2]
 exact h3
theorem PureF.of {o:LOper} (hsl:o.slot=none) (hf:∀ h v h',step prog r none ts h o.op=some (v,h')→h'=h∧∀ h2,step prog r none ts h2 o.op=some (v,h2)):PureF (goF prog r base o ts):=by
 intro h v h' hs
 obtain⟨h1,h2,h3⟩:=rT hs
 rw[hsl] at h3
 obtain⟨rfl,h4⟩:=hf h v h' h3
 exact⟨rfl,fun h5=>A1 h1 (by rw[hsl]; rfl) (by rw[hsl]; exact h4 h5)⟩
theorem cj (args:List LV) (h:Heap):aD true args h=(toCL args).map fun cs=>(cs,h):=by
 unfold aD
 cases toCL args<;>rfl
theorem j4 {f:Nat} {args:List LV} {v:LV} (hs:bD prog r none true f args h=some (v,h')):h'=h∧∀ h2,bD prog r none true f args h2=some (v,h2):=by
 unfold bD at hs ⊢
 rw[cj] at hs
 cases hp:prog f with
 | none=>rw[hp] at hs; cases hs
 | some lf =>
  rw[hp] at hs
  cases hc:toCL args with
  | none=>rw[hc] at hs; cases lf with
   | prim g=>cases hs
   | fprim k g=>simp at hs
   | code m nt rs body=>cases m<;>simp at hs
  | some cs =>
   rw[hc] at hs
   cases lf with
   | prim g =>
    simp only[Option.map_some] at hs
    split at hs
    ·cases hs
    ·rename_i cv hcv
     simp only[ite_self,Option.some.injEq,Prod.mk.injEq] at hs
     obtain⟨rfl,rfl⟩:=hs
     refine⟨rfl,fun h2=>?_⟩
     rw[cj,hc]
     simp only[Option.map_some,hcv,ite_self]
   | fprim k g=>simp at hs
   | code m nt rs body =>
    cases m with
    | pure =>
     simp only[Option.map_some] at hs
     split at hs
     ·cases hs
     ·rename_i cv hcv
      simp only[ite_self,Option.some.injEq,Prod.mk.injEq] at hs
      obtain⟨rfl,rfl⟩:=hs
      refine⟨rfl,fun h2=>?_⟩
      rw[cj,hc]
      simp only[Option.map_some,hcv,ite_self]
    | fresh k=>simp at hs
    | shared=>simp at hs
    | live=>simp at hs
theorem qG {f p:Nat} {args:List LV} {v:LV} {q:Bool} (hnf:∀ lf,prog f=some lf→(match lf with | .prim _=>true | .code .pure ..=>true | _=>false)=true) (hs:bD prog r (some p) q f args h=some (v,h')):bD prog r none q f args h=some (v,h'):=by
 unfold bD at hs ⊢
 cases hp:prog f with
 | none=>rw[hp] at hs; cases hs
 | some lf =>
  have:=hnf lf hp
  rw[hp] at hs
  cases lf with
  | prim g=>exact hs
  | fprim k g=>simp at this
  | code m nt rs body =>
   cases m with
   | pure=>exact hs
   | fresh k=>simp at this
   | shared=>simp at this
   | live=>simp at this
structure HintOk (H:Hints) (prog:Nat→Option LFunc):Prop where
 shared:∀ f nt rs b,prog f=some (.code .shared nt rs b)→H.shared.contains f=true
 live:∀ f nt rs b,prog f=some (.code .live nt rs b)→H.shared.contains f=true
 fresh:∀ f k nt rs b,prog f=some (.code (.fresh k) nt rs b)→freshOf H f=some k
 fprim:∀ f k g,prog f=some (.fprim k g)→freshOf H f=some k
theorem ProgOk.hints (hP:ProgOk P H prog):HintOk H prog:=by
 have mode:∀ f m nt rs b,prog f=some (.code m nt rs b)→m=lP H f∧lookupPrim f H.fprims=none:=by
  intro f m nt rs b hp
  have:=hP.prog f _ hp
  unfold cFunc at this
  split at this
  ·cases this
  ·split at this
   ·cases this
   ·rename_i hfp
    split at this
    ·split at this
     ·split at this
      ·cases this
      ·simp only[Option.some.injEq,LFunc.code.injEq] at this
       exact⟨this.1.symm,hfp⟩
     ·cases this
    ·cases this
 refine⟨fun f nt rs b hp=>?_,fun f nt rs b hp=>?_,fun f k nt rs b hp=>?_,fun f k g hp=>?_⟩
 ·obtain⟨hm,_⟩:=mode f _ nt rs b hp
  unfold lP at hm
  split at hm
  ·rename_i h; exact h
  ·split at hm<;>cases hm
 ·obtain⟨hm,_⟩:=mode f _ nt rs b hp
  unfold lP at hm
  split at hm
  ·rename_i h; exact h
  ·split at hm<;>cases hm
 ·obtain⟨hm,hfp⟩:=mode f _ nt rs b hp
  unfold lP at hm
  unfold freshOf
  rw[hfp]
  split at hm
  ·split at hm<;>cases hm
  ·split at hm
   ·rename_i k' hk
    injection hm with e
    subst e
    exact hk
   ·cases hm
 ·have:=hP.prog f _ hp
  rcases cu this with ⟨g',e,_⟩ | ⟨k',g',e,hl⟩ | ⟨fn,c,rs,e,_⟩
  ·cases e
  ·injection e with e1 e2
   subst e1 e2
   unfold freshOf
   rw[hl]
  ·cases e
theorem BP {l:List LB} {p b:Nat} (hb:b<p) (hl:p+l.length≤h.length):cls (bj h p l) b=cls h b:=by
 unfold cls
 rw[dz l h p b hl,if_neg (by omega)]
theorem Kp (hH:HintOk H prog) {e:Eff} {o:LOper} {f slot k:Nat} {a b:List CV} {args:List LO} (hop:o.op=.call true (.k (.c (.func f a b))) args) (hsl:o.slot=some slot) (hk:freshOf H f=some k) (hk0:k≠0) (hal:e.al=true)
  (hsh:H.shared.contains f=false):LocF e base slot k (goF prog r base o ts):=by
 intro h v h' hs
 obtain⟨h1,h2,h3⟩:=rT hs
 have hstep:∀ h,step prog r (some (base+slot)) ts h o.op=bD prog r (some (base+slot)) true f (a.map .c++args.map (LM.ev ts)++b.map .c) h:=fun h=>by rw[hop]; rfl
 rw[hsl] at h3
 simp only[Option.map_some] at h3
 rw[hstep] at h3
 have hdead:cQ h (base+slot)=true:=by rw[hsl] at h2; exact h2
 -- handing over
 have imp:∀ (v0:LV) (bs:List LB) (k' : Nat),k'=k→(∀ h2,bD prog r (some (base+slot)) true f (a.map .c++args.map (LM.ev ts)++b.map .c) h2=bW (some (base+slot)) k' v0 bs h2)→∃ R W:Nat→Prop,h'.length=h.length∧(∀ b,b<base→cls h' b=cls h b)∧(∀ b:Nat,¬ W b→h'[b]? = h[b]?) ∧
   (∀ h2:Heap,h2.length=h.length→(∀ b:Nat,R b∨W b→h2[b]? = h[b]?)→∃ h2' : Heap,goF prog r base o ts h2=some (v,h2')∧h2'.length=h2.length∧∀ b:Nat,(W b→h2'[b]? = h'[b]?)∧(¬ W b→h2'[b]? = h2[b]?)) ∧
   (∀ b,R b→RIn e base h b)∧(∀ b,W b→WIn e base slot k h b):=by
  intro v0 bs k' hkk hcall
  subst hkk
  rw[hcall] at h3
  unfold bW at h3
  split at h3
  ·rename_i hle
   simp only at h3
   split at h3
   ·rename_i hd
    simp only[Option.some.injEq,Prod.mk.injEq] at h3
    obtain⟨rfl,rfl⟩:=h3
    have hfit:base+slot+(bC (base+slot) bs).length≤h.length:=by
     rw[bS]
     by_cases h0:bs.length=0
     ·have:=(List.getElem?_eq_some_iff.1 (jg hdead)).1; omega
     ·have:=iF _ _ hd (bs.length-1) (by omega)
      have:=(List.getElem?_eq_some_iff.1 this).1
      omega
    refine⟨fun _=>False,fun c=>base+slot≤c∧c<base+slot+k',dZ _ _ _,fun c hc=>BP (by omega) hfit,fun c hc=>?_,fun h2 hl2 hag=>?_,fun _=>False.elim,fun c hc=>.inr ⟨by omega,.inr ⟨hal,hc.1,hc.2⟩⟩⟩
    ·rw[dz _ _ _ _ hfit,if_neg]
     rw[bS]
     intro hx
     exact hc ⟨hx.1,by omega⟩
    ·have hd2:bI h2 (base+slot) bs.length=true:=by
      have:∀ (n p:Nat),bI h p n=true→(∀ c,p≤c→c<p+n→h2[c]? = h[c]?)→bI h2 p n=true:=by
       intro n
       induction n with
       | zero=>intro p _ _; rfl
       | succ n ih =>
        intro p hp hc
        simp only[bI,Bool.and_eq_true] at hp ⊢
        refine⟨?_,ih (p+1) hp.2 fun c h1 h2=>hc c (by omega) (by omega)⟩
        have:=hp.1
        unfold cQ at this ⊢
        rw[hc p (Nat.le_refl _) (by omega)]
        exact this
      exact this _ _ hd fun c c1 c2=>hag c (.inr ⟨c1,by omega⟩)
     refine⟨bj h2 (base+slot) (bC (base+slot) bs),A1 h1 ?_ ?_,dZ _ _ _,fun c=>⟨fun hc=>?_,fun hc=>?_⟩⟩
     ·rw[hsl]
      show cQ h2 (base+slot)=true
      unfold cQ at hdead ⊢
      rw[hag (base+slot) (.inr ⟨Nat.le_refl _,by omega⟩)]
      exact hdead
     ·rw[hsl]
      simp only[Option.map_some]
      rw[hstep,hcall]
      unfold bW
      rw[if_pos hle]
      simp only[hd2,if_true]
     ·rw[dz _ _ _ _ hfit,dz _ _ _ _ (by rw[hl2]; exact hfit)]
      split
      ·rfl
      ·exact hag c (.inr hc)
     ·rw[dz _ _ _ _ (by rw[hl2]; exact hfit),if_neg]
      rw[bS]
      intro hx
      exact hc ⟨hx.1,by omega⟩
   ·cases h3
  ·cases h3
 have pureCase:(∀ lf,prog f=some lf→(match lf with | .prim _=>true | .code .pure ..=>true | _=>false)=true)→∃ R W:Nat→Prop,h'.length=h.length∧(∀ b,b<base→cls h' b=cls h b)∧(∀ b:Nat,¬ W b→h'[b]? = h[b]?) ∧
   (∀ h2:Heap,h2.length=h.length→(∀ b:Nat,R b∨W b→h2[b]? = h[b]?)→∃ h2' : Heap,goF prog r base o ts h2=some (v,h2')∧h2'.length=h2.length∧∀ b:Nat,(W b→h2'[b]? = h'[b]?)∧(¬ W b→h2'[b]? = h2[b]?)) ∧
   (∀ b,R b→RIn e base h b)∧(∀ b,W b→WIn e base slot k h b):=by
  intro hnf
  obtain⟨rfl,hall⟩:=j4 (qG hnf h3)
  refine⟨fun _=>False,fun c=>c=base+slot,rfl,fun _ _=>rfl,fun _ _=>rfl,fun h2 hl2 hag=>⟨h2,A1 h1 ?_ ?_,rfl,fun c=>⟨fun hc=>hag c (.inr hc),fun _=>rfl⟩⟩,fun _=>False.elim,fun c hc=>.inr ⟨by omega,.inr ⟨hal,by omega,by omega⟩⟩⟩
  ·rw[hsl]
   show cQ h2 (base+slot)=true
   unfold cQ at hdead ⊢
   rw[hag (base+slot) (.inr rfl)]
   exact hdead
  ·rw[hsl]
   simp only[Option.map_some]
   rw[hstep]
   have:=hall h2
   unfold bD at this ⊢
   cases hp:prog f with
   | none=>rw[hp] at this; cases this
   | some lf =>
    have hq:=hnf lf hp
    rw[hp] at this
    cases lf with
    | prim g=>exact this
    | fprim k g=>simp at hq
    | code m nt rs body=>cases m<;>first | exact this | (simp at hq; done)
 cases hp:prog f with
 | none=>unfold bD at h3; rw[hp] at h3; cases h3
 | some lf =>
  cases lf with
  | prim g=>exact pureCase fun lf hlf=>by rw[hp] at hlf; simp only[Option.some.injEq] at hlf; subst hlf; rfl
  | fprim k' g =>
   have hkk:=hH.fprim f k' g hp
   rw[hk] at hkk
   simp only[Option.some.injEq] at hkk
   cases hcl:toCL (a.map .c++args.map (LM.ev ts)++b.map .c) with
   | none=>unfold bD at h3; rw[hp] at h3; simp only[cj,hcl] at h3; simp at h3
   | some cs =>
    cases hg:g cs with
    | none=>unfold bD at h3; rw[hp] at h3; simp only[cj,hcl,Option.map_some,hg] at h3; simp at h3
    | some vb=>exact imp vb.1 vb.2 k' hkk.symm fun h2=>by unfold bD; rw[hp]; simp only[cj,hcl,Option.map_some,hg]; simp
  | code m nt rs body =>
   cases m with
   | pure=>exact pureCase fun lf hlf=>by rw[hp] at hlf; simp only[Option.some.injEq] at hlf; subst hlf; rfl
   | fresh k' =>
    have hkk:=hH.fresh f k' nt rs body hp
    rw[hk] at hkk
    simp only[Option.some.injEq] at hkk
    cases hcl:toCL (a.map .c++args.map (LM.ev ts)++b.map .c) with
    | none=>unfold bD at h3; rw[hp] at h3; simp only[cj,hcl] at h3; simp at h3
    | some cs =>
     cases hg:c8 r nt rs body cs with
     | none=>unfold bD at h3; rw[hp] at h3; simp only[cj,hcl,Option.map_some,hg] at h3; simp at h3
     | some vb=>exact imp vb.1 vb.2 k' hkk.symm fun h2=>by unfold bD; rw[hp]; simp only[cj,hcl,Option.map_some,hg]; simp
   | shared=>have:=hH.shared f nt rs body hp; rw[hsh] at this; cases this
   | live=>have:=hH.live f nt rs body hp; rw[hsh] at this; cases this
theorem Q7 (hH:HintOk H prog) {o:LOper} {f:Nat} {a b:List CV} {args:List LO} (hop:o.op=.call false (.k (.c (.func f a b))) args) (hal:(freshOf H f).isSome=o.slot.isSome) (hsh:H.shared.contains f=false) :
  FrF base (goF prog r base o ts):=by
 intro h v h' hs
 obtain⟨h1,h2,h3⟩:=rT hs
 have hstep:step prog r (o.slot.map (base+·)) ts h o.op=bD prog r (o.slot.map (base+·)) false f (a.map .c++args.map (LM.ev ts)++b.map .c) h:=by rw[hop]; rfl
 rw[hstep] at h3
 have hfz:∀ {args:List LV} {cs:List CV} {h1:Heap},aD false args h=some (cs,h1)→FzAgree base h h1:=fun hf=>(Lt base ay).2 hf
 have himp:∀ {k:Nat} {v0:LV} {bs:List LB} {h1:Heap},(freshOf H f).isSome=true→FzAgree base h h1→bW (o.slot.map (base+·)) k v0 bs h1=some (v,h')→FzAgree base h h':=by
  intro k v0 bs h1 hfr hag himp
  rw[hal] at hfr
  obtain⟨slot,hslot⟩:=Option.isSome_iff_exists.1 hfr
  rw[hslot] at himp
  simp only[Option.map_some] at himp
  unfold bW at himp
  split at himp
  ·simp only at himp
   split at himp
   ·rename_i hd
    simp only[Option.some.injEq,Prod.mk.injEq] at himp
    obtain⟨rfl,rfl⟩:=himp
    refine hag.trans ⟨dZ _ _ _,fun c x hc hx=>⟨x,?_,.refl x⟩⟩
    by_cases h0:bs.length=0
    ·have:bs=[]:=List.eq_nil_of_length_eq_zero h0
     subst this
     exact hx
    ·have:=iF _ _ hd (bs.length-1) (by omega)
     have:=(List.getElem?_eq_some_iff.1 this).1
     rw[dz _ _ _ _ (by rw[bS]; omega),if_neg (by omega)]
     exact hx
   ·cases himp
  ·cases himp
 unfold bD at h3
 cases hp:prog f with
 | none=>rw[hp] at h3; cases h3
 | some lf =>
  rw[hp] at h3
  cases lf with
  | prim g =>
   simp only at h3
   split at h3
   ·cases h3
   ·rename_i cs h4 hfa
    split at h3
    ·cases h3
    ·simp only[Option.some.injEq,Prod.mk.injEq] at h3
     obtain⟨_,rfl⟩:=h3
     split
     ·exact .refl base h
     ·exact hfz hfa
  | fprim k g =>
   have hkk:=hH.fprim f k g hp
   simp only[Bool.false_and,Bool.false_eq_true,if_false] at h3
   split at h3
   ·cases h3
   ·rename_i cs h4 hfa
    split at h3
    ·cases h3
    ·exact himp (by rw[hkk]; rfl) (hfz hfa) h3
  | code m nt rs body =>
   cases m with
   | pure =>
    simp only at h3
    split at h3
    ·cases h3
    ·rename_i cs h4 hfa
     split at h3
     ·cases h3
     ·simp only[Option.some.injEq,Prod.mk.injEq] at h3
      obtain⟨_,rfl⟩:=h3
      split
      ·exact .refl base h
      ·exact hfz hfa
   | fresh k =>
    have hkk:=hH.fresh f k nt rs body hp
    simp only[Bool.false_and,Bool.false_eq_true,if_false] at h3
    split at h3
    ·cases h3
    ·rename_i cs h4 hfa
     split at h3
     ·cases h3
     ·exact himp (by rw[hkk]; rfl) (hfz hfa) h3
   | shared=>have:=hH.shared f nt rs body hp; rw[hsh] at this; cases this
   | live=>have:=hH.live f nt rs body hp; rw[hsh] at this; cases this
end
end LM
namespace LM
open Go Go.RowKit
section
variable {P:Program} {H:Hints} {prog:Nat→Option LFunc} {r:Run} {ts:List LV} {h h' : Heap} {pos:Option Nat} {base:Nat}
theorem tH {e:Eff} {o:LOper} {n slot:Nat} (hsl:o.slot=none) (hnc:∀ q g l,o.op≠.call q g l)
  (hf:aX base o.wh ts o.op=true→(∀ h v h',ab none ts h o.op=some (v,h')→h'=h∧∀ h2,ab none ts h2 o.op=some (v,h2)) ∨
   ∃ b,b<base∧∀ h v h',ab none ts h o.op=some (v,h')→h'=h∧(∀ (h2:Heap) (x y:LB),h[b]? = some x→h2[b]? = some y→FzEqB x y→ab none ts h2 o.op=some (v,h2))∧(∃ x,h[b]? = some x)∧RIn e base h b) :
  ReadF base (goF prog r base o ts)∧LocF e base slot n (goF prog r base o ts):=by
 by_cases hw:aX base o.wh ts o.op=true
 ·have hgo:∀ h,goF prog r base o ts h=ab none ts h o.op:=fun h=>by
   unfold goF
   rw[hw,hsl,cn hnc]
   rfl
  have hgo' : goF prog r base o ts=fun h=>ab none ts h o.op:=funext hgo
  rw[hgo']
  rcases hf hw with hp | ⟨b,hb,hr⟩
  ·have:PureF (fun h=>ab none ts h o.op):=fun h v h' hs=>hp h v h' hs
   exact⟨this.read,this.loc⟩
  ·refine⟨fun h v h' hs=>?_,LocF.read1 (b:=b) fun h v h' hs=>?_⟩
   ·obtain⟨h1,h2,⟨x,hx⟩,_⟩:=hr h v h' hs
    refine⟨h1,fun h3 hag=>?_⟩
    obtain⟨y,hy,e⟩:=hag.2 b x hb hx
    exact h2 h3 x y hx hy e
   ·obtain⟨h1,h2,⟨x,hx⟩,h4⟩:=hr h v h' hs
    exact⟨h1,fun h3 he=>h2 h3 x x hx (by rw[he]; exact hx) (.refl x),h4⟩
 ·have hgo:∀ h,goF prog r base o ts h=none:=fun h=>by
   unfold goF
   rw[if_neg]
   simp[hw]
  refine⟨fun h v h' hs=>?_,fun h v h' hs=>?_⟩<;>rw[hgo] at hs<;>cases hs
theorem eV {b g fz:Nat} {cs:List LV} (hb:h[b]? = some (.cells g cs fz)):cls h b=if g=0 then 0 else 1:=by
 unfold cls; rw[hb]
theorem FzEqB.cells {g fz:Nat} {cs:List LV} {y:LB} (h:FzEqB (.cells g cs fz) y):∃ fz',y=.cells g cs fz':=by
 cases y<;>simp only[FzEqB] at h<;>first | (simp at h; done) | skip
 obtain⟨rfl,rfl⟩:=h
 exact⟨_,rfl⟩
theorem FzEqB.map {ks:List CV} {vs:List LV} {fz:Bool} {y:LB} (h:FzEqB (.map ks vs fz) y):∃ fz',y=.map ks vs fz':=by
 cases y<;>simp only[FzEqB] at h<;>first | (simp at h; done) | skip
 obtain⟨rfl,rfl⟩:=h
 exact⟨_,rfl⟩
theorem mM {e:Eff} {o:LOper} {n slot:Nat} {z:Option Nat} {x:LO} (hop:o.op=.load z x) (hsl:o.slot=none)
  (he:(o.wh=.old∧e.rv=true∧e.rr=true)∨(o.wh=.var∧e.rv=true)∨(o.wh=.row∧e.rr=true)):ReadF base (goF prog r base o ts)∧LocF e base slot n (goF prog r base o ts):=by
 refine tH hsl (by rw[hop]; simp) fun hw=>?_
 rw[hop] at hw ⊢
 cases hx:ev ts x with
 | ptr b g off =>
  have hin:bQ base o.wh (b,g)=true:=by simpa[aX,cK,hx,dK] using hw
  have hb:b<base:=by rcases he with ⟨e,_⟩ | ⟨e,_⟩ | ⟨e,_⟩<;>rw[e] at hin<;>simp[bQ] at hin<;>omega
  refine .inr ⟨b,hb,fun h v h' hs=>?_⟩
  simp only[ab,hx] at hs
  split at hs
  ·rename_i g' cs fz hbk
   split at hs
   ·rename_i hg
    subst hg
    split at hs
    ·rename_i v' hv'
     obtain⟨rfl,rfl⟩:=aI hs
     refine⟨rfl,fun h2 x0 y hx0 hy hxy=>?_,⟨_,hbk⟩,.inl ⟨hb,?_⟩⟩
     ·rw[hbk] at hx0
      simp only[Option.some.injEq] at hx0
      subst hx0
      obtain⟨fz',rfl⟩:=hxy.cells
      simp only[ab,hx,hy,if_true,hv']
      rfl
     ·rw[eV hbk]
      by_cases hg0:g=0
      ·rw[if_pos hg0]
       rcases he with ⟨_,e1,_⟩ | ⟨_,e1⟩ | ⟨ew,_⟩
       ·exact .inl ⟨rfl,e1⟩
       ·exact .inl ⟨rfl,e1⟩
       ·rw[ew] at hin; simp[bQ,hg0] at hin
      ·rw[if_neg hg0]
       rcases he with ⟨_,_,e1⟩ | ⟨ew,_⟩ | ⟨_,e1⟩
       ·exact .inr (.inl ⟨rfl,e1⟩)
       ·rw[ew] at hin; simp[bQ,hg0] at hin
       ·exact .inr (.inl ⟨rfl,e1⟩)
    ·cases hs
   ·cases hs
  ·cases hs
 | c cv =>
  refine .inl fun h v h' hs=>?_
  cases cv<;>simp only[ab,hx] at hs<;>first | (cases hs; done) | skip
  split at hs
  ·rename_i v' hv'
   obtain⟨rfl,rfl⟩:=aQ hs
   exact⟨rfl,fun h2=>by simp only[ab,hx,hv']; rfl⟩
  ·cases hs
 | _=>exact .inl fun h v h' hs=>by simp[ab,hx] at hs
theorem Od {e:Eff} {o:LOper} {n slot k:Nat} {x:LO} (hop:o.op=.len k x) (hk0:k≠0) (hk1:k≠1) (hsl:o.slot=none) (hwh:o.wh=.old) (he:e.rm=true):ReadF base (goF prog r base o ts)∧LocF e base slot n (goF prog r base o ts):=by
 refine tH hsl (by rw[hop]; simp) fun hw=>?_
 rw[hop] at hw ⊢
 cases hx:ev ts x with
 | map b =>
  have hb:b<base:=by simpa[aX,cK,hx,dK,hwh,bQ] using hw
  refine .inr ⟨b,hb,fun h v h' hs=>?_⟩
  simp only[ab] at hs
  split at hs
  all_goals first
   | (exact absurd rfl hk0)
   | (exact absurd rfl hk1)
   | skip
  ·rename_i heq; rw[hx] at heq; cases heq
  ·rename_i b' heq
   rw[hx] at heq
   injection heq with e1
   subst e1
   split at hs
   ·rename_i ks vs fz hbk
    obtain⟨rfl,rfl⟩:=aQ hs
    refine⟨rfl,fun h2 x0 y hx0 hy hxy=>?_,⟨_,hbk⟩,.inl ⟨hb,.inr (.inr ⟨by unfold cls; rw[hbk],he⟩)⟩⟩
    rw[hbk] at hx0
    simp only[Option.some.injEq] at hx0
    subst hx0
    obtain⟨fz',rfl⟩:=hxy.map
    simp only[ab,hx,hy]
    rfl
   ·cases hs
  ·cases hs
 | _ =>
  refine .inl fun h v h' hs=>?_
  simp only[ab,hx] at hs ⊢
  first
   | (cases hs; done)
   | (split at hs<;>first
     | (exact absurd rfl hk0)
     | (exact absurd rfl hk1)
     | (cases hs; done)
     | (rename_i heq; cases heq; done)
     | (obtain⟨rfl,rfl⟩:=aQ hs; exact⟨rfl,fun h2=>rfl⟩))
theorem BR {e:Eff} {o:LOper} {n slot:Nat} {kn:KeyKind} {zero:LV} {isOk:Bool} {x k:LO} (hop:o.op=.lookup kn zero isOk x k) (hsl:o.slot=none) (hwh:o.wh=.old) (he:e.rm=true) :
  ReadF base (goF prog r base o ts)∧LocF e base slot n (goF prog r base o ts):=by
 refine tH hsl (by rw[hop]; simp) fun hw=>?_
 rw[hop] at hw ⊢
 -- the entries decide
 let fin:List CV→List LV→CV→Option LV:=fun ks vs key=>match aH kn key ks with
  | some (some i)=>match vs[i]? with
   | some v=>some (if isOk then mkTuple [v,.c (.bool true)] else v)
   | none=>none
  | some none=>some (if isOk then mkTuple [zero,.c (.bool false)] else zero)
  | none=>none
 have hfin:∀ (h:Heap) (ks:List CV) (vs:List LV) (key:CV),(match aH kn key ks with
   | some (some i)=>match vs[i]? with
    | some v=>ok (if isOk then mkTuple [v,.c (.bool true)] else v) h
    | none=>none
   | some none=>ok (if isOk then mkTuple [zero,.c (.bool false)] else zero) h
   | none=>none)=(fin ks vs key).map fun v=>(v,h):=by
  intro h ks vs key
  simp only[fin]
  cases aH kn key ks with
  | none=>rfl
  | some o=>cases o with
   | none=>rfl
   | some i=>cases hv:vs[i]?<;>simp[hv]<;>rfl
 cases hkey:ev ts k with
 | c key =>
  cases hok:cP kn key with
  | false=>exact .inl fun h v h' hs=>by simp[ab,hkey,hok] at hs
  | true =>
   cases hx:ev ts x with
   | map b =>
    have hb:b<base:=by simpa[aX,cK,hx,dK,hwh,bQ] using hw
    refine .inr ⟨b,hb,fun h v h' hs=>?_⟩
    simp only[ab,hkey,hok,hx] at hs
    cases hbk:h[b]? with
    | none=>rw[hbk] at hs; simp at hs
    | some blk =>
     rw[hbk] at hs
     cases blk with
     | map ks vs fz =>
      simp only[Bool.not_true,Bool.false_eq_true,if_false] at hs
      have hs2:=(hfin h ks vs key).symm.trans hs
      simp only[Option.map_eq_some_iff,Prod.mk.injEq] at hs2
      obtain⟨v',hv',rfl,rfl⟩:=hs2
      refine⟨rfl,fun h2 x0 y hx0 hy hxy=>?_,⟨_,rfl⟩,.inl ⟨hb,.inr (.inr ⟨by unfold cls; rw[hbk],he⟩)⟩⟩
      simp only[Option.some.injEq] at hx0
      subst hx0
      obtain⟨fz',rfl⟩:=hxy.map
      simp only[ab,hkey,hok,hx,hy,Bool.not_true,Bool.false_eq_true,if_false]
      exact (hfin h2 ks vs key).trans (by rw[hv']; rfl)
     | _=>simp at hs
   | c cv =>
    refine .inl fun h v h' hs=>?_
    simp only[ab,hkey,hok,hx] at hs ⊢
    cases cv<;>first | (simp at hs; done) | skip
    rename_i ks vs
    simp only[Bool.not_true,Bool.false_eq_true,if_false] at hs ⊢
    have hs2:=(hfin h ks (vs.map .c) key).symm.trans hs
    simp only[Option.map_eq_some_iff,Prod.mk.injEq] at hs2
    obtain⟨v',hv',rfl,rfl⟩:=hs2
    exact⟨rfl,fun h2=>(hfin h2 ks (vs.map .c) key).trans (by rw[hv']; rfl)⟩
   | _=>exact .inl fun h v h' hs=>by simp[ab,hkey,hok,hx] at hs
 | _=>exact .inl fun h v h' hs=>by simp[ab,hkey] at hs
end
end LM
namespace LM
open Go Go.RowKit
section
variable {P:Program} {H:Hints} {prog:Nat→Option LFunc} {r:Run} {ts:List LV} {h h' : Heap} {pos:Option Nat} {base:Nat}
theorem fM {o:LOper} (hnc:∀ q g l,o.op≠.call q g l) (h:Heap):goF prog r base o ts h=if aX base o.wh ts o.op && de base o.slot h then ab (o.slot.map (base+·)) ts h o.op else none:=by
 unfold goF
 rw[cn hnc]
theorem kz {e:Eff} {o:LOper} {n slot m:Nat} {x y:LO} (hop:o.op=.store m x y) (hsl:o.slot=none)
  (he:(o.wh=.new∧e.nw=true)∨(o.wh=.old∧e.wv=true∧e.wr=true)∨(o.wh=.var∧e.wv=true)∨(o.wh=.row∧e.wr=true)):LocF e base slot n (goF prog r base o ts):=by
 have hnc:∀ q g l,o.op≠.call q g l:=by rw[hop]; simp
 cases hx:ev ts x with
 | ptr b g off =>
  refine LocF.write1 (b:=b) fun h v h' hs=>?_
  rw[fM hnc] at hs
  split at hs
  ·rename_i hc
   have hw:aX base o.wh ts o.op=true:=by simp only[Bool.and_eq_true] at hc; exact hc.1
   have hin:bQ base o.wh (b,g)=true:=by rw[hop] at hw; simpa[aX,cK,hx,dK] using hw
   rw[hop] at hs
   simp only[ab,hx] at hs
   split at hs
   ·rename_i g' cs fz hbk
    split at hs
    ·rename_i hcond
     obtain⟨rfl,rfl⟩:=aI hs
     have hg:=hcond.1
     subst hg
     have hlt:=(List.getElem?_eq_some_iff.1 hbk).1
     refine⟨_,rfl,hlt,fun _=>?_,fun h2 hl2 he2=>?_,?_⟩
     ·rw[eV hbk]
      unfold cls
      rw[List.getElem?_set_self hlt]
     ·rw[fM hnc,hw,hsl]
      rw[hop]
      simp only[de,Bool.and_self,if_true,ab,hx,he2,hbk]
      rw[if_pos ⟨trivial,hcond.2⟩]
      rfl
     ·unfold WIn
      rw[eV hbk]
      by_cases hbb:b<base
      ·refine .inl ⟨hbb,?_⟩
       by_cases hg0:g=0
       ·rw[if_pos hg0]
        rcases he with ⟨ew,_⟩ | ⟨_,e1,_⟩ | ⟨_,e1⟩ | ⟨ew,_⟩
        ·rw[ew] at hin; simp[bQ] at hin; omega
        ·exact .inl ⟨rfl,e1⟩
        ·exact .inl ⟨rfl,e1⟩
        ·rw[ew] at hin; simp[bQ,hg0] at hin
       ·rw[if_neg hg0]
        rcases he with ⟨ew,_⟩ | ⟨_,_,e1⟩ | ⟨ew,_⟩ | ⟨_,e1⟩
        ·rw[ew] at hin; simp[bQ] at hin; omega
        ·exact .inr (.inl ⟨rfl,e1⟩)
        ·rw[ew] at hin; simp[bQ,hg0] at hin
        ·exact .inr (.inl ⟨rfl,e1⟩)
      ·refine .inr ⟨by omega,.inl ?_⟩
       rcases he with ⟨_,e1⟩ | ⟨ew,_⟩ | ⟨ew,_⟩ | ⟨ew,_⟩
       ·exact e1
       all_goals (rw[ew] at hin; simp[bQ] at hin; omega)
    ·cases hs
   ·cases hs
  ·cases hs
 | _ =>
  intro h v h' hs
  rw[fM hnc] at hs
  split at hs
  ·rw[hop] at hs
   simp[ab,hx] at hs
  ·cases hs
theorem vm {e:Eff} {o:LOper} {n slot:Nat} {kn:KeyKind} {m k x:LO} (hop:o.op=.mapUpdate kn m k x) (hsl:o.slot=none) (hwh:o.wh=.old) (he:e.wm=true):LocF e base slot n (goF prog r base o ts):=by
 have hnc:∀ q g l,o.op≠.call q g l:=by rw[hop]; simp
 cases hx:ev ts m with
 | map b =>
  refine LocF.write1 (b:=b) fun h v h' hs=>?_
  rw[fM hnc] at hs
  split at hs
  ·rename_i hc
   have hw:aX base o.wh ts o.op=true:=by simp only[Bool.and_eq_true] at hc; exact hc.1
   have hb:b<base:=by rw[hop] at hw; simpa[aX,cK,hx,dK,hwh,bQ] using hw
   rw[hop] at hs
   simp only[ab,hx] at hs
   have go2:∀ h2:Heap,goF prog r base o ts h2=ab none ts h2 (.mapUpdate kn m k x):=fun h2=>by
    rw[fM hnc,hw,hsl,hop]
    rfl
   cases hkey:ev ts k with
   | c key =>
    rw[hkey] at hs
    cases hok:cP kn key with
    | false=>simp[hok] at hs
    | true =>
     simp only[hok,Bool.not_true,Bool.false_eq_true,if_false] at hs
     cases hbk:h[b]? with
     | none=>rw[hbk] at hs; cases hs
     | some blk =>
      rw[hbk] at hs
      have hlt:=(List.getElem?_eq_some_iff.1 hbk).1
      cases blk with
      | map ks vs fz =>
       cases fz with
       | true=>cases hs
       | false =>
        simp only at hs
        have hcls:cls h b=2:=by unfold cls; rw[hbk]
        split at hs
        ·rename_i i hf
         obtain⟨rfl,rfl⟩:=aI hs
         refine⟨_,rfl,hlt,fun _=>by rw[hcls]; unfold cls; rw[List.getElem?_set_self hlt],fun h2 hl2 he2=>?_,.inl ⟨hb,.inr (.inr ⟨hcls,he⟩)⟩⟩
         rw[go2]
         simp only[ab,hx,hkey,hok,he2,hf]
         rfl
        ·rename_i hf
         obtain⟨rfl,rfl⟩:=aI hs
         refine⟨_,rfl,hlt,fun _=>by rw[hcls]; unfold cls; rw[List.getElem?_set_self hlt],fun h2 hl2 he2=>?_,.inl ⟨hb,.inr (.inr ⟨hcls,he⟩)⟩⟩
         rw[go2]
         simp only[ab,hx,hkey,hok,he2,hf]
         rfl
        ·cases hs
      | _=>cases hs
   | _=>rw[hkey] at hs; cases hs
  ·cases hs
 | _ =>
  intro h v h' hs
  rw[fM hnc] at hs
  split at hs
  ·rw[hop] at hs
   simp[ab,hx] at hs
  ·cases hs
theorem IT {e:Eff} {o:LOper} {n slot:Nat} (hnc:∀ q g l,o.op≠.call q g l) (hsl:o.slot=some slot) (hn:n≠0) (hal:e.al=true)
  (hf:∃ g:Option (LV × Option LB),∀ h,ab (some (base+slot)) ts h o.op=g.map fun q=>(q.1,match q.2 with | some b=>h.set (base+slot) b | none=>h)):LocF e base slot n (goF prog r base o ts):=by
 obtain⟨g,hg⟩:=hf
 refine LocF.write1 (b:=base+slot) fun h v h' hs=>?_
 rw[fM hnc] at hs
 split at hs
 ·rename_i hc
  simp only[Bool.and_eq_true] at hc
  have hd:h[base+slot]? = some .dead:=by have:=hc.2; rw[hsl] at this; exact jg this
  have hlt:=(List.getElem?_eq_some_iff.1 hd).1
  rw[hsl] at hs
  simp only[Option.map_some] at hs
  rw[hg] at hs
  have go2:∀ h2:Heap,h2[base+slot]? = h[base+slot]?→goF prog r base o ts h2=g.map fun q=>(q.1,match q.2 with | some b=>h2.set (base+slot) b | none=>h2):=fun h2 he=>by
   rw[fM hnc,hc.1,hsl]
   have:de base (some slot) h2=true:=by
    show cQ h2 (base+slot)=true
    unfold cQ
    rw[he,hd]
   rw[this]
   simp only[Bool.and_self,if_true,Option.map_some]
   exact hg h2
  have setDead:∀ h2:Heap,h2[base+slot]? = some .dead→h2.set (base+slot) .dead=h2:=fun h2 he=>by
   apply List.ext_getElem?
   intro c
   by_cases ec:base+slot=c
   ·subst ec
    rw[List.getElem?_set_self (List.getElem?_eq_some_iff.1 he).1,he]
   ·rw[List.getElem?_set_ne ec]
  have hW:WIn e base slot n h (base+slot):=.inr ⟨by omega,.inr ⟨hal,Nat.le_refl _,by omega⟩⟩
  cases g with
  | none=>cases hs
  | some q =>
   obtain⟨v0,ob⟩:=q
   simp only[Option.map_some,Option.some.injEq,Prod.mk.injEq] at hs
   obtain⟨rfl,rfl⟩:=hs
   cases ob with
   | some blk=>exact⟨blk,rfl,hlt,fun hb=>by omega,fun h2 _ he=>by rw[go2 h2 he]; rfl,hW⟩
   | none=>exact⟨.dead,(setDead h hd).symm,hlt,fun hb=>by omega,fun h2 _ he=>by rw[go2 h2 he,setDead h2 (by rw[he,hd])]; rfl,hW⟩
 ·cases hs
theorem Gl {op:LOp} {p:Nat} (hop:(match op with | .new .. | .box _ | .mkNil _ | .makeSlice .. | .makeMap | .range _ | .buildSlice ..=>true | _=>false)=true) :
  ∃ g:Option (LV × Option LB),∀ h,ab (some p) ts h op=g.map fun q=>(q.1,match q.2 with | some b=>h.set p b | none=>h):=by
 cases op<;>simp only[Bool.false_eq_true] at hop
 case new z g=>exact⟨some (.ptr p g 0,some (.cells g z 0)),fun h=>rfl⟩
 case box x =>
  by_cases hf:aT (ev ts x).cells=true
  ·exact⟨some (.ptr p 0 0,some (.cells 0 (ev ts x).cells 0)),fun h=>by simp only[ab,if_pos hf]; rfl⟩
  ·exact⟨none,fun h=>by simp only[ab,if_neg hf]; rfl⟩
 case mkNil z=>exact⟨some (.slice p 1 0 0 z none,some (.cells 1 [] 0)),fun h=>rfl⟩
 case makeMap=>exact⟨some (.map p,some (.map [] [] false)),fun h=>rfl⟩
 case range x =>
  cases hx:ev ts x with
  | c cv =>
   cases cv with
   | str s=>exact⟨some (.ptr p 0 0,some (.iter s 0)),fun h=>by simp only[ab,hx]; rfl⟩
   | _=>exact⟨none,fun h=>by simp only[ab,hx]; rfl⟩
  | _=>exact⟨none,fun h=>by simp only[ab,hx]; rfl⟩
 case makeSlice z b zs l c =>
  by_cases hlc:∃ k n k' m,ev ts l=.c (.int k n)∧ev ts c=.c (.int k' m)
  ·obtain⟨k,n,k',m,hl,hc⟩:=hlc
   by_cases hcond:0≤n∧n≤m∧m*b≤2^47∧m≤9223372036854775807
   ·exact⟨some (.slice p 1 0 n.toNat z (some m.toNat),some (.cells 1 (aP m.toNat zs) 0)),fun h=>by simp only[ab,hl,hc]; rw[if_pos hcond]; rfl⟩
   ·exact⟨none,fun h=>by simp only[ab,hl,hc]; rw[if_neg hcond]; rfl⟩
  ·refine⟨none,fun h=>?_⟩
   simp only[ab]
   split
   ·rename_i k n k' m hl hc
    exact absurd ⟨k,n,k',m,hl,hc⟩ hlc
   ·rfl
 case buildSlice k z len zs ps =>
  cases hfp:bz ts (ae z) ps (aP len zs) with
  | none=>exact⟨none,fun h=>by simp only[ab,hfp]; rfl⟩
  | some cs =>
   by_cases hf:aT cs=true
   ·cases hac:eW cs with
    | none =>
     by_cases hk1:k=1
     ·subst hk1
      exact⟨none,fun h=>by simp[ab,hfp,hf,hac]⟩
     ·by_cases hk3:k=3
      ·subst hk3
       exact⟨some (.slice p 1 0 len z none,some (.cells 1 cs 0)),fun h=>by simp only[ab,hfp,if_pos hf,hac]; rfl⟩
      ·refine⟨some (.slice p 1 0 len z (some len),some (.cells 1 cs 0)),fun h=>?_⟩
       simp only[ab,hfp,if_pos hf,hac]
       split
       ·rfl
       ·exact absurd rfl hk3
       ·exact absurd rfl hk1
       ·rfl
       ·rename_i heq; cases heq
    | some l =>
     by_cases hk0:k=0
     ·subst hk0
      exact⟨some (.slice p 1 0 len z (some len),some (.cells 1 cs 0)),fun h=>by simp only[ab,hfp,if_pos hf,hac]; rfl⟩
     ·by_cases hk3:k=3
      ·subst hk3
       exact⟨some (.slice p 1 0 len z none,some (.cells 1 cs 0)),fun h=>by simp only[ab,hfp,if_pos hf,hac]; rfl⟩
      ·refine⟨(bV z len l).map fun xs=>(.c (.slice xs),none),fun h=>?_⟩
       cases hch:bV z len l<;>simp[ab,hfp,hf,hac,hk0,hk3,hch]<;>rfl
   ·exact⟨none,fun h=>by simp only[ab,hfp,if_neg hf]; rfl⟩
end
end LM
namespace LM
open Go Go.RowKit
section
variable {P:Program} {H:Hints} {prog:Nat→Option LFunc} {r:Run} {ts:List LV} {h h' : Heap} {pos:Option Nat} {base:Nat}
theorem LocF.writeC {e:Eff} {base slot n:Nat} {f:HF} (hf:∀ h v h',f h=some (v,h')→∃ (R:Nat→Prop) (c:Nat) (blk:LB),h'=h.set c blk∧c<h.length∧(c<base→cls h' c=cls h c) ∧
  (∀ h2:Heap,h2.length=h.length→(∀ b:Nat,R b∨b=c→h2[b]? = h[b]?)→f h2=some (v,h2.set c blk))∧(∀ b,R b→RIn e base h b)∧WIn e base slot n h c):LocF e base slot n f:=by
 intro h v h' hs
 obtain⟨R,b,blk,rfl,hl,hcls,h2,hR,hW⟩:=hf h v h' hs
 refine⟨R,fun c=>c=b,by simp,fun c hc=>?_,fun c hc=>List.getElem?_set_ne (fun e=>hc e.symm),fun h3 hl3 hag=>?_,hR,fun c hc=>hc ▸ hW⟩
 ·by_cases e:c=b
  ·subst e; exact hcls hc
  ·unfold cls
   rw[List.getElem?_set_ne (fun e'=>e e'.symm)]
 ·refine⟨h3.set b blk,h2 h3 hl3 hag,by simp,fun c=>⟨fun e=>?_,fun e=>List.getElem?_set_ne (fun e'=>e e'.symm)⟩⟩
  subst e
  rw[List.getElem?_set_self (by omega),List.getElem?_set_self hl]
theorem qC {esz:Option Nat} {x:LV} {q:Nat × List LV} (hs:aO esz h x=some q) :
  (∀ h2:Heap,aO esz h2 x=some q)∨∃ (b g:Nat) (cs:List LV) (fz:Nat),h[b]? = some (LB.cells g cs fz)∧∀ h2:Heap,h2[b]? = h[b]?→aO esz h2 x=some q:=by
 cases x with
 | slice b g off len e1 c1 =>
  have hs0:=hs
  simp only[aO] at hs
  split at hs
  ·rename_i g' cs fz hb
   exact .inr ⟨b,g',cs,fz,hb,fun h2 he=>by rw[← hs0]; simp only[aO,he]⟩
  ·cases hs
 | c cv=>cases cv<;>first | (exact .inl fun h2=>hs) | (simp[aO] at hs)
 | nil=>exact .inl fun h2=>hs
 | emp=>exact .inl fun h2=>hs
 | _=>simp[aO] at hs
theorem mh {e:Eff} {o:LOper} {n slot:Nat} {z:Option Nat} {bytes:Nat} {s x:LO} (hop:o.op=.append z bytes s x) (hsl:o.slot=some slot) (hn:n≠0) (hal:e.al=true) (hrv:e.rv=true) (hrr:e.rr=true) (hnw:e.nw=true)
  (he:o.wh=.new∨(o.wh=.row∧e.wr=true)∨(o.wh=.own∧e.wr=true)):LocF e base slot n (goF prog r base o ts):=by
 have hnc:∀ q g l,o.op≠.call q g l:=by rw[hop]; simp
 refine LocF.writeC fun h v h' hs=>?_
 rw[fM hnc] at hs
 split at hs
 ·rename_i hc
  simp only[Bool.and_eq_true] at hc
  have hd:h[base+slot]? = some .dead:=by have:=hc.2; rw[hsl] at this; exact jg this
  have hlt:=(List.getElem?_eq_some_iff.1 hd).1
  rw[hsl,hop] at hs
  simp only[Option.map_some,ab] at hs
  have go2:∀ h2:Heap,h2[base+slot]? = h[base+slot]?→goF prog r base o ts h2=aN (some (base+slot)) z bytes (ev ts s) (ev ts x) h2:=fun h2 he2=>by
   rw[fM hnc,hc.1,hsl]
   have:de base (some slot) h2=true:=by
    show cQ h2 (base+slot)=true
    unfold cQ
    rw[he2,hd]
   rw[this]
   simp only[Bool.and_self,if_true,Option.map_some]
   rw[hop]
   rfl
  have setDead:∀ h2:Heap,h2[base+slot]? = some .dead→h2.set (base+slot) .dead=h2:=fun h2 he=>by
   apply List.ext_getElem?
   intro c
   by_cases ec:base+slot=c
   ·subst ec
    rw[List.getElem?_set_self (List.getElem?_eq_some_iff.1 he).1,he]
   ·rw[List.getElem?_set_ne ec]
  have hW:WIn e base slot n h (base+slot):=.inr ⟨by omega,.inr ⟨hal,Nat.le_refl _,by omega⟩⟩
  have hcellsR:∀ (b g:Nat) (cs:List LV) (fz:Nat),h[b]? = some (.cells g cs fz)→RIn e base h b:=by
   intro b g cs fz hb
   by_cases hbb:b<base
   ·refine .inl ⟨hbb,?_⟩
    rw[eV hb]
    by_cases hg:g=0
    ·rw[if_pos hg]; exact .inl ⟨rfl,hrv⟩
    ·rw[if_neg hg]; exact .inr (.inl ⟨rfl,hrr⟩)
   ·exact .inr ⟨by omega,hnw⟩
  cases hsc:aO z h (ev ts x) with
  | none=>unfold aN at hs; rw[hsc] at hs; cases hs
  | some q =>
   obtain⟨m,new⟩:=q
   -- what is read of the elements
   obtain⟨Rx,hRx,hsx⟩ : ∃ Rx:Nat→Prop,(∀ b,Rx b→RIn e base h b)∧∀ h2:Heap,(∀ b:Nat,Rx b→h2[b]? = h[b]?)→aO z h2 (ev ts x)=some (m,new):=by
    rcases qC hsc with hall | ⟨b,g,cs,fz,hb,hall⟩
    ·exact⟨fun _=>False,fun _=>False.elim,fun h2 _=>hall h2⟩
    ·exact⟨fun c=>c=b,fun c hc=>hc ▸ hcellsR b g cs fz hb,fun h2 hag=>hall h2 (hag b rfl)⟩
   have dead2:∀ {h2:Heap} {R:Nat→Prop},(∀ b:Nat,R b∨b=base+slot→h2[b]? = h[b]?)→h2[base+slot]? = h[base+slot]?:=fun hag=>hag _ (.inr rfl)
   unfold aN at hs
   rw[hsc] at hs
   simp only at hs
   split at hs
   ·cases hs
   rename_i hf
   split at hs
   ·cases hs
   rename_i hnl
   -- a value without a block
   have bare:∀ (sv:LV),ev ts s=sv→(sv=.nil∨sv=.emp)→(if m=0 then ok sv h else if m*bytes > 2^47∨m > 9223372036854775807 then none else ok (.slice (b7 (some (base+slot)) h) 1 0 m z none) (cN (some (base+slot)) (.cells 1 new 0) h))=some (v,h') →
     ∃ (R:Nat→Prop) (c:Nat) (blk:LB),h'=h.set c blk∧c<h.length∧(c<base→cls h' c=cls h c) ∧
      (∀ h2:Heap,h2.length=h.length→(∀ b:Nat,R b∨b=c→h2[b]? = h[b]?)→goF prog r base o ts h2=some (v,h2.set c blk))∧(∀ b,R b→RIn e base h b)∧WIn e base slot n h c:=by
    intro sv hsv hkind hs
    have shape:∀ h2:Heap,aO z h2 (ev ts x)=some (m,new)→aN (some (base+slot)) z bytes (ev ts s) (ev ts x) h2=if m=0 then ok sv h2 else if m*bytes > 2^47∨m > 9223372036854775807 then none else ok (.slice (base+slot) 1 0 m z none) (h2.set (base+slot) (.cells 1 new 0)):=by
     intro h2 hsc2
     unfold aN
     rw[hsc2]
     simp only
     rw[if_neg hf,if_neg hnl,hsv]
     rcases hkind with rfl | rfl<;>rfl
    split at hs
    ·rename_i hm0
     obtain⟨rfl,rfl⟩:=aI hs
     refine⟨Rx,base+slot,.dead,(setDead _ hd).symm,hlt,fun hb=>by omega,fun h2 _ hag=>?_,hRx,hW⟩
     rw[go2 h2 (dead2 hag),shape h2 (hsx h2 fun b hb=>hag b (.inl hb)),if_pos hm0,setDead h2 (by rw[dead2 hag,hd])]
     rfl
    ·rename_i hm0
     split at hs
     ·cases hs
     ·rename_i hbig
      obtain⟨rfl,rfl⟩:=aI hs
      refine⟨Rx,base+slot,.cells 1 new 0,rfl,hlt,fun hb=>by omega,fun h2 _ hag=>?_,hRx,hW⟩
      rw[go2 h2 (dead2 hag),shape h2 (hsx h2 fun b hb=>hag b (.inl hb)),if_neg hm0,if_neg hbig]
      rfl
   split at hs
   ·rename_i hsv
    exact bare .nil hsv (.inl rfl) hs
   ·rename_i hsv
    exact bare .emp hsv (.inr rfl) hs
   ·rename_i b g off len e' cap hsv
    have hin:bQ base o.wh (b,g)=true:=by have:=hc.1; rw[hop] at this; simpa[aX,cK,hsv,dK] using this
    cases hbk:h[b]? with
    | none=>rw[hbk] at hs; cases hs
    | some blk0 =>
     rw[hbk] at hs
     cases blk0 with
     | cells g' cs fz =>
      simp only at hs
      have shape:∀ h2:Heap,aO z h2 (ev ts x)=some (m,new)→h2[b]? = some (.cells g' cs fz)→aN (some (base+slot)) z bytes (ev ts s) (ev ts x) h2 =
        if g≠g'∨(len+m)*bytes > 2^47∨len+m > 9223372036854775807∨e'≠z then none else
        match cap with
        | some c =>
         if len+m≤c then
          if off+c*ae z≤cs.length∧fz≤off+len*ae z then
           ok (.slice b g off (len+m) z (some c)) (h2.set b (.cells g (setCells cs (off+len*ae z) new) fz))
          else none
         else
          if off+len*ae z≤cs.length then
           ok (.slice (base+slot) 1 0 (len+m) z none) (h2.set (base+slot) (.cells 1 ((cs.drop off).take (len*ae z)++new) 0))
          else none
        | none =>
         if off=0∧len*ae z=cs.length∧fz≤cs.length then
          if m=0 then ok (.slice b g off len e' cap) h2 else
          ok (.slice b (g+1) 0 (len+m) z none) (h2.set b (.cells (g+1) (cs++new) fz))
         else none:=by
       intro h2 hsc2 hb2
       unfold aN
       rw[hsc2]
       simp only
       rw[if_neg hf,if_neg hnl,hsv]
       simp only[hb2]
       rfl
      split at hs
      ·cases hs
      rename_i hcond
      have hgg:g=g':=by
       simp only[ne_eq,not_or,Decidable.not_not] at hcond
       exact hcond.1
      subst hgg
      have hltb:=(List.getElem?_eq_some_iff.1 hbk).1
      have hRb:=hcellsR b g cs fz hbk
      -- the slice's own block may be turned
      have hWb:WIn e base slot n h b:=by
       rcases he with ew | ⟨ew,hwr⟩ | ⟨ew,hwr⟩
       ·rw[ew] at hin
        simp only[bQ,decide_eq_true_eq] at hin
        exact .inr ⟨hin,.inl hnw⟩
       ·rw[ew] at hin
        simp only[bQ,Bool.and_eq_true,decide_eq_true_eq,bne_iff_ne,ne_eq] at hin
        refine .inl ⟨hin.1,.inr (.inl ⟨?_,hwr⟩)⟩
        rw[eV hbk,if_neg hin.2]
       ·rw[ew] at hin
        simp only[bQ,Bool.or_eq_true,Bool.and_eq_true,decide_eq_true_eq,bne_iff_ne,ne_eq] at hin
        rcases hin with hin | hin
        ·refine .inl ⟨hin.1,.inr (.inl ⟨?_,hwr⟩)⟩
         rw[eV hbk,if_neg hin.2]
        ·exact .inr ⟨hin,.inl hnw⟩
      have hg0:b<base→g≠0:=by
       intro hbb
       rcases he with ew | ⟨ew,hwr⟩ | ⟨ew,hwr⟩
       ·rw[ew] at hin
        simp only[bQ,decide_eq_true_eq] at hin
        omega
       ·rw[ew] at hin
        simp only[bQ,Bool.and_eq_true,decide_eq_true_eq,bne_iff_ne,ne_eq] at hin
        exact hin.2
       ·rw[ew] at hin
        simp only[bQ,Bool.or_eq_true,Bool.and_eq_true,decide_eq_true_eq,bne_iff_ne,ne_eq] at hin
        rcases hin with hin | hin
        ·exact hin.2
        ·omega
      have R2:∀ c,(Rx c∨c=b)→RIn e base h c:=fun c hc=>by
       rcases hc with hc | rfl
       ·exact hRx c hc
       ·exact hRb
      have clsSet:∀ (g2:Nat) (cs2:List LV),(b<base→g2≠0)→b<base→cls (h.set b (.cells g2 cs2 fz)) b=cls h b:=by
       intro g2 cs2 hg2 hbb
       rw[eV hbk,if_neg (hg0 hbb)]
       unfold cls
       rw[List.getElem?_set_self hltb]
       simp only
       rw[if_neg (hg2 hbb)]
      have inPlace:∀ (v' : LV) (g2:Nat) (cs2:List LV),(b<base→g2≠0)→ok v' (h.set b (.cells g2 cs2 fz))=some (v,h')→(∀ h2:Heap,aO z h2 (ev ts x)=some (m,new)→h2[b]? = some (.cells g cs fz)→aN (some (base+slot)) z bytes (ev ts s) (ev ts x) h2=ok v' (h2.set b (.cells g2 cs2 fz))) →
        ∃ (R:Nat→Prop) (c:Nat) (blk:LB),h'=h.set c blk∧c<h.length∧(c<base→cls h' c=cls h c) ∧
         (∀ h2:Heap,h2.length=h.length→(∀ b:Nat,R b∨b=c→h2[b]? = h[b]?)→goF prog r base o ts h2=some (v,h2.set c blk))∧(∀ b,R b→RIn e base h b)∧WIn e base slot n h c:=by
       intro v' g2 cs2 hg2 hs hall
       obtain⟨rfl,rfl⟩:=aI hs
       refine⟨fun c=>Rx c∨c=base+slot,b,.cells g2 cs2 fz,rfl,hltb,clsSet g2 cs2 hg2,fun h2 _ hag=>?_,fun c hc=>?_,hWb⟩
       ·rw[go2 h2 (hag _ (.inl (.inr rfl))),hall h2 (hsx h2 fun c hc=>hag c (.inl (.inl hc))) (by rw[hag b (.inr rfl),hbk])]
        rfl
       ·rcases hc with hc | rfl
        ·exact hRx c hc
        ·exact .inr ⟨by omega,hnw⟩
      have elsewhere:∀ (v' : LV) (blk:LB),ok v' (h.set (base+slot) blk)=some (v,h')→(∀ h2:Heap,aO z h2 (ev ts x)=some (m,new)→h2[b]? = some (.cells g cs fz)→h2[base+slot]? = some .dead→aN (some (base+slot)) z bytes (ev ts s) (ev ts x) h2=ok v' (h2.set (base+slot) blk)) →
        ∃ (R:Nat→Prop) (c:Nat) (blk:LB),h'=h.set c blk∧c<h.length∧(c<base→cls h' c=cls h c) ∧
         (∀ h2:Heap,h2.length=h.length→(∀ b:Nat,R b∨b=c→h2[b]? = h[b]?)→goF prog r base o ts h2=some (v,h2.set c blk))∧(∀ b,R b→RIn e base h b)∧WIn e base slot n h c:=by
       intro v' blk hs hall
       obtain⟨rfl,rfl⟩:=aI hs
       refine⟨fun c=>Rx c∨c=b,base+slot,blk,rfl,hlt,fun hb=>by omega,fun h2 _ hag=>?_,R2,hW⟩
       rw[go2 h2 (dead2 hag),hall h2 (hsx h2 fun c hc=>hag c (.inl (.inl hc))) (by rw[hag b (.inl (.inr rfl)),hbk]) (by rw[dead2 hag,hd])]
       rfl
      split at hs
      ·rename_i c
       split at hs
       ·rename_i hroom
        split at hs
        ·rename_i hfit
         refine inPlace _ g _ hg0 hs fun h2 q1 q2=>?_
         rw[shape h2 q1 q2,if_neg hcond]
         simp only
         rw[if_pos hroom,if_pos hfit]
        ·cases hs
       ·rename_i hroom
        split at hs
        ·rename_i hfit
         refine elsewhere _ _ hs fun h2 q1 q2 _=>?_
         rw[shape h2 q1 q2,if_neg hcond]
         simp only
         rw[if_neg hroom,if_pos hfit]
         rfl
        ·cases hs
      ·split at hs
       ·rename_i hfit
        split at hs
        ·rename_i hm0
         refine elsewhere _ .dead (by rw[setDead _ hd]; exact hs) fun h2 q1 q2 q3=>?_
         rw[shape h2 q1 q2,if_neg hcond]
         simp only
         rw[if_pos hfit,if_pos hm0,setDead h2 q3,hsv]
        ·rename_i hm0
         refine inPlace _ (g+1) _ (fun _=>by omega) hs fun h2 q1 q2=>?_
         rw[shape h2 q1 q2,if_neg hcond]
         simp only
         rw[if_pos hfit,if_neg hm0]
       ·cases hs
     | _=>simp at hs
   ·cases hs
 ·cases hs
end
end LM
namespace LM
open Go Go.RowKit
section
variable {P:Program} {H:Hints} {prog:Nat→Option LFunc} {r:Run} {ts:List LV} {h h' : Heap} {pos:Option Nat} {base:Nat}
structure Kind (e:Eff) (base slot n:Nat) (f:HF):Prop where
 pure:e.touches=false→PureF f
 fr:e.all=false→e.fr=true→FrF base f
 read:e.all=false→e.fr=false→e.wv=false→e.wr=false→e.wm=false→e.nw=false→e.al=false→ReadF base f
 loc:e.all=false→e.fr=false→LocF e base slot n f
theorem Kind.ofPure {e:Eff} {slot n:Nat} {f:HF} (hp:PureF f) (he:e=Eff.none):Kind e base slot n f:=by
 subst he
 exact⟨fun _=>hp,fun _ h=>(by cases h),fun _ _ _ _ _ _ _=>hp.read,fun _ _=>hp.loc⟩
theorem Kind.ofAll {e:Eff} {slot n:Nat} {f:HF} (he:e.all=true):Kind e base slot n f :=
 ⟨fun h=>(by simp[Eff.touches,he] at h),fun h=>(by rw[he] at h; cases h),fun h=>(by rw[he] at h; cases h),fun h=>(by rw[he] at h; cases h)⟩
theorem Kind.ofRead {e:Eff} {slot n:Nat} {f:HF} (hr:ReadF base f∧LocF e base slot n f) (ht:e.touches=true) (hf:e.fr=false):Kind e base slot n f :=
 ⟨fun h=>(by rw[ht] at h; cases h),fun _ h=>(by rw[hf] at h; cases h),fun _ _ _ _ _ _ _=>hr.1,fun _ _=>hr.2⟩
theorem Kind.ofLoc {e:Eff} {slot n:Nat} {f:HF} (hl:LocF e base slot n f) (hw:e.wv=true∨e.wr=true∨e.wm=true∨e.nw=true∨e.al=true) (hf:e.fr=false):Kind e base slot n f:=by
 refine⟨fun h=>?_,fun _ h=>(by rw[hf] at h; cases h),fun _ _ h1 h2 h3 h4 h5=>?_,fun _ _=>hl⟩
 ·rcases hw with h1 | h1 | h1 | h1 | h1<;>simp[Eff.touches,h1] at h
 ·simp[h1,h2,h3,h4,h5] at hw
theorem Kind.ofFr {e:Eff} {slot n:Nat} {f:HF} (hr:FrF base f) (hf:e.fr=true):Kind e base slot n f:=by
 refine⟨fun h=>?_,fun _ _=>hr,fun _ h=>(by rw[hf] at h; cases h),fun _ h=>(by rw[hf] at h; cases h)⟩
 simp[Eff.touches,hf] at h
def co (H:Hints) (o:LOper):Prop :=
 (aA (freshOf H) H.shared.contains o).all=true∨((aA (freshOf H) H.shared.contains o).al=o.slot.isSome∧(o.slot.isNone=true∨eC (freshOf H) o.op≠0))
theorem iH {o:LOper} {n:Nat} (hp:ic o.op=true) (he:aA (freshOf H) H.shared.contains o=Eff.none) (hs:co H o):Kind (aA (freshOf H) H.shared.contains o) base (o.slot.getD 0) n (goF prog r base o ts):=by
 refine .ofPure (.of ?_ ?_) he
 ·unfold co at hs
  rw[he] at hs
  rcases hs with h | ⟨h,_⟩
  ·cases h
  ·cases hsl:o.slot with
   | none=>rfl
   | some s=>rw[hsl] at h; cases h
 ·have hnc:∀ q g l,o.op≠.call q g l:=by intro q g l e; rw[e] at hp; cases hp
  intro h v h' hs
  rw[cn hnc,u5 hp] at hs
  obtain⟨p,hp1,hp2⟩:=Option.map_eq_some_iff.1 hs
  simp only[Prod.mk.injEq] at hp2
  obtain⟨rfl,rfl⟩:=hp2
  exact⟨rfl,fun h2=>by rw[cn hnc,u5 hp,hp1]; rfl⟩
theorem eH {o:LOper} (hop:(match o.op with | .new .. | .box _ | .mkNil _ | .makeSlice .. | .makeMap | .range _ | .buildSlice ..=>true | _=>false)=true)
  (he:aA (freshOf H) H.shared.contains o={ Eff.none with al:=true }) (hs:co H o):Kind (aA (freshOf H) H.shared.contains o) base (o.slot.getD 0) (eC (freshOf H) o.op) (goF prog r base o ts):=by
 unfold co at hs
 rw[he] at hs ⊢
 rcases hs with h | ⟨h,h0⟩
 ·cases h
 ·obtain⟨s,hsl⟩ : ∃ s,o.slot=some s:=by
   cases hsl:o.slot with
   | none=>rw[hsl] at h; cases h
   | some s=>exact⟨s,rfl⟩
  rw[hsl] at h0 ⊢
  refine .ofLoc (IT (by intro q g l e; rw[e] at hop; cases hop) hsl (by simpa using h0) rfl (Gl hop)) (by simp) rfl
theorem e9 {o:LOper} (hs:co H o) (h1:(aA (freshOf H) H.shared.contains o).all=false) (h2:(aA (freshOf H) H.shared.contains o).al=false):o.slot=none:=by
 rcases hs with h | ⟨h,_⟩
 ·rw[h1] at h; cases h
 ·rw[h2] at h
  cases hsl:o.slot with
  | none=>rfl
  | some s=>rw[hsl] at h; cases h
theorem lY {o:LOper} (hs:co H o) (h1:(aA (freshOf H) H.shared.contains o).all=false) (h2:(aA (freshOf H) H.shared.contains o).al=true):∃ s,o.slot=some s∧eC (freshOf H) o.op≠0:=by
 rcases hs with h | ⟨h,h0⟩
 ·rw[h1] at h; cases h
 ·rw[h2] at h
  cases hsl:o.slot with
  | none=>rw[hsl] at h; cases h
  | some s =>
   rw[hsl] at h0
   exact⟨s,rfl,by simpa using h0⟩
theorem GN (hH:HintOk H prog) {o:LOper} {f:LO} {args:List LO} (hop:o.op=.call true f args) (hs:co H o) :
  Kind (aA (freshOf H) H.shared.contains o) base (o.slot.getD 0) (eC (freshOf H) o.op) (goF prog r base o ts):=by
 have cT:aA (freshOf H) H.shared.contains o=Eff.none→Kind (aA (freshOf H) H.shared.contains o) base (o.slot.getD 0) (eC (freshOf H) o.op) (goF prog r base o ts):=by
  intro he
  have hsl:=e9 hs (by rw[he]; rfl) (by rw[he]; rfl)
  refine .ofPure (.of hsl fun h v h' hst=>?_) he
  rw[hop] at hst ⊢
  simp only[step] at hst ⊢
  split at hst
  ·rename_i g a b hg
   obtain⟨rfl,hall⟩:=j4 hst
   exact⟨rfl,fun h2=>hall h2⟩
  ·cases hst
 by_cases hlit:∃ g a b,f=.k (.c (.func g a b))
 ·obtain⟨g,a,b,rfl⟩:=hlit
  cases hsh:H.shared.contains g with
  | true=>exact .ofAll (by unfold aA; rw[hop]; simp only; rw[hsh]; rfl)
  | false =>
   have he:aA (freshOf H) H.shared.contains o={ Eff.none with al:=(freshOf H g).isSome }:=by unfold aA; rw[hop]; simp only; rw[hsh]; rfl
   cases hfr:freshOf H g with
   | none=>exact cT (by rw[he,hfr]; rfl)
   | some k =>
    have hnew:eC (freshOf H) o.op=k:=by rw[hop]; simp only[eC,hfr]; rfl
    obtain⟨s,hsl,h0⟩:=lY hs (by rw[he]; rfl) (by rw[he,hfr]; rfl)
    rw[hnew] at h0 ⊢
    rw[hsl]
    exact .ofLoc (Kp hH hop hsl hfr h0 (by rw[he,hfr]; rfl) hsh) (.inr (.inr (.inr (.inr (by rw[he,hfr]; rfl))))) (by rw[he]; rfl)
 ·refine cT ?_
  unfold aA
  rw[hop]
  simp only
  split
  all_goals first
   | rfl
   | (rename_i heq; injection heq with e1 e2 e3; exact absurd ⟨_,_,_,e2⟩ hlit)
   | (rename_i heq; cases heq; done)
   | (exact (‹∀ (f_1:LO) (args_1:List LO),LOp.call true f args=LOp.call true f_1 args_1→False› f args rfl).elim)
theorem PR (hH:HintOk H prog) {o:LOper} (hs:co H o):Kind (aA (freshOf H) H.shared.contains o) base (o.slot.getD 0) (eC (freshOf H) o.op) (goF prog r base o ts):=by
 obtain⟨op,hop⟩ : ∃ op,o.op=op:=⟨_,rfl⟩
 cases op with
 | call q f args =>
  cases q with
  | true=>exact GN hH hop hs
  | false =>
   by_cases hlit:∃ g a b,f=.k (.c (.func g a b))
   ·obtain⟨g,a,b,rfl⟩:=hlit
    cases hsh:H.shared.contains g with
    | true=>exact .ofAll (by unfold aA; rw[hop]; simp only; rw[hsh]; rfl)
    | false =>
     have he:aA (freshOf H) H.shared.contains o={ Eff.none with rv:=true,rr:=true,rm:=true,fr:=true,al:=(freshOf H g).isSome }:=by unfold aA; rw[hop]; simp only; rw[hsh]; rfl
     refine .ofFr (Q7 hH hop ?_ hsh) (by rw[he])
     rcases hs with h | ⟨h,_⟩
     ·rw[he] at h; cases h
     ·rw[he] at h; exact h
   ·refine .ofAll ?_
    unfold aA
    rw[hop]
    simp only
    split
    all_goals first
     | rfl
     | (rename_i heq; injection heq with e1 e2 e3; exact absurd ⟨_,_,_,e2⟩ hlit)
     | (rename_i heq; cases heq; done)
     | (rename_i heq; injection heq with e1 e2 e3; cases e1)
 | load z x =>
  cases hwh:o.wh with
  | any=>exact .ofAll (by unfold aA; rw[hop,hwh])
  | own=>exact .ofAll (by unfold aA; rw[hop,hwh])
  | new=>exact .ofAll (by unfold aA; rw[hop,hwh])
  | old =>
   have he:aA (freshOf H) H.shared.contains o={ Eff.none with rv:=true,rr:=true }:=by unfold aA; rw[hop,hwh]
   exact .ofRead (mM hop (e9 hs (by rw[he]; rfl) (by rw[he]; rfl)) (.inl ⟨hwh,by rw[he],by rw[he]⟩)) (by rw[he]; rfl) (by rw[he]; rfl)
  | var =>
   have he:aA (freshOf H) H.shared.contains o={ Eff.none with rv:=true }:=by unfold aA; rw[hop,hwh]
   exact .ofRead (mM hop (e9 hs (by rw[he]; rfl) (by rw[he]; rfl)) (.inr (.inl ⟨hwh,by rw[he]⟩))) (by rw[he]; rfl) (by rw[he]; rfl)
  | row =>
   have he:aA (freshOf H) H.shared.contains o={ Eff.none with rr:=true }:=by unfold aA; rw[hop,hwh]
   exact .ofRead (mM hop (e9 hs (by rw[he]; rfl) (by rw[he]; rfl)) (.inr (.inr ⟨hwh,by rw[he]⟩))) (by rw[he]; rfl) (by rw[he]; rfl)
 | store m x y =>
  cases hwh:o.wh with
  | any=>exact .ofAll (by unfold aA; rw[hop,hwh])
  | own=>exact .ofAll (by unfold aA; rw[hop,hwh])
  | new =>
   have he:aA (freshOf H) H.shared.contains o={ Eff.none with nw:=true }:=by unfold aA; rw[hop,hwh]
   exact .ofLoc (kz hop (e9 hs (by rw[he]; rfl) (by rw[he]; rfl)) (.inl ⟨hwh,by rw[he]⟩)) (.inr (.inr (.inr (.inl (by rw[he]))))) (by rw[he]; rfl)
  | old =>
   have he:aA (freshOf H) H.shared.contains o={ Eff.none with rv:=true,rr:=true,wv:=true,wr:=true }:=by unfold aA; rw[hop,hwh]
   exact .ofLoc (kz hop (e9 hs (by rw[he]; rfl) (by rw[he]; rfl)) (.inr (.inl ⟨hwh,by rw[he],by rw[he]⟩))) (.inl (by rw[he])) (by rw[he]; rfl)
  | var =>
   have he:aA (freshOf H) H.shared.contains o={ Eff.none with rv:=true,wv:=true }:=by unfold aA; rw[hop,hwh]
   exact .ofLoc (kz hop (e9 hs (by rw[he]; rfl) (by rw[he]; rfl)) (.inr (.inr (.inl ⟨hwh,by rw[he]⟩)))) (.inl (by rw[he])) (by rw[he]; rfl)
  | row =>
   have he:aA (freshOf H) H.shared.contains o={ Eff.none with rr:=true,wr:=true }:=by unfold aA; rw[hop,hwh]
   exact .ofLoc (kz hop (e9 hs (by rw[he]; rfl) (by rw[he]; rfl)) (.inr (.inr (.inr ⟨hwh,by rw[he]⟩)))) (.inr (.inl (by rw[he]))) (by rw[he]; rfl)
 | mapUpdate kn m k x =>
  cases hwh:o.wh with
  | old =>
   have he:aA (freshOf H) H.shared.contains o={ Eff.none with rm:=true,wm:=true }:=by unfold aA; rw[hop,hwh]
   exact .ofLoc (vm hop (e9 hs (by rw[he]; rfl) (by rw[he]; rfl)) hwh (by rw[he])) (.inr (.inr (.inl (by rw[he])))) (by rw[he]; rfl)
  | _=>exact .ofAll (by unfold aA; rw[hop,hwh])
 | lookup kn zero isOk x k =>
  cases hwh:o.wh with
  | old =>
   have he:aA (freshOf H) H.shared.contains o={ Eff.none with rm:=true }:=by unfold aA; rw[hop,hwh]
   exact .ofRead (BR hop (e9 hs (by rw[he]; rfl) (by rw[he]; rfl)) hwh (by rw[he])) (by rw[he]; rfl) (by rw[he]; rfl)
  | _=>exact .ofAll (by unfold aA; rw[hop,hwh])
 | len k x =>
  by_cases hk0:k=0
  ·subst hk0
   exact iH (by rw[hop]; simp[ic]) (by unfold aA; rw[hop]; simp) hs
  ·by_cases hk1:k=1
   ·subst hk1
    exact iH (by rw[hop]; simp[ic]) (by unfold aA; rw[hop]; simp) hs
   ·cases hwh:o.wh with
    | old =>
     have he:aA (freshOf H) H.shared.contains o={ Eff.none with rm:=true }:=by
      unfold aA; rw[hop,hwh]
      split<;>first | rfl | (rename_i heq; injection heq with e1 e2; exact absurd e1 hk0) | (rename_i heq; injection heq with e1 e2; exact absurd e1 hk1) | (rename_i heq; cases heq; done) | (exact (‹∀ (kind:Nat) (x_1:LO),LOp.len k x=LOp.len kind x_1→False› k x rfl).elim)
     exact .ofRead (Od hop hk0 hk1 (e9 hs (by rw[he]; rfl) (by rw[he]; rfl)) hwh (by rw[he])) (by rw[he]; rfl) (by rw[he]; rfl)
    | _ =>
     refine .ofAll ?_
     unfold aA; rw[hop,hwh]
     split<;>first | rfl | (rename_i heq; injection heq with e1 e2; exact absurd e1 hk0) | (rename_i heq; injection heq with e1 e2; exact absurd e1 hk1) | (rename_i heq; cases heq; done) | (exact (‹∀ (kind:Nat) (x_1:LO),LOp.len k x=LOp.len kind x_1→False› k x rfl).elim)
 | append z bytes s x =>
  cases hwh:o.wh with
  | new =>
   have he:aA (freshOf H) H.shared.contains o={ Eff.none with rv:=true,rr:=true,nw:=true,al:=true }:=by unfold aA; rw[hop,hwh]
   obtain⟨sl,hsl,h0⟩:=lY hs (by rw[he]; rfl) (by rw[he])
   rw[hsl]
   exact .ofLoc (mh hop hsl h0 (by rw[he]) (by rw[he]) (by rw[he]) (by rw[he]) (.inl hwh)) (.inr (.inr (.inr (.inl (by rw[he]))))) (by rw[he]; rfl)
  | row =>
   have he:aA (freshOf H) H.shared.contains o={ Eff.none with rv:=true,rr:=true,wr:=true,nw:=true,al:=true }:=by unfold aA; rw[hop,hwh]
   obtain⟨sl,hsl,h0⟩:=lY hs (by rw[he]; rfl) (by rw[he])
   rw[hsl]
   exact .ofLoc (mh hop hsl h0 (by rw[he]) (by rw[he]) (by rw[he]) (by rw[he]) (.inr (.inl ⟨hwh,by rw[he]⟩))) (.inr (.inr (.inr (.inl (by rw[he]))))) (by rw[he]; rfl)
  | own =>
   have he:aA (freshOf H) H.shared.contains o={ Eff.none with rv:=true,rr:=true,wr:=true,nw:=true,al:=true }:=by unfold aA; rw[hop,hwh]
   obtain⟨sl,hsl,h0⟩:=lY hs (by rw[he]; rfl) (by rw[he])
   rw[hsl]
   exact .ofLoc (mh hop hsl h0 (by rw[he]) (by rw[he]) (by rw[he]) (by rw[he]) (.inr (.inr ⟨hwh,by rw[he]⟩))) (.inr (.inr (.inr (.inl (by rw[he]))))) (by rw[he]; rfl)
  | _=>exact .ofAll (by unfold aA; rw[hop,hwh])
 | buildSlice k z len zs ps =>
  by_cases hk1:k=1
  ·subst hk1
   exact iH (by rw[hop]; simp[ic]) (by unfold aA; rw[hop]; simp) hs
  ·refine eH (by rw[hop]) ?_ hs
   unfold aA; rw[hop]
   split<;>first | rfl | (rename_i heq; injection heq with e1 e2; exact absurd e1 hk1) | (rename_i heq; cases heq; done) | (exact (‹∀ (const:Nat) (esz:Option Nat) (len_1:Nat) (zero:List LV) (parts:List (Nat × LO)),LOp.buildSlice k z len zs ps=LOp.buildSlice const esz len_1 zero parts→False› k z len zs ps rfl).elim)
 | new z=>exact eH (by rw[hop]) (by unfold aA; rw[hop]) hs
 | box x=>exact eH (by rw[hop]) (by unfold aA; rw[hop]) hs
 | mkNil z=>exact eH (by rw[hop]) (by unfold aA; rw[hop]) hs
 | makeSlice z b zs l c=>exact eH (by rw[hop]) (by unfold aA; rw[hop]) hs
 | makeMap=>exact eH (by rw[hop]) (by unfold aA; rw[hop]) hs
 | range x=>exact eH (by rw[hop]) (by unfold aA; rw[hop]) hs
 | copy sz a x=>exact .ofAll (by unfold aA; rw[hop])
 | clear z x=>exact .ofAll (by unfold aA; rw[hop])
 | next x=>exact .ofAll (by unfold aA; rw[hop])
 | sliceArr n z x lo hi mx=>exact .ofAll (by unfold aA; rw[hop])
 | bad n=>exact .ofAll (by unfold aA; rw[hop])
 | _=>exact iH (by rw[hop]; rfl) (by unfold aA; rw[hop]) hs
end
end LM
namespace LM
open Go Go.RowKit
section
variable {P:Program} {H:Hints} {prog:Nat→Option LFunc} {r:Run} {ts:List LV} {h h' : Heap} {pos:Option Nat} {base:Nat}
theorem Rf {ea eb:Eff} {sa na sb nb:Nat} {fa fb:HF} {va vb:LV} {h1 h2:Heap} (La:LocF ea base sa na fa) (Lb:LocF eb base sb nb fb) (hc1:ea.clash1 eb=false) (hc2:eb.clash1 ea=false) (hsl:sa+na≤sb∨sb+nb≤sa)
  (h1s:fa h=some (va,h1)) (h2s:fb h1=some (vb,h2)):∃ hb,fb h=some (vb,hb)∧fa hb=some (va,h2):=by
 obtain⟨Ra,Wa,la,ca,oa,ga,ra,wa⟩:=La h va h1 h1s
 obtain⟨Rb,Wb,lb,cb,ob,gb,rb,wb⟩:=Lb h1 vb h2 h2s
 simp only[Eff.clash1,Bool.or_eq_false_iff,Bool.and_eq_false_iff] at hc1 hc2
 -- what one turns the other does not look at
 have apart:∀ b:Nat,Wa b→¬ (Rb b∨Wb b):=by
  intro b hWa hRb
  rcases wa b hWa with ⟨hb,hcl⟩ | ⟨hb,hcl⟩
  ·have e:=ca b hb
   have hRb' : (cls h b=0∧(eb.rv=true∨eb.wv=true))∨(cls h b=1∧(eb.rr=true∨eb.wr=true))∨(cls h b=2∧(eb.rm=true∨eb.wm=true)):=by
    rcases hRb with hRb | hWb
    ·rcases rb b hRb with ⟨_,h3⟩ | ⟨h3,_⟩
     ·rw[e] at h3
      rcases h3 with ⟨x,y⟩ | ⟨x,y⟩ | ⟨x,y⟩
      ·exact .inl ⟨x,.inl y⟩
      ·exact .inr (.inl ⟨x,.inl y⟩)
      ·exact .inr (.inr ⟨x,.inl y⟩)
     ·omega
    ·rcases wb b hWb with ⟨_,h3⟩ | ⟨h3,_⟩
     ·rw[e] at h3
      rcases h3 with ⟨x,y⟩ | ⟨x,y⟩ | ⟨x,y⟩
      ·exact .inl ⟨x,.inr y⟩
      ·exact .inr (.inl ⟨x,.inr y⟩)
      ·exact .inr (.inr ⟨x,.inr y⟩)
     ·omega
   rcases hcl with ⟨x,y⟩ | ⟨x,y⟩ | ⟨x,y⟩<;>rcases hRb' with ⟨x',y'⟩ | ⟨x',y'⟩ | ⟨x',y'⟩<;>first | (omega) | skip
   all_goals (rcases y' with y' | y'<;>simp_all)
  ·rcases hRb with hRb | hWb
   ·rcases rb b hRb with ⟨h3,_⟩ | ⟨_,h3⟩
    ·omega
    ·rcases hcl with h4 | ⟨h4,_⟩<;>simp_all
   ·rcases wb b hWb with ⟨h3,_⟩ | ⟨_,h3⟩
    ·omega
    ·rcases hcl with h4 | ⟨h4,h5,h6⟩<;>rcases h3 with h3 | ⟨h3,h7,h8⟩
     ·simp_all
     ·simp_all
     ·simp_all
     ·omega
 have apart2:∀ b:Nat,Wb b→¬ Ra b:=by
  intro b hWb hRa
  rcases wb b hWb with ⟨hb,hcl⟩ | ⟨hb,hcl⟩
  ·rw[ca b hb] at hcl
   rcases ra b hRa with ⟨_,h3⟩ | ⟨h3,_⟩
   ·rcases hcl with ⟨x,y⟩ | ⟨x,y⟩ | ⟨x,y⟩<;>rcases h3 with ⟨x',y'⟩ | ⟨x',y'⟩ | ⟨x',y'⟩<;>first | (omega) | (simp_all; done)
   ·omega
  ·rcases ra b hRa with ⟨h3,_⟩ | ⟨_,h3⟩
   ·omega
   ·rcases hcl with h4 | ⟨h4,_⟩<;>simp_all
 obtain⟨hb,hb1,hb2,hb3⟩:=gb h la.symm fun b hx=>(oa b fun hw=>apart b hw hx).symm
 obtain⟨hab,ha1,ha2,ha3⟩:=ga hb (by rw[hb2]) fun b hx=>(hb3 b).2 fun hw=>by
  rcases hx with hx | hx
  ·exact apart2 b hw hx
  ·exact apart b hx (.inr hw)
 refine⟨hb,hb1,?_⟩
 rw[ha1]
 congr 2
 apply List.ext_getElem?
 intro b
 by_cases hwa:Wa b
 ·rw[(ha3 b).1 hwa]
  exact (ob b fun hw=>apart b hwa (.inr hw)).symm
 ·rw[(ha3 b).2 hwa]
  by_cases hwb:Wb b
  ·exact (hb3 b).1 hwb
  ·rw[(hb3 b).2 hwb,ob b hwb,oa b hwa]
theorem Nc {ea eb:Eff} {sa na sb nb:Nat} {fa fb:HF} {va vb:LV} {h1 h2:Heap} (Ka:Kind ea base sa na fa) (Kb:Kind eb base sb nb fb) (hc:ea.clash eb=false) (hsl:sa+na≤sb∨sb+nb≤sa)
  (h1s:fa h=some (va,h1)) (h2s:fb h1=some (vb,h2)):∃ hb,fb h=some (vb,hb)∧fa hb=some (va,h2):=by
 simp only[Eff.clash,Bool.or_eq_false_iff] at hc
 obtain⟨hc1,hc2⟩:=hc
 cases ta:ea.touches with
 | false =>
  obtain⟨rfl,hp⟩:=Ka.pure ta h va h1 h1s
  exact⟨h2,h2s,hp h2⟩
 | true =>
  cases tb:eb.touches with
  | false =>
   obtain⟨rfl,hp⟩:=Kb.pure tb h1 vb h2 h2s
   exact⟨h,hp h,h1s⟩
  | true =>
   have hc1':=hc1
   have hc2':=hc2
   simp only[Eff.clash1,Bool.or_eq_false_iff,Bool.and_eq_false_iff,ta,tb] at hc1 hc2
   have aall:ea.all=false:=by rcases hc1.1.1.1.1.1 with x | x<;>first | exact x | cases x
   have ball:eb.all=false:=by rcases hc2.1.1.1.1.1 with x | x<;>first | exact x | cases x
   cases fa' : ea.fr with
   | true =>
    have hb:=hc1.2
    rw[fa'] at hb
    rcases hb with x | x
    ·cases x
    ·obtain⟨⟨⟨⟨⟨x1,x2⟩,x3⟩,x4⟩,x5⟩,x6⟩:=x
     have hr:=Kb.read ball x6 x1 x2 x3 x4 x5
     have hf:=Ka.fr aall fa' h va h1 h1s
     obtain⟨rfl,hall⟩:=hr h1 vb h2 h2s
     exact⟨h,hall h hf.symm,h1s⟩
   | false =>
    cases fb' : eb.fr with
    | true =>
     have hb:=hc2.2
     rw[fb'] at hb
     rcases hb with x | x
     ·cases x
     ·obtain⟨⟨⟨⟨⟨x1,x2⟩,x3⟩,x4⟩,x5⟩,x6⟩:=x
      have hr:=Ka.read aall x6 x1 x2 x3 x4 x5
      obtain⟨rfl,hall⟩:=hr h va h1 h1s
      have hf:=Kb.fr ball fb' h1 vb h2 h2s
      exact⟨h2,h2s,hall h2 hf⟩
    | false=>exact Rf (Ka.loc aall fa') (Kb.loc ball fb') hc1' hc2' hsl h1s h2s
theorem Kind.ofPure' {e:Eff} {slot n:Nat} {f:HF} (hp:PureF f):Kind e base slot n f :=
 ⟨fun _=>hp,fun _ _ h v h' hs=>(hp h v h' hs).1 ▸ .refl base h,fun _ _ _ _ _ _ _=>hp.read,fun _ _=>hp.loc⟩
theorem qJ (hH:HintOk H prog) {o:LOper} (hs:co H o):Kind (aA (freshOf H) H.shared.contains o) base (o.slot.getD 0) (eC (freshOf H) o.op) (fun h=>gO prog r base o ts h):=by
 have skip:PureF (fun h:Heap=>some ((.c (.tuple []),h):LV × Heap)):=fun h v h' hs=>by
  simp only[Option.some.injEq,Prod.mk.injEq] at hs
  obtain⟨rfl,rfl⟩:=hs
  exact⟨rfl,fun h2=>rfl⟩
 have none' : PureF (fun _:Heap=>(none:Option (LV × Heap))):=fun h v h' hs=>by cases hs
 have hk:=PR (ts:=ts) (base:=base) (r:=r) hH hs
 cases hg:o.guard with
 | none =>
  have:(fun h=>gO prog r base o ts h)=goF prog r base o ts:=by
   funext h
   unfold gO goF
   simp only[hg]
  rw[this]
  exact hk
 | some gb =>
  obtain⟨t,b⟩:=gb
  have hv:∀ h,gO prog r base o ts h=match ts.getD t .undef with
    | .c (.bool b')=>if b' == b then goF prog r base o ts h else some (.c (.tuple []),h)
    | .c (.tuple [])=>some (.c (.tuple []),h)
    | _=>none:=by
   intro h
   unfold gO goF
   simp only[hg]<;>rfl
  have hv' : (fun h=>gO prog r base o ts h)=fun h=>match ts.getD t .undef with
    | .c (.bool b')=>if b' == b then goF prog r base o ts h else some (.c (.tuple []),h)
    | .c (.tuple [])=>some (.c (.tuple []),h)
    | _=>none:=funext hv
  rw[hv']
  split
  ·rename_i b' _
   by_cases hbb:(b' == b)=true
   ·simp only[hbb,if_true]
    exact hk
   ·simp only[hbb]
    exact .ofPure' skip
  ·exact .ofPure' skip
  ·exact .ofPure' none'
theorem RV (hH:HintOk H prog) {a b:LOper} {s s1 s2:St} (ha:co H a) (hb:co H b) (hi:nK H a b=true) (h1:aY prog r base a s=some s1) (h2:aY prog r base b s1=some s2) :
  ∃ s',aY prog r base b s=some s'∧aY prog r base a s'=some s2:=by
 unfold nK at hi
 simp only[Bool.and_eq_true,Bool.not_eq_true',List.all_eq_true,List.contains_eq_mem,decide_eq_false_iff_not] at hi
 obtain⟨⟨⟨hsl,hcl⟩,hda⟩,hdb⟩:=hi
 rw[kF,Option.map_eq_some_iff] at h1 h2
 obtain⟨⟨va,ha1⟩,hva,rfl⟩:=h1
 obtain⟨⟨vb,hb1⟩,hvb,rfl⟩:=h2
 simp only at hvb ⊢
 have na:∀ t,a.dst=some t→t ∉ ei b∧b.dst≠some t:=by
  intro t ht
  have:=hda t (by simp[jr,ht])
  refine⟨this.1,fun e=>this.2 ?_⟩
  simp[jr,e]
 have nb:∀ t,b.dst=some t→t ∉ ei a:=by
  intro t ht
  exact hdb t (by simp[jr,ht])
 have agb:Agree (ei b) (put s.tmps a.dst va) s.tmps:=fun t ht=>vU fun e=>(na t e).1 ht
 rw[oz agb] at hvb
 have hslots:a.slot.getD 0+eC (freshOf H) a.op≤b.slot.getD 0∨b.slot.getD 0+eC (freshOf H) b.op≤a.slot.getD 0:=by
  simp only[qz,wO,Bool.or_eq_true] at hsl
  exact hsl.imp of_decide_eq_true of_decide_eq_true
 obtain⟨hb2,e1,e2⟩:=Nc (qJ (ts:=s.tmps) (base:=base) (r:=r) hH ha) (qJ (ts:=s.tmps) (base:=base) (r:=r) hH hb) hcl hslots hva hvb
 refine⟨⟨put s.tmps b.dst vb,hb2⟩,by rw[kF,e1]; rfl,?_⟩
 have aga:Agree (ei a) (put s.tmps b.dst vb) s.tmps:=fun t ht=>vU fun e=>nb t e ht
 rw[kF]
 simp only
 rw[oz aga,e2]
 simp only[Option.map_some]
 rw[Nl fun t ht=>?_]
 intro e
 exact (na t e).2 ht
theorem Jm (hH:HintOk H prog) {g:Nat→LOper} (hfit:∀ i,co H (g i)) {i:Nat}:∀ (pre post:List Nat) (s s' : St),(∀ j ∈ pre,nK H (g j) (g i)=true)→au prog r base ((pre++i::post).map g) s=some s' →
  ∃ s1,aY prog r base (g i) s=some s1∧au prog r base ((pre++post).map g) s1=some s'
 | [],post,s,s',_,hs=>by
  simp only[List.nil_append,List.map_cons,au] at hs
  split at hs
  ·rename_i s1 h1
   exact⟨s1,h1,hs⟩
  ·cases hs
 | j::pre,post,s,s',hi,hs=>by
  simp only[List.cons_append,List.map_cons,au] at hs
  split at hs
  ·rename_i s1 h1
   obtain⟨s2,h2,h3⟩:=Jm hH hfit pre post s1 s' (fun k hk=>hi k (by simp[hk])) hs
   obtain⟨s3,h4,h5⟩:=RV hH (hfit j) (hfit i) (hi j (by simp)) h1 h2
   refine⟨s3,h4,?_⟩
   simp only[List.cons_append,List.map_cons,au,h5]
   exact h3
  ·cases hs
theorem pb {acc:List Nat} {j:Nat}:∀ {l:List Edge},(iR acc l).testBit j=true→∃ e ∈ l,Region.binds .any e=true∧(e.on=j∨(acc.getD e.on 0).testBit j=true)
 | [],h=>by simp[iR] at h
 | e::l,h=>by
  simp only[iR] at h
  split at h
  ·rename_i hb
   simp only[Nat.testBit_or,Bool.or_eq_true,Nat.testBit_two_pow,decide_eq_true_eq] at h
   rcases h with (h | h) | h
   ·exact⟨e,by simp,hb,.inl h⟩
   ·exact⟨e,by simp,hb,.inr h⟩
   ·obtain⟨e',he,h⟩:=pb h
    exact⟨e',by simp[he],h⟩
  ·obtain⟨e',he,h⟩:=pb h
   exact⟨e',by simp[he],h⟩
theorem jY:∀ (l:List Oper) (acc:List Nat) (i:Nat),i<acc.length→(eI l acc)[i]? = acc[i]?
 | [],acc,i,_=>rfl
 | o::l,acc,i,h=>by
  simp only[eI]
  rw[jY l _ i (by simp; omega),List.getElem?_append_left h]
theorem rz:∀ (l:List Oper) (acc:List Nat) (i:Nat) (o:Oper),l[i]? = some o→∃ acc' : List Nat,acc'.length=acc.length+i∧(eI l acc)[acc.length+i]? = some (iR acc' o.after.toList)∧∀ k,k<acc'.length→(eI l acc)[k]? = acc'[k]?
 | [],acc,i,o,h=>by simp at h
 | o'::l,acc,0,o,h=>by
  simp only[List.getElem?_cons_zero,Option.some.injEq] at h
  subst h
  refine⟨acc,rfl,?_,fun k hk=>?_⟩
  ·simp only[eI,Nat.add_zero]
   rw[jY l _ _ (by simp)]
   simp
  ·simp only[eI]
   rw[jY l _ _ (by simp; omega),List.getElem?_append_left hk]
 | o'::l,acc,i+1,o,h=>by
  obtain⟨acc',h1,h2,h3⟩:=rz l (acc++[iR acc o'.after.toList]) i o (by simpa using h)
  simp only[List.length_append,List.length_singleton] at h1 h2
  refine⟨acc',by omega,?_,fun k hk=>?_⟩
  ·simp only[eI]
   rw[← h2]
   congr 1
   omega
  ·simp only[eI]
   exact h3 k hk
def Jv (ops:Array Oper) (listed:Array Bool):Prop :=
 listed.size=ops.size∧∀ (j:Nat) (o:Oper),ops[j]? = some o→listed.getD j false=true→∀ e ∈ o.after,Region.binds .any e=true→listed.getD e.on false=true
theorem BN {ops:Array Oper} {listed:Array Bool} (hc:Jv ops listed):∀ (i:Nat) (o:Oper),ops[i]? = some o→(∀ e ∈ o.after,Region.binds .any e=true→listed.getD e.on false=true)→∀ j,((eI ops.toList []).getD i 0).testBit j=true→listed.getD j false=true:=by
 intro i
 induction i using Nat.strongRecOn with
 | _ i ih =>
  intro o ho hall j hj
  obtain⟨acc,h1,h2,h3⟩:=rz ops.toList [] i o (by simpa using ho)
  simp only[List.length_nil,Nat.zero_add] at h1 h2
  rw[List.getD_eq_getElem?_getD,h2] at hj
  simp only[Option.getD_some] at hj
  obtain⟨e,he,hb,hbit⟩:=pb hj
  have hl:=hall e (by simpa using he) hb
  rcases hbit with rfl | hbit
  ·exact hl
  ·by_cases hlt:e.on<acc.length
   ·have hlt' : e.on<ops.size:=by
     have:=(Array.getElem?_eq_some_iff.1 ho).1
     omega
    have he2:ops[e.on]? = some ops[e.on]:=Array.getElem?_eq_getElem hlt'
    refine ih e.on (by omega) ops[e.on] he2 (fun e' he' hb'=>hc.2 e.on _ he2 hl e' he' hb') j ?_
    rw[List.getD_eq_getElem?_getD,h3 e.on hlt,← List.getD_eq_getElem?_getD]
    exact hbit
   ·rw[List.getD_eq_getElem?_getD,List.getElem?_eq_none (by omega)] at hbit
    simp at hbit
theorem qZ {ops:Array Oper}:∀ (n k:Nat) (seen:List Nat),(∀ x ∈ seen,x<k)→qx .any ops seen (List.range' k n)=true→∀ (i:Nat) (o:Oper),k≤i→i<k+n→ops[i]? = some o→∀ e ∈ o.after,Region.binds .any e=true→e.on<i
 | 0,k,seen,_,_,i,o,h1,h2,_,_,_,_=>by omega
 | n+1,k,seen,hseen,ht,i,o,h1,h2,ho,e,he,hb=>by
  simp only[List.range'_succ,qx,Bool.and_eq_true] at ht
  by_cases hik:i=k
  ·subst hik
   have:=ht.1
   rw[ho] at this
   simp only[Array.all_eq_true_iff_forall_mem,Bool.or_eq_true,Bool.not_eq_true'] at this
   rcases this e he with h | h
   ·rw[hb] at h; cases h
   ·exact hseen _ (by simpa using h)
  ·exact qZ n (k+1) (k::seen) (fun x hx=>by
    simp only[List.mem_cons] at hx
    rcases hx with rfl | hx
    ·omega
    ·have:=hseen x hx; omega) ht.2 i o (by omega) (by omega) ho e he hb
def unl (n:Nat) (listed:Array Bool):List Nat:=(List.range n).filter fun i=>!listed.getD i true
theorem vA {listed:Array Bool} {i:Nat} {d:Bool} (h:i<listed.size):(listed.setIfInBounds i true).getD i d=true:=by
 simp[Array.getD_eq_getD_getElem?,h]
theorem PF {n i:Nat} {listed:Array Bool} (hi:i<listed.size):unl n (listed.setIfInBounds i true)=(unl n listed).filter (fun j=>j != i):=by
 unfold unl
 rw[List.filter_filter]
 apply List.filter_congr
 intro j _
 by_cases e:i=j
 ·subst e
  rw[vA hi]
  simp
 ·rw[getD_set_ne true e]
  have:(j != i)=true:=by simp; exact fun h=>e h.symm
  rw[this,Bool.true_and]
theorem u6 (hH:HintOk H prog) {ops:Array Oper} {g:Nat→LOper} (hfit:∀ i,co H (g i)) (hord:∀ (i:Nat) (o:Oper),ops[i]? = some o→∀ e ∈ o.after,Region.binds .any e=true→e.on<i)
  (hind:∀ j i,i<j→j<ops.size→((eI ops.toList []).getD j 0).testBit i=true∨nK H (g i) (g j)=true) {s' : St}:∀ (fuel t:Nat) (listed:Array Bool) (s:St),Jv ops listed→(unl ops.size listed).length≤fuel →
   au prog r base ((unl ops.size listed).map g) s=some s'→au prog r base ((Region.linearise.go .any ops fuel t listed []).map g) s=some s'
 | 0,t,listed,s,hc,hl,hs=>by
  have:unl ops.size listed=[]:=List.eq_nil_of_length_eq_zero (by omega)
  rw[this] at hs
  simpa[Region.linearise.go] using hs
 | fuel+1,t,listed,s,hc,hl,hs=>by
  simp only[Region.linearise.go]
  change au prog r base ((match (Region.ready .any ops listed)[t % (Region.ready .any ops listed).length]? with
   | some i=>Region.linearise.go .any ops fuel (t / (Region.ready .any ops listed).length) (listed.setIfInBounds i true) [i]
   | none=>[].reverse).map g) s=some s'
  cases hi:(Region.ready .any ops listed)[t % (Region.ready .any ops listed).length]? with
  | none =>
   have hnil:Region.ready .any ops listed=[]:=by
    cases hr:Region.ready .any ops listed with
    | nil=>rfl
    | cons x xs =>
     rw[hr] at hi
     have hlt:t % (x::xs).length<(x::xs).length:=Nat.mod_lt _ (by simp)
     rw[List.getElem?_eq_getElem hlt] at hi
     cases hi
   -- the least that is not listed would be ready
   have hun:unl ops.size listed=[]:=by
    cases hu:unl ops.size listed with
    | nil=>rfl
    | cons x xs =>
     exfalso
     have hx:x ∈ unl ops.size listed:=by rw[hu]; simp
     have hx':=hx
     unfold unl at hx'
     simp only[List.mem_filter,List.mem_range,Bool.not_eq_true'] at hx'
     obtain⟨hxs,hxl⟩:=hx'
     have hsorted:(unl ops.size listed).Pairwise (·<·):=List.Pairwise.filter _ List.pairwise_lt_range
     have ho:ops[x]? = some ops[x]:=Array.getElem?_eq_getElem hxs
     have hmem:x ∈ Region.ready .any ops listed:=by
      rw[mem_ready]
      refine⟨hxl,ops[x],ho,fun e he hb=>?_⟩
      have hlt:=hord x _ ho e he hb
      cases hle:listed.getD e.on true with
      | true =>
       have hsz:e.on<listed.size:=by rw[hc.1]; omega
       simp only[Array.getD_eq_getD_getElem?,Array.getElem?_eq_getElem hsz,Option.getD_some] at hle ⊢
       exact hle
      | false =>
       have hme:e.on ∈ unl ops.size listed:=by
        unfold unl
        simp only[List.mem_filter,List.mem_range,Bool.not_eq_true']
        exact⟨by omega,hle⟩
       rw[hu] at hme hsorted
       simp only[List.mem_cons] at hme
       rcases hme with h | h
       ·omega
       ·have:=(List.pairwise_cons.1 hsorted).1 _ h
        omega
     rw[hnil] at hmem
     cases hmem
   rw[hun] at hs
   simpa using hs
  | some i =>
   have hmem:i ∈ Region.ready .any ops listed:=List.mem_of_getElem? hi
   obtain⟨hun,o,ho,hall⟩:=mem_ready.1 hmem
   have his:i<ops.size:=(Array.getElem?_eq_some_iff.1 ho).1
   have hil:i<listed.size:=by rw[hc.1]; exact his
   simp only
   rw[linearise_go_acc,List.reverse_singleton,List.singleton_append,List.map_cons]
   have hiu:i ∈ unl ops.size listed:=by
    unfold unl
    simp only[List.mem_filter,List.mem_range,Bool.not_eq_true']
    exact⟨his,hun⟩
   obtain⟨pre,post,hsplit⟩:=List.append_of_mem hiu
   have hsorted:(unl ops.size listed).Pairwise (·<·):=List.Pairwise.filter _ List.pairwise_lt_range
   rw[hsplit] at hs hsorted
   have hpre:∀ j ∈ pre,j<i:=fun j hj=>(List.pairwise_append.1 hsorted).2.2 j hj i (by simp)
   have hpost:∀ j ∈ post,i<j:=fun j hj=>(List.pairwise_cons.1 (List.pairwise_append.1 hsorted).2.1).1 j hj
   have hindep:∀ j ∈ pre,nK H (g j) (g i)=true:=by
    intro j hj
    rcases hind i j (hpre j hj) his with h | h
    ·have h1:=BN hc i o ho hall j h
     have hju:j ∈ unl ops.size listed:=by rw[hsplit]; simp[hj]
     unfold unl at hju
     simp only[List.mem_filter,List.mem_range,Bool.not_eq_true'] at hju
     have hsz:j<listed.size:=by rw[hc.1]; exact hju.1
     have h2:=hju.2
     simp only[Array.getD_eq_getD_getElem?,Array.getElem?_eq_getElem hsz,Option.getD_some] at h1 h2
     rw[h1] at h2
     cases h2
    ·exact h
   obtain⟨s1,hs1,hrest⟩:=Jm hH hfit pre post s s' hindep hs
   simp only[au,hs1]
   have hset:unl ops.size (listed.setIfInBounds i true)=pre++post:=by
    rw[PF hil,hsplit,List.filter_append,List.filter_cons]
    have h1:(i != i)=false:=by simp
    rw[if_neg (by simp)]
    congr 1
    ·rw[List.filter_eq_self]
     intro j hj
     have:=hpre j hj
     simp; omega
    ·rw[List.filter_eq_self]
     intro j hj
     have:=hpost j hj
     simp; omega
   refine u6 hH hfit hord hind fuel _ _ s1 ⟨by simp[hc.1],fun j oj hoj hlj e he hb=>?_⟩ (by
    rw[hset]
    have:(unl ops.size listed).length=(pre++i::post).length:=by rw[hsplit]
    simp only[List.length_append,List.length_cons] at this ⊢
    omega) (by rw[hset]; exact hrest)
   by_cases hij:i=j
   ·subst hij
    rw[ho] at hoj
    simp only[Option.some.injEq] at hoj
    subst hoj
    exact getD_set_true (hall e he hb)
   ·rw[getD_set_ne false hij] at hlj
    exact getD_set_true (hc.2 j oj hoj hlj e he hb)
theorem Cd (hH:HintOk H prog) {ops:Array Oper} {L:List LOper} (hlen:L.length=ops.size) (hok:eD H ops L=true) {s s' : St} (hs:au prog r base L s=some s') (t:Nat) :
  au prog r base ((Region.linearise .any ops t).map (L.getD · default)) s=some s':=by
 unfold eD ID HE at hok
 simp only[Bool.and_eq_true,List.all_eq_true] at hok
 obtain⟨⟨hfit,hpairs⟩,htopo,_⟩:=hok
 have hdef:co H default:=.inr ⟨rfl,.inl rfl⟩
 have hfit' : ∀ i,co H (L.getD i default):=by
  intro i
  rw[List.getD_eq_getElem?_getD]
  cases hi:L[i]? with
  | none=>exact hdef
  | some o =>
   have:=hfit o (List.mem_of_getElem? hi)
   simp only[Bool.or_eq_true,Bool.and_eq_true,beq_iff_eq,bne_iff_ne,ne_eq] at this
   exact this
 have hmap:(List.range ops.size).map (L.getD · default)=L:=by
  rw[← hlen]
  apply List.ext_getElem?
  intro i
  by_cases hi:i<L.length
  ·simp[List.getElem?_map,List.getElem?_range hi,List.getD_eq_getElem?_getD,hi]
  ·rw[List.getElem?_eq_none (by simp; omega),List.getElem?_eq_none (by omega)]
 have hall:unl ops.size (Array.replicate ops.size false)=List.range ops.size:=by
  unfold unl
  rw[List.filter_eq_self]
  intro i hi
  simp only[List.mem_range] at hi
  simp[Array.getD_eq_getD_getElem?,hi]
 refine u6 hH hfit' (fun i o ho=>qZ ops.size 0 [] (by simp) (by rw[← List.range_eq_range']; exact htopo) i o (by omega) (by have:=(Array.getElem?_eq_some_iff.1 ho).1; omega) ho) (fun j i hij hj=>?_) ops.size t _ s ⟨by simp,fun j o ho hl=>?_⟩ (by rw[hall]; simp) (by rw[hall,hmap]; exact hs)
 ·have:=hpairs j (by simp; omega) i (by simp; exact hij)
  simpa[Bool.or_eq_true] using this
 ·have hj:=(Array.getElem?_eq_some_iff.1 ho).1
  simp[Array.getD_eq_getD_getElem?,hj] at hl
end
end LM
namespace LM
open Go Go.RowKit
variable {DS:List Deferred}
def fw (ρ:Option Nat):Fence:={ Fence.wide with round:=ρ }
section
variable {P:Program} {H:Hints} {prog:Nat→Option LFunc} {r:Run} {F:Fz} {J:JMap} {a:Act} {w:World} {h h' : Heap} {ops:Array Oper} {ρ:Option Nat}
theorem Pv {o:Oper} {next:Act→World→Prop} {Q:Exit→Act→World→Prop} {x:Result Next} (hx:o.upon P a next Q x):o.uponIn (fw ρ) 0 P a next Q x:=by
 cases x with
 | ok n w' =>
  cases n with
  | enter f args=>exact⟨(fun e=>nomatch e),callsIn_wide.2 hx⟩
  | row row args =>
   refine⟨(fun e=>nomatch e),fun c cs _=>?_⟩
   obtain⟨v,w2,h1,h2⟩:=hx c cs
   exact⟨v,w2,h1,stepsIn_wide.2 h2⟩
  | value v=>exact hx
  | skip=>exact hx
  | defer d=>exact hx
  | _=>exact hx.elim
 | halt e w' =>
  cases e with
  | panic v=>exact hx
  | _=>exact hx.elim
theorem JQ {q:Bool} {k:Nat} {ty:TypeId} {c:Call}:cOp P q k ty (.defer c)=none:=by
 simp[cOp]
theorem kO {o:Oper} {ev:Operand→Value} (hn:∀ c,o.op≠.defer c):o.semAt ρ ev=execOp ev o:=by
 cases ρ with
 | none=>rfl
 | some l =>
  unfold Oper.semAt
  split
  ·rename_i c _ _ hc
   exact absurd hc (hn _)
  ·rfl
theorem zk {lo:LOper} {o:Oper} {base:Nat} {s s' : St} (hrel:OperRel P ops lo o) (hs:bu prog r base lo s=some s'):∀ c,o.op≠.defer c:=by
 intro c hc
 obtain⟨q,k,n,hop⟩:=hrel.op
 rw[hc,JQ] at hop
 simp only[orBad,Option.getD_none] at hop
 unfold bu at hs
 rw[hop] at hs
 simp[step,ab] at hs
def SameBut (ds:List Nat) (a a' : Act):Prop:=∀ i,i ∉ ds→a'.tmps[i]? = a.tmps[i]?
theorem SameBut.put {lo:LOper} {o:Oper} (hrel:OperRel P ops lo o) (u:Value):SameBut (kU lo) a (a.put o.dst u):=by
 intro i hi
 unfold kU at hi
 rw[hrel.dst] at hi
 cases hd:o.dst with
 | none=>rfl
 | some d =>
  rw[hd] at hi
  simp only[List.mem_singleton] at hi
  simp only[Act.put]
  rw[Array.getElem?_setIfInBounds_ne (fun e=>hi e.symm)]
theorem SameBut.trans {ds ds' : List Nat} {a a1 a2:Act} (h:SameBut ds a a1) (k:SameBut ds' a1 a2):SameBut (ds++ds') a a2:=by
 intro i hi
 simp only[List.mem_append,not_or] at hi
 rw[k i hi.2,h i hi.1]
theorem mG (hP:ProgOk P H prog) (hr:dd P H r) {lo:LOper} {o:Oper} {base:Nat} {s s' : St} {K:Act→World→Prop} {Q:Exit→Act→World→Prop} (hrel:OperRel P ops lo o) (hs:bu prog r base lo s=some s')
  (hT:TRel DS F J s.tmps a) (hH:HRel F J s.heap w) (hK:∀ F' J' a' w',SameBut (kU lo) a a'→TRel DS F' J' s'.tmps a'→HRel F' J' s'.heap w'→Ext F J w F' J' w'→K a' w'):o.wpIn (fw ρ) 0 P a w K Q:=by
 refine⟨fun _ _=>trivial,?_⟩
 rw[kO (zk hrel hs)]
 exact Pv (Q8 hP hr hrel hs hT hH fun F' J' a' w' ⟨u,e⟩=>hK F' J' a' w' (by subst e; exact .put hrel u))
theorem vu (hP:ProgOk P H prog) (hr:dd P H r) {lo:LOper} {o:Oper} {base:Nat} {s s' : St} {K:Act→World→Prop} {Q:Exit→Act→World→Prop} (hrel:OperRel P ops lo o) (hs:aY prog r base lo s=some s')
  (hT:TRel DS F J s.tmps a) (hH:HRel F J s.heap w) (hK:∀ F' J' a' w',SameBut (kU lo) a a'→TRel DS F' J' s'.tmps a'→HRel F' J' s'.heap w'→Ext F J w F' J' w'→K a' w') :
  if Region.wanted o (yielded ops a.tmps) then o.wpIn (fw ρ) 0 P a w K Q else K (a.put o.dst undef) w:=by
 have skip:∀ s1:St,some (⟨put s.tmps lo.dst (.c (.tuple [])),s.heap⟩ : St)=some s1→s1=s'→K (a.put o.dst undef) w:=by
  intro s1 e1 e2
  simp only[Option.some.injEq] at e1
  subst e1
  subst e2
  exact hK F J _ w (.put hrel _) (by rw[hrel.dst]; exact hT.put o.dst Kn) hH (.refl F J w)
 have hg:=hrel.guard
 cases hgu:o.guard with
 | none =>
  rw[hgu] at hg
  have hw:Region.wanted o (yielded ops a.tmps)=true:=by unfold Region.wanted; rw[hgu]
  rw[if_pos hw]
  unfold aY at hs
  rw[hg] at hs
  exact mG hP hr hrel hs hT hH hK
 | some gb =>
  obtain⟨j,b⟩:=gb
  rw[hgu] at hg
  obtain⟨t,ht,hlg⟩:=hg
  have hy:yielded ops a.tmps j=match a.tmps[t]? with | some (.bool b)=>some b | _=>none:=by
   unfold yielded
   rw[ht]
   rfl
  have hw:Region.wanted o (yielded ops a.tmps)=(yielded ops a.tmps j == some b):=by unfold Region.wanted; rw[hgu]
  have tv:∀ v,s.tmps.getD t .undef=.c v→∃ u,a.tmps[t]? = some u∧CRel F v u:=by
   intro v hv
   cases hx:s.tmps[t]? with
   | none=>rw[List.getD_eq_getElem?_getD,hx] at hv; cases hv
   | some x =>
    rw[List.getD_eq_getElem?_getD,hx] at hv
    simp only[Option.getD_some] at hv
    subst hv
    obtain⟨u,hu,hr⟩:=hT.rel t _ hx
    exact⟨u,hu,hr.of_c⟩
  unfold aY at hs
  rw[hlg] at hs
  simp only at hs
  split at hs
  ·rename_i b' hb'
   obtain⟨u,hu,hc⟩:=tv _ hb'
   cases hc
   rw[hy,hu] at hw
   simp only[Option.some_beq_some] at hw
   split at hs
   ·rename_i hbb
    rw[hw,if_pos hbb]
    exact mG hP hr hrel hs hT hH hK
   ·rename_i hbb
    rw[hw,if_neg hbb]
    simp only[Option.some.injEq] at hs
    exact skip _ rfl hs
  ·rename_i hb'
   obtain⟨u,hu,hc⟩:=tv _ hb'
   have hun:(match a.tmps[t]? with | some (.bool b)=>some b | _=>none:Option Bool)=none:=by
    rw[hu]
    cases hc
    rfl
   rw[hy,hun] at hw
   rw[hw]
   simp only[Option.some.injEq] at hs
   exact skip _ rfl hs
  ·cases hs
theorem pG (hP:ProgOk P H prog) (hr:dd P H r) {L:List LOper} (hL:∀ (i:Nat) (o:Oper),ops[i]? = some o→OperRel P ops (L.getD i default) o) {base:Nat} {Q:Exit→Act→World→Prop} :
  ∀ (l:List Nat) (s s' : St) (F:Fz) (J:JMap) (a:Act) (w:World),(∀ i ∈ l,i<ops.size)→au prog r base (l.map (L.getD · default)) s=some s'→TRel DS F J s.tmps a→HRel F J s.heap w →
   (∀ F' J' a' w',SameBut ((l.map (L.getD · default)).flatMap kU) a a'→TRel DS F' J' s'.tmps a'→HRel F' J' s'.heap w'→Ext F J w F' J' w'→Q .normal a' w')→wpOpsIn (fw ρ) 0 P ops Q l a w
 | [],s,s',F,J,a,w,_,hs,hT,hH,hQ=>by
  simp only[List.map_nil,au,Option.some.injEq] at hs
  subst hs
  exact hQ F J a w (fun _ _=>rfl) hT hH (.refl F J w)
 | i::l,s,s',F,J,a,w,hl,hs,hT,hH,hQ=>by
  have hi:i<ops.size:=hl i (by simp)
  simp only[List.map_cons,au] at hs
  split at hs
  ·rename_i s1 hs1
   have ho:ops[i]? = some ops[i]:=Array.getElem?_eq_getElem hi
   have:=vu (ρ:=ρ) (ops:=ops) (o:=ops[i]) (K:=wpOpsIn (fw ρ) 0 P ops Q l) (Q:=Q) hP hr (hL i _ ho) hs1 hT hH fun F' J' a' w' hA hT' hH' hE' =>
    pG hP hr hL l s1 s' F' J' a' w' (fun j hj=>hl j (by simp[hj])) hs hT' hH' fun F2 J2 a2 w2 hA2 hT2 hH2 hE2=>hQ F2 J2 a2 w2 (by simpa using hA.trans hA2) hT2 hH2 (hE'.trans hE2)
   simp only[wpOpsIn,ho]
   split
   ·rename_i hw
    rw[if_pos hw] at this
    exact this
   ·rename_i hw
    rw[if_neg hw] at this
    exact⟨fun _ _=>trivial,this⟩
  ·cases hs
end
def LapsIn (F:Fence) (P:Program) (c:Code) (Q:Exit→Act→World→Prop) (a:Act) (w:World):Prop :=
 ∀ (b:Frame) (k:List Item) (cs:List Frame),b.roundOf=F.round→F.fn b.fn→F.room (cs.length+1+0) →
  ∃ e a' w',Q e a' w'∧ArrivesIn (Machine.fenced P F) P (lone (b.atR a (.code c::.inLoop c::k)) cs w) b k cs e a' w'
section
variable {P:Program} {c:Code} {Q:Exit→Act→World→Prop} {a:Act} {w:World} {F:Fence}
theorem LapsIn.intro (h:c.wpIn F 0 P (Exit.then (LapsIn F P c Q) Q) a w):LapsIn F P c Q a w:=by
 intro b k cs hro hb hr
 obtain⟨e,a₁,w₁,hq,harr⟩:=h b (.inLoop c::k) cs hro hb hr
 cases e with
 | normal =>
  obtain⟨e₂,a₂,w₂,hq₂,harr₂⟩:=hq b k cs hro hb hr
  exact⟨e₂,a₂,w₂,hq₂,.of_steps (StepsIn.trans harr (.one (fenced_calm hb hr rfl) stepR_inLoop)) harr₂⟩
 | exit id=>exact⟨_,a₁,w₁,hq,.pass (x:=.inLoop c) rfl (fun _ _=>.inl (by simp)) harr⟩
 | goto l=>exact⟨_,a₁,w₁,hq,.pass (x:=.inLoop c) rfl (fun _ _=>.inl (by simp)) harr⟩
 | ret=>exact⟨_,a₁,w₁,hq,.pass (x:=.inLoop c) rfl (fun _ _=>.inl (by simp)) harr⟩
 | panic ch=>exact⟨_,a₁,w₁,hq,.pass (x:=.inLoop c) rfl (fun _ _=>.inl (by simp)) harr⟩
 | outgrown=>exact⟨_,a₁,w₁,hq,.pass (x:=.inLoop c) rfl (fun _ _=>.inl (by simp)) harr⟩
theorem LapsIn.wp (h:LapsIn F P c Q a w):(Code.loop c).wpIn F 0 P Q a w:=fun b k cs hro hb hr =>
 let ⟨e,a',w',hq,harr⟩:=h b k cs hro hb hr
 ⟨e,a',w',hq,.of_steps (.one (fenced_calm hb hr rfl) stepR_loop) harr⟩
def ConclIn (F:Fence) (P:Program) (c:Code) (Q:Exit→Act→World→Prop) (a:Act) (w:World):Prop :=
 match c with
 | .loop body=>LapsIn F P body Q a w
 | c=>c.wpIn F 0 P Q a w
theorem ConclIn.wp (h:ConclIn F P c Q a w):c.wpIn F 0 P Q a w:=by
 cases c<;>first | exact h | exact LapsIn.wp h
end
end LM
namespace LM
open Go Go.RowKit
def fg:Ex→Code
 | .normal=>.skip
 | .exit id=>.exit id
 | .ret=>.ret
def RecAt (l:Nat) (rec:Loop) (p:Option Ex) (w:World):Prop:=w.heap[l]? = some (.loop { rec with state:=if p.isNone then .ready else .done,pending:=p.map fg })
def nz (l:Nat) (rec:Loop) (w:World):World:=w.putObj l (.loop { rec with state:=.ready,pending:=none })
section
variable {P:Program} {H:Hints} {prog:Nat→Option LFunc} {r:Run} {F F' : Fz} {J J' : JMap} {a:Act} {w w' : World} {h h' : Heap} {ops:Array Oper} {l:Nat} {rec:Loop}
theorem gX (w:World) (l:Nat) (o o' : Obj):(w.putObj l o).putObj l o'=w.putObj l o':=by
 simp[World.putObj]
theorem BT {o:Obj} (h:w.heap[l]? = some o):w.putObj l o=w:=by
 have:w.heap.setIfInBounds l o=w.heap:=by
  apply Array.ext_getElem?
  intro i
  rw[Array.getElem?_setIfInBounds]
  split
  ·rename_i e
   subst e
   split
   ·exact h.symm
   ·rename_i hn
    rw[Array.getElem?_eq_none (by omega)] at h
    cases h
  ·rfl
 unfold World.putObj
 rw[this]
theorem RecAt.nz (h:RecAt l rec none w):nz l rec w=w:=BT h
theorem RecAt.lt {p:Option Ex} (h:RecAt l rec p w):l<w.heap.size:=(Array.getElem?_eq_some_iff.1 h).1
theorem Ext.putBoth (hE:Ext F J w F' J' w') (hl:l<w.heap.size) (o:Obj):Ext F J (w.putObj l o) F' J' (w'.putObj l o):=by
 refine⟨hE.fle,hE.jle,hE.os,hE.tape,hE.output,by simpa using hE.size,fun cb hcb hne=>?_,fun b i hi hv hlt=>hE.own b i hi hv (by simpa using hlt)⟩
 obtain⟨h1,h2,h3⟩:=hE.blk cb (by simpa using hcb) hne
 refine⟨?_,h2,h3⟩
 by_cases e:cb=l
 ·subst e
  rw[World.putObj_heap_same hl,World.putObj_heap_same (Nat.lt_of_lt_of_le hl hE.size)]
 ·rw[World.putObj_heap_other e,World.putObj_heap_other e]
  exact h1
theorem HRel.nz {p:Option Ex} (hH:HRel F J h w) (hR:RecAt l rec p w):HRel F J h (nz l rec w):=hH.putObj _ hR rfl
theorem Ext.nz {p:Option Ex} (hE:Ext F J w F' J' w') (hR:RecAt l rec p w):Ext F J (nz l rec w) F' J' (nz l rec w'):=hE.putBoth hR.lt _
theorem RecAt.ext {p:Option Ex} (hR:RecAt l rec p w) (hH:HRel F J h w) (hE:Ext F J w F' J' w'):RecAt l rec p w':=hE.foreign hH hR rfl
structure TRelI (l:Nat) (F:Fz) (J:JMap) (ts:List LV) (a:Act):Prop where
 defers:a.defers=[]
 size:a.tmps.size=ts.length
 rel:∀ (t:Nat) (x:LV),ts[t]? = some x→∃ u,a.tmps[t]? = some u∧(isMark x=true→u=.func (.yield l) #[] #[])∧(isMark x=false→VRel F J x u)
theorem TRelI.mono {ts:List LV} (h:TRelI l F J ts a) (hF:F.le F') (hJ:JLe J J'):TRelI l F' J' ts a :=
 ⟨h.defers,h.size,fun t x hx=>let ⟨u,h1,h2,h3⟩:=h.rel t x hx; ⟨u,h1,h2,fun hm=>(h3 hm).mono hF hJ⟩⟩
theorem TRelI.unmark {ts:List LV} (h:TRelI l F J ts a):TRel [] F J (LM.unmark ts) a:=by
 refine⟨h.defers,by simp[LM.unmark,h.size],fun t x hx=>?_⟩
 unfold LM.unmark at hx
 rw[List.getElem?_map,Option.map_eq_some_iff] at hx
 obtain⟨y,hy,rfl⟩:=hx
 obtain⟨u,h1,_,h3⟩:=h.rel t y hy
 refine⟨u,h1,?_⟩
 split
 ·exact .undef u
 ·rename_i hm
  exact h3 (by simpa using hm)
theorem B4 {ts:List LV} {t:Nat} (hm:isMark (ts.getD t .undef)=false):(unmark ts).getD t .undef=ts.getD t .undef:=by
 unfold unmark
 rw[List.getD_eq_getElem?_getD,List.getElem?_map,List.getD_eq_getElem?_getD] at *
 cases hx:ts[t]? with
 | none=>rfl
 | some x =>
  rw[hx] at hm
  simp only[Option.getD_some] at hm
  simp[hm]
theorem ro {ds:List Nat}:∀ {k:Nat} {old new:List LV} {t:Nat} {x:LV},(remark ds k old new)[t]? = some x→(∃ o,old[t]? = some o∧isMark o=true∧(k+t) ∉ ds∧x=o)∨new[t]? = some x
 | k,[],new,t,x,h=>by simp only[remark] at h; exact .inr h
 | k,o::os,[],t,x,h=>by simp[remark] at h
 | k,o::os,n::ns,t,x,h=>by
  simp only[remark] at h
  cases t with
  | zero =>
   simp only[List.getElem?_cons_zero,Option.some.injEq] at h
   split at h
   ·rename_i hc
    simp only[Bool.and_eq_true,Bool.not_eq_true',List.contains_eq_mem,decide_eq_false_iff_not] at hc
    exact .inl ⟨o,rfl,hc.1,by simpa using hc.2,h.symm⟩
   ·exact .inr (by simp[h])
  | succ t =>
   simp only[List.getElem?_cons_succ] at h
   rcases ro h with ⟨o',h1,h2,h3,h4⟩ | h1
   ·exact .inl ⟨o',by simpa using h1,h2,by rw[show k+(t+1)=k+1+t by omega]; exact h3,h4⟩
   ·exact .inr (by simpa using h1)
theorem mF {ds:List Nat}:∀ {k:Nat} {old new:List LV},(remark ds k old new).length=new.length
 | _,[],_=>by simp[remark]
 | _,_::_,[]=>by simp[remark]
 | _,_::os,_::ns=>by simp[remark,mF (old:=os) (new:=ns)]
theorem TRelI.remark {a' : Act} {ds:List Nat} {ts ts' : List LV} (h:TRelI l F J ts a) (hA:SameBut ds a a') (hT:TRel [] F' J' ts' a') (hm:ts'.any isMark=false):TRelI l F' J' (LM.remark ds 0 ts ts') a':=by
 refine⟨hT.defers,by rw[mF]; exact hT.size,fun t x hx=>?_⟩
 rcases ro hx with ⟨o,h1,h2,h3,rfl⟩ | h1
 ·obtain⟨u,q1,q2,_⟩:=h.rel t x h1
  refine⟨u,by rw[hA t (by simpa using h3)]; exact q1,q2,fun hf=>?_⟩
  rw[h2] at hf
  cases hf
 ·obtain⟨u,q1,q2⟩:=hT.rel t x h1
  have:isMark x=false:=by
   rw[List.any_eq_false] at hm
   have:=hm x (List.mem_of_getElem? h1)
   simpa using this
  exact⟨u,q1,fun hf=>(by rw[this] at hf; cases hf),fun _=>q2⟩
theorem TRelI.put {ts:List LV} (h:TRelI l F J ts a) (dst:Option Nat) {v:LV} {u:Value} (h1:isMark v=true→u=.func (.yield l) #[] #[]) (h2:isMark v=false→VRel F J v u):TRelI l F J (LM.put ts dst v) (a.put dst u):=by
 cases dst with
 | none=>exact h
 | some d =>
  refine⟨h.defers,by simp[Act.put,LM.put,h.size],fun t x hx=>?_⟩
  simp only[LM.put,List.getElem?_set] at hx
  simp only[Act.put,Array.getElem?_setIfInBounds]
  by_cases e:d=t
  ·subst e
   rw[if_pos rfl] at hx
   split at hx
   ·rename_i hlt
    injection hx with hx
    subst hx
    exact⟨u,by rw[if_pos rfl,if_pos (by rw[h.size]; exact hlt)],h1,h2⟩
   ·cases hx
  ·rw[if_neg e] at hx
   obtain⟨u',hu',q1,q2⟩:=h.rel t x hx
   exact⟨u',by rw[if_neg e]; exact hu',q1,q2⟩
def pL (Cx:Fz→JMap→World→Prop):Prop:=∀ {F:Fz} {J:JMap} {h:Heap} {w:World} {F' : Fz} {J' : JMap} {w' : World},Cx F J w→HRel F J h w→Ext F J w F' J' w'→Cx F' J' w'
def Gm (l:Nat) (rec:Loop) (F:Fz) (J:JMap) (w:World) (h' : Heap) (j:Option Ex):Ending→World→Prop:=fun e w' =>
 ∃ F' J',e=.returned (.bool j.isNone)∧HRel F' J' h' w'∧Ext F J (nz l rec w) F' J' (nz l rec w')∧RecAt l rec j w'
def kZ (P:Program) (yh:dG) (l:Nat) (rec:Loop) (Cx:Fz→JMap→World→Prop):Prop :=
 ∀ (args:List LV) (h1 h2:Heap) (j:Option Ex),yh args h1=some (h2,j)→∀ (F:Fz) (J:JMap) (us:List Value) (w:World),AllV F J args us→HRel F J h1 w→RecAt l rec none w→Cx F J (nz l rec w) →
  YieldAt Fence.wide 0 P l us.toArray w (Gm l rec F J w h2 j)
theorem wo {x:Operand} {y:LO} {ts:List LV} (hx:aE x=some y) (hm:isMark (ev ts y)=true):∃ t,x=.tmp t∧y=.t t:=by
 cases x with
 | tmp t=>simp only[aE,Option.some.injEq] at hx; exact⟨t,rfl,hx.symm⟩
 | const v =>
  simp only[aE,Option.map_eq_some_iff] at hx
  obtain⟨z,hz,rfl⟩:=hx
  simp only[ev] at hm
  unfold ng at hz
  split at hz<;>first | (cases hz; done) | (simp only[Option.some.injEq] at hz; subst hz; cases hm)
 | global g=>simp[aE] at hx
 | func f=>simp only[aE,Option.some.injEq] at hx; subst hx; cases hm
theorem vd {ts:List LV} {t:Nat} (hT:TRelI l F J ts a) (hm:isMark (ts.getD t .undef)=true):a.eval (.tmp t)=.func (.yield l) #[] #[]:=by
 cases hx:ts[t]? with
 | none=>rw[List.getD_eq_getElem?_getD,hx] at hm; cases hm
 | some x =>
  rw[List.getD_eq_getElem?_getD,hx] at hm
  obtain⟨u,h1,h2,_⟩:=hT.rel t x hx
  show a.tmps.getD t undef=_
  rw[Array.getD_eq_getD_getElem?,h1]
  exact h2 hm
theorem uU {ts:List LV} {x:LO} (hm:isMark (ev ts x)=false):ev (unmark ts) x=ev ts x:=by
 cases x with
 | k v=>rfl
 | t i=>exact B4 hm
theorem qu {ts:List LV}:∀ {xs:List LO},(xs.map (ev ts)).any isMark=false→xs.map (ev (unmark ts))=xs.map (ev ts)
 | [],_=>rfl
 | x::xs,hm=>by
  simp only[List.map_cons,List.any_cons,Bool.or_eq_false_iff] at hm ⊢
  rw[uU hm.1,qu hm.2]
theorem Bm {q:Bool} {k:Nat} {ty:TypeId} {op:Op} {t:Nat} (h:cOp P q k ty op=some (.move (.t t))):op=.move (.tmp t)∨op=.assign (.tmp t):=by
 have key:∀ x,eT P q ty x=some (.move (.t t))→x=.tmp t:=by
  intro x hx
  cases x with
  | tmp t' =>
   have:eT P q ty (.tmp t')=o1 (.tmp t') .move:=by
    unfold eT
    split
    ·rename_i e _; cases e
    ·rfl
   rw[this] at hx
   simpa[o1,aE] using hx
  | const v =>
   unfold eT at hx
   split at hx
   ·split at hx
    ·split at hx<;>simp at hx
    ·cases hx
   ·simp[o1,aE] at hx
  | global g=>simp[eT,o1,aE] at hx
  | func f=>simp[eT,o1,aE] at hx
 have no1:∀ {x:Operand} {f:LO→LOp},(∀ y,f y≠.move (.t t))→o1 x f≠some (.move (.t t)):=fun hf h=>by obtain⟨y,_,e⟩:=bY h; exact hf y e
 have no2:∀ {x y:Operand} {f:LO→LO→LOp},(∀ a b,f a b≠.move (.t t))→o2 x y f≠some (.move (.t t)):=fun hf h=>by obtain⟨a,b,_,_,e⟩:=cG h; exact hf a b e
 have no3:∀ {x y z:Operand} {f:LO→LO→LO→LOp},(∀ a b c,f a b c≠.move (.t t))→o3 x y z f≠some (.move (.t t)):=fun hf h=>by obtain⟨a,b,c,_,_,_,e⟩:=lF h; exact hf a b c e
 unfold cOp at h
 split at h
 case _=>exact .inl (by rw[key _ h])
 case _=>exact .inr (by rw[key _ h])
 all_goals (try (repeat' split at h))
 all_goals first
  | (cases h; done)
  | (exact absurd h (no1 (by simp)))
  | (exact absurd h (no2 (by simp)))
  | (exact absurd h (no3 (by simp)))
  | (simp at h; done)
  | (simp[Option.map_eq_some_iff] at h; done)
  | skip
 all_goals
  exfalso
  unfold gd at h
  repeat' split at h
 all_goals first
  | (cases h; done)
  | (exact absurd h (no1 (by simp)))
  | (exact absurd h (no2 (by simp)))
  | (simp at h; done)
end
end LM
namespace LM
open Go Go.RowKit
section
variable {P:Program} {H:Hints} {prog:Nat→Option LFunc} {r:Run} {F F' : Fz} {J J' : JMap} {a:Act} {w w' : World} {h h' : Heap} {ops:Array Oper} {l:Nat} {rec:Loop} {yh:dG} {Cx:Fz→JMap→World→Prop}
def nX (l:Nat) (rec:Loop) (Cx:Fz→JMap→World→Prop) (F:Fz) (J:JMap) (w:World) (s' : St) (p' : Option Ex) (K:Act→World→Prop):Prop :=
 ∀ F' J' a' w',TRelI l F' J' s'.tmps a'→RecAt l rec p' w'→Cx F' J' (nz l rec w')→HRel F' J' s'.heap w'→Ext F J (nz l rec w) F' J' (nz l rec w')→K a' w'
theorem mR (hP:ProgOk P H prog) (hr:dd P H r) (hC:pL Cx) {lo:LOper} {o:Oper} {s s' : St} {p p' : Option Ex} {K:Act→World→Prop} {Q:Exit→Act→World→Prop} (hrel:OperRel P ops lo o) (hs:dP prog r lo s p=some (s',p'))
  (hT:TRelI l F J s.tmps a) (hR:RecAt l rec p w) (hX:Cx F J (nz l rec w)) (hH:HRel F J s.heap w) (hK:nX l rec Cx F J w s' p' K):o.wpIn Fence.wide 0 P a w K Q:=by
 unfold dP at hs
 split at hs
 ·rename_i s1 hs1
  split at hs
  ·cases hs
  ·rename_i hm
   simp only[Option.some.injEq,Prod.mk.injEq] at hs
   obtain⟨rfl,rfl⟩:=hs
   refine mG (ρ:=none) hP hr hrel hs1 hT.unmark hH fun F' J' a' w' hA hT' hH' hE'=>?_
   exact hK F' J' a' w' (hT.remark hA hT' (by simpa using hm)) (hR.ext hH hE') (hC hX (hH.nz hR) (hE'.nz hR)) hH' (hE'.nz hR)
 ·cases hs
theorem Ke (hP:ProgOk P H prog) (hr:dd P H r) (hC:pL Cx) (hY:kZ P yh l rec Cx) {lo:LOper} {o:Oper} {s s' : St} {p p' : Option Ex} {K:Act→World→Prop} {Q:Exit→Act→World→Prop} (hrel:OperRel P ops lo o) (hs:opI prog r yh lo s p=some (s',p'))
  (hT:TRelI l F J s.tmps a) (hR:RecAt l rec p w) (hX:Cx F J (nz l rec w)) (hH:HRel F J s.heap w) (hK:nX l rec Cx F J w s' p' K):o.wpIn Fence.wide 0 P a w K Q:=by
 obtain⟨q0,k0,n0,hop⟩:=hrel.op
 unfold opI at hs
 split at hs
 ·rename_i x hx
  split at hs
  ·rename_i hm
   split at hs
   ·simp only[Option.some.injEq,Prod.mk.injEq] at hs
    obtain⟨rfl,rfl⟩:=hs
    rw[hx] at hop
    cases hc:cOp P q0 k0 o.type o.op with
    | none=>rw[hc] at hop; simp[orBad] at hop
    | some lop =>
     rw[hc] at hop
     simp only[orBad,Option.getD_some] at hop
     subst hop
     obtain⟨t,rfl⟩ : ∃ t,x=.t t:=by
      cases x with
      | t t=>exact⟨t,rfl⟩
      | k v =>
       exfalso
       simp only[ev] at hm
       have:∀ y,cOp P q0 k0 o.type o.op=some (.move (.k y))→isMark y=false:=by
        intro y hy
        have kc:∀ z:Operand,aE z=some (.k y)→isMark y=false:=by
         intro z hz
         cases hmy:isMark y with
         | false=>rfl
         | true =>
          obtain⟨t,_,e⟩:=wo (ts:=[]) hz hmy
          cases e
        have km:∀ z,eT P q0 o.type z=some (.move (.k y))→isMark y=false:=by
         intro z hz
         unfold eT at hz
         split at hz
         ·split at hz
          ·split at hz<;>simp at hz
          ·cases hz
         ·unfold o1 at hz
          rw[Option.map_eq_some_iff] at hz
          obtain⟨y',hy',he⟩:=hz
          simp only[LOp.move.injEq] at he
          subst he
          exact kc _ hy'
        have no1:∀ {x:Operand} {f:LO→LOp},(∀ y',f y'≠.move (.k y))→o1 x f≠some (.move (.k y)):=fun hf h=>by obtain⟨y,_,e⟩:=bY h; exact hf y e
        have no2:∀ {x y' : Operand} {f:LO→LO→LOp},(∀ a b,f a b≠.move (.k y))→o2 x y' f≠some (.move (.k y)):=fun hf h=>by obtain⟨a,b,_,_,e⟩:=cG h; exact hf a b e
        have no3:∀ {x y' z:Operand} {f:LO→LO→LO→LOp},(∀ a b c,f a b c≠.move (.k y))→o3 x y' z f≠some (.move (.k y)):=fun hf h=>by obtain⟨a,b,c,_,_,_,e⟩:=lF h; exact hf a b c e
        unfold cOp at hy
        split at hy
        case _=>exact km _ hy
        case _=>exact km _ hy
        all_goals (try (repeat' split at hy))
        all_goals first
         | (cases hy; done)
         | (exact absurd hy (no1 (by simp)))
         | (exact absurd hy (no2 (by simp)))
         | (exact absurd hy (no3 (by simp)))
         | (simp at hy; done)
         | (simp[Option.map_eq_some_iff] at hy; done)
         | skip
        all_goals
         unfold gd at hy
         repeat' split at hy
        all_goals first
         | (cases hy; done)
         | (exact absurd hy (no1 (by simp)))
         | (exact absurd hy (no2 (by simp)))
         | (simp only[Option.some.injEq,LOp.move.injEq,LO.k.injEq] at hy; subst hy; rfl)
         | (simp at hy; done)
       rw[this v hc] at hm
       cases hm
     have he:a.eval (.tmp t)=.func (.yield l) #[] #[]:=vd hT hm
     have hrun:(execOp a.eval o).run P w=.ok (.value (.func (.yield l) #[] #[])) w:=by
      rcases Bm hc with e | e<;>simp[execOp,e,he,Sem.run_pure]
     refine⟨fun _ _=>trivial,?_⟩
     rw[show Oper.semAt Fence.wide.round a.eval o=execOp a.eval o from kO (ρ:=none) (fun c e=>by rcases Bm hc with e' | e'<;>rw[e'] at e<;>cases e),hrun]
     show K (a.put o.dst _) w
     refine hK F J _ w ?_ hR hX hH (.refl F J _)
     rw[hrel.dst]
     exact hT.put o.dst (fun _=>rfl) (fun hf=>by rw[hm] at hf; cases hf)
   ·cases hs
  ·exact mR hP hr hC hrel hs hT hR hX hH hK
 ·rename_i q f args hx
  split at hs
  ·rename_i hm
   split at hs
   ·rename_i hc0
    simp only[Bool.and_eq_true,Bool.not_eq_true'] at hc0
    obtain⟨hp0,hargs⟩:=hc0
    have hp0:p=none:=by cases p with | none=>rfl | some _=>cases hp0
    subst hp0
    split at hs
    ·rename_i h2 j hy
     simp only[Option.some.injEq,Prod.mk.injEq] at hs
     obtain⟨rfl,rfl⟩:=hs
     rw[hx] at hop
     cases hc:cOp P q0 k0 o.type o.op with
     | none=>rw[hc] at hop; simp[orBad] at hop
     | some lop =>
      rw[hc] at hop
      simp only[orBad,Option.getD_some] at hop
      subst hop
      obtain⟨f',args',ats,ho,hf,ha⟩:=wT hc
      obtain⟨t,rfl,rfl⟩:=wo hf hm
      have he:a.eval (.tmp t)=.func (.yield l) #[] #[]:=vd hT hm
      have hav:AllV F J (args.map (ev s.tmps)) (args'.toList.map a.eval):=by
       have:=iT hT.unmark ha
       rw[qu hargs] at this
       exact this
      obtain⟨fn,tm,as,bd,hyr,hround⟩:=hY _ _ _ _ hy F J _ w hav hH hR hX
      have hrun:(execOp a.eval o).run P w=.ok (.round l fn tm as bd) w:=by
       have hv:(Deferred.ofValue (a.eval (.tmp t)) (args'.map a.eval))=pure { target:=.fn (.yield l) #[],args:=#[]++args'.map a.eval }:=by
        rw[he]; rfl
       simp only[execOp,ho,resolve,hv,Sem.run_bind,Sem.run_pure,Result.andThen_ok,invoke]
       have:(#[]++Array.map a.eval args' : Array Value)=(List.map a.eval args'.toList).toArray:=by
        apply Array.ext'
        simp
       rw[this]
       exact hyr
      refine⟨fun _ _=>trivial,?_⟩
      rw[show Oper.semAt Fence.wide.round a.eval o=execOp a.eval o from kO (ρ:=none) (fun c e=>by rw[ho] at e; cases e),hrun,Oper.uponIn_round]
      refine⟨(fun e=>nomatch e),RoundIn.mono hround ?_⟩
      rintro e w' ⟨F',J',rfl,hH',hE',hR'⟩
      refine hK F' J' _ w' ?_ hR' (hC hX (hH.nz hR) hE') hH' hE'
      rw[hrel.dst]
      exact (hT.mono hE'.fle hE'.jle).put o.dst (fun hm=>by cases hm) (fun _=>.c _ _ (.bool _))
    ·cases hs
   ·cases hs
  ·exact mR hP hr hC hrel hs hT hR hX hH hK
 ·exact mR hP hr hC hrel hs hT hR hX hH hK
theorem Hp:VRel F J (.c (.tuple [])) undef:=.c _ _ (.tuple [] #[] (fun _=>undef) rfl (by simp) (by simp))
theorem LR (hP:ProgOk P H prog) (hr:dd P H r) (hC:pL Cx) (hY:kZ P yh l rec Cx) {lo:LOper} {o:Oper} {s s' : St} {p p' : Option Ex} {K:Act→World→Prop} {Q:Exit→Act→World→Prop} (hrel:OperRel P ops lo o) (hs:fv prog r yh lo s p=some (s',p'))
  (hT:TRelI l F J s.tmps a) (hR:RecAt l rec p w) (hX:Cx F J (nz l rec w)) (hH:HRel F J s.heap w) (hK:nX l rec Cx F J w s' p' K) :
  if Region.wanted o (yielded ops a.tmps) then o.wpIn Fence.wide 0 P a w K Q else K (a.put o.dst undef) w:=by
 have skip:∀ s1:St × Option Ex,some ((⟨put s.tmps lo.dst (.c (.tuple [])),s.heap⟩ : St),p)=some s1→s1=(s',p')→K (a.put o.dst undef) w:=by
  intro s1 e1 e2
  simp only[Option.some.injEq] at e1
  subst e1
  simp only[Prod.mk.injEq] at e2
  obtain⟨rfl,rfl⟩:=e2
  exact hK F J _ w (by rw[hrel.dst]; exact hT.put o.dst (fun hm=>by cases hm) (fun _=>Hp)) hR hX hH (.refl F J _)
 have hg:=hrel.guard
 cases hgu:o.guard with
 | none =>
  rw[hgu] at hg
  have hw:Region.wanted o (yielded ops a.tmps)=true:=by unfold Region.wanted; rw[hgu]
  rw[if_pos hw]
  unfold fv at hs
  rw[hg] at hs
  exact Ke hP hr hC hY hrel hs hT hR hX hH hK
 | some gb =>
  obtain⟨j,b⟩:=gb
  rw[hgu] at hg
  obtain⟨t,ht,hlg⟩:=hg
  have hy:yielded ops a.tmps j=match a.tmps[t]? with | some (.bool b)=>some b | _=>none:=by
   unfold yielded
   rw[ht]
   rfl
  have hw:Region.wanted o (yielded ops a.tmps)=(yielded ops a.tmps j == some b):=by unfold Region.wanted; rw[hgu]
  have tv:∀ v,s.tmps.getD t .undef=.c v→∃ u,a.tmps[t]? = some u∧CRel F v u:=by
   intro v hv
   cases hx:s.tmps[t]? with
   | none=>rw[List.getD_eq_getElem?_getD,hx] at hv; cases hv
   | some x =>
    rw[List.getD_eq_getElem?_getD,hx] at hv
    simp only[Option.getD_some] at hv
    subst hv
    obtain⟨u,hu,_,hr⟩:=hT.rel t _ hx
    exact⟨u,hu,(hr rfl).of_c⟩
  unfold fv at hs
  rw[hlg] at hs
  simp only at hs
  split at hs
  ·rename_i b' hb'
   obtain⟨u,hu,hc⟩:=tv _ hb'
   cases hc
   rw[hy,hu] at hw
   simp only[Option.some_beq_some] at hw
   split at hs
   ·rename_i hbb
    rw[hw,if_pos hbb]
    exact Ke hP hr hC hY hrel hs hT hR hX hH hK
   ·rename_i hbb
    rw[hw,if_neg hbb]
    simp only[Option.some.injEq] at hs
    exact skip _ rfl hs
  ·rename_i hb'
   obtain⟨u,hu,hc⟩:=tv _ hb'
   have hun:(match a.tmps[t]? with | some (.bool b)=>some b | _=>none:Option Bool)=none:=by
    rw[hu]
    cases hc
    rfl
   rw[hy,hun] at hw
   rw[hw]
   simp only[Option.some.injEq] at hs
   exact skip _ rfl hs
  ·cases hs
theorem u7 (hP:ProgOk P H prog) (hr:dd P H r) (hC:pL Cx) (hY:kZ P yh l rec Cx) {L:List LOper} (hL:∀ (i:Nat) (o:Oper),ops[i]? = some o→OperRel P ops (L.getD i default) o) {Q:Exit→Act→World→Prop} :
  ∀ (il:List Nat) (s s' : St) (p p' : Option Ex) (F:Fz) (J:JMap) (a:Act) (w:World),(∀ i ∈ il,i<ops.size)→dn prog r yh (il.map (L.getD · default)) s p=some (s',p')→TRelI l F J s.tmps a→RecAt l rec p w→Cx F J (nz l rec w)→HRel F J s.heap w →
   nX l rec Cx F J w s' p' (Q .normal)→wpOpsIn Fence.wide 0 P ops Q il a w
 | [],s,s',p,p',F,J,a,w,_,hs,hT,hR,hX,hH,hQ=>by
  simp only[List.map_nil,dn,Option.some.injEq,Prod.mk.injEq] at hs
  obtain⟨rfl,rfl⟩:=hs
  exact hQ F J a w hT hR hX hH (.refl F J _)
 | i::il,s,s',p,p',F,J,a,w,hl,hs,hT,hR,hX,hH,hQ=>by
  have hi:i<ops.size:=hl i (by simp)
  simp only[List.map_cons,dn] at hs
  split at hs
  ·rename_i s1 p1 hs1
   have ho:ops[i]? = some ops[i]:=Array.getElem?_eq_getElem hi
   have:=LR (ops:=ops) (o:=ops[i]) (K:=wpOpsIn Fence.wide 0 P ops Q il) (Q:=Q) hP hr hC hY (hL i _ ho) hs1 hT hR hX hH fun F' J' a' w' hT' hR' hX' hH' hE' =>
    u7 hP hr hC hY hL il s1 s' p1 p' F' J' a' w' (fun j hj=>hl j (by simp[hj])) hs hT' hR' hX' hH' fun F2 J2 a2 w2 hT2 hR2 hX2 hH2 hE2=>hQ F2 J2 a2 w2 hT2 hR2 hX2 hH2 (hE'.trans hE2)
   simp only[wpOpsIn,ho]
   split
   ·rename_i hw
    rw[if_pos hw] at this
    exact this
   ·rename_i hw
    rw[if_neg hw] at this
    exact⟨fun _ _=>trivial,this⟩
  ·cases hs
def vP (P:Program) (H:Hints) (ri:jD):Prop :=
 ∀ (f:Nat) (c:Code) (yh:dG) (s s' : St) (p p' : Option Ex) (ex:Ex),ri yh (aM P H f c) s p=some (ex,s',p') →
  ∀ (l:Nat) (rec:Loop) (Cx:Fz→JMap→World→Prop),pL Cx→kZ P yh l rec Cx→∀ (F:Fz) (J:JMap) (a:Act) (w:World) (Q:Exit→Act→World→Prop),
   TRelI l F J s.tmps a→RecAt l rec p w→Cx F J (nz l rec w)→HRel F J s.heap w→nX l rec Cx F J w s' p' (Q (eL ex))→ConclIn Fence.wide P c Q a w
theorem BS {F:Fence} {b:Frame} {a:Act} {k:List Item} {cs:List Frame} {c:Code}:Go.step P (lone (b.atR a (.code (.scope c)::k)) cs w)=.next (lone (b.atR a (.code c::.inScope c::k)) cs w) :=
 step_lone_go (by simp[stepG,stepG.exec,Frame.atR])
theorem vx {F:Fence} {b:Frame} {a:Act} {k:List Item} {cs:List Frame} {c:Code}:Go.step P (lone (b.atR a (.inScope c::k)) cs w)=.next (lone (b.atR a k) cs w) :=
 step_lone_go (by simp[stepG,stepG.exec,Frame.atR])
theorem gY {F:Fence} {c:Code} {Q:Exit→Act→World→Prop} (h:c.wpIn F 0 P (Exit.noGoto Q) a w):(Code.scope c).wpIn F 0 P Q a w:=by
 intro b k cs hro hb hr
 obtain⟨e,a₁,w₁,hq,harr⟩:=h b (.inScope c::k) cs hro hb hr
 have s0:StepsIn (Machine.fenced P F) P (lone (b.atR a (.code (.scope c)::k)) cs w) (lone (b.atR a (.code c::.inScope c::k)) cs w):=.one (fenced_calm hb hr rfl) (BS (F:=F))
 cases e with
 | normal=>exact⟨.normal,a₁,w₁,hq,StepsIn.trans s0 (StepsIn.trans harr (.one (fenced_calm hb hr rfl) (vx (F:=F))))⟩
 | exit id=>exact⟨.exit id,a₁,w₁,hq,fun k' hk=>StepsIn.trans s0 (harr.1 k' (by simp[exitTo,hk])),fun h1 h2=>let ⟨k₁,q1,q2⟩:=harr.2 h1 (by simp[exitTo,h2]); ⟨k₁,q1,StepsIn.trans s0 q2⟩⟩
 | goto l=>exact hq.elim
 | ret=>exact⟨_,a₁,w₁,hq,.of_steps s0 harr⟩
 | panic ch=>exact⟨_,a₁,w₁,hq,.of_steps s0 harr⟩
 | outgrown=>exact⟨_,a₁,w₁,hq,.of_steps s0 harr⟩
end
end LM
namespace LM
open Go Go.RowKit
variable {DS:List Deferred}
def CtxR (ρ:Option Nat) (B:Nat) (Ds:List Nat) (w:World):Prop :=
 match ρ with
 | none=>Shut B Ds w
 | some l=>Ds=[]∧∃ rec,w.heap[l]? = some (.loop rec)
theorem CtxR.ext {ρ:Option Nat} {B:Nat} {Ds:List Nat} {F F' : Fz} {J J' : JMap} {h:Heap} {w w' : World} (hc:CtxR ρ B Ds w) (hH:HRel F J h w) (hE:Ext F J w F' J' w'):CtxR ρ B Ds w':=by
 cases ρ with
 | none=>exact Shut.ext hc hH hE
 | some l =>
  obtain⟨h1,rec,h2⟩:=hc
  exact⟨h1,rec,hE.foreign hH h2 rfl⟩
theorem CtxR.putObj {ρ:Option Nat} {B:Nat} {Ds:List Nat} {w:World} {l:Nat} {o:Obj} (hc:CtxR ρ B Ds w) (h1:l ∉ Ds) (h2:ρ≠some l):CtxR ρ B Ds (w.putObj l o):=by
 cases ρ with
 | none =>
  refine⟨hc.1,fun D hD=>⟨(hc.2 D hD).1,?_⟩⟩
  rw[World.putObj_heap_other (fun e=>h1 (by rw[← e]; exact hD))]
  exact (hc.2 D hD).2
 | some l0 =>
  obtain⟨h3,rec,h4⟩:=hc
  refine⟨h3,rec,?_⟩
  rw[World.putObj_heap_other (fun e=>h2 (by rw[e]))]
  exact h4
def CodeR (P:Program) (H:Hints) (r:Run):Prop :=
 ∀ (f:Nat) (c:Code) (s s' : St) (ex:Ex),r (aM P H f c) s=some (ex,s') →
  ∀ (ρ:Option Nat) (B:Nat) (Ds:List Nat) (F:Fz) (J:JMap) (a:Act) (w:World) (Q:Exit→Act→World→Prop),TRel (dV Ds) F J s.tmps a→CtxR ρ B Ds w→B≤w.heap.size→HRel F J s.heap w →
   (∀ Ds' F' J' a' w',TRel (dV Ds') F' J' s'.tmps a'→CtxR ρ B Ds' w'→HRel F' J' s'.heap w'→Ext F J w F' J' w'→Q (eL ex) a' w')→ConclIn (fw ρ) P c Q a w
theorem CodeR.ok {P:Program} {H:Hints} {r:Run} (h:CodeR P H r):dd P H r:=fun f c s s' ex hs F J a w Q hT hH hQ =>
 wpIn_wide.1 (h f c s s' ex hs none w.heap.size [] F J a w Q hT (Shut.nil _ _) (Nat.le_refl _) hH fun Ds' F' J' a' w' hT' hC' hH' hE'=>hQ Ds' F' J' a' w' hT' hC' hH' hE').wp
section
variable {P:Program} {H:Hints} {prog:Nat→Option LFunc} {r:Run} {ri:jD}
theorem vh {f:Nat} {draw:Bool} {ops:Array Oper} (hg:jN ops.toList=true) {i:Nat} {o:Oper} (ho:ops[i]? = some o):OperRel P ops (eA P H f draw ops.toList o) o:=by
 refine⟨rfl,⟨_,_,_,rfl⟩,?_⟩
 have hm:o ∈ ops.toList:=by simpa using Array.mem_of_getElem? ho
 unfold jN at hg
 rw[List.all_eq_true] at hg
 have:=hg o hm
 cases hgu:o.guard with
 | none=>simp only[eA,hgu]
 | some jb =>
  obtain⟨j,b⟩:=jb
  rw[hgu] at this
  simp only at this ⊢
  split at this
  ·rename_i o' ho'
   obtain⟨t,ht⟩:=Option.isSome_iff_exists.1 this
   have ho2:ops[j]? = some o':=by simpa using ho'
   refine⟨t,by rw[ho2]; exact ht,?_⟩
   simp only[eA,hgu,ho',Option.bind_some,ht]
  ·cases this
theorem rp {R:List Nat} {ops:List Oper}:∀ (l:List LOper) (k:Nat),(place H R ops k l).2.length=l.length∧∀ (i:Nat) (o:LOper),l[i]? = some o→∃ o',(place H R ops k l).2[i]? = some o'∧o'.dst=o.dst∧o'.op=o.op∧o'.guard=o.guard
 | [],k=>⟨rfl,by simp⟩
 | o::l,k=>by
  obtain⟨h1,h2⟩:=rp (R:=R) (ops:=ops) l (k+eC (freshOf H) o.op)
  simp only[place]
  refine⟨by simp[h1],fun i o' ho=>?_⟩
  cases i with
  | zero =>
   simp only[List.getElem?_cons_zero,Option.some.injEq] at ho
   subst ho
   exact⟨_,rfl,rfl,rfl,rfl⟩
  | succ i=>exact h2 i o' (by simpa using ho)
theorem jc {f:Nat} {R:List Nat} {draw:Bool} {ops:Array Oper} (hg:jN ops.toList=true) {k:Nat} {L:List LOper} (hL:L=(place H R ops.toList k (ops.toList.map (eA P H f draw ops.toList))).2) :
  L.length=ops.size∧∀ (i:Nat) (o:Oper),ops[i]? = some o→OperRel P ops (L.getD i default) o:=by
 subst hL
 obtain⟨h1,h2⟩:=rp (H:=H) (R:=R) (ops:=ops.toList) (ops.toList.map (eA P H f draw ops.toList)) k
 refine⟨by rw[h1]; simp,fun i o ho=>?_⟩
 have ho' : (ops.toList.map (eA P H f draw ops.toList))[i]? = some (eA P H f draw ops.toList o):=by simp[ho]
 obtain⟨o',h3,h4,h5,h6⟩:=h2 i _ ho'
 rw[List.getD_eq_getElem?_getD,h3]
 have hr:=vh (P:=P) (H:=H) (f:=f) (draw:=draw) hg ho
 exact⟨h4.trans hr.dst,by obtain⟨q,k,n,e⟩:=hr.op; exact⟨q,k,n,h5.trans e⟩,by have:=hr.guard; simp only[Option.getD_some,h6]; exact this⟩
theorem j0 {ops:Array Oper}:∀ (fuel t:Nat) (listed:Array Bool),∀ i ∈ Region.linearise.go .any ops fuel t listed [],i<ops.size
 | 0,t,listed,i,hi=>by simp[Region.linearise.go] at hi
 | fuel+1,t,listed,i,hi=>by
  simp only[Region.linearise.go] at hi
  change i ∈ (match (Region.ready .any ops listed)[t % (Region.ready .any ops listed).length]? with
   | some i=>Region.linearise.go .any ops fuel (t / (Region.ready .any ops listed).length) (listed.setIfInBounds i true) [i]
   | none=>[].reverse) at hi
  split at hi
  ·rename_i j hj
   rw[linearise_go_acc,List.reverse_singleton,List.singleton_append,List.mem_cons] at hi
   rcases hi with rfl | hi
   ·have:=List.mem_of_getElem? hj
    obtain⟨_,o,ho,_⟩:=mem_ready.1 this
    exact (Array.getElem?_eq_some_iff.1 ho).1
   ·exact j0 fuel _ _ i hi
  ·simp at hi
theorem SameBut.mono {ds ds' : List Nat} {a a' : Act} (h:SameBut ds a a') (hs:∀ i,i ∈ ds→i ∈ ds'):SameBut ds' a a':=fun i hi=>h i fun hm=>hi (hs i hm)
theorem u9 (hP:ProgOk P H prog) (hr:dd P H r) {ρ:Option Nat} {id:Nat} {ops:Array Oper} {k:Nat} {L:List LOper} (hL:L.length=ops.size∧∀ (i:Nat) (o:Oper),ops[i]? = some o→OperRel P ops (L.getD i default) o) (hok:eD H ops L=true)
  {ts:List LV} {h:Heap} {s1:St} (hs1:au prog r h.length L ⟨ts,h++List.replicate k .dead⟩=some s1) {F:Fz} {J:JMap} {a:Act} {w:World} {Q:Exit→Act→World→Prop} (hT:TRel DS F J ts a) (hH:HRel F J h w)
  (hQ:∀ F' J' a' w',SameBut (L.flatMap kU) a a'→TRel DS F' J' s1.tmps a'→HRel F' J' s1.heap w'→Ext F J w F' J' w'→Q .normal a' w'):(Code.region id ops true).wpIn (fw ρ) 0 P Q a w:=by
 refine wpIn_region_draw fun t=>?_
 simp only[Region.schedule,hP.mixed,Bool.true_or,if_true]
 have hord:=Cd hP.hints hL.1 hok hs1 t
 have hfz:FzOk F { w with drawn:=w.drawn+1 }:=⟨hH.fz.cell,hH.fz.map⟩
 obtain⟨hH1,hE1⟩:=hH.elsewhere (w':={ w with drawn:=w.drawn+1 }) F.le_refl ⟨rfl,rfl,rfl,Nat.le_refl _,fun _ _=>rfl⟩ (fun _ _=>⟨fun _=>rfl,rfl⟩) hfz
 have hE2:=hE1.trans (Ext.pushDead F J { w with drawn:=w.drawn+1 } k)
 refine pG hP hr hL.2 _ _ s1 F _ a _ (j0 _ _ _) hord (hT.mono hE2.fle hE2.jle) (hH1.pushDead k) fun F' J' a' w' hA' hT' hH' hE'=>hQ F' J' a' w' (hA'.mono fun i hi=>?_) hT' hH' (hE2.trans hE')
 rw[List.mem_flatMap] at hi ⊢
 obtain⟨o,ho,hi⟩:=hi
 rw[List.mem_map] at ho
 obtain⟨j,hj,rfl⟩:=ho
 have hjl:j<L.length:=by rw[hL.1]; exact j0 _ _ _ j hj
 exact⟨L.getD j default,by rw[List.getD_eq_getElem?_getD,List.getElem?_eq_getElem hjl]; exact List.getElem_mem hjl,hi⟩
theorem uJ {f:Nat} {ops:Array Oper} (hg:jN ops.toList=true):∀ (i:Nat) (o:Oper),ops[i]? = some o→OperRel P ops ((ops.toList.map (eA P H f false ops.toList)).getD i default) o:=fun i o ho=>by
 have:(ops.toList.map (eA P H f false ops.toList))[i]? = some (eA P H f false ops.toList o):=by simp[ho]
 rw[List.getD_eq_getElem?_getD,this]
 exact vh hg ho
theorem vk {L:List LOper} {n:Nat} (h:L.length=n):(List.range n).map (L.getD · default)=L:=by
 subst h
 apply List.ext_getElem?
 intro i
 by_cases hi:i<L.length
 ·simp[List.getD_eq_getElem?_getD,hi]
 ·rw[List.getElem?_eq_none (by simp; omega),List.getElem?_eq_none (by omega)]
theorem Jb (hP:ProgOk P H prog) (hr:dd P H r) {ρ:Option Nat} {f id:Nat} {ops:Array Oper} {draw:Bool} {s s' : St} {ex:Ex} (hs:exec prog r ri (aM P H f (.region id ops draw)) s=some (ex,s')) {F:Fz} {J:JMap} {a:Act} {w:World} {Q:Exit→Act→World→Prop}
  (hT:TRel DS F J s.tmps a) (hH:HRel F J s.heap w) (hQ:∀ F' J' a' w',TRel DS F' J' s'.tmps a'→HRel F' J' s'.heap w'→Ext F J w F' J' w'→Q (eL ex) a' w'):(Code.region id ops draw).wpIn (fw ρ) 0 P Q a w:=by
 simp only[aM] at hs
 split at hs
 ·simp[exec] at hs
 rename_i hg
 simp only[Bool.not_eq_true',Bool.not_eq_false] at hg
 cases draw with
 | false =>
  simp only[Bool.false_eq_true,if_false,exec] at hs
  split at hs
  ·rename_i s1 hs1
   simp only[Option.some.injEq,Prod.mk.injEq] at hs
   obtain⟨rfl,rfl⟩:=hs
   refine wpIn_region (pG (base:=0) hP hr (uJ (H:=H) (f:=f) hg) _ s s1 F J a w (fun i hi=>List.mem_range.1 hi) ?_ hT hH fun F' J' a' w' _=>hQ F' J' a' w')
   rw[vk (by simp)]
   exact hs1
  ·cases hs
 | true =>
  simp only[if_true] at hs
  have main:∀ (k:Nat) (L:List LOper),(L.length=ops.size∧∀ (i:Nat) (o:Oper),ops[i]? = some o→OperRel P ops (L.getD i default) o)→eD H ops L=true→exec prog r ri (.draw k L) s=some (ex,s')→(Code.region id ops true).wpIn (fw ρ) 0 P Q a w:=by
   intro k L hL hok hs
   simp only[exec] at hs
   split at hs
   ·rename_i s1 hs1
    simp only[Option.some.injEq,Prod.mk.injEq] at hs
    obtain⟨rfl,rfl⟩:=hs
    exact u9 hP hr hL hok hs1 hT hH fun F' J' a' w' _=>hQ F' J' a' w'
   ·cases hs
  split at hs
  ·rename_i hok
   exact main _ _ (jc hg rfl) hok hs
  ·split at hs
   ·rename_i hok
    exact main _ _ (jc hg rfl) hok hs
   ·simp[exec] at hs
theorem Gj (hP:ProgOk P H prog) (hr:dd P H r) {yh:dG} {f id:Nat} {ops:Array Oper} {draw:Bool} {s s' : St} {p p' : Option Ex} {ex:Ex} (hs:aJ prog r ri yh (aM P H f (.region id ops draw)) s p=some (ex,s',p'))
  {l:Nat} {rec:Loop} {Cx:Fz→JMap→World→Prop} (hC:pL Cx) (hY:kZ P yh l rec Cx) {F:Fz} {J:JMap} {a:Act} {w:World} {Q:Exit→Act→World→Prop}
  (hT:TRelI l F J s.tmps a) (hR:RecAt l rec p w) (hX:Cx F J (nz l rec w)) (hH:HRel F J s.heap w) (hQ:nX l rec Cx F J w s' p' (Q (eL ex))):(Code.region id ops draw).wpIn Fence.wide 0 P Q a w:=by
 simp only[aM] at hs
 split at hs
 ·simp[aJ] at hs
 rename_i hg
 simp only[Bool.not_eq_true',Bool.not_eq_false] at hg
 cases draw with
 | false =>
  simp only[Bool.false_eq_true,if_false,aJ] at hs
  split at hs
  ·rename_i s1 p1 hs1
   simp only[Option.some.injEq,Prod.mk.injEq] at hs
   obtain⟨rfl,rfl,rfl⟩:=hs
   refine wpIn_region (u7 hP hr hC hY (uJ (H:=H) (f:=f) hg) _ s s1 p p1 F J a w (fun i hi=>List.mem_range.1 hi) ?_ hT hR hX hH hQ)
   rw[vk (by simp)]
   exact hs1
  ·cases hs
 | true =>
  simp only[if_true] at hs
  have main:∀ (k:Nat) (L:List LOper),(L.length=ops.size∧∀ (i:Nat) (o:Oper),ops[i]? = some o→OperRel P ops (L.getD i default) o)→eD H ops L=true→aJ prog r ri yh (.draw k L) s p=some (ex,s',p')→(Code.region id ops true).wpIn Fence.wide 0 P Q a w:=by
   intro k L hL hok hs
   simp only[aJ] at hs
   split at hs
   ·rename_i s1 hs1
    split at hs
    ·cases hs
    ·rename_i hm
     simp only[Option.some.injEq,Prod.mk.injEq] at hs
     obtain⟨rfl,rfl,rfl⟩:=hs
     exact u9 (ρ:=none) hP hr hL hok hs1 hT.unmark hH fun F' J' a' w' hA' hT' hH' hE'=>hQ F' J' a' w' (hT.remark hA' hT' (by simpa using hm)) (hR.ext hH hE') (hC hX (hH.nz hR) (hE'.nz hR)) hH' (hE'.nz hR)
   ·cases hs
  split at hs
  ·rename_i hok
   exact main _ _ (jc hg rfl) hok hs
  ·split at hs
   ·rename_i hok
    exact main _ _ (jc hg rfl) hok hs
   ·simp[aJ] at hs
theorem Pd {ts:List LV} {l:Nat} {F:Fz} {J:JMap} {a:Act} {c:Operand} {lo:LO} {b:Bool} (hT:TRelI l F J ts a) (hc:aE c=some lo) (hv:ev ts lo=.c (.bool b)):a.eval c=.bool b:=by
 have:=an hT.unmark hc
 rw[uU (by rw[hv]; rfl),hv] at this
 exact this.bool_inv
theorem Qy {l:Nat} {rec:Loop} {p:Option Ex} {F F0:Fz} {J J0:JMap} {w w0:World} {s:St} {a:Act} {n:Nat} (hT:TRelI l F J s.tmps a) (hH:HRel F J s.heap w) (hE:Ext F0 J0 (nz l rec w0) F J (nz l rec w)) (hn:J0.length=n) (hR:RecAt l rec p w) :
  ∃ J',TRelI l F J' (gc n s).tmps a∧HRel F J' (gc n s).heap w∧Ext F0 J0 (nz l rec w0) F J' (nz l rec w):=by
 have hU:=hT.unmark
 unfold gc
 split
 ·rename_i hu
  have hg:=JE (n:=n) (s:=⟨unmark s.tmps,s.heap⟩) hU (hH.nz hR) hE hn
  refine⟨J.take n,⟨hT.defers,by rw[j7]; exact hT.size,fun t x hx=>?_⟩,hH.take hu,⟨hE.fle,fun b i hb=>?_,hE.os,hE.tape,hE.output,hE.size,hE.blk,fun b i hi hv hlt=>?_⟩⟩
  ·rw[nI,Option.map_eq_some_iff] at hx
   obtain⟨y,hy,rfl⟩:=hx
   obtain⟨u,hu',h1,h2⟩:=hT.rel t y hy
   refine⟨u,hu',?_⟩
   split
   ·rename_i hy'
    exact⟨h1,fun hm=>(h2 hm).under hy'⟩
   ·exact⟨(fun hm=>by cases hm),fun _=>.undef u⟩
  ·obtain⟨i',hi',rest⟩:=hE.jle b i hb
   have hlt:b<n:=by rw[← hn]; exact (List.getElem?_eq_some_iff.1 hb).1
   exact⟨i',by rw[List.getElem?_take,if_pos hlt]; exact hi',rest⟩
  ·rw[List.getElem?_take] at hi
   split at hi
   ·exact hE.own b i hi hv hlt
   ·cases hi
 ·exact⟨J,hT,hH,hE⟩
theorem NJ (hP:ProgOk P H prog) (hr:dd P H r) (hri:vP P H ri):vP P H (fun yh=>aJ prog r ri yh):=by
 intro f c yh
 induction c with
 | skip =>
  intro s s' p p' ex hs l rec Cx hC hY F J a w Q hT hR hX hH hQ
  simp only[aM,aJ,Option.some.injEq,Prod.mk.injEq] at hs
  obtain⟨rfl,rfl,rfl⟩:=hs
  exact wpIn_skip (hQ F J a w hT hR hX hH (.refl F J _))
 | label i =>
  intro s s' p p' ex hs l rec Cx hC hY F J a w Q hT hR hX hH hQ
  simp only[aM,aJ,Option.some.injEq,Prod.mk.injEq] at hs
  obtain⟨rfl,rfl,rfl⟩:=hs
  exact wpIn_label (hQ F J a w hT hR hX hH (.refl F J _))
 | ret =>
  intro s s' p p' ex hs l rec Cx hC hY F J a w Q hT hR hX hH hQ
  simp only[aM,aJ,Option.some.injEq,Prod.mk.injEq] at hs
  obtain⟨rfl,rfl,rfl⟩:=hs
  exact wpIn_ret (hQ F J a w hT hR hX hH (.refl F J _))
 | exit id =>
  intro s s' p p' ex hs l rec Cx hC hY F J a w Q hT hR hX hH hQ
  simp only[aM,aJ,Option.some.injEq,Prod.mk.injEq] at hs
  obtain⟨rfl,rfl,rfl⟩:=hs
  exact wpIn_exit (hQ F J a w hT hR hX hH (.refl F J _))
 | seq x y ihx ihy =>
  intro s s' p p' ex hs l rec Cx hC hY F J a w Q hT hR hX hH hQ
  simp only[aM,aJ] at hs
  split at hs
  ·rename_i s1 p1 h1
   refine wpIn_seq (ihx s s1 p p1 .normal h1 l rec Cx hC hY F J a w _ hT hR hX hH fun F1 J1 a1 w1 hT1 hR1 hX1 hH1 hE1=>?_).wp
   exact (ihy s1 s' p1 p' ex hs l rec Cx hC hY F1 J1 a1 w1 Q hT1 hR1 hX1 hH1 fun F2 J2 a2 w2 hT2 hR2 hX2 hH2 hE2=>hQ F2 J2 a2 w2 hT2 hR2 hX2 hH2 (hE1.trans hE2)).wp
  ·rename_i hne
   refine wpIn_seq (ihx s s' p p' ex hs l rec Cx hC hY F J a w _ hT hR hX hH fun F1 J1 a1 w1 hT1 hR1 hX1 hH1 hE1=>?_).wp
   have:=hQ F1 J1 a1 w1 hT1 hR1 hX1 hH1 hE1
   cases ex with
   | normal=>exact absurd hs (hne s' p')
   | exit id=>exact this
   | ret=>exact this
 | cond c x y ihx ihy =>
  intro s s' p p' ex hs l rec Cx hC hY F J a w Q hT hR hX hH hQ
  simp only[aM] at hs
  split at hs
  ·rename_i lo hlo
   simp only[aJ] at hs
   split at hs
   ·rename_i hb
    exact wpIn_cond_true (Pd hT hlo hb) (ihx s s' p p' ex hs l rec Cx hC hY F J a w Q hT hR hX hH hQ).wp
   ·rename_i hb
    exact wpIn_cond_false (Pd hT hlo hb) (ihy s s' p p' ex hs l rec Cx hC hY F J a w Q hT hR hX hH hQ).wp
   ·cases hs
  ·simp[aJ] at hs
 | block id x ihx =>
  intro s s' p p' ex hs l rec Cx hC hY F J a w Q hT hR hX hH hQ
  simp only[aM,aJ] at hs
  split at hs
  ·rename_i id' s1 p1 h1
   refine wpIn_block (ihx s s1 p p1 (.exit id') h1 l rec Cx hC hY F J a w _ hT hR hX hH fun F1 J1 a1 w1 hT1 hR1 hX1 hH1 hE1=>?_).wp
   split at hs
   ·rename_i he
    simp only[Option.some.injEq,Prod.mk.injEq] at hs
    obtain⟨rfl,rfl,rfl⟩:=hs
    simp only[eL,Exit.inBlock,he,if_true]
    exact hQ F1 J1 a1 w1 hT1 hR1 hX1 hH1 hE1
   ·rename_i he
    simp only[Option.some.injEq,Prod.mk.injEq] at hs
    obtain⟨rfl,rfl,rfl⟩:=hs
    simp only[eL,Exit.inBlock,if_neg he]
    exact hQ F1 J1 a1 w1 hT1 hR1 hX1 hH1 hE1
  ·rename_i hne
   refine wpIn_block (ihx s s' p p' ex hs l rec Cx hC hY F J a w _ hT hR hX hH fun F1 J1 a1 w1 hT1 hR1 hX1 hH1 hE1=>?_).wp
   have:=hQ F1 J1 a1 w1 hT1 hR1 hX1 hH1 hE1
   cases ex with
   | normal=>exact this
   | exit id'=>exact absurd hs (hne id' s' p')
   | ret=>exact this
 | loop x ihx =>
  intro s s' p p' ex hs l rec Cx hC hY F J a w Q hT hR hX hH hQ
  simp only[aM,aJ] at hs
  refine LapsIn.intro ?_
  split at hs
  ·rename_i s1 p1 h1
   refine (ihx s s1 p p1 .normal h1 l rec Cx hC hY F J a w _ hT hR hX hH fun F1 J1 a1 w1 hT1 hR1 hX1 hH1 hE1=>?_).wp
   obtain⟨J2,hT2,hH2,hE2⟩ : ∃ J2,TRelI l F1 J2 (if !H.noGc.contains (f,dv x) then gc s.heap.length s1 else s1).tmps a1∧HRel F1 J2 (if !H.noGc.contains (f,dv x) then gc s.heap.length s1 else s1).heap w1∧Ext F J (nz l rec w) F1 J2 (nz l rec w1):=by
    split
    ·exact Qy hT1 hH1 hE1 hH.len.symm hR1
    ·exact⟨J1,hT1,hH1,hE1⟩
   exact hri f (.loop x) yh _ s' p1 p' ex hs l rec Cx hC hY F1 J2 a1 w1 Q hT2 hR1 (hC hX (hH.nz hR) hE2) hH2 fun F3 J3 a3 w3 hT3 hR3 hX3 hH3 hE3=>hQ F3 J3 a3 w3 hT3 hR3 hX3 hH3 (hE2.trans hE3)
  ·rename_i hne
   refine (ihx s s' p p' ex hs l rec Cx hC hY F J a w _ hT hR hX hH fun F1 J1 a1 w1 hT1 hR1 hX1 hH1 hE1=>?_).wp
   have:=hQ F1 J1 a1 w1 hT1 hR1 hX1 hH1 hE1
   cases ex with
   | normal=>exact absurd hs (hne s' p')
   | exit id'=>exact this
   | ret=>exact this
 | region id ops draw =>
  intro s s' p p' ex hs l rec Cx hC hY F J a w Q hT hR hX hH hQ
  exact Gj hP hr hs hC hY hT hR hX hH hQ
 | scope x ihx =>
  intro s s' p p' ex hs l rec Cx hC hY F J a w Q hT hR hX hH hQ
  simp only[aM] at hs
  split at hs
  ·refine gY (ihx s s' p p' ex hs l rec Cx hC hY F J a w _ hT hR hX hH fun F1 J1 a1 w1 hT1 hR1 hX1 hH1 hE1=>?_).wp
   have:=hQ F1 J1 a1 w1 hT1 hR1 hX1 hH1 hE1
   cases ex<;>exact this
  ·simp[aJ] at hs
 | rangeFunc g ps x y _ _ =>
  intro s s' p p' ex hs
  simp only[aM] at hs
  split at hs<;>simp[aJ] at hs
 | goto i =>
  intro s s' p p' ex hs
  simp[aM,aJ] at hs
 | refuse why =>
  intro s s' p p' ex hs
  simp[aM,aJ] at hs
theorem uO {F:Fz} {J:JMap}:∀ {ps:List Nat} {args:List LV} {us:List Value} {ts:List LV} {tm:Array Value},args.length=ps.length→AllV F J args us→TRel [] F J ts { tmps:=tm,defers:=[] } →
  TRel [] F J (i7 ps args ts) { tmps:=(ps.zip us).foldl (fun t x=>t.setIfInBounds x.1 x.2) tm,defers:=[] }
 | [],[],us,ts,tm,_,_,hT=>by simpa[i7] using hT
 | [],_::_,us,ts,tm,hl,_,hT=>by simp at hl
 | _::_,[],us,ts,tm,hl,_,hT=>by simp at hl
 | p::ps,x::args,us,ts,tm,hl,ha,hT=>by
  obtain⟨u,us',rfl,h1,h2⟩:=ha.head
  simp only[i7,List.zip_cons_cons,List.foldl_cons]
  have:=hT.put (some p) h1
  exact uO (by simpa using hl) h2 this
theorem Mr (ps:Array Tmp) (us:List Value) (tm:Array Value):(ps.zip us.toArray).foldl (fun t (x:Tmp × Value)=>t.setIfInBounds x.1 x.2) tm=(ps.toList.zip us).foldl (fun t x=>t.setIfInBounds x.1 x.2) tm:=by
 rw[← Array.foldl_toList,Array.toList_zip]
theorem Pk {f:Nat} {asg body:Code} (hasg:∀ (s s' : St) (ex:Ex),exec prog r ri (aM P H f asg) s=some (ex,s')→∀ (ρ:Option Nat) (B:Nat) (Ds:List Nat) (F:Fz) (J:JMap) (a:Act) (w:World) (Q:Exit→Act→World→Prop),TRel (dV Ds) F J s.tmps a→CtxR ρ B Ds w→B≤w.heap.size→HRel F J s.heap w →
   (∀ Ds' F' J' a' w',TRel (dV Ds') F' J' s'.tmps a'→CtxR ρ B Ds' w'→HRel F' J' s'.heap w'→Ext F J w F' J' w'→Q (eL ex) a' w')→ConclIn (fw ρ) P asg Q a w)
  (hbody:∀ (s s' : St) (ex:Ex),exec prog r ri (aM P H f body) s=some (ex,s')→∀ (ρ:Option Nat) (B:Nat) (Ds:List Nat) (F:Fz) (J:JMap) (a:Act) (w:World) (Q:Exit→Act→World→Prop),TRel (dV Ds) F J s.tmps a→CtxR ρ B Ds w→B≤w.heap.size→HRel F J s.heap w →
   (∀ Ds' F' J' a' w',TRel (dV Ds') F' J' s'.tmps a'→CtxR ρ B Ds' w'→HRel F' J' s'.heap w'→Ext F J w F' J' w'→Q (eL ex) a' w')→ConclIn (fw ρ) P body Q a w)
  {ps:Array Tmp} {ts:List LV} {F:Fz} {J:JMap} {a:Act} {w1:World} (hT:TRel DS F J ts a) {l:Nat} {rec:Loop} (hrt:rec.tmps=a.tmps) (hrp:rec.params=ps) (hra:rec.assign=asg) (hrb:rec.body=body) :
  kZ P (dm (exec prog r ri (aM P H f asg)) (exec prog r ri (aM P H f body)) ps.toList ts) l rec (fun F' J' W=>Ext F J w1 F' J' W):=by
 intro args h1 h2 j hy F1 J1 us W ha hH hR hX
 unfold dm at hy
 split at hy
 ·rename_i hl
  split at hy
  ·rename_i s1 hs1
   have hyr:=run_yield (P:=P) (w:=W) (l:=l) (args:=us.toArray) hR (by simp only[hrp,List.size_toArray,ha.1,hl]; simp)
   refine⟨rec.fn,(ps.toList.zip us).foldl (fun t x=>t.setIfInBounds x.1 x.2) a.tmps,asg,body,?_,?_⟩
   ·rw[hyr,hrt,hrp,hra,hrb]
    exact congrArg (fun z=>Result.ok (Next.round l rec.fn z asg body) W) (Mr ps us a.tmps)
   have hT1:TRel [] F1 J1 ts { tmps:=a.tmps,defers:=[] }:=⟨rfl,hT.size,fun t x hx=>let ⟨u,q1,q2⟩:=hT.rel t x hx; ⟨u,q1,q2.mono hX.fle hX.jle⟩⟩
   refine roundIn_of_wpIn trivial ?_
   refine (hasg _ s1 .normal hs1 (some l) 0 [] F1 J1 _ W _ (uO hl ha hT1) ⟨rfl,_,hR⟩ (Nat.zero_le _) hH fun Ds2 F2 J2 a2 w2 hT2 hC2 hH2 hE2=>?_).wp
   obtain⟨rfl,_⟩:=hC2
   have hR2:RecAt l rec none w2:=hR.ext hH hE2
   refine⟨_,run_beginRound hR2 rfl,?_⟩
   have hH2' : HRel F2 J2 s1.heap (w2.putObj l (.loop { rec with state:=.busy,pending:=none })):=hH2.putObj _ hR2 rfl
   have hl2:(w2.putObj l (.loop { rec with state:=.busy,pending:=none })).heap[l]? = some (.loop { rec with state:=.busy,pending:=none }):=World.putObj_heap_same hR2.lt
   have fin:∀ (e:Ex) (s2:St) (k:Option Ex),exec prog r ri (aM P H f body) s1=some (e,s2)→(∀ F3 J3 a3 w3 w4,HRel F3 J3 s2.heap w4→Ext F1 J1 (nz l rec W) F3 J3 (nz l rec w4)→RecAt l rec k w4→(Instr.endRound l (k.map fg)).run P w3=.ok (.bool k.isNone) w4 →
     roundPost P l (Gm l rec F1 J1 W s2.heap k) (eL e) a3 w3)→body.wpIn (Fence.wide.inRound l) 0 P (roundPost P l (Gm l rec F1 J1 W s2.heap k)) a2 (w2.putObj l (.loop { rec with state:=.busy,pending:=none })):=by
    intro e s2 k hs2 hfin
    refine (hbody s1 s2 e hs2 (some l) 0 [] F2 J2 a2 _ _ hT2 ⟨rfl,_,hl2⟩ (Nat.zero_le _) hH2' fun Ds3 F3 J3 a3 w3 hT3 hC3 hH3 hE3=>?_).wp
    have hl3:w3.heap[l]? = some (.loop { rec with state:=.busy,pending:=none }):=hE3.foreign hH2' hl2 rfl
    refine hfin F3 J3 a3 w3 (w3.putObj l (.loop { rec with state:=if k.isNone then .ready else .done,pending:=k.map fg })) (hH3.putObj _ hl3 rfl) ?_ (World.putObj_heap_same (Array.getElem?_eq_some_iff.1 hl3).1) ?_
    ·have e1:=hE2.nz hR
     have e2:=hE3.putBoth (l:=l) (by simpa using hR2.lt) (.loop { rec with state:=.ready,pending:=none })
     rw[gX] at e2
     refine e1.trans ?_
     show Ext F2 J2 (nz l rec w2) F3 J3 ((w3.putObj l _).putObj l _)
     rw[gX]
     exact e2
    ·have:=run_endRound (P:=P) (k.map fg) hl3
     rw[this]
     cases k<;>rfl
   split at hy
   ·rename_i s2 hs2
    simp only[Option.some.injEq,Prod.mk.injEq] at hy
    obtain⟨rfl,rfl⟩:=hy
    exact fin .normal s2 none hs2 fun F3 J3 a3 w3 w4 q1 q2 q3 q4=>⟨_,w4,q4,F3,J3,rfl,q1,q2,q3⟩
   ·rename_i e s2 hne hs2
    simp only[Option.some.injEq,Prod.mk.injEq] at hy
    obtain⟨rfl,rfl⟩:=hy
    refine fin e s2 (some e) hs2 fun F3 J3 a3 w3 w4 q1 q2 q3 q4=>?_
    cases e with
    | normal=>first | exact (hne rfl).elim | exact (hne hs2).elim | exact (hne _).elim
    | exit id=>exact⟨_,w4,q4,F3,J3,rfl,q1,q2,q3⟩
    | ret=>exact⟨_,w4,q4,F3,J3,rfl,q1,q2,q3⟩
   ·cases hy
  ·cases hy
 ·cases hy
theorem Om {F:Fz} {J:JMap} {l:Nat} {caps:List LV} {us:List Value} {n:Nat} (hm:caps.any isMark=false) (h:AllV F J caps us) :
  TRelI l F J (pad n (.tuple []::caps)) { tmps:=(Value.func (.yield l) #[] #[]::us).toArray++Array.replicate (n-(Value.func (.yield l) #[] #[]::us).toArray.size) undef,defers:=[] }:=by
 have hT:=Cm (n:=n) (args:=.undef::caps) (us:=Value.func (.yield l) #[] #[]::us) (h.cons (.undef _))
 refine⟨rfl,?_,fun t x hx=>?_⟩
 ·have:=hT.size
  simpa[pad] using this
 ·cases t with
  | zero =>
   simp only[pad,List.cons_append,List.getElem?_cons_zero,Option.some.injEq] at hx
   subst hx
   refine⟨.func (.yield l) #[] #[],?_,fun _=>rfl,fun hf=>by cases hf⟩
   rw[Array.getElem?_append_left (by simp)]
   simp
  | succ t =>
   simp only[pad,List.cons_append,List.getElem?_cons_succ,List.length_cons] at hx
   obtain⟨u,h1,h2⟩:=hT.rel (t+1) x (by simpa[pad] using hx)
   have hxm:isMark x=false:=by
    have hmem:=List.mem_of_getElem? hx
    rw[List.mem_append] at hmem
    rcases hmem with hmem | hmem
    ·rw[List.any_eq_false] at hm
     simpa using hm x hmem
    ·rw[List.mem_replicate] at hmem
     rw[hmem.2]
     rfl
   exact⟨u,h1,fun hf=>(by rw[hxm] at hf; cases hf),fun _=>h2⟩
theorem Hj {ρ:Option Nat} {B:Nat} {Ds:List Nat} {F:Fz} {J:JMap} {h:Heap} {w:World} (fn:FuncId) (tm:Array Value) (ps:Array Tmp) (asg body:Code) (hC:CtxR ρ B Ds w) (hB:B≤w.heap.size) (hH:HRel F J h w) :
  ∃ (l:Nat) (Ms:List Nat) (w1:World) (d:Nat),(Instr.enterLoop fn tm ps asg body (fw ρ).round).run P w=.ok (l,dV Ms) w1∧w1.heap[l]? = some (.loop { state:=.ready,pending:=none,fn,tmps:=tm,params:=ps,assign:=asg,body,defers:=d }) ∧
   HRel F J h w1∧Ext F J w F J w1∧w.heap.size≤l∧CtxR ρ B (Ms++Ds) w1∧l ∉ Ms++Ds∧ρ≠some l:=by
 cases ρ with
 | none =>
  obtain⟨q1,q2⟩:=hH.allocOther (.deferred (some []))
  obtain⟨q3,q4⟩:=q1.allocOther (.loop { state:=.ready,pending:=none,fn,tmps:=tm,params:=ps,assign:=asg,body,defers:=w.heap.size })
  have hC' : Shut B Ds w:=hC
  have hD1:(w.alloc (.deferred (some []))).heap[w.heap.size]? = some (.deferred (some [])):=World.alloc_heap_new w _
  have hlt:∀ D ∈ Ds,D<w.heap.size:=fun D hD=>(Array.getElem?_eq_some_iff.1 (hC'.2 D hD).2).1
  refine⟨w.heap.size+1,[w.heap.size],_,w.heap.size,run_enterLoop_outer _ _ _ _ _,?_,q3,q2.trans q4,by omega,?_,?_,by simp⟩
  ·have:=World.alloc_heap_new (w.alloc (.deferred (some []))) (.loop { state:=.ready,pending:=none,fn,tmps:=tm,params:=ps,assign:=asg,body,defers:=w.heap.size })
   rwa [World.size_alloc] at this
  ·have h1:Shut B ([w.heap.size]++Ds) (w.alloc (.deferred (some []))):=by
    refine⟨?_,fun D hD=>?_⟩
    ·simp only[List.singleton_append,List.nodup_cons]
     exact⟨fun hm=>Nat.lt_irrefl _ (hlt _ hm),hC'.1⟩
    ·rcases List.mem_cons.1 hD with rfl | hD
     ·exact⟨hB,hD1⟩
     ·exact (hC'.ext hH q2).2 D hD
   exact h1.ext q1 q4
  ·simp only[List.singleton_append,List.mem_cons,not_or]
   exact⟨by omega,fun hm=>by have:=hlt _ hm; omega⟩
 | some l0 =>
  obtain⟨hD,r0,hl0⟩:=hC
  subst hD
  obtain⟨q1,q2⟩:=hH.allocOther (.loop { state:=.ready,pending:=none,fn,tmps:=tm,params:=ps,assign:=asg,body,defers:=r0.defers })
  have hl0' : l0<w.heap.size:=(Array.getElem?_eq_some_iff.1 hl0).1
  refine⟨w.heap.size,[],_,r0.defers,run_enterLoop_inner hl0 _ _ _ _ _,World.alloc_heap_new w _,q1,q2,Nat.le_refl _,⟨rfl,r0,q2.foreign hH hl0 rfl⟩,by simp,fun e=>?_⟩
  simp only[Option.some.injEq] at e
  omega
theorem PU (hP:ProgOk P H prog) (hr:CodeR P H r) (hri:vP P H ri):CodeR P H (exec prog r ri):=by
 intro f c
 induction c with
 | skip =>
  intro s s' ex hs ρ B Ds F J a w Q hT hC hB hH hQ
  simp only[aM,exec,Option.some.injEq,Prod.mk.injEq] at hs
  obtain⟨rfl,rfl⟩:=hs
  exact wpIn_skip (hQ Ds F J a w hT hC hH (.refl F J w))
 | label l =>
  intro s s' ex hs ρ B Ds F J a w Q hT hC hB hH hQ
  simp only[aM,exec,Option.some.injEq,Prod.mk.injEq] at hs
  obtain⟨rfl,rfl⟩:=hs
  exact wpIn_label (hQ Ds F J a w hT hC hH (.refl F J w))
 | ret =>
  intro s s' ex hs ρ B Ds F J a w Q hT hC hB hH hQ
  simp only[aM,exec,Option.some.injEq,Prod.mk.injEq] at hs
  obtain⟨rfl,rfl⟩:=hs
  exact wpIn_ret (hQ Ds F J a w hT hC hH (.refl F J w))
 | exit id =>
  intro s s' ex hs ρ B Ds F J a w Q hT hC hB hH hQ
  simp only[aM,exec,Option.some.injEq,Prod.mk.injEq] at hs
  obtain⟨rfl,rfl⟩:=hs
  exact wpIn_exit (hQ Ds F J a w hT hC hH (.refl F J w))
 | seq x y ihx ihy =>
  intro s s' ex hs ρ B Ds F J a w Q hT hC hB hH hQ
  simp only[aM,exec] at hs
  split at hs
  ·rename_i s1 h1
   refine wpIn_seq (ihx s s1 .normal h1 ρ B Ds F J a w _ hT hC hB hH fun Ds1 F1 J1 a1 w1 hT1 hC1 hH1 hE1=>?_).wp
   exact (ihy s1 s' ex hs ρ B Ds1 F1 J1 a1 w1 Q hT1 hC1 (Nat.le_trans hB hE1.size) hH1 fun Ds2 F2 J2 a2 w2 hT2 hC2 hH2 hE2=>hQ Ds2 F2 J2 a2 w2 hT2 hC2 hH2 (hE1.trans hE2)).wp
  ·rename_i hne
   refine wpIn_seq (ihx s s' ex hs ρ B Ds F J a w _ hT hC hB hH fun Ds1 F1 J1 a1 w1 hT1 hC1 hH1 hE1=>?_).wp
   have:=hQ Ds1 F1 J1 a1 w1 hT1 hC1 hH1 hE1
   cases ex with
   | normal=>exact absurd hs (hne s')
   | exit id=>exact this
   | ret=>exact this
 | cond c x y ihx ihy =>
  intro s s' ex hs ρ B Ds F J a w Q hT hC hB hH hQ
  simp only[aM] at hs
  split at hs
  ·rename_i lo hlo
   have hv:=an hT hlo
   simp only[exec] at hs
   split at hs
   ·rename_i hb
    rw[hb] at hv
    exact wpIn_cond_true hv.bool_inv (ihx s s' ex hs ρ B Ds F J a w Q hT hC hB hH hQ).wp
   ·rename_i hb
    rw[hb] at hv
    exact wpIn_cond_false hv.bool_inv (ihy s s' ex hs ρ B Ds F J a w Q hT hC hB hH hQ).wp
   ·cases hs
  ·simp[exec] at hs
 | block id x ihx =>
  intro s s' ex hs ρ B Ds F J a w Q hT hC hB hH hQ
  simp only[aM,exec] at hs
  split at hs
  ·rename_i id' s1 h1
   refine wpIn_block (ihx s s1 (.exit id') h1 ρ B Ds F J a w _ hT hC hB hH fun Ds1 F1 J1 a1 w1 hT1 hC1 hH1 hE1=>?_).wp
   split at hs
   ·rename_i he
    simp only[Option.some.injEq,Prod.mk.injEq] at hs
    obtain⟨rfl,rfl⟩:=hs
    simp only[eL,Exit.inBlock,he,if_true]
    exact hQ Ds1 F1 J1 a1 w1 hT1 hC1 hH1 hE1
   ·rename_i he
    simp only[Option.some.injEq,Prod.mk.injEq] at hs
    obtain⟨rfl,rfl⟩:=hs
    simp only[eL,Exit.inBlock,if_neg he]
    exact hQ Ds1 F1 J1 a1 w1 hT1 hC1 hH1 hE1
  ·rename_i hne
   refine wpIn_block (ihx s s' ex hs ρ B Ds F J a w _ hT hC hB hH fun Ds1 F1 J1 a1 w1 hT1 hC1 hH1 hE1=>?_).wp
   have:=hQ Ds1 F1 J1 a1 w1 hT1 hC1 hH1 hE1
   cases ex with
   | normal=>exact this
   | exit id'=>exact absurd hs (hne id' s')
   | ret=>exact this
 | loop x ihx =>
  intro s s' ex hs ρ B Ds F J a w Q hT hC hB hH hQ
  simp only[aM,exec] at hs
  refine LapsIn.intro ?_
  split at hs
  ·rename_i s1 h1
   refine (ihx s s1 .normal h1 ρ B Ds F J a w _ hT hC hB hH fun Ds1 F1 J1 a1 w1 hT1 hC1 hH1 hE1=>?_).wp
   obtain⟨J2,hT2,hH2,hE2⟩ : ∃ J2,TRel (dV Ds1) F1 J2 (if !H.noGc.contains (f,dv x) then gc s.heap.length s1 else s1).tmps a1∧HRel F1 J2 (if !H.noGc.contains (f,dv x) then gc s.heap.length s1 else s1).heap w1∧Ext F J w F1 J2 w1:=by
    split
    ·exact JE hT1 hH1 hE1 hH.len.symm
    ·exact⟨J1,hT1,hH1,hE1⟩
   exact hr f (.loop x) _ s' ex hs ρ B Ds1 F1 J2 a1 w1 Q hT2 hC1 (Nat.le_trans hB hE2.size) hH2 fun Ds3 F3 J3 a3 w3 hT3 hC3 hH3 hE3=>hQ Ds3 F3 J3 a3 w3 hT3 hC3 hH3 (hE2.trans hE3)
  ·rename_i hne
   refine (ihx s s' ex hs ρ B Ds F J a w _ hT hC hB hH fun Ds1 F1 J1 a1 w1 hT1 hC1 hH1 hE1=>?_).wp
   have:=hQ Ds1 F1 J1 a1 w1 hT1 hC1 hH1 hE1
   cases ex with
   | normal=>exact absurd hs (hne s')
   | exit id'=>exact this
   | ret=>exact this
 | region id ops draw =>
  intro s s' ex hs ρ B Ds F J a w Q hT hC hB hH hQ
  exact Jb hP hr.ok hs hT hH fun F' J' a' w' hT' hH' hE'=>hQ Ds F' J' a' w' hT' (hC.ext hH hE') hH' hE'
 | scope x ihx =>
  intro s s' ex hs ρ B Ds F J a w Q hT hC hB hH hQ
  simp only[aM] at hs
  split at hs
  ·refine gY (ihx s s' ex hs ρ B Ds F J a w _ hT hC hB hH fun Ds1 F1 J1 a1 w1 hT1 hC1 hH1 hE1=>?_).wp
   have:=hQ Ds1 F1 J1 a1 w1 hT1 hC1 hH1 hE1
   cases ex<;>exact this
  ·simp[exec] at hs
 | rangeFunc g ps x y ihx ihy =>
  intro s s' ex hs ρ B Ds F J a w Q hT hC hB hH hQ
  simp only[aM] at hs
  split at hs
  ·rename_i lo hlo
   simp only[exec] at hs
   split at hs
   ·rename_i gf caps hfo
    split at hs
    ·rename_i nt itb hprog
     split at hs
     ·cases hs
     rename_i hcm
     rcases cu (hP.prog _ _ hprog) with ⟨g',e,_⟩ | ⟨k',g',e,_⟩ | ⟨fn,c,rs',e,hf,hb,hrs,hent⟩
     ·cases e
     ·cases e
     injection e with e1 e2 e3 e4
     subst e2 e3 e4
     obtain⟨u1,u2,hev,hu1,hu2⟩:=rg (an hT hlo) hfo
     have hu1' : u1=[]:=List.eq_nil_of_length_eq_zero (by rw[hu1.1]; rfl)
     subst hu1'
     refine wpIn_rangeFunc fun fn0 _=>?_
     obtain⟨l,Ms,w1,d,henter,hrec,hH1,hE1,hl,hC1,hlD,hlρ⟩:=Hj (P:=P) fn0 a.tmps ps x y hC hB hH
     let rc:Loop:={ state:=.ready,pending:=none,fn:=fn0,tmps:=a.tmps,params:=ps,assign:=x,body:=y,defers:=d }
     have hR1:RecAt l rc none w1:=hrec
     refine⟨l,dV Ms,w1,{ target:=.fn (.func gf) u2.toArray,args:=#[.func (.yield l) #[] #[]] },w1,gf,(Value.func (.yield l) #[] #[]::u2).toArray,w1,henter,?_,fun _ _=>trivial,?_,(fun e=>nomatch e),?_⟩
     ·simp only[resolve,hev]
      simp[go_sem]
     ·have:=ny (w:=w1) hent (Value.func (.yield l) #[] #[]::u2).toArray
      simp only[invoke]
      have e:(#[Value.func (.yield l) #[] #[]]++u2.toArray:Array Value)=(Value.func (.yield l) #[] #[]::u2).toArray:=by simp
      first
       | (rw[e]; exact this)
       | (simp only[go_sem]; rw[e]; exact this)
     have hCx:pL (fun F' J' W=>Ext F J w1 F' J' W):=fun hX _ hE=>hX.trans hE
     have hY:=Pk (prog:=prog) (r:=r) (ri:=ri) (f:=f) (asg:=x) (body:=y) ihx ihy (ps:=ps) (F:=F) (J:=J) (w1:=w1) hT (l:=l) (rec:=rc) rfl rfl rfl rfl
     have hTI:=Om (n:=fn.ntmps) (l:=l) (by simpa using hcm) (hu2.mono hE1.fle hE1.jle)
     have key:∀ (e:Ex) (s3:St) (p:Option Ex),ri (dm (exec prog r ri (aM P H f x)) (exec prog r ri (aM P H f y)) ps.toList s.tmps) (aM P H gf c) ⟨pad fn.ntmps (.tuple []::caps),s.heap⟩ none=some (e,s3,p)→(∀ id,e≠.exit id) →
       some ((p.getD .normal,⟨s.tmps,s3.heap⟩):Ex × St)=some (ex,s')→CallsIn (fw ρ) (0-1) P gf (Value.func (.yield l) #[] #[]::u2).toArray w1 (rangePost (fw ρ) 0 P l Q { a with defers:=dV Ms++a.defers }):=by
      intro e s3 p hit hne hfin
      simp only[Option.some.injEq,Prod.mk.injEq] at hfin
      obtain⟨rfl,rfl⟩:=hfin
      refine callsIn_of_wp (F:=Fence.wide) (n:=0) hf hb trivial (hri gf c _ _ s3 none p e hit l rc _ hCx hY F J _ w1 _ hTI hR1 (by rw[hR1.nz]; exact .refl F J w1) hH1 fun F2 J2 a2 w2 hT2 hR2 hX2 hH2 hE2=>?_).wp rfl
      have main:a2.defers=[]∧∃ u,(results fn a2.tmps).run P w2=.ok u w2∧rangePost (fw ρ) 0 P l Q { a with defers:=dV Ms++a.defers } (.returned u) w2:=by
       obtain⟨u,hu,_⟩:=oJ (fn:=fn) (v:=.c (.tuple [])) (rs:=[]) (s:=⟨unmark s3.tmps,s3.heap⟩) hT2.unmark hH2 hrs rfl
       refine⟨hT2.defers,u,hu,p.map fg,w2.putObj l (.loop { rc with state:=.exhausted,pending:=p.map fg }),?_,?_⟩
       ·have:=run_endLoop (P:=P) hR2 (by simp only; split<;>simp)
        exact this
       ·have hH4:HRel F2 J2 s3.heap (w2.putObj l (.loop { rc with state:=.exhausted,pending:=p.map fg })):=hH2.putObj _ hR2 rfl
        rw[hR1.nz] at hE2
        have hE4:Ext F J w F2 J2 (w2.putObj l (.loop { rc with state:=.exhausted,pending:=p.map fg })):=by
         have:=(hE1.trans hE2).putObj (D:=l) (.loop { rc with state:=.exhausted,pending:=p.map fg }) hl
         unfold nz at this
         rwa [gX] at this
        have hC4:CtxR ρ B (Ms++Ds) (w2.putObj l (.loop { rc with state:=.exhausted,pending:=p.map fg })):=by
         have h1:CtxR ρ B (Ms++Ds) (nz l rc w2):=hC1.ext hH1 hE2
         have h2:=h1.putObj (l:=l) (o:=.loop { rc with state:=.exhausted,pending:=p.map fg }) hlD hlρ
         unfold nz at h2
         rwa [gX] at h2
        have hTd:TRel (dV (Ms++Ds)) F2 J2 s.tmps { a with defers:=dV Ms++a.defers } :=
         ⟨by simp only[hT.defers,dV,List.map_append],hT.size,fun t y hy=>let ⟨u,q1,q2⟩:=hT.rel t y hy; ⟨u,q1,q2.mono hE4.fle hE4.jle⟩⟩
        have hq:=hQ (Ms++Ds) F2 J2 _ _ hTd hC4 hH4 hE4
        cases p with
        | none=>exact hq
        | some e' =>
         simp only[Option.map_some]
         cases e' with
         | normal=>exact wpIn_skip hq
         | exit id=>exact wpIn_exit hq
         | ret=>exact wpIn_ret hq
      cases e with
      | normal=>exact main
      | ret=>exact main
      | exit id=>exact absurd rfl (hne id)
     split at hs
     ·cases hs
     ·rename_i e s3 hne hit
      exact key e s3 none hit (fun id e=>by subst e; first | exact hne _ _ _ rfl | exact hne _ rfl | exact (hne id _ _ hit)) hs
     ·rename_i e s3 e' hne hit
      exact key e s3 (some e') hit (fun id e=>by subst e; first | exact hne _ _ _ rfl | exact hne _ rfl | exact (hne id _ _ hit)) hs
     ·cases hs
    ·cases hs
   ·cases hs
  ·simp[exec] at hs
 | goto l =>
  intro s s' ex hs
  simp[aM,exec] at hs
 | refuse why =>
  intro s s' ex hs
  simp[aM,exec] at hs
theorem jy (hP:ProgOk P H prog):∀ n,CodeR P H (runs prog n).1∧vP P H (runs prog n).2
 | 0=>⟨fun f c s s' ex hs=>by simp[runs] at hs,fun f c yh s s' p p' ex hs=>by simp[runs] at hs⟩
 | n+1=>⟨PU hP (jy hP n).1 (jy hP n).2,NJ hP (jy hP n).1.ok (jy hP n).2⟩
theorem kV (hP:ProgOk P H prog) {n f:Nat} {args:List CV} {us:List Value} {v:CV} {F:Fz} {w:World} (hF:FzOk F w) (ha:AllC F args us) (hs:pcall prog n f args=some v):Calls P f us.toArray w (qe F w v):=by
 unfold pcall at hs
 split at hs
 ·rename_i g hg
  rcases cu (hP.prog _ _ hg) with ⟨g',e,hp⟩ | ⟨k,g',e,_⟩ | ⟨fn,c,rs,e,_⟩
  ·injection e with e
   subst e
   exact (hP.prims _ _ hp).2 F w args us v hF ha hs
  ·cases e
  ·cases e
 ·rename_i nt rs body hg
  rcases cu (hP.prog _ _ hg) with ⟨g',e,hp⟩ | ⟨k,g',e,_⟩ | ⟨fn,c,rs',e,hf,hb,hrs,he⟩
  ·cases e
  ·cases e
  ·injection e with e1 e2 e3 e4
   subst e2 e3 e4
   exact pZ (jy hP n).1.ok hf hb hrs ha hF hs
 ·cases hs
end
end LM
namespace LM
open Go Go.RowKit
def nA (esz:Option Nat) (bytes:Nat) (zero:List LV):LCode :=
 (.seq (.region [.mk (some 2) (.mkNil esz) none none .any]) (.seq (.seq (.region [.mk (some 3) (.move (.t 0)) none none .any,.mk (some 4) (.eqNil false (.t 3)) none none .any]) (.cond (.t 4) (.seq (.region [.mk (some 2) (.mkNil esz) none none .any]) .ret) .skip)) (.seq (.region [.mk (some 5) (.buildSlice 0 esz 0 zero []) none none .any,.mk (some 6) (.move (.t 0)) none none .any,.mk (some 7) (.append esz bytes (.t 5) (.t 6)) none none .any,.mk (some 2) (.move (.t 7)) none none .any]) .ret)))
def nx (esz:Option Nat) (bytes:Nat) (zero:List LV):LFunc:=.code (.fresh 1) 8 [.tmp 2] (nA esz bytes zero)
theorem Ku {prog:Nat→Option LFunc} {esz:Option Nat} {bytes:Nat} {zero:List LV} {x:CV} {xs:List CV} (h1:¬ (x::xs).length*bytes > 2^47) (h2:¬ (x::xs).length > 9223372036854775807)
  (h3:(((x::xs).flatMap CV.cells).map LV.c).length=(x::xs).length*ae esz) (h4:aT (((x::xs).flatMap CV.cells).map .c)=true) :
  c8 (run prog 1) 8 [.tmp 2] (nA esz bytes zero) [.slice (x::xs)]=some (.slice 2 1 0 (x::xs).length esz none,[.cells 1 [] 0,.cells 1 [] 0,.cells 1 (((x::xs).flatMap CV.cells).map .c) 0]):=by
 generalize hl:(x::xs).length=n at *
 have hn:n≠0:=by rw[← hl]; simp
 simp only[List.flatMap_cons,List.map_append] at h3 h4
 generalize hc:List.map LV.c x.cells++List.map LV.c (List.flatMap CV.cells xs)=cells at *
 have hc2:List.map LV.c (List.flatMap CV.cells (x::xs))=cells:=by rw[← hc]; simp
 rw[hc2]
 simp[cK,dK,bQ,c8,step,aX,de,run,runs,nA,exec,au,aY,bu,ab,aN,aO,pad,put,ev,cN,b7,ok,okC,aK,bT,aP,bz,aT,h1,h2,h3,h4,hl,hn,hc,hc2,cX]
theorem oM {P:Program} {H:Hints} {prog:Nat→Option LFunc} {f:Nat} {esz:Option Nat} {bytes:Nat} {zero:List LV} (hent:Enters P f) (hP:ProgOk P H prog) (hf:prog f=some (nx esz bytes zero))
  (hnil:∀ c w,Calls P f #[.slice none 0 c] w fun e w'=>e=.returned (.slice none 0 0)∧w'=w) (hemp:∀ a c w,Calls P f #[.slice (some a) 0 c] w fun e w'=>∃ a',e=.returned (.slice a' 0 0)∧∃ o,w'=w.alloc o):FprimOk P f (dp esz bytes):=by
 refine⟨hent,fun F w args us v bs hF ha hg=>?_⟩
 unfold dp at hg
 split at hg
 ·rename_i xs
  obtain⟨u,rfl⟩ : ∃ u,us=[u]:=List.length_eq_one_iff.1 ha.1
  have hu:CRel F (.slice xs) u:=by
   obtain⟨u',h1,h2⟩:=ha.2 0 _ rfl
   simp only[List.getElem?_cons_zero,Option.some.injEq] at h1
   subst h1
   exact h2
  have empty:∀ (a' : Option Addr) (e:Ending) (w' : World),e=.returned (.slice a' 0 0)→Below w.heap.size w w'→FzOk F w'→vM F w .emp [] e w':=fun a' e w' he hB hz=>⟨_,F,[],he,.emp a',HRel.empty hz,by simp,F.le_refl,hB,fun _ _=>⟨fun _=>rfl,rfl⟩⟩
  cases xs with
  | nil =>
   simp only[List.length_nil,if_true,Option.some.injEq,Prod.mk.injEq] at hg
   obtain⟨rfl,rfl⟩:=hg
   obtain⟨a,c,rfl⟩ : ∃ a c,u=.slice a 0 c:=by cases hu<;>exact⟨_,_,rfl⟩
   cases a with
   | none=>exact (hnil c w).mono fun e w' ⟨he,hw⟩=>empty _ e w' he (hw ▸ .refl _ _) (hw ▸ hF)
   | some a=>exact (hemp a c w).mono fun e w' ⟨a',he,o,hw⟩=>empty _ e w' he (hw ▸ (Below.refl _ _).alloc (Nat.le_refl _) o) (hw ▸ hF.alloc o)
  | cons x xs =>
   rw[if_neg (by simp)] at hg
   split at hg
   ·cases hg
   ·rename_i hne
    simp only[Option.some.injEq,Prod.mk.injEq] at hg
    obtain⟨rfl,rfl⟩:=hg
    simp only[not_or,Decidable.not_not,Bool.not_eq_false] at hne
    obtain⟨h1,h2,h3,h4⟩:=hne
    have hrun:=Ku (prog:=prog) (zero:=zero) h1 h2 h3 h4
    rcases cu (hP.prog _ _ hf) with ⟨g',e,_⟩ | ⟨k,g',e,_⟩ | ⟨fn,c,rs',e,hfn,hb,hrs,he⟩
    ·cases e
    ·cases e
    ·injection e with e1 e2 e3 e4
     rw[e2,e3,e4] at hrun
     refine (oE (jy hP 1).1.ok hfn hb hrs ha hF hrun).mono ?_
     rintro e w' ⟨u,F',Jc,rfl,hv,hH,hcb,hle,hB,hsm⟩
     obtain⟨i,ad,c,hi,rest⟩ : SlOk Jc 2 1 0 (x::xs).length esz none u:=by cases hv; assumption
     obtain⟨i',hi',hbr⟩:=hH.live 2 _ rfl (by simp)
     have hii:i'=i:=by rw[hi] at hi'; simpa using hi'.symm
     subst hii
     refine⟨u,F',[some i'],rfl,.slice _ _ _ _ _ _ _ ⟨i',ad,c,rfl,rest⟩,⟨rfl,fun b blk hb' hd=>?_,fun b hb'=>?_,fun b b' j j' hj hj' _ _ _=>?_,fun b j hj hv'=>?_,hH.fz⟩,fun k j hj hv'=>?_,hle,hB,hsm⟩
     ·obtain rfl:b=0:=by
       have:=(List.getElem?_eq_some_iff.1 hb').1
       simp at this; omega
      simp only[List.getElem?_cons_zero,Option.some.injEq] at hb'
      subst hb'
      refine⟨i',rfl,?_⟩
      obtain⟨q1,q2,q3,q4⟩:=hbr
      refine⟨q1,q2,q3,fun hv'=>?_⟩
      obtain⟨arr,el,a1,a2,a3,a4,a5⟩:=q4 hv'
      refine⟨arr,el,a1,a2,a3,fun k y hy=>?_,a5⟩
      obtain⟨u',hu',hr,hc'⟩:=a4 k y hy
      refine⟨u',hu',?_,hc'⟩
      rw[List.getElem?_map,Option.map_eq_some_iff] at hy
      obtain⟨z,_,rfl⟩:=hy
      exact .c _ _ hr.of_c
     ·cases b with
      | zero=>simp at hb'
      | succ b=>simp at hb'
     ·have l1:=(List.getElem?_eq_some_iff.1 hj).1
      have l2:=(List.getElem?_eq_some_iff.1 hj').1
      simp at l1 l2
      omega
     ·obtain rfl:b=0:=by
       have:=(List.getElem?_eq_some_iff.1 hj).1
       simp at this; omega
      simp only[List.getElem?_cons_zero,Option.some.injEq] at hj
      subst hj
      exact hH.bound 2 _ hi hv'
     ·obtain rfl:k=0:=by
       have:=(List.getElem?_eq_some_iff.1 hj).1
       simp at this; omega
      simp only[List.getElem?_cons_zero,Option.some.injEq] at hj
      subst hj
      exact hcb 2 _ hi hv'
 ·cases hg
end LM
namespace LM
open Go Go.RowKit
inductive CTy where
 | bool
 | int (k:IntKind)
 | str
 | slice (b:Nat) (e:CTy)
 | agg (cs:List CTy)
def CTy.cells:CTy→List CTy
 | .agg cs=>cs
 | t=>[t]
mutual
def Typed:CTy→CV→Prop
 | .bool,v=>∃ b,v=.bool b
 | .int k,v=>∃ n,v=.int k n∧(Lit.int k n).wf=true
 | .str,v=>∃ s:List UInt8,v=.str s∧s.length≤reachBytes
 | .slice b e,v=>∃ xs:List CV,v=.slice xs∧xs.length≤maxLen∧xs.length*b≤reachBytes∧∀ x ∈ xs,Typed e x
 | .agg ts,v=>∃ cs:List CV,v=.agg cs∧TypedL ts cs
def TypedL:List CTy→List CV→Prop
 | [],[]=>True
 | t::ts,c::cs=>Typed t c∧TypedL ts cs
 | _,_=>False
end
theorem TypedL.append:∀ {ts ts' : List CTy} {cs cs' : List CV},TypedL ts cs→TypedL ts' cs'→TypedL (ts++ts') (cs++cs')
 | [],_,[],_,_,h=>h
 | [],_,_::_,_,h,_=>by simp[TypedL] at h
 | _::_,_,[],_,h,_=>by simp[TypedL] at h
 | t::ts,ts',c::cs,cs',h,h'=>by
  simp only[TypedL,List.cons_append] at h ⊢
  exact⟨h.1,h.2.append h'⟩
theorem Typed.cells {t:CTy} {v:CV} (h:Typed t v):TypedL t.cells v.cells:=by
 cases t with
 | agg ts =>
  simp only[Typed] at h
  obtain⟨cs,rfl,h⟩:=h
  exact h
 | bool =>
  have h':=h
  simp only[Typed] at h
  obtain⟨b,rfl⟩:=h
  exact⟨h',trivial⟩
 | int k =>
  have h':=h
  simp only[Typed] at h
  obtain⟨n,rfl,_⟩:=h
  exact⟨h',trivial⟩
 | str =>
  have h':=h
  simp only[Typed] at h
  obtain⟨s,rfl,_⟩:=h
  exact⟨h',trivial⟩
 | slice b e =>
  have h':=h
  simp only[Typed] at h
  obtain⟨xs,rfl,_⟩:=h
  exact⟨h',trivial⟩
def ze (f:TypeId→Option CTy):List TypeId→Option (List CTy)
 | []=>some []
 | t::ts=>match f t,ze f ts with
  | some c,some l=>some (c.cells++l)
  | _,_=>none
def cty (P:Program):Nat→TypeId→Option CTy
 | 0,_=>none
 | n+1,t=>match P.underlying t with
  | some .bool=>some .bool
  | some (.int k)=>some (.int k)
  | some .string=>some .str
  | some (.slice e)=>(cty P n e).map (.slice (P.bytesOf e))
  | some (.struct fs)=>(ze (cty P n) (fs.toList.map (·.type))).map .agg
  | some (.array m e)=>(cty P n e).map fun c=>.agg (aP m c.cells)
  | _=>none
def FAll (w:World):Fz where
 cell:=fun b o=>w.cell? ⟨b,o,none⟩
 map:=fun r=>match w.heap[r]? with
  | some (.map es _)=>some es
  | _=>none
theorem FAll.ok (w:World):FzOk (FAll w) w:=by
 refine⟨fun b o v h=>h,fun r es h=>?_⟩
 simp only[FAll] at h
 split at h
 ·rename_i es' clk hx
  simp only[Option.some.injEq] at h
  subst h
  exact⟨clk,hx⟩
 ·cases h
theorem jI {α β:Type} {f:α→Option β}:∀ {l:List α} {r:List β},l.mapM f=some r→r.length=l.length∧∀ (i:Nat) (x:α),l[i]? = some x→∃ y,r[i]? = some y∧f x=some y
 | [],r,h=>by
  simp only[List.mapM_nil,Option.pure_def,Option.some.injEq] at h
  subst h
  exact⟨rfl,by simp⟩
 | a::l,r,h=>by
  rw[List.mapM_cons] at h
  simp only[Option.bind_eq_bind,Option.bind_eq_some_iff,Option.pure_def,Option.some.injEq] at h
  obtain⟨b,hb,bs,hbs,rfl⟩:=h
  obtain⟨h1,h2⟩:=jI hbs
  refine⟨by simp[h1],fun i x hx=>?_⟩
  cases i with
  | zero =>
   simp only[List.getElem?_cons_zero,Option.some.injEq] at hx
   subst hx
   exact⟨b,rfl,hb⟩
  | succ i=>exact h2 i x (by simpa using hx)
section
variable {H:Type} {enc:TypeId × Value→H} {P:Program} {w:World} {base:Nat} {sp:Nat→Bool} {held:Bool} {T:TypeId→Prop}
theorem lZ {a:Addr} {n:Nat} {cs:List Value} (h:w.cells? base a n=some cs):cs.length=n∧∀ (j:Nat) (u:Value),cs[j]? = some u→w.cell? (a.add j)=some u:=by
 unfold World.cells? at h
 split at h
 ·obtain⟨h1,h2⟩:=jI h
  refine⟨by simpa using h1,fun j u hu=>?_⟩
  have hj:j<n:=by rw[← show cs.length=n by simpa using h1]; exact (List.getElem?_eq_some_iff.1 hu).1
  obtain⟨y,hy,hf⟩:=h2 j j (by simp[hj])
  rw[hu] at hy
  simp only[Option.some.injEq] at hy
  subst hy
  exact hf
 ·cases h
theorem CL.single {F:Fz} {x:CV} {u:Value} (h:CRel F x u) (hc:isCell u):CL F [x] [u]:=by
 refine⟨rfl,fun i y hy=>?_⟩
 cases i with
 | zero =>
  simp only[List.getElem?_cons_zero,Option.some.injEq] at hy
  subst hy
  exact⟨u,rfl,h,hc⟩
 | succ i=>simp at hy
theorem Hs {a:Addr} {u:Value} (h:w.cell? a=some u):a.spot=none:=by
 unfold World.cell? at h
 split at h
 ·split at h
  ·cases h
  ·rename_i hs
   simpa using hs
 ·cases h
theorem oG {R:Nat→CV→Prop}:∀ n,(∀ i,i<n→∃ v,R i v)→∃ l:List CV,l.length=n∧∀ (i:Nat) (x:CV),l[i]? = some x→R i x
 | 0,_=>⟨[],rfl,by simp⟩
 | n+1,h=>by
  obtain⟨l,h1,h2⟩:=oG n fun i hi=>h i (by omega)
  obtain⟨v,hv⟩:=h n (by omega)
  refine⟨l++[v],by simp[h1],fun i x hx=>?_⟩
  rcases Nat.lt_or_ge i l.length with hl | hl
  ·rw[List.getElem?_append_left hl] at hx
   exact h2 i x hx
  ·rw[List.getElem?_append_right hl] at hx
   have hi:i-l.length=0:=by
    have:=(List.getElem?_eq_some_iff.1 hx).1
    simp at this
    omega
   rw[hi] at hx
   simp only[List.getElem?_cons_zero,Option.some.injEq] at hx
   subst hx
   have:i=n:=by omega
   subst this
   exact hv
theorem wj {F:Fz}:∀ {ts:List (List CTy)} {ns:List Nat} {cs:List Value},ts.length=ns.length→cs.length=ns.sum →
  (∀ (i:Nat) (t:List CTy) (n:Nat),ts[i]? = some t→ns[i]? = some n→∃ l:List CV,CL F l ((cs.drop (ns.take i).sum).take n)∧TypedL t l)→∃ l:List CV,CL F l cs∧TypedL ts.flatten l
 | [],ns,cs,h1,h2,_=>by
  have:ns=[]:=List.eq_nil_of_length_eq_zero (by simpa using h1.symm)
  subst this
  have:cs=[]:=List.eq_nil_of_length_eq_zero (by simpa using h2)
  subst this
  exact⟨[],⟨rfl,by simp⟩,trivial⟩
 | t::ts,[],cs,h1,h2,_=>by simp at h1
 | t::ts,n::ns,cs,h1,h2,h=>by
  simp only[List.sum_cons] at h2
  obtain⟨l1,hl1,ht1⟩:=h 0 t n rfl rfl
  simp only[List.take_zero,List.sum_nil,List.drop_zero] at hl1
  obtain⟨l2,hl2,ht2⟩:=wj (ts:=ts) (ns:=ns) (cs:=cs.drop n) (by simpa using h1) (by simp; omega) fun i t' n' hi hn=>by
   obtain⟨l,hl,ht⟩:=h (i+1) t' n' (by simpa using hi) (by simpa using hn)
   refine⟨l,?_,ht⟩
   simp only[List.take_succ_cons,List.sum_cons] at hl
   rw[List.drop_drop]
   exact hl
  refine⟨l1++l2,?_,by simpa using ht1.append ht2⟩
  have:=hl1.append hl2
  rwa [List.take_append_drop] at this
theorem iy {e:TypeId} {d:DataW H} {q:Nat}:∀ {l:List (DataW H)},d ∈ l→q ∈ d.weights P e→q ∈ DataW.weightsAll P e l
 | [],h,_=>by simp at h
 | d'::l,h,hq=>by
  simp only[DataW.weightsAll,List.mem_append]
  rcases List.mem_cons.1 h with rfl | h
  ·exact .inl hq
  ·exact .inr (iy h hq)
theorem Nh {n:Nat} {t:TypeId} {cs:List Value} {x:DataW H × List MemPlace} (h:DataW.trod enc P w base sp held (n+1) t cs=some x) :
  (P.underlying t=some .bool→∃ b,cs=[.bool b])∧(∀ k,P.underlying t=some (.int k)→∃ m,cs=[.int k m]∧(Lit.int k m).wf=true) ∧
  (P.underlying t=some .string→∃ s:ByteArray,cs=[.string s]∧s.size ∈ x.1.weights P t) ∧
  (∀ e,P.underlying t=some (.slice e)→cs=[.slice none 0 0]∨∃ a len cap,cs=[.slice (some a) len cap]∧len≤cap∧cap≤maxLen∧(∃ m ∈ x.1.weights P t,len*P.bytesOf e≤m)∧∀ i,i<len→∃ es y,w.cells? base (a.add (i*P.cellsOf e)) (P.cellsOf e)=some es∧DataW.trod enc P w base sp held n e es=some y∧∀ q ∈ y.1.weights P e,q ∈ x.1.weights P t) ∧
  (∀ fs,P.underlying t=some (.struct fs)→cs.length=P.cellsOf t∧∀ (i:Nat) (f:Field),fs.toList[i]? = some f→∃ y,DataW.trod enc P w base sp held n f.type ((cs.drop f.offset).take (P.cellsOf f.type))=some y∧∀ q ∈ y.1.weights P f.type,q ∈ x.1.weights P t) ∧
  (∀ m e,P.underlying t=some (.array m e)→cs.length=P.cellsOf t∧∀ i,i<m→∃ y,DataW.trod enc P w base sp held n e ((cs.drop (i*P.cellsOf e)).take (P.cellsOf e))=some y∧∀ q ∈ y.1.weights P e,q ∈ x.1.weights P t):=by
 rw[DataW.trod_step] at h
 unfold DataW.trodStep at h
 refine⟨fun hu=>?_,fun k hu=>?_,fun hu=>?_,fun e hu=>?_,fun fs hu=>?_,fun m e hu=>?_⟩
 ·rw[hu] at h
  split at h<;>rename_i hu'<;>first | (cases hu'; done) | skip
  ·exact⟨_,rfl⟩
  ·cases h
 ·rw[hu] at h
  split at h<;>rename_i hu'<;>first | (cases hu'; done) | skip
  ·injection hu' with e1
   injection e1 with e2
   subst e2
   split at h
   ·rename_i hc
    obtain⟨rfl,hw⟩:=hc
    exact⟨_,rfl,hw⟩
   ·cases h
  ·cases h
 ·rw[hu] at h
  split at h<;>rename_i hu'<;>first | (cases hu'; done) | skip
  ·split at h
   ·rename_i hc
    simp only[Option.some.injEq] at h
    subst h
    exact⟨_,rfl,by simp only[DataW.weights]; rw[Array.length_toList]; exact List.mem_singleton.2 rfl⟩
   ·cases h
  ·cases h
 ·rw[hu] at h
  split at h<;>rename_i hu'<;>first | (cases hu'; done) | skip
  ·exact .inl rfl
  ·rename_i a len cap
   injection hu' with e1
   injection e1 with e2
   subst e2
   right
   split at h
   ·rename_i hc
    simp only[Option.bind_eq_some_iff,Option.map_eq_some_iff] at h
    obtain⟨elems,he,rest,_,hx⟩:=h
    subst hx
    obtain⟨hl,hm⟩:=jI he
    refine⟨a,len,cap,rfl,hc.2.1,hc.2.2,⟨_,by simp only[DataW.weights,hu]; exact List.mem_cons_self,?_⟩,fun i hi=>?_⟩
    ·rw[List.length_map,hl,List.length_range]
     exact Nat.mul_le_mul_right _ (Nat.le_add_right _ _)
    obtain⟨y,hyl,hy⟩:=hm i i (by simp[hi])
    simp only[Option.bind_eq_some_iff] at hy
    obtain⟨es,h1,h2⟩:=hy
    refine⟨es,y,h1,h2,fun q hq=>?_⟩
    simp only[DataW.weights,hu]
    exact List.mem_cons_of_mem _ (List.mem_append_left _ (iy (List.mem_map_of_mem (List.mem_of_getElem? hyl)) hq))
   ·cases h
  ·cases h
 ·rw[hu] at h
  split at h<;>rename_i hu'<;>first | (cases hu'; done) | skip
  ·injection hu' with e1
   injection e1 with e2
   subst e2
   split at h
   ·rename_i hc
    simp only[Option.map_eq_some_iff] at h
    obtain⟨xs,hx,hx'⟩:=h
    subst hx'
    refine⟨hc,fun i f hf=>?_⟩
    obtain⟨_,hm⟩:=jI hx
    obtain⟨y,hyl,hy⟩:=hm i f hf
    refine⟨y,hy,fun q hq=>?_⟩
    simp only[DataW.weights,hu]
    exact DataW.weights_mem_each (j:=i) (t:=f.type) (d:=y.1) (by rw[List.getElem?_map,hf]; rfl) (by rw[List.getElem?_map,hyl]; rfl) q hq
   ·cases h
  ·exact (‹∀ (fs_1:Array Field),some (TypeDesc.struct fs)=some (TypeDesc.struct fs_1)→False› fs rfl).elim
 ·rw[hu] at h
  split at h<;>rename_i hu'<;>first | (cases hu'; done) | skip
  ·injection hu' with e1
   injection e1 with e2 e3
   subst e2 e3
   split at h
   ·rename_i hc
    simp only[Option.map_eq_some_iff] at h
    obtain⟨xs,hx,hx'⟩:=h
    subst hx'
    refine⟨hc,fun i hi=>?_⟩
    obtain⟨_,hm⟩:=jI hx
    obtain⟨y,hyl,hy⟩:=hm i i (by simp[hi])
    refine⟨y,hy,fun q hq=>?_⟩
    simp only[DataW.weights,hu]
    exact iy (List.mem_map_of_mem (List.mem_of_getElem? hyl)) hq
   ·cases h
  ·exact (‹∀ (n:Nat) (e_1:TypeId),some (TypeDesc.array m e)=some (TypeDesc.array n e_1)→False› m e rfl).elim
theorem zc {f:TypeId→Option CTy}:∀ {ts:List TypeId} {l:List CTy},ze f ts=some l→∃ cs:List CTy,cs.length=ts.length∧l=(cs.map CTy.cells).flatten∧∀ (i:Nat) (t:TypeId),ts[i]? = some t→∃ c,cs[i]? = some c∧f t=some c
 | [],l,h=>by
  simp only[ze,Option.some.injEq] at h
  subst h
  exact⟨[],rfl,rfl,by simp⟩
 | t::ts,l,h=>by
  simp only[ze] at h
  split at h
  ·rename_i c l' hc hl
   simp only[Option.some.injEq] at h
   subst h
   obtain⟨cs,h1,h2,h3⟩:=zc hl
   subst h2
   refine⟨c::cs,by simp[h1],by simp,fun i t' ht=>?_⟩
   cases i with
   | zero =>
    simp only[List.getElem?_cons_zero,Option.some.injEq] at ht
    subst ht
    exact⟨c,rfl,hc⟩
   | succ i=>exact h3 i t' (by simpa using ht)
  ·cases h
theorem OE (K:Kids P T) (hz:∀ t e,T t→P.underlying t=some (.slice e)→0<P.cellsOf e):∀ (n m:Nat) (t:TypeId) (cs:List Value) (x:DataW H × List MemPlace) (c:CTy),T t→cty P m t=some c →
  DataW.trod enc P w base sp held n t cs=some x→(∀ q ∈ x.1.weights P t,q≤reachBytes)→∃ v:CV,CL (FAll w) v.cells cs∧Typed c v:=by
 intro n
 induction n with
 | zero=>intro m t cs x c _ _ h; simp[DataW.trod] at h
 | succ n ih =>
  intro m t cs x c hT hc h hwt
  obtain⟨i1,i2,i3,i4,i5,i6⟩:=Nh h
  cases m with
  | zero=>simp[cty] at hc
  | succ m =>
   unfold cty at hc
   split at hc
   ·rename_i hu
    simp only[Option.some.injEq] at hc
    subst hc
    obtain⟨b,rfl⟩:=i1 hu
    exact⟨.bool b,.single (.bool b) rfl,by simp only[Typed]; exact⟨b,rfl⟩⟩
   ·rename_i k hu
    simp only[Option.some.injEq] at hc
    subst hc
    obtain⟨q,rfl,hw⟩:=i2 k hu
    exact⟨.int k q,.single (.int k q) rfl,by simp only[Typed]; exact⟨q,rfl,hw⟩⟩
   ·rename_i hu
    simp only[Option.some.injEq] at hc
    subst hc
    obtain⟨s,rfl,hs⟩:=i3 hu
    exact⟨.str s.data.toList,.single (.str s) rfl,by simp only[Typed]; exact⟨_,rfl,by rw[Array.length_toList]; exact hwt _ hs⟩⟩
   ·rename_i e hu
    simp only[Option.map_eq_some_iff] at hc
    obtain⟨ce,hce,rfl⟩:=hc
    rcases i4 e hu with rfl | ⟨a,len,cap,rfl,hlc,hcm,⟨wm,hwm,hwl⟩,hel⟩
    ·exact⟨.slice [],.single (.sliceE none 0) rfl,by simp only[Typed]; exact⟨[],rfl,by simp,by simp,by simp⟩⟩
    ·have hTe:=K.slice hT hu
     have hpos:=hz t e hT hu
     obtain⟨l,hl,hlr⟩:=oG (R:=fun i v=>∃ es,w.cells? base (a.add (i*P.cellsOf e)) (P.cellsOf e)=some es∧CL (FAll w) v.cells es∧Typed ce v) len fun i hi=>by
      obtain⟨es,y,h1,h2,h3⟩:=hel i hi
      obtain⟨v,hv,ht⟩:=ih m e es y ce hTe hce h2 fun q hq=>hwt q (h3 q hq)
      exact⟨v,es,h1,hv,ht⟩
     have htyped:Typed (.slice (P.bytesOf e) ce) (.slice l):=by
      simp only[Typed]
      refine⟨l,rfl,by omega,by rw[hl]; exact Nat.le_trans hwl (hwt _ hwm),fun v hv=>?_⟩
      obtain⟨i,hi,rfl⟩:=List.getElem_of_mem hv
      obtain⟨_,_,_,ht⟩:=hlr i _ (List.getElem?_eq_getElem hi)
      exact ht
     refine⟨.slice l,.single ?_ rfl,htyped⟩
     by_cases h0:len=0
     ·subst h0
      have:l=[]:=List.eq_nil_of_length_eq_zero hl
      subst this
      exact .sliceE _ cap
     ·-- the row lies where no string's address does
      have hspot:a.spot=none:=by
       obtain⟨es,y,h1,_,_⟩:=hel 0 (by omega)
       obtain⟨h2,h3⟩:=lZ h1
       have:=h3 0 (es[0]'(by omega)) (List.getElem?_eq_getElem (by omega))
       have hs:=Hs this
       cases a with
       | mk b o s =>
        cases s with
        | none=>rfl
        | some q=>simp[Addr.add] at hs
      obtain⟨b,o,s⟩:=a
      simp only at hspot
      subst hspot
      have key:∀ (i:Nat) (y:CV) (j:Nat) (z:CV),l[i]? = some y→y.cells[j]? = some z→∃ u,(FAll w).cell b (o+i*P.cellsOf e+j)=some u∧CRel (FAll w) z u∧isCell u:=by
       intro i y j z hy hz'
       obtain⟨es,h1,h2,_⟩:=hlr i y hy
       obtain⟨_,h3⟩:=lZ h1
       obtain⟨u,hu',hr,hc⟩:=h2.2 j z hz'
       refine⟨u,?_,hr,hc⟩
       have:=h3 j u hu'
       rw[bK,bK] at this
       exact this
      subst hl
      refine .slice l b o cap (P.cellsOf e) (fun i j=>((FAll w).cell b (o+i*P.cellsOf e+j)).getD Go.undef) hlc (fun i y hy=>?_) ?_ ?_ ?_
      ·obtain⟨es,h1,h2,_⟩:=hlr i y hy
       rw[← h2.1,(lZ h1).1]
      all_goals
       intro i y j z hy hz'
       obtain⟨u,h1,h2,h3⟩:=key i y j z hy hz'
       simp only[h1,Option.getD_some]
      ·exact h2
      ·exact h3
   ·rename_i fs hu
    simp only[Option.map_eq_some_iff] at hc
    obtain⟨cl,hcl,rfl⟩:=hc
    obtain⟨hlen,hfs⟩:=i5 fs hu
    obtain⟨hTf,hsum,hoff⟩:=K.struct hT hu
    obtain⟨ctys,hcl1,rfl,hcl3⟩:=zc hcl
    obtain⟨l,hl,ht⟩:=wj (F:=FAll w) (ts:=ctys.map CTy.cells) (ns:=fs.toList.map fun f=>P.cellsOf f.type) (cs:=cs) (by simp[hcl1]) (by rw[hlen,hsum]) fun i t' n' hi hn=>by
     simp only[List.getElem?_map,Option.map_eq_some_iff] at hi hn
     obtain⟨ct,hct,rfl⟩:=hi
     obtain⟨f,hf,rfl⟩:=hn
     obtain⟨y,hy,hyw⟩:=hfs i f hf
     obtain⟨ct',hct',hcty⟩:=hcl3 i f.type (by simp[hf])
     rw[hct] at hct'
     simp only[Option.some.injEq] at hct'
     subst hct'
     obtain⟨v,hv,htv⟩:=ih m f.type _ y ct (hTf f (List.mem_of_getElem? hf)) hcty hy fun q hq=>hwt q (hyw q hq)
     refine⟨v.cells,?_,htv.cells⟩
     rw[hoff i f hf] at hv
     rw[List.map_take] at hv
     exact hv
    exact⟨.agg l,hl,by simp only[Typed]; exact⟨l,rfl,ht⟩⟩
   ·rename_i q e hu
    simp only[Option.map_eq_some_iff] at hc
    obtain⟨ce,hce,rfl⟩:=hc
    obtain⟨hlen,hel⟩:=i6 q e hu
    obtain⟨hTe,hsz⟩:=K.array hT hu
    obtain⟨l,hl,ht⟩:=wj (F:=FAll w) (ts:=List.replicate q ce.cells) (ns:=List.replicate q (P.cellsOf e)) (cs:=cs) (by simp) (by rw[hlen,hsz]; simp) fun i t' n' hi hn=>by
     rw[List.getElem?_replicate] at hi hn
     split at hi
     ·rename_i hiq
      simp only[hiq,if_true,Option.some.injEq] at hi hn
      subst hi hn
      obtain⟨y,hy,hyw⟩:=hel i hiq
      obtain⟨v,hv,htv⟩:=ih m e _ y ce hTe hce hy fun q hq=>hwt q (hyw q hq)
      refine⟨v.cells,?_,htv.cells⟩
      have:((List.replicate q (P.cellsOf e)).take i).sum=i*P.cellsOf e:=by
       rw[List.take_replicate]
       simp[Nat.min_eq_left (Nat.le_of_lt hiq)]
      rw[this]
      exact hv
     ·cases hi
    exact⟨.agg l,hl,by simp only[Typed,aP]; exact⟨l,rfl,ht⟩⟩
   ·cases hc
end
end LM
namespace LM
open Go Go.RowKit Go.ChangeShapes Go.WideShapes
section
variable {H:Type} {enc:TypeId × Value→H} {P:Program} {W W' : World}
theorem mB {base:Nat} {sp:Nat→Bool} {held:Bool}:∀ {ts:List TypeId} {vs:List Value} {ds:List (DataW H)} {ps:List MemPlace},DataW.TrodAll enc P W base sp held ts vs ds ps→(∀ p ∈ ps,W.sameAt W' p)→DataW.TrodAll enc P W' base sp held ts vs ds ps
 | [],[],[],_,h,_=>h
 | _::_,_::_,_::_,_,⟨p,q,⟨n,h1⟩,h2,e⟩,hs=>⟨p,q,⟨n,DataW.trod_carry n _ _ _ h1 fun x hx=>hs x (by rw[e]; exact List.mem_append_left _ hx)⟩,mB h2 fun x hx=>hs x (by rw[e]; exact List.mem_append_right _ hx),e⟩
def ctys (P:Program):List TypeId→Option (List CTy)
 | []=>some []
 | t::ts=>match cty P 64 t,ctys P ts with
  | some c,some l=>some (c::l)
  | _,_=>none
theorem Ou {m:Nat} {t:TypeId} {c:CTy} (hc:cty P m t=some c):(∃ ts,c=.agg ts∧((∃ fs,P.underlying t=some (.struct fs))∨∃ n e,P.underlying t=some (.array n e))) ∨
  ((∀ v,Typed c v→v.cells=[v])∧(P.underlying t=some .bool∨(∃ k,P.underlying t=some (.int k))∨P.underlying t=some .string∨∃ e,P.underlying t=some (.slice e))):=by
 cases m with
 | zero=>simp[cty] at hc
 | succ m =>
  unfold cty at hc
  split at hc
  ·rename_i hu
   simp only[Option.some.injEq] at hc
   subst hc
   exact .inr ⟨fun v hv=>by simp only[Typed] at hv; obtain⟨b,rfl⟩:=hv; rfl,.inl hu⟩
  ·rename_i k hu
   simp only[Option.some.injEq] at hc
   subst hc
   exact .inr ⟨fun v hv=>by simp only[Typed] at hv; obtain⟨b,rfl,_⟩:=hv; rfl,.inr (.inl ⟨k,hu⟩)⟩
  ·rename_i hu
   simp only[Option.some.injEq] at hc
   subst hc
   exact .inr ⟨fun v hv=>by simp only[Typed] at hv; obtain⟨b,rfl,_⟩:=hv; rfl,.inr (.inr (.inl hu))⟩
  ·rename_i e hu
   simp only[Option.map_eq_some_iff] at hc
   obtain⟨ce,_,rfl⟩:=hc
   exact .inr ⟨fun v hv=>by simp only[Typed] at hv; obtain⟨b,rfl,_⟩:=hv; rfl,.inr (.inr (.inr ⟨e,hu⟩))⟩
  ·rename_i fs hu
   simp only[Option.map_eq_some_iff] at hc
   obtain⟨cl,_,rfl⟩:=hc
   exact .inl ⟨cl,rfl,.inl ⟨fs,hu⟩⟩
  ·rename_i n e hu
   simp only[Option.map_eq_some_iff] at hc
   obtain⟨ce,_,rfl⟩:=hc
   exact .inl ⟨_,rfl,.inr ⟨n,e,hu⟩⟩
  ·cases hc
theorem vy {ts ts' : List TypeId} {ds ds' : List (DataW H)} (h:(DataW.weightsEach P (ts++ts') (ds++ds')).all (·≤reachBytes)=true):∀ q ∈ DataW.weightsEach P ts ds,q≤reachBytes:=by
 have main:∀ {ts:List TypeId} {ds:List (DataW H)} {q:Nat},q ∈ DataW.weightsEach P ts ds→q ∈ DataW.weightsEach P (ts++ts') (ds++ds'):=by
  intro ts
  induction ts with
  | nil=>intro ds q hq; simp[DataW.weightsEach] at hq
  | cons t ts ih =>
   intro ds q hq
   cases ds with
   | nil=>simp[DataW.weightsEach] at hq
   | cons d ds =>
    simp only[DataW.weightsEach,List.cons_append,List.mem_append] at hq ⊢
    exact hq.imp id ih
 intro q hq
 have:=List.all_eq_true.1 h q (main hq)
 simpa using this
theorem PC {T:TypeId→Prop} (K:Kids P T) (hz:∀ t e,T t→P.underlying t=some (.slice e)→0<P.cellsOf e) {m b0:Nat} {t:TypeId} {u:Value} {d:DataW H} {ps:List MemPlace} {c:CTy} {sp:Nat→Bool} {held:Bool} (hT:T t) (hc:cty P m t=some c)
  (hok:Value.okWide P W .any b0 t u) (hd:DataW.Trod enc P W 0 sp held t u d ps) (hwt:∀ q ∈ d.weights P t,q≤reachBytes):∃ v:CV,CRel (FAll W) v u∧Typed c v:=by
 obtain⟨n,hn⟩:=hd
 obtain⟨v,hv,ht⟩:=OE K hz n m t _ _ c hT hc hn hwt
 refine⟨v,?_,ht⟩
 unfold Value.okWide at hok
 rcases Ou hc with ⟨ts,rfl,hu⟩ | ⟨hleaf,hu⟩
 ·obtain⟨cs,rfl⟩ : ∃ cs,u=.agg cs:=by
   rcases hu with ⟨fs,hu⟩ | ⟨q,e,hu⟩<;>rw[hu] at hok<;>obtain⟨cs,rfl,_⟩:=hok<;>exact⟨cs,rfl⟩
  simp only[Typed] at ht
  obtain⟨l,rfl,_⟩:=ht
  have h2:CL (FAll W) l cs.toList:=hv
  simpa using h2.agg
 ·have hcell:isCell u:=by
   rcases hu with hu | ⟨k,hu⟩ | hu | ⟨e,hu⟩<;>rw[hu] at hok<;>simp only[Cell.okWide,hu] at hok<;>cases u<;>first | rfl | (simp[Cell.ok,hu] at hok)
  rw[hleaf v ht,hcell.cells] at hv
  obtain⟨u',hu',hr,_⟩:=hv.2 0 v rfl
  simp only[List.getElem?_cons_zero,Option.some.injEq] at hu'
  subst hu'
  exact hr
theorem wJ {T:TypeId→Prop} (K:Kids P T) (hz:∀ t e,T t→P.underlying t=some (.slice e)→0<P.cellsOf e) {b0:Nat} {sp:Nat→Bool} {held:Bool}:∀ {ts:List TypeId} {us:List Value} {ds:List (DataW H)} {ps:List MemPlace} {cs:List CTy},(∀ t ∈ ts,T t)→ctys P ts=some cs →
  (∀ (j:Nat) t v,ts[j]? = some t→us[j]? = some v→Value.okWide P W .any b0 t v)→DataW.TrodAll enc P W 0 sp held ts us ds ps→(∀ q ∈ DataW.weightsEach P ts ds,q≤reachBytes)→∃ vs:List CV,AllC (FAll W) vs us∧TypedL cs vs
 | [],us,ds,ps,cs,_,hc,_,hA,_=>by
  simp only[ctys,Option.some.injEq] at hc
  subst hc
  cases us with
  | nil=>exact⟨[],.nil,trivial⟩
  | cons u us=>cases ds<;>exact hA.elim
 | t::ts,us,ds,ps,cs,hT,hc,hok,hA,hwt=>by
  simp only[ctys] at hc
  split at hc
  ·rename_i c l hcc hl
   simp only[Option.some.injEq] at hc
   subst hc
   cases us with
   | nil=>cases ds<;>exact hA.elim
   | cons u us =>
    cases ds with
    | nil=>exact hA.elim
    | cons d ds =>
     obtain⟨p,q,h1,h2,_⟩:=hA
     obtain⟨v,hv,ht⟩:=PC K hz (hT t (by simp)) hcc (hok 0 t u rfl rfl) h1 fun q hq=>hwt q (by simp only[DataW.weightsEach,List.mem_append]; exact .inl hq)
     obtain⟨vs,hvs,hts⟩:=wJ K hz (fun t' h'=>hT t' (by simp[h'])) hl (fun j t' v' hj hj'=>hok (j+1) t' v' hj hj') h2 fun q hq=>hwt q (by simp only[DataW.weightsEach,List.mem_append]; exact .inr hq)
     exact⟨v::vs,hvs.cons hv,ht,hts⟩
  ·cases hc
def slicesFullB (P:Program):Bool:=(List.range P.types.size).all fun t=>match P.underlying t with | some (.slice e)=>decide (0<P.cellsOf e) | _=>true
theorem law_contract {Hn:Hints} {prog:Nat→Option LFunc} (hP:ProgOk P Hn prog) {f:FuncId} {fn:Func} {s:ChangeSpec} {tb:TypeId} {cs:List CTy} {apart fresh handsOn again:Bool}
  (hlaid:laidOutB P=true) (hmaps:mapsRowed P=true) (hfull:slicesFullB P=true)
  (hpar:∀ t ∈ fn.params.toList,t<P.types.size) (hc:ctys P fn.params.toList=some cs) (hres:fn.resultTypes=#[tb]) (htb:P.underlying tb=some .bool) (hvars:s.vars=[])
  (hspec:∀ ds:List (DataW H),ds.length=fn.params.size→s.fn H (ds++[])={ results:=[.lit (.bool true)],args:=ds })
  (hlaw:∀ vs:List CV,TypedL cs vs→∃ n,pcall prog n f vs=some (.bool true))
  (base:Nat) (args:Array Value) (ds gs:List (DataW H)) (before:List MemPlace)
  (hval:∀ (j:Nat) t v,fn.params[j]? = some t→args[j]? = some v→Value.okWide P W .any base t v)
  (hW:DataW.Whole enc P fn.params.toList s.vars apart W args.toList ds gs before) (hsz:(DataW.weightsEach P (fn.params.toList++s.plain.varTypes P) (ds++gs)).all (·≤reachBytes)=true) :
  Calls P f args W fun e W'=>∃ v,e=.returned v∧s.post enc P fn apart fresh handsOn again W args v W':=by
 have K:=kids_rows hlaid hmaps
 have hz:=slices_full_of P hfull
 have hW0:=hW
 obtain⟨p,q,hA,hV,hpq,hnf,hnd⟩:=hW
 rw[hvars] at hV
 obtain⟨rfl,rfl⟩ : gs=[]∧q=[]:=by
  cases gs with
  | nil=>exact⟨rfl,hV⟩
  | cons g gs=>exact hV.elim
 rw[List.append_nil] at hpq
 subst hpq
 obtain⟨vs,hvs,hts⟩:=wJ (b0:=base) K hz hpar hc (fun j t v hj hv=>hval j t v (by simpa using hj) (by simpa using hv)) hA (vy hsz)
 obtain⟨n,hn⟩:=hlaw vs hts
 have hcalls:=kV hP (FAll.ok W) hvs hn
 have hargs:args.toList.toArray=args:=rfl
 refine Calls.mono hcalls ?_
 rintro e W' ⟨u,F',rfl,hcr,_,_,hB,_⟩
 cases hcr
 have hdl:ds.length=fn.params.size:=by
  have:∀ {ts:List TypeId} {us:List Value} {ds:List (DataW H)} {ps:List MemPlace},DataW.TrodAll enc P W 0 (fun _=>true) true ts us ds ps→ds.length=ts.length:=by
   intro ts
   induction ts with
   | nil=>intro us ds ps h; cases us<;>cases ds<;>first | rfl | exact h.elim
   | cons t ts ih =>
    intro us ds ps h
    cases us<;>cases ds<;>first | exact h.elim | skip
    obtain⟨_,_,_,h2,_⟩:=h
    simp[ih h2]
  simpa using this hA
 have hlt:=hW0.lt
 have hsame:∀ x ∈ before,W.sameAt W' x:=fun x hx=>hB.same (hlt x hx)
 have hA':=mB (W':=W') hA hsame
 have hr1:∀ (b:Nat) (sp:Nat→Bool) (hd:Bool),DataW.TrodAll enc P W' b sp hd fn.resultTypes.toList ((Value.bool true).resultList fn.resultTypes.size) [.lit (.bool true)] []:=by
  intro b sp hd
  rw[hres]
  exact⟨[],[],shut_bool htb true,rfl,rfl⟩
 refine⟨.bool true,rfl,ds,[],before,[],before,[],hW0,?_,?_,?_,hB.frame _,fun _=>⟨?_,.lit (.bool true)::ds,[],before,?_,fun x hx _=>hx⟩⟩
 ·rw[hspec ds hdl]; exact hr1 _ _ _
 ·rw[hspec ds hdl]
  exact hA'.respare K hz hpar fun x hx=>by simpa using hlt x hx
 ·rw[hspec ds hdl,hvars]
  rfl
 ·exact ok_one hres rfl (okWide_bool_mk htb true)
 ·refine⟨before,[],?_,by rw[hvars]; rfl,by simp,fun b o hx=>?_,hnd⟩
  ·have:=trodAll_append hA' (hr1 0 (fun _=>true) true)
   simpa using this
  ·rw[hB.frozen (hlt _ hx)]
   exact hnf b o hx
end
end LM
