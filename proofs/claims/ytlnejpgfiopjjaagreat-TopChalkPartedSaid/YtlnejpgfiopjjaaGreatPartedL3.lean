/- Part 3 of what YtlnejpgfiopjjaaGreatParted leans on. -/
import Derived.Laws.RangeAny
import Derived.Test.YtlnejpgfiopjjaaGreatPartedL1
import Derived.Test.YtlnejpgfiopjjaaGreatPartedL2
set_option linter.all false
namespace LM
open Go
abbrev Mu:=List (Option Nat)
inductive SNode where
 | op (dst:Nat) (op:LOp) (slot:Option Nat:=none) (wh:Where:=.any)
 | eff (op:LOp) (slot:Option Nat:=none) (wh:Where:=.any)
 | andN (dst:Nat) (c:Nat) (sub:List SNode) (r:LO)
 | orN (dst:Nat) (c:Nat) (sub:List SNode) (r:LO)
 deriving Inhabited
inductive SCode where
 | skip
 | ret
 | exit (id:Nat)
 | seq (a b:SCode)
 | cond (c:LO) (a b:SCode)
 | block (id:Nat) (ex:Mu) (a:SCode)
 | loop (gc:Bool) (a:SCode)
 | region (ns:List SNode) (sel:List Nat)
 | draw (slots:Nat) (ns:List SNode) (sel:List Nat)
 | pre (sel:List Nat) (a:SCode)
 | dead (c:LCode)
 deriving Inhabited
inductive SFunc where
 | code (mode:FMode) (nt np:Nat) (rho:Mu) (results:List LRes) (body:SCode)
 | prim (g:List CV→Option CV)
 | fprim (k:Nat) (g:List CV→Option (LV × List LB))
 deriving Inhabited
abbrev RunS:=SCode→St→Option (Ex × St)
def gW (sel:List Nat) (env:List LV):List LV:=sel.map fun i=>env.getD i .undef
def bnd {α β:Type} (x:Option α) (k:α→Option β):Option β :=
 match x with
 | some a=>k a
 | none=>none
def m5 (b:Bool) (x:Option (LV × Heap)) (h:Heap):Option (LV × Heap):=if b then x else some (.c (.bool false),h)
def orK (b:Bool) (x:Option (LV × Heap)) (h:Heap):Option (LV × Heap):=if b then some (.c (.bool true),h) else x
def eG (x:Option (Ex × St)) (k:St→Option (Ex × St)):Option (Ex × St) :=
 match x with
 | some (.normal,s)=>k s
 | some (.exit id,s)=>some (.exit id,s)
 | some (.ret,s)=>some (.ret,s)
 | none=>none
def d9 (id:Nat) (x:Option (Ex × St)):Option (Ex × St) :=
 match x with
 | some (.exit id',s)=>if id'=id then some (.normal,s) else some (.exit id',s)
 | some (.normal,s)=>some (.normal,s)
 | some (.ret,s)=>some (.ret,s)
 | none=>none
def oi (v:LV) (x y:Option (Ex × St)):Option (Ex × St) :=
 match v with
 | .c (.bool b)=>if b then x else y
 | _=>none
def iI (r:RunS) (results:List LRes) (body:SCode) (args:List CV):Option CV :=
 match r body ⟨args.map .c,[]⟩ with
 | some (ex,s)=>match ex with
  | .exit _=>none
  | _=>match aK s results with
   | some v=>match frz ay v s.heap with
    | some (c,_)=>some c
    | none=>none
   | none=>none
 | none=>none
def gI (r:RunS) (results:List LRes) (body:SCode) (args:List CV):Option (LV × List LB) :=
 match r body ⟨args.map .c,[]⟩ with
 | some (ex,s)=>match ex with
  | .exit _=>none
  | _=>match aK s results with
   | some v=>some (v,s.heap)
   | none=>none
 | none=>none
def eN (r:RunS) (results:List LRes) (body:SCode) (args:List LV) (h:Heap):R :=
 match r body ⟨args,h⟩ with
 | some (ex,s)=>match ex with
  | .exit _=>none
  | _=>match aK s results with
   | some v=>some (v,s.heap)
   | none=>none
 | none=>none
def aC (prog:Nat→Option SFunc) (r:RunS) (pos:Option Nat) (quiet:Bool) (f:Nat) (args:List LV) (h:Heap):R :=
 match prog f with
 | none=>none
 | some (.prim g)=>match aD quiet args h with
  | none=>none
  | some (cs,h')=>match g cs with
   | none=>none
   | some v=>some (.c v,if bE v then h else h')
 | some (.code .pure _ _ _ rs body)=>match aD quiet args h with
  | none=>none
  | some (cs,h')=>match iI r rs body cs with
   | none=>none
   | some v=>some (.c v,if bE v then h else h')
 | some (.fprim k g)=>if quiet && pos.isNone then none else match aD quiet args h with
  | none=>none
  | some (cs,h')=>match g cs with
   | none=>none
   | some (v,bs)=>bW pos k v bs h'
 | some (.code (.fresh k) _ _ _ rs body)=>if quiet && pos.isNone then none else match aD quiet args h with
  | none=>none
  | some (cs,h')=>match gI r rs body cs with
   | none=>none
   | some (v,bs)=>bW pos k v bs h'
 | some (.code .shared _ _ _ rs body)=>if quiet then none else
  match ah args h with
  | none=>none
  | some (args',h')=>eN r rs body args' h'
 | some (.code .live _ _ _ rs body)=>if quiet then none else eN r rs body args h
def iK (prog:Nat→Option SFunc) (r:RunS) (pos:Option Nat) (env:List LV) (h:Heap):LOp→R
 | .call quiet f args=>match da (ev env f) with
  | some (g,a,b)=>aC prog r pos quiet g (a++args.map (ev env)++b) h
  | none=>none
 | op=>ab pos env h op
def gJ (prog:Nat→Option SFunc) (r:RunS) (base:Nat) (op:LOp) (slot:Option Nat) (wh:Where) (env:List LV) (h:Heap):R :=
 if aX base wh env op && de base slot h then iK prog r (slot.map (base+·)) env h op else none
def jd:SNode→LV→List LV→List LV
 | .eff ..,_,env=>env
 | _,v,env=>v::env
mutual
def dg (prog:Nat→Option SFunc) (r:RunS) (base:Nat):SNode→List LV→Heap→R
 | .op _ op slot wh,env,h=>gJ prog r base op slot wh env h
 | .eff op slot wh,env,h=>gJ prog r base op slot wh env h
 | .andN _ c sub x,env,h=>match env.getD c .undef with
  | .c (.bool b)=>m5 b (bnd (runNs prog r base sub env h) fun s=>some (ev s.1 x,s.2)) h
  | _=>none
 | .orN _ c sub x,env,h=>match env.getD c .undef with
  | .c (.bool b)=>orK b (bnd (runNs prog r base sub env h) fun s=>some (ev s.1 x,s.2)) h
  | _=>none
def runNs (prog:Nat→Option SFunc) (r:RunS) (base:Nat):List SNode→List LV→Heap→Option (List LV × Heap)
 | [],env,h=>some (env,h)
 | n::ns,env,h=>bnd (dg prog r base n env h) fun s=>runNs prog r base ns (jd n s.1 env) s.2
end
def ac (prog:Nat→Option SFunc) (r:RunS):SCode→St→Option (Ex × St)
 | .skip,s=>some (.normal,s)
 | .ret,s=>some (.ret,s)
 | .exit id,s=>some (.exit id,s)
 | .seq a b,s=>eG (ac prog r a s) fun s'=>ac prog r b s'
 | .cond c a b,s=>oi (ev s.tmps c) (ac prog r a s) (ac prog r b s)
 | .block id _ a,s=>d9 id (ac prog r a s)
 | .loop g a,s=>eG (ac prog r a s) fun s'=>r (.loop g a) (if g then gc s.heap.length s' else s')
 | .region ns sel,s=>bnd (runNs prog r 0 ns s.tmps s.heap) fun e=>some (.normal,⟨gW sel e.1,e.2⟩)
 | .draw k ns sel,s=>bnd (runNs prog r s.heap.length ns s.tmps (s.heap++List.replicate k .dead)) fun e=>some (.normal,⟨gW sel e.1,e.2⟩)
 | .pre sel a,s=>ac prog r a ⟨gW sel s.tmps,s.heap⟩
 | .dead _,_=>none
def fW (prog:Nat→Option SFunc):Nat→RunS
 | 0=>fun _ _=>none
 | n+1=>ac prog (fW prog n)
def m6 (prog:Nat→Option SFunc) (n:Nat) (f:Nat) (args:List CV):Option CV :=
 match prog f with
 | some (.prim g)=>g args
 | some (.code .pure _ _ _ rs body)=>iI (fW prog n) rs body args
 | _=>none
def cD (μ:Mu):LO→Option LO
 | .k v=>some (.k v)
 | .t j=>match μ[j]? with
  | some (some t)=>some (.t t)
  | _=>none
def fD (μ:Mu):List LO→Option (List LO)
 | []=>some []
 | x::r=>match cD μ x,fD μ r with
  | some a,some l=>some (a::l)
  | _,_=>none
def fS (μ:Mu):Option LO→Option (Option LO)
 | none=>some none
 | some x=>match cD μ x with
  | some a=>some (some a)
  | none=>none
def rf (μ:Mu):List (Nat × LO)→Option (List (Nat × LO))
 | []=>some []
 | (i,x)::r=>match cD μ x,rf μ r with
  | some a,some l=>some ((i,a)::l)
  | _,_=>none
def pS (μ:Mu):List (Nat × Nat × LO)→Option (List (Nat × Nat × LO))
 | []=>some []
 | (i,n,x)::r=>match cD μ x,pS μ r with
  | some a,some l=>some ((i,n,a)::l)
  | _,_=>none
def rn1 (μ:Mu) (x:LO) (f:LO→LOp):Option LOp:=match cD μ x with
 | some a=>some (f a)
 | none=>none
def rn2 (μ:Mu) (x y:LO) (f:LO→LO→LOp):Option LOp:=match cD μ x,cD μ y with
 | some a,some b=>some (f a b)
 | _,_=>none
def rn3 (μ:Mu) (x y z:LO) (f:LO→LO→LO→LOp):Option LOp:=match cD μ x,cD μ y,cD μ z with
 | some a,some b,some c=>some (f a b c)
 | _,_,_=>none
def di (μ:Mu):LOp→Option LOp
 | .move x=>rn1 μ x .move
 | .pick c a b=>rn3 μ c a b .pick
 | .bin op x y=>rn2 μ x y (.bin op)
 | .binBool op x y=>rn2 μ x y (.binBool op)
 | .convStr x=>rn1 μ x .convStr
 | .eqAgg kk neg x y=>rn2 μ x y (.eqAgg kk neg)
 | .mkNil e=>some (.mkNil e)
 | .eqNil neg x=>rn1 μ x (.eqNil neg)
 | .nilCheck x=>rn1 μ x .nilCheck
 | .not x=>rn1 μ x .not
 | .neg x=>rn1 μ x .neg
 | .conv k x=>rn1 μ x (.conv k)
 | .mkFunc f a b=>match fD μ a,fD μ b with
  | some a',some b'=>some (.mkFunc f a' b')
  | _,_=>none
 | .extract x i=>rn1 μ x (.extract · i)
 | .field off n x=>rn1 μ x (.field off n)
 | .indexArr len e x i=>rn2 μ x i (.indexArr len e)
 | .indexStr x i=>rn2 μ x i .indexStr
 | .idxSlice sz x i=>rn2 μ x i (.idxSlice sz)
 | .idxArr len sz x i=>rn2 μ x i (.idxArr len sz)
 | .fieldAddr off x=>rn1 μ x (.fieldAddr off)
 | .load n a=>rn1 μ a (.load n)
 | .store n a x=>rn2 μ a x (.store n)
 | .copy sz a x=>rn2 μ a x (.copy sz)
 | .new z g=>some (.new z g)
 | .box x=>rn1 μ x .box
 | .build z ps=>match pS μ ps with
  | some l=>some (.build z l)
  | none=>none
 | .buildSlice c e len z ps=>match rf μ ps with
  | some l=>some (.buildSlice c e len z l)
  | none=>none
 | .makeSlice e b z l c=>rn2 μ l c (.makeSlice e b z)
 | .makeMap=>some .makeMap
 | .sliceStr x lo hi=>match cD μ x,fS μ lo,fS μ hi with
  | some a,some l,some h=>some (.sliceStr a l h)
  | _,_,_=>none
 | .sliceSl sz x lo hi mx=>match cD μ x,fS μ lo,fS μ hi,fS μ mx with
  | some a,some l,some h,some m=>some (.sliceSl sz a l h m)
  | _,_,_,_=>none
 | .sliceArr len e x lo hi mx=>match cD μ x,fS μ lo,fS μ hi,fS μ mx with
  | some a,some l,some h,some m=>some (.sliceArr len e a l h m)
  | _,_,_,_=>none
 | .lookup kk z ok x k=>rn2 μ x k (.lookup kk z ok)
 | .mapUpdate kk m k x=>rn3 μ m k x (.mapUpdate kk)
 | .range x=>rn1 μ x .range
 | .next x=>rn1 μ x .next
 | .len k x=>rn1 μ x (.len k)
 | .append e b s x=>rn2 μ s x (.append e b)
 | .max x r=>match cD μ x,fD μ r with
  | some a,some l=>some (.max a l)
  | _,_=>none
 | .min x r=>match cD μ x,fD μ r with
  | some a,some l=>some (.min a l)
  | _,_=>none
 | .clear z x=>rn1 μ x (.clear z)
 | .call q f args=>match cD μ f,fD μ args with
  | some a,some l=>some (.call q a l)
  | _,_=>none
 | .bad n=>some (.bad n)
def oV (d:Nat) (μ:Mu):Mu:=μ.map fun o=>match o with
 | some t=>if t=d then none else some t
 | none=>none
def nO:List Nat→Mu→Mu
 | [],μ=>μ
 | d::r,μ=>nO r (oV d μ)
def bN:List LOper→List Nat
 | []=>[]
 | o::r=>match o.dst with
  | some d=>d::bN r
  | none=>bN r
def lk (t:Nat) (b:Bool):List Nat→List LOper→Bool
 | _,[]=>true
 | gone,o::os=>(match o.guard with
   | some (t0,b0)=>(t0 == t && b0 == b) || gone.contains t0
   | none=>false) && (match o.dst with
   | some d=>d != t && lk t b (d::gone) os
   | none=>lk t b gone os)
mutual
def jS (nt:Nat) (g:Option (Nat × Bool)):SNode→Mu→Option (List LOper × Mu)
 | .op d op slot wh,μ=>match di μ op with
  | some op'=>if d<nt then some ([.mk (some d) op' g slot wh],some d::oV d μ) else none
  | none=>none
 | .eff op slot wh,μ=>match di μ op with
  | some op'=>some ([.mk none op' g slot wh],μ)
  | none=>none
 | .andN d c sub x,μ=>match μ[c]? with
  | some (some t)=>match decNs nt (some (t,true)) sub μ with
   | some (L,μ1)=>match cD μ1 x with
    | some x'=>if d<nt && lk t true [] L then some (L++[.mk (some d) (.pick (.t t) x' (.k (.c (.bool false)))) g none .any],some d::oV d (nO (bN L) μ)) else none
    | none=>none
   | none=>none
  | _=>none
 | .orN d c sub x,μ=>match μ[c]? with
  | some (some t)=>match decNs nt (some (t,false)) sub μ with
   | some (L,μ1)=>match cD μ1 x with
    | some x'=>if d<nt && lk t false [] L then some (L++[.mk (some d) (.pick (.t t) (.k (.c (.bool true))) x') g none .any],some d::oV d (nO (bN L) μ)) else none
    | none=>none
   | none=>none
  | _=>none
def decNs (nt:Nat) (g:Option (Nat × Bool)):List SNode→Mu→Option (List LOper × Mu)
 | [],μ=>some ([],μ)
 | n::ns,μ=>match jS nt g n μ with
  | some (L,μ1)=>match decNs nt g ns μ1 with
   | some (L',μ2)=>some (L++L',μ2)
   | none=>none
  | none=>none
end
def uq (sel:List Nat) (μ:Mu):Mu:=sel.map fun i=>μ.getD i none
def oe (id:Nat):List (Nat × Mu)→Option Mu
 | []=>none
 | (i,m)::r=>if i=id then some m else oe id r
def gD:Option Mu→Option Mu→Option (Option Mu)
 | none,y=>some y
 | some x,none=>some (some x)
 | some x,some y=>if x=y then some (some x) else none
def dH (nt:Nat) (ρ:Mu):List (Nat × Mu)→SCode→Option Mu→Option (LCode × Option Mu)
 | _,.skip,some μ=>some (.skip,some μ)
 | _,.ret,some μ=>if μ=ρ then some (.ret,none) else none
 | Γ,.exit id,some μ=>match oe id Γ with
  | some m=>if m=μ then some (.exit id,none) else none
  | none=>none
 | Γ,.seq a b,some μ=>match dH nt ρ Γ a (some μ) with
  | some (a',m)=>match dH nt ρ Γ b m with
   | some (b',m')=>some (.seq a' b',m')
   | none=>none
  | none=>none
 | Γ,.cond c a b,some μ=>match cD μ c,dH nt ρ Γ a (some μ),dH nt ρ Γ b (some μ) with
  | some c',some (a',m),some (b',m')=>match gD m m' with
   | some j=>some (.cond c' a' b',j)
   | none=>none
  | _,_,_=>none
 | Γ,.block id ex a,some μ=>match dH nt ρ ((id,ex)::Γ) a (some μ) with
  | some (a',m)=>match gD m (some ex) with
   | some j=>some (.block id a',j)
   | none=>none
  | none=>none
 | Γ,.loop g a,some μ=>match dH nt ρ Γ a (some μ) with
  | some (a',m)=>match gD m (some μ) with
   | some _=>some (.loop g a',none)
   | none=>none
  | none=>none
 | _,.region ns sel,some μ=>match decNs nt none ns μ with
  | some (L,μ1)=>some (.region L,some (uq sel μ1))
  | none=>none
 | _,.draw k ns sel,some μ=>match decNs nt none ns μ with
  | some (L,μ1)=>some (.draw k L,some (uq sel μ1))
  | none=>none
 | Γ,.pre sel a,some μ=>dH nt ρ Γ a (some (uq sel μ))
 | _,.dead c,none=>some (c,none)
 | _,_,_=>none
def kN (ρ:Mu):List LRes→Option (List LRes)
 | []=>some []
 | .tmp j::r=>match ρ[j]?,kN ρ r with
  | some (some t),some l=>some (.tmp t::l)
  | _,_=>none
 | .cell j n::r=>match ρ[j]?,kN ρ r with
  | some (some t),some l=>some (.cell t n::l)
  | _,_=>none
def aa:SFunc→Option LFunc
 | .prim g=>some (.prim g)
 | .fprim k g=>some (.fprim k g)
 | .code mode nt np ρ rs body=>if np≤nt then
   match dH nt ρ [] body (some ((List.range np).map some)),kN ρ rs with
   | some (b,m),some rs'=>match gD m (some ρ) with
    | some _=>some (.code mode nt rs' b)
    | none=>none
   | _,_=>none
  else none
def progL (prog:Nat→Option SFunc):Nat→Option LFunc:=fun f=>match prog f with
 | some F=>aa F
 | none=>none
def b5 (prog:Nat→Option SFunc):Prop:=∀ f F,prog f=some F→∃ L,aa F=some L
end LM
namespace LM
open Go
def ERel (μ:Mu) (env ts:List LV):Prop:=∀ (j t:Nat),μ[j]? = some (some t)→env.getD j .undef=ts.getD t .undef
theorem bn {μ:Mu} {env ts:List LV} (h:ERel μ env ts) {x y:LO} (hx:cD μ x=some y):ev ts y=ev env x:=by
 cases x with
 | k v=>simp only[cD,Option.some.injEq] at hx; subst hx; rfl
 | t j =>
  simp only[cD] at hx
  split at hx
  ·rename_i t ht
   simp only[Option.some.injEq] at hx
   subst hx
   exact (h j t ht).symm
  ·cases hx
theorem mv {μ:Mu} {env ts:List LV} (h:ERel μ env ts):∀ {l l' : List LO},fD μ l=some l'→l'.map (ev ts)=l.map (ev env)
 | [],l',hx=>by simp only[fD,Option.some.injEq] at hx; subst hx; rfl
 | x::r,l',hx=>by
  simp only[fD] at hx
  split at hx
  ·rename_i a l ha hl
   simp only[Option.some.injEq] at hx
   subst hx
   simp only[List.map_cons,bn h ha,mv h hl]
  ·cases hx
theorem dT {μ:Mu} {env ts:List LV} (h:ERel μ env ts) {x y:Option LO} (hx:fS μ x=some y):y.map (ev ts)=x.map (ev env)∧y.isSome=x.isSome∧y.isNone=x.isNone:=by
 cases x with
 | none=>simp only[fS,Option.some.injEq] at hx; subst hx; exact⟨rfl,rfl,rfl⟩
 | some x =>
  simp only[fS] at hx
  split at hx
  ·rename_i a ha
   simp only[Option.some.injEq] at hx
   subst hx
   simp[bn h ha]
  ·cases hx
theorem mE {μ:Mu} {env ts:List LV} (h:ERel μ env ts) {sz:Nat}:∀ {l l' : List (Nat × LO)} {cs:List LV},rf μ l=some l'→bz ts sz l' cs=bz env sz l cs
 | [],l',cs,hx=>by simp only[rf,Option.some.injEq] at hx; subst hx; rfl
 | (i,x)::r,l',cs,hx=>by
  simp only[rf] at hx
  split at hx
  ·rename_i a l ha hl
   simp only[Option.some.injEq] at hx
   subst hx
   simp only[bz,bn h ha,mE h hl]
  ·cases hx
theorem lr {μ:Mu} {env ts:List LV} (h:ERel μ env ts):∀ {l l' : List (Nat × Nat × LO)} {cs:List LV},pS μ l=some l'→bF ts l' cs=bF env l cs
 | [],l',cs,hx=>by simp only[pS,Option.some.injEq] at hx; subst hx; rfl
 | (i,n,x)::r,l',cs,hx=>by
  simp only[pS] at hx
  split at hx
  ·rename_i a l ha hl
   simp only[Option.some.injEq] at hx
   subst hx
   simp only[bF,bn h ha,lr h hl]
  ·cases hx
theorem kJ {μ:Mu} {env ts:List LV} (h:ERel μ env ts) {f:Int→Int→Int}:∀ {l l' : List LO} {v:LV},fD μ l=some l'→bt f ts v l'=bt f env v l
 | [],l',v,hx=>by simp only[fD,Option.some.injEq] at hx; subst hx; rfl
 | x::r,l',v,hx=>by
  simp only[fD] at hx
  split at hx
  ·rename_i a l ha hl
   simp only[Option.some.injEq] at hx
   subst hx
   cases v with
   | c c =>
    cases c with
    | int k n =>
     simp only[bt,bn h ha]
     split
     ·exact kJ h hl
     ·rfl
    | _=>rfl
   | _=>rfl
  ·cases hx
theorem nQ {μ:Mu} {x:LO} {f:LO→LOp} {o:LOp} (h:rn1 μ x f=some o):∃ a,cD μ x=some a∧o=f a:=by
 unfold rn1 at h
 split at h
 ·rename_i a ha; injection h with h; exact⟨a,ha,h.symm⟩
 ·cases h
theorem nV {μ:Mu} {x y:LO} {f:LO→LO→LOp} {o:LOp} (h:rn2 μ x y f=some o):∃ a b,cD μ x=some a∧cD μ y=some b∧o=f a b:=by
 unfold rn2 at h
 split at h
 ·rename_i a b ha hb; injection h with h; exact⟨a,b,ha,hb,h.symm⟩
 ·cases h
theorem nM {μ:Mu} {x y z:LO} {f:LO→LO→LO→LOp} {o:LOp} (h:rn3 μ x y z f=some o):∃ a b c,cD μ x=some a∧cD μ y=some b∧cD μ z=some c∧o=f a b c:=by
 unfold rn3 at h
 split at h
 ·rename_i a b c ha hb hc; injection h with h; exact⟨a,b,c,ha,hb,hc,h.symm⟩
 ·cases h
theorem GL {μ:Mu} {env ts:List LV} (h:ERel μ env ts) {pos:Option Nat} {hp:Heap} {op op' : LOp} (hx:di μ op=some op'):ab pos ts hp op'=ab pos env hp op:=by
 cases op
 case mkNil | new | makeMap | bad=>simp only[di,Option.some.injEq] at hx; subst hx; rfl
 case mkFunc f a b =>
  simp only[di] at hx
  split at hx
  ·rename_i a' b' ha hb
   injection hx with hx
   subst hx
   simp only[ab,mv h ha,mv h hb]
  ·cases hx
 case build z ps =>
  simp only[di] at hx
  split at hx
  ·rename_i l hl
   injection hx with hx
   subst hx
   simp only[ab,lr h hl]
  ·cases hx
 case buildSlice c e len z ps =>
  simp only[di] at hx
  split at hx
  ·rename_i l hl
   injection hx with hx
   subst hx
   simp only[ab,mE h hl]
  ·cases hx
 case sliceStr x lo hi =>
  simp only[di] at hx
  split at hx
  ·rename_i a l hh ha hl hhi
   injection hx with hx
   subst hx
   simp only[ab,bn h ha,(dT h hl).1,(dT h hhi).1]
  ·cases hx
 case sliceSl sz x lo hi mx =>
  simp only[di] at hx
  split at hx
  ·rename_i a l hh m ha hl hhi hm
   injection hx with hx
   subst hx
   simp only[ab,bn h ha,(dT h hl).1,(dT h hhi).1,(dT h hm).1,(dT h hm).2.1,(dT h hhi).2.2]
  ·cases hx
 case sliceArr len e x lo hi mx =>
  simp only[di] at hx
  split at hx
  ·rename_i a l hh m ha hl hhi hm
   injection hx with hx
   subst hx
   simp only[ab,bn h ha,(dT h hl).1,(dT h hhi).1]
   cases mx with
   | none=>simp only[fS,Option.some.injEq] at hm; subst hm; rfl
   | some mx =>
    obtain⟨m',rfl⟩ : ∃ m',m=some m':=by
     have:=(dT h hm).2.1
     cases m with
     | none=>cases this
     | some m'=>exact⟨m',rfl⟩
    rfl
  ·cases hx
 case max x r =>
  simp only[di] at hx
  split at hx
  ·rename_i a l ha hl
   injection hx with hx
   subst hx
   simp only[ab,bn h ha,kJ h hl]
  ·cases hx
 case min x r =>
  simp only[di] at hx
  split at hx
  ·rename_i a l ha hl
   injection hx with hx
   subst hx
   simp only[ab,bn h ha,kJ h hl]
  ·cases hx
 case call q f args =>
  simp only[di] at hx
  split at hx
  ·injection hx with hx
   subst hx
   rfl
  ·cases hx
 all_goals first
  | (obtain⟨a,ha,rfl⟩:=nQ hx; simp only[ab,bn h ha]; done)
  | (obtain⟨a,b,ha,hb,rfl⟩:=nV hx; simp only[ab,bn h ha,bn h hb]; done)
  | (obtain⟨a,b,c,ha,hb,hc,rfl⟩:=nM hx; simp only[ab,bn h ha,bn h hb,bn h hc]; done)
theorem GI {μ:Mu} {op op' : LOp} (hx:di μ op=some op'):(∃ q f args f' args',op=.call q f args∧op'=.call q f' args'∧cD μ f=some f'∧fD μ args=some args')∨((∀ q f args,op≠.call q f args)∧∀ q f args,op'≠.call q f args):=by
 cases op
 case call q f args =>
  simp only[di] at hx
  split at hx
  ·rename_i a l ha hl
   injection hx with hx
   exact .inl ⟨q,f,args,a,l,rfl,hx.symm,ha,hl⟩
  ·cases hx
 all_goals
  refine .inr ⟨by simp,?_⟩
  simp only[di] at hx
  first
   | (obtain⟨a,ha,rfl⟩:=nQ hx; simp; done)
   | (obtain⟨a,b,ha,hb,rfl⟩:=nV hx; simp; done)
   | (obtain⟨a,b,c,ha,hb,hc,rfl⟩:=nM hx; simp; done)
   | (injection hx with hx; subst hx; simp; done)
   | (split at hx<;>first | (injection hx with hx; subst hx; simp; done) | (cases hx; done))
theorem BV {μ:Mu} {env ts:List LV} (h:ERel μ env ts) {base:Nat} {wh:Where} {op op' : LOp} (hx:di μ op=some op'):aX base wh ts op'=aX base wh env op:=by
 unfold aX
 cases op
 case load | store | lookup | mapUpdate | len | append | clear | copy =>
  first
   | (obtain⟨a,ha,rfl⟩:=nQ hx; simp only[cK,bn h ha]; done)
   | (obtain⟨a,b,ha,hb,rfl⟩:=nV hx; simp only[cK,bn h ha,bn h hb]; done)
   | (obtain⟨a,b,c,ha,hb,hc,rfl⟩:=nM hx; simp only[cK,bn h ha,bn h hb,bn h hc]; done)
 all_goals
  simp only[di] at hx
  first
   | (obtain⟨a,ha,rfl⟩:=nQ hx; rfl)
   | (obtain⟨a,b,ha,hb,rfl⟩:=nV hx; rfl)
   | (obtain⟨a,b,c,ha,hb,hc,rfl⟩:=nM hx; rfl)
   | (injection hx with hx; subst hx; rfl)
   | (split at hx<;>first | (injection hx with hx; subst hx; rfl) | (cases hx; done))
theorem yD {d:Nat} {μ:Mu} {j t:Nat} (h:(oV d μ)[j]? = some (some t)):μ[j]? = some (some t)∧t≠d:=by
 unfold oV at h
 rw[List.getElem?_map] at h
 cases hm:μ[j]? with
 | none=>rw[hm] at h; cases h
 | some o =>
  rw[hm] at h
  simp only[Option.map_some,Option.some.injEq] at h
  cases o with
  | none=>cases h
  | some t' =>
   simp only at h
   split at h
   ·cases h
   ·rename_i hne
    injection h with h
    subst h
    exact⟨rfl,hne⟩
theorem fO:∀ {l:List Nat} {μ:Mu} {j t:Nat},(nO l μ)[j]? = some (some t)→μ[j]? = some (some t)∧t ∉ l
 | [],μ,j,t,h=>⟨h,by simp⟩
 | d::r,μ,j,t,h=>by
  obtain⟨h1,h2⟩:=fO (l:=r) h
  obtain⟨h3,h4⟩:=yD h1
  exact⟨h3,by simp[h4,h2]⟩
theorem getD_set_ne {ts:List LV} {d t:Nat} {v:LV} (h:t≠d):(ts.set d v).getD t .undef=ts.getD t .undef:=by
 rw[List.getD_eq_getElem?_getD,List.getD_eq_getElem?_getD,List.getElem?_set_ne (fun e=>h e.symm)]
theorem dX {ts:List LV} {d:Nat} {v:LV} (h:d<ts.length):(ts.set d v).getD d .undef=v:=by
 rw[List.getD_eq_getElem?_getD,List.getElem?_set_self h]; rfl
theorem ERel.push {μ:Mu} {env ts ts' : List LV} {d:Nat} {v:LV} (h:∀ (j t:Nat),μ[j]? = some (some t)→t≠d→env.getD j .undef=ts.getD t .undef) (hd:d<ts.length) (e:ts'=ts.set d v):ERel (some d::oV d μ) (v::env) ts':=by
 subst e
 intro j t hj
 cases j with
 | zero =>
  simp only[List.getElem?_cons_zero,Option.some.injEq] at hj
  subst hj
  rw[dX hd]; rfl
 | succ j =>
  simp only[List.getElem?_cons_succ] at hj
  obtain⟨h1,h2⟩:=yD hj
  rw[getD_set_ne h2,← h j t h1 h2]; rfl
theorem ERel.sel {μ:Mu} {env ts:List LV} (h:ERel μ env ts) (sel:List Nat):ERel (uq sel μ) (gW sel env) ts:=by
 intro j t hj
 unfold uq at hj
 unfold gW
 rw[List.getElem?_map] at hj
 rw[List.getD_eq_getElem?_getD,List.getElem?_map]
 cases hs:sel[j]? with
 | none=>rw[hs] at hj; cases hj
 | some i =>
  rw[hs] at hj
  simp only[Option.map_some,Option.some.injEq] at hj
  simp only[Option.map_some,Option.getD_some]
  rw[List.getD_eq_getElem?_getD] at hj
  cases hm:μ[i]? with
  | none=>rw[hm] at hj; cases hj
  | some o =>
   rw[hm] at hj
   simp only[Option.getD_some] at hj
   subst hj
   exact h i t hm
theorem dU:∀ (a b:List LOper),bN (a++b)=bN a++bN b
 | [],_=>rfl
 | o::r,b=>by
  simp only[List.cons_append,bN,dU r b]
  split<;>rfl
section
variable {prog:Nat→Option SFunc} {r2:RunS} {r1:Run} {base:Nat} {pl:Nat→Option LFunc}
theorem cS {pr:Nat→Option LFunc} {r:Run}:∀ {a b:List LOper} {s s' : St},au pr r base a s=some s'→au pr r base (a++b) s=au pr r base b s'
 | [],b,s,s',h=>by simp only[au,Option.some.injEq] at h; subst h; rfl
 | o::a,b,s,s',h=>by
  simp only[au] at h
  split at h
  ·rename_i s1 h1
   show (match aY pr r base o s with | some s'=>au pr r base (a++b) s' | none=>none)=_
   rw[h1]
   exact cS h
  ·cases h
theorem ju {pr:Nat→Option LFunc} {r:Run} {t:Nat} {b:Bool}:∀ {L:List LOper} {gone:List Nat} {ts:List LV} {h:Heap},lk t b gone L=true→ts.getD t .undef=.c (.bool !b)→(∀ d ∈ gone,ts.getD d .undef=.c (.tuple [])) →
  (∀ d ∈ bN L,d<ts.length)→∃ ts',au pr r base L ⟨ts,h⟩=some ⟨ts',h⟩∧ts'.length=ts.length∧(∀ x,x ∉ bN L→ts'.getD x .undef=ts.getD x .undef)∧t ∉ bN L
 | [],gone,ts,h,_,_,_,_=>⟨ts,rfl,rfl,fun _ _=>rfl,by simp[bN]⟩
 | o::L,gone,ts,h,hs,ht,hg,hd=>by
  simp only[lk,Bool.and_eq_true] at hs
  obtain⟨h1,h2⟩:=hs
  have hstep:aY pr r base o ⟨ts,h⟩=some ⟨put ts o.dst (.c (.tuple [])),h⟩:=by
   unfold aY
   split at h1
   ·rename_i t0 b0 hgu
    simp only[hgu]
    simp only[Bool.or_eq_true,Bool.and_eq_true,beq_iff_eq] at h1
    rcases h1 with ⟨rfl,rfl⟩ | h1
    ·simp only[ht]
     cases b0<;>rfl
    ·simp only[List.contains_eq_mem,decide_eq_true_eq] at h1
     simp only[hg t0 h1]
   ·cases h1
  cases hdst:o.dst with
  | none =>
   rw[hdst] at h2 hstep
   simp only[put] at hstep
   obtain⟨ts',e1,e2,e3,e4⟩:=ju (L:=L) (h:=h) h2 ht hg (fun d hd'=>hd d (by simp only[bN,hdst]; exact hd'))
   refine⟨ts',by simp only[au,hstep]; exact e1,e2,fun x hx=>e3 x (by simpa only [bN,hdst] using hx),by simpa only [bN,hdst] using e4⟩
  | some d =>
   rw[hdst] at h2 hstep
   simp only[put] at hstep
   simp only[Bool.and_eq_true,bne_iff_ne,ne_eq] at h2
   have hdl:d<ts.length:=hd d (by simp[bN,hdst])
   obtain⟨ts',e1,e2,e3,e4⟩:=ju (L:=L) (ts:=ts.set d (.c (.tuple []))) (h:=h) h2.2 (by rw[getD_set_ne (fun e=>h2.1 e.symm)]; exact ht)
    (fun d' hd'=>by
     rcases List.mem_cons.1 hd' with rfl | hd'
     ·exact dX hdl
     ·by_cases e:d'=d
      ·subst e; exact dX hdl
      ·rw[getD_set_ne e]; exact hg d' hd')
    (fun d' hd'=>by simp only[List.length_set]; exact hd d' (by simp[bN,hdst,hd']))
   refine⟨ts',by simp only[au,hstep]; exact e1,by simpa using e2,fun x hx=>?_,?_⟩
   ·simp only[bN,hdst,List.mem_cons,not_or] at hx
    rw[e3 x hx.2,getD_set_ne hx.1]
   ·simp only[bN,hdst,List.mem_cons,not_or]
    exact⟨fun e=>h2.1 e.symm,e4⟩
def eK (r2:RunS) (r1:Run):Prop :=
 ∀ (nt:Nat) (ρ:Mu) (Γ:List (Nat × Mu)) (c2:SCode) (μ:Mu) (c1:LCode) (m:Option Mu),dH nt ρ Γ c2 (some μ)=some (c1,m)→∀ (env:List LV) (h:Heap) (ts:List LV) (ex:Ex) (s2:St),
  ERel μ env ts→nt≤ts.length→r2 c2 ⟨env,h⟩=some (ex,s2)→∃ ts',r1 c1 ⟨ts,h⟩=some (ex,⟨ts',s2.heap⟩)∧nt≤ts'.length ∧
   (match ex with
    | .normal=>∃ μ',m=some μ'∧ERel μ' s2.tmps ts'
    | .exit id=>∃ μ',oe id Γ=some μ'∧ERel μ' s2.tmps ts'
    | .ret=>ERel ρ s2.tmps ts')
theorem mq {x:Option Mu} {y:Mu} {j:Option Mu} (h:gD x (some y)=some j):j=some y∧∀ m,x=some m→m=y:=by
 cases x with
 | none=>simp only[gD,Option.some.injEq] at h; exact⟨h.symm,fun m e=>by cases e⟩
 | some x =>
  simp only[gD] at h
  split at h
  ·rename_i e
   injection h with h
   exact⟨by rw[← h,e],fun m e'=>by injection e' with e'; rw[← e',e]⟩
  ·cases h
theorem qh {x y j:Option Mu} (h:gD x y=some j):(∀ m,x=some m→j=some m)∧∀ m,y=some m→j=some m:=by
 cases x with
 | none =>
  simp only[gD,Option.some.injEq] at h
  exact⟨fun m e=>by (cases e),fun m e=>by rw[← h,e]⟩
 | some x =>
  cases y with
  | none =>
   simp only[gD,Option.some.injEq] at h
   exact⟨fun m e=>by rw[← h,e],fun m e=>by (cases e)⟩
  | some y =>
   simp only[gD] at h
   split at h
   ·rename_i e
    injection h with h
    subst e
    exact⟨fun m e=>by rw[← h,e],fun m e=>by rw[← h,e]⟩
   ·cases h
theorem r9 {ρ:Mu} {env ts:List LV} {h:Heap} (he:ERel ρ env ts):∀ {rs rs' : List LRes},kN ρ rs=some rs'→bT ⟨ts,h⟩ rs'=bT ⟨env,h⟩ rs
 | [],rs',hx=>by simp only[kN,Option.some.injEq] at hx; subst hx; rfl
 | .tmp j::r,rs',hx=>by
  simp only[kN] at hx
  split at hx
  ·rename_i t l ht hl
   injection hx with hx
   subst hx
   simp only[bT,cX,he j t ht,r9 he hl]
  ·cases hx
 | .cell j n::r,rs',hx=>by
  simp only[kN] at hx
  split at hx
  ·rename_i t l ht hl
   injection hx with hx
   subst hx
   simp only[bT,cX,he j t ht,r9 he hl]
  ·cases hx
theorem oO {ρ:Mu} {env ts:List LV} {h:Heap} (he:ERel ρ env ts) {rs rs' : List LRes} (hx:kN ρ rs=some rs'):aK ⟨ts,h⟩ rs'=aK ⟨env,h⟩ rs:=by
 unfold aK
 rw[r9 he hx]
theorem mL {mode:FMode} {nt np:Nat} {ρ:Mu} {rs:List LRes} {body:SCode} {L:LFunc} (h:aa (.code mode nt np ρ rs body)=some L) :
  ∃ b m rs',np≤nt∧dH nt ρ [] body (some ((List.range np).map some))=some (b,m)∧kN ρ rs=some rs'∧(∀ μ,m=some μ→μ=ρ)∧L=.code mode nt rs' b:=by
 simp only[aa] at h
 split at h
 ·rename_i hn
  split at h
  ·rename_i b m rs' hb hr
   split at h
   ·rename_i j hj
    injection h with h
    exact⟨b,m,rs',hn,hb,hr,(mq hj).2,h.symm⟩
   ·cases h
  ·cases h
 ·cases h
theorem tF (hr:eK r2 r1) {mode:FMode} {nt np:Nat} {ρ:Mu} {rs rs' : List LRes} {body:SCode} {b:LCode} {m:Option Mu} (hd:dH nt ρ [] body (some ((List.range np).map some))=some (b,m)) (hm:∀ μ,m=some μ→μ=ρ) (hrs:kN ρ rs=some rs')
  {args:List LV} {h:Heap} {ex:Ex} {s2:St} (hs:r2 body ⟨args,h⟩=some (ex,s2)) (hx:∀ id,ex≠.exit id):∃ ts',r1 b ⟨pad nt args,h⟩=some (ex,⟨ts',s2.heap⟩)∧aK ⟨ts',s2.heap⟩ rs'=aK s2 rs:=by
 have he:ERel ((List.range np).map some) args (pad nt args):=by
  intro j t hj
  rw[List.getElem?_map] at hj
  cases hq:(List.range np)[j]? with
  | none=>rw[hq] at hj; cases hj
  | some q =>
   rw[hq] at hj
   simp only[Option.map_some,Option.some.injEq] at hj
   subst hj
   have:=List.getElem?_eq_some_iff.1 hq
   obtain⟨hlt,e⟩:=this
   simp only[List.getElem_range] at e
   subst e
   unfold pad
   rw[List.getD_eq_getElem?_getD,List.getD_eq_getElem?_getD]
   rcases Nat.lt_or_ge j args.length with hl | hl
   ·rw[List.getElem?_append_left hl]
   ·rw[List.getElem?_append_right hl,List.getElem?_eq_none hl,List.getElem?_replicate]
    split<;>rfl
 have hl:nt≤(pad nt args).length:=by unfold pad; simp; omega
 obtain⟨ts',e1,_,e3⟩:=hr _ _ _ _ _ _ _ hd args h (pad nt args) ex s2 he hl hs
 refine⟨ts',e1,?_⟩
 cases ex with
 | normal =>
  obtain⟨μ',rfl,e4⟩:=e3
  have:=hm μ' rfl
  subst this
  exact oO e4 hrs
 | exit id=>exact absurd rfl (hx id)
 | ret=>exact oO e3 hrs
theorem Al (hr:eK r2 r1) {mode:FMode} {nt np:Nat} {ρ:Mu} {rs:List LRes} {body:SCode} {L:LFunc} (hL:aa (.code mode nt np ρ rs body)=some L) {args:List CV} {v:CV} (hs:iI r2 rs body args=some v) :
  ∃ rs' b,L=.code mode nt rs' b∧cT r1 nt rs' b args=some v:=by
 obtain⟨b,m,rs',_,hd,hrs,hm,rfl⟩:=mL hL
 refine⟨rs',b,rfl,?_⟩
 unfold iI at hs
 split at hs
 ·rename_i ex s2 hb
  have hx:∀ id,ex≠.exit id:=fun id e=>by subst e; cases hs
  obtain⟨ts',e1,e2⟩:=tF (mode:=mode) hr hd hm hrs hb hx
  unfold cT
  rw[e1]
  cases ex with
  | exit id=>exact absurd rfl (hx id)
  | normal=>simp only[e2]; exact hs
  | ret=>simp only[e2]; exact hs
 ·cases hs
theorem I9 (hr:eK r2 r1) {mode:FMode} {nt np:Nat} {ρ:Mu} {rs:List LRes} {body:SCode} {L:LFunc} (hL:aa (.code mode nt np ρ rs body)=some L) {args:List CV} {v:LV × List LB} (hs:gI r2 rs body args=some v) :
  ∃ rs' b,L=.code mode nt rs' b∧c8 r1 nt rs' b args=some v:=by
 obtain⟨b,m,rs',_,hd,hrs,hm,rfl⟩:=mL hL
 refine⟨rs',b,rfl,?_⟩
 unfold gI at hs
 split at hs
 ·rename_i ex s2 hb
  have hx:∀ id,ex≠.exit id:=fun id e=>by subst e; cases hs
  obtain⟨ts',e1,e2⟩:=tF (mode:=mode) hr hd hm hrs hb hx
  unfold c8
  rw[e1]
  cases ex with
  | exit id=>exact absurd rfl (hx id)
  | normal=>simp only[e2]; exact hs
  | ret=>simp only[e2]; exact hs
 ·cases hs
theorem rD (hr:eK r2 r1) {mode:FMode} {nt np:Nat} {ρ:Mu} {rs:List LRes} {body:SCode} {L:LFunc} (hL:aa (.code mode nt np ρ rs body)=some L) {args:List LV} {h:Heap} {v:LV × Heap} (hs:eN r2 rs body args h=some v) :
  ∃ rs' b,L=.code mode nt rs' b∧(match r1 b ⟨pad nt args,h⟩ with
   | some (ex,s)=>match ex with
    | .exit _=>none
    | _=>match aK s rs' with
     | some v=>some (v,s.heap)
     | none=>none
   | none=>none)=some v:=by
 obtain⟨b,m,rs',_,hd,hrs,hm,rfl⟩:=mL hL
 refine⟨rs',b,rfl,?_⟩
 unfold eN at hs
 split at hs
 ·rename_i ex s2 hb
  have hx:∀ id,ex≠.exit id:=fun id e=>by subst e; cases hs
  obtain⟨ts',e1,e2⟩:=tF (mode:=mode) hr hd hm hrs hb hx
  rw[e1]
  cases ex with
  | exit id=>exact absurd rfl (hx id)
  | normal=>simp only[e2]; exact hs
  | ret=>simp only[e2]; exact hs
 ·cases hs
theorem yz (hP:b5 prog) (hr:eK r2 r1) {pos:Option Nat} {quiet:Bool} {f:Nat} {args:List LV} {h:Heap} {x:LV × Heap} (hs:aC prog r2 pos quiet f args h=some x):bD (progL prog) r1 pos quiet f args h=some x:=by
 unfold aC at hs
 unfold bD
 have hpl:∀ F,prog f=some F→progL prog f=aa F:=fun F hF=>by unfold progL; rw[hF]
 split at hs
 ·cases hs
 ·rename_i g hp
  rw[hpl _ hp]
  exact hs
 ·rename_i nt np ρ rs body hp
  obtain⟨L,hL⟩:=hP f _ hp
  rw[hpl _ hp,hL]
  split at hs
  ·cases hs
  ·rename_i cs h' ha
   split at hs
   ·cases hs
   ·rename_i v hv
    obtain⟨rs',b,rfl,hc⟩:=Al hr hL hv
    simp only[ha,hc]
    exact hs
 ·rename_i k g hp
  rw[hpl _ hp]
  exact hs
 ·rename_i k nt np ρ rs body hp
  obtain⟨L,hL⟩:=hP f _ hp
  rw[hpl _ hp,hL]
  split at hs
  ·cases hs
  ·rename_i hq
   split at hs
   ·cases hs
   ·rename_i cs h' ha
    split at hs
    ·cases hs
    ·rename_i v bs hv
     obtain⟨rs',b,rfl,hc⟩:=I9 hr hL hv
     simp only[if_neg hq,ha,hc]
     exact hs
 ·rename_i nt np ρ rs body hp
  obtain⟨L,hL⟩:=hP f _ hp
  rw[hpl _ hp,hL]
  split at hs
  ·cases hs
  ·rename_i hq
   split at hs
   ·cases hs
   ·rename_i args' h' ha
    obtain⟨rs',b,rfl,hc⟩:=rD hr hL hs
    simp only[if_neg hq,ha]
    exact hc
 ·rename_i nt np ρ rs body hp
  obtain⟨L,hL⟩:=hP f _ hp
  rw[hpl _ hp,hL]
  split at hs
  ·cases hs
  ·rename_i hq
   obtain⟨rs',b,rfl,hc⟩:=rD hr hL hs
   simp only[if_neg hq]
   exact hc
theorem LQ (hP:b5 prog) (hr:eK r2 r1) {μ:Mu} {env ts:List LV} (he:ERel μ env ts) {pos:Option Nat} {h:Heap} {op op' : LOp} {x:LV × Heap} (hx:di μ op=some op') (hs:iK prog r2 pos env h op=some x):step (progL prog) r1 pos ts h op'=some x:=by
 rcases GI hx with ⟨q,f,args,f',args',rfl,rfl,hf,ha⟩ | ⟨h1,h2⟩
 ·simp only[iK] at hs
  simp only[step,bn he hf,mv he ha]
  split at hs
  ·rename_i hfo
   simp only[hfo]
   exact yz hP hr hs
  ·cases hs
 ·have e1:iK prog r2 pos env h op=ab pos env h op:=by
   cases op<;>first | rfl | (exact absurd rfl (h1 _ _ _))
  have e2:step (progL prog) r1 pos ts h op'=ab pos ts h op':=by
   cases op'<;>first | rfl | (exact absurd rfl (h2 _ _ _))
  rw[e2,GL he hx,← e1]
  exact hs
theorem A9 (hP:b5 prog) (hr:eK r2 r1) {μ:Mu} {env ts:List LV} (he:ERel μ env ts) {h:Heap} {op op' : LOp} {slot:Option Nat} {wh:Where} {v:LV} {h' : Heap} (hx:di μ op=some op') (hs:gJ prog r2 base op slot wh env h=some (v,h')) (dst:Option Nat) (g:Option (Nat × Bool)) :
  bu (progL prog) r1 base (.mk dst op' g slot wh) ⟨ts,h⟩=some ⟨put ts dst v,h'⟩:=by
 unfold gJ at hs
 unfold bu
 simp only[BV he hx]
 split at hs
 ·rename_i hc
  rw[if_pos hc]
  simp only[LQ hP hr he hx hs]
 ·cases hs
def vC (g:Option (Nat × Bool)) (ts:List LV):Prop:=∀ t b,g=some (t,b)→ts.getD t .undef=.c (.bool b)
theorem mQ {pr:Nat→Option LFunc} {r:Run} {o:LOper} {ts:List LV} {h:Heap} (hg:vC o.guard ts):aY pr r base o ⟨ts,h⟩=bu pr r base o ⟨ts,h⟩:=by
 unfold aY
 split
 ·rfl
 ·rename_i t b hgu
  have:=hg t b hgu
  simp only[this]
  simp
mutual
theorem Rm {nt:Nat}:∀ {g:Option (Nat × Bool)} {n:SNode} {μ μ' : Mu} {L:List LOper},jS nt g n μ=some (L,μ')→∀ d ∈ bN L,d<nt
 | g,.op d op slot wh,μ,μ',L,h=>by
  simp only[jS] at h
  split at h
  ·split at h
   ·rename_i hd
    simp only[Option.some.injEq,Prod.mk.injEq] at h
    obtain⟨rfl,rfl⟩:=h
    simpa[bN] using hd
   ·cases h
  ·cases h
 | g,.eff op slot wh,μ,μ',L,h=>by
  simp only[jS] at h
  split at h
  ·simp only[Option.some.injEq,Prod.mk.injEq] at h
   obtain⟨rfl,rfl⟩:=h
   simp[bN]
  ·cases h
 | g,.andN d c sub x,μ,μ',L,h=>by
  simp only[jS] at h
  split at h
  ·split at h
   ·rename_i L1 μ1 hL
    split at h
    ·split at h
     ·rename_i hd
      simp only[Bool.and_eq_true,decide_eq_true_eq] at hd
      simp only[Option.some.injEq,Prod.mk.injEq] at h
      obtain⟨rfl,rfl⟩:=h
      rw[dU]
      intro e he
      rcases List.mem_append.1 he with he | he
      ·exact decNs_lt hL e he
      ·simp only[bN,List.mem_singleton] at he
       subst he
       exact hd.1
     ·cases h
    ·cases h
   ·cases h
  ·cases h
 | g,.orN d c sub x,μ,μ',L,h=>by
  simp only[jS] at h
  split at h
  ·split at h
   ·rename_i L1 μ1 hL
    split at h
    ·split at h
     ·rename_i hd
      simp only[Bool.and_eq_true,decide_eq_true_eq] at hd
      simp only[Option.some.injEq,Prod.mk.injEq] at h
      obtain⟨rfl,rfl⟩:=h
      rw[dU]
      intro e he
      rcases List.mem_append.1 he with he | he
      ·exact decNs_lt hL e he
      ·simp only[bN,List.mem_singleton] at he
       subst he
       exact hd.1
     ·cases h
    ·cases h
   ·cases h
  ·cases h
theorem decNs_lt {nt:Nat}:∀ {g:Option (Nat × Bool)} {ns:List SNode} {μ μ' : Mu} {L:List LOper},decNs nt g ns μ=some (L,μ')→∀ d ∈ bN L,d<nt
 | g,[],μ,μ',L,h=>by
  simp only[decNs,Option.some.injEq,Prod.mk.injEq] at h
  obtain⟨rfl,rfl⟩:=h
  simp[bN]
 | g,n::ns,μ,μ',L,h=>by
  simp only[decNs] at h
  split at h
  ·rename_i L1 μ1 h1
   split at h
   ·rename_i L2 μ2 h2
    simp only[Option.some.injEq,Prod.mk.injEq] at h
    obtain⟨rfl,rfl⟩:=h
    rw[dU]
    intro e he
    rcases List.mem_append.1 he with he | he
    ·exact Rm h1 e he
    ·exact decNs_lt h2 e he
   ·cases h
  ·cases h
end
theorem kj {pr:Nat→Option LFunc} {r:Run} {d:Nat} {c a b:LO} {g:Option (Nat × Bool)} {ts:List LV} {h:Heap} {t:Bool} (hg:vC g ts) (hc:ev ts c=.c (.bool t)) :
  au pr r base [.mk (some d) (.pick c a b) g none .any] ⟨ts,h⟩=some ⟨ts.set d (if t then ev ts a else ev ts b),h⟩:=by
 simp only[au]
 rw[mQ (o:=.mk (some d) (.pick c a b) g none .any) hg]
 simp[bu,aX,cK,de,step,ab,hc,ok,put]
mutual
theorem RK (hP:b5 prog) (hr:eK r2 r1) {nt:Nat}:∀ {n:SNode} {g:Option (Nat × Bool)} {μ μ' : Mu} {L:List LOper} {env ts:List LV} {h h' : Heap} {v:LV},jS nt g n μ=some (L,μ')→nt≤ts.length→ERel μ env ts→vC g ts →
  (∀ t b,g=some (t,b)→t ∉ bN L)→dg prog r2 base n env h=some (v,h')→∃ ts',au (progL prog) r1 base L ⟨ts,h⟩=some ⟨ts',h'⟩∧ERel μ' (jd n v env) ts'∧ts'.length=ts.length∧(∀ x,x ∉ bN L→ts'.getD x .undef=ts.getD x .undef)
 | .op d op slot wh,g,μ,μ',L,env,ts,h,h',v,hd,hl,he,hg,hn,hs=>by
  simp only[jS] at hd
  split at hd
  ·rename_i op' hop
   split at hd
   ·rename_i hlt
    simp only[Option.some.injEq,Prod.mk.injEq] at hd
    obtain⟨rfl,rfl⟩:=hd
    simp only[dg] at hs
    have:=A9 hP hr he hop hs (some d) g
    refine⟨ts.set d v,?_,ERel.push (fun j t hj _=>he j t hj) (Nat.lt_of_lt_of_le hlt hl) rfl,by simp,fun x hx=>?_⟩
    ·simp only[au]
     rw[mQ (o:=.mk (some d) op' g slot wh) hg,this]
     rfl
    ·simp only[bN,List.mem_singleton] at hx
     exact getD_set_ne hx
   ·cases hd
  ·cases hd
 | .eff op slot wh,g,μ,μ',L,env,ts,h,h',v,hd,hl,he,hg,hn,hs=>by
  simp only[jS] at hd
  split at hd
  ·rename_i op' hop
   simp only[Option.some.injEq,Prod.mk.injEq] at hd
   obtain⟨rfl,rfl⟩:=hd
   simp only[dg] at hs
   have:=A9 hP hr he hop hs none g
   refine⟨ts,?_,he,rfl,fun x hx=>rfl⟩
   simp only[au]
   rw[mQ (o:=.mk none op' g slot wh) hg,this]
   rfl
  ·cases hd
 | .andN d c sub x,g,μ,μ',L,env,ts,h,h',v,hd,hl,he,hg,hn,hs=>by
  simp only[jS] at hd
  split at hd
  ·rename_i t ht
   split at hd
   ·rename_i L1 μ1 hL
    split at hd
    ·rename_i x' hx
     split at hd
     ·rename_i hc
      simp only[Bool.and_eq_true,decide_eq_true_eq] at hc
      simp only[Option.some.injEq,Prod.mk.injEq] at hd
      obtain⟨rfl,rfl⟩:=hd
      simp only[dg] at hs
      split at hs
      ·rename_i b hb
       have htb:ts.getD t .undef=.c (.bool b):=by rw[← he c t ht]; exact hb
       have hdl:d<ts.length:=Nat.lt_of_lt_of_le hc.1 hl
       simp only[dU,bN,List.mem_append,List.mem_singleton,not_or] at hn ⊢
       cases b with
       | true =>
        simp only[m5,if_true] at hs
        unfold bnd at hs
        split at hs
        ·rename_i s hs1
         obtain⟨env1,h1⟩:=s
         simp only[Option.some.injEq,Prod.mk.injEq] at hs
         obtain⟨rfl,rfl⟩:=hs
         have htn:t ∉ bN L1:=(ju (pr:=progL prog) (r:=r1) (base:=base) (h:=h) (ts:=ts.set t (.c (.bool false))) hc.2 (dX (by
           rcases Nat.lt_or_ge t ts.length with q | q
           ·exact q
           ·rw[List.getD_eq_getElem?_getD,List.getElem?_eq_none q] at htb; cases htb)) (by simp) (fun d' hd'=>by simpa using Nat.lt_of_lt_of_le (decNs_lt hL d' hd') hl)).choose_spec.2.2.2
         obtain⟨ts1,e1,e2,e3,e4⟩:=nodes_ok hP hr hL hl he (fun t0 b0 e=>by injection e with e; injection e with ea eb; subst ea eb; exact htb) (fun t0 b0 e=>by injection e with e; injection e with ea eb; subst ea; exact htn) hs1
         refine⟨ts1.set d (ev env1 x),?_,?_,by simp[e3],fun y hy=>?_⟩
         ·rw[cS e1,kj (t:=true) (fun t0 b0 e=>by rw[e4 t0 (hn t0 b0 e).1]; exact hg t0 b0 e) (by simp only[ev]; rw[e4 t htn]; exact htb)]
          simp only[if_true,bn e2 hx]
         ·refine ERel.push (fun j t0 hj hne=>?_) (by rw[e3]; exact hdl) rfl
          obtain⟨hj1,hj2⟩:=fO hj
          rw[e4 t0 hj2]
          exact he j t0 hj1
         ·rw[getD_set_ne hy.2,e4 y hy.1]
        ·cases hs
       | false =>
        simp only[m5,Bool.false_eq_true,if_false,Option.some.injEq,Prod.mk.injEq] at hs
        obtain⟨rfl,rfl⟩:=hs
        obtain⟨ts1,e1,e2,e3,e4⟩:=ju (pr:=progL prog) (r:=r1) (base:=base) (h:=h) hc.2 htb (by simp) (fun d' hd'=>Nat.lt_of_lt_of_le (decNs_lt hL d' hd') hl)
        refine⟨ts1.set d (.c (.bool false)),?_,?_,by simp[e2],fun y hy=>?_⟩
        ·rw[cS e1,kj (t:=false) (fun t0 b0 e=>by rw[e3 t0 (hn t0 b0 e).1]; exact hg t0 b0 e) (by simp only[ev]; rw[e3 t e4]; exact htb)]
         rfl
        ·refine ERel.push (fun j t0 hj hne=>?_) (by rw[e2]; exact hdl) rfl
         obtain⟨hj1,hj2⟩:=fO hj
         rw[e3 t0 hj2]
         exact he j t0 hj1
        ·rw[getD_set_ne hy.2,e3 y hy.1]
      ·cases hs
     ·cases hd
    ·cases hd
   ·cases hd
  ·cases hd
 | .orN d c sub x,g,μ,μ',L,env,ts,h,h',v,hd,hl,he,hg,hn,hs=>by
  simp only[jS] at hd
  split at hd
  ·rename_i t ht
   split at hd
   ·rename_i L1 μ1 hL
    split at hd
    ·rename_i x' hx
     split at hd
     ·rename_i hc
      simp only[Bool.and_eq_true,decide_eq_true_eq] at hc
      simp only[Option.some.injEq,Prod.mk.injEq] at hd
      obtain⟨rfl,rfl⟩:=hd
      simp only[dg] at hs
      split at hs
      ·rename_i b hb
       have htb:ts.getD t .undef=.c (.bool b):=by rw[← he c t ht]; exact hb
       have hdl:d<ts.length:=Nat.lt_of_lt_of_le hc.1 hl
       simp only[dU,bN,List.mem_append,List.mem_singleton,not_or] at hn ⊢
       cases b with
       | false =>
        simp only[orK,Bool.false_eq_true,if_false] at hs
        unfold bnd at hs
        split at hs
        ·rename_i s hs1
         obtain⟨env1,h1⟩:=s
         simp only[Option.some.injEq,Prod.mk.injEq] at hs
         obtain⟨rfl,rfl⟩:=hs
         have htn:t ∉ bN L1:=(ju (pr:=progL prog) (r:=r1) (base:=base) (h:=h) (ts:=ts.set t (.c (.bool true))) hc.2 (dX (by
           rcases Nat.lt_or_ge t ts.length with q | q
           ·exact q
           ·rw[List.getD_eq_getElem?_getD,List.getElem?_eq_none q] at htb; cases htb)) (by simp) (fun d' hd'=>by simpa using Nat.lt_of_lt_of_le (decNs_lt hL d' hd') hl)).choose_spec.2.2.2
         obtain⟨ts1,e1,e2,e3,e4⟩:=nodes_ok hP hr hL hl he (fun t0 b0 e=>by injection e with e; injection e with ea eb; subst ea eb; exact htb) (fun t0 b0 e=>by injection e with e; injection e with ea eb; subst ea; exact htn) hs1
         refine⟨ts1.set d (ev env1 x),?_,?_,by simp[e3],fun y hy=>?_⟩
         ·rw[cS e1,kj (t:=false) (fun t0 b0 e=>by rw[e4 t0 (hn t0 b0 e).1]; exact hg t0 b0 e) (by simp only[ev]; rw[e4 t htn]; exact htb)]
          simp only[Bool.false_eq_true,if_false,bn e2 hx]
         ·refine ERel.push (fun j t0 hj hne=>?_) (by rw[e3]; exact hdl) rfl
          obtain⟨hj1,hj2⟩:=fO hj
          rw[e4 t0 hj2]
          exact he j t0 hj1
         ·rw[getD_set_ne hy.2,e4 y hy.1]
        ·cases hs
       | true =>
        simp only[orK,if_true,Option.some.injEq,Prod.mk.injEq] at hs
        obtain⟨rfl,rfl⟩:=hs
        obtain⟨ts1,e1,e2,e3,e4⟩:=ju (pr:=progL prog) (r:=r1) (base:=base) (h:=h) hc.2 htb (by simp) (fun d' hd'=>Nat.lt_of_lt_of_le (decNs_lt hL d' hd') hl)
        refine⟨ts1.set d (.c (.bool true)),?_,?_,by simp[e2],fun y hy=>?_⟩
        ·rw[cS e1,kj (t:=true) (fun t0 b0 e=>by rw[e3 t0 (hn t0 b0 e).1]; exact hg t0 b0 e) (by simp only[ev]; rw[e3 t e4]; exact htb)]
         rfl
        ·refine ERel.push (fun j t0 hj hne=>?_) (by rw[e2]; exact hdl) rfl
         obtain⟨hj1,hj2⟩:=fO hj
         rw[e3 t0 hj2]
         exact he j t0 hj1
        ·rw[getD_set_ne hy.2,e3 y hy.1]
      ·cases hs
     ·cases hd
    ·cases hd
   ·cases hd
  ·cases hd
theorem nodes_ok (hP:b5 prog) (hr:eK r2 r1) {nt:Nat}:∀ {ns:List SNode} {g:Option (Nat × Bool)} {μ μ' : Mu} {L:List LOper} {env ts env' : List LV} {h h' : Heap},decNs nt g ns μ=some (L,μ')→nt≤ts.length→ERel μ env ts→vC g ts →
  (∀ t b,g=some (t,b)→t ∉ bN L)→runNs prog r2 base ns env h=some (env',h')→∃ ts',au (progL prog) r1 base L ⟨ts,h⟩=some ⟨ts',h'⟩∧ERel μ' env' ts'∧ts'.length=ts.length∧(∀ x,x ∉ bN L→ts'.getD x .undef=ts.getD x .undef)
 | [],g,μ,μ',L,env,ts,env',h,h',hd,hl,he,hg,hn,hs=>by
  simp only[decNs,Option.some.injEq,Prod.mk.injEq] at hd
  obtain⟨rfl,rfl⟩:=hd
  simp only[runNs,Option.some.injEq,Prod.mk.injEq] at hs
  obtain⟨rfl,rfl⟩:=hs
  exact⟨ts,rfl,he,rfl,fun _ _=>rfl⟩
 | n::ns,g,μ,μ',L,env,ts,env',h,h',hd,hl,he,hg,hn,hs=>by
  simp only[decNs] at hd
  split at hd
  ·rename_i L1 μ1 h1
   split at hd
   ·rename_i L2 μ2 h2
    simp only[Option.some.injEq,Prod.mk.injEq] at hd
    obtain⟨rfl,rfl⟩:=hd
    simp only[dU,List.mem_append,not_or] at hn ⊢
    simp only[runNs] at hs
    unfold bnd at hs
    split at hs
    ·rename_i s hs1
     obtain⟨v,h3⟩:=s
     obtain⟨ts1,e1,e2,e3,e4⟩:=RK hP hr h1 hl he hg (fun t b e=>(hn t b e).1) hs1
     obtain⟨ts2,q1,q2,q3,q4⟩:=nodes_ok hP hr h2 (by rw[e3]; exact hl) e2 (fun t b e=>by rw[e4 t (hn t b e).1]; exact hg t b e) (fun t b e=>(hn t b e).2) hs
     exact⟨ts2,by rw[cS e1]; exact q1,q2,by rw[q3,e3],fun x hx=>by rw[q4 x hx.2,e4 x hx.1]⟩
    ·cases hs
   ·cases hd
  ·cases hd
end
theorem lR (n:Nat):∀ (l:List LV) (j:Nat),(scrub n l).getD j .undef=(if (l.getD j .undef).under n then l.getD j .undef else .undef)
 | [],j=>by simp[scrub]
 | v::r,0=>by simp[scrub]
 | v::r,j+1=>by simpa[scrub] using lR n r j
theorem mC (n:Nat):∀ (l:List LV),(scrub n l).length=l.length
 | []=>rfl
 | v::r=>by simp[scrub,mC n r]
theorem RH {μ:Mu} {env ts:List LV} {h:Heap} (he:ERel μ env ts) (n:Nat):∃ env' ts' h',gc n ⟨env,h⟩=⟨env',h'⟩∧gc n ⟨ts,h⟩=⟨ts',h'⟩∧ERel μ env' ts'∧ts'.length=ts.length:=by
 unfold gc
 split
 ·refine⟨_,_,_,rfl,rfl,fun j t hj=>?_,mC n ts⟩
  rw[lR,lR,he j t hj]
 ·exact⟨_,_,_,rfl,rfl,he,rfl⟩
theorem M9 (hP:b5 prog) (hr:eK r2 r1) (ri:jD):eK (ac prog r2) (exec (progL prog) r1 ri):=by
 intro nt ρ Γ c2
 induction c2 generalizing Γ with
 | skip =>
  intro μ c1 m hd env h ts ex s2 he hl hs
  simp only[dH,Option.some.injEq,Prod.mk.injEq] at hd
  obtain⟨rfl,rfl⟩:=hd
  simp only[ac,Option.some.injEq,Prod.mk.injEq] at hs
  obtain⟨rfl,rfl⟩:=hs
  exact⟨ts,rfl,hl,μ,rfl,he⟩
 | ret =>
  intro μ c1 m hd env h ts ex s2 he hl hs
  simp only[dH] at hd
  split at hd
  ·rename_i e
   subst e
   simp only[Option.some.injEq,Prod.mk.injEq] at hd
   obtain⟨rfl,rfl⟩:=hd
   simp only[ac,Option.some.injEq,Prod.mk.injEq] at hs
   obtain⟨rfl,rfl⟩:=hs
   exact⟨ts,rfl,hl,he⟩
  ·cases hd
 | exit id =>
  intro μ c1 m hd env h ts ex s2 he hl hs
  simp only[dH] at hd
  split at hd
  ·rename_i m' hm
   split at hd
   ·rename_i e
    subst e
    simp only[Option.some.injEq,Prod.mk.injEq] at hd
    obtain⟨rfl,rfl⟩:=hd
    simp only[ac,Option.some.injEq,Prod.mk.injEq] at hs
    obtain⟨rfl,rfl⟩:=hs
    exact⟨ts,rfl,hl,_,hm,he⟩
   ·cases hd
  ·cases hd
 | seq a b iha ihb =>
  intro μ c1 m hd env h ts ex s2 he hl hs
  simp only[dH] at hd
  split at hd
  ·rename_i a' ma ha
   split at hd
   ·rename_i b' mb hb
    simp only[Option.some.injEq,Prod.mk.injEq] at hd
    obtain⟨rfl,rfl⟩:=hd
    simp only[ac,exec] at hs ⊢
    unfold eG at hs
    split at hs
    ·rename_i s hsa
     obtain⟨ts1,e1,e2,μ',hμ,e3⟩:=iha _ μ a' ma ha env h ts .normal s he hl hsa
     subst hμ
     rw[e1]
     exact ihb _ μ' b' mb hb s.tmps s.heap ts1 ex s2 e3 e2 hs
    ·rename_i id s hsa
     simp only[Option.some.injEq,Prod.mk.injEq] at hs
     obtain⟨rfl,rfl⟩:=hs
     obtain⟨ts1,e1,e2,e3⟩:=iha _ μ a' ma ha env h ts (.exit id) s he hl hsa
     exact⟨ts1,by rw[e1],e2,e3⟩
    ·rename_i s hsa
     simp only[Option.some.injEq,Prod.mk.injEq] at hs
     obtain⟨rfl,rfl⟩:=hs
     obtain⟨ts1,e1,e2,e3⟩:=iha _ μ a' ma ha env h ts .ret s he hl hsa
     exact⟨ts1,by rw[e1],e2,e3⟩
    ·cases hs
   ·cases hd
  ·cases hd
 | cond c a b iha ihb =>
  intro μ c1 m hd env h ts ex s2 he hl hs
  simp only[dH] at hd
  split at hd
  ·rename_i c' a' ma b' mb hc ha hb
   split at hd
   ·rename_i j hj
    simp only[Option.some.injEq,Prod.mk.injEq] at hd
    obtain⟨rfl,rfl⟩:=hd
    simp only[ac,exec] at hs ⊢
    unfold oi at hs
    rw[bn he hc]
    split at hs
    ·rename_i t ht
     simp only[ht]
     cases t with
     | true =>
      simp only[if_true] at hs
      obtain⟨ts1,e1,e2,e3⟩:=iha _ μ a' ma ha env h ts ex s2 he hl hs
      refine⟨ts1,e1,e2,?_⟩
      cases ex with
      | normal=>obtain⟨μ',hμ,e4⟩:=e3; exact⟨μ',(qh hj).1 _ hμ,e4⟩
      | exit id=>exact e3
      | ret=>exact e3
     | false =>
      simp only[Bool.false_eq_true,if_false] at hs
      obtain⟨ts1,e1,e2,e3⟩:=ihb _ μ b' mb hb env h ts ex s2 he hl hs
      refine⟨ts1,e1,e2,?_⟩
      cases ex with
      | normal=>obtain⟨μ',hμ,e4⟩:=e3; exact⟨μ',(qh hj).2 _ hμ,e4⟩
      | exit id=>exact e3
      | ret=>exact e3
    ·cases hs
   ·cases hd
  ·cases hd
 | block id ex0 a iha =>
  intro μ c1 m hd env h ts ex s2 he hl hs
  simp only[dH] at hd
  split at hd
  ·rename_i a' ma ha
   split at hd
   ·rename_i j hj
    simp only[Option.some.injEq,Prod.mk.injEq] at hd
    obtain⟨rfl,rfl⟩:=hd
    obtain⟨hj1,hj2⟩:=mq hj
    simp only[ac,exec] at hs ⊢
    unfold d9 at hs
    split at hs
    ·rename_i id' s hsa
     obtain⟨ts1,e1,e2,μ',hμ,e3⟩:=iha _ μ a' ma ha env h ts (.exit id') s he hl hsa
     rw[e1]
     simp only[oe] at hμ
     split at hs
     ·rename_i hid
      subst hid
      simp only[Option.some.injEq,Prod.mk.injEq] at hs
      obtain⟨rfl,rfl⟩:=hs
      rw[if_pos rfl] at hμ
      injection hμ with hμ
      subst hμ
      exact⟨ts1,by simp,e2,_,hj1,e3⟩
     ·rename_i hid
      simp only[Option.some.injEq,Prod.mk.injEq] at hs
      obtain⟨rfl,rfl⟩:=hs
      rw[if_neg (fun e=>hid e.symm)] at hμ
      exact⟨ts1,by simp[hid],e2,μ',hμ,e3⟩
    ·rename_i s hsa
     simp only[Option.some.injEq,Prod.mk.injEq] at hs
     obtain⟨rfl,rfl⟩:=hs
     obtain⟨ts1,e1,e2,μ',hμ,e3⟩:=iha _ μ a' ma ha env h ts .normal s he hl hsa
     have:=hj2 μ' hμ
     subst this
     exact⟨ts1,by rw[e1],e2,_,hj1,e3⟩
    ·rename_i s hsa
     simp only[Option.some.injEq,Prod.mk.injEq] at hs
     obtain⟨rfl,rfl⟩:=hs
     obtain⟨ts1,e1,e2,e3⟩:=iha _ μ a' ma ha env h ts .ret s he hl hsa
     exact⟨ts1,by rw[e1],e2,e3⟩
    ·cases hs
   ·cases hd
  ·cases hd
 | loop g a iha =>
  intro μ c1 m hd env h ts ex s2 he hl hs
  have hd0:=hd
  simp only[dH] at hd
  split at hd
  ·rename_i a' ma ha
   split at hd
   ·rename_i j hj
    simp only[Option.some.injEq,Prod.mk.injEq] at hd
    obtain⟨rfl,rfl⟩:=hd
    obtain⟨hj1,hj2⟩:=mq hj
    simp only[ac,exec] at hs ⊢
    unfold eG at hs
    split at hs
    ·rename_i s hsa
     obtain⟨ts1,e1,e2,μ',hμ,e3⟩:=iha _ μ a' ma ha env h ts .normal s he hl hsa
     have:=hj2 μ' hμ
     subst this
     rw[e1]
     simp only
     obtain⟨env3,ts3,h3,g1,g2,g3,g4⟩ : ∃ env3 ts3 h3,(if g then gc h.length s else s)=⟨env3,h3⟩∧(if g then gc h.length ⟨ts1,s.heap⟩ else ⟨ts1,s.heap⟩)=(⟨ts3,h3⟩ : St)∧ERel μ' env3 ts3∧nt≤ts3.length:=by
      cases g with
      | true =>
       obtain⟨a1,a2,a3,q1,q2,q3,q4⟩:=RH (h:=s.heap) e3 h.length
       exact⟨a1,a2,a3,q1,q2,q3,by rw[q4]; exact e2⟩
      | false=>exact⟨_,_,_,rfl,rfl,e3,e2⟩
     replace hs:r2 (.loop g a) (if g then gc h.length s else s)=some (ex,s2):=hs
     rw[g1] at hs
     rw[g2]
     exact hr nt ρ _ (.loop g a) μ' (.loop g a') none hd0 env3 h3 ts3 ex s2 g3 g4 hs
    ·rename_i id s hsa
     simp only[Option.some.injEq,Prod.mk.injEq] at hs
     obtain⟨rfl,rfl⟩:=hs
     obtain⟨ts1,e1,e2,e3⟩:=iha _ μ a' ma ha env h ts (.exit id) s he hl hsa
     exact⟨ts1,by rw[e1],e2,e3⟩
    ·rename_i s hsa
     simp only[Option.some.injEq,Prod.mk.injEq] at hs
     obtain⟨rfl,rfl⟩:=hs
     obtain⟨ts1,e1,e2,e3⟩:=iha _ μ a' ma ha env h ts .ret s he hl hsa
     exact⟨ts1,by rw[e1],e2,e3⟩
    ·cases hs
   ·cases hd
  ·cases hd
 | region ns sel =>
  intro μ c1 m hd env h ts ex s2 he hl hs
  simp only[dH] at hd
  split at hd
  ·rename_i L μ1 hL
   simp only[Option.some.injEq,Prod.mk.injEq] at hd
   obtain⟨rfl,rfl⟩:=hd
   simp only[ac,exec] at hs ⊢
   unfold bnd at hs
   split at hs
   ·rename_i s hs1
    obtain⟨env1,h1⟩:=s
    simp only[Option.some.injEq,Prod.mk.injEq] at hs
    obtain⟨rfl,rfl⟩:=hs
    obtain⟨ts1,e1,e2,e3,_⟩:=nodes_ok hP hr hL hl he (fun _ _ e=>by cases e) (fun _ _ e=>by cases e) hs1
    exact⟨ts1,by rw[e1],by rw[e3]; exact hl,_,rfl,e2.sel sel⟩
   ·cases hs
  ·cases hd
 | draw k ns sel =>
  intro μ c1 m hd env h ts ex s2 he hl hs
  simp only[dH] at hd
  split at hd
  ·rename_i L μ1 hL
   simp only[Option.some.injEq,Prod.mk.injEq] at hd
   obtain⟨rfl,rfl⟩:=hd
   simp only[ac,exec] at hs ⊢
   unfold bnd at hs
   split at hs
   ·rename_i s hs1
    obtain⟨env1,h1⟩:=s
    simp only[Option.some.injEq,Prod.mk.injEq] at hs
    obtain⟨rfl,rfl⟩:=hs
    obtain⟨ts1,e1,e2,e3,_⟩:=nodes_ok hP hr hL hl he (fun _ _ e=>by cases e) (fun _ _ e=>by cases e) hs1
    exact⟨ts1,by rw[e1],by rw[e3]; exact hl,_,rfl,e2.sel sel⟩
   ·cases hs
  ·cases hd
 | pre sel a iha =>
  intro μ c1 m hd env h ts ex s2 he hl hs
  simp only[dH] at hd
  simp only[ac] at hs
  exact iha _ (uq sel μ) c1 m hd (gW sel env) h ts ex s2 (he.sel sel) hl hs
 | dead c =>
  intro μ c1 m hd
  simp[dH] at hd
theorem td (hP:b5 prog):∀ n,eK (fW prog n) (run (progL prog) n)
 | 0=>fun _ _ _ _ _ _ _ _ _ _ _ _ _ _ _ hs=>by simp[fW] at hs
 | n+1=>M9 hP (td hP n) _
theorem uX (hP:b5 prog) {n f:Nat} {args:List CV} {v:CV} (hs:m6 prog n f args=some v):pcall (progL prog) n f args=some v:=by
 unfold m6 at hs
 unfold pcall
 have hpl:∀ F,prog f=some F→progL prog f=aa F:=fun F hF=>by unfold progL; rw[hF]
 split at hs
 ·rename_i g hp
  rw[hpl _ hp]
  exact hs
 ·rename_i nt np ρ rs body hp
  obtain⟨L,hL⟩:=hP f _ hp
  rw[hpl _ hp,hL]
  obtain⟨rs',b,rfl,hc⟩:=Al (td hP n) hL hs
  exact hc
 ·cases hs
end
end LM
namespace LM
open Go
def RLeS (r r' : RunS):Prop:=∀ c s x,r c s=some x→r' c s=some x
structure ScottS {α:Type} (rs:Nat→RunS) (l:RunS) (G:RunS→Option α):Prop where
 mono:∀ r r' x,RLeS r r'→G r=some x→G r'=some x
 cont:∀ x,G l=some x→∃ n,G (rs n)=some x
structure ChainS (rs:Nat→RunS) (l:RunS):Prop where
 le:∀ i j,i≤j→RLeS (rs i) (rs j)
 lim:∀ c s x,l c s=some x→∃ n,rs n c s=some x
section
variable {rs:Nat→RunS} {l:RunS} {α β:Type} {prog:Nat→Option SFunc}
theorem ScottS.const (x:Option α):ScottS rs l (fun _=>x):=⟨fun _ _ _ _ h=>h,fun _ h=>⟨0,h⟩⟩
theorem ScottS.elim {G:RunS→Option α} {K:α→RunS→Option β} (hch:ChainS rs l) (hG:ScottS rs l G) (hK:∀ a,ScottS rs l (K a)):ScottS rs l (fun r=>bnd (G r) fun a=>K a r):=by
 refine⟨fun r r' x hr h=>?_,fun x h=>?_⟩
 ·cases hg:G r with
  | none=>simp only[bnd,hg] at h; cases h
  | some a =>
   simp only[bnd,hg] at h
   simp only[bnd,hG.mono r r' a hr hg]
   exact (hK a).mono r r' x hr h
 ·cases hg:G l with
  | none=>simp only[bnd,hg] at h; cases h
  | some a =>
   simp only[bnd,hg] at h
   obtain⟨n,hn⟩:=hG.cont a hg
   obtain⟨m,hm⟩:=(hK a).cont x h
   refine⟨Nat.max n m,?_⟩
   simp only[bnd,hG.mono _ _ a (hch.le n _ (Nat.le_max_left n m)) hn]
   exact (hK a).mono _ _ x (hch.le m _ (Nat.le_max_right n m)) hm
theorem ScottS.of_eq {G G' : RunS→Option α} (h:ScottS rs l G) (e:∀ r,G' r=G r):ScottS rs l G':=by
 have:G'=G:=funext e
 rw[this]; exact h
theorem ChainS.call (h:ChainS rs l) (c:SCode) (s:St):ScottS rs l (fun r=>r c s) :=
 ⟨fun _ _ x hr h=>hr c s x h,fun x hx=>h.lim c s x hx⟩
theorem ot (h:ChainS rs l) (res:List LRes) (body:SCode) (args:List CV):ScottS rs l (fun r=>iI r res body args) :=
 (ScottS.elim h (h.call body ⟨args.map .c,[]⟩) (K:=fun x r=>match x.1 with
   | .exit _=>none
   | _=>match aK x.2 res with
    | some v=>match frz ay v x.2.heap with
     | some (c,_)=>some c
     | none=>none
    | none=>none) (fun a=>ScottS.const _)).of_eq fun r=>by
  unfold iI
  cases r body ⟨args.map .c,[]⟩<;>rfl
theorem w5 (h:ChainS rs l) (res:List LRes) (body:SCode) (args:List CV):ScottS rs l (fun r=>gI r res body args) :=
 (ScottS.elim h (h.call body ⟨args.map .c,[]⟩) (K:=fun x r=>match x.1 with
   | .exit _=>none
   | _=>match aK x.2 res with
    | some v=>some (v,x.2.heap)
    | none=>none) (fun a=>ScottS.const _)).of_eq fun r=>by
  unfold gI
  cases r body ⟨args.map .c,[]⟩<;>rfl
theorem mD (h:ChainS rs l) (res:List LRes) (body:SCode) (args:List LV) (hp:Heap):ScottS rs l (fun r=>eN r res body args hp) :=
 (ScottS.elim h (h.call body ⟨args,hp⟩) (K:=fun x r=>match x.1 with
   | .exit _=>none
   | _=>match aK x.2 res with
    | some v=>some (v,x.2.heap)
    | none=>none) (fun a=>ScottS.const _)).of_eq fun r=>by
  unfold eN
  cases r body ⟨args,hp⟩<;>rfl
theorem nh (h:ChainS rs l) (pos:Option Nat) (quiet:Bool) (f:Nat) (args:List LV) (hp:Heap):ScottS rs l (fun r=>aC prog r pos quiet f args hp):=by
 unfold aC
 split
 ·exact ScottS.const _
 ·exact ScottS.const _
 ·split
  ·exact ScottS.const _
  ·rename_i cs h' _
   exact (ScottS.elim h (ot h _ _ cs) (K:=fun v r=>some (LV.c v,if bE v then hp else h')) (fun _=>ScottS.const _)).of_eq fun r=>by
    cases iI r _ _ cs<;>rfl
 ·exact ScottS.const _
 ·split
  ·exact ScottS.const _
  ·split
   ·exact ScottS.const _
   ·rename_i cs h' _
    exact (ScottS.elim h (w5 h _ _ cs) (K:=fun x r=>bW pos _ x.1 x.2 h') (fun _=>ScottS.const _)).of_eq fun r=>by
     cases gI r _ _ cs<;>rfl
 ·split
  ·exact ScottS.const _
  ·split
   ·exact ScottS.const _
   ·exact mD h _ _ _ _
 ·split
  ·exact ScottS.const _
  ·exact mD h _ _ _ _
theorem BH (h:ChainS rs l) (pos:Option Nat) (env:List LV) (hp:Heap) (op:LOp):ScottS rs l (fun r=>iK prog r pos env hp op):=by
 unfold iK
 split
 ·split
  ·exact nh h _ _ _ _ _
  ·exact ScottS.const _
 ·exact ScottS.const _
theorem mP (h:ChainS rs l) (base:Nat) (op:LOp) (slot:Option Nat) (wh:Where) (env:List LV) (hp:Heap):ScottS rs l (fun r=>gJ prog r base op slot wh env hp):=by
 unfold gJ
 split
 ·exact BH h _ _ _ _
 ·exact ScottS.const _
mutual
theorem BW (h:ChainS rs l) (base:Nat):∀ (n:SNode) (env:List LV) (hp:Heap),ScottS rs l (fun r=>dg prog r base n env hp)
 | .op _ op slot wh,env,hp=>by simp only[dg]; exact mP h _ _ _ _ _ _
 | .eff op slot wh,env,hp=>by simp only[dg]; exact mP h _ _ _ _ _ _
 | .andN _ c sub x,env,hp=>by
  simp only[dg]
  split
  ·rename_i b _
   unfold m5
   split
   ·exact ScottS.elim h (scottS_nodes h base sub env hp) (K:=fun s r=>some (ev s.1 x,s.2)) (fun _=>ScottS.const _)
   ·exact ScottS.const _
  ·exact ScottS.const _
 | .orN _ c sub x,env,hp=>by
  simp only[dg]
  split
  ·rename_i b _
   unfold orK
   split
   ·exact ScottS.const _
   ·exact ScottS.elim h (scottS_nodes h base sub env hp) (K:=fun s r=>some (ev s.1 x,s.2)) (fun _=>ScottS.const _)
  ·exact ScottS.const _
theorem scottS_nodes (h:ChainS rs l) (base:Nat):∀ (ns:List SNode) (env:List LV) (hp:Heap),ScottS rs l (fun r=>runNs prog r base ns env hp)
 | [],env,hp=>by simp only[runNs]; exact ScottS.const _
 | n::ns,env,hp=>by
  simp only[runNs]
  exact ScottS.elim h (BW h base n env hp) (K:=fun s r=>runNs prog r base ns (jd n s.1 env) s.2) (fun s=>scottS_nodes h base ns _ _)
end
theorem CU (x:Option (Ex × St)) (k:St→Option (Ex × St)):eG x k=bnd x fun a=>match a.1 with
  | .normal=>k a.2
  | ex=>some (ex,a.2):=by
 rcases x with _ | ⟨ex,s⟩
 ·rfl
 ·cases ex<;>rfl
theorem cW (h:ChainS rs l):∀ (c:SCode) (s:St),ScottS rs l (fun r=>ac prog r c s)
 | .skip,s=>ScottS.const _
 | .ret,s=>ScottS.const _
 | .exit id,s=>ScottS.const _
 | .dead _,s=>ScottS.const _
 | .seq a b,s=>(ScottS.elim h (cW h a s) (K:=fun x r=>match x.1 with
    | .normal=>ac prog r b x.2
    | ex=>some (ex,x.2)) (fun x=>by
     split
     ·exact cW h b x.2
     ·exact ScottS.const _)).of_eq fun r=>by
   simp only[ac]
   exact CU _ _
 | .cond c a b,s=>by
   simp only[ac]
   unfold oi
   split
   ·split
    ·exact cW h a s
    ·exact cW h b s
   ·exact ScottS.const _
 | .block id _ a,s=>(ScottS.elim h (cW h a s) (K:=fun x r=>match x.1 with
    | .exit id'=>if id'=id then some (.normal,x.2) else some (.exit id',x.2)
    | ex=>some (ex,x.2)) (fun x=>ScottS.const _)).of_eq fun r=>by
   simp only[ac]
   rcases ac prog r a s with _ | ⟨ex,s'⟩
   ·rfl
   ·cases ex<;>rfl
 | .loop g a,s=>(ScottS.elim h (cW h a s) (K:=fun x r=>match x.1 with
    | .normal=>r (.loop g a) (if g then gc s.heap.length x.2 else x.2)
    | ex=>some (ex,x.2)) (fun x=>by
     split
     ·exact h.call _ _
     ·exact ScottS.const _)).of_eq fun r=>by
   simp only[ac]
   exact CU _ _
 | .region ns sel,s=>by
   simp only[ac]
   exact ScottS.elim h (scottS_nodes h 0 ns s.tmps s.heap) (K:=fun e r=>some (Ex.normal,(⟨gW sel e.1,e.2⟩ : St))) (fun _=>ScottS.const _)
 | .draw k ns sel,s=>by
   simp only[ac]
   exact ScottS.elim h (scottS_nodes h s.heap.length ns s.tmps (s.heap++List.replicate k .dead)) (K:=fun e r=>some (Ex.normal,(⟨gW sel e.1,e.2⟩ : St))) (fun _=>ScottS.const _)
 | .pre sel a,s=>by
   simp only[ac]
   exact cW h a _
end
open Classical in
noncomputable def af (prog:Nat→Option SFunc):RunS:=fun c s =>
 if h:∃ x n,fW prog n c s=some x then some h.choose else none
section
variable {prog:Nat→Option SFunc}
theorem qY {r r' : RunS} (hr:RLeS r r') {c:SCode} {s:St} {x:Ex × St} (h:ac prog r c s=some x):ac prog r' c s=some x :=
 (cW (prog:=prog) (rs:=fun _=>r) (l:=r) ⟨fun _ _ _ _ _ _ h=>h,fun _ _ _ h=>⟨0,h⟩⟩ c s).mono r r' x hr h
theorem jG:∀ n,RLeS (fW prog n) (fW prog (n+1))
 | 0=>fun _ _ _ h=>by simp[fW] at h
 | n+1=>fun _ _ _ h=>qY (jG n) h
theorem tS:∀ i j,i≤j→RLeS (fW prog i) (fW prog j)
 | i,j,h=>by
  induction h with
  | refl=>exact fun _ _ _ h=>h
  | step _ ih=>exact fun c s x h=>jG _ c s x (ih c s x h)
theorem B6 {i j:Nat} {c:SCode} {s:St} {x y:Ex × St} (hx:fW prog i c s=some x) (hy:fW prog j c s=some y):x=y:=by
 have h1:=tS i (Nat.max i j) (Nat.le_max_left i j) c s x hx
 have h2:=tS j (Nat.max i j) (Nat.le_max_right i j) c s y hy
 rw[h1] at h2
 exact Option.some.inj h2
theorem mj {c:SCode} {s:St} {x:Ex × St}:af prog c s=some x↔∃ n,fW prog n c s=some x:=by
 unfold af
 constructor
 ·intro h
  split at h
  ·rename_i hx
   injection h with h
   subst h
   exact hx.choose_spec
  ·cases h
 ·rintro⟨n,hn⟩
  have hx:∃ x n,fW prog n c s=some x:=⟨x,n,hn⟩
  rw[dif_pos hx]
  obtain⟨m,hm⟩:=hx.choose_spec
  exact congrArg some (B6 hm hn)
theorem mp:ChainS (fW prog) (af prog):=⟨tS,fun _ _ _ h=>mj.1 h⟩
theorem iS (c:SCode) (s:St):af prog c s=ac prog (af prog) c s:=by
 apply Option.ext
 intro x
 constructor
 ·intro h
  obtain⟨n,hn⟩:=mj.1 h
  have:=jG n c s x hn
  exact qY (fun c s x h=>mj.2 ⟨n,h⟩) this
 ·intro h
  obtain⟨n,hn⟩:=(cW mp c s).cont x h
  exact mj.2 ⟨n+1,hn⟩
noncomputable def fn (prog:Nat→Option SFunc) (f:Nat) (args:List CV):Option CV :=
 match prog f with
 | some (.prim g)=>g args
 | some (.code .pure _ _ _ rs body)=>iI (af prog) rs body args
 | _=>none
noncomputable def ffn (prog:Nat→Option SFunc) (f:Nat) (args:List CV):Option (LV × List LB) :=
 match prog f with
 | some (.fprim _ g)=>g args
 | some (.code (.fresh _) _ _ _ rs body)=>gI (af prog) rs body args
 | _=>none
noncomputable def sfn (prog:Nat→Option SFunc) (f:Nat) (args:List LV) (h:Heap):R :=
 match prog f with
 | some (.code .shared _ _ _ rs body)=>eN (af prog) rs body args h
 | some (.code .live _ _ _ rs body)=>eN (af prog) rs body args h
 | _=>none
theorem K9 {f:Nat} {args:List CV} {v:CV} (h:fn prog f args=some v):∃ n,m6 prog n f args=some v:=by
 unfold fn at h
 unfold m6
 rcases hp:prog f with _ | ⟨m,nt,np,ρ,rs,body⟩ | g | ⟨k,g⟩
 ·rw[hp] at h; cases h
 ·rw[hp] at h
  cases m with
  | pure=>exact (ot mp _ _ args).cont v h
  | fresh k=>cases h
  | shared=>cases h
  | live=>cases h
 ·rw[hp] at h; exact⟨0,h⟩
 ·rw[hp] at h; cases h
theorem fn_pcall (hP:b5 prog) {f:Nat} {args:List CV} {v:CV} (h:fn prog f args=some v):∃ n,pcall (progL prog) n f args=some v :=
 let ⟨n,hn⟩:=K9 h
 ⟨n,uX hP hn⟩
end
end LM
namespace LM
open Go Go.RowKit
variable {P:Program} {H:Hints}
def TabOk (P:Program) (H:Hints):List (Nat × SFunc)→Prop
 | []=>True
 | (f,F)::r=>(cFunc P H f=aa F∧(aa F).isSome=true)∧TabOk P H r
def LTabOk (P:Program) (H:Hints):List (Nat × LFunc)→Prop
 | []=>True
 | (f,F)::r=>cFunc P H f=some F∧LTabOk P H r
theorem TabOk.get:∀ {l:List (Nat × SFunc)},TabOk P H l→∀ {f F},lookupPrim f l=some F→cFunc P H f=aa F∧(aa F).isSome=true
 | [],_,f,F,h=>by simp[lookupPrim] at h
 | (g,G)::r,ht,f,F,h=>by
  simp only[lookupPrim] at h
  split at h
  ·rename_i e
   subst e
   simp only[Option.some.injEq] at h
   subst h
   exact ht.1
  ·exact TabOk.get ht.2 h
theorem LTabOk.get:∀ {l:List (Nat × LFunc)},LTabOk P H l→∀ {f F},lookupPrim f l=some F→cFunc P H f=some F
 | [],_,f,F,h=>by simp[lookupPrim] at h
 | (g,G)::r,ht,f,F,h=>by
  simp only[lookupPrim] at h
  split at h
  ·rename_i e
   subst e
   simp only[Option.some.injEq] at h
   subst h
   exact ht.1
  ·exact LTabOk.get ht.2 h
theorem TabOk.append:∀ {l r:List (Nat × SFunc)},TabOk P H l→TabOk P H r→TabOk P H (l++r)
 | [],_,_,h=>h
 | _::_,_,h,k=>⟨h.1,h.2.append k⟩
theorem iX {α:Type} {f:Nat} {F:α}:∀ {l r:List (Nat × α)},lookupPrim f l=some F→lookupPrim f (l++r)=some F
 | [],_,h=>by simp[lookupPrim] at h
 | (g,G)::l,r,h=>by
  simp only[lookupPrim,List.cons_append] at h ⊢
  split at h
  ·rename_i e; rw[if_pos e]; exact h
  ·rename_i e; rw[if_neg e]; exact iX h
def j9 (L:List (Nat × LFunc)) (S:List (Nat × SFunc)):Nat→Option LFunc:=fun f=>match lookupPrim f L with
 | some x=>some x
 | none=>progL (lookupPrim · S) f
theorem yX {L:List (Nat × LFunc)} {S:List (Nat × SFunc)} (hL:LTabOk P H L) (hS:TabOk P H S) (hp:∀ f g,lookupPrim f H.prims=some g→PrimOk P f g) (hq:∀ f k g,lookupPrim f H.fprims=some (k,g)→FprimOk P f g) (hm:P.follows .mixedOrders=true):ProgOk P H (j9 L S):=by
 refine⟨fun f lf h=>?_,hp,hq,hm⟩
 unfold j9 at h
 split at h
 ·rename_i x hx
  simp only[Option.some.injEq] at h
  subst h
  exact hL.get hx
 ·unfold progL at h
  split at h
  ·rename_i F hF
   rw[(hS.get hF).1]
   exact h
  ·cases h
theorem xD {S:List (Nat × SFunc)} (hS:TabOk P H S) (hp:∀ f g,lookupPrim f H.prims=some g→PrimOk P f g) (hq:∀ f k g,lookupPrim f H.fprims=some (k,g)→FprimOk P f g) (hm:P.follows .mixedOrders=true):ProgOk P H (progL (lookupPrim · S)) :=
 yX (L:=[]) trivial hS hp hq hm
theorem gQ {S:List (Nat × SFunc)} (hS:TabOk P H S):b5 (lookupPrim · S):=fun _ _ h=>Option.isSome_iff_exists.1 (hS.get h).2
theorem kw {prog:Nat→Option LFunc} (hP:ProgOk P H prog) {f n:Nat} (he:Enters P f):PrimOk P f (fun args=>pcall prog n f args) :=
 ⟨he,fun _ _ _ _ _ hF ha hg=>kV hP hF ha hg⟩
theorem kf {f nt:Nat} {m:FMode} {rs:List LRes} {b:LCode} (h:cFunc P H f=some (.code m nt rs b)):Enters P f:=by
 rcases cu h with ⟨g',e,_⟩ | ⟨k,g',e,_⟩ | ⟨fn,c,rs',e,hfn,hb,hrs,he⟩
 ·cases e
 ·cases e
 ·exact he
end LM
namespace LM
open Go
def PLe (p p' : Nat→Option LFunc):Prop:=∀ f F,p f=some F→p' f=some F
def RLe (r r' : Run):Prop:=∀ c s x,r c s=some x→r' c s=some x
def HLe (y y' : dG):Prop:=∀ a h x,y a h=some x→y' a h=some x
def xv (ri ri' : jD):Prop:=∀ y y',HLe y y'→∀ c s p x,ri y c s p=some x→ri' y' c s p=some x
section
variable {p p' : Nat→Option LFunc} {r r' : Run} {ri ri' : jD}
theorem kQ (hr:RLe r r') {nt:Nat} {rs:List LRes} {b:LCode} {args:List CV} {v:CV} (h:cT r nt rs b args=some v):cT r' nt rs b args=some v:=by
 unfold cT at h ⊢
 cases hb:r b ⟨pad nt (args.map .c),[]⟩ with
 | none=>rw[hb] at h; cases h
 | some x=>rw[hb] at h; rw[hr _ _ _ hb]; exact h
theorem xp (hr:RLe r r') {nt:Nat} {rs:List LRes} {b:LCode} {args:List CV} {v:LV × List LB} (h:c8 r nt rs b args=some v):c8 r' nt rs b args=some v:=by
 unfold c8 at h ⊢
 cases hb:r b ⟨pad nt (args.map .c),[]⟩ with
 | none=>rw[hb] at h; cases h
 | some x=>rw[hb] at h; rw[hr _ _ _ hb]; exact h
theorem pw (hp:PLe p p') (hr:RLe r r') {pos:Option Nat} {q:Bool} {f:Nat} {args:List LV} {h:Heap} {x:LV × Heap} (hs:bD p r pos q f args h=some x):bD p' r' pos q f args h=some x:=by
 unfold bD at hs ⊢
 cases hf:p f with
 | none=>rw[hf] at hs; cases hs
 | some F =>
  rw[hf] at hs
  rw[hp f F hf]
  cases F with
  | prim g=>exact hs
  | fprim k g=>exact hs
  | code m nt rs b =>
   cases m with
   | pure =>
    simp only at hs ⊢
    split at hs
    ·cases hs
    ·rename_i cs h' ha
     split at hs
     ·cases hs
     ·rename_i v hv
      rw[kQ hr hv]
      exact hs
   | fresh k =>
    simp only at hs ⊢
    split at hs
    ·cases hs
    ·rename_i hq
     rw[if_neg hq]
     split at hs
     ·cases hs
     ·rename_i cs h' ha
      split at hs
      ·cases hs
      ·rename_i v bs hv
       rw[xp hr hv]
       exact hs
   | shared =>
    simp only at hs ⊢
    split at hs
    ·cases hs
    ·rename_i hq
     rw[if_neg hq]
     split at hs
     ·cases hs
     ·rename_i args' h' ha
      cases hb:r b ⟨pad nt args',h'⟩ with
      | none=>rw[hb] at hs; cases hs
      | some y=>rw[hb] at hs; rw[hr _ _ _ hb]; exact hs
   | live =>
    simp only at hs ⊢
    split at hs
    ·cases hs
    ·rename_i hq
     rw[if_neg hq]
     cases hb:r b ⟨pad nt args,h⟩ with
     | none=>rw[hb] at hs; cases hs
     | some y=>rw[hb] at hs; rw[hr _ _ _ hb]; exact hs
theorem QV (hp:PLe p p') (hr:RLe r r') {pos:Option Nat} {ts:List LV} {h:Heap} {op:LOp} {x:LV × Heap} (hs:step p r pos ts h op=some x):step p' r' pos ts h op=some x:=by
 cases op with
 | call q f args =>
  simp only[step] at hs ⊢
  split at hs
  ·rename_i hf
   first
    | exact pw hp hr hs
    | (rw[hf]; exact pw hp hr hs)
  ·cases hs
 | _=>exact hs
theorem mw (hp:PLe p p') (hr:RLe r r') {base:Nat} {o:LOper} {s s' : St} (hs:bu p r base o s=some s'):bu p' r' base o s=some s':=by
 unfold bu at hs ⊢
 split at hs
 ·rename_i hc
  rw[if_pos hc]
  cases h1:step p r (o.slot.map (base+·)) s.tmps s.heap o.op with
  | none=>rw[h1] at hs; cases hs
  | some x=>rw[h1] at hs; rw[QV hp hr h1]; exact hs
 ·cases hs
theorem BI (hp:PLe p p') (hr:RLe r r') {base:Nat} {o:LOper} {s s' : St} (hs:aY p r base o s=some s'):aY p' r' base o s=some s':=by
 unfold aY at hs ⊢
 split
 ·rename_i hg
  simp only[hg] at hs
  exact mw hp hr hs
 ·rename_i t b hg
  simp only[hg] at hs
  split at hs
  ·rename_i hb
   split at hs
   ·rename_i hbb
    simp only[hbb,if_true]
    exact mw hp hr hs
   ·rename_i hbb
    simp only[hbb,if_false]
    exact hs
  ·exact hs
  ·cases hs
theorem gR (hp:PLe p p') (hr:RLe r r') {base:Nat}:∀ {os:List LOper} {s s' : St},au p r base os s=some s'→au p' r' base os s=some s'
 | [],s,s',h=>h
 | o::os,s,s',h=>by
  simp only[au] at h ⊢
  cases h1:aY p r base o s with
  | none=>rw[h1] at h; cases h
  | some s1 =>
   rw[h1] at h
   rw[BI hp hr h1]
   exact gR hp hr h
theorem LC {ea ea' eb eb' : St→Option (Ex × St)} (h1:∀ s x,ea s=some x→ea' s=some x) (h2:∀ s x,eb s=some x→eb' s=some x) (ps:List Nat) (ts:List LV):HLe (dm ea eb ps ts) (dm ea' eb' ps ts):=by
 intro a h x hx
 unfold dm at hx ⊢
 split at hx
 ·rename_i hl
  rw[if_pos hl]
  cases he:ea ⟨i7 ps a ts,h⟩ with
  | none=>rw[he] at hx; cases hx
  | some y =>
   rw[he] at hx
   rw[h1 _ _ he]
   obtain⟨e,s1⟩:=y
   cases e with
   | normal =>
    simp only at hx ⊢
    cases hb:eb s1 with
    | none=>rw[hb] at hx; cases hx
    | some z=>rw[hb] at hx; rw[h2 _ _ hb]; exact hx
   | exit id=>cases hx
   | ret=>cases hx
 ·cases hx
theorem dI (hp:PLe p p') (hr:RLe r r') (hi:xv ri ri'):∀ (c:LCode) (s:St) (x:Ex × St),exec p r ri c s=some x→exec p' r' ri' c s=some x
 | .skip,s,x,h=>h
 | .ret,s,x,h=>h
 | .exit id,s,x,h=>h
 | .bad n,s,x,h=>by simp[exec] at h
 | .seq a b,s,x,h=>by
  simp only[exec] at h ⊢
  cases h1:exec p r ri a s with
  | none=>rw[h1] at h; cases h
  | some y =>
   rw[h1] at h
   rw[dI hp hr hi a s y h1]
   obtain⟨e,s1⟩:=y
   cases e with
   | normal=>exact dI hp hr hi b s1 x h
   | exit id=>exact h
   | ret=>exact h
 | .cond c a b,s,x,h=>by
  simp only[exec] at h ⊢
  split at h
  ·rename_i hb; first | exact dI hp hr hi a s x h | (rw[hb]; exact dI hp hr hi a s x h)
  ·rename_i hb; first | exact dI hp hr hi b s x h | (rw[hb]; exact dI hp hr hi b s x h)
  ·cases h
 | .block id a,s,x,h=>by
  simp only[exec] at h ⊢
  cases h1:exec p r ri a s with
  | none=>rw[h1] at h; cases h
  | some y=>rw[h1] at h; rw[dI hp hr hi a s y h1]; exact h
 | .loop g a,s,x,h=>by
  simp only[exec] at h ⊢
  cases h1:exec p r ri a s with
  | none=>rw[h1] at h; cases h
  | some y =>
   rw[h1] at h
   rw[dI hp hr hi a s y h1]
   obtain⟨e,s1⟩:=y
   cases e with
   | normal=>exact hr _ _ _ h
   | exit id=>exact h
   | ret=>exact h
 | .region ops,s,x,h=>by
  simp only[exec] at h ⊢
  cases h1:au p r 0 ops s with
  | none=>rw[h1] at h; cases h
  | some y=>rw[h1] at h; rw[gR hp hr h1]; exact h
 | .draw k ops,s,x,h=>by
  simp only[exec] at h ⊢
  cases h1:au p r s.heap.length ops ⟨s.tmps,s.heap++List.replicate k .dead⟩ with
  | none=>rw[h1] at h; cases h
  | some y=>rw[h1] at h; rw[gR hp hr h1]; exact h
 | .rangeFn g ps asg body,s,x,h=>by
  have hh:HLe (dm (exec p r ri asg) (exec p r ri body) ps s.tmps) (dm (exec p' r' ri' asg) (exec p' r' ri' body) ps s.tmps):=LC (dI hp hr hi asg) (dI hp hr hi body) ps s.tmps
  simp only[exec] at h ⊢
  split at h
  ·rename_i f caps hf
   split at h
   ·rename_i nt itb hprog
    rw[hp _ _ hprog]
    simp only
    split at h
    ·cases h
    ·rename_i hm
     rw[if_neg hm]
     cases h1:ri (dm (exec p r ri asg) (exec p r ri body) ps s.tmps) itb ⟨pad nt (.tuple []::caps),s.heap⟩ none with
     | none=>rw[h1] at h; cases h
     | some y=>rw[h1] at h; rw[hi _ _ hh _ _ _ _ h1]; exact h
   ·cases h
  ·cases h
theorem mO (hp:PLe p p') (hr:RLe r r') {o:LOper} {s:St} {j:Option Ex} {x:St × Option Ex} (h:dP p r o s j=some x):dP p' r' o s j=some x:=by
 unfold dP at h ⊢
 cases h1:bu p r 0 o ⟨unmark s.tmps,s.heap⟩ with
 | none=>rw[h1] at h; cases h
 | some y=>rw[h1] at h; rw[mw hp hr h1]; exact h
theorem Ja (hp:PLe p p') (hr:RLe r r') {y y' : dG} (hy:HLe y y') {o:LOper} {s:St} {j:Option Ex} {x:St × Option Ex} (h:opI p r y o s j=some x):opI p' r' y' o s j=some x:=by
 unfold opI at h ⊢
 cases ho:o.op with
 | move z =>
  simp only[ho] at h ⊢
  split at h
  ·rename_i hm; simp only[hm,if_true]; exact h
  ·rename_i hm; simp only[hm]; exact mO hp hr h
 | call q f args =>
  simp only[ho] at h ⊢
  split at h
  ·rename_i hm
   simp only[hm,if_true]
   split at h
   ·rename_i hc
    rw[if_pos hc]
    cases h1:y (args.map (ev s.tmps)) s.heap with
    | none=>rw[h1] at h; cases h
    | some z=>rw[h1] at h; rw[hy _ _ _ h1]; exact h
   ·cases h
  ·rename_i hm
   simp only[hm]
   exact mO hp hr h
 | _=>simp only[ho] at h ⊢; exact mO hp hr h
theorem MF (hp:PLe p p') (hr:RLe r r') {y y' : dG} (hy:HLe y y') {o:LOper} {s:St} {j:Option Ex} {x:St × Option Ex} (h:fv p r y o s j=some x):fv p' r' y' o s j=some x:=by
 unfold fv at h ⊢
 split
 ·rename_i hg
  simp only[hg] at h
  exact Ja hp hr hy h
 ·rename_i t b hg
  simp only[hg] at h
  split at h
  ·split at h
   ·rename_i hbb
    simp only[hbb,if_true]
    exact Ja hp hr hy h
   ·rename_i hbb
    simp only[hbb,if_false]
    exact h
  ·exact h
  ·cases h
theorem ve (hp:PLe p p') (hr:RLe r r') {y y' : dG} (hy:HLe y y'):∀ {os:List LOper} {s:St} {j:Option Ex} {x:St × Option Ex},dn p r y os s j=some x→dn p' r' y' os s j=some x
 | [],s,j,x,h=>h
 | o::os,s,j,x,h=>by
  simp only[dn] at h ⊢
  cases h1:fv p r y o s j with
  | none=>rw[h1] at h; cases h
  | some z =>
   rw[h1] at h
   rw[MF hp hr hy h1]
   exact ve hp hr hy h
theorem dS (hp:PLe p p') (hr:RLe r r') (hi:xv ri ri') {y y' : dG} (hy:HLe y y'):∀ (c:LCode) (s:St) (j:Option Ex) (x:Ex × St × Option Ex),aJ p r ri y c s j=some x→aJ p' r' ri' y' c s j=some x
 | .skip,s,j,x,h=>h
 | .ret,s,j,x,h=>h
 | .exit id,s,j,x,h=>h
 | .bad n,s,j,x,h=>by simp[aJ] at h
 | .rangeFn ..,s,j,x,h=>by simp[aJ] at h
 | .seq a b,s,j,x,h=>by
  simp only[aJ] at h ⊢
  cases h1:aJ p r ri y a s j with
  | none=>rw[h1] at h; cases h
  | some z =>
   rw[h1] at h
   rw[dS hp hr hi hy a s j z h1]
   obtain⟨e,s1,j1⟩:=z
   cases e with
   | normal=>exact dS hp hr hi hy b s1 j1 x h
   | exit id=>exact h
   | ret=>exact h
 | .cond c a b,s,j,x,h=>by
  simp only[aJ] at h ⊢
  split at h
  ·rename_i hb; first | exact dS hp hr hi hy a s j x h | (rw[hb]; exact dS hp hr hi hy a s j x h)
  ·rename_i hb; first | exact dS hp hr hi hy b s j x h | (rw[hb]; exact dS hp hr hi hy b s j x h)
  ·cases h
 | .block id a,s,j,x,h=>by
  simp only[aJ] at h ⊢
  cases h1:aJ p r ri y a s j with
  | none=>rw[h1] at h; cases h
  | some z=>rw[h1] at h; rw[dS hp hr hi hy a s j z h1]; exact h
 | .loop g a,s,j,x,h=>by
  simp only[aJ] at h ⊢
  cases h1:aJ p r ri y a s j with
  | none=>rw[h1] at h; cases h
  | some z =>
   rw[h1] at h
   rw[dS hp hr hi hy a s j z h1]
   obtain⟨e,s1,j1⟩:=z
   cases e with
   | normal=>exact hi _ _ hy _ _ _ _ h
   | exit id=>exact h
   | ret=>exact h
 | .region ops,s,j,x,h=>by
  simp only[aJ] at h ⊢
  cases h1:dn p r y ops s j with
  | none=>rw[h1] at h; cases h
  | some z=>rw[h1] at h; rw[ve hp hr hy h1]; exact h
 | .draw k ops,s,j,x,h=>by
  simp only[aJ] at h ⊢
  cases h1:au p r s.heap.length ops ⟨unmark s.tmps,s.heap++List.replicate k .dead⟩ with
  | none=>rw[h1] at h; cases h
  | some z=>rw[h1] at h; rw[gR hp hr h1]; exact h
theorem gG (hp:PLe p p'):∀ n,RLe (runs p n).1 (runs p' n).1∧xv (runs p n).2 (runs p' n).2
 | 0=>⟨fun _ _ _ h=>by simp[runs] at h,fun _ _ _ _ _ _ _ h=>by simp[runs] at h⟩
 | n+1=>by
  obtain⟨h1,h2⟩:=gG hp n
  exact⟨fun c s x h=>dI hp h1 h2 c s x h,fun y y' hy c s j x h=>dS hp h1 h2 hy c s j x h⟩
theorem jK:∀ n,RLe (runs p n).1 (runs p (n+1)).1∧xv (runs p n).2 (runs p (n+1)).2
 | 0=>⟨fun _ _ _ h=>by simp[runs] at h,fun _ _ _ _ _ _ _ h=>by simp[runs] at h⟩
 | n+1=>by
  obtain⟨h1,h2⟩:=jK n
  exact⟨fun c s x h=>dI (fun _ _ h=>h) h1 h2 c s x h,fun y y' hy c s j x h=>dS (fun _ _ h=>h) h1 h2 hy c s j x h⟩
theorem Fc:∀ {i j:Nat},i≤j→RLe (runs p i).1 (runs p j).1∧xv (runs p i).2 (runs p j).2
 | i,j,h=>by
  induction h with
  | refl=>exact gG (fun _ _ h=>h) i
  | step _ ih=>exact⟨fun c s x h=>(jK _).1 c s x (ih.1 c s x h),fun y y' hy c s j x h=>(jK _).2 y' y' (fun _ _ _ h=>h) c s j x (ih.2 y y' hy c s j x h)⟩
theorem pn (hp:PLe p p') {n m f:Nat} (hn:n≤m) {args:List CV} {v:CV} (h:pcall p n f args=some v):pcall p' m f args=some v:=by
 unfold pcall at h ⊢
 cases hf:p f with
 | none=>rw[hf] at h; cases h
 | some F =>
  rw[hf] at h
  rw[hp f F hf]
  cases F with
  | prim g=>exact h
  | fprim k g=>cases h
  | code md nt rs b =>
   cases md with
   | pure=>exact kQ (Fc (p:=p') hn).1 (kQ (gG hp n).1 h)
   | fresh k=>cases h
   | shared=>cases h
   | live=>cases h
end
end LM
namespace LM
open Go
section
variable {prog:Nat→Option SFunc} {r:RunS} {α β:Type}
@[simp] theorem ak (a:α) (k:α→Option β):bnd (some a) k=k a:=_root_.id rfl
@[simp] theorem Z1 (k:α→Option β):bnd none k=none:=_root_.id rfl
@[simp] theorem iE (s:St) (k:St→Option (Ex × St)):eG (some (.normal,s)) k=k s:=_root_.id rfl
@[simp] theorem HH (id:Nat) (s:St) (k:St→Option (Ex × St)):eG (some (.exit id,s)) k=some (.exit id,s):=_root_.id rfl
@[simp] theorem acr (s:St) (k:St→Option (Ex × St)):eG (some (.ret,s)) k=some (.ret,s):=_root_.id rfl
@[simp] theorem ZU (k:St→Option (Ex × St)):eG none k=none:=_root_.id rfl
@[simp] theorem acf (c:Prop) [Decidable c] (x y:Option (Ex × St)) (k:St→Option (Ex × St)):eG (if c then x else y) k=if c then eG x k else eG y k:=by split<;>rfl
@[simp] theorem vv (id:Nat) (s:St):d9 id (some (.normal,s))=some (.normal,s):=_root_.id rfl
@[simp] theorem Zh (id:Nat) (s:St):d9 id (some (.ret,s))=some (.ret,s):=_root_.id rfl
@[simp] theorem XY (id:Nat):d9 id none=none:=_root_.id rfl
@[simp] theorem Xr (id id' : Nat) (s:St):d9 id (some (.exit id',s))=if id'=id then some (.normal,s) else some (.exit id',s):=_root_.id rfl
@[simp] theorem Yr (id:Nat) (c:Prop) [Decidable c] (x y:Option (Ex × St)):d9 id (if c then x else y)=if c then d9 id x else d9 id y:=by split<;>rfl
@[simp] theorem Yn (b:Bool) (x y:Option (Ex × St)):oi (.c (.bool b)) x y=if b then x else y:=_root_.id rfl
@[simp] theorem ZC (x:Option (LV × Heap)) (h:Heap):m5 true x h=x:=_root_.id rfl
@[simp] theorem YT (x:Option (LV × Heap)) (h:Heap):m5 false x h=some (.c (.bool false),h):=_root_.id rfl
@[simp] theorem aa9 (x:Option (LV × Heap)) (h:Heap):orK true x h=some (.c (.bool true),h):=_root_.id rfl
@[simp] theorem Zn (x:Option (LV × Heap)) (h:Heap):orK false x h=x:=_root_.id rfl
@[simp] theorem Zt (b e:Bool) (h:Heap):m5 b (some (.c (.bool e),h)) h=some (.c (.bool (b && e)),h):=by cases b<;>rfl
@[simp] theorem ab7 (b e:Bool) (h:Heap):orK b (some (.c (.bool e),h)) h=some (.c (.bool (b || e)),h):=by cases b<;>rfl
@[simp] theorem af7 (env:List LV) (v:LV):ev env (.k v)=v:=_root_.id rfl
@[simp] theorem aeV (v:LV) (env:List LV):ev (v::env) (.t 0)=v:=_root_.id rfl
@[simp] theorem aeA (v:LV) (env:List LV) (n:Nat):ev (v::env) (.t (n+1))=ev env (.t n):=_root_.id rfl
@[simp] theorem aax (env:List LV):gW [] env=[]:=_root_.id rfl
@[simp] theorem ZD (i:Nat) (l:List Nat) (env:List LV):gW (i::l) env=ev env (.t i)::gW l env:=_root_.id rfl
@[simp] theorem ab5 (d:Nat) (op:LOp) (slot:Option Nat) (wh:Where) (v:LV) (env:List LV):jd (.op d op slot wh) v env=v::env:=_root_.id rfl
@[simp] theorem ZB (d c:Nat) (sub:List SNode) (x:LO) (v:LV) (env:List LV):jd (.andN d c sub x) v env=v::env:=_root_.id rfl
@[simp] theorem aa5 (d c:Nat) (sub:List SNode) (x:LO) (v:LV) (env:List LV):jd (.orN d c sub x) v env=v::env:=_root_.id rfl
@[simp] theorem ZM (op:LOp) (slot:Option Nat) (wh:Where) (v:LV) (env:List LV):jd (.eff op slot wh) v env=env:=_root_.id rfl
@[simp] theorem Zr (base:Nat) (env:List LV) (h:Heap):runNs prog r base [] env h=some (env,h):=by simp only[runNs]
def me (prog:Nat→Option SFunc) (r:RunS) (base:Nat) (n:SNode) (ns:List SNode) (env:List LV) (x:R):Option (List LV × Heap):=bnd x fun s=>runNs prog r base ns (jd n s.1 env) s.2
@[simp] theorem Yp (base:Nat) (n:SNode) (ns:List SNode) (env:List LV) (v:LV) (h:Heap):me prog r base n ns env (some (v,h))=runNs prog r base ns (jd n v env) h:=_root_.id rfl
@[simp] theorem YR (base:Nat) (n:SNode) (ns:List SNode) (env:List LV):me prog r base n ns env none=none:=_root_.id rfl
@[simp] theorem ZP (base:Nat) (n:SNode) (ns:List SNode) (env:List LV) (c:Prop) [Decidable c] (x y:R):me prog r base n ns env (if c then x else y)=if c then me prog r base n ns env x else me prog r base n ns env y:=by split<;>rfl
@[simp] theorem Zl (base:Nat) (n:SNode) (ns:List SNode) (env:List LV) (h:Heap):runNs prog r base (n::ns) env h=me prog r base n ns env (dg prog r base n env h):=by simp only[runNs,me]
def pi (sel:List Nat) (x:Option (List LV × Heap)):Option (Ex × St):=bnd x fun e=>some (.normal,⟨gW sel e.1,e.2⟩)
@[simp] theorem Zp (sel:List Nat) (env:List LV) (h:Heap):pi sel (some (env,h))=some (.normal,⟨gW sel env,h⟩):=_root_.id rfl
@[simp] theorem ZL (sel:List Nat):pi sel none=none:=_root_.id rfl
@[simp] theorem abQ (sel:List Nat) (c:Prop) [Decidable c] (x y:Option (List LV × Heap)):pi sel (if c then x else y)=if c then pi sel x else pi sel y:=by split<;>rfl
def j6 (x:LO) (y:Option (List LV × Heap)):R:=bnd y fun s=>some (ev s.1 x,s.2)
@[simp] theorem Zw (x:LO) (env:List LV) (h:Heap):j6 x (some (env,h))=some (ev env x,h):=_root_.id rfl
@[simp] theorem ZW (x:LO):j6 x none=none:=_root_.id rfl
@[simp] theorem aba (base d:Nat) (op:LOp) (slot:Option Nat) (wh:Where) (env:List LV) (h:Heap):dg prog r base (.op d op slot wh) env h=gJ prog r base op slot wh env h:=by simp only[dg]
@[simp] theorem ZS (base:Nat) (op:LOp) (slot:Option Nat) (wh:Where) (env:List LV) (h:Heap):dg prog r base (.eff op slot wh) env h=gJ prog r base op slot wh env h:=by simp only[dg]
def orF (prog:Nat→Option SFunc) (r:RunS) (base:Nat) (sub:List SNode) (x:LO) (env:List LV) (h:Heap) (v:LV):R :=
 match v with
 | .c (.bool b)=>if b then some (.c (.bool true),h) else j6 x (runNs prog r base sub env h)
 | _=>none
def Mv (prog:Nat→Option SFunc) (r:RunS) (base:Nat) (sub:List SNode) (x:LO) (env:List LV) (h:Heap) (v:LV):R :=
 match v with
 | .c (.bool b)=>if b then j6 x (runNs prog r base sub env h) else some (.c (.bool false),h)
 | _=>none
@[simp] theorem aaM (base:Nat) (sub:List SNode) (x:LO) (env:List LV) (h:Heap) (b:Bool):orF prog r base sub x env h (.c (.bool b))=if b then some (.c (.bool true),h) else j6 x (runNs prog r base sub env h):=_root_.id rfl
@[simp] theorem ZZ (base:Nat) (sub:List SNode) (x:LO) (env:List LV) (h:Heap) (b:Bool):Mv prog r base sub x env h (.c (.bool b))=if b then j6 x (runNs prog r base sub env h) else some (.c (.bool false),h):=_root_.id rfl
@[simp] theorem afF (p:Prop) [Decidable p] (e:Bool) (h:Heap):(if p then some (LV.c (.bool true),h) else some (LV.c (.bool e),h))=some (LV.c (.bool (decide p || e)),h):=by by_cases q:p<;>simp[q]
@[simp] theorem ae0 (p:Prop) [Decidable p] (e:Bool) (h:Heap):(if p then some (LV.c (.bool e),h) else some (LV.c (.bool false),h))=some (LV.c (.bool (decide p && e)),h):=by by_cases q:p<;>simp[q]
@[simp] theorem aee (p:Prop) [Decidable p] (e:Bool) (h:Heap):(if p then some (LV.c (.bool e),h) else some (LV.c (.bool true),h))=some (LV.c (.bool (!decide p || e)),h):=by by_cases q:p<;>simp[q]
@[simp] theorem acP (p:Prop) [Decidable p] (e:Bool) (h:Heap):(if p then some (LV.c (.bool false),h) else some (LV.c (.bool e),h))=some (LV.c (.bool (!decide p && e)),h):=by by_cases q:p<;>simp[q]
@[simp] theorem abp (x:LO) (c:Prop) [Decidable c] (a b:Option (List LV × Heap)):j6 x (if c then a else b)=if c then j6 x a else j6 x b:=by split<;>rfl
@[simp] theorem Zz (base d c:Nat) (sub:List SNode) (x:LO) (env:List LV) (h:Heap) :
  dg prog r base (.andN d c sub x) env h=Mv prog r base sub x env h (ev env (.t c)):=by
 simp only[dg,ev]
 unfold Mv m5 j6
 rfl
@[simp] theorem ab0 (base d c:Nat) (sub:List SNode) (x:LO) (env:List LV) (h:Heap) :
  dg prog r base (.orN d c sub x) env h=orF prog r base sub x env h (ev env (.t c)):=by
 simp only[dg,ev]
 unfold orF orK j6
 rfl
@[simp] theorem Y7 (s:St):ac prog r .skip s=some (.normal,s):=_root_.id rfl
@[simp] theorem ZR (s:St):ac prog r .ret s=some (.ret,s):=_root_.id rfl
@[simp] theorem YV (id:Nat) (s:St):ac prog r (.exit id) s=some (.exit id,s):=_root_.id rfl
@[simp] theorem Zo (a b:SCode) (s:St):ac prog r (.seq a b) s=eG (ac prog r a s) (ac prog r b):=_root_.id rfl
def kh (v:LV) (f g:St→Option (Ex × St)) (s:St):Option (Ex × St) :=
 match v with
 | .c (.bool b)=>if b then f s else g s
 | _=>none
@[simp] theorem Y6 (f g:St→Option (Ex × St)) (s:St):kh (.c (.bool true)) f g s=f s:=_root_.id rfl
@[simp] theorem XI (f g:St→Option (Ex × St)) (s:St):kh (.c (.bool false)) f g s=g s:=_root_.id rfl
@[simp] theorem Yx (b:Bool) (f g:St→Option (Ex × St)) (s:St):kh (.c (.bool b)) f g s=if b then f s else g s:=_root_.id rfl
@[simp] theorem G5 (c:LO) (a b:SCode) (s:St):ac prog r (.cond c a b) s=kh (ev s.tmps c) (ac prog r a) (ac prog r b) s:=by
 have h:ac prog r (.cond c a b) s=oi (ev s.tmps c) (ac prog r a s) (ac prog r b s):=rfl
 rw[h]
 unfold oi kh
 rfl
class IsSeq (c:SCode) (a b:outParam SCode):Prop where
 h:c=.seq a b
class IsCond (c:SCode) (v:outParam LO) (a b:outParam SCode):Prop where
 h:c=.cond v a b
class IsBlock (c:SCode) (id:outParam Nat) (m:outParam Mu) (a:outParam SCode):Prop where
 h:c=.block id m a
@[simp] theorem Xv (c:SCode) {a b:SCode} [h:IsSeq c a b] (s:St):ac prog r c s=eG (ac prog r a s) (ac prog r b):=by rw[h.h]; rfl
@[simp] theorem SU (c:SCode) {v:LO} {a b:SCode} [h:IsCond c v a b] (s:St):ac prog r c s=kh (ev s.tmps v) (ac prog r a) (ac prog r b) s:=by rw[h.h,G5]
@[simp] theorem Se (c:SCode) {id:Nat} {m:Mu} {a:SCode} [h:IsBlock c id m a] (s:St):ac prog r c s=d9 id (ac prog r a s):=by rw[h.h]; rfl
@[simp] theorem XS (id:Nat) (m:Mu) (a:SCode) (s:St):ac prog r (.block id m a) s=d9 id (ac prog r a s):=_root_.id rfl
@[simp] theorem SS (ns:List SNode) (sel:List Nat) (s:St):ac prog r (.region ns sel) s=pi sel (runNs prog r 0 ns s.tmps s.heap):=_root_.id rfl
@[simp] theorem YS (k:Nat) (ns:List SNode) (sel:List Nat) (s:St):ac prog r (.draw k ns sel) s=pi sel (runNs prog r s.heap.length ns s.tmps (s.heap++List.replicate k .dead)):=_root_.id rfl
@[simp] theorem ZQ (sel:List Nat) (a:SCode) (s:St):ac prog r (.pre sel a) s=ac prog r a ⟨gW sel s.tmps,s.heap⟩:=_root_.id rfl
theorem aj (g:Bool) (a:SCode) (s:St):ac prog (af prog) (.loop g a) s=eG (ac prog (af prog) a s) fun s'=>ac prog (af prog) (.loop g a) (if g then gc s.heap.length s' else s'):=by
 have e:∀ s',af prog (.loop g a) s'=ac prog (af prog) (.loop g a) s':=iS _
 conv=>lhs; simp only[ac]
 simp only[e]
@[simp] theorem aft (ts:List LV):gc 0 ⟨ts,[]⟩=⟨scrub 0 ts,[]⟩:=_root_.id rfl
@[simp] theorem ZI (n:Nat):scrub n []=[]:=_root_.id rfl
@[simp] theorem aeT (n:Nat) (v:CV) (l:List LV):scrub n (.c v::l)=.c v::scrub n l:=_root_.id rfl
@[simp] theorem XV (n:Nat) (l:List LV):scrub n (.undef::l)=.undef::scrub n l:=by simp[scrub]
@[simp] theorem Zd (n:Nat) (l:List LV):scrub n (.nil::l)=.nil::scrub n l:=_root_.id rfl
@[simp] theorem Zq (n b g o:Nat) (l:List LV):scrub n (.ptr b g o::l)=(if b<n then .ptr b g o else .undef)::scrub n l:=by simp[scrub,LV.under]
@[simp] theorem XU (n b g o len:Nat) (e c:Option Nat) (l:List LV):scrub n (.slice b g o len e c::l)=(if b<n then .slice b g o len e c else .undef)::scrub n l:=by simp[scrub,LV.under]
@[simp] theorem ZF (n b:Nat) (l:List LV):scrub n (.map b::l)=(if b<n then .map b else .undef)::scrub n l:=by simp[scrub,LV.under]
theorem oN (base:Nat) (env:List LV) (op:LOp):aX base .any env op=true:=by
 unfold aX
 split
 ·split<;>rfl
 ·rfl
@[simp] theorem ZA (base:Nat) (op:LOp) (env:List LV) (h:Heap):gJ prog r base op none .any env h=iK prog r none env h op:=by
 simp[gJ,oN,de]
def dR (v:Option LV) (h:Heap):Option CV:=bnd v fun v=>bnd (frz ay v h) fun x=>some x.1
def kG (rs:List LRes) (x:Option (Ex × St)):Option CV:=bnd x fun p=>match p.1 with
 | .exit _=>none
 | _=>dR (aK p.2 rs) p.2.heap
@[simp] theorem ZY (rs:List LRes):kG rs none=none:=_root_.id rfl
@[simp] theorem aac (rs:List LRes) (c:Prop) [Decidable c] (x y:Option (Ex × St)):kG rs (if c then x else y)=if c then kG rs x else kG rs y:=by split<;>rfl
@[simp] theorem AJ (rs:List LRes) (s:St):kG rs (some (.ret,s))=dR (aK s rs) s.heap:=_root_.id rfl
@[simp] theorem B5 (rs:List LRes) (s:St):kG rs (some (.normal,s))=dR (aK s rs) s.heap:=_root_.id rfl
@[simp] theorem afC (v:CV) (h:Heap):dR (some (.c v)) h=some v:=_root_.id rfl
theorem ai {f nt np:Nat} {ρ:Mu} {rs:List LRes} {b:SCode} (hp:prog f=some (.code .pure nt np ρ rs b)) (args:List CV):fn prog f args=kG rs (ac prog (af prog) b ⟨args.map .c,[]⟩):=by
 have e:∀ (s:St),(match aK s rs with
   | some v=>match frz ay v s.heap with
    | some (c,_)=>some c
    | none=>none
   | none=>none)=dR (aK s rs) s.heap:=fun s=>by
  unfold dR
  cases aK s rs with
  | none=>rfl
  | some v =>
   simp only[ak]
   cases frz ay v s.heap<;>rfl
 simp only[fn,hp,iI,iS]
 unfold kG
 rcases ac prog (af prog) b ⟨args.map .c,[]⟩ with _ | ⟨ex,s⟩
 ·rfl
 ·cases ex with
  | exit id=>rfl
  | normal=>exact e s
  | ret=>exact e s
@[simp] theorem XJ (s:St) (j:Nat):aK s [.tmp j]=some (ev s.tmps (.t j)):=_root_.id rfl
@[simp] theorem XH (s:St) (i j:Nat):aK s [.tmp i,.tmp j]=some (mkTuple [ev s.tmps (.t i),ev s.tmps (.t j)]):=_root_.id rfl
@[simp] theorem Sd (s:St) (i j k:Nat):aK s [.tmp i,.tmp j,.tmp k]=some (mkTuple [ev s.tmps (.t i),ev s.tmps (.t j),ev s.tmps (.t k)]):=_root_.id rfl
@[simp] theorem XF (s:St):aK s []=some (.c (.tuple [])):=_root_.id rfl
@[simp] theorem XA:mkTuple []=.c (.tuple []):=_root_.id rfl
@[simp] theorem YZ (a b:CV):mkTuple [.c a,.c b]=.c (.tuple [a,b]):=_root_.id rfl
@[simp] theorem XC (a b c:CV):mkTuple [.c a,.c b,.c c]=.c (.tuple [a,b,c]):=_root_.id rfl
theorem ag {f nt np:Nat} {ρ:Mu} {rs:List LRes} {b:SCode} (hp:prog f=some (.code .pure nt np ρ rs b)) (pos:Option Nat) (q:Bool) (args:List LV) (h:Heap) :
  aC prog (af prog) pos q f args h=bnd (aD q args h) fun a=>bnd (fn prog f a.1) fun v=>some (.c v,if bE v then h else a.2):=by
 simp only[aC,fn,hp]
 rcases aD q args h with _ | ⟨cs,h'⟩
 ·rfl
 ·simp only[ak]
  cases iI (af prog) rs b cs<;>rfl
theorem qF {f:Nat} {g:List CV→Option CV} (hp:prog f=some (.prim g)) (pos:Option Nat) (q:Bool) (args:List LV) (h:Heap) :
  aC prog (af prog) pos q f args h=bnd (aD q args h) fun a=>bnd (fn prog f a.1) fun v=>some (.c v,if bE v then h else a.2):=by
 simp only[aC,fn,hp]
 rcases aD q args h with _ | ⟨cs,h'⟩
 ·rfl
 ·simp only[ak]
  cases g cs<;>rfl
def aZ (rs:List LRes) (x:Option (Ex × St)):R:=bnd x fun p=>match p.1 with
 | .exit _=>none
 | _=>bnd (aK p.2 rs) fun v=>some (v,p.2.heap)
@[simp] theorem ZX (rs:List LRes):aZ rs none=none:=_root_.id rfl
@[simp] theorem acw (rs:List LRes) (c:Prop) [Decidable c] (x y:Option (Ex × St)):aZ rs (if c then x else y)=if c then aZ rs x else aZ rs y:=by split<;>rfl
@[simp] theorem abO (rs:List LRes) (s:St):aZ rs (some (.ret,s))=bnd (aK s rs) fun v=>some (v,s.heap):=_root_.id rfl
@[simp] theorem Xs (rs:List LRes) (s:St):aZ rs (some (.normal,s))=bnd (aK s rs) fun v=>some (v,s.heap):=_root_.id rfl
theorem ua (rs:List LRes) (x:Option (Ex × St)):(match x with
  | some (ex,s)=>match ex with
   | .exit _=>none
   | _=>match aK s rs with
    | some v=>some (v,s.heap)
    | none=>none
  | none=>none)=aZ rs x:=by
 rcases x with _ | ⟨ex,s⟩
 ·rfl
 ·unfold aZ
  cases ex with
  | exit id=>rfl
  | normal=>simp only[ak]; cases aK s rs<;>rfl
  | ret=>simp only[ak]; cases aK s rs<;>rfl
theorem pR {f k nt np:Nat} {ρ:Mu} {rs:List LRes} {b:SCode} (hp:prog f=some (.code (.fresh k) nt np ρ rs b)) (args:List CV):ffn prog f args=aZ rs (ac prog (af prog) b ⟨args.map .c,[]⟩):=by
 simp only[ffn,hp,gI,iS]
 exact ua _ _
theorem aU {f nt np:Nat} {ρ:Mu} {rs:List LRes} {b:SCode} (hp:prog f=some (.code .shared nt np ρ rs b)) (args:List LV) (h:Heap):sfn prog f args h=aZ rs (ac prog (af prog) b ⟨args,h⟩):=by
 simp only[sfn,hp,eN,iS]
 exact ua _ _
theorem gw {f nt np:Nat} {ρ:Mu} {rs:List LRes} {b:SCode} (hp:prog f=some (.code .live nt np ρ rs b)) (args:List LV) (h:Heap):sfn prog f args h=aZ rs (ac prog (af prog) b ⟨args,h⟩):=by
 simp only[sfn,hp,eN,iS]
 exact ua _ _
theorem fH {f nt np:Nat} {ρ:Mu} {rs:List LRes} {b:SCode} (hp:prog f=some (.code .live nt np ρ rs b)) (pos:Option Nat) (q:Bool) (args:List LV) (h:Heap) :
  aC prog (af prog) pos q f args h=if q then none else sfn prog f args h:=by
 simp only[aC,sfn,hp]
theorem kI {f k nt np:Nat} {ρ:Mu} {rs:List LRes} {b:SCode} (hp:prog f=some (.code (.fresh k) nt np ρ rs b)) (pos:Option Nat) (q:Bool) (args:List LV) (h:Heap) :
  aC prog (af prog) pos q f args h=if q && pos.isNone then none else bnd (aD q args h) fun a=>bnd (ffn prog f a.1) fun v=>bW pos k v.1 v.2 a.2:=by
 simp only[aC,ffn,hp]
 split
 ·rfl
 ·rcases aD q args h with _ | ⟨cs,h'⟩
  ·rfl
  ·simp only[ak]
   cases gI (af prog) rs b cs<;>rfl
theorem BE {f k:Nat} {g:List CV→Option (LV × List LB)} (hp:prog f=some (.fprim k g)) (pos:Option Nat) (q:Bool) (args:List LV) (h:Heap) :
  aC prog (af prog) pos q f args h=if q && pos.isNone then none else bnd (aD q args h) fun a=>bnd (ffn prog f a.1) fun v=>bW pos k v.1 v.2 a.2:=by
 simp only[aC,ffn,hp]
 split
 ·rfl
 ·rcases aD q args h with _ | ⟨cs,h'⟩
  ·rfl
  ·simp only[ak]
   cases g cs<;>rfl
theorem aw {f nt np:Nat} {ρ:Mu} {rs:List LRes} {b:SCode} (hp:prog f=some (.code .shared nt np ρ rs b)) (pos:Option Nat) (q:Bool) (args:List LV) (h:Heap) :
  aC prog (af prog) pos q f args h=if q then none else bnd (ah args h) fun a=>sfn prog f a.1 a.2:=by
 simp only[aC,sfn,hp]
 split
 ·rfl
 ·rcases ah args h with _ | ⟨cs,h'⟩<;>rfl
@[simp] theorem Zc (v:CV) (h:Heap):frz ay (.c v) h=some (v,h):=_root_.id rfl
@[simp] theorem PH (h:Heap):frz ay .nil h=some (.slice [],h):=_root_.id rfl
@[simp] theorem aef (h:Heap):frz ay .emp h=some (.slice [],h):=_root_.id rfl
theorem uL (x:LV) (l:List LV) (h:Heap):aV (frz ay) (x::l) h=bnd (frz ay x h) fun y=>bnd (aV (frz ay) l y.2) fun z=>some (y.1::z.1,z.2):=by
 simp only[aV]
 rcases frz ay x h with _ | ⟨y,h1⟩
 ·rfl
 ·simp only[ak]
  rcases aV (frz ay) l h1 with _ | ⟨z,h2⟩<;>rfl
@[simp] theorem oB (q:Bool) (h:Heap):aD q [] h=some ([],h):=by cases q<;>rfl
@[simp] theorem Ie (q:Bool) (v:CV) (l:List LV) (h:Heap):aD q (.c v::l) h=bnd (aD q l h) fun a=>some (v::a.1,a.2):=by
 cases q with
 | true =>
  simp only[aD,if_true,toCL,toC]
  cases toCL l<;>rfl
 | false =>
  simp only[aD,Bool.false_eq_true,if_false,sU,uL,Zc,ak]
theorem cY (x:LV) (l:List LV) (h:Heap):aD false (x::l) h=bnd (frz ay x h) fun y=>bnd (aD false l y.2) fun z=>some (y.1::z.1,z.2):=by
 simp only[aD,Bool.false_eq_true,if_false,sU,uL]
@[simp] theorem WY (l:List LV) (h:Heap):aD true (.nil::l) h=bnd (aD true l h) fun a=>some (.slice []::a.1,a.2):=by
 simp only[aD,if_true,toCL,toC]
 cases toCL l<;>rfl
@[simp] theorem ac0 (f:Nat) (a b:List CV):da (.c (.func f a b))=some (f,a.map .c,b.map .c):=_root_.id rfl
@[simp] theorem abf (f:Nat) (a b:List LV):da (.func f a b)=some (f,a,b):=_root_.id rfl
@[simp] theorem Ye (pos:Option Nat) (env:List LV) (h:Heap) (q:Bool) (f:LO) (args:List LO):iK prog r pos env h (.call q f args)=bnd (da (ev env f)) fun g=>aC prog r pos q g.1 (g.2.1++args.map (ev env)++g.2.2) h:=by
 simp only[iK]
 rcases da (ev env f) with _ | ⟨g,a,b⟩<;>rfl
end
@[simp] theorem jO (n:Nat):∀ (l:List CV),underL n (l.map .c)=true
 | []=>rfl
 | v::l=>by simp[underL,LV.under,jO n l]
@[simp] theorem YI (n:Nat):underL n []=true:=_root_.id rfl
@[simp] theorem XX (n:Nat) (v:LV) (l:List LV):underL n (v::l)=(v.under n && underL n l):=_root_.id rfl
@[simp] theorem vq (n:Nat):∀ (a b:List LV),underL n (a++b)=(underL n a && underL n b)
 | [],b=>rfl
 | v::a,b=>by simp[vq n a b,Bool.and_assoc]
@[simp] theorem YM (n:Nat):bM n []=true:=_root_.id rfl
@[simp] theorem Xx (n:Nat) (v:LB) (l:List LB):bM n (v::l)=(v.under n && bM n l):=_root_.id rfl
attribute [simp] gc LB.under LV.under
theorem cL (b g off len:Nat) (esz cap:Option Nat) (h:Heap):frz ay (.slice b g off len esz cap) h=match h[b]? with
  | some (.cells g' cs _)=>if g=g'∧off+len*ae esz≤cs.length then bnd (aV (frz 39) ((cs.drop off).take (len*ae esz)) (bump b (off+len*ae esz) h)) fun a=>bnd (bV esz len a.1) fun xs=>some (.slice xs,a.2) else none
  | _=>none:=by
 unfold ay
 simp only[frz]
 rcases h[b]? with _ | blk
 ·rfl
 ·cases blk with
  | cells g' cs fz =>
   simp only
   split
   ·rcases aV (frz 39) _ _ with _ | ⟨l,h'⟩
    ·rfl
    ·simp only[ak]
     cases bV esz len l<;>rfl
   ·rfl
  | _=>rfl
theorem PK (b g off:Nat) (h:Heap):frz ay (.ptr b g off) h=match h[b]? with
  | some (.cells g' cs _)=>if g=g' then bnd (aV (frz 39) cs (bump b cs.length h)) fun a=>some (.ptr a.1 off,a.2) else none
  | _=>none:=by
 unfold ay
 simp only[frz]
 rcases h[b]? with _ | blk
 ·rfl
 ·cases blk with
  | cells g' cs fz =>
   simp only
   split
   ·rcases aV (frz 39) _ _ with _ | ⟨l,h'⟩<;>rfl
   ·rfl
  | _=>rfl
theorem mc (f:Nat) (a b:List LV) (h:Heap):frz ay (.func f a b) h=bnd (aV (frz 39) a h) fun x=>bnd (aV (frz 39) b x.2) fun y=>some (.func f x.1 y.1,y.2):=by
 unfold ay
 simp only[frz]
 rcases aV (frz 39) a h with _ | ⟨l,h'⟩
 ·rfl
 ·simp only[ak]
  rcases aV (frz 39) b h' with _ | ⟨l2,h2⟩<;>rfl
theorem P4 (b:Nat) (h:Heap):frz ay (.map b) h=match h[b]? with
  | some (.map ks vs _)=>bnd (aV (frz 39) vs (h.set b (.map ks vs true))) fun a=>some (.map ks a.1,a.2)
  | _=>none:=by
 unfold ay
 simp only[frz]
 rcases h[b]? with _ | blk
 ·rfl
 ·cases blk with
  | map ks vs fz=>simp only; rcases aV (frz 39) _ _ with _ | ⟨l,h'⟩<;>rfl
  | _=>rfl
theorem mY (cs:List LV) (h:Heap):frz ay (.tuple cs) h=bnd (aV (frz 39) cs h) fun a=>some (.tuple a.1,a.2):=by
 unfold ay
 simp only[frz]
 rcases aV (frz 39) _ _ with _ | ⟨l,h'⟩<;>rfl
theorem nN (cs:List LV) (h:Heap):frz ay (.agg cs) h=bnd (aV (frz 39) cs h) fun a=>some (.agg a.1,a.2):=by
 unfold ay
 simp only[frz]
 rcases aV (frz 39) _ _ with _ | ⟨l,h'⟩<;>rfl
@[simp] theorem io (f:LV→Heap→Option (CV × Heap)) (h:Heap):aV f [] h=some ([],h):=_root_.id rfl
theorem bh (f:LV→Heap→Option (CV × Heap)) (v:LV) (r:List LV) (h:Heap):aV f (v::r) h=bnd (f v h) fun x=>bnd (aV f r x.2) fun y=>some (x.1::y.1,y.2):=by
 simp only[aV]
 rcases f v h with _ | ⟨x,h1⟩
 ·rfl
 ·simp only[ak]
  rcases aV f r h1 with _ | ⟨y,h2⟩<;>rfl
@[simp] theorem ep (n:Nat) (v:CV) (h:Heap):frz (n+1) (.c v) h=some (v,h):=_root_.id rfl
@[simp] theorem gM (n:Nat):∀ (l:List CV) (h:Heap),aV (frz (n+1)) (l.map .c) h=some (l,h)
 | [],h=>rfl
 | v::l,h=>by simp only[List.map_cons,bh,ep,ak,gM n l h]
theorem my (n:Nat) (l:List CV) (r:List LV) (h:Heap):aV (frz (n+1)) (l.map .c++r) h=bnd (aV (frz (n+1)) r h) fun a=>some (l++a.1,a.2):=by
 induction l with
 | nil=>simp only[List.map_nil,List.nil_append]; rcases aV (frz (n+1)) r h with _ | ⟨a,h'⟩<;>rfl
 | cons v l ih =>
  simp only[List.map_cons,List.cons_append,bh,ep,ak,ih]
  rcases aV (frz (n+1)) r h with _ | ⟨a,h'⟩<;>rfl
theorem xZ (n b g off:Nat) (h:Heap):frz (n+1) (.ptr b g off) h=match h[b]? with
  | some (.cells g' cs _)=>if g=g' then bnd (aV (frz n) cs (bump b cs.length h)) fun a=>some (.ptr a.1 off,a.2) else none
  | _=>none:=by
 simp only[frz]
 rcases h[b]? with _ | blk
 ·rfl
 ·cases blk with
  | cells g' cs fz =>
   simp only
   split
   ·rcases aV (frz n) _ _ with _ | ⟨l,h'⟩<;>rfl
   ·rfl
  | _=>rfl
theorem eg (n b g off len:Nat) (esz cap:Option Nat) (h:Heap):frz (n+1) (.slice b g off len esz cap) h=match h[b]? with
  | some (.cells g' cs _)=>if g=g'∧off+len*ae esz≤cs.length then bnd (aV (frz n) ((cs.drop off).take (len*ae esz)) (bump b (off+len*ae esz) h)) fun a=>bnd (bV esz len a.1) fun xs=>some (.slice xs,a.2) else none
  | _=>none:=by
 simp only[frz]
 rcases h[b]? with _ | blk
 ·rfl
 ·cases blk with
  | cells g' cs fz =>
   simp only
   split
   ·rcases aV (frz n) _ _ with _ | ⟨l,h'⟩
    ·rfl
    ·simp only[ak]
     cases bV esz len l<;>rfl
   ·rfl
  | _=>rfl
theorem nl (n b:Nat) (h:Heap):frz (n+1) (.map b) h=match h[b]? with
  | some (.map ks vs _)=>bnd (aV (frz n) vs (h.set b (.map ks vs true))) fun a=>some (.map ks a.1,a.2)
  | _=>none:=by
 simp only[frz]
 rcases h[b]? with _ | blk
 ·rfl
 ·cases blk with
  | map ks vs fz=>simp only; rcases aV (frz n) _ _ with _ | ⟨l,h'⟩<;>rfl
  | _=>rfl
@[simp] theorem Yc (b g off:Nat) (h:Heap):frz 39 (.ptr b g off) h=match h[b]? with
  | some (.cells g' cs _)=>if g=g' then bnd (aV (frz 38) cs (bump b cs.length h)) fun a=>some (.ptr a.1 off,a.2) else none
  | _=>none:=xZ 38 b g off h
@[simp] theorem yo (b g off len:Nat) (esz cap:Option Nat) (h:Heap):frz 39 (.slice b g off len esz cap) h=match h[b]? with
  | some (.cells g' cs _)=>if g=g'∧off+len*ae esz≤cs.length then bnd (aV (frz 38) ((cs.drop off).take (len*ae esz)) (bump b (off+len*ae esz) h)) fun a=>bnd (bV esz len a.1) fun xs=>some (.slice xs,a.2) else none
  | _=>none:=eg 38 b g off len esz cap h
@[simp] theorem qQ (h:Heap):frz 39 .nil h=some (.slice [],h):=_root_.id rfl
@[simp] theorem YL (h:Heap):frz 39 .emp h=some (.slice [],h):=_root_.id rfl
@[simp] theorem W5 (b g off len:Nat) (esz cap:Option Nat) (h:Heap):frz 38 (.slice b g off len esz cap) h=match h[b]? with
  | some (.cells g' cs _)=>if g=g'∧off+len*ae esz≤cs.length then bnd (aV (frz 37) ((cs.drop off).take (len*ae esz)) (bump b (off+len*ae esz) h)) fun a=>bnd (bV esz len a.1) fun xs=>some (.slice xs,a.2) else none
  | _=>none:=eg 37 b g off len esz cap h
@[simp] theorem YD (b:Nat) (h:Heap):frz 38 (.map b) h=match h[b]? with
  | some (.map ks vs _)=>bnd (aV (frz 37) vs (h.set b (.map ks vs true))) fun a=>some (.map ks a.1,a.2)
  | _=>none:=nl 37 b h
@[simp] theorem Y8 (h:Heap):frz 38 .nil h=some (.slice [],h):=_root_.id rfl
@[simp] theorem Za (h:Heap):frz 38 .emp h=some (.slice [],h):=_root_.id rfl
@[simp] theorem Vb (f:Nat) (a b:List LV) (l:List LV) (h:Heap):aD false (.func f a b::l) h=bnd (frz ay (.func f a b) h) fun y=>bnd (aD false l y.2) fun z=>some (y.1::z.1,z.2):=cY _ _ _
@[simp] theorem Sb (b g o n:Nat) (e c:Option Nat) (l:List LV) (h:Heap):aD false (.slice b g o n e c::l) h=bnd (frz ay (.slice b g o n e c) h) fun y=>bnd (aD false l y.2) fun z=>some (y.1::z.1,z.2):=cY _ _ _
@[simp] theorem XQ (b:Nat) (l:List LV) (h:Heap):aD false (.map b::l) h=bnd (frz ay (.map b) h) fun y=>bnd (aD false l y.2) fun z=>some (y.1::z.1,z.2):=cY _ _ _
@[simp] theorem U4 (l:List LV) (h:Heap):aD false (.nil::l) h=bnd (aD false l h) fun z=>some (.slice []::z.1,z.2):=cY _ _ _
@[simp] theorem Xw (l:List LV) (h:Heap):aD false (.emp::l) h=bnd (aD false l h) fun z=>some (.slice []::z.1,z.2):=cY _ _ _
@[simp] theorem Zv (l:List CV):bV none l.length l=some l:=by
 induction l with
 | nil=>rfl
 | cons v l ih=>simp only[List.length_cons,bV,bO,List.head?_cons,ae,List.drop_one,List.tail_cons,ih]
@[simp] theorem XZ (k:IntKind) (n:Int):bE (.int k n)=true:=_root_.id rfl
@[simp] theorem WN (b:Bool):bE (.bool b)=true:=_root_.id rfl
@[simp] theorem XO (s:List UInt8):bE (.str s)=true:=_root_.id rfl
@[simp] theorem Sh (l:List CV):bE (.slice l)=false:=_root_.id rfl
@[simp] theorem Xy (l:List CV):bE (.agg l)=false:=_root_.id rfl
@[simp] theorem X9 (l k:List CV):bE (.map l k)=false:=_root_.id rfl
@[simp] theorem XW (l:List CV) (o:Nat):bE (.ptr l o)=false:=_root_.id rfl
@[simp] theorem SP (f:Nat) (l k:List CV):bE (.func f l k)=false:=_root_.id rfl
@[simp] theorem Sa (l:List CV):bE (.tuple l)=l.all eM:=_root_.id rfl
@[simp] theorem X8 (k:IntKind) (n:Int):eM (.int k n)=true:=_root_.id rfl
@[simp] theorem T1 (b:Bool):eM (.bool b)=true:=_root_.id rfl
@[simp] theorem XL (s:List UInt8):eM (.str s)=true:=_root_.id rfl
@[simp] theorem Sg (l:List CV):eM (.slice l)=false:=_root_.id rfl
@[simp] theorem XT (l:List CV):eM (.agg l)=false:=_root_.id rfl
attribute [simp] gJ aX cK dK bQ de cQ bump cL PK mc P4 mY nN bh eW bF bz setCells aT LV.flat CV.flat mkAgg aP fC bV
attribute [simp] b7 cN rj iK ab Gn qc lV ok okC iN CV.cells bO LV.cells ae bW bound
abbrev aB (prog:Nat→Option SFunc) (f:Nat):Prop:=∀ (pos:Option Nat) (q:Bool) (args:List LV) (h:Heap),aC prog (af prog) pos q f args h=bnd (aD q args h) fun a=>bnd (fn prog f a.1) fun v=>some (.c v,if bE v then h else a.2)
abbrev ar (prog:Nat→Option SFunc) (f:Nat) (rs:List LRes) (c:SCode):Prop:=∀ args:List CV,fn prog f args=kG rs (ac prog (af prog) c ⟨args.map .c,[]⟩)
abbrev aS (prog:Nat→Option SFunc) (a b:SCode):Prop:=∀ s:St,ac prog (af prog) a s=eG (ac prog (af prog) b s) fun s'=>ac prog (af prog) a (gc s.heap.length s')
abbrev afW (prog:Nat→Option SFunc) (a b:SCode):Prop:=∀ s:St,ac prog (af prog) a s=eG (ac prog (af prog) b s) fun s'=>ac prog (af prog) a s'
end LM
namespace LM
open Go
abbrev Str:=List UInt8
abbrev ci (n:Int):CV:=.int .i64 n
theorem am {n:Int} (h1 : -9223372036854775808≤n) (h2:n≤9223372036854775807):IntKind.i64.wrap n=n:=by
 simp only[IntKind.wrap,IntKind.bits,IntKind.signed]
 first
  | omega
  | (simp; omega)
def aq:List Int→Int
 | []=>0
 | e::r=>if e≠0 then e else aq r
def av (b:Bool) (e:Int):Int:=if b then e else 0
def aF (n a b:Int):Bool:=decide (n<a) || decide (n > b)
def gm (c:Nat):Bool:=(decide (97≤c) && decide (c≤122)) || (decide (65≤c) && decide (c≤90))
def qP (c:Nat):Bool:=decide (48≤c) && decide (c≤57)
def gL (i:Nat) (c:Nat):Bool:=gm c || (i != 0 && (qP c || c == 95))
def dB:Nat→Str→Bool
 | _,[]=>true
 | i,c::r=>gL i c.toNat && dB (i+1) r
def isName (s:Str):Bool:=decide (1≤s.length) && decide (s.length≤24) && dB 0 s
def O2 (s:Str):Int:=av (!isName s) 8
theorem zQ {s:Str} {pos:Nat} {c:UInt8} (hc:s[pos]? = some c):∃ h:pos<(ByteArray.mk s.toArray).size,(ByteArray.mk s.toArray)[pos]'h=c:=by
 obtain⟨h,e⟩:=List.getElem?_eq_some_iff.1 hc
 refine⟨by simpa[ByteArray.size] using h,?_⟩
 show s.toArray[pos]'_=c
 simpa using e
theorem KT {s:Str} {pos:Nat} {c:UInt8} (hc:s[pos]? = some c) (h:c.toNat<128):Utf8.decode ⟨s.toArray⟩ pos=(c.toNat,1):=by
 obtain⟨h1,e⟩:=zQ hc
 rw[Go.decode_ascii _ pos h1 (by rw[e]; exact h),e]
theorem Hv {s:Str} {pos:Nat} {c:UInt8} (hc:s[pos]? = some c) (h:128≤c.toNat):128≤(Utf8.decode ⟨s.toArray⟩ pos).1:=by
 obtain⟨h1,e⟩:=zQ hc
 exact (Go.decode_high _ pos h1 (by rw[e]; exact h)).1
theorem Ak {i c:Nat} (h:128≤c):gL i c=false:=by
 unfold gL gm qP
 simp
 omega
def cellsOf (xs:List CV):List LV:=(xs.flatMap CV.cells).map .c
@[simp] theorem XK:cellsOf []=[]:=rfl
theorem sL (a b:List CV):cellsOf (a++b)=cellsOf a++cellsOf b:=by simp[cellsOf]
@[simp] theorem bx (n:Nat) (xs:List CV):underL n (cellsOf xs)=true:=jO n _
def Elem:Option Nat→CV→Prop
 | none,x=>x.cells=[x]∧x.flat=true
 | some k,x=>∃ cs:List CV,x=.agg cs∧cs.length=k∧∀ y ∈ cs,y.flat=true
theorem Elem.cells {e:Option Nat} {x:CV} (h:Elem e x):x.cells.length=ae e∧∀ y ∈ x.cells,y.flat=true:=by
 cases e with
 | none =>
  obtain⟨h1,h2⟩:=h
  rw[h1]
  exact⟨rfl,by simpa using h2⟩
 | some k =>
  obtain⟨cs,rfl,h1,h2⟩:=h
  exact⟨h1,h2⟩
theorem cU {e:Option Nat}:∀ {xs:List CV},(∀ x ∈ xs,Elem e x)→(cellsOf xs).length=xs.length*ae e
 | [],_=>by simp
 | x::xs,h=>by
  have h1:=(h x (by simp)).cells.1
  have h2:=cU (e:=e) (xs:=xs) fun y hy=>h y (by simp[hy])
  simp only[cellsOf,List.flatMap_cons,List.map_append,List.length_append,List.length_map,List.length_cons] at h2 ⊢
  rw[h1,h2,Nat.add_mul]
  omega
theorem gH {e:Option Nat} {xs:List CV} (h:∀ x ∈ xs,Elem e x):aT (cellsOf xs)=true:=by
 have:∀ l:List CV,(∀ y ∈ l,y.flat=true)→aT (l.map .c)=true:=by
  intro l hl
  induction l with
  | nil=>rfl
  | cons y l ih =>
   simp only[List.map_cons,aT,List.all_cons,Bool.and_eq_true] at ih ⊢
   exact⟨hl y (by simp),ih fun z hz=>hl z (by simp[hz])⟩
 apply this
 intro y hy
 rw[List.mem_flatMap] at hy
 obtain⟨x,hx,hy⟩:=hy
 exact (h x hx).cells.2 y hy
theorem fR {e:Option Nat}:∀ {xs:List CV},(∀ x ∈ xs,Elem e x)→bV e xs.length (xs.flatMap CV.cells)=some xs
 | [],_=>rfl
 | x::xs,h=>by
  have ih:=fR (e:=e) (xs:=xs) fun y hy=>h y (by simp[hy])
  have hx:=h x (by simp)
  cases e with
  | none =>
   obtain⟨h1,h2⟩:=hx
   simp only[List.length_cons,List.flatMap_cons,h1,List.singleton_append,bV,bO,List.head?_cons,ae,List.drop_one,List.tail_cons,ih]
  | some k =>
   obtain⟨cs,rfl,h1,h2⟩:=hx
   simp only[List.length_cons,List.flatMap_cons,CV.cells,bV,bO,ae]
   rw[if_pos (by simp; omega)]
   have e1:(cs++xs.flatMap CV.cells).take k=cs:=by rw[← h1]; simp
   have e2:(cs++xs.flatMap CV.cells).drop k=xs.flatMap CV.cells:=by rw[← h1]; simp
   simp only[e1,e2,ih]
theorem iP (pos:Option Nat) {b g bytes fz:Nat} {e:Option Nat} {ys xs:List CV} {h:Heap} {len:Nat} (hb:h[b]? = some (.cells g (cellsOf ys) fz)) (hy:∀ x ∈ ys,Elem e x) (hx:∀ x ∈ xs,Elem e x) (hlen:len=ys.length) (hf:fz≤(cellsOf ys).length) (hn:xs≠[])
  (hs:(ys.length+xs.length)*bytes≤2^47) (hs2:ys.length+xs.length≤9223372036854775807) :
  aN pos e bytes (.slice b g 0 len e none) (.c (.slice xs)) h=some (.slice b (g+1) 0 (len+xs.length) e none,h.set b (.cells (g+1) (cellsOf (ys++xs)) fz)):=by
 subst hlen
 have h1:aO e h (.c (.slice xs))=some (xs.length,cellsOf xs):=rfl
 have h2:=cU hx
 have h3:=cU hy
 have hne:xs.length≠0:=fun e=>hn (List.eq_nil_of_length_eq_zero e)
 simp only[aN,h1,gH hx,hb]
 rw[if_neg (by simp),if_neg (by rw[h2]; simp),if_neg (by simp; omega)]
 rw[if_pos ⟨trivial,h3.symm,hf⟩,if_neg hne,sL]
 rfl
theorem gN {b g bytes fz:Nat} {e:Option Nat} {ys xs:List CV} {h:Heap} {len:Nat} (hb:h[b]? = some (.cells g (cellsOf ys) fz)) (hy:∀ x ∈ ys,Elem e x) (hx:∀ x ∈ xs,Elem e x) (hlen:len=ys.length) (hf:fz≤(cellsOf ys).length) (hn:xs≠[])
  (hs:(ys.length+xs.length)*bytes≤2^47) (hs2:ys.length+xs.length≤9223372036854775807) :
  aN none e bytes (.slice b g 0 len e none) (.c (.slice xs)) h=some (.slice b (g+1) 0 (len+xs.length) e none,h.set b (.cells (g+1) (cellsOf (ys++xs)) fz)):=iP none hb hy hx hlen hf hn hs hs2
theorem lz {b g fz:Nat} {e:Option Nat} {ys:List CV} {h:Heap} {len:Nat} (hb:h[b]? = some (.cells g (cellsOf ys) fz)) (hy:∀ x ∈ ys,Elem e x) (hlen:len=ys.length) (cap:Option Nat) :
  frz ay (.slice b g 0 len e cap) h=some (.slice ys,bump b (len*ae e) h):=by
 subst hlen
 have h3:=cU hy
 rw[cL,hb]
 simp only[Nat.zero_add,List.drop_zero]
 rw[if_pos ⟨trivial,by omega⟩]
 have:(cellsOf ys).take (ys.length*ae e)=cellsOf ys:=by rw[← h3]; exact List.take_length
 rw[this]
 unfold cellsOf
 rw[gM 38]
 simp only[ak,fR hy]
theorem kA {b g fz:Nat} {e:Option Nat} {ys:List CV} {h:Heap} {len:Nat} (hb:h[b]? = some (.cells g (cellsOf ys) fz)) (hy:∀ x ∈ ys,Elem e x) (hlen:len=ys.length) (cap:Option Nat) :
  frz 39 (.slice b g 0 len e cap) h=some (.slice ys,bump b (len*ae e) h):=by
 subst hlen
 have h3:=cU hy
 rw[yo,hb]
 simp only[Nat.zero_add,List.drop_zero]
 rw[if_pos ⟨trivial,by omega⟩]
 have:(cellsOf ys).take (ys.length*ae e)=cellsOf ys:=by rw[← h3]; exact List.take_length
 rw[this]
 unfold cellsOf
 rw[gM 37]
 simp only[ak,fR hy]
theorem lU {b g fz:Nat} {e:Option Nat} {ys:List CV} {h:Heap} {len:Nat} (hb:h[b]? = some (.cells g (cellsOf ys) fz)) (hy:∀ x ∈ ys,Elem e x) (hlen:len=ys.length) (cap:Option Nat) (v:CV) :
  dR (some (mkTuple [.slice b g 0 len e cap,.c v])) h=some (.tuple [.slice ys,v]):=by
 have h1:mkTuple [.slice b g 0 len e cap,.c v]=.tuple [.slice b g 0 len e cap,.c v]:=rfl
 unfold dR
 rw[ak,h1,mY]
 simp only[bh,kA hb hy hlen cap,ak,io]
 rfl
theorem iV {b g fz:Nat} {e:Option Nat} {ys:List CV} {h:Heap} {len:Nat} (hb:h[b]? = some (.cells g (cellsOf ys) fz)) (hy:∀ x ∈ ys,Elem e x) (hlen:len=ys.length) (cap:Option Nat) :
  dR (some (.slice b g 0 len e cap)) h=some (.slice ys):=by
 unfold dR
 rw[ak,lz hb hy hlen cap,ak]
@[simp] theorem Zs {b g fz:Nat} {e:Option Nat} {h:Heap} (cap:Option Nat) (v:CV) (hb:h[b]? = some (.cells g [] fz)):dR (some (mkTuple [.slice b g 0 0 e cap,.c v])) h=some (.tuple [.slice [],v]):=lU (ys:=[]) hb (by simp) rfl cap v
@[simp] theorem Zm {b g fz:Nat} {e:Option Nat} {h:Heap} (cap:Option Nat) (hb:h[b]? = some (.cells g [] fz)):dR (some (.slice b g 0 0 e cap)) h=some (.slice []):=iV (ys:=[]) hb (by simp) rfl cap
end LM
namespace LM
open Go Go.RowKit
variable {P:Program} {H:Hints}
open Classical in
noncomputable def iY (Q:Nat→Option LFunc) (f:Nat) (args:List CV):Option CV :=
 if h:∃ v,∃ n,pcall Q n f args=some v then some (Classical.choose h) else none
theorem Dl {Q:Nat→Option LFunc} {f n:Nat} {args:List CV} {v:CV} (h:pcall Q n f args=some v):iY Q f args=some v:=by
 unfold iY
 have hx:∃ v,∃ n,pcall Q n f args=some v:=⟨v,n,h⟩
 rw[dif_pos hx]
 obtain⟨m,hm⟩:=Classical.choose_spec hx
 have h1:=pn (fun _ _ h=>h) (Nat.le_max_left n m) h
 have h2:=pn (fun _ _ h=>h) (Nat.le_max_right n m) hm
 rw[h1] at h2
 exact h2.symm
theorem re {Q:Nat→Option LFunc} (hP:ProgOk P H Q) {f:Nat} (he:Enters P f):PrimOk P f (iY Q f) :=
 ⟨he,fun _ _ _ v _ hF ha hg=>by
  unfold iY at hg
  split at hg
  ·rename_i hx
   obtain⟨m,hm⟩:=Classical.choose_spec hx
   simp only[Option.some.injEq] at hg
   rw[hg] at hm
   exact kV hP hF ha hm
  ·cases hg⟩
theorem Am {L:List (Nat × LFunc)} {S:List (Nat × SFunc)} (h:∀ f x,lookupPrim f L=some x→lookupPrim f S=none):PLe (progL (lookupPrim · S)) (j9 L S):=by
 intro f F hf
 unfold j9
 cases hl:lookupPrim f L with
 | none=>exact hf
 | some x=>simp only[progL,h f x hl] at hf; cases hf
theorem Td {L:List (Nat × LFunc)} {S:List (Nat × SFunc)} (hr:b5 (lookupPrim · S)) (h:∀ f x,lookupPrim f L=some x→lookupPrim f S=none) {f:Nat} {args:List CV} {v:CV} (hf:fn (lookupPrim · S) f args=some v):∃ n,pcall (j9 L S) n f args=some v:=by
 obtain⟨n,hn⟩:=fn_pcall hr hf
 exact⟨n,pn (Am h) (Nat.le_refl n) hn⟩
theorem vp (ps:List (Nat × (List CV→Option CV))):freshOf { H with prims:=ps }=freshOf H:=rfl
theorem oA (ps:List (Nat × (List CV→Option CV))) (R:List Nat) (ops:List Oper):∀ (l:List LOper) (k:Nat),place { H with prims:=ps } R ops k l=place H R ops k l
 | [],k=>rfl
 | o::r,k=>by simp only[place,oA ps R ops r,vp]; rfl
theorem BJ (ps:List (Nat × (List CV→Option CV))) (fid:Nat) (b:Bool) (ops:List Oper):eA P { H with prims:=ps } fid b ops=eA P H fid b ops:=rfl
theorem tR (ps:List (Nat × (List CV→Option CV))) (ops:Array Oper) (l:List LOper):eD { H with prims:=ps } ops l=eD H ops l:=rfl
theorem cz (ps:List (Nat × (List CV→Option CV))) (fid:Nat):∀ c:Code,aM P { H with prims:=ps } fid c=aM P H fid c
 | .skip=>rfl
 | .label _=>rfl
 | .ret=>rfl
 | .exit id=>rfl
 | .seq a b=>by simp only[aM,cz ps fid a,cz ps fid b]
 | .cond c a b=>by simp only[aM,cz ps fid a,cz ps fid b]
 | .block id a=>by simp only[aM,cz ps fid a]
 | .loop a=>by simp only[aM,cz ps fid a]
 | .region _ ops draw=>by simp only[aM,oA,BJ,tR]; rfl
 | .rangeFunc g ps' a b=>by simp only[aM,cz ps fid a,cz ps fid b]
 | .scope a=>by simp only[aM,cz ps fid a]
 | .goto _=>rfl
 | .refuse _=>rfl
theorem B7 {ps:List (Nat × (List CV→Option CV))} {f:Nat} (h:lookupPrim f ps=none) (h0:lookupPrim f H.prims=none):cFunc P { H with prims:=ps } f=cFunc P H f:=by
 unfold cFunc
 simp only[h,h0,cz]
 rfl
theorem JX {ps:List (Nat × (List CV→Option CV))} {f:Nat} {F:SFunc} (h:cFunc P H f=aa F∧(aa F).isSome=true) (h1:lookupPrim f ps=none) (h0:lookupPrim f H.prims=none):cFunc P { H with prims:=ps } f=aa F∧(aa F).isSome=true :=
 ⟨(B7 h1 h0).trans h.1,h.2⟩
theorem G4 {f:Nat} {F:SFunc} (h:cFunc P H f=aa F∧(aa F).isSome=true) (h1:lookupPrim f H.prims=none) (h2:lookupPrim f H.fprims=none):Enters P f:=by
 obtain⟨lf,hl⟩:=Option.isSome_iff_exists.1 h.2
 rcases cu (h.1.trans hl) with ⟨g',_,e⟩ | ⟨k,g',_,e⟩ | ⟨fn,c,rs',_,_,_,_,he⟩
 ·rw[h1] at e; cases e
 ·rw[h2] at e; cases e
 ·exact he
theorem TabOk.filter (p:Nat × SFunc→Bool):∀ {l:List (Nat × SFunc)},TabOk P H l→TabOk P H (l.filter p)
 | [],_=>trivial
 | x::r,h=>by
  rw[List.filter_cons]
  split
  ·exact⟨h.1,h.2.filter p⟩
  ·exact h.2.filter p
theorem TabOk.prims {ps:List (Nat × (List CV→Option CV))} (h0:H.prims=[]):∀ {l:List (Nat × SFunc)},TabOk P H l→(l.all fun x=>(lookupPrim x.1 ps).isNone)=true→TabOk P { H with prims:=ps } l
 | [],_,_=>trivial
 | (f,F)::r,h,hn=>by
  simp only[List.all_cons,Bool.and_eq_true] at hn
  exact⟨JX h.1 (Option.isNone_iff_eq_none.1 hn.1) (by rw[h0]; rfl),h.2.prims h0 hn.2⟩
end LM
namespace LM
structure Swo {α:Type} (lt:α→α→Bool):Prop where
 asym:∀ x y,lt x y=true→lt y x=false
 split:∀ x y z,lt x z=true→lt x y=true∨lt y z=true
section
variable {α:Type} {lt:α→α→Bool}
theorem Swo.lel (h:Swo lt) {x y z:α} (a:lt y x=false) (b:lt y z=true):lt x z=true:=by
 rcases h.split y x z b with q | q
 ·rw[a] at q; cases q
 ·exact q
theorem Swo.lele (h:Swo lt) {x y z:α} (a:lt y x=false) (b:lt z y=false):lt z x=false:=by
 cases q:lt z x
 ·rfl
 ·rcases h.split z y x q with p | p
  ·rw[b] at p; cases p
  ·rw[a] at p; cases p
theorem Swo.irr (h:Swo lt) (x:α):lt x x=false:=by
 cases q:lt x x
 ·rfl
 ·have:=h.asym x x q
  rw[q] at this
  exact this
def cZ (lt:α→α→Bool) (x:α):List α→List α→List α
 | [],Q=>x::Q
 | y::L,Q=>if lt x y then cZ lt x L (y::Q) else L.reverse++y::x::Q
theorem oL (x:α):∀ (L Q R:List α),cZ lt x L (Q++R)=cZ lt x L Q++R
 | [],Q,R=>rfl
 | y::L,Q,R=>by
  simp only[cZ]
  split
  ·exact oL x L (y::Q) R
  ·simp
theorem oK (x:α):∀ (L Q:List α),(cZ lt x L Q).length=L.length+Q.length+1
 | [],Q=>by simp[cZ]
 | y::L,Q=>by
  simp only[cZ]
  split
  ·rw[oK x L (y::Q)]; simp; omega
  ·simp; omega
theorem uW (x:α):∀ (L Q:List α),(cZ lt x L Q).Perm (x::(L.reverse++Q))
 | [],Q=>by simp[cZ]
 | y::L,Q=>by
  simp only[cZ]
  split
  ·refine (uW x L (y::Q)).trans ?_
   simp
  ·have:(y::L).reverse++Q=L.reverse++y::Q:=by simp
   rw[this]
   have h2:L.reverse++y::x::Q=(L.reverse++[y])++x::Q:=by simp
   have h3:x::(L.reverse++y::Q)=x::((L.reverse++[y])++Q):=by simp
   rw[h2,h3]
   exact List.perm_middle
def ee (lt:α→α→Bool) (x:α) (S:List α):List α:=cZ lt x S.reverse []
theorem iJ (x:α) (S:List α):(ee lt x S).length=S.length+1:=by
 unfold ee
 rw[oK]
 simp
theorem Le (x:α) (S:List α):(ee lt x S).Perm (x::S):=by
 have:=uW (lt:=lt) x S.reverse []
 simpa[ee] using this
def aR (lt:α→α→Bool):List α→List α→List α
 | S,[]=>S
 | S,x::U=>aR lt (ee lt x S) U
theorem mW:∀ (S U:List α),(aR lt S U).length=S.length+U.length
 | S,[]=>rfl
 | S,x::U=>by rw[aR,mW,iJ]; simp; omega
theorem gT:∀ (S U:List α),(aR lt S U).Perm (S++U)
 | S,[]=>by simp[aR]
 | S,x::U=>by
  rw[aR]
  refine (gT (ee lt x S) U).trans ?_
  refine ((Le x S).append_right U).trans ?_
  exact List.perm_middle.symm
def Srt (lt:α→α→Bool) (l:List α):Prop:=l.Pairwise fun x y=>lt y x=false
theorem rd (h:Swo lt) (x:α) {S:List α} (hs:Srt lt S):∃ A B,S=A++B∧ee lt x S=A++x::B∧(∀ y ∈ A,lt x y=false)∧∀ y ∈ B,lt x y=true:=by
 have key:∀ (L Q:List α),Srt lt (L.reverse++Q)→(∀ y ∈ Q,lt x y=true)→∃ A B,L.reverse++Q=A++B∧cZ lt x L Q=A++x::B∧(∀ y ∈ A,lt x y=false)∧∀ y ∈ B,lt x y=true:=by
  intro L
  induction L with
  | nil=>intro Q _ hq; exact⟨[],Q,by simp,by simp[cZ],by simp,hq⟩
  | cons y L ih =>
   intro Q hsrt hq
   simp only[cZ]
   cases q:lt x y
   ·refine⟨L.reverse++[y],Q,by simp,by simp,?_,hq⟩
    intro z hz
    rcases List.mem_append.1 hz with hz | hz
    ·have h1:lt y z=false:=by
      unfold Srt at hsrt
      simp only[List.reverse_cons,List.append_assoc,List.singleton_append] at hsrt
      exact (List.pairwise_append.1 hsrt).2.2 z hz y (by simp)
     exact h.lele h1 q
    ·simp at hz
     subst hz
     exact q
   ·simp only[if_true]
    obtain⟨A,B,e1,e2,e3,e4⟩:=ih (y::Q) (by simpa using hsrt) (by
     intro z hz
     rcases List.mem_cons.1 hz with rfl | hz
     ·exact q
     ·exact hq z hz)
    exact⟨A,B,by rw[← e1]; simp,e2,e3,e4⟩
 obtain⟨A,B,e1,e2,e3,e4⟩:=key S.reverse [] (by simpa using hs) (by simp)
 exact⟨A,B,by simpa using e1,e2,e3,e4⟩
theorem tY {x:α} {A B:List α} (ha:∀ y ∈ A,lt x y=false) (hb:∀ y ∈ B,lt x y=true):ee lt x (A++B)=A++x::B:=by
 have key:∀ (L Q:List α),(∀ y ∈ L,lt x y=true)→cZ lt x (L++A.reverse) Q=A++x::(L.reverse++Q):=by
  intro L
  induction L with
  | nil =>
   intro Q _
   cases hA:A.reverse with
   | nil =>
    have:A=[]:=by simpa using hA
    subst this
    simp[cZ]
   | cons y r =>
    have e:A=r.reverse++[y]:=by rw[← List.reverse_reverse A,hA]; simp
    have:=ha y (by rw[e]; simp)
    simp[cZ,this,e]
  | cons y L ih =>
   intro Q hL
   simp only[List.cons_append,cZ,hL y (by simp),if_true]
   rw[ih (y::Q) (fun z hz=>hL z (by simp[hz]))]
   simp
 unfold ee
 rw[List.reverse_append]
 have:=key B.reverse [] (fun y hy=>hb y (by simpa using hy))
 simpa using this
theorem xb (h:Swo lt) (x:α) {S:List α} (hs:Srt lt S):Srt lt (ee lt x S):=by
 obtain⟨A,B,rfl,e2,e3,e4⟩:=rd h x hs
 rw[e2]
 unfold Srt at hs ⊢
 obtain⟨p1,p2,p3⟩:=List.pairwise_append.1 hs
 refine List.pairwise_append.2 ⟨p1,List.pairwise_cons.2 ⟨fun y hy=>h.asym _ _ (e4 y hy),p2⟩,?_⟩
 intro a ha b hb
 rcases List.mem_cons.1 hb with rfl | hb
 ·exact e3 a ha
 ·exact p3 a ha b hb
theorem mJ (h:Swo lt):∀ (S U:List α),Srt lt S→Srt lt (aR lt S U)
 | S,[],hs=>hs
 | S,x::U,hs=>mJ h _ U (xb h x hs)
def mrg (lt:α→α→Bool) (U V:List α):List α:=List.merge U V fun u v=>!lt v u
@[simp] theorem S3 (V:List α):mrg lt [] V=V:=by simp[mrg]
@[simp] theorem Sf (U:List α):mrg lt U []=U:=by simp[mrg]
theorem yV {β:Type} {lt' : β→β→Bool} (g:α→β) (hg:∀ x y,lt' (g x) (g y)=lt x y) (x:α):∀ L Q:List α,cZ lt' (g x) (L.map g) (Q.map g)=(cZ lt x L Q).map g
 | [],Q=>by simp[cZ]
 | y::L,Q=>by
  simp only[List.map_cons,cZ,hg]
  split
  ·exact yV g hg x L (y::Q)
  ·simp
theorem mT {β:Type} {lt' : β→β→Bool} (g:α→β) (hg:∀ x y,lt' (g x) (g y)=lt x y):∀ S U:List α,aR lt' (S.map g) (U.map g)=(aR lt S U).map g
 | S,[]=>rfl
 | S,x::U=>by
  have e:ee lt' (g x) (S.map g)=(ee lt x S).map g:=by
   have:=yV g hg x S.reverse []
   simpa[ee] using this
  rw[List.map_cons,aR,aR,e]
  exact mT g hg _ U
end
open Go
theorem ax (h:Heap):ah [] h=some ([],h):=by rw[ah]
theorem bA (v:CV) (l:List LV) (h:Heap):ah (.c v::l) h=bnd (ah l h) fun a=>some (.c v::a.1,a.2):=by
 rw[ah]
 rcases ah l h with _ | ⟨x,y⟩<;>rfl
 all_goals simp
theorem cw (b g o n:Nat) (e c:Option Nat) (l:List LV) (h:Heap):ah (.slice b g o n e c::l) h=bnd (ah l h) fun a=>some (.slice b g o n e c::a.1,a.2):=by
 rw[ah]
 rcases ah l h with _ | ⟨x,y⟩<;>rfl
 all_goals simp
theorem iZ (f:Nat) (a b:List LV) (l:List LV) (h:Heap):ah (.func f a b::l) h=bnd (frz ay (.func f a b) h) fun y=>bnd (ah l y.2) fun z=>some (.c y.1::z.1,z.2):=by
 rw[ah]
 rcases frz ay (.func f a b) h with _ | ⟨x,y⟩
 ·rfl
 ·rcases h2:ah l y with _ | ⟨z,w⟩<;>simp[bnd,h2]
end LM
namespace LM
open Go
section
variable {Q:Nat→Option LFunc} {r:Run} {ri:jD} {yh:dG}
@[simp] theorem aeO (s:St):exec Q r ri .skip s=some (.normal,s):=_root_.id rfl
@[simp] theorem IY (s:St):exec Q r ri .ret s=some (.ret,s):=_root_.id rfl
@[simp] theorem ad9 (id:Nat) (s:St):exec Q r ri (.exit id) s=some (.exit id,s):=_root_.id rfl
@[simp] theorem KR (a b:LCode) (s:St):exec Q r ri (.seq a b) s=eG (exec Q r ri a s) (exec Q r ri b):=by
 simp only[exec]
 unfold eG
 rcases exec Q r ri a s with _ | ⟨e,s'⟩
 ·rfl
 ·cases e<;>rfl
@[simp] theorem adX (c:LO) (a b:LCode) (s:St):exec Q r ri (.cond c a b) s=kh (ev s.tmps c) (exec Q r ri a) (exec Q r ri b) s:=by
 simp only[exec]
 unfold kh
 cases ev s.tmps c with
 | c v=>cases v<;>first | rfl | (rename_i t; cases t<;>rfl)
 | _=>rfl
@[simp] theorem Og (id:Nat) (a:LCode) (s:St):exec Q r ri (.block id a) s=d9 id (exec Q r ri a s):=by
 simp only[exec]
 unfold d9
 rcases exec Q r ri a s with _ | ⟨e,s'⟩
 ·rfl
 ·cases e<;>rfl
def ol (x:Option St):Option (Ex × St):=bnd x fun s=>some (.normal,s)
@[simp] theorem Yg (s:St):ol (some s)=some (.normal,s):=_root_.id rfl
@[simp] theorem YC:ol none=none:=_root_.id rfl
@[simp] theorem ZG (ops:List LOper) (s:St):exec Q r ri (.region ops) s=ol (au Q r 0 ops s):=by
 simp only[exec]
 unfold ol
 cases au Q r 0 ops s<;>rfl
@[simp] theorem aes (k:Nat) (ops:List LOper) (s:St):exec Q r ri (.draw k ops) s=ol (au Q r s.heap.length ops ⟨s.tmps,s.heap++List.replicate k .dead⟩):=by
 simp only[exec]
 unfold ol
 cases au Q r s.heap.length ops ⟨s.tmps,s.heap++List.replicate k .dead⟩<;>rfl
def vO (Q:Nat→Option LFunc) (r:Run) (base:Nat) (os:List LOper) (x:Option St):Option St:=bnd x fun s=>au Q r base os s
@[simp] theorem YW (base:Nat) (os:List LOper) (s:St):vO Q r base os (some s)=au Q r base os s:=_root_.id rfl
@[simp] theorem YN (base:Nat) (os:List LOper):vO Q r base os none=none:=_root_.id rfl
@[simp] theorem afS (base:Nat) (s:St):au Q r base [] s=some s:=_root_.id rfl
@[simp] theorem aeG (base:Nat) (o:LOper) (os:List LOper) (s:St):au Q r base (o::os) s=vO Q r base os (aY Q r base o s):=by
 simp only[au]
 unfold vO
 cases aY Q r base o s<;>rfl
def k9 (v:LV) (b:Bool) (f:St→Option St) (d:Option Nat) (s:St):Option St :=
 match v with
 | .c (.bool b')=>if b' == b then f s else some ⟨put s.tmps d (.c (.tuple [])),s.heap⟩
 | .c (.tuple [])=>some ⟨put s.tmps d (.c (.tuple [])),s.heap⟩
 | _=>none
@[simp] theorem Xz (f:St→Option St) (d:Option Nat) (s:St):k9 (.c (.bool true)) true f d s=f s:=_root_.id rfl
@[simp] theorem UB (f:St→Option St) (d:Option Nat) (s:St):k9 (.c (.bool false)) false f d s=f s:=_root_.id rfl
@[simp] theorem Zy (f:St→Option St) (d:Option Nat) (s:St):k9 (.c (.bool true)) false f d s=some ⟨put s.tmps d (.c (.tuple [])),s.heap⟩:=_root_.id rfl
@[simp] theorem ZT (f:St→Option St) (d:Option Nat) (s:St):k9 (.c (.bool false)) true f d s=some ⟨put s.tmps d (.c (.tuple [])),s.heap⟩:=_root_.id rfl
@[simp] theorem adt (base:Nat) (d:Option Nat) (op:LOp) (sl:Option Nat) (wh:Where) (s:St):aY Q r base (.mk d op none sl wh) s=bu Q r base (.mk d op none sl wh) s:=_root_.id rfl
@[simp] theorem aal (base:Nat) (d:Option Nat) (op:LOp) (t:Nat) (b:Bool) (sl:Option Nat) (wh:Where) (s:St):aY Q r base (.mk d op (some (t,b)) sl wh) s=k9 (ev s.tmps (.t t)) b (bu Q r base (.mk d op (some (t,b)) sl wh)) d s:=by
 simp only[aY,ev]
 unfold k9
 split<;>simp_all
def nL (d:Option Nat) (ts:List LV) (x:R):Option St:=bnd x fun v=>some ⟨put ts d v.1,v.2⟩
@[simp] theorem Gv (d:Option Nat) (ts:List LV) (v:LV) (h:Heap):nL d ts (some (v,h))=some ⟨put ts d v,h⟩:=_root_.id rfl
@[simp] theorem Gt (d:Option Nat) (ts:List LV):nL d ts none=none:=_root_.id rfl
@[simp] theorem JN (base:Nat) (d:Option Nat) (op:LOp) (g:Option (Nat × Bool)) (s:St):bu Q r base (.mk d op g none .any) s=nL d s.tmps (step Q r none s.tmps s.heap op):=by
 simp only[bu,oN,de,Bool.and_self,if_true,Option.map_none]
 unfold nL
 cases step Q r none s.tmps s.heap op<;>rfl
theorem Es (base:Nat) (d:Option Nat) (op:LOp) (g:Option (Nat × Bool)) (sl:Option Nat) (wh:Where) (s:St):bu Q r base (.mk d op g sl wh) s=if aX base wh s.tmps op && de base sl s.heap then nL d s.tmps (step Q r (sl.map (base+·)) s.tmps s.heap op) else none:=by
 simp only[bu]
 split
 ·unfold nL
  cases step Q r (sl.map (base+·)) s.tmps s.heap op<;>rfl
 ·rfl
@[simp] theorem OF (ts:List LV) (d:Nat) (v:LV):put ts (some d) v=ts.set d v:=_root_.id rfl
@[simp] theorem M0 (ts:List LV) (v:LV):put ts none v=ts:=_root_.id rfl
@[simp] theorem Yz (pos:Option Nat) (ts:List LV) (h:Heap) (q:Bool) (f:LO) (args:List LO):step Q r pos ts h (.call q f args)=bnd (da (ev ts f)) fun g=>bD Q r pos q g.1 (g.2.1++args.map (ev ts)++g.2.2) h:=by
 simp only[step]
 rcases da (ev ts f) with _ | ⟨g,a,b⟩<;>rfl
theorem GT {n f nt:Nat} {rs:List LRes} {b:LCode} (hf:Q f=some (.code .pure nt rs b)) (args:List CV):pcall Q (n+1) f args=kG rs (exec Q (runs Q n).1 (runs Q n).2 b ⟨pad nt (args.map .c),[]⟩):=by
 simp only[pcall,hf,run,cT,runs]
 rcases exec Q (runs Q n).1 (runs Q n).2 b ⟨pad nt (args.map .c),[]⟩ with _ | ⟨ex,s⟩
 ·rfl
 ·cases ex with
  | exit id=>rfl
  | normal =>
   simp only[B5]
   unfold dR
   cases aK s rs with
   | none=>rfl
   | some v=>simp only[ak]; cases frz ay v s.heap<;>rfl
  | ret =>
   simp only[AJ]
   unfold dR
   cases aK s rs with
   | none=>rfl
   | some v=>simp only[ak]; cases frz ay v s.heap<;>rfl
abbrev R3:=Option (Ex × St × Option Ex)
def pk (x:R3) (k:St→Option Ex→R3):R3 :=
 match x with
 | some (.normal,s,p)=>k s p
 | x=>x
@[simp] theorem oF (s:St) (p:Option Ex) (k:St→Option Ex→R3):pk (some (.normal,s,p)) k=k s p:=_root_.id rfl
@[simp] theorem acS (s:St) (p:Option Ex) (k:St→Option Ex→R3):pk (some (.ret,s,p)) k=some (.ret,s,p):=_root_.id rfl
@[simp] theorem ZJ (id:Nat) (s:St) (p:Option Ex) (k:St→Option Ex→R3):pk (some (.exit id,s,p)) k=some (.exit id,s,p):=_root_.id rfl
def nC (id:Nat) (x:R3):R3 :=
 match x with
 | some (.exit id',s,p)=>if id'=id then some (.normal,s,p) else some (.exit id',s,p)
 | x=>x
@[simp] theorem Sc (id:Nat) (s:St) (p:Option Ex):nC id (some (.normal,s,p))=some (.normal,s,p):=_root_.id rfl
@[simp] theorem YO (id:Nat) (s:St) (p:Option Ex):nC id (some (.ret,s,p))=some (.ret,s,p):=_root_.id rfl
@[simp] theorem XP (id id' : Nat) (s:St) (p:Option Ex):nC id (some (.exit id',s,p))=if id'=id then some (.normal,s,p) else some (.exit id',s,p):=_root_.id rfl
def nE (v:LV) (f g:St→Option Ex→R3) (s:St) (p:Option Ex):R3 :=
 match v with
 | .c (.bool b)=>if b then f s p else g s p
 | _=>none
@[simp] theorem Xu (f g:St→Option Ex→R3) (s:St) (p:Option Ex):nE (.c (.bool true)) f g s p=f s p:=_root_.id rfl
@[simp] theorem Xc (f g:St→Option Ex→R3) (s:St) (p:Option Ex):nE (.c (.bool false)) f g s p=g s p:=_root_.id rfl
@[simp] theorem Yb (b:Bool) (f g:St→Option Ex→R3) (s:St) (p:Option Ex):nE (.c (.bool b)) f g s p=if b then f s p else g s p:=_root_.id rfl
def Nz (x:Option (St × Option Ex)):R3:=bnd x fun y=>some (.normal,y.1,y.2)
@[simp] theorem ZK (s:St) (p:Option Ex):Nz (some (s,p))=some (.normal,s,p):=_root_.id rfl
def Nu (Q:Nat→Option LFunc) (r:Run) (yh:dG) (os:List LOper) (x:Option (St × Option Ex)):Option (St × Option Ex):=bnd x fun y=>dn Q r yh os y.1 y.2
@[simp] theorem Z0 (os:List LOper) (s:St) (p:Option Ex):Nu Q r yh os (some (s,p))=dn Q r yh os s p:=_root_.id rfl
@[simp] theorem Y3 (s:St) (p:Option Ex):dn Q r yh [] s p=some (s,p):=_root_.id rfl
@[simp] theorem Ya (o:LOper) (os:List LOper) (s:St) (p:Option Ex):dn Q r yh (o::os) s p=Nu Q r yh os (fv Q r yh o s p):=by
 simp only[dn]
 unfold Nu
 rcases fv Q r yh o s p with _ | ⟨s',p'⟩<;>rfl
@[simp] theorem adS (s:St) (p:Option Ex):aJ Q r ri yh .skip s p=some (.normal,s,p):=_root_.id rfl
@[simp] theorem afD (s:St) (p:Option Ex):aJ Q r ri yh .ret s p=some (.ret,s,p):=_root_.id rfl
@[simp] theorem aeQ (id:Nat) (s:St) (p:Option Ex):aJ Q r ri yh (.exit id) s p=some (.exit id,s,p):=_root_.id rfl
@[simp] theorem afT (a b:LCode) (s:St) (p:Option Ex):aJ Q r ri yh (.seq a b) s p=pk (aJ Q r ri yh a s p) (aJ Q r ri yh b):=by
 simp only[aJ]
 unfold pk
 rcases aJ Q r ri yh a s p with _ | ⟨e,s',p'⟩
 ·rfl
 ·cases e<;>rfl
@[simp] theorem aeR (c:LO) (a b:LCode) (s:St) (p:Option Ex):aJ Q r ri yh (.cond c a b) s p=nE (ev s.tmps c) (aJ Q r ri yh a) (aJ Q r ri yh b) s p:=by
 simp only[aJ]
 unfold nE
 cases ev s.tmps c with
 | c v=>cases v<;>first | rfl | (rename_i t; cases t<;>rfl)
 | _=>rfl
@[simp] theorem aag (id:Nat) (a:LCode) (s:St) (p:Option Ex):aJ Q r ri yh (.block id a) s p=nC id (aJ Q r ri yh a s p):=by
 simp only[aJ]
 unfold nC
 rcases aJ Q r ri yh a s p with _ | ⟨e,s',p'⟩
 ·rfl
 ·cases e<;>rfl
@[simp] theorem ZH (ops:List LOper) (s:St) (p:Option Ex):aJ Q r ri yh (.region ops) s p=Nz (dn Q r yh ops s p):=by
 simp only[aJ]
 unfold Nz
 rcases dn Q r yh ops s p with _ | ⟨s',p'⟩<;>rfl
theorem sT (g:Bool) (a:LCode) (s:St) (p:Option Ex):aJ Q r ri yh (.loop g a) s p=pk (aJ Q r ri yh a s p) fun s' p'=>ri yh (.loop g a) (if g then gc s.heap.length s' else s') p':=by
 simp only[aJ]
 unfold pk
 rcases aJ Q r ri yh a s p with _ | ⟨e,s',p'⟩
 ·rfl
 ·cases e<;>rfl
def lB (v:LV) (b:Bool) (f:St→Option Ex→Option (St × Option Ex)) (d:Option Nat) (s:St) (p:Option Ex):Option (St × Option Ex) :=
 match v with
 | .c (.bool b')=>if b' == b then f s p else some (⟨put s.tmps d (.c (.tuple [])),s.heap⟩,p)
 | .c (.tuple [])=>some (⟨put s.tmps d (.c (.tuple [])),s.heap⟩,p)
 | _=>none
@[simp] theorem XD (f:St→Option Ex→Option (St × Option Ex)) (d:Option Nat) (s:St) (p:Option Ex):lB (.c (.bool true)) true f d s p=f s p:=_root_.id rfl
@[simp] theorem SR (f:St→Option Ex→Option (St × Option Ex)) (d:Option Nat) (s:St) (p:Option Ex):lB (.c (.bool false)) false f d s p=f s p:=_root_.id rfl
@[simp] theorem ZE (f:St→Option Ex→Option (St × Option Ex)) (d:Option Nat) (s:St) (p:Option Ex):lB (.c (.bool true)) false f d s p=some (⟨put s.tmps d (.c (.tuple [])),s.heap⟩,p):=_root_.id rfl
@[simp] theorem ZN (f:St→Option Ex→Option (St × Option Ex)) (d:Option Nat) (s:St) (p:Option Ex):lB (.c (.bool false)) true f d s p=some (⟨put s.tmps d (.c (.tuple [])),s.heap⟩,p):=_root_.id rfl
@[simp] theorem abc (d:Option Nat) (op:LOp) (sl:Option Nat) (wh:Where) (s:St) (p:Option Ex):fv Q r yh (.mk d op none sl wh) s p=opI Q r yh (.mk d op none sl wh) s p:=_root_.id rfl
@[simp] theorem adl (d:Option Nat) (op:LOp) (t:Nat) (b:Bool) (sl:Option Nat) (wh:Where) (s:St) (p:Option Ex):fv Q r yh (.mk d op (some (t,b)) sl wh) s p=lB (ev s.tmps (.t t)) b (opI Q r yh (.mk d op (some (t,b)) sl wh)) d s p:=by
 simp only[fv,ev]
 unfold lB
 split<;>simp_all
@[simp] theorem abr (v:CV):isMark (.c v)=false:=_root_.id rfl
@[simp] theorem XM:isMark (.tuple [])=true:=_root_.id rfl
@[simp] theorem Ts:isMark .undef=false:=_root_.id rfl
@[simp] theorem Ym (b g o:Nat):isMark (.ptr b g o)=false:=_root_.id rfl
@[simp] theorem XE (f:Nat) (a b:List LV):isMark (.func f a b)=false:=_root_.id rfl
@[simp] theorem WZ (b g o n:Nat) (e c:Option Nat):isMark (.slice b g o n e c)=false:=_root_.id rfl
@[simp] theorem YK:isMark .nil=false:=_root_.id rfl
def unm (v:LV):LV:=if isMark v then .undef else v
@[simp] theorem afY (v:CV):unm (.c v)=.c v:=_root_.id rfl
@[simp] theorem aaA:unm (.tuple [])=.undef:=_root_.id rfl
@[simp] theorem ZV:unm .undef=.undef:=_root_.id rfl
@[simp] theorem aeb (b g o:Nat):unm (.ptr b g o)=.ptr b g o:=_root_.id rfl
@[simp] theorem aa8 (f:Nat) (a b:List LV):unm (.func f a b)=.func f a b:=_root_.id rfl
@[simp] theorem Zx (b g o n:Nat) (e c:Option Nat):unm (.slice b g o n e c)=.slice b g o n e c:=_root_.id rfl
@[simp] theorem XR (ts:List LV) (i:Nat):ev (unmark ts) (.t i)=unm (ev ts (.t i)):=by
 simp only[ev,unmark,unm,List.getD_eq_getElem?_getD,List.getElem?_map]
 cases ts[i]?<;>rfl
@[simp] theorem XN (ts:List LV) (v:LV):ev (unmark ts) (.k v)=v:=_root_.id rfl
theorem qo (ts:List LV):(unmark ts).any isMark=false:=by
 rw[List.any_eq_false]
 intro x hx
 unfold unmark at hx
 obtain⟨y,_,rfl⟩:=List.mem_map.1 hx
 by_cases h:isMark y=true
 ·rw[if_pos h]; simp
 ·rw[if_neg h]; exact h
theorem CF {v:LV} (hv:isMark v=false):∀ {ts:List LV} {d:Nat},ts.any isMark=false→(ts.set d v).any isMark=false
 | [],_,_=>rfl
 | x::ts,0,h=>by simp only[List.set_cons_zero,List.any_cons,Bool.or_eq_false_iff] at h ⊢; exact⟨hv,h.2⟩
 | x::ts,d+1,h=>by simp only[List.set_cons_succ,List.any_cons,Bool.or_eq_false_iff] at h ⊢; exact⟨h.1,CF hv h.2⟩
theorem oP:∀ (ts:List LV) (i:Nat),remark [] i ts (unmark ts)=ts
 | [],_=>rfl
 | x::ts,i=>by
  have ih:=oP ts (i+1)
  unfold unmark at ih ⊢
  simp only[List.map_cons,remark,ih]
  by_cases h:isMark x=true
  ·simp[h]
  ·simp[h]
theorem p7 (v:LV):∀ (ts:List LV) (i d:Nat),remark [i+d] i ts ((unmark ts).set d v)=ts.set d v
 | [],_,_=>rfl
 | x::ts,i,0=>by
  have:∀ (ts:List LV) (k:Nat),i<k→remark [i] k ts (unmark ts)=ts:=by
   intro ts
   induction ts with
   | nil=>intro k _; rfl
   | cons y ts ih =>
    intro k hk
    have ih:=ih (k+1) (by omega)
    unfold unmark at ih ⊢
    simp only[List.map_cons,remark,ih]
    by_cases h:isMark y=true
    ·have:¬ k=i:=by omega
     simp[h,this]
    ·simp[h]
  have h2:=this ts (i+1) (by omega)
  unfold unmark at h2 ⊢
  simp only[List.map_cons,List.set_cons_zero,remark,Nat.add_zero,h2]
  simp
 | x::ts,i,d+1=>by
  have ih:=p7 v ts (i+1) d
  have e:i+1+d=i+(d+1):=by omega
  rw[e] at ih
  unfold unmark at ih ⊢
  simp only[List.map_cons,List.set_cons_succ,remark,ih]
  by_cases h:isMark x=true
  ·simp[h]
  ·simp[h]
def plK (Q:Nat→Option LFunc) (r:Run) (o:LOper) (s:St) (p:Option Ex) (x:R):Option (St × Option Ex) :=
 match x with
 | some (v,h)=>if isMark v then dP Q r o s p else some (⟨put s.tmps o.dst v,h⟩,p)
 | none=>none
theorem ml (o:LOper) (s:St) (p:Option Ex) (v:LV) (h:Heap) (hv:isMark v=false):plK Q r o s p (some (v,h))=some (⟨put s.tmps o.dst v,h⟩,p):=by
 unfold plK
 simp[hv]
@[simp] theorem af0 (d:Option Nat) (op:LOp) (g:Option (Nat × Bool)) (sl:Option Nat) (wh:Where) (s:St) (p:Option Ex) (v:CV) (h:Heap):plK Q r (.mk d op g sl wh) s p (some (.c v,h))=some (⟨put s.tmps d (.c v),h⟩,p):=ml _ _ _ _ _ rfl
@[simp] theorem aeL (d:Option Nat) (op:LOp) (g:Option (Nat × Bool)) (sl:Option Nat) (wh:Where) (s:St) (p:Option Ex) (b k o:Nat) (h:Heap):plK Q r (.mk d op g sl wh) s p (some (.ptr b k o,h))=some (⟨put s.tmps d (.ptr b k o),h⟩,p):=ml _ _ _ _ _ rfl
@[simp] theorem Z3 (d:Option Nat) (op:LOp) (g:Option (Nat × Bool)) (sl:Option Nat) (wh:Where) (s:St) (p:Option Ex) (f:Nat) (a b:List LV) (h:Heap):plK Q r (.mk d op g sl wh) s p (some (.func f a b,h))=some (⟨put s.tmps d (.func f a b),h⟩,p):=ml _ _ _ _ _ rfl
@[simp] theorem Zu (d:Option Nat) (op:LOp) (g:Option (Nat × Bool)) (sl:Option Nat) (wh:Where) (s:St) (p:Option Ex) (h:Heap):plK Q r (.mk d op g sl wh) s p (some (.undef,h))=some (⟨put s.tmps d .undef,h⟩,p):=ml _ _ _ _ _ rfl
theorem fh (d:Option Nat) (op:LOp) (g:Option (Nat × Bool)) (s:St) (p:Option Ex):dP Q r (.mk d op g none .any) s p=plK Q r (.mk d op g none .any) s p (step Q r none (unmark s.tmps) s.heap op):=by
 unfold plK
 cases hs:step Q r none (unmark s.tmps) s.heap op with
 | none=>unfold dP; rw[JN]; simp only[hs,Gt]
 | some x =>
  obtain⟨v,h⟩:=x
  simp only
  by_cases hv:isMark v=true
  ·rw[if_pos hv]
  ·rw[if_neg hv]
   have hv' : isMark v=false:=by cases h:isMark v; rfl; exact absurd h hv
   unfold dP
   rw[JN]
   simp only[hs,Gv]
   cases d with
   | none =>
    simp only[M0,qo,Bool.false_eq_true,if_false,kU]
    rw[oP]
   | some d =>
    simp only[OF,CF hv' (qo _),Bool.false_eq_true,if_false,kU]
    have:=p7 v s.tmps 0 d
    rw[Nat.zero_add] at this
    rw[this]
def mr (Q:Nat→Option LFunc) (r:Run) (d:Option Nat) (g:Option (Nat × Bool)) (x:LO) (s:St) (p:Option Ex) (v:LV):Option (St × Option Ex) :=
 if isMark v then some (⟨put s.tmps d v,s.heap⟩,p) else dP Q r (.mk d (.move x) g none .any) s p
@[simp] theorem Yo (d:Option Nat) (g:Option (Nat × Bool)) (x:LO) (s:St) (p:Option Ex):mr Q r d g x s p (.tuple [])=some (⟨put s.tmps d (.tuple []),s.heap⟩,p):=_root_.id rfl
@[simp] theorem adM (d:Option Nat) (g:Option (Nat × Bool)) (x:LO) (s:St) (p:Option Ex) (v:CV):mr Q r d g x s p (.c v)=plK Q r (.mk d (.move x) g none .any) s p (step Q r none (unmark s.tmps) s.heap (.move x)):=by
 unfold mr
 rw[if_neg (by simp)]
 exact fh _ _ _ _ _
@[simp] theorem ZO (d:Option Nat) (g:Option (Nat × Bool)) (x:LO) (s:St) (p:Option Ex) (b k o:Nat):mr Q r d g x s p (.ptr b k o)=plK Q r (.mk d (.move x) g none .any) s p (step Q r none (unmark s.tmps) s.heap (.move x)):=by
 unfold mr
 rw[if_neg (by simp)]
 exact fh _ _ _ _ _
@[simp] theorem ae3 (d:Option Nat) (g:Option (Nat × Bool)) (x:LO) (s:St) (p:Option Ex):opI Q r yh (.mk d (.move x) g none .any) s p=mr Q r d g x s p (ev s.tmps x):=by
 unfold opI mr
 rfl
def rn (d:Option Nat) (ts:List LV) (x:Option (Heap × Option Ex)):Option (St × Option Ex):=bnd x fun y=>some (⟨put ts d (.c (.bool y.2.isNone)),y.1⟩,y.2)
@[simp] theorem XG (d:Option Nat) (ts:List LV) (h:Heap) (j:Option Ex):rn d ts (some (h,j))=some (⟨put ts d (.c (.bool j.isNone)),h⟩,j):=_root_.id rfl
def rt (Q:Nat→Option LFunc) (r:Run) (yh:dG) (d:Option Nat) (g:Option (Nat × Bool)) (q:Bool) (f:LO) (args:List LO) (s:St) (p:Option Ex) (v:LV):Option (St × Option Ex) :=
 if isMark v then (if p.isNone && !(args.map (ev s.tmps)).any isMark then rn d s.tmps (yh (args.map (ev s.tmps)) s.heap) else none) else dP Q r (.mk d (.call q f args) g none .any) s p
@[simp] theorem Y4 (d:Option Nat) (g:Option (Nat × Bool)) (q:Bool) (f:LO) (args:List LO) (s:St) (p:Option Ex):rt Q r yh d g q f args s p (.tuple [])=if p.isNone && !(args.map (ev s.tmps)).any isMark then rn d s.tmps (yh (args.map (ev s.tmps)) s.heap) else none:=_root_.id rfl
@[simp] theorem aec (d:Option Nat) (g:Option (Nat × Bool)) (q:Bool) (f:LO) (args:List LO) (s:St) (p:Option Ex) (v:CV):rt Q r yh d g q f args s p (.c v)=plK Q r (.mk d (.call q f args) g none .any) s p (step Q r none (unmark s.tmps) s.heap (.call q f args)):=by
 unfold rt
 rw[if_neg (by simp)]
 exact fh _ _ _ _ _
@[simp] theorem ad3 (d:Option Nat) (g:Option (Nat × Bool)) (q:Bool) (f:LO) (args:List LO) (s:St) (p:Option Ex):opI Q r yh (.mk d (.call q f args) g none .any) s p=rt Q r yh d g q f args s p (ev s.tmps f):=by
 unfold opI rt rn
 simp only
 split
 ·split
  ·rcases yh (args.map (ev s.tmps)) s.heap with _ | ⟨h',j⟩<;>rfl
  ·rfl
 ·rfl
def lh (ts:List LV) (x:R3):Option (Ex × St) :=
 match x with
 | some (.exit _,_,_)=>none
 | some (_,s3,none)=>some (.normal,⟨ts,s3.heap⟩)
 | some (_,s3,some e)=>some (e,⟨ts,s3.heap⟩)
 | none=>none
@[simp] theorem vn (ts:List LV) (s:St):lh ts (some (.normal,s,none))=some (.normal,⟨ts,s.heap⟩):=_root_.id rfl
@[simp] theorem Zb (ts:List LV) (s:St):lh ts (some (.ret,s,none))=some (.normal,⟨ts,s.heap⟩):=_root_.id rfl
@[simp] theorem Q0 (ts:List LV) (s:St) (e:Ex):lh ts (some (.normal,s,some e))=some (e,⟨ts,s.heap⟩):=_root_.id rfl
@[simp] theorem Xt (ts:List LV) (s:St) (e:Ex):lh ts (some (.ret,s,some e))=some (e,⟨ts,s.heap⟩):=_root_.id rfl
def qV (Q:Nat→Option LFunc) (r:Run) (ri:jD) (ps:List Nat) (asg body:LCode) (s:St) (v:LV):Option (Ex × St) :=
 match da v with
 | some (f,[],caps)=>match Q f with
  | some (.code .shared nt [] itb)=>if caps.any isMark then none else lh s.tmps (ri (dm (exec Q r ri asg) (exec Q r ri body) ps s.tmps) itb ⟨pad nt (.tuple []::caps),s.heap⟩ none)
  | _=>none
 | _=>none
@[simp] theorem Nt (g:LO) (ps:List Nat) (asg body:LCode) (s:St):exec Q r ri (.rangeFn g ps asg body) s=qV Q r ri ps asg body s (ev s.tmps g):=by
 simp only[exec]
 unfold qV
 rcases da (ev s.tmps g) with _ | ⟨f,a,caps⟩
 ·rfl
 ·cases a with
  | cons x y=>rfl
  | nil =>
   simp only
   cases Q f with
   | none=>rfl
   | some F =>
    cases F with
    | prim g=>rfl
    | fprim k g=>rfl
    | code m nt rs b =>
     cases m<;>cases rs<;>rfl
end
attribute [simp] step
end LM
namespace LM
open Go
theorem MK {L:List (Nat × LFunc)} {S:List (Nat × SFunc)} (hr:b5 (lookupPrim · S)) (h:∀ f x,lookupPrim f L=some x→lookupPrim f S=none) {pos:Option Nat} {q:Bool} {f:Nat} {args:List LV} {hp:Heap} {x:LV × Heap}
  (hc:aC (lookupPrim · S) (af (lookupPrim · S)) pos q f args hp=some x):∃ n,∀ M,n≤M→bD (j9 L S) (runs (j9 L S) M).1 pos q f args hp=some x:=by
 obtain⟨n,hn⟩:=(nh mp pos q f args hp).cont x hc
 refine⟨n,fun M hM=>?_⟩
 have h1:=yz hr (td hr n) hn
 exact pw (Am h) (fun c s x hx=>(Fc hM).1 c s x ((gG (Am h) n).1 c s x hx)) h1
end LM
