/- Part 3 of what YtlnejpgfiopjjaaGreatDuels leans on. -/
import Derived.Laws.RangeAny
import Derived.Test.YtlnejpgfiopjjaaGreatDuelsL1
import Derived.Test.YtlnejpgfiopjjaaGreatDuelsL2
set_option linter.all false
namespace LM
open Go
abbrev Mu:=List (Option Nat)
inductive SNode where
 | op (dst:Nat) (op:LOp) (slot:Option Nat:=none) (wh:Where:=.any)
 | eff (op:LOp) (slot:Option Nat:=none) (wh:Where:=.any)
 | andN (dst:Nat) (c:Nat) (sub:List SNode) (r:LO)
 | orN (dst:Nat) (c:Nat) (sub:List SNode) (r:LO)
 deriving Inhabited
inductive SCode where
 | skip
 | ret
 | exit (id:Nat)
 | seq (a b:SCode)
 | cond (c:LO) (a b:SCode)
 | block (id:Nat) (ex:Mu) (a:SCode)
 | loop (gc:Bool) (a:SCode)
 | region (ns:List SNode) (sel:List Nat)
 | draw (slots:Nat) (ns:List SNode) (sel:List Nat)
 | pre (sel:List Nat) (a:SCode)
 | dead (c:LCode)
 deriving Inhabited
inductive SFunc where
 | code (mode:FMode) (nt np:Nat) (rho:Mu) (results:List LRes) (body:SCode)
 | prim (g:List CV→Option CV)
 | fprim (k:Nat) (g:List CV→Option (LV × List LB))
 deriving Inhabited
abbrev RunS:=SCode→St→Option (Ex × St)
def selE (sel:List Nat) (env:List LV):List LV:=sel.map fun i=>env.getD i .undef
def bnd {α β:Type} (x:Option α) (k:α→Option β):Option β :=
 match x with
 | some a=>k a
 | none=>none
def andK (b:Bool) (x:Option (LV × Heap)) (h:Heap):Option (LV × Heap):=if b then x else some (.c (.bool false),h)
def orK (b:Bool) (x:Option (LV × Heap)) (h:Heap):Option (LV × Heap):=if b then some (.c (.bool true),h) else x
def seqK (x:Option (Ex × St)) (k:St→Option (Ex × St)):Option (Ex × St) :=
 match x with
 | some (.normal,s)=>k s
 | some (.exit id,s)=>some (.exit id,s)
 | some (.ret,s)=>some (.ret,s)
 | none=>none
def blockK (id:Nat) (x:Option (Ex × St)):Option (Ex × St) :=
 match x with
 | some (.exit id',s)=>if id'=id then some (.normal,s) else some (.exit id',s)
 | some (.normal,s)=>some (.normal,s)
 | some (.ret,s)=>some (.ret,s)
 | none=>none
def condK (v:LV) (x y:Option (Ex × St)):Option (Ex × St) :=
 match v with
 | .c (.bool b)=>if b then x else y
 | _=>none
def pureS (r:RunS) (results:List LRes) (body:SCode) (args:List CV):Option CV :=
 match r body ⟨args.map .c,[]⟩ with
 | some (ex,s)=>match ex with
  | .exit _=>none
  | _=>match resultV s results with
   | some v=>match frz frzDepth v s.heap with
    | some (c,_)=>some c
    | none=>none
   | none=>none
 | none=>none
def freshS (r:RunS) (results:List LRes) (body:SCode) (args:List CV):Option (LV × List LB) :=
 match r body ⟨args.map .c,[]⟩ with
 | some (ex,s)=>match ex with
  | .exit _=>none
  | _=>match resultV s results with
   | some v=>some (v,s.heap)
   | none=>none
 | none=>none
def sharedS (r:RunS) (results:List LRes) (body:SCode) (args:List LV) (h:Heap):R :=
 match r body ⟨args,h⟩ with
 | some (ex,s)=>match ex with
  | .exit _=>none
  | _=>match resultV s results with
   | some v=>some (v,s.heap)
   | none=>none
 | none=>none
def callS (prog:Nat→Option SFunc) (r:RunS) (pos:Option Nat) (quiet:Bool) (f:Nat) (args:List LV) (h:Heap):R :=
 match prog f with
 | none=>none
 | some (.prim g)=>match frzArgs quiet args h with
  | none=>none
  | some (cs,h')=>match g cs with
   | none=>none
   | some v=>some (.c v,if scalarC v then h else h')
 | some (.code .pure _ _ _ rs body)=>match frzArgs quiet args h with
  | none=>none
  | some (cs,h')=>match pureS r rs body cs with
   | none=>none
   | some v=>some (.c v,if scalarC v then h else h')
 | some (.fprim k g)=>if quiet && pos.isNone then none else match frzArgs quiet args h with
  | none=>none
  | some (cs,h')=>match g cs with
   | none=>none
   | some (v,bs)=>importB pos k v bs h'
 | some (.code (.fresh k) _ _ _ rs body)=>if quiet && pos.isNone then none else match frzArgs quiet args h with
  | none=>none
  | some (cs,h')=>match freshS r rs body cs with
   | none=>none
   | some (v,bs)=>importB pos k v bs h'
 | some (.code .shared _ _ _ rs body)=>if quiet then none else
  match frzFuncs args h with
  | none=>none
  | some (args',h')=>sharedS r rs body args' h'
 | some (.code .live _ _ _ rs body)=>if quiet then none else sharedS r rs body args h
def stepS (prog:Nat→Option SFunc) (r:RunS) (pos:Option Nat) (env:List LV) (h:Heap):LOp→R
 | .call quiet f args=>match funcOf (ev env f) with
  | some (g,a,b)=>callS prog r pos quiet g (a++args.map (ev env)++b) h
  | none=>none
 | op=>opStep pos env h op
def opRun (prog:Nat→Option SFunc) (r:RunS) (base:Nat) (op:LOp) (slot:Option Nat) (wh:Where) (env:List LV) (h:Heap):R :=
 if whereOk base wh env op && slotOk base slot h then stepS prog r (slot.map (base+·)) env h op else none
def pushN:SNode→LV→List LV→List LV
 | .eff ..,_,env=>env
 | _,v,env=>v::env
mutual
def evalN (prog:Nat→Option SFunc) (r:RunS) (base:Nat):SNode→List LV→Heap→R
 | .op _ op slot wh,env,h=>opRun prog r base op slot wh env h
 | .eff op slot wh,env,h=>opRun prog r base op slot wh env h
 | .andN _ c sub x,env,h=>match env.getD c .undef with
  | .c (.bool b)=>andK b (bnd (runNs prog r base sub env h) fun s=>some (ev s.1 x,s.2)) h
  | _=>none
 | .orN _ c sub x,env,h=>match env.getD c .undef with
  | .c (.bool b)=>orK b (bnd (runNs prog r base sub env h) fun s=>some (ev s.1 x,s.2)) h
  | _=>none
def runNs (prog:Nat→Option SFunc) (r:RunS) (base:Nat):List SNode→List LV→Heap→Option (List LV × Heap)
 | [],env,h=>some (env,h)
 | n::ns,env,h=>bnd (evalN prog r base n env h) fun s=>runNs prog r base ns (pushN n s.1 env) s.2
end
def execS (prog:Nat→Option SFunc) (r:RunS):SCode→St→Option (Ex × St)
 | .skip,s=>some (.normal,s)
 | .ret,s=>some (.ret,s)
 | .exit id,s=>some (.exit id,s)
 | .seq a b,s=>seqK (execS prog r a s) fun s'=>execS prog r b s'
 | .cond c a b,s=>condK (ev s.tmps c) (execS prog r a s) (execS prog r b s)
 | .block id _ a,s=>blockK id (execS prog r a s)
 | .loop g a,s=>seqK (execS prog r a s) fun s'=>r (.loop g a) (if g then gc s.heap.length s' else s')
 | .region ns sel,s=>bnd (runNs prog r 0 ns s.tmps s.heap) fun e=>some (.normal,⟨selE sel e.1,e.2⟩)
 | .draw k ns sel,s=>bnd (runNs prog r s.heap.length ns s.tmps (s.heap++List.replicate k .dead)) fun e=>some (.normal,⟨selE sel e.1,e.2⟩)
 | .pre sel a,s=>execS prog r a ⟨selE sel s.tmps,s.heap⟩
 | .dead _,_=>none
def runS (prog:Nat→Option SFunc):Nat→RunS
 | 0=>fun _ _=>none
 | n+1=>execS prog (runS prog n)
def pcallS (prog:Nat→Option SFunc) (n:Nat) (f:Nat) (args:List CV):Option CV :=
 match prog f with
 | some (.prim g)=>g args
 | some (.code .pure _ _ _ rs body)=>pureS (runS prog n) rs body args
 | _=>none
def renO (μ:Mu):LO→Option LO
 | .k v=>some (.k v)
 | .t j=>match μ[j]? with
  | some (some t)=>some (.t t)
  | _=>none
def renOs (μ:Mu):List LO→Option (List LO)
 | []=>some []
 | x::r=>match renO μ x,renOs μ r with
  | some a,some l=>some (a::l)
  | _,_=>none
def renOO (μ:Mu):Option LO→Option (Option LO)
 | none=>some none
 | some x=>match renO μ x with
  | some a=>some (some a)
  | none=>none
def renP2 (μ:Mu):List (Nat × LO)→Option (List (Nat × LO))
 | []=>some []
 | (i,x)::r=>match renO μ x,renP2 μ r with
  | some a,some l=>some ((i,a)::l)
  | _,_=>none
def renP3 (μ:Mu):List (Nat × Nat × LO)→Option (List (Nat × Nat × LO))
 | []=>some []
 | (i,n,x)::r=>match renO μ x,renP3 μ r with
  | some a,some l=>some ((i,n,a)::l)
  | _,_=>none
def rn1 (μ:Mu) (x:LO) (f:LO→LOp):Option LOp:=match renO μ x with
 | some a=>some (f a)
 | none=>none
def rn2 (μ:Mu) (x y:LO) (f:LO→LO→LOp):Option LOp:=match renO μ x,renO μ y with
 | some a,some b=>some (f a b)
 | _,_=>none
def rn3 (μ:Mu) (x y z:LO) (f:LO→LO→LO→LOp):Option LOp:=match renO μ x,renO μ y,renO μ z with
 | some a,some b,some c=>some (f a b c)
 | _,_,_=>none
def renOp (μ:Mu):LOp→Option LOp
 | .move x=>rn1 μ x .move
 | .pick c a b=>rn3 μ c a b .pick
 | .bin op x y=>rn2 μ x y (.bin op)
 | .binBool op x y=>rn2 μ x y (.binBool op)
 | .convStr x=>rn1 μ x .convStr
 | .eqAgg kk neg x y=>rn2 μ x y (.eqAgg kk neg)
 | .mkNil e=>some (.mkNil e)
 | .eqNil neg x=>rn1 μ x (.eqNil neg)
 | .nilCheck x=>rn1 μ x .nilCheck
 | .not x=>rn1 μ x .not
 | .neg x=>rn1 μ x .neg
 | .conv k x=>rn1 μ x (.conv k)
 | .mkFunc f a b=>match renOs μ a,renOs μ b with
  | some a',some b'=>some (.mkFunc f a' b')
  | _,_=>none
 | .extract x i=>rn1 μ x (.extract · i)
 | .field off n x=>rn1 μ x (.field off n)
 | .indexArr len e x i=>rn2 μ x i (.indexArr len e)
 | .indexStr x i=>rn2 μ x i .indexStr
 | .idxSlice sz x i=>rn2 μ x i (.idxSlice sz)
 | .idxArr len sz x i=>rn2 μ x i (.idxArr len sz)
 | .fieldAddr off x=>rn1 μ x (.fieldAddr off)
 | .load n a=>rn1 μ a (.load n)
 | .store n a x=>rn2 μ a x (.store n)
 | .copy sz a x=>rn2 μ a x (.copy sz)
 | .new z g=>some (.new z g)
 | .box x=>rn1 μ x .box
 | .build z ps=>match renP3 μ ps with
  | some l=>some (.build z l)
  | none=>none
 | .buildSlice c e len z ps=>match renP2 μ ps with
  | some l=>some (.buildSlice c e len z l)
  | none=>none
 | .makeSlice e b z l c=>rn2 μ l c (.makeSlice e b z)
 | .makeMap=>some .makeMap
 | .sliceStr x lo hi=>match renO μ x,renOO μ lo,renOO μ hi with
  | some a,some l,some h=>some (.sliceStr a l h)
  | _,_,_=>none
 | .sliceSl sz x lo hi mx=>match renO μ x,renOO μ lo,renOO μ hi,renOO μ mx with
  | some a,some l,some h,some m=>some (.sliceSl sz a l h m)
  | _,_,_,_=>none
 | .sliceArr len e x lo hi mx=>match renO μ x,renOO μ lo,renOO μ hi,renOO μ mx with
  | some a,some l,some h,some m=>some (.sliceArr len e a l h m)
  | _,_,_,_=>none
 | .lookup kk z ok x k=>rn2 μ x k (.lookup kk z ok)
 | .mapUpdate kk m k x=>rn3 μ m k x (.mapUpdate kk)
 | .range x=>rn1 μ x .range
 | .next x=>rn1 μ x .next
 | .len k x=>rn1 μ x (.len k)
 | .append e b s x=>rn2 μ s x (.append e b)
 | .max x r=>match renO μ x,renOs μ r with
  | some a,some l=>some (.max a l)
  | _,_=>none
 | .min x r=>match renO μ x,renOs μ r with
  | some a,some l=>some (.min a l)
  | _,_=>none
 | .clear z x=>rn1 μ x (.clear z)
 | .call q f args=>match renO μ f,renOs μ args with
  | some a,some l=>some (.call q a l)
  | _,_=>none
 | .bad n=>some (.bad n)
def kill (d:Nat) (μ:Mu):Mu:=μ.map fun o=>match o with
 | some t=>if t=d then none else some t
 | none=>none
def killAll:List Nat→Mu→Mu
 | [],μ=>μ
 | d::r,μ=>killAll r (kill d μ)
def dsts:List LOper→List Nat
 | []=>[]
 | o::r=>match o.dst with
  | some d=>d::dsts r
  | none=>dsts r
def skipOk (t:Nat) (b:Bool):List Nat→List LOper→Bool
 | _,[]=>true
 | gone,o::os=>(match o.guard with
   | some (t0,b0)=>(t0 == t && b0 == b) || gone.contains t0
   | none=>false) && (match o.dst with
   | some d=>d != t && skipOk t b (d::gone) os
   | none=>skipOk t b gone os)
mutual
def decN (nt:Nat) (g:Option (Nat × Bool)):SNode→Mu→Option (List LOper × Mu)
 | .op d op slot wh,μ=>match renOp μ op with
  | some op'=>if d<nt then some ([.mk (some d) op' g slot wh],some d::kill d μ) else none
  | none=>none
 | .eff op slot wh,μ=>match renOp μ op with
  | some op'=>some ([.mk none op' g slot wh],μ)
  | none=>none
 | .andN d c sub x,μ=>match μ[c]? with
  | some (some t)=>match decNs nt (some (t,true)) sub μ with
   | some (L,μ1)=>match renO μ1 x with
    | some x'=>if d<nt && skipOk t true [] L then some (L++[.mk (some d) (.pick (.t t) x' (.k (.c (.bool false)))) g none .any],some d::kill d (killAll (dsts L) μ)) else none
    | none=>none
   | none=>none
  | _=>none
 | .orN d c sub x,μ=>match μ[c]? with
  | some (some t)=>match decNs nt (some (t,false)) sub μ with
   | some (L,μ1)=>match renO μ1 x with
    | some x'=>if d<nt && skipOk t false [] L then some (L++[.mk (some d) (.pick (.t t) (.k (.c (.bool true))) x') g none .any],some d::kill d (killAll (dsts L) μ)) else none
    | none=>none
   | none=>none
  | _=>none
def decNs (nt:Nat) (g:Option (Nat × Bool)):List SNode→Mu→Option (List LOper × Mu)
 | [],μ=>some ([],μ)
 | n::ns,μ=>match decN nt g n μ with
  | some (L,μ1)=>match decNs nt g ns μ1 with
   | some (L',μ2)=>some (L++L',μ2)
   | none=>none
  | none=>none
end
def selM (sel:List Nat) (μ:Mu):Mu:=sel.map fun i=>μ.getD i none
def lookupM (id:Nat):List (Nat × Mu)→Option Mu
 | []=>none
 | (i,m)::r=>if i=id then some m else lookupM id r
def joinM:Option Mu→Option Mu→Option (Option Mu)
 | none,y=>some y
 | some x,none=>some (some x)
 | some x,some y=>if x=y then some (some x) else none
def decC (nt:Nat) (ρ:Mu):List (Nat × Mu)→SCode→Option Mu→Option (LCode × Option Mu)
 | _,.skip,some μ=>some (.skip,some μ)
 | _,.ret,some μ=>if μ=ρ then some (.ret,none) else none
 | Γ,.exit id,some μ=>match lookupM id Γ with
  | some m=>if m=μ then some (.exit id,none) else none
  | none=>none
 | Γ,.seq a b,some μ=>match decC nt ρ Γ a (some μ) with
  | some (a',m)=>match decC nt ρ Γ b m with
   | some (b',m')=>some (.seq a' b',m')
   | none=>none
  | none=>none
 | Γ,.cond c a b,some μ=>match renO μ c,decC nt ρ Γ a (some μ),decC nt ρ Γ b (some μ) with
  | some c',some (a',m),some (b',m')=>match joinM m m' with
   | some j=>some (.cond c' a' b',j)
   | none=>none
  | _,_,_=>none
 | Γ,.block id ex a,some μ=>match decC nt ρ ((id,ex)::Γ) a (some μ) with
  | some (a',m)=>match joinM m (some ex) with
   | some j=>some (.block id a',j)
   | none=>none
  | none=>none
 | Γ,.loop g a,some μ=>match decC nt ρ Γ a (some μ) with
  | some (a',m)=>match joinM m (some μ) with
   | some _=>some (.loop g a',none)
   | none=>none
  | none=>none
 | _,.region ns sel,some μ=>match decNs nt none ns μ with
  | some (L,μ1)=>some (.region L,some (selM sel μ1))
  | none=>none
 | _,.draw k ns sel,some μ=>match decNs nt none ns μ with
  | some (L,μ1)=>some (.draw k L,some (selM sel μ1))
  | none=>none
 | Γ,.pre sel a,some μ=>decC nt ρ Γ a (some (selM sel μ))
 | _,.dead c,none=>some (c,none)
 | _,_,_=>none
def renR (ρ:Mu):List LRes→Option (List LRes)
 | []=>some []
 | .tmp j::r=>match ρ[j]?,renR ρ r with
  | some (some t),some l=>some (.tmp t::l)
  | _,_=>none
 | .cell j n::r=>match ρ[j]?,renR ρ r with
  | some (some t),some l=>some (.cell t n::l)
  | _,_=>none
def decF:SFunc→Option LFunc
 | .prim g=>some (.prim g)
 | .fprim k g=>some (.fprim k g)
 | .code mode nt np ρ rs body=>if np≤nt then
   match decC nt ρ [] body (some ((List.range np).map some)),renR ρ rs with
   | some (b,m),some rs'=>match joinM m (some ρ) with
    | some _=>some (.code mode nt rs' b)
    | none=>none
   | _,_=>none
  else none
def progL (prog:Nat→Option SFunc):Nat→Option LFunc:=fun f=>match prog f with
 | some F=>decF F
 | none=>none
def Readable (prog:Nat→Option SFunc):Prop:=∀ f F,prog f=some F→∃ L,decF F=some L
end LM
namespace LM
open Go
def ERel (μ:Mu) (env ts:List LV):Prop:=∀ (j t:Nat),μ[j]? = some (some t)→env.getD j .undef=ts.getD t .undef
theorem renO_ev {μ:Mu} {env ts:List LV} (h:ERel μ env ts) {x y:LO} (hx:renO μ x=some y):ev ts y=ev env x:=by
 cases x with
 | k v=>simp only[renO,Option.some.injEq] at hx; subst hx; rfl
 | t j =>
  simp only[renO] at hx
  split at hx
  ·rename_i t ht
   simp only[Option.some.injEq] at hx
   subst hx
   exact (h j t ht).symm
  ·cases hx
theorem renOs_ev {μ:Mu} {env ts:List LV} (h:ERel μ env ts):∀ {l l' : List LO},renOs μ l=some l'→l'.map (ev ts)=l.map (ev env)
 | [],l',hx=>by simp only[renOs,Option.some.injEq] at hx; subst hx; rfl
 | x::r,l',hx=>by
  simp only[renOs] at hx
  split at hx
  ·rename_i a l ha hl
   simp only[Option.some.injEq] at hx
   subst hx
   simp only[List.map_cons,renO_ev h ha,renOs_ev h hl]
  ·cases hx
theorem renOO_ev {μ:Mu} {env ts:List LV} (h:ERel μ env ts) {x y:Option LO} (hx:renOO μ x=some y):y.map (ev ts)=x.map (ev env)∧y.isSome=x.isSome∧y.isNone=x.isNone:=by
 cases x with
 | none=>simp only[renOO,Option.some.injEq] at hx; subst hx; exact⟨rfl,rfl,rfl⟩
 | some x =>
  simp only[renOO] at hx
  split at hx
  ·rename_i a ha
   simp only[Option.some.injEq] at hx
   subst hx
   simp[renO_ev h ha]
  ·cases hx
theorem fillParts_ren {μ:Mu} {env ts:List LV} (h:ERel μ env ts) {sz:Nat}:∀ {l l' : List (Nat × LO)} {cs:List LV},renP2 μ l=some l'→fillParts ts sz l' cs=fillParts env sz l cs
 | [],l',cs,hx=>by simp only[renP2,Option.some.injEq] at hx; subst hx; rfl
 | (i,x)::r,l',cs,hx=>by
  simp only[renP2] at hx
  split at hx
  ·rename_i a l ha hl
   simp only[Option.some.injEq] at hx
   subst hx
   simp only[fillParts,renO_ev h ha,fillParts_ren h hl]
  ·cases hx
theorem fillFields_ren {μ:Mu} {env ts:List LV} (h:ERel μ env ts):∀ {l l' : List (Nat × Nat × LO)} {cs:List LV},renP3 μ l=some l'→fillFields ts l' cs=fillFields env l cs
 | [],l',cs,hx=>by simp only[renP3,Option.some.injEq] at hx; subst hx; rfl
 | (i,n,x)::r,l',cs,hx=>by
  simp only[renP3] at hx
  split at hx
  ·rename_i a l ha hl
   simp only[Option.some.injEq] at hx
   subst hx
   simp only[fillFields,renO_ev h ha,fillFields_ren h hl]
  ·cases hx
theorem foldInt_ren {μ:Mu} {env ts:List LV} (h:ERel μ env ts) {f:Int→Int→Int}:∀ {l l' : List LO} {v:LV},renOs μ l=some l'→foldInt f ts v l'=foldInt f env v l
 | [],l',v,hx=>by simp only[renOs,Option.some.injEq] at hx; subst hx; rfl
 | x::r,l',v,hx=>by
  simp only[renOs] at hx
  split at hx
  ·rename_i a l ha hl
   simp only[Option.some.injEq] at hx
   subst hx
   cases v with
   | c c =>
    cases c with
    | int k n =>
     simp only[foldInt,renO_ev h ha]
     split
     ·exact foldInt_ren h hl
     ·rfl
    | _=>rfl
   | _=>rfl
  ·cases hx
theorem rn1_inv {μ:Mu} {x:LO} {f:LO→LOp} {o:LOp} (h:rn1 μ x f=some o):∃ a,renO μ x=some a∧o=f a:=by
 unfold rn1 at h
 split at h
 ·rename_i a ha; injection h with h; exact⟨a,ha,h.symm⟩
 ·cases h
theorem rn2_inv {μ:Mu} {x y:LO} {f:LO→LO→LOp} {o:LOp} (h:rn2 μ x y f=some o):∃ a b,renO μ x=some a∧renO μ y=some b∧o=f a b:=by
 unfold rn2 at h
 split at h
 ·rename_i a b ha hb; injection h with h; exact⟨a,b,ha,hb,h.symm⟩
 ·cases h
theorem rn3_inv {μ:Mu} {x y z:LO} {f:LO→LO→LO→LOp} {o:LOp} (h:rn3 μ x y z f=some o):∃ a b c,renO μ x=some a∧renO μ y=some b∧renO μ z=some c∧o=f a b c:=by
 unfold rn3 at h
 split at h
 ·rename_i a b c ha hb hc; injection h with h; exact⟨a,b,c,ha,hb,hc,h.symm⟩
 ·cases h
theorem opStep_ren {μ:Mu} {env ts:List LV} (h:ERel μ env ts) {pos:Option Nat} {hp:Heap} {op op' : LOp} (hx:renOp μ op=some op'):opStep pos ts hp op'=opStep pos env hp op:=by
 cases op
 case mkNil | new | makeMap | bad=>simp only[renOp,Option.some.injEq] at hx; subst hx; rfl
 case mkFunc f a b =>
  simp only[renOp] at hx
  split at hx
  ·rename_i a' b' ha hb
   injection hx with hx
   subst hx
   simp only[opStep,renOs_ev h ha,renOs_ev h hb]
  ·cases hx
 case build z ps =>
  simp only[renOp] at hx
  split at hx
  ·rename_i l hl
   injection hx with hx
   subst hx
   simp only[opStep,fillFields_ren h hl]
  ·cases hx
 case buildSlice c e len z ps =>
  simp only[renOp] at hx
  split at hx
  ·rename_i l hl
   injection hx with hx
   subst hx
   simp only[opStep,fillParts_ren h hl]
  ·cases hx
 case sliceStr x lo hi =>
  simp only[renOp] at hx
  split at hx
  ·rename_i a l hh ha hl hhi
   injection hx with hx
   subst hx
   simp only[opStep,renO_ev h ha,(renOO_ev h hl).1,(renOO_ev h hhi).1]
  ·cases hx
 case sliceSl sz x lo hi mx =>
  simp only[renOp] at hx
  split at hx
  ·rename_i a l hh m ha hl hhi hm
   injection hx with hx
   subst hx
   simp only[opStep,renO_ev h ha,(renOO_ev h hl).1,(renOO_ev h hhi).1,(renOO_ev h hm).1,(renOO_ev h hm).2.1,(renOO_ev h hhi).2.2]
  ·cases hx
 case sliceArr len e x lo hi mx =>
  simp only[renOp] at hx
  split at hx
  ·rename_i a l hh m ha hl hhi hm
   injection hx with hx
   subst hx
   simp only[opStep,renO_ev h ha,(renOO_ev h hl).1,(renOO_ev h hhi).1]
   cases mx with
   | none=>simp only[renOO,Option.some.injEq] at hm; subst hm; rfl
   | some mx =>
    obtain⟨m',rfl⟩ : ∃ m',m=some m':=by
     have:=(renOO_ev h hm).2.1
     cases m with
     | none=>cases this
     | some m'=>exact⟨m',rfl⟩
    rfl
  ·cases hx
 case max x r =>
  simp only[renOp] at hx
  split at hx
  ·rename_i a l ha hl
   injection hx with hx
   subst hx
   simp only[opStep,renO_ev h ha,foldInt_ren h hl]
  ·cases hx
 case min x r =>
  simp only[renOp] at hx
  split at hx
  ·rename_i a l ha hl
   injection hx with hx
   subst hx
   simp only[opStep,renO_ev h ha,foldInt_ren h hl]
  ·cases hx
 case call q f args =>
  simp only[renOp] at hx
  split at hx
  ·injection hx with hx
   subst hx
   rfl
  ·cases hx
 all_goals first
  | (obtain⟨a,ha,rfl⟩:=rn1_inv hx; simp only[opStep,renO_ev h ha]; done)
  | (obtain⟨a,b,ha,hb,rfl⟩:=rn2_inv hx; simp only[opStep,renO_ev h ha,renO_ev h hb]; done)
  | (obtain⟨a,b,c,ha,hb,hc,rfl⟩:=rn3_inv hx; simp only[opStep,renO_ev h ha,renO_ev h hb,renO_ev h hc]; done)
theorem renOp_call {μ:Mu} {op op' : LOp} (hx:renOp μ op=some op'):(∃ q f args f' args',op=.call q f args∧op'=.call q f' args'∧renO μ f=some f'∧renOs μ args=some args')∨((∀ q f args,op≠.call q f args)∧∀ q f args,op'≠.call q f args):=by
 cases op
 case call q f args =>
  simp only[renOp] at hx
  split at hx
  ·rename_i a l ha hl
   injection hx with hx
   exact .inl ⟨q,f,args,a,l,rfl,hx.symm,ha,hl⟩
  ·cases hx
 all_goals
  refine .inr ⟨by simp,?_⟩
  simp only[renOp] at hx
  first
   | (obtain⟨a,ha,rfl⟩:=rn1_inv hx; simp; done)
   | (obtain⟨a,b,ha,hb,rfl⟩:=rn2_inv hx; simp; done)
   | (obtain⟨a,b,c,ha,hb,hc,rfl⟩:=rn3_inv hx; simp; done)
   | (injection hx with hx; subst hx; simp; done)
   | (split at hx<;>first | (injection hx with hx; subst hx; simp; done) | (cases hx; done))
theorem whereOk_ren {μ:Mu} {env ts:List LV} (h:ERel μ env ts) {base:Nat} {wh:Where} {op op' : LOp} (hx:renOp μ op=some op'):whereOk base wh ts op'=whereOk base wh env op:=by
 unfold whereOk
 cases op
 case load | store | lookup | mapUpdate | len | append | clear | copy =>
  first
   | (obtain⟨a,ha,rfl⟩:=rn1_inv hx; simp only[memOpnd,renO_ev h ha]; done)
   | (obtain⟨a,b,ha,hb,rfl⟩:=rn2_inv hx; simp only[memOpnd,renO_ev h ha,renO_ev h hb]; done)
   | (obtain⟨a,b,c,ha,hb,hc,rfl⟩:=rn3_inv hx; simp only[memOpnd,renO_ev h ha,renO_ev h hb,renO_ev h hc]; done)
 all_goals
  simp only[renOp] at hx
  first
   | (obtain⟨a,ha,rfl⟩:=rn1_inv hx; rfl)
   | (obtain⟨a,b,ha,hb,rfl⟩:=rn2_inv hx; rfl)
   | (obtain⟨a,b,c,ha,hb,hc,rfl⟩:=rn3_inv hx; rfl)
   | (injection hx with hx; subst hx; rfl)
   | (split at hx<;>first | (injection hx with hx; subst hx; rfl) | (cases hx; done))
theorem kill_get {d:Nat} {μ:Mu} {j t:Nat} (h:(kill d μ)[j]? = some (some t)):μ[j]? = some (some t)∧t≠d:=by
 unfold kill at h
 rw[List.getElem?_map] at h
 cases hm:μ[j]? with
 | none=>rw[hm] at h; cases h
 | some o =>
  rw[hm] at h
  simp only[Option.map_some,Option.some.injEq] at h
  cases o with
  | none=>cases h
  | some t' =>
   simp only at h
   split at h
   ·cases h
   ·rename_i hne
    injection h with h
    subst h
    exact⟨rfl,hne⟩
theorem killAll_get:∀ {l:List Nat} {μ:Mu} {j t:Nat},(killAll l μ)[j]? = some (some t)→μ[j]? = some (some t)∧t ∉ l
 | [],μ,j,t,h=>⟨h,by simp⟩
 | d::r,μ,j,t,h=>by
  obtain⟨h1,h2⟩:=killAll_get (l:=r) h
  obtain⟨h3,h4⟩:=kill_get h1
  exact⟨h3,by simp[h4,h2]⟩
theorem getD_set_ne {ts:List LV} {d t:Nat} {v:LV} (h:t≠d):(ts.set d v).getD t .undef=ts.getD t .undef:=by
 rw[List.getD_eq_getElem?_getD,List.getD_eq_getElem?_getD,List.getElem?_set_ne (fun e=>h e.symm)]
theorem getD_set_selfS {ts:List LV} {d:Nat} {v:LV} (h:d<ts.length):(ts.set d v).getD d .undef=v:=by
 rw[List.getD_eq_getElem?_getD,List.getElem?_set_self h]; rfl
theorem ERel.push {μ:Mu} {env ts ts' : List LV} {d:Nat} {v:LV} (h:∀ (j t:Nat),μ[j]? = some (some t)→t≠d→env.getD j .undef=ts.getD t .undef) (hd:d<ts.length) (e:ts'=ts.set d v):ERel (some d::kill d μ) (v::env) ts':=by
 subst e
 intro j t hj
 cases j with
 | zero =>
  simp only[List.getElem?_cons_zero,Option.some.injEq] at hj
  subst hj
  rw[getD_set_selfS hd]; rfl
 | succ j =>
  simp only[List.getElem?_cons_succ] at hj
  obtain⟨h1,h2⟩:=kill_get hj
  rw[getD_set_ne h2,← h j t h1 h2]; rfl
theorem ERel.sel {μ:Mu} {env ts:List LV} (h:ERel μ env ts) (sel:List Nat):ERel (selM sel μ) (selE sel env) ts:=by
 intro j t hj
 unfold selM at hj
 unfold selE
 rw[List.getElem?_map] at hj
 rw[List.getD_eq_getElem?_getD,List.getElem?_map]
 cases hs:sel[j]? with
 | none=>rw[hs] at hj; cases hj
 | some i =>
  rw[hs] at hj
  simp only[Option.map_some,Option.some.injEq] at hj
  simp only[Option.map_some,Option.getD_some]
  rw[List.getD_eq_getElem?_getD] at hj
  cases hm:μ[i]? with
  | none=>rw[hm] at hj; cases hj
  | some o =>
   rw[hm] at hj
   simp only[Option.getD_some] at hj
   subst hj
   exact h i t hm
theorem dsts_append:∀ (a b:List LOper),dsts (a++b)=dsts a++dsts b
 | [],_=>rfl
 | o::r,b=>by
  simp only[List.cons_append,dsts,dsts_append r b]
  split<;>rfl
section
variable {prog:Nat→Option SFunc} {r2:RunS} {r1:Run} {base:Nat} {pl:Nat→Option LFunc}
theorem operSteps_append {pr:Nat→Option LFunc} {r:Run}:∀ {a b:List LOper} {s s' : St},operSteps pr r base a s=some s'→operSteps pr r base (a++b) s=operSteps pr r base b s'
 | [],b,s,s',h=>by simp only[operSteps,Option.some.injEq] at h; subst h; rfl
 | o::a,b,s,s',h=>by
  simp only[operSteps] at h
  split at h
  ·rename_i s1 h1
   show (match operStep pr r base o s with | some s'=>operSteps pr r base (a++b) s' | none=>none)=_
   rw[h1]
   exact operSteps_append h
  ·cases h
theorem skip_ok {pr:Nat→Option LFunc} {r:Run} {t:Nat} {b:Bool}:∀ {L:List LOper} {gone:List Nat} {ts:List LV} {h:Heap},skipOk t b gone L=true→ts.getD t .undef=.c (.bool !b)→(∀ d ∈ gone,ts.getD d .undef=.c (.tuple [])) →
  (∀ d ∈ dsts L,d<ts.length)→∃ ts',operSteps pr r base L ⟨ts,h⟩=some ⟨ts',h⟩∧ts'.length=ts.length∧(∀ x,x ∉ dsts L→ts'.getD x .undef=ts.getD x .undef)∧t ∉ dsts L
 | [],gone,ts,h,_,_,_,_=>⟨ts,rfl,rfl,fun _ _=>rfl,by simp[dsts]⟩
 | o::L,gone,ts,h,hs,ht,hg,hd=>by
  simp only[skipOk,Bool.and_eq_true] at hs
  obtain⟨h1,h2⟩:=hs
  have hstep:operStep pr r base o ⟨ts,h⟩=some ⟨put ts o.dst (.c (.tuple [])),h⟩:=by
   unfold operStep
   split at h1
   ·rename_i t0 b0 hgu
    simp only[hgu]
    simp only[Bool.or_eq_true,Bool.and_eq_true,beq_iff_eq] at h1
    rcases h1 with ⟨rfl,rfl⟩ | h1
    ·simp only[ht]
     cases b0<;>rfl
    ·simp only[List.contains_eq_mem,decide_eq_true_eq] at h1
     simp only[hg t0 h1]
   ·cases h1
  cases hdst:o.dst with
  | none =>
   rw[hdst] at h2 hstep
   simp only[put] at hstep
   obtain⟨ts',e1,e2,e3,e4⟩:=skip_ok (L:=L) (h:=h) h2 ht hg (fun d hd'=>hd d (by simp only[dsts,hdst]; exact hd'))
   refine⟨ts',by simp only[operSteps,hstep]; exact e1,e2,fun x hx=>e3 x (by simpa only [dsts,hdst] using hx),by simpa only [dsts,hdst] using e4⟩
  | some d =>
   rw[hdst] at h2 hstep
   simp only[put] at hstep
   simp only[Bool.and_eq_true,bne_iff_ne,ne_eq] at h2
   have hdl:d<ts.length:=hd d (by simp[dsts,hdst])
   obtain⟨ts',e1,e2,e3,e4⟩:=skip_ok (L:=L) (ts:=ts.set d (.c (.tuple []))) (h:=h) h2.2 (by rw[getD_set_ne (fun e=>h2.1 e.symm)]; exact ht)
    (fun d' hd'=>by
     rcases List.mem_cons.1 hd' with rfl | hd'
     ·exact getD_set_selfS hdl
     ·by_cases e:d'=d
      ·subst e; exact getD_set_selfS hdl
      ·rw[getD_set_ne e]; exact hg d' hd')
    (fun d' hd'=>by simp only[List.length_set]; exact hd d' (by simp[dsts,hdst,hd']))
   refine⟨ts',by simp only[operSteps,hstep]; exact e1,by simpa using e2,fun x hx=>?_,?_⟩
   ·simp only[dsts,hdst,List.mem_cons,not_or] at hx
    rw[e3 x hx.2,getD_set_ne hx.1]
   ·simp only[dsts,hdst,List.mem_cons,not_or]
    exact⟨fun e=>h2.1 e.symm,e4⟩
def RunRef (r2:RunS) (r1:Run):Prop :=
 ∀ (nt:Nat) (ρ:Mu) (Γ:List (Nat × Mu)) (c2:SCode) (μ:Mu) (c1:LCode) (m:Option Mu),decC nt ρ Γ c2 (some μ)=some (c1,m)→∀ (env:List LV) (h:Heap) (ts:List LV) (ex:Ex) (s2:St),
  ERel μ env ts→nt≤ts.length→r2 c2 ⟨env,h⟩=some (ex,s2)→∃ ts',r1 c1 ⟨ts,h⟩=some (ex,⟨ts',s2.heap⟩)∧nt≤ts'.length ∧
   (match ex with
    | .normal=>∃ μ',m=some μ'∧ERel μ' s2.tmps ts'
    | .exit id=>∃ μ',lookupM id Γ=some μ'∧ERel μ' s2.tmps ts'
    | .ret=>ERel ρ s2.tmps ts')
theorem joinM_some {x:Option Mu} {y:Mu} {j:Option Mu} (h:joinM x (some y)=some j):j=some y∧∀ m,x=some m→m=y:=by
 cases x with
 | none=>simp only[joinM,Option.some.injEq] at h; exact⟨h.symm,fun m e=>by cases e⟩
 | some x =>
  simp only[joinM] at h
  split at h
  ·rename_i e
   injection h with h
   exact⟨by rw[← h,e],fun m e'=>by injection e' with e'; rw[← e',e]⟩
  ·cases h
theorem joinM_left {x y j:Option Mu} (h:joinM x y=some j):(∀ m,x=some m→j=some m)∧∀ m,y=some m→j=some m:=by
 cases x with
 | none =>
  simp only[joinM,Option.some.injEq] at h
  exact⟨fun m e=>by (cases e),fun m e=>by rw[← h,e]⟩
 | some x =>
  cases y with
  | none =>
   simp only[joinM,Option.some.injEq] at h
   exact⟨fun m e=>by rw[← h,e],fun m e=>by (cases e)⟩
  | some y =>
   simp only[joinM] at h
   split at h
   ·rename_i e
    injection h with h
    subst e
    exact⟨fun m e=>by rw[← h,e],fun m e=>by rw[← h,e]⟩
   ·cases h
theorem renR_ok {ρ:Mu} {env ts:List LV} {h:Heap} (he:ERel ρ env ts):∀ {rs rs' : List LRes},renR ρ rs=some rs'→resultsAll ⟨ts,h⟩ rs'=resultsAll ⟨env,h⟩ rs
 | [],rs',hx=>by simp only[renR,Option.some.injEq] at hx; subst hx; rfl
 | .tmp j::r,rs',hx=>by
  simp only[renR] at hx
  split at hx
  ·rename_i t l ht hl
   injection hx with hx
   subst hx
   simp only[resultsAll,resultOne,he j t ht,renR_ok he hl]
  ·cases hx
 | .cell j n::r,rs',hx=>by
  simp only[renR] at hx
  split at hx
  ·rename_i t l ht hl
   injection hx with hx
   subst hx
   simp only[resultsAll,resultOne,he j t ht,renR_ok he hl]
  ·cases hx
theorem resultV_ren {ρ:Mu} {env ts:List LV} {h:Heap} (he:ERel ρ env ts) {rs rs' : List LRes} (hx:renR ρ rs=some rs'):resultV ⟨ts,h⟩ rs'=resultV ⟨env,h⟩ rs:=by
 unfold resultV
 rw[renR_ok he hx]
theorem decF_code {mode:FMode} {nt np:Nat} {ρ:Mu} {rs:List LRes} {body:SCode} {L:LFunc} (h:decF (.code mode nt np ρ rs body)=some L) :
  ∃ b m rs',np≤nt∧decC nt ρ [] body (some ((List.range np).map some))=some (b,m)∧renR ρ rs=some rs'∧(∀ μ,m=some μ→μ=ρ)∧L=.code mode nt rs' b:=by
 simp only[decF] at h
 split at h
 ·rename_i hn
  split at h
  ·rename_i b m rs' hb hr
   split at h
   ·rename_i j hj
    injection h with h
    exact⟨b,m,rs',hn,hb,hr,(joinM_some hj).2,h.symm⟩
   ·cases h
  ·cases h
 ·cases h
theorem body_ok (hr:RunRef r2 r1) {mode:FMode} {nt np:Nat} {ρ:Mu} {rs rs' : List LRes} {body:SCode} {b:LCode} {m:Option Mu} (hd:decC nt ρ [] body (some ((List.range np).map some))=some (b,m)) (hm:∀ μ,m=some μ→μ=ρ) (hrs:renR ρ rs=some rs')
  {args:List LV} {h:Heap} {ex:Ex} {s2:St} (hs:r2 body ⟨args,h⟩=some (ex,s2)) (hx:∀ id,ex≠.exit id):∃ ts',r1 b ⟨pad nt args,h⟩=some (ex,⟨ts',s2.heap⟩)∧resultV ⟨ts',s2.heap⟩ rs'=resultV s2 rs:=by
 have he:ERel ((List.range np).map some) args (pad nt args):=by
  intro j t hj
  rw[List.getElem?_map] at hj
  cases hq:(List.range np)[j]? with
  | none=>rw[hq] at hj; cases hj
  | some q =>
   rw[hq] at hj
   simp only[Option.map_some,Option.some.injEq] at hj
   subst hj
   have:=List.getElem?_eq_some_iff.1 hq
   obtain⟨hlt,e⟩:=this
   simp only[List.getElem_range] at e
   subst e
   unfold pad
   rw[List.getD_eq_getElem?_getD,List.getD_eq_getElem?_getD]
   rcases Nat.lt_or_ge j args.length with hl | hl
   ·rw[List.getElem?_append_left hl]
   ·rw[List.getElem?_append_right hl,List.getElem?_eq_none hl,List.getElem?_replicate]
    split<;>rfl
 have hl:nt≤(pad nt args).length:=by unfold pad; simp; omega
 obtain⟨ts',e1,_,e3⟩:=hr _ _ _ _ _ _ _ hd args h (pad nt args) ex s2 he hl hs
 refine⟨ts',e1,?_⟩
 cases ex with
 | normal =>
  obtain⟨μ',rfl,e4⟩:=e3
  have:=hm μ' rfl
  subst this
  exact resultV_ren e4 hrs
 | exit id=>exact absurd rfl (hx id)
 | ret=>exact resultV_ren e3 hrs
theorem pureS_ok (hr:RunRef r2 r1) {mode:FMode} {nt np:Nat} {ρ:Mu} {rs:List LRes} {body:SCode} {L:LFunc} (hL:decF (.code mode nt np ρ rs body)=some L) {args:List CV} {v:CV} (hs:pureS r2 rs body args=some v) :
  ∃ rs' b,L=.code mode nt rs' b∧pureCall r1 nt rs' b args=some v:=by
 obtain⟨b,m,rs',_,hd,hrs,hm,rfl⟩:=decF_code hL
 refine⟨rs',b,rfl,?_⟩
 unfold pureS at hs
 split at hs
 ·rename_i ex s2 hb
  have hx:∀ id,ex≠.exit id:=fun id e=>by subst e; cases hs
  obtain⟨ts',e1,e2⟩:=body_ok (mode:=mode) hr hd hm hrs hb hx
  unfold pureCall
  rw[e1]
  cases ex with
  | exit id=>exact absurd rfl (hx id)
  | normal=>simp only[e2]; exact hs
  | ret=>simp only[e2]; exact hs
 ·cases hs
theorem freshS_ok (hr:RunRef r2 r1) {mode:FMode} {nt np:Nat} {ρ:Mu} {rs:List LRes} {body:SCode} {L:LFunc} (hL:decF (.code mode nt np ρ rs body)=some L) {args:List CV} {v:LV × List LB} (hs:freshS r2 rs body args=some v) :
  ∃ rs' b,L=.code mode nt rs' b∧freshCall r1 nt rs' b args=some v:=by
 obtain⟨b,m,rs',_,hd,hrs,hm,rfl⟩:=decF_code hL
 refine⟨rs',b,rfl,?_⟩
 unfold freshS at hs
 split at hs
 ·rename_i ex s2 hb
  have hx:∀ id,ex≠.exit id:=fun id e=>by subst e; cases hs
  obtain⟨ts',e1,e2⟩:=body_ok (mode:=mode) hr hd hm hrs hb hx
  unfold freshCall
  rw[e1]
  cases ex with
  | exit id=>exact absurd rfl (hx id)
  | normal=>simp only[e2]; exact hs
  | ret=>simp only[e2]; exact hs
 ·cases hs
theorem sharedS_ok (hr:RunRef r2 r1) {mode:FMode} {nt np:Nat} {ρ:Mu} {rs:List LRes} {body:SCode} {L:LFunc} (hL:decF (.code mode nt np ρ rs body)=some L) {args:List LV} {h:Heap} {v:LV × Heap} (hs:sharedS r2 rs body args h=some v) :
  ∃ rs' b,L=.code mode nt rs' b∧(match r1 b ⟨pad nt args,h⟩ with
   | some (ex,s)=>match ex with
    | .exit _=>none
    | _=>match resultV s rs' with
     | some v=>some (v,s.heap)
     | none=>none
   | none=>none)=some v:=by
 obtain⟨b,m,rs',_,hd,hrs,hm,rfl⟩:=decF_code hL
 refine⟨rs',b,rfl,?_⟩
 unfold sharedS at hs
 split at hs
 ·rename_i ex s2 hb
  have hx:∀ id,ex≠.exit id:=fun id e=>by subst e; cases hs
  obtain⟨ts',e1,e2⟩:=body_ok (mode:=mode) hr hd hm hrs hb hx
  rw[e1]
  cases ex with
  | exit id=>exact absurd rfl (hx id)
  | normal=>simp only[e2]; exact hs
  | ret=>simp only[e2]; exact hs
 ·cases hs
theorem callS_ok (hP:Readable prog) (hr:RunRef r2 r1) {pos:Option Nat} {quiet:Bool} {f:Nat} {args:List LV} {h:Heap} {x:LV × Heap} (hs:callS prog r2 pos quiet f args h=some x):callF (progL prog) r1 pos quiet f args h=some x:=by
 unfold callS at hs
 unfold callF
 have hpl:∀ F,prog f=some F→progL prog f=decF F:=fun F hF=>by unfold progL; rw[hF]
 split at hs
 ·cases hs
 ·rename_i g hp
  rw[hpl _ hp]
  exact hs
 ·rename_i nt np ρ rs body hp
  obtain⟨L,hL⟩:=hP f _ hp
  rw[hpl _ hp,hL]
  split at hs
  ·cases hs
  ·rename_i cs h' ha
   split at hs
   ·cases hs
   ·rename_i v hv
    obtain⟨rs',b,rfl,hc⟩:=pureS_ok hr hL hv
    simp only[ha,hc]
    exact hs
 ·rename_i k g hp
  rw[hpl _ hp]
  exact hs
 ·rename_i k nt np ρ rs body hp
  obtain⟨L,hL⟩:=hP f _ hp
  rw[hpl _ hp,hL]
  split at hs
  ·cases hs
  ·rename_i hq
   split at hs
   ·cases hs
   ·rename_i cs h' ha
    split at hs
    ·cases hs
    ·rename_i v bs hv
     obtain⟨rs',b,rfl,hc⟩:=freshS_ok hr hL hv
     simp only[if_neg hq,ha,hc]
     exact hs
 ·rename_i nt np ρ rs body hp
  obtain⟨L,hL⟩:=hP f _ hp
  rw[hpl _ hp,hL]
  split at hs
  ·cases hs
  ·rename_i hq
   split at hs
   ·cases hs
   ·rename_i args' h' ha
    obtain⟨rs',b,rfl,hc⟩:=sharedS_ok hr hL hs
    simp only[if_neg hq,ha]
    exact hc
 ·rename_i nt np ρ rs body hp
  obtain⟨L,hL⟩:=hP f _ hp
  rw[hpl _ hp,hL]
  split at hs
  ·cases hs
  ·rename_i hq
   obtain⟨rs',b,rfl,hc⟩:=sharedS_ok hr hL hs
   simp only[if_neg hq]
   exact hc
theorem stepS_ok (hP:Readable prog) (hr:RunRef r2 r1) {μ:Mu} {env ts:List LV} (he:ERel μ env ts) {pos:Option Nat} {h:Heap} {op op' : LOp} {x:LV × Heap} (hx:renOp μ op=some op') (hs:stepS prog r2 pos env h op=some x):step (progL prog) r1 pos ts h op'=some x:=by
 rcases renOp_call hx with ⟨q,f,args,f',args',rfl,rfl,hf,ha⟩ | ⟨h1,h2⟩
 ·simp only[stepS] at hs
  simp only[step,renO_ev he hf,renOs_ev he ha]
  split at hs
  ·rename_i hfo
   simp only[hfo]
   exact callS_ok hP hr hs
  ·cases hs
 ·have e1:stepS prog r2 pos env h op=opStep pos env h op:=by
   cases op<;>first | rfl | (exact absurd rfl (h1 _ _ _))
  have e2:step (progL prog) r1 pos ts h op'=opStep pos ts h op':=by
   cases op'<;>first | rfl | (exact absurd rfl (h2 _ _ _))
  rw[e2,opStep_ren he hx,← e1]
  exact hs
theorem opRun_ok (hP:Readable prog) (hr:RunRef r2 r1) {μ:Mu} {env ts:List LV} (he:ERel μ env ts) {h:Heap} {op op' : LOp} {slot:Option Nat} {wh:Where} {v:LV} {h' : Heap} (hx:renOp μ op=some op') (hs:opRun prog r2 base op slot wh env h=some (v,h')) (dst:Option Nat) (g:Option (Nat × Bool)) :
  operRun (progL prog) r1 base (.mk dst op' g slot wh) ⟨ts,h⟩=some ⟨put ts dst v,h'⟩:=by
 unfold opRun at hs
 unfold operRun
 simp only[whereOk_ren he hx]
 split at hs
 ·rename_i hc
  rw[if_pos hc]
  simp only[stepS_ok hP hr he hx hs]
 ·cases hs
def GOpen (g:Option (Nat × Bool)) (ts:List LV):Prop:=∀ t b,g=some (t,b)→ts.getD t .undef=.c (.bool b)
theorem open_step {pr:Nat→Option LFunc} {r:Run} {o:LOper} {ts:List LV} {h:Heap} (hg:GOpen o.guard ts):operStep pr r base o ⟨ts,h⟩=operRun pr r base o ⟨ts,h⟩:=by
 unfold operStep
 split
 ·rfl
 ·rename_i t b hgu
  have:=hg t b hgu
  simp only[this]
  simp
mutual
theorem decN_lt {nt:Nat}:∀ {g:Option (Nat × Bool)} {n:SNode} {μ μ' : Mu} {L:List LOper},decN nt g n μ=some (L,μ')→∀ d ∈ dsts L,d<nt
 | g,.op d op slot wh,μ,μ',L,h=>by
  simp only[decN] at h
  split at h
  ·split at h
   ·rename_i hd
    simp only[Option.some.injEq,Prod.mk.injEq] at h
    obtain⟨rfl,rfl⟩:=h
    simpa[dsts] using hd
   ·cases h
  ·cases h
 | g,.eff op slot wh,μ,μ',L,h=>by
  simp only[decN] at h
  split at h
  ·simp only[Option.some.injEq,Prod.mk.injEq] at h
   obtain⟨rfl,rfl⟩:=h
   simp[dsts]
  ·cases h
 | g,.andN d c sub x,μ,μ',L,h=>by
  simp only[decN] at h
  split at h
  ·split at h
   ·rename_i L1 μ1 hL
    split at h
    ·split at h
     ·rename_i hd
      simp only[Bool.and_eq_true,decide_eq_true_eq] at hd
      simp only[Option.some.injEq,Prod.mk.injEq] at h
      obtain⟨rfl,rfl⟩:=h
      rw[dsts_append]
      intro e he
      rcases List.mem_append.1 he with he | he
      ·exact decNs_lt hL e he
      ·simp only[dsts,List.mem_singleton] at he
       subst he
       exact hd.1
     ·cases h
    ·cases h
   ·cases h
  ·cases h
 | g,.orN d c sub x,μ,μ',L,h=>by
  simp only[decN] at h
  split at h
  ·split at h
   ·rename_i L1 μ1 hL
    split at h
    ·split at h
     ·rename_i hd
      simp only[Bool.and_eq_true,decide_eq_true_eq] at hd
      simp only[Option.some.injEq,Prod.mk.injEq] at h
      obtain⟨rfl,rfl⟩:=h
      rw[dsts_append]
      intro e he
      rcases List.mem_append.1 he with he | he
      ·exact decNs_lt hL e he
      ·simp only[dsts,List.mem_singleton] at he
       subst he
       exact hd.1
     ·cases h
    ·cases h
   ·cases h
  ·cases h
theorem decNs_lt {nt:Nat}:∀ {g:Option (Nat × Bool)} {ns:List SNode} {μ μ' : Mu} {L:List LOper},decNs nt g ns μ=some (L,μ')→∀ d ∈ dsts L,d<nt
 | g,[],μ,μ',L,h=>by
  simp only[decNs,Option.some.injEq,Prod.mk.injEq] at h
  obtain⟨rfl,rfl⟩:=h
  simp[dsts]
 | g,n::ns,μ,μ',L,h=>by
  simp only[decNs] at h
  split at h
  ·rename_i L1 μ1 h1
   split at h
   ·rename_i L2 μ2 h2
    simp only[Option.some.injEq,Prod.mk.injEq] at h
    obtain⟨rfl,rfl⟩:=h
    rw[dsts_append]
    intro e he
    rcases List.mem_append.1 he with he | he
    ·exact decN_lt h1 e he
    ·exact decNs_lt h2 e he
   ·cases h
  ·cases h
end
theorem pick_step {pr:Nat→Option LFunc} {r:Run} {d:Nat} {c a b:LO} {g:Option (Nat × Bool)} {ts:List LV} {h:Heap} {t:Bool} (hg:GOpen g ts) (hc:ev ts c=.c (.bool t)) :
  operSteps pr r base [.mk (some d) (.pick c a b) g none .any] ⟨ts,h⟩=some ⟨ts.set d (if t then ev ts a else ev ts b),h⟩:=by
 simp only[operSteps]
 rw[open_step (o:=.mk (some d) (.pick c a b) g none .any) hg]
 simp[operRun,whereOk,memOpnd,slotOk,step,opStep,hc,ok,put]
mutual
theorem node_ok (hP:Readable prog) (hr:RunRef r2 r1) {nt:Nat}:∀ {n:SNode} {g:Option (Nat × Bool)} {μ μ' : Mu} {L:List LOper} {env ts:List LV} {h h' : Heap} {v:LV},decN nt g n μ=some (L,μ')→nt≤ts.length→ERel μ env ts→GOpen g ts →
  (∀ t b,g=some (t,b)→t ∉ dsts L)→evalN prog r2 base n env h=some (v,h')→∃ ts',operSteps (progL prog) r1 base L ⟨ts,h⟩=some ⟨ts',h'⟩∧ERel μ' (pushN n v env) ts'∧ts'.length=ts.length∧(∀ x,x ∉ dsts L→ts'.getD x .undef=ts.getD x .undef)
 | .op d op slot wh,g,μ,μ',L,env,ts,h,h',v,hd,hl,he,hg,hn,hs=>by
  simp only[decN] at hd
  split at hd
  ·rename_i op' hop
   split at hd
   ·rename_i hlt
    simp only[Option.some.injEq,Prod.mk.injEq] at hd
    obtain⟨rfl,rfl⟩:=hd
    simp only[evalN] at hs
    have:=opRun_ok hP hr he hop hs (some d) g
    refine⟨ts.set d v,?_,ERel.push (fun j t hj _=>he j t hj) (Nat.lt_of_lt_of_le hlt hl) rfl,by simp,fun x hx=>?_⟩
    ·simp only[operSteps]
     rw[open_step (o:=.mk (some d) op' g slot wh) hg,this]
     rfl
    ·simp only[dsts,List.mem_singleton] at hx
     exact getD_set_ne hx
   ·cases hd
  ·cases hd
 | .eff op slot wh,g,μ,μ',L,env,ts,h,h',v,hd,hl,he,hg,hn,hs=>by
  simp only[decN] at hd
  split at hd
  ·rename_i op' hop
   simp only[Option.some.injEq,Prod.mk.injEq] at hd
   obtain⟨rfl,rfl⟩:=hd
   simp only[evalN] at hs
   have:=opRun_ok hP hr he hop hs none g
   refine⟨ts,?_,he,rfl,fun x hx=>rfl⟩
   simp only[operSteps]
   rw[open_step (o:=.mk none op' g slot wh) hg,this]
   rfl
  ·cases hd
 | .andN d c sub x,g,μ,μ',L,env,ts,h,h',v,hd,hl,he,hg,hn,hs=>by
  simp only[decN] at hd
  split at hd
  ·rename_i t ht
   split at hd
   ·rename_i L1 μ1 hL
    split at hd
    ·rename_i x' hx
     split at hd
     ·rename_i hc
      simp only[Bool.and_eq_true,decide_eq_true_eq] at hc
      simp only[Option.some.injEq,Prod.mk.injEq] at hd
      obtain⟨rfl,rfl⟩:=hd
      simp only[evalN] at hs
      split at hs
      ·rename_i b hb
       have htb:ts.getD t .undef=.c (.bool b):=by rw[← he c t ht]; exact hb
       have hdl:d<ts.length:=Nat.lt_of_lt_of_le hc.1 hl
       simp only[dsts_append,dsts,List.mem_append,List.mem_singleton,not_or] at hn ⊢
       cases b with
       | true =>
        simp only[andK,if_true] at hs
        unfold bnd at hs
        split at hs
        ·rename_i s hs1
         obtain⟨env1,h1⟩:=s
         simp only[Option.some.injEq,Prod.mk.injEq] at hs
         obtain⟨rfl,rfl⟩:=hs
         have htn:t ∉ dsts L1:=(skip_ok (pr:=progL prog) (r:=r1) (base:=base) (h:=h) (ts:=ts.set t (.c (.bool false))) hc.2 (getD_set_selfS (by
           rcases Nat.lt_or_ge t ts.length with q | q
           ·exact q
           ·rw[List.getD_eq_getElem?_getD,List.getElem?_eq_none q] at htb; cases htb)) (by simp) (fun d' hd'=>by simpa using Nat.lt_of_lt_of_le (decNs_lt hL d' hd') hl)).choose_spec.2.2.2
         obtain⟨ts1,e1,e2,e3,e4⟩:=nodes_ok hP hr hL hl he (fun t0 b0 e=>by injection e with e; injection e with ea eb; subst ea eb; exact htb) (fun t0 b0 e=>by injection e with e; injection e with ea eb; subst ea; exact htn) hs1
         refine⟨ts1.set d (ev env1 x),?_,?_,by simp[e3],fun y hy=>?_⟩
         ·rw[operSteps_append e1,pick_step (t:=true) (fun t0 b0 e=>by rw[e4 t0 (hn t0 b0 e).1]; exact hg t0 b0 e) (by simp only[ev]; rw[e4 t htn]; exact htb)]
          simp only[if_true,renO_ev e2 hx]
         ·refine ERel.push (fun j t0 hj hne=>?_) (by rw[e3]; exact hdl) rfl
          obtain⟨hj1,hj2⟩:=killAll_get hj
          rw[e4 t0 hj2]
          exact he j t0 hj1
         ·rw[getD_set_ne hy.2,e4 y hy.1]
        ·cases hs
       | false =>
        simp only[andK,Bool.false_eq_true,if_false,Option.some.injEq,Prod.mk.injEq] at hs
        obtain⟨rfl,rfl⟩:=hs
        obtain⟨ts1,e1,e2,e3,e4⟩:=skip_ok (pr:=progL prog) (r:=r1) (base:=base) (h:=h) hc.2 htb (by simp) (fun d' hd'=>Nat.lt_of_lt_of_le (decNs_lt hL d' hd') hl)
        refine⟨ts1.set d (.c (.bool false)),?_,?_,by simp[e2],fun y hy=>?_⟩
        ·rw[operSteps_append e1,pick_step (t:=false) (fun t0 b0 e=>by rw[e3 t0 (hn t0 b0 e).1]; exact hg t0 b0 e) (by simp only[ev]; rw[e3 t e4]; exact htb)]
         rfl
        ·refine ERel.push (fun j t0 hj hne=>?_) (by rw[e2]; exact hdl) rfl
         obtain⟨hj1,hj2⟩:=killAll_get hj
         rw[e3 t0 hj2]
         exact he j t0 hj1
        ·rw[getD_set_ne hy.2,e3 y hy.1]
      ·cases hs
     ·cases hd
    ·cases hd
   ·cases hd
  ·cases hd
 | .orN d c sub x,g,μ,μ',L,env,ts,h,h',v,hd,hl,he,hg,hn,hs=>by
  simp only[decN] at hd
  split at hd
  ·rename_i t ht
   split at hd
   ·rename_i L1 μ1 hL
    split at hd
    ·rename_i x' hx
     split at hd
     ·rename_i hc
      simp only[Bool.and_eq_true,decide_eq_true_eq] at hc
      simp only[Option.some.injEq,Prod.mk.injEq] at hd
      obtain⟨rfl,rfl⟩:=hd
      simp only[evalN] at hs
      split at hs
      ·rename_i b hb
       have htb:ts.getD t .undef=.c (.bool b):=by rw[← he c t ht]; exact hb
       have hdl:d<ts.length:=Nat.lt_of_lt_of_le hc.1 hl
       simp only[dsts_append,dsts,List.mem_append,List.mem_singleton,not_or] at hn ⊢
       cases b with
       | false =>
        simp only[orK,Bool.false_eq_true,if_false] at hs
        unfold bnd at hs
        split at hs
        ·rename_i s hs1
         obtain⟨env1,h1⟩:=s
         simp only[Option.some.injEq,Prod.mk.injEq] at hs
         obtain⟨rfl,rfl⟩:=hs
         have htn:t ∉ dsts L1:=(skip_ok (pr:=progL prog) (r:=r1) (base:=base) (h:=h) (ts:=ts.set t (.c (.bool true))) hc.2 (getD_set_selfS (by
           rcases Nat.lt_or_ge t ts.length with q | q
           ·exact q
           ·rw[List.getD_eq_getElem?_getD,List.getElem?_eq_none q] at htb; cases htb)) (by simp) (fun d' hd'=>by simpa using Nat.lt_of_lt_of_le (decNs_lt hL d' hd') hl)).choose_spec.2.2.2
         obtain⟨ts1,e1,e2,e3,e4⟩:=nodes_ok hP hr hL hl he (fun t0 b0 e=>by injection e with e; injection e with ea eb; subst ea eb; exact htb) (fun t0 b0 e=>by injection e with e; injection e with ea eb; subst ea; exact htn) hs1
         refine⟨ts1.set d (ev env1 x),?_,?_,by simp[e3],fun y hy=>?_⟩
         ·rw[operSteps_append e1,pick_step (t:=false) (fun t0 b0 e=>by rw[e4 t0 (hn t0 b0 e).1]; exact hg t0 b0 e) (by simp only[ev]; rw[e4 t htn]; exact htb)]
          simp only[Bool.false_eq_true,if_false,renO_ev e2 hx]
         ·refine ERel.push (fun j t0 hj hne=>?_) (by rw[e3]; exact hdl) rfl
          obtain⟨hj1,hj2⟩:=killAll_get hj
          rw[e4 t0 hj2]
          exact he j t0 hj1
         ·rw[getD_set_ne hy.2,e4 y hy.1]
        ·cases hs
       | true =>
        simp only[orK,if_true,Option.some.injEq,Prod.mk.injEq] at hs
        obtain⟨rfl,rfl⟩:=hs
        obtain⟨ts1,e1,e2,e3,e4⟩:=skip_ok (pr:=progL prog) (r:=r1) (base:=base) (h:=h) hc.2 htb (by simp) (fun d' hd'=>Nat.lt_of_lt_of_le (decNs_lt hL d' hd') hl)
        refine⟨ts1.set d (.c (.bool true)),?_,?_,by simp[e2],fun y hy=>?_⟩
        ·rw[operSteps_append e1,pick_step (t:=true) (fun t0 b0 e=>by rw[e3 t0 (hn t0 b0 e).1]; exact hg t0 b0 e) (by simp only[ev]; rw[e3 t e4]; exact htb)]
         rfl
        ·refine ERel.push (fun j t0 hj hne=>?_) (by rw[e2]; exact hdl) rfl
         obtain⟨hj1,hj2⟩:=killAll_get hj
         rw[e3 t0 hj2]
         exact he j t0 hj1
        ·rw[getD_set_ne hy.2,e3 y hy.1]
      ·cases hs
     ·cases hd
    ·cases hd
   ·cases hd
  ·cases hd
theorem nodes_ok (hP:Readable prog) (hr:RunRef r2 r1) {nt:Nat}:∀ {ns:List SNode} {g:Option (Nat × Bool)} {μ μ' : Mu} {L:List LOper} {env ts env' : List LV} {h h' : Heap},decNs nt g ns μ=some (L,μ')→nt≤ts.length→ERel μ env ts→GOpen g ts →
  (∀ t b,g=some (t,b)→t ∉ dsts L)→runNs prog r2 base ns env h=some (env',h')→∃ ts',operSteps (progL prog) r1 base L ⟨ts,h⟩=some ⟨ts',h'⟩∧ERel μ' env' ts'∧ts'.length=ts.length∧(∀ x,x ∉ dsts L→ts'.getD x .undef=ts.getD x .undef)
 | [],g,μ,μ',L,env,ts,env',h,h',hd,hl,he,hg,hn,hs=>by
  simp only[decNs,Option.some.injEq,Prod.mk.injEq] at hd
  obtain⟨rfl,rfl⟩:=hd
  simp only[runNs,Option.some.injEq,Prod.mk.injEq] at hs
  obtain⟨rfl,rfl⟩:=hs
  exact⟨ts,rfl,he,rfl,fun _ _=>rfl⟩
 | n::ns,g,μ,μ',L,env,ts,env',h,h',hd,hl,he,hg,hn,hs=>by
  simp only[decNs] at hd
  split at hd
  ·rename_i L1 μ1 h1
   split at hd
   ·rename_i L2 μ2 h2
    simp only[Option.some.injEq,Prod.mk.injEq] at hd
    obtain⟨rfl,rfl⟩:=hd
    simp only[dsts_append,List.mem_append,not_or] at hn ⊢
    simp only[runNs] at hs
    unfold bnd at hs
    split at hs
    ·rename_i s hs1
     obtain⟨v,h3⟩:=s
     obtain⟨ts1,e1,e2,e3,e4⟩:=node_ok hP hr h1 hl he hg (fun t b e=>(hn t b e).1) hs1
     obtain⟨ts2,q1,q2,q3,q4⟩:=nodes_ok hP hr h2 (by rw[e3]; exact hl) e2 (fun t b e=>by rw[e4 t (hn t b e).1]; exact hg t b e) (fun t b e=>(hn t b e).2) hs
     exact⟨ts2,by rw[operSteps_append e1]; exact q1,q2,by rw[q3,e3],fun x hx=>by rw[q4 x hx.2,e4 x hx.1]⟩
    ·cases hs
   ·cases hd
  ·cases hd
end
theorem scrub_getD (n:Nat):∀ (l:List LV) (j:Nat),(scrub n l).getD j .undef=(if (l.getD j .undef).under n then l.getD j .undef else .undef)
 | [],j=>by simp[scrub]
 | v::r,0=>by simp[scrub]
 | v::r,j+1=>by simpa[scrub] using scrub_getD n r j
theorem scrub_lengthS (n:Nat):∀ (l:List LV),(scrub n l).length=l.length
 | []=>rfl
 | v::r=>by simp[scrub,scrub_lengthS n r]
theorem gc_erel {μ:Mu} {env ts:List LV} {h:Heap} (he:ERel μ env ts) (n:Nat):∃ env' ts' h',gc n ⟨env,h⟩=⟨env',h'⟩∧gc n ⟨ts,h⟩=⟨ts',h'⟩∧ERel μ env' ts'∧ts'.length=ts.length:=by
 unfold gc
 split
 ·refine⟨_,_,_,rfl,rfl,fun j t hj=>?_,scrub_lengthS n ts⟩
  rw[scrub_getD,scrub_getD,he j t hj]
 ·exact⟨_,_,_,rfl,rfl,he,rfl⟩
theorem execS_ok (hP:Readable prog) (hr:RunRef r2 r1) (ri:RunI):RunRef (execS prog r2) (exec (progL prog) r1 ri):=by
 intro nt ρ Γ c2
 induction c2 generalizing Γ with
 | skip =>
  intro μ c1 m hd env h ts ex s2 he hl hs
  simp only[decC,Option.some.injEq,Prod.mk.injEq] at hd
  obtain⟨rfl,rfl⟩:=hd
  simp only[execS,Option.some.injEq,Prod.mk.injEq] at hs
  obtain⟨rfl,rfl⟩:=hs
  exact⟨ts,rfl,hl,μ,rfl,he⟩
 | ret =>
  intro μ c1 m hd env h ts ex s2 he hl hs
  simp only[decC] at hd
  split at hd
  ·rename_i e
   subst e
   simp only[Option.some.injEq,Prod.mk.injEq] at hd
   obtain⟨rfl,rfl⟩:=hd
   simp only[execS,Option.some.injEq,Prod.mk.injEq] at hs
   obtain⟨rfl,rfl⟩:=hs
   exact⟨ts,rfl,hl,he⟩
  ·cases hd
 | exit id =>
  intro μ c1 m hd env h ts ex s2 he hl hs
  simp only[decC] at hd
  split at hd
  ·rename_i m' hm
   split at hd
   ·rename_i e
    subst e
    simp only[Option.some.injEq,Prod.mk.injEq] at hd
    obtain⟨rfl,rfl⟩:=hd
    simp only[execS,Option.some.injEq,Prod.mk.injEq] at hs
    obtain⟨rfl,rfl⟩:=hs
    exact⟨ts,rfl,hl,_,hm,he⟩
   ·cases hd
  ·cases hd
 | seq a b iha ihb =>
  intro μ c1 m hd env h ts ex s2 he hl hs
  simp only[decC] at hd
  split at hd
  ·rename_i a' ma ha
   split at hd
   ·rename_i b' mb hb
    simp only[Option.some.injEq,Prod.mk.injEq] at hd
    obtain⟨rfl,rfl⟩:=hd
    simp only[execS,exec] at hs ⊢
    unfold seqK at hs
    split at hs
    ·rename_i s hsa
     obtain⟨ts1,e1,e2,μ',hμ,e3⟩:=iha _ μ a' ma ha env h ts .normal s he hl hsa
     subst hμ
     rw[e1]
     exact ihb _ μ' b' mb hb s.tmps s.heap ts1 ex s2 e3 e2 hs
    ·rename_i id s hsa
     simp only[Option.some.injEq,Prod.mk.injEq] at hs
     obtain⟨rfl,rfl⟩:=hs
     obtain⟨ts1,e1,e2,e3⟩:=iha _ μ a' ma ha env h ts (.exit id) s he hl hsa
     exact⟨ts1,by rw[e1],e2,e3⟩
    ·rename_i s hsa
     simp only[Option.some.injEq,Prod.mk.injEq] at hs
     obtain⟨rfl,rfl⟩:=hs
     obtain⟨ts1,e1,e2,e3⟩:=iha _ μ a' ma ha env h ts .ret s he hl hsa
     exact⟨ts1,by rw[e1],e2,e3⟩
    ·cases hs
   ·cases hd
  ·cases hd
 | cond c a b iha ihb =>
  intro μ c1 m hd env h ts ex s2 he hl hs
  simp only[decC] at hd
  split at hd
  ·rename_i c' a' ma b' mb hc ha hb
   split at hd
   ·rename_i j hj
    simp only[Option.some.injEq,Prod.mk.injEq] at hd
    obtain⟨rfl,rfl⟩:=hd
    simp only[execS,exec] at hs ⊢
    unfold condK at hs
    rw[renO_ev he hc]
    split at hs
    ·rename_i t ht
     simp only[ht]
     cases t with
     | true =>
      simp only[if_true] at hs
      obtain⟨ts1,e1,e2,e3⟩:=iha _ μ a' ma ha env h ts ex s2 he hl hs
      refine⟨ts1,e1,e2,?_⟩
      cases ex with
      | normal=>obtain⟨μ',hμ,e4⟩:=e3; exact⟨μ',(joinM_left hj).1 _ hμ,e4⟩
      | exit id=>exact e3
      | ret=>exact e3
     | false =>
      simp only[Bool.false_eq_true,if_false] at hs
      obtain⟨ts1,e1,e2,e3⟩:=ihb _ μ b' mb hb env h ts ex s2 he hl hs
      refine⟨ts1,e1,e2,?_⟩
      cases ex with
      | normal=>obtain⟨μ',hμ,e4⟩:=e3; exact⟨μ',(joinM_left hj).2 _ hμ,e4⟩
      | exit id=>exact e3
      | ret=>exact e3
    ·cases hs
   ·cases hd
  ·cases hd
 | block id ex0 a iha =>
  intro μ c1 m hd env h ts ex s2 he hl hs
  simp only[decC] at hd
  split at hd
  ·rename_i a' ma ha
   split at hd
   ·rename_i j hj
    simp only[Option.some.injEq,Prod.mk.injEq] at hd
    obtain⟨rfl,rfl⟩:=hd
    obtain⟨hj1,hj2⟩:=joinM_some hj
    simp only[execS,exec] at hs ⊢
    unfold blockK at hs
    split at hs
    ·rename_i id' s hsa
     obtain⟨ts1,e1,e2,μ',hμ,e3⟩:=iha _ μ a' ma ha env h ts (.exit id') s he hl hsa
     rw[e1]
     simp only[lookupM] at hμ
     split at hs
     ·rename_i hid
      subst hid
      simp only[Option.some.injEq,Prod.mk.injEq] at hs
      obtain⟨rfl,rfl⟩:=hs
      rw[if_pos rfl] at hμ
      injection hμ with hμ
      subst hμ
      exact⟨ts1,by simp,e2,_,hj1,e3⟩
     ·rename_i hid
      simp only[Option.some.injEq,Prod.mk.injEq] at hs
      obtain⟨rfl,rfl⟩:=hs
      rw[if_neg (fun e=>hid e.symm)] at hμ
      exact⟨ts1,by simp[hid],e2,μ',hμ,e3⟩
    ·rename_i s hsa
     simp only[Option.some.injEq,Prod.mk.injEq] at hs
     obtain⟨rfl,rfl⟩:=hs
     obtain⟨ts1,e1,e2,μ',hμ,e3⟩:=iha _ μ a' ma ha env h ts .normal s he hl hsa
     have:=hj2 μ' hμ
     subst this
     exact⟨ts1,by rw[e1],e2,_,hj1,e3⟩
    ·rename_i s hsa
     simp only[Option.some.injEq,Prod.mk.injEq] at hs
     obtain⟨rfl,rfl⟩:=hs
     obtain⟨ts1,e1,e2,e3⟩:=iha _ μ a' ma ha env h ts .ret s he hl hsa
     exact⟨ts1,by rw[e1],e2,e3⟩
    ·cases hs
   ·cases hd
  ·cases hd
 | loop g a iha =>
  intro μ c1 m hd env h ts ex s2 he hl hs
  have hd0:=hd
  simp only[decC] at hd
  split at hd
  ·rename_i a' ma ha
   split at hd
   ·rename_i j hj
    simp only[Option.some.injEq,Prod.mk.injEq] at hd
    obtain⟨rfl,rfl⟩:=hd
    obtain⟨hj1,hj2⟩:=joinM_some hj
    simp only[execS,exec] at hs ⊢
    unfold seqK at hs
    split at hs
    ·rename_i s hsa
     obtain⟨ts1,e1,e2,μ',hμ,e3⟩:=iha _ μ a' ma ha env h ts .normal s he hl hsa
     have:=hj2 μ' hμ
     subst this
     rw[e1]
     simp only
     obtain⟨env3,ts3,h3,g1,g2,g3,g4⟩ : ∃ env3 ts3 h3,(if g then gc h.length s else s)=⟨env3,h3⟩∧(if g then gc h.length ⟨ts1,s.heap⟩ else ⟨ts1,s.heap⟩)=(⟨ts3,h3⟩ : St)∧ERel μ' env3 ts3∧nt≤ts3.length:=by
      cases g with
      | true =>
       obtain⟨a1,a2,a3,q1,q2,q3,q4⟩:=gc_erel (h:=s.heap) e3 h.length
       exact⟨a1,a2,a3,q1,q2,q3,by rw[q4]; exact e2⟩
      | false=>exact⟨_,_,_,rfl,rfl,e3,e2⟩
     replace hs:r2 (.loop g a) (if g then gc h.length s else s)=some (ex,s2):=hs
     rw[g1] at hs
     rw[g2]
     exact hr nt ρ _ (.loop g a) μ' (.loop g a') none hd0 env3 h3 ts3 ex s2 g3 g4 hs
    ·rename_i id s hsa
     simp only[Option.some.injEq,Prod.mk.injEq] at hs
     obtain⟨rfl,rfl⟩:=hs
     obtain⟨ts1,e1,e2,e3⟩:=iha _ μ a' ma ha env h ts (.exit id) s he hl hsa
     exact⟨ts1,by rw[e1],e2,e3⟩
    ·rename_i s hsa
     simp only[Option.some.injEq,Prod.mk.injEq] at hs
     obtain⟨rfl,rfl⟩:=hs
     obtain⟨ts1,e1,e2,e3⟩:=iha _ μ a' ma ha env h ts .ret s he hl hsa
     exact⟨ts1,by rw[e1],e2,e3⟩
    ·cases hs
   ·cases hd
  ·cases hd
 | region ns sel =>
  intro μ c1 m hd env h ts ex s2 he hl hs
  simp only[decC] at hd
  split at hd
  ·rename_i L μ1 hL
   simp only[Option.some.injEq,Prod.mk.injEq] at hd
   obtain⟨rfl,rfl⟩:=hd
   simp only[execS,exec] at hs ⊢
   unfold bnd at hs
   split at hs
   ·rename_i s hs1
    obtain⟨env1,h1⟩:=s
    simp only[Option.some.injEq,Prod.mk.injEq] at hs
    obtain⟨rfl,rfl⟩:=hs
    obtain⟨ts1,e1,e2,e3,_⟩:=nodes_ok hP hr hL hl he (fun _ _ e=>by cases e) (fun _ _ e=>by cases e) hs1
    exact⟨ts1,by rw[e1],by rw[e3]; exact hl,_,rfl,e2.sel sel⟩
   ·cases hs
  ·cases hd
 | draw k ns sel =>
  intro μ c1 m hd env h ts ex s2 he hl hs
  simp only[decC] at hd
  split at hd
  ·rename_i L μ1 hL
   simp only[Option.some.injEq,Prod.mk.injEq] at hd
   obtain⟨rfl,rfl⟩:=hd
   simp only[execS,exec] at hs ⊢
   unfold bnd at hs
   split at hs
   ·rename_i s hs1
    obtain⟨env1,h1⟩:=s
    simp only[Option.some.injEq,Prod.mk.injEq] at hs
    obtain⟨rfl,rfl⟩:=hs
    obtain⟨ts1,e1,e2,e3,_⟩:=nodes_ok hP hr hL hl he (fun _ _ e=>by cases e) (fun _ _ e=>by cases e) hs1
    exact⟨ts1,by rw[e1],by rw[e3]; exact hl,_,rfl,e2.sel sel⟩
   ·cases hs
  ·cases hd
 | pre sel a iha =>
  intro μ c1 m hd env h ts ex s2 he hl hs
  simp only[decC] at hd
  simp only[execS] at hs
  exact iha _ (selM sel μ) c1 m hd (selE sel env) h ts ex s2 (he.sel sel) hl hs
 | dead c =>
  intro μ c1 m hd
  simp[decC] at hd
theorem runS_ok (hP:Readable prog):∀ n,RunRef (runS prog n) (run (progL prog) n)
 | 0=>fun _ _ _ _ _ _ _ _ _ _ _ _ _ _ _ hs=>by simp[runS] at hs
 | n+1=>execS_ok hP (runS_ok hP n) _
theorem pcallS_ok (hP:Readable prog) {n f:Nat} {args:List CV} {v:CV} (hs:pcallS prog n f args=some v):pcall (progL prog) n f args=some v:=by
 unfold pcallS at hs
 unfold pcall
 have hpl:∀ F,prog f=some F→progL prog f=decF F:=fun F hF=>by unfold progL; rw[hF]
 split at hs
 ·rename_i g hp
  rw[hpl _ hp]
  exact hs
 ·rename_i nt np ρ rs body hp
  obtain⟨L,hL⟩:=hP f _ hp
  rw[hpl _ hp,hL]
  obtain⟨rs',b,rfl,hc⟩:=pureS_ok (runS_ok hP n) hL hs
  exact hc
 ·cases hs
end
end LM
namespace LM
open Go
def RLeS (r r' : RunS):Prop:=∀ c s x,r c s=some x→r' c s=some x
structure ScottS {α:Type} (rs:Nat→RunS) (l:RunS) (G:RunS→Option α):Prop where
 mono:∀ r r' x,RLeS r r'→G r=some x→G r'=some x
 cont:∀ x,G l=some x→∃ n,G (rs n)=some x
structure ChainS (rs:Nat→RunS) (l:RunS):Prop where
 le:∀ i j,i≤j→RLeS (rs i) (rs j)
 lim:∀ c s x,l c s=some x→∃ n,rs n c s=some x
section
variable {rs:Nat→RunS} {l:RunS} {α β:Type} {prog:Nat→Option SFunc}
theorem ScottS.const (x:Option α):ScottS rs l (fun _=>x):=⟨fun _ _ _ _ h=>h,fun _ h=>⟨0,h⟩⟩
theorem ScottS.elim {G:RunS→Option α} {K:α→RunS→Option β} (hch:ChainS rs l) (hG:ScottS rs l G) (hK:∀ a,ScottS rs l (K a)):ScottS rs l (fun r=>bnd (G r) fun a=>K a r):=by
 refine⟨fun r r' x hr h=>?_,fun x h=>?_⟩
 ·cases hg:G r with
  | none=>simp only[bnd,hg] at h; cases h
  | some a =>
   simp only[bnd,hg] at h
   simp only[bnd,hG.mono r r' a hr hg]
   exact (hK a).mono r r' x hr h
 ·cases hg:G l with
  | none=>simp only[bnd,hg] at h; cases h
  | some a =>
   simp only[bnd,hg] at h
   obtain⟨n,hn⟩:=hG.cont a hg
   obtain⟨m,hm⟩:=(hK a).cont x h
   refine⟨Nat.max n m,?_⟩
   simp only[bnd,hG.mono _ _ a (hch.le n _ (Nat.le_max_left n m)) hn]
   exact (hK a).mono _ _ x (hch.le m _ (Nat.le_max_right n m)) hm
theorem ScottS.of_eq {G G' : RunS→Option α} (h:ScottS rs l G) (e:∀ r,G' r=G r):ScottS rs l G':=by
 have:G'=G:=funext e
 rw[this]; exact h
theorem ChainS.call (h:ChainS rs l) (c:SCode) (s:St):ScottS rs l (fun r=>r c s) :=
 ⟨fun _ _ x hr h=>hr c s x h,fun x hx=>h.lim c s x hx⟩
theorem scottS_pure (h:ChainS rs l) (res:List LRes) (body:SCode) (args:List CV):ScottS rs l (fun r=>pureS r res body args) :=
 (ScottS.elim h (h.call body ⟨args.map .c,[]⟩) (K:=fun x r=>match x.1 with
   | .exit _=>none
   | _=>match resultV x.2 res with
    | some v=>match frz frzDepth v x.2.heap with
     | some (c,_)=>some c
     | none=>none
    | none=>none) (fun a=>ScottS.const _)).of_eq fun r=>by
  unfold pureS
  cases r body ⟨args.map .c,[]⟩<;>rfl
theorem scottS_fresh (h:ChainS rs l) (res:List LRes) (body:SCode) (args:List CV):ScottS rs l (fun r=>freshS r res body args) :=
 (ScottS.elim h (h.call body ⟨args.map .c,[]⟩) (K:=fun x r=>match x.1 with
   | .exit _=>none
   | _=>match resultV x.2 res with
    | some v=>some (v,x.2.heap)
    | none=>none) (fun a=>ScottS.const _)).of_eq fun r=>by
  unfold freshS
  cases r body ⟨args.map .c,[]⟩<;>rfl
theorem scottS_shared (h:ChainS rs l) (res:List LRes) (body:SCode) (args:List LV) (hp:Heap):ScottS rs l (fun r=>sharedS r res body args hp) :=
 (ScottS.elim h (h.call body ⟨args,hp⟩) (K:=fun x r=>match x.1 with
   | .exit _=>none
   | _=>match resultV x.2 res with
    | some v=>some (v,x.2.heap)
    | none=>none) (fun a=>ScottS.const _)).of_eq fun r=>by
  unfold sharedS
  cases r body ⟨args,hp⟩<;>rfl
theorem scottS_callS (h:ChainS rs l) (pos:Option Nat) (quiet:Bool) (f:Nat) (args:List LV) (hp:Heap):ScottS rs l (fun r=>callS prog r pos quiet f args hp):=by
 unfold callS
 split
 ·exact ScottS.const _
 ·exact ScottS.const _
 ·split
  ·exact ScottS.const _
  ·rename_i cs h' _
   exact (ScottS.elim h (scottS_pure h _ _ cs) (K:=fun v r=>some (LV.c v,if scalarC v then hp else h')) (fun _=>ScottS.const _)).of_eq fun r=>by
    cases pureS r _ _ cs<;>rfl
 ·exact ScottS.const _
 ·split
  ·exact ScottS.const _
  ·split
   ·exact ScottS.const _
   ·rename_i cs h' _
    exact (ScottS.elim h (scottS_fresh h _ _ cs) (K:=fun x r=>importB pos _ x.1 x.2 h') (fun _=>ScottS.const _)).of_eq fun r=>by
     cases freshS r _ _ cs<;>rfl
 ·split
  ·exact ScottS.const _
  ·split
   ·exact ScottS.const _
   ·exact scottS_shared h _ _ _ _
 ·split
  ·exact ScottS.const _
  ·exact scottS_shared h _ _ _ _
theorem scottS_step (h:ChainS rs l) (pos:Option Nat) (env:List LV) (hp:Heap) (op:LOp):ScottS rs l (fun r=>stepS prog r pos env hp op):=by
 unfold stepS
 split
 ·split
  ·exact scottS_callS h _ _ _ _ _
  ·exact ScottS.const _
 ·exact ScottS.const _
theorem scottS_opRun (h:ChainS rs l) (base:Nat) (op:LOp) (slot:Option Nat) (wh:Where) (env:List LV) (hp:Heap):ScottS rs l (fun r=>opRun prog r base op slot wh env hp):=by
 unfold opRun
 split
 ·exact scottS_step h _ _ _ _
 ·exact ScottS.const _
mutual
theorem scottS_node (h:ChainS rs l) (base:Nat):∀ (n:SNode) (env:List LV) (hp:Heap),ScottS rs l (fun r=>evalN prog r base n env hp)
 | .op _ op slot wh,env,hp=>by simp only[evalN]; exact scottS_opRun h _ _ _ _ _ _
 | .eff op slot wh,env,hp=>by simp only[evalN]; exact scottS_opRun h _ _ _ _ _ _
 | .andN _ c sub x,env,hp=>by
  simp only[evalN]
  split
  ·rename_i b _
   unfold andK
   split
   ·exact ScottS.elim h (scottS_nodes h base sub env hp) (K:=fun s r=>some (ev s.1 x,s.2)) (fun _=>ScottS.const _)
   ·exact ScottS.const _
  ·exact ScottS.const _
 | .orN _ c sub x,env,hp=>by
  simp only[evalN]
  split
  ·rename_i b _
   unfold orK
   split
   ·exact ScottS.const _
   ·exact ScottS.elim h (scottS_nodes h base sub env hp) (K:=fun s r=>some (ev s.1 x,s.2)) (fun _=>ScottS.const _)
  ·exact ScottS.const _
theorem scottS_nodes (h:ChainS rs l) (base:Nat):∀ (ns:List SNode) (env:List LV) (hp:Heap),ScottS rs l (fun r=>runNs prog r base ns env hp)
 | [],env,hp=>by simp only[runNs]; exact ScottS.const _
 | n::ns,env,hp=>by
  simp only[runNs]
  exact ScottS.elim h (scottS_node h base n env hp) (K:=fun s r=>runNs prog r base ns (pushN n s.1 env) s.2) (fun s=>scottS_nodes h base ns _ _)
end
theorem seqK_eq (x:Option (Ex × St)) (k:St→Option (Ex × St)):seqK x k=bnd x fun a=>match a.1 with
  | .normal=>k a.2
  | ex=>some (ex,a.2):=by
 rcases x with _ | ⟨ex,s⟩
 ·rfl
 ·cases ex<;>rfl
theorem scottS_exec (h:ChainS rs l):∀ (c:SCode) (s:St),ScottS rs l (fun r=>execS prog r c s)
 | .skip,s=>ScottS.const _
 | .ret,s=>ScottS.const _
 | .exit id,s=>ScottS.const _
 | .dead _,s=>ScottS.const _
 | .seq a b,s=>(ScottS.elim h (scottS_exec h a s) (K:=fun x r=>match x.1 with
    | .normal=>execS prog r b x.2
    | ex=>some (ex,x.2)) (fun x=>by
     split
     ·exact scottS_exec h b x.2
     ·exact ScottS.const _)).of_eq fun r=>by
   simp only[execS]
   exact seqK_eq _ _
 | .cond c a b,s=>by
   simp only[execS]
   unfold condK
   split
   ·split
    ·exact scottS_exec h a s
    ·exact scottS_exec h b s
   ·exact ScottS.const _
 | .block id _ a,s=>(ScottS.elim h (scottS_exec h a s) (K:=fun x r=>match x.1 with
    | .exit id'=>if id'=id then some (.normal,x.2) else some (.exit id',x.2)
    | ex=>some (ex,x.2)) (fun x=>ScottS.const _)).of_eq fun r=>by
   simp only[execS]
   rcases execS prog r a s with _ | ⟨ex,s'⟩
   ·rfl
   ·cases ex<;>rfl
 | .loop g a,s=>(ScottS.elim h (scottS_exec h a s) (K:=fun x r=>match x.1 with
    | .normal=>r (.loop g a) (if g then gc s.heap.length x.2 else x.2)
    | ex=>some (ex,x.2)) (fun x=>by
     split
     ·exact h.call _ _
     ·exact ScottS.const _)).of_eq fun r=>by
   simp only[execS]
   exact seqK_eq _ _
 | .region ns sel,s=>by
   simp only[execS]
   exact ScottS.elim h (scottS_nodes h 0 ns s.tmps s.heap) (K:=fun e r=>some (Ex.normal,(⟨selE sel e.1,e.2⟩ : St))) (fun _=>ScottS.const _)
 | .draw k ns sel,s=>by
   simp only[execS]
   exact ScottS.elim h (scottS_nodes h s.heap.length ns s.tmps (s.heap++List.replicate k .dead)) (K:=fun e r=>some (Ex.normal,(⟨selE sel e.1,e.2⟩ : St))) (fun _=>ScottS.const _)
 | .pre sel a,s=>by
   simp only[execS]
   exact scottS_exec h a _
end
open Classical in
noncomputable def limS (prog:Nat→Option SFunc):RunS:=fun c s =>
 if h:∃ x n,runS prog n c s=some x then some h.choose else none
section
variable {prog:Nat→Option SFunc}
theorem execS_mono {r r' : RunS} (hr:RLeS r r') {c:SCode} {s:St} {x:Ex × St} (h:execS prog r c s=some x):execS prog r' c s=some x :=
 (scottS_exec (prog:=prog) (rs:=fun _=>r) (l:=r) ⟨fun _ _ _ _ _ _ h=>h,fun _ _ _ h=>⟨0,h⟩⟩ c s).mono r r' x hr h
theorem runS_succ_le:∀ n,RLeS (runS prog n) (runS prog (n+1))
 | 0=>fun _ _ _ h=>by simp[runS] at h
 | n+1=>fun _ _ _ h=>execS_mono (runS_succ_le n) h
theorem runS_le:∀ i j,i≤j→RLeS (runS prog i) (runS prog j)
 | i,j,h=>by
  induction h with
  | refl=>exact fun _ _ _ h=>h
  | step _ ih=>exact fun c s x h=>runS_succ_le _ c s x (ih c s x h)
theorem runS_unique {i j:Nat} {c:SCode} {s:St} {x y:Ex × St} (hx:runS prog i c s=some x) (hy:runS prog j c s=some y):x=y:=by
 have h1:=runS_le i (Nat.max i j) (Nat.le_max_left i j) c s x hx
 have h2:=runS_le j (Nat.max i j) (Nat.le_max_right i j) c s y hy
 rw[h1] at h2
 exact Option.some.inj h2
theorem limS_iff {c:SCode} {s:St} {x:Ex × St}:limS prog c s=some x↔∃ n,runS prog n c s=some x:=by
 unfold limS
 constructor
 ·intro h
  split at h
  ·rename_i hx
   injection h with h
   subst h
   exact hx.choose_spec
  ·cases h
 ·rintro⟨n,hn⟩
  have hx:∃ x n,runS prog n c s=some x:=⟨x,n,hn⟩
  rw[dif_pos hx]
  obtain⟨m,hm⟩:=hx.choose_spec
  exact congrArg some (runS_unique hm hn)
theorem limS_chain:ChainS (runS prog) (limS prog):=⟨runS_le,fun _ _ _ h=>limS_iff.1 h⟩
theorem limS_exec (c:SCode) (s:St):limS prog c s=execS prog (limS prog) c s:=by
 apply Option.ext
 intro x
 constructor
 ·intro h
  obtain⟨n,hn⟩:=limS_iff.1 h
  have:=runS_succ_le n c s x hn
  exact execS_mono (fun c s x h=>limS_iff.2 ⟨n,h⟩) this
 ·intro h
  obtain⟨n,hn⟩:=(scottS_exec limS_chain c s).cont x h
  exact limS_iff.2 ⟨n+1,hn⟩
noncomputable def fn (prog:Nat→Option SFunc) (f:Nat) (args:List CV):Option CV :=
 match prog f with
 | some (.prim g)=>g args
 | some (.code .pure _ _ _ rs body)=>pureS (limS prog) rs body args
 | _=>none
noncomputable def ffn (prog:Nat→Option SFunc) (f:Nat) (args:List CV):Option (LV × List LB) :=
 match prog f with
 | some (.fprim _ g)=>g args
 | some (.code (.fresh _) _ _ _ rs body)=>freshS (limS prog) rs body args
 | _=>none
noncomputable def sfn (prog:Nat→Option SFunc) (f:Nat) (args:List LV) (h:Heap):R :=
 match prog f with
 | some (.code .shared _ _ _ rs body)=>sharedS (limS prog) rs body args h
 | some (.code .live _ _ _ rs body)=>sharedS (limS prog) rs body args h
 | _=>none
theorem fn_pcallS {f:Nat} {args:List CV} {v:CV} (h:fn prog f args=some v):∃ n,pcallS prog n f args=some v:=by
 unfold fn at h
 unfold pcallS
 rcases hp:prog f with _ | ⟨m,nt,np,ρ,rs,body⟩ | g | ⟨k,g⟩
 ·rw[hp] at h; cases h
 ·rw[hp] at h
  cases m with
  | pure=>exact (scottS_pure limS_chain _ _ args).cont v h
  | fresh k=>cases h
  | shared=>cases h
  | live=>cases h
 ·rw[hp] at h; exact⟨0,h⟩
 ·rw[hp] at h; cases h
theorem fn_pcall (hP:Readable prog) {f:Nat} {args:List CV} {v:CV} (h:fn prog f args=some v):∃ n,pcall (progL prog) n f args=some v :=
 let ⟨n,hn⟩:=fn_pcallS h
 ⟨n,pcallS_ok hP hn⟩
end
end LM
namespace LM
open Go Go.RowKit
variable {P:Program} {H:Hints}
def TabOk (P:Program) (H:Hints):List (Nat × SFunc)→Prop
 | []=>True
 | (f,F)::r=>(cFunc P H f=decF F∧(decF F).isSome=true)∧TabOk P H r
def LTabOk (P:Program) (H:Hints):List (Nat × LFunc)→Prop
 | []=>True
 | (f,F)::r=>cFunc P H f=some F∧LTabOk P H r
theorem TabOk.get:∀ {l:List (Nat × SFunc)},TabOk P H l→∀ {f F},lookupPrim f l=some F→cFunc P H f=decF F∧(decF F).isSome=true
 | [],_,f,F,h=>by simp[lookupPrim] at h
 | (g,G)::r,ht,f,F,h=>by
  simp only[lookupPrim] at h
  split at h
  ·rename_i e
   subst e
   simp only[Option.some.injEq] at h
   subst h
   exact ht.1
  ·exact TabOk.get ht.2 h
theorem LTabOk.get:∀ {l:List (Nat × LFunc)},LTabOk P H l→∀ {f F},lookupPrim f l=some F→cFunc P H f=some F
 | [],_,f,F,h=>by simp[lookupPrim] at h
 | (g,G)::r,ht,f,F,h=>by
  simp only[lookupPrim] at h
  split at h
  ·rename_i e
   subst e
   simp only[Option.some.injEq] at h
   subst h
   exact ht.1
  ·exact LTabOk.get ht.2 h
theorem TabOk.append:∀ {l r:List (Nat × SFunc)},TabOk P H l→TabOk P H r→TabOk P H (l++r)
 | [],_,_,h=>h
 | _::_,_,h,k=>⟨h.1,h.2.append k⟩
theorem lookup_append {α:Type} {f:Nat} {F:α}:∀ {l r:List (Nat × α)},lookupPrim f l=some F→lookupPrim f (l++r)=some F
 | [],_,h=>by simp[lookupPrim] at h
 | (g,G)::l,r,h=>by
  simp only[lookupPrim,List.cons_append] at h ⊢
  split at h
  ·rename_i e; rw[if_pos e]; exact h
  ·rename_i e; rw[if_neg e]; exact lookup_append h
def mixL (L:List (Nat × LFunc)) (S:List (Nat × SFunc)):Nat→Option LFunc:=fun f=>match lookupPrim f L with
 | some x=>some x
 | none=>progL (lookupPrim · S) f
theorem mix_ok {L:List (Nat × LFunc)} {S:List (Nat × SFunc)} (hL:LTabOk P H L) (hS:TabOk P H S) (hp:∀ f g,lookupPrim f H.prims=some g→PrimOk P f g) (hq:∀ f k g,lookupPrim f H.fprims=some (k,g)→FprimOk P f g) (hm:P.follows .mixedOrders=true):ProgOk P H (mixL L S):=by
 refine⟨fun f lf h=>?_,hp,hq,hm⟩
 unfold mixL at h
 split at h
 ·rename_i x hx
  simp only[Option.some.injEq] at h
  subst h
  exact hL.get hx
 ·unfold progL at h
  split at h
  ·rename_i F hF
   rw[(hS.get hF).1]
   exact h
  ·cases h
theorem tab_ok {S:List (Nat × SFunc)} (hS:TabOk P H S) (hp:∀ f g,lookupPrim f H.prims=some g→PrimOk P f g) (hq:∀ f k g,lookupPrim f H.fprims=some (k,g)→FprimOk P f g) (hm:P.follows .mixedOrders=true):ProgOk P H (progL (lookupPrim · S)) :=
 mix_ok (L:=[]) trivial hS hp hq hm
theorem tab_readable {S:List (Nat × SFunc)} (hS:TabOk P H S):Readable (lookupPrim · S):=fun _ _ h=>Option.isSome_iff_exists.1 (hS.get h).2
theorem primOk_of_pcall {prog:Nat→Option LFunc} (hP:ProgOk P H prog) {f n:Nat} (he:Enters P f):PrimOk P f (fun args=>pcall prog n f args) :=
 ⟨he,fun _ _ _ _ _ hF ha hg=>pcall_calls hP hF ha hg⟩
theorem cFunc_enters {f nt:Nat} {m:FMode} {rs:List LRes} {b:LCode} (h:cFunc P H f=some (.code m nt rs b)):Enters P f:=by
 rcases cFunc_inv h with ⟨g',e,_⟩ | ⟨k,g',e,_⟩ | ⟨fn,c,rs',e,hfn,hb,hrs,he⟩
 ·cases e
 ·cases e
 ·exact he
end LM
namespace LM
open Go
def PLe (p p' : Nat→Option LFunc):Prop:=∀ f F,p f=some F→p' f=some F
def RLe (r r' : Run):Prop:=∀ c s x,r c s=some x→r' c s=some x
def HLe (y y' : Hand):Prop:=∀ a h x,y a h=some x→y' a h=some x
def RLeI (ri ri' : RunI):Prop:=∀ y y',HLe y y'→∀ c s p x,ri y c s p=some x→ri' y' c s p=some x
section
variable {p p' : Nat→Option LFunc} {r r' : Run} {ri ri' : RunI}
theorem pureCall_le (hr:RLe r r') {nt:Nat} {rs:List LRes} {b:LCode} {args:List CV} {v:CV} (h:pureCall r nt rs b args=some v):pureCall r' nt rs b args=some v:=by
 unfold pureCall at h ⊢
 cases hb:r b ⟨pad nt (args.map .c),[]⟩ with
 | none=>rw[hb] at h; cases h
 | some x=>rw[hb] at h; rw[hr _ _ _ hb]; exact h
theorem freshCall_le (hr:RLe r r') {nt:Nat} {rs:List LRes} {b:LCode} {args:List CV} {v:LV × List LB} (h:freshCall r nt rs b args=some v):freshCall r' nt rs b args=some v:=by
 unfold freshCall at h ⊢
 cases hb:r b ⟨pad nt (args.map .c),[]⟩ with
 | none=>rw[hb] at h; cases h
 | some x=>rw[hb] at h; rw[hr _ _ _ hb]; exact h
theorem callF_le (hp:PLe p p') (hr:RLe r r') {pos:Option Nat} {q:Bool} {f:Nat} {args:List LV} {h:Heap} {x:LV × Heap} (hs:callF p r pos q f args h=some x):callF p' r' pos q f args h=some x:=by
 unfold callF at hs ⊢
 cases hf:p f with
 | none=>rw[hf] at hs; cases hs
 | some F =>
  rw[hf] at hs
  rw[hp f F hf]
  cases F with
  | prim g=>exact hs
  | fprim k g=>exact hs
  | code m nt rs b =>
   cases m with
   | pure =>
    simp only at hs ⊢
    split at hs
    ·cases hs
    ·rename_i cs h' ha
     split at hs
     ·cases hs
     ·rename_i v hv
      rw[pureCall_le hr hv]
      exact hs
   | fresh k =>
    simp only at hs ⊢
    split at hs
    ·cases hs
    ·rename_i hq
     rw[if_neg hq]
     split at hs
     ·cases hs
     ·rename_i cs h' ha
      split at hs
      ·cases hs
      ·rename_i v bs hv
       rw[freshCall_le hr hv]
       exact hs
   | shared =>
    simp only at hs ⊢
    split at hs
    ·cases hs
    ·rename_i hq
     rw[if_neg hq]
     split at hs
     ·cases hs
     ·rename_i args' h' ha
      cases hb:r b ⟨pad nt args',h'⟩ with
      | none=>rw[hb] at hs; cases hs
      | some y=>rw[hb] at hs; rw[hr _ _ _ hb]; exact hs
   | live =>
    simp only at hs ⊢
    split at hs
    ·cases hs
    ·rename_i hq
     rw[if_neg hq]
     cases hb:r b ⟨pad nt args,h⟩ with
     | none=>rw[hb] at hs; cases hs
     | some y=>rw[hb] at hs; rw[hr _ _ _ hb]; exact hs
theorem step_le (hp:PLe p p') (hr:RLe r r') {pos:Option Nat} {ts:List LV} {h:Heap} {op:LOp} {x:LV × Heap} (hs:step p r pos ts h op=some x):step p' r' pos ts h op=some x:=by
 cases op with
 | call q f args =>
  simp only[step] at hs ⊢
  split at hs
  ·rename_i hf
   first
    | exact callF_le hp hr hs
    | (rw[hf]; exact callF_le hp hr hs)
  ·cases hs
 | _=>exact hs
theorem operRun_le (hp:PLe p p') (hr:RLe r r') {base:Nat} {o:LOper} {s s' : St} (hs:operRun p r base o s=some s'):operRun p' r' base o s=some s':=by
 unfold operRun at hs ⊢
 split at hs
 ·rename_i hc
  rw[if_pos hc]
  cases h1:step p r (o.slot.map (base+·)) s.tmps s.heap o.op with
  | none=>rw[h1] at hs; cases hs
  | some x=>rw[h1] at hs; rw[step_le hp hr h1]; exact hs
 ·cases hs
theorem operStep_le (hp:PLe p p') (hr:RLe r r') {base:Nat} {o:LOper} {s s' : St} (hs:operStep p r base o s=some s'):operStep p' r' base o s=some s':=by
 unfold operStep at hs ⊢
 split
 ·rename_i hg
  simp only[hg] at hs
  exact operRun_le hp hr hs
 ·rename_i t b hg
  simp only[hg] at hs
  split at hs
  ·rename_i hb
   split at hs
   ·rename_i hbb
    simp only[hbb,if_true]
    exact operRun_le hp hr hs
   ·rename_i hbb
    simp only[hbb,if_false]
    exact hs
  ·exact hs
  ·cases hs
theorem operSteps_le (hp:PLe p p') (hr:RLe r r') {base:Nat}:∀ {os:List LOper} {s s' : St},operSteps p r base os s=some s'→operSteps p' r' base os s=some s'
 | [],s,s',h=>h
 | o::os,s,s',h=>by
  simp only[operSteps] at h ⊢
  cases h1:operStep p r base o s with
  | none=>rw[h1] at h; cases h
  | some s1 =>
   rw[h1] at h
   rw[operStep_le hp hr h1]
   exact operSteps_le hp hr h
theorem handOf_le {ea ea' eb eb' : St→Option (Ex × St)} (h1:∀ s x,ea s=some x→ea' s=some x) (h2:∀ s x,eb s=some x→eb' s=some x) (ps:List Nat) (ts:List LV):HLe (handOf ea eb ps ts) (handOf ea' eb' ps ts):=by
 intro a h x hx
 unfold handOf at hx ⊢
 split at hx
 ·rename_i hl
  rw[if_pos hl]
  cases he:ea ⟨setPs ps a ts,h⟩ with
  | none=>rw[he] at hx; cases hx
  | some y =>
   rw[he] at hx
   rw[h1 _ _ he]
   obtain⟨e,s1⟩:=y
   cases e with
   | normal =>
    simp only at hx ⊢
    cases hb:eb s1 with
    | none=>rw[hb] at hx; cases hx
    | some z=>rw[hb] at hx; rw[h2 _ _ hb]; exact hx
   | exit id=>cases hx
   | ret=>cases hx
 ·cases hx
theorem exec_le (hp:PLe p p') (hr:RLe r r') (hi:RLeI ri ri'):∀ (c:LCode) (s:St) (x:Ex × St),exec p r ri c s=some x→exec p' r' ri' c s=some x
 | .skip,s,x,h=>h
 | .ret,s,x,h=>h
 | .exit id,s,x,h=>h
 | .bad n,s,x,h=>by simp[exec] at h
 | .seq a b,s,x,h=>by
  simp only[exec] at h ⊢
  cases h1:exec p r ri a s with
  | none=>rw[h1] at h; cases h
  | some y =>
   rw[h1] at h
   rw[exec_le hp hr hi a s y h1]
   obtain⟨e,s1⟩:=y
   cases e with
   | normal=>exact exec_le hp hr hi b s1 x h
   | exit id=>exact h
   | ret=>exact h
 | .cond c a b,s,x,h=>by
  simp only[exec] at h ⊢
  split at h
  ·rename_i hb; first | exact exec_le hp hr hi a s x h | (rw[hb]; exact exec_le hp hr hi a s x h)
  ·rename_i hb; first | exact exec_le hp hr hi b s x h | (rw[hb]; exact exec_le hp hr hi b s x h)
  ·cases h
 | .block id a,s,x,h=>by
  simp only[exec] at h ⊢
  cases h1:exec p r ri a s with
  | none=>rw[h1] at h; cases h
  | some y=>rw[h1] at h; rw[exec_le hp hr hi a s y h1]; exact h
 | .loop g a,s,x,h=>by
  simp only[exec] at h ⊢
  cases h1:exec p r ri a s with
  | none=>rw[h1] at h; cases h
  | some y =>
   rw[h1] at h
   rw[exec_le hp hr hi a s y h1]
   obtain⟨e,s1⟩:=y
   cases e with
   | normal=>exact hr _ _ _ h
   | exit id=>exact h
   | ret=>exact h
 | .region ops,s,x,h=>by
  simp only[exec] at h ⊢
  cases h1:operSteps p r 0 ops s with
  | none=>rw[h1] at h; cases h
  | some y=>rw[h1] at h; rw[operSteps_le hp hr h1]; exact h
 | .draw k ops,s,x,h=>by
  simp only[exec] at h ⊢
  cases h1:operSteps p r s.heap.length ops ⟨s.tmps,s.heap++List.replicate k .dead⟩ with
  | none=>rw[h1] at h; cases h
  | some y=>rw[h1] at h; rw[operSteps_le hp hr h1]; exact h
 | .rangeFn g ps asg body,s,x,h=>by
  have hh:HLe (handOf (exec p r ri asg) (exec p r ri body) ps s.tmps) (handOf (exec p' r' ri' asg) (exec p' r' ri' body) ps s.tmps):=handOf_le (exec_le hp hr hi asg) (exec_le hp hr hi body) ps s.tmps
  simp only[exec] at h ⊢
  split at h
  ·rename_i f caps hf
   split at h
   ·rename_i nt itb hprog
    rw[hp _ _ hprog]
    simp only
    split at h
    ·cases h
    ·rename_i hm
     rw[if_neg hm]
     cases h1:ri (handOf (exec p r ri asg) (exec p r ri body) ps s.tmps) itb ⟨pad nt (.tuple []::caps),s.heap⟩ none with
     | none=>rw[h1] at h; cases h
     | some y=>rw[h1] at h; rw[hi _ _ hh _ _ _ _ h1]; exact h
   ·cases h
  ·cases h
theorem plainI_le (hp:PLe p p') (hr:RLe r r') {o:LOper} {s:St} {j:Option Ex} {x:St × Option Ex} (h:plainI p r o s j=some x):plainI p' r' o s j=some x:=by
 unfold plainI at h ⊢
 cases h1:operRun p r 0 o ⟨unmark s.tmps,s.heap⟩ with
 | none=>rw[h1] at h; cases h
 | some y=>rw[h1] at h; rw[operRun_le hp hr h1]; exact h
theorem opI_le (hp:PLe p p') (hr:RLe r r') {y y' : Hand} (hy:HLe y y') {o:LOper} {s:St} {j:Option Ex} {x:St × Option Ex} (h:opI p r y o s j=some x):opI p' r' y' o s j=some x:=by
 unfold opI at h ⊢
 cases ho:o.op with
 | move z =>
  simp only[ho] at h ⊢
  split at h
  ·rename_i hm; simp only[hm,if_true]; exact h
  ·rename_i hm; simp only[hm]; exact plainI_le hp hr h
 | call q f args =>
  simp only[ho] at h ⊢
  split at h
  ·rename_i hm
   simp only[hm,if_true]
   split at h
   ·rename_i hc
    rw[if_pos hc]
    cases h1:y (args.map (ev s.tmps)) s.heap with
    | none=>rw[h1] at h; cases h
    | some z=>rw[h1] at h; rw[hy _ _ _ h1]; exact h
   ·cases h
  ·rename_i hm
   simp only[hm]
   exact plainI_le hp hr h
 | _=>simp only[ho] at h ⊢; exact plainI_le hp hr h
theorem stepI_le (hp:PLe p p') (hr:RLe r r') {y y' : Hand} (hy:HLe y y') {o:LOper} {s:St} {j:Option Ex} {x:St × Option Ex} (h:stepI p r y o s j=some x):stepI p' r' y' o s j=some x:=by
 unfold stepI at h ⊢
 split
 ·rename_i hg
  simp only[hg] at h
  exact opI_le hp hr hy h
 ·rename_i t b hg
  simp only[hg] at h
  split at h
  ·split at h
   ·rename_i hbb
    simp only[hbb,if_true]
    exact opI_le hp hr hy h
   ·rename_i hbb
    simp only[hbb,if_false]
    exact h
  ·exact h
  ·cases h
theorem stepsI_le (hp:PLe p p') (hr:RLe r r') {y y' : Hand} (hy:HLe y y'):∀ {os:List LOper} {s:St} {j:Option Ex} {x:St × Option Ex},stepsI p r y os s j=some x→stepsI p' r' y' os s j=some x
 | [],s,j,x,h=>h
 | o::os,s,j,x,h=>by
  simp only[stepsI] at h ⊢
  cases h1:stepI p r y o s j with
  | none=>rw[h1] at h; cases h
  | some z =>
   rw[h1] at h
   rw[stepI_le hp hr hy h1]
   exact stepsI_le hp hr hy h
theorem execI_le (hp:PLe p p') (hr:RLe r r') (hi:RLeI ri ri') {y y' : Hand} (hy:HLe y y'):∀ (c:LCode) (s:St) (j:Option Ex) (x:Ex × St × Option Ex),execI p r ri y c s j=some x→execI p' r' ri' y' c s j=some x
 | .skip,s,j,x,h=>h
 | .ret,s,j,x,h=>h
 | .exit id,s,j,x,h=>h
 | .bad n,s,j,x,h=>by simp[execI] at h
 | .rangeFn ..,s,j,x,h=>by simp[execI] at h
 | .seq a b,s,j,x,h=>by
  simp only[execI] at h ⊢
  cases h1:execI p r ri y a s j with
  | none=>rw[h1] at h; cases h
  | some z =>
   rw[h1] at h
   rw[execI_le hp hr hi hy a s j z h1]
   obtain⟨e,s1,j1⟩:=z
   cases e with
   | normal=>exact execI_le hp hr hi hy b s1 j1 x h
   | exit id=>exact h
   | ret=>exact h
 | .cond c a b,s,j,x,h=>by
  simp only[execI] at h ⊢
  split at h
  ·rename_i hb; first | exact execI_le hp hr hi hy a s j x h | (rw[hb]; exact execI_le hp hr hi hy a s j x h)
  ·rename_i hb; first | exact execI_le hp hr hi hy b s j x h | (rw[hb]; exact execI_le hp hr hi hy b s j x h)
  ·cases h
 | .block id a,s,j,x,h=>by
  simp only[execI] at h ⊢
  cases h1:execI p r ri y a s j with
  | none=>rw[h1] at h; cases h
  | some z=>rw[h1] at h; rw[execI_le hp hr hi hy a s j z h1]; exact h
 | .loop g a,s,j,x,h=>by
  simp only[execI] at h ⊢
  cases h1:execI p r ri y a s j with
  | none=>rw[h1] at h; cases h
  | some z =>
   rw[h1] at h
   rw[execI_le hp hr hi hy a s j z h1]
   obtain⟨e,s1,j1⟩:=z
   cases e with
   | normal=>exact hi _ _ hy _ _ _ _ h
   | exit id=>exact h
   | ret=>exact h
 | .region ops,s,j,x,h=>by
  simp only[execI] at h ⊢
  cases h1:stepsI p r y ops s j with
  | none=>rw[h1] at h; cases h
  | some z=>rw[h1] at h; rw[stepsI_le hp hr hy h1]; exact h
 | .draw k ops,s,j,x,h=>by
  simp only[execI] at h ⊢
  cases h1:operSteps p r s.heap.length ops ⟨unmark s.tmps,s.heap++List.replicate k .dead⟩ with
  | none=>rw[h1] at h; cases h
  | some z=>rw[h1] at h; rw[operSteps_le hp hr h1]; exact h
theorem runs_le_prog (hp:PLe p p'):∀ n,RLe (runs p n).1 (runs p' n).1∧RLeI (runs p n).2 (runs p' n).2
 | 0=>⟨fun _ _ _ h=>by simp[runs] at h,fun _ _ _ _ _ _ _ h=>by simp[runs] at h⟩
 | n+1=>by
  obtain⟨h1,h2⟩:=runs_le_prog hp n
  exact⟨fun c s x h=>exec_le hp h1 h2 c s x h,fun y y' hy c s j x h=>execI_le hp h1 h2 hy c s j x h⟩
theorem runs_le_succ:∀ n,RLe (runs p n).1 (runs p (n+1)).1∧RLeI (runs p n).2 (runs p (n+1)).2
 | 0=>⟨fun _ _ _ h=>by simp[runs] at h,fun _ _ _ _ _ _ _ h=>by simp[runs] at h⟩
 | n+1=>by
  obtain⟨h1,h2⟩:=runs_le_succ n
  exact⟨fun c s x h=>exec_le (fun _ _ h=>h) h1 h2 c s x h,fun y y' hy c s j x h=>execI_le (fun _ _ h=>h) h1 h2 hy c s j x h⟩
theorem runs_le:∀ {i j:Nat},i≤j→RLe (runs p i).1 (runs p j).1∧RLeI (runs p i).2 (runs p j).2
 | i,j,h=>by
  induction h with
  | refl=>exact runs_le_prog (fun _ _ h=>h) i
  | step _ ih=>exact⟨fun c s x h=>(runs_le_succ _).1 c s x (ih.1 c s x h),fun y y' hy c s j x h=>(runs_le_succ _).2 y' y' (fun _ _ _ h=>h) c s j x (ih.2 y y' hy c s j x h)⟩
theorem pcall_le (hp:PLe p p') {n m f:Nat} (hn:n≤m) {args:List CV} {v:CV} (h:pcall p n f args=some v):pcall p' m f args=some v:=by
 unfold pcall at h ⊢
 cases hf:p f with
 | none=>rw[hf] at h; cases h
 | some F =>
  rw[hf] at h
  rw[hp f F hf]
  cases F with
  | prim g=>exact h
  | fprim k g=>cases h
  | code md nt rs b =>
   cases md with
   | pure=>exact pureCall_le (runs_le (p:=p') hn).1 (pureCall_le (runs_le_prog hp n).1 h)
   | fresh k=>cases h
   | shared=>cases h
   | live=>cases h
end
end LM
namespace LM
open Go
section
variable {prog:Nat→Option SFunc} {r:RunS} {α β:Type}
@[simp] theorem bnd_some (a:α) (k:α→Option β):bnd (some a) k=k a:=_root_.id rfl
@[simp] theorem bnd_none (k:α→Option β):bnd none k=none:=_root_.id rfl
@[simp] theorem seqK_normal (s:St) (k:St→Option (Ex × St)):seqK (some (.normal,s)) k=k s:=_root_.id rfl
@[simp] theorem seqK_exit (id:Nat) (s:St) (k:St→Option (Ex × St)):seqK (some (.exit id,s)) k=some (.exit id,s):=_root_.id rfl
@[simp] theorem seqK_ret (s:St) (k:St→Option (Ex × St)):seqK (some (.ret,s)) k=some (.ret,s):=_root_.id rfl
@[simp] theorem seqK_none (k:St→Option (Ex × St)):seqK none k=none:=_root_.id rfl
@[simp] theorem seqK_ite (c:Prop) [Decidable c] (x y:Option (Ex × St)) (k:St→Option (Ex × St)):seqK (if c then x else y) k=if c then seqK x k else seqK y k:=by split<;>rfl
@[simp] theorem blockK_normal (id:Nat) (s:St):blockK id (some (.normal,s))=some (.normal,s):=_root_.id rfl
@[simp] theorem blockK_ret (id:Nat) (s:St):blockK id (some (.ret,s))=some (.ret,s):=_root_.id rfl
@[simp] theorem blockK_none (id:Nat):blockK id none=none:=_root_.id rfl
@[simp] theorem blockK_exit (id id' : Nat) (s:St):blockK id (some (.exit id',s))=if id'=id then some (.normal,s) else some (.exit id',s):=_root_.id rfl
@[simp] theorem blockK_ite (id:Nat) (c:Prop) [Decidable c] (x y:Option (Ex × St)):blockK id (if c then x else y)=if c then blockK id x else blockK id y:=by split<;>rfl
@[simp] theorem condK_bool (b:Bool) (x y:Option (Ex × St)):condK (.c (.bool b)) x y=if b then x else y:=_root_.id rfl
@[simp] theorem andK_true (x:Option (LV × Heap)) (h:Heap):andK true x h=x:=_root_.id rfl
@[simp] theorem andK_false (x:Option (LV × Heap)) (h:Heap):andK false x h=some (.c (.bool false),h):=_root_.id rfl
@[simp] theorem orK_true (x:Option (LV × Heap)) (h:Heap):orK true x h=some (.c (.bool true),h):=_root_.id rfl
@[simp] theorem orK_false (x:Option (LV × Heap)) (h:Heap):orK false x h=x:=_root_.id rfl
@[simp] theorem andK_some (b e:Bool) (h:Heap):andK b (some (.c (.bool e),h)) h=some (.c (.bool (b && e)),h):=by cases b<;>rfl
@[simp] theorem orK_some (b e:Bool) (h:Heap):orK b (some (.c (.bool e),h)) h=some (.c (.bool (b || e)),h):=by cases b<;>rfl
@[simp] theorem ev_k (env:List LV) (v:LV):ev env (.k v)=v:=_root_.id rfl
@[simp] theorem ev_zero (v:LV) (env:List LV):ev (v::env) (.t 0)=v:=_root_.id rfl
@[simp] theorem ev_succ (v:LV) (env:List LV) (n:Nat):ev (v::env) (.t (n+1))=ev env (.t n):=_root_.id rfl
@[simp] theorem selE_nil (env:List LV):selE [] env=[]:=_root_.id rfl
@[simp] theorem selE_cons (i:Nat) (l:List Nat) (env:List LV):selE (i::l) env=ev env (.t i)::selE l env:=_root_.id rfl
@[simp] theorem pushN_op (d:Nat) (op:LOp) (slot:Option Nat) (wh:Where) (v:LV) (env:List LV):pushN (.op d op slot wh) v env=v::env:=_root_.id rfl
@[simp] theorem pushN_and (d c:Nat) (sub:List SNode) (x:LO) (v:LV) (env:List LV):pushN (.andN d c sub x) v env=v::env:=_root_.id rfl
@[simp] theorem pushN_or (d c:Nat) (sub:List SNode) (x:LO) (v:LV) (env:List LV):pushN (.orN d c sub x) v env=v::env:=_root_.id rfl
@[simp] theorem pushN_eff (op:LOp) (slot:Option Nat) (wh:Where) (v:LV) (env:List LV):pushN (.eff op slot wh) v env=env:=_root_.id rfl
@[simp] theorem runNs_nil (base:Nat) (env:List LV) (h:Heap):runNs prog r base [] env h=some (env,h):=by simp only[runNs]
def nodeK (prog:Nat→Option SFunc) (r:RunS) (base:Nat) (n:SNode) (ns:List SNode) (env:List LV) (x:R):Option (List LV × Heap):=bnd x fun s=>runNs prog r base ns (pushN n s.1 env) s.2
@[simp] theorem nodeK_some (base:Nat) (n:SNode) (ns:List SNode) (env:List LV) (v:LV) (h:Heap):nodeK prog r base n ns env (some (v,h))=runNs prog r base ns (pushN n v env) h:=_root_.id rfl
@[simp] theorem nodeK_none (base:Nat) (n:SNode) (ns:List SNode) (env:List LV):nodeK prog r base n ns env none=none:=_root_.id rfl
@[simp] theorem nodeK_ite (base:Nat) (n:SNode) (ns:List SNode) (env:List LV) (c:Prop) [Decidable c] (x y:R):nodeK prog r base n ns env (if c then x else y)=if c then nodeK prog r base n ns env x else nodeK prog r base n ns env y:=by split<;>rfl
@[simp] theorem runNs_cons (base:Nat) (n:SNode) (ns:List SNode) (env:List LV) (h:Heap):runNs prog r base (n::ns) env h=nodeK prog r base n ns env (evalN prog r base n env h):=by simp only[runNs,nodeK]
def regK (sel:List Nat) (x:Option (List LV × Heap)):Option (Ex × St):=bnd x fun e=>some (.normal,⟨selE sel e.1,e.2⟩)
@[simp] theorem regK_some (sel:List Nat) (env:List LV) (h:Heap):regK sel (some (env,h))=some (.normal,⟨selE sel env,h⟩):=_root_.id rfl
@[simp] theorem regK_none (sel:List Nat):regK sel none=none:=_root_.id rfl
@[simp] theorem regK_ite (sel:List Nat) (c:Prop) [Decidable c] (x y:Option (List LV × Heap)):regK sel (if c then x else y)=if c then regK sel x else regK sel y:=by split<;>rfl
def subK (x:LO) (y:Option (List LV × Heap)):R:=bnd y fun s=>some (ev s.1 x,s.2)
@[simp] theorem subK_some (x:LO) (env:List LV) (h:Heap):subK x (some (env,h))=some (ev env x,h):=_root_.id rfl
@[simp] theorem subK_none (x:LO):subK x none=none:=_root_.id rfl
@[simp] theorem evalN_op (base d:Nat) (op:LOp) (slot:Option Nat) (wh:Where) (env:List LV) (h:Heap):evalN prog r base (.op d op slot wh) env h=opRun prog r base op slot wh env h:=by simp only[evalN]
@[simp] theorem evalN_eff (base:Nat) (op:LOp) (slot:Option Nat) (wh:Where) (env:List LV) (h:Heap):evalN prog r base (.eff op slot wh) env h=opRun prog r base op slot wh env h:=by simp only[evalN]
def orF (prog:Nat→Option SFunc) (r:RunS) (base:Nat) (sub:List SNode) (x:LO) (env:List LV) (h:Heap) (v:LV):R :=
 match v with
 | .c (.bool b)=>if b then some (.c (.bool true),h) else subK x (runNs prog r base sub env h)
 | _=>none
def andF (prog:Nat→Option SFunc) (r:RunS) (base:Nat) (sub:List SNode) (x:LO) (env:List LV) (h:Heap) (v:LV):R :=
 match v with
 | .c (.bool b)=>if b then subK x (runNs prog r base sub env h) else some (.c (.bool false),h)
 | _=>none
@[simp] theorem orF_bool (base:Nat) (sub:List SNode) (x:LO) (env:List LV) (h:Heap) (b:Bool):orF prog r base sub x env h (.c (.bool b))=if b then some (.c (.bool true),h) else subK x (runNs prog r base sub env h):=_root_.id rfl
@[simp] theorem andF_bool (base:Nat) (sub:List SNode) (x:LO) (env:List LV) (h:Heap) (b:Bool):andF prog r base sub x env h (.c (.bool b))=if b then subK x (runNs prog r base sub env h) else some (.c (.bool false),h):=_root_.id rfl
@[simp] theorem ite_or (p:Prop) [Decidable p] (e:Bool) (h:Heap):(if p then some (LV.c (.bool true),h) else some (LV.c (.bool e),h))=some (LV.c (.bool (decide p || e)),h):=by by_cases q:p<;>simp[q]
@[simp] theorem ite_and (p:Prop) [Decidable p] (e:Bool) (h:Heap):(if p then some (LV.c (.bool e),h) else some (LV.c (.bool false),h))=some (LV.c (.bool (decide p && e)),h):=by by_cases q:p<;>simp[q]
@[simp] theorem ite_or' (p:Prop) [Decidable p] (e:Bool) (h:Heap):(if p then some (LV.c (.bool e),h) else some (LV.c (.bool true),h))=some (LV.c (.bool (!decide p || e)),h):=by by_cases q:p<;>simp[q]
@[simp] theorem ite_and' (p:Prop) [Decidable p] (e:Bool) (h:Heap):(if p then some (LV.c (.bool false),h) else some (LV.c (.bool e),h))=some (LV.c (.bool (!decide p && e)),h):=by by_cases q:p<;>simp[q]
@[simp] theorem subK_ite (x:LO) (c:Prop) [Decidable c] (a b:Option (List LV × Heap)):subK x (if c then a else b)=if c then subK x a else subK x b:=by split<;>rfl
@[simp] theorem evalN_and (base d c:Nat) (sub:List SNode) (x:LO) (env:List LV) (h:Heap) :
  evalN prog r base (.andN d c sub x) env h=andF prog r base sub x env h (ev env (.t c)):=by
 simp only[evalN,ev]
 unfold andF andK subK
 rfl
@[simp] theorem evalN_or (base d c:Nat) (sub:List SNode) (x:LO) (env:List LV) (h:Heap) :
  evalN prog r base (.orN d c sub x) env h=orF prog r base sub x env h (ev env (.t c)):=by
 simp only[evalN,ev]
 unfold orF orK subK
 rfl
@[simp] theorem execS_skip (s:St):execS prog r .skip s=some (.normal,s):=_root_.id rfl
@[simp] theorem execS_ret (s:St):execS prog r .ret s=some (.ret,s):=_root_.id rfl
@[simp] theorem execS_exit (id:Nat) (s:St):execS prog r (.exit id) s=some (.exit id,s):=_root_.id rfl
@[simp] theorem execS_seq (a b:SCode) (s:St):execS prog r (.seq a b) s=seqK (execS prog r a s) (execS prog r b):=_root_.id rfl
def condF (v:LV) (f g:St→Option (Ex × St)) (s:St):Option (Ex × St) :=
 match v with
 | .c (.bool b)=>if b then f s else g s
 | _=>none
@[simp] theorem condF_true (f g:St→Option (Ex × St)) (s:St):condF (.c (.bool true)) f g s=f s:=_root_.id rfl
@[simp] theorem condF_false (f g:St→Option (Ex × St)) (s:St):condF (.c (.bool false)) f g s=g s:=_root_.id rfl
@[simp] theorem condF_bool (b:Bool) (f g:St→Option (Ex × St)) (s:St):condF (.c (.bool b)) f g s=if b then f s else g s:=_root_.id rfl
@[simp] theorem execS_cond (c:LO) (a b:SCode) (s:St):execS prog r (.cond c a b) s=condF (ev s.tmps c) (execS prog r a) (execS prog r b) s:=by
 have h:execS prog r (.cond c a b) s=condK (ev s.tmps c) (execS prog r a s) (execS prog r b s):=rfl
 rw[h]
 unfold condK condF
 rfl
class IsSeq (c:SCode) (a b:outParam SCode):Prop where
 h:c=.seq a b
class IsCond (c:SCode) (v:outParam LO) (a b:outParam SCode):Prop where
 h:c=.cond v a b
class IsBlock (c:SCode) (id:outParam Nat) (m:outParam Mu) (a:outParam SCode):Prop where
 h:c=.block id m a
@[simp] theorem execS_isSeq (c:SCode) {a b:SCode} [h:IsSeq c a b] (s:St):execS prog r c s=seqK (execS prog r a s) (execS prog r b):=by rw[h.h]; rfl
@[simp] theorem execS_isCond (c:SCode) {v:LO} {a b:SCode} [h:IsCond c v a b] (s:St):execS prog r c s=condF (ev s.tmps v) (execS prog r a) (execS prog r b) s:=by rw[h.h,execS_cond]
@[simp] theorem execS_isBlock (c:SCode) {id:Nat} {m:Mu} {a:SCode} [h:IsBlock c id m a] (s:St):execS prog r c s=blockK id (execS prog r a s):=by rw[h.h]; rfl
@[simp] theorem execS_block (id:Nat) (m:Mu) (a:SCode) (s:St):execS prog r (.block id m a) s=blockK id (execS prog r a s):=_root_.id rfl
@[simp] theorem execS_region (ns:List SNode) (sel:List Nat) (s:St):execS prog r (.region ns sel) s=regK sel (runNs prog r 0 ns s.tmps s.heap):=_root_.id rfl
@[simp] theorem execS_draw (k:Nat) (ns:List SNode) (sel:List Nat) (s:St):execS prog r (.draw k ns sel) s=regK sel (runNs prog r s.heap.length ns s.tmps (s.heap++List.replicate k .dead)):=_root_.id rfl
@[simp] theorem execS_pre (sel:List Nat) (a:SCode) (s:St):execS prog r (.pre sel a) s=execS prog r a ⟨selE sel s.tmps,s.heap⟩:=_root_.id rfl
theorem execS_loop (g:Bool) (a:SCode) (s:St):execS prog (limS prog) (.loop g a) s=seqK (execS prog (limS prog) a s) fun s'=>execS prog (limS prog) (.loop g a) (if g then gc s.heap.length s' else s'):=by
 have e:∀ s',limS prog (.loop g a) s'=execS prog (limS prog) (.loop g a) s':=limS_exec _
 conv=>lhs; simp only[execS]
 simp only[e]
@[simp] theorem gc_nil (ts:List LV):gc 0 ⟨ts,[]⟩=⟨scrub 0 ts,[]⟩:=_root_.id rfl
@[simp] theorem scrub_nil (n:Nat):scrub n []=[]:=_root_.id rfl
@[simp] theorem scrub_c (n:Nat) (v:CV) (l:List LV):scrub n (.c v::l)=.c v::scrub n l:=_root_.id rfl
@[simp] theorem scrub_undef (n:Nat) (l:List LV):scrub n (.undef::l)=.undef::scrub n l:=by simp[scrub]
@[simp] theorem scrub_nilS (n:Nat) (l:List LV):scrub n (.nil::l)=.nil::scrub n l:=_root_.id rfl
@[simp] theorem scrub_ptr (n b g o:Nat) (l:List LV):scrub n (.ptr b g o::l)=(if b<n then .ptr b g o else .undef)::scrub n l:=by simp[scrub,LV.under]
@[simp] theorem scrub_slice (n b g o len:Nat) (e c:Option Nat) (l:List LV):scrub n (.slice b g o len e c::l)=(if b<n then .slice b g o len e c else .undef)::scrub n l:=by simp[scrub,LV.under]
@[simp] theorem scrub_map (n b:Nat) (l:List LV):scrub n (.map b::l)=(if b<n then .map b else .undef)::scrub n l:=by simp[scrub,LV.under]
theorem whereOk_any (base:Nat) (env:List LV) (op:LOp):whereOk base .any env op=true:=by
 unfold whereOk
 split
 ·split<;>rfl
 ·rfl
@[simp] theorem opRun_any (base:Nat) (op:LOp) (env:List LV) (h:Heap):opRun prog r base op none .any env h=stepS prog r none env h op:=by
 simp[opRun,whereOk_any,slotOk]
def resV (v:Option LV) (h:Heap):Option CV:=bnd v fun v=>bnd (frz frzDepth v h) fun x=>some x.1
def resK (rs:List LRes) (x:Option (Ex × St)):Option CV:=bnd x fun p=>match p.1 with
 | .exit _=>none
 | _=>resV (resultV p.2 rs) p.2.heap
@[simp] theorem resK_none (rs:List LRes):resK rs none=none:=_root_.id rfl
@[simp] theorem resK_ite (rs:List LRes) (c:Prop) [Decidable c] (x y:Option (Ex × St)):resK rs (if c then x else y)=if c then resK rs x else resK rs y:=by split<;>rfl
@[simp] theorem resK_ret (rs:List LRes) (s:St):resK rs (some (.ret,s))=resV (resultV s rs) s.heap:=_root_.id rfl
@[simp] theorem resK_normal (rs:List LRes) (s:St):resK rs (some (.normal,s))=resV (resultV s rs) s.heap:=_root_.id rfl
@[simp] theorem resV_c (v:CV) (h:Heap):resV (some (.c v)) h=some v:=_root_.id rfl
theorem fn_code {f nt np:Nat} {ρ:Mu} {rs:List LRes} {b:SCode} (hp:prog f=some (.code .pure nt np ρ rs b)) (args:List CV):fn prog f args=resK rs (execS prog (limS prog) b ⟨args.map .c,[]⟩):=by
 have e:∀ (s:St),(match resultV s rs with
   | some v=>match frz frzDepth v s.heap with
    | some (c,_)=>some c
    | none=>none
   | none=>none)=resV (resultV s rs) s.heap:=fun s=>by
  unfold resV
  cases resultV s rs with
  | none=>rfl
  | some v =>
   simp only[bnd_some]
   cases frz frzDepth v s.heap<;>rfl
 simp only[fn,hp,pureS,limS_exec]
 unfold resK
 rcases execS prog (limS prog) b ⟨args.map .c,[]⟩ with _ | ⟨ex,s⟩
 ·rfl
 ·cases ex with
  | exit id=>rfl
  | normal=>exact e s
  | ret=>exact e s
@[simp] theorem resultV_one (s:St) (j:Nat):resultV s [.tmp j]=some (ev s.tmps (.t j)):=_root_.id rfl
@[simp] theorem resultV_two (s:St) (i j:Nat):resultV s [.tmp i,.tmp j]=some (mkTuple [ev s.tmps (.t i),ev s.tmps (.t j)]):=_root_.id rfl
@[simp] theorem resultV_three (s:St) (i j k:Nat):resultV s [.tmp i,.tmp j,.tmp k]=some (mkTuple [ev s.tmps (.t i),ev s.tmps (.t j),ev s.tmps (.t k)]):=_root_.id rfl
@[simp] theorem resultV_nil (s:St):resultV s []=some (.c (.tuple [])):=_root_.id rfl
@[simp] theorem mkTuple_nil:mkTuple []=.c (.tuple []):=_root_.id rfl
@[simp] theorem mkTuple_cc (a b:CV):mkTuple [.c a,.c b]=.c (.tuple [a,b]):=_root_.id rfl
@[simp] theorem mkTuple_ccc (a b c:CV):mkTuple [.c a,.c b,.c c]=.c (.tuple [a,b,c]):=_root_.id rfl
theorem callS_pure {f nt np:Nat} {ρ:Mu} {rs:List LRes} {b:SCode} (hp:prog f=some (.code .pure nt np ρ rs b)) (pos:Option Nat) (q:Bool) (args:List LV) (h:Heap) :
  callS prog (limS prog) pos q f args h=bnd (frzArgs q args h) fun a=>bnd (fn prog f a.1) fun v=>some (.c v,if scalarC v then h else a.2):=by
 simp only[callS,fn,hp]
 rcases frzArgs q args h with _ | ⟨cs,h'⟩
 ·rfl
 ·simp only[bnd_some]
  cases pureS (limS prog) rs b cs<;>rfl
theorem callS_prim {f:Nat} {g:List CV→Option CV} (hp:prog f=some (.prim g)) (pos:Option Nat) (q:Bool) (args:List LV) (h:Heap) :
  callS prog (limS prog) pos q f args h=bnd (frzArgs q args h) fun a=>bnd (fn prog f a.1) fun v=>some (.c v,if scalarC v then h else a.2):=by
 simp only[callS,fn,hp]
 rcases frzArgs q args h with _ | ⟨cs,h'⟩
 ·rfl
 ·simp only[bnd_some]
  cases g cs<;>rfl
def resF (rs:List LRes) (x:Option (Ex × St)):R:=bnd x fun p=>match p.1 with
 | .exit _=>none
 | _=>bnd (resultV p.2 rs) fun v=>some (v,p.2.heap)
@[simp] theorem resF_none (rs:List LRes):resF rs none=none:=_root_.id rfl
@[simp] theorem resF_ite (rs:List LRes) (c:Prop) [Decidable c] (x y:Option (Ex × St)):resF rs (if c then x else y)=if c then resF rs x else resF rs y:=by split<;>rfl
@[simp] theorem resF_ret (rs:List LRes) (s:St):resF rs (some (.ret,s))=bnd (resultV s rs) fun v=>some (v,s.heap):=_root_.id rfl
@[simp] theorem resF_normal (rs:List LRes) (s:St):resF rs (some (.normal,s))=bnd (resultV s rs) fun v=>some (v,s.heap):=_root_.id rfl
theorem resF_eq (rs:List LRes) (x:Option (Ex × St)):(match x with
  | some (ex,s)=>match ex with
   | .exit _=>none
   | _=>match resultV s rs with
    | some v=>some (v,s.heap)
    | none=>none
  | none=>none)=resF rs x:=by
 rcases x with _ | ⟨ex,s⟩
 ·rfl
 ·unfold resF
  cases ex with
  | exit id=>rfl
  | normal=>simp only[bnd_some]; cases resultV s rs<;>rfl
  | ret=>simp only[bnd_some]; cases resultV s rs<;>rfl
theorem ffn_code {f k nt np:Nat} {ρ:Mu} {rs:List LRes} {b:SCode} (hp:prog f=some (.code (.fresh k) nt np ρ rs b)) (args:List CV):ffn prog f args=resF rs (execS prog (limS prog) b ⟨args.map .c,[]⟩):=by
 simp only[ffn,hp,freshS,limS_exec]
 exact resF_eq _ _
theorem sfn_code {f nt np:Nat} {ρ:Mu} {rs:List LRes} {b:SCode} (hp:prog f=some (.code .shared nt np ρ rs b)) (args:List LV) (h:Heap):sfn prog f args h=resF rs (execS prog (limS prog) b ⟨args,h⟩):=by
 simp only[sfn,hp,sharedS,limS_exec]
 exact resF_eq _ _
theorem sfn_codeL {f nt np:Nat} {ρ:Mu} {rs:List LRes} {b:SCode} (hp:prog f=some (.code .live nt np ρ rs b)) (args:List LV) (h:Heap):sfn prog f args h=resF rs (execS prog (limS prog) b ⟨args,h⟩):=by
 simp only[sfn,hp,sharedS,limS_exec]
 exact resF_eq _ _
theorem callS_live {f nt np:Nat} {ρ:Mu} {rs:List LRes} {b:SCode} (hp:prog f=some (.code .live nt np ρ rs b)) (pos:Option Nat) (q:Bool) (args:List LV) (h:Heap) :
  callS prog (limS prog) pos q f args h=if q then none else sfn prog f args h:=by
 simp only[callS,sfn,hp]
theorem callS_fresh {f k nt np:Nat} {ρ:Mu} {rs:List LRes} {b:SCode} (hp:prog f=some (.code (.fresh k) nt np ρ rs b)) (pos:Option Nat) (q:Bool) (args:List LV) (h:Heap) :
  callS prog (limS prog) pos q f args h=if q && pos.isNone then none else bnd (frzArgs q args h) fun a=>bnd (ffn prog f a.1) fun v=>importB pos k v.1 v.2 a.2:=by
 simp only[callS,ffn,hp]
 split
 ·rfl
 ·rcases frzArgs q args h with _ | ⟨cs,h'⟩
  ·rfl
  ·simp only[bnd_some]
   cases freshS (limS prog) rs b cs<;>rfl
theorem callS_fprim {f k:Nat} {g:List CV→Option (LV × List LB)} (hp:prog f=some (.fprim k g)) (pos:Option Nat) (q:Bool) (args:List LV) (h:Heap) :
  callS prog (limS prog) pos q f args h=if q && pos.isNone then none else bnd (frzArgs q args h) fun a=>bnd (ffn prog f a.1) fun v=>importB pos k v.1 v.2 a.2:=by
 simp only[callS,ffn,hp]
 split
 ·rfl
 ·rcases frzArgs q args h with _ | ⟨cs,h'⟩
  ·rfl
  ·simp only[bnd_some]
   cases g cs<;>rfl
theorem callS_shared {f nt np:Nat} {ρ:Mu} {rs:List LRes} {b:SCode} (hp:prog f=some (.code .shared nt np ρ rs b)) (pos:Option Nat) (q:Bool) (args:List LV) (h:Heap) :
  callS prog (limS prog) pos q f args h=if q then none else bnd (frzFuncs args h) fun a=>sfn prog f a.1 a.2:=by
 simp only[callS,sfn,hp]
 split
 ·rfl
 ·rcases frzFuncs args h with _ | ⟨cs,h'⟩<;>rfl
@[simp] theorem frz_c (v:CV) (h:Heap):frz frzDepth (.c v) h=some (v,h):=_root_.id rfl
@[simp] theorem frz_nil (h:Heap):frz frzDepth .nil h=some (.slice [],h):=_root_.id rfl
@[simp] theorem frz_emp (h:Heap):frz frzDepth .emp h=some (.slice [],h):=_root_.id rfl
theorem frzL_cons (x:LV) (l:List LV) (h:Heap):mapH (frz frzDepth) (x::l) h=bnd (frz frzDepth x h) fun y=>bnd (mapH (frz frzDepth) l y.2) fun z=>some (y.1::z.1,z.2):=by
 simp only[mapH]
 rcases frz frzDepth x h with _ | ⟨y,h1⟩
 ·rfl
 ·simp only[bnd_some]
  rcases mapH (frz frzDepth) l h1 with _ | ⟨z,h2⟩<;>rfl
@[simp] theorem frzArgs_nil (q:Bool) (h:Heap):frzArgs q [] h=some ([],h):=by cases q<;>rfl
@[simp] theorem frzArgs_c (q:Bool) (v:CV) (l:List LV) (h:Heap):frzArgs q (.c v::l) h=bnd (frzArgs q l h) fun a=>some (v::a.1,a.2):=by
 cases q with
 | true =>
  simp only[frzArgs,if_true,toCL,toC]
  cases toCL l<;>rfl
 | false =>
  simp only[frzArgs,Bool.false_eq_true,if_false,frzL,frzL_cons,frz_c,bnd_some]
theorem frzArgs_cons (x:LV) (l:List LV) (h:Heap):frzArgs false (x::l) h=bnd (frz frzDepth x h) fun y=>bnd (frzArgs false l y.2) fun z=>some (y.1::z.1,z.2):=by
 simp only[frzArgs,Bool.false_eq_true,if_false,frzL,frzL_cons]
@[simp] theorem frzArgs_qnil (l:List LV) (h:Heap):frzArgs true (.nil::l) h=bnd (frzArgs true l h) fun a=>some (.slice []::a.1,a.2):=by
 simp only[frzArgs,if_true,toCL,toC]
 cases toCL l<;>rfl
@[simp] theorem funcOf_c (f:Nat) (a b:List CV):funcOf (.c (.func f a b))=some (f,a.map .c,b.map .c):=_root_.id rfl
@[simp] theorem funcOf_f (f:Nat) (a b:List LV):funcOf (.func f a b)=some (f,a,b):=_root_.id rfl
@[simp] theorem stepS_call (pos:Option Nat) (env:List LV) (h:Heap) (q:Bool) (f:LO) (args:List LO):stepS prog r pos env h (.call q f args)=bnd (funcOf (ev env f)) fun g=>callS prog r pos q g.1 (g.2.1++args.map (ev env)++g.2.2) h:=by
 simp only[stepS]
 rcases funcOf (ev env f) with _ | ⟨g,a,b⟩<;>rfl
end
@[simp] theorem underL_map_c (n:Nat):∀ (l:List CV),underL n (l.map .c)=true
 | []=>rfl
 | v::l=>by simp[underL,LV.under,underL_map_c n l]
@[simp] theorem underL_nil (n:Nat):underL n []=true:=_root_.id rfl
@[simp] theorem underL_cons (n:Nat) (v:LV) (l:List LV):underL n (v::l)=(v.under n && underL n l):=_root_.id rfl
@[simp] theorem underL_append (n:Nat):∀ (a b:List LV),underL n (a++b)=(underL n a && underL n b)
 | [],b=>rfl
 | v::a,b=>by simp[underL_append n a b,Bool.and_assoc]
@[simp] theorem underB_nil (n:Nat):underB n []=true:=_root_.id rfl
@[simp] theorem underB_cons (n:Nat) (v:LB) (l:List LB):underB n (v::l)=(v.under n && underB n l):=_root_.id rfl
attribute [simp] gc LB.under LV.under
theorem frz_slice (b g off len:Nat) (esz cap:Option Nat) (h:Heap):frz frzDepth (.slice b g off len esz cap) h=match h[b]? with
  | some (.cells g' cs _)=>if g=g'∧off+len*szOf esz≤cs.length then bnd (mapH (frz 39) ((cs.drop off).take (len*szOf esz)) (bump b (off+len*szOf esz) h)) fun a=>bnd (chunk esz len a.1) fun xs=>some (.slice xs,a.2) else none
  | _=>none:=by
 unfold frzDepth
 simp only[frz]
 rcases h[b]? with _ | blk
 ·rfl
 ·cases blk with
  | cells g' cs fz =>
   simp only
   split
   ·rcases mapH (frz 39) _ _ with _ | ⟨l,h'⟩
    ·rfl
    ·simp only[bnd_some]
     cases chunk esz len l<;>rfl
   ·rfl
  | _=>rfl
theorem frz_ptr (b g off:Nat) (h:Heap):frz frzDepth (.ptr b g off) h=match h[b]? with
  | some (.cells g' cs _)=>if g=g' then bnd (mapH (frz 39) cs (bump b cs.length h)) fun a=>some (.ptr a.1 off,a.2) else none
  | _=>none:=by
 unfold frzDepth
 simp only[frz]
 rcases h[b]? with _ | blk
 ·rfl
 ·cases blk with
  | cells g' cs fz =>
   simp only
   split
   ·rcases mapH (frz 39) _ _ with _ | ⟨l,h'⟩<;>rfl
   ·rfl
  | _=>rfl
theorem frz_func (f:Nat) (a b:List LV) (h:Heap):frz frzDepth (.func f a b) h=bnd (mapH (frz 39) a h) fun x=>bnd (mapH (frz 39) b x.2) fun y=>some (.func f x.1 y.1,y.2):=by
 unfold frzDepth
 simp only[frz]
 rcases mapH (frz 39) a h with _ | ⟨l,h'⟩
 ·rfl
 ·simp only[bnd_some]
  rcases mapH (frz 39) b h' with _ | ⟨l2,h2⟩<;>rfl
theorem frz_map (b:Nat) (h:Heap):frz frzDepth (.map b) h=match h[b]? with
  | some (.map ks vs _)=>bnd (mapH (frz 39) vs (h.set b (.map ks vs true))) fun a=>some (.map ks a.1,a.2)
  | _=>none:=by
 unfold frzDepth
 simp only[frz]
 rcases h[b]? with _ | blk
 ·rfl
 ·cases blk with
  | map ks vs fz=>simp only; rcases mapH (frz 39) _ _ with _ | ⟨l,h'⟩<;>rfl
  | _=>rfl
theorem frz_tuple (cs:List LV) (h:Heap):frz frzDepth (.tuple cs) h=bnd (mapH (frz 39) cs h) fun a=>some (.tuple a.1,a.2):=by
 unfold frzDepth
 simp only[frz]
 rcases mapH (frz 39) _ _ with _ | ⟨l,h'⟩<;>rfl
theorem frz_agg (cs:List LV) (h:Heap):frz frzDepth (.agg cs) h=bnd (mapH (frz 39) cs h) fun a=>some (.agg a.1,a.2):=by
 unfold frzDepth
 simp only[frz]
 rcases mapH (frz 39) _ _ with _ | ⟨l,h'⟩<;>rfl
@[simp] theorem mapH_nil (f:LV→Heap→Option (CV × Heap)) (h:Heap):mapH f [] h=some ([],h):=_root_.id rfl
theorem mapH_cons (f:LV→Heap→Option (CV × Heap)) (v:LV) (r:List LV) (h:Heap):mapH f (v::r) h=bnd (f v h) fun x=>bnd (mapH f r x.2) fun y=>some (x.1::y.1,y.2):=by
 simp only[mapH]
 rcases f v h with _ | ⟨x,h1⟩
 ·rfl
 ·simp only[bnd_some]
  rcases mapH f r h1 with _ | ⟨y,h2⟩<;>rfl
@[simp] theorem frz_succ_c (n:Nat) (v:CV) (h:Heap):frz (n+1) (.c v) h=some (v,h):=_root_.id rfl
@[simp] theorem mapH_map_c (n:Nat):∀ (l:List CV) (h:Heap),mapH (frz (n+1)) (l.map .c) h=some (l,h)
 | [],h=>rfl
 | v::l,h=>by simp only[List.map_cons,mapH_cons,frz_succ_c,bnd_some,mapH_map_c n l h]
theorem mapH_append_c (n:Nat) (l:List CV) (r:List LV) (h:Heap):mapH (frz (n+1)) (l.map .c++r) h=bnd (mapH (frz (n+1)) r h) fun a=>some (l++a.1,a.2):=by
 induction l with
 | nil=>simp only[List.map_nil,List.nil_append]; rcases mapH (frz (n+1)) r h with _ | ⟨a,h'⟩<;>rfl
 | cons v l ih =>
  simp only[List.map_cons,List.cons_append,mapH_cons,frz_succ_c,bnd_some,ih]
  rcases mapH (frz (n+1)) r h with _ | ⟨a,h'⟩<;>rfl
theorem frz_succ_ptr (n b g off:Nat) (h:Heap):frz (n+1) (.ptr b g off) h=match h[b]? with
  | some (.cells g' cs _)=>if g=g' then bnd (mapH (frz n) cs (bump b cs.length h)) fun a=>some (.ptr a.1 off,a.2) else none
  | _=>none:=by
 simp only[frz]
 rcases h[b]? with _ | blk
 ·rfl
 ·cases blk with
  | cells g' cs fz =>
   simp only
   split
   ·rcases mapH (frz n) _ _ with _ | ⟨l,h'⟩<;>rfl
   ·rfl
  | _=>rfl
theorem frz_succ_slice (n b g off len:Nat) (esz cap:Option Nat) (h:Heap):frz (n+1) (.slice b g off len esz cap) h=match h[b]? with
  | some (.cells g' cs _)=>if g=g'∧off+len*szOf esz≤cs.length then bnd (mapH (frz n) ((cs.drop off).take (len*szOf esz)) (bump b (off+len*szOf esz) h)) fun a=>bnd (chunk esz len a.1) fun xs=>some (.slice xs,a.2) else none
  | _=>none:=by
 simp only[frz]
 rcases h[b]? with _ | blk
 ·rfl
 ·cases blk with
  | cells g' cs fz =>
   simp only
   split
   ·rcases mapH (frz n) _ _ with _ | ⟨l,h'⟩
    ·rfl
    ·simp only[bnd_some]
     cases chunk esz len l<;>rfl
   ·rfl
  | _=>rfl
theorem frz_succ_map (n b:Nat) (h:Heap):frz (n+1) (.map b) h=match h[b]? with
  | some (.map ks vs _)=>bnd (mapH (frz n) vs (h.set b (.map ks vs true))) fun a=>some (.map ks a.1,a.2)
  | _=>none:=by
 simp only[frz]
 rcases h[b]? with _ | blk
 ·rfl
 ·cases blk with
  | map ks vs fz=>simp only; rcases mapH (frz n) _ _ with _ | ⟨l,h'⟩<;>rfl
  | _=>rfl
@[simp] theorem frz_39_ptr (b g off:Nat) (h:Heap):frz 39 (.ptr b g off) h=match h[b]? with
  | some (.cells g' cs _)=>if g=g' then bnd (mapH (frz 38) cs (bump b cs.length h)) fun a=>some (.ptr a.1 off,a.2) else none
  | _=>none:=frz_succ_ptr 38 b g off h
@[simp] theorem frz_39_slice (b g off len:Nat) (esz cap:Option Nat) (h:Heap):frz 39 (.slice b g off len esz cap) h=match h[b]? with
  | some (.cells g' cs _)=>if g=g'∧off+len*szOf esz≤cs.length then bnd (mapH (frz 38) ((cs.drop off).take (len*szOf esz)) (bump b (off+len*szOf esz) h)) fun a=>bnd (chunk esz len a.1) fun xs=>some (.slice xs,a.2) else none
  | _=>none:=frz_succ_slice 38 b g off len esz cap h
@[simp] theorem frz_39_nil (h:Heap):frz 39 .nil h=some (.slice [],h):=_root_.id rfl
@[simp] theorem frz_39_emp (h:Heap):frz 39 .emp h=some (.slice [],h):=_root_.id rfl
@[simp] theorem frz_38_slice (b g off len:Nat) (esz cap:Option Nat) (h:Heap):frz 38 (.slice b g off len esz cap) h=match h[b]? with
  | some (.cells g' cs _)=>if g=g'∧off+len*szOf esz≤cs.length then bnd (mapH (frz 37) ((cs.drop off).take (len*szOf esz)) (bump b (off+len*szOf esz) h)) fun a=>bnd (chunk esz len a.1) fun xs=>some (.slice xs,a.2) else none
  | _=>none:=frz_succ_slice 37 b g off len esz cap h
@[simp] theorem frz_38_map (b:Nat) (h:Heap):frz 38 (.map b) h=match h[b]? with
  | some (.map ks vs _)=>bnd (mapH (frz 37) vs (h.set b (.map ks vs true))) fun a=>some (.map ks a.1,a.2)
  | _=>none:=frz_succ_map 37 b h
@[simp] theorem frz_38_nil (h:Heap):frz 38 .nil h=some (.slice [],h):=_root_.id rfl
@[simp] theorem frz_38_emp (h:Heap):frz 38 .emp h=some (.slice [],h):=_root_.id rfl
@[simp] theorem frzArgs_func (f:Nat) (a b:List LV) (l:List LV) (h:Heap):frzArgs false (.func f a b::l) h=bnd (frz frzDepth (.func f a b) h) fun y=>bnd (frzArgs false l y.2) fun z=>some (y.1::z.1,z.2):=frzArgs_cons _ _ _
@[simp] theorem frzArgs_slice (b g o n:Nat) (e c:Option Nat) (l:List LV) (h:Heap):frzArgs false (.slice b g o n e c::l) h=bnd (frz frzDepth (.slice b g o n e c) h) fun y=>bnd (frzArgs false l y.2) fun z=>some (y.1::z.1,z.2):=frzArgs_cons _ _ _
@[simp] theorem frzArgs_map (b:Nat) (l:List LV) (h:Heap):frzArgs false (.map b::l) h=bnd (frz frzDepth (.map b) h) fun y=>bnd (frzArgs false l y.2) fun z=>some (y.1::z.1,z.2):=frzArgs_cons _ _ _
@[simp] theorem frzArgs_nilS (l:List LV) (h:Heap):frzArgs false (.nil::l) h=bnd (frzArgs false l h) fun z=>some (.slice []::z.1,z.2):=frzArgs_cons _ _ _
@[simp] theorem frzArgs_emp (l:List LV) (h:Heap):frzArgs false (.emp::l) h=bnd (frzArgs false l h) fun z=>some (.slice []::z.1,z.2):=frzArgs_cons _ _ _
@[simp] theorem chunk_one (l:List CV):chunk none l.length l=some l:=by
 induction l with
 | nil=>rfl
 | cons v l ih=>simp only[List.length_cons,chunk,ofCellsC,List.head?_cons,szOf,List.drop_one,List.tail_cons,ih]
@[simp] theorem scalarC_int (k:IntKind) (n:Int):scalarC (.int k n)=true:=_root_.id rfl
@[simp] theorem scalarC_bool (b:Bool):scalarC (.bool b)=true:=_root_.id rfl
@[simp] theorem scalarC_str (s:List UInt8):scalarC (.str s)=true:=_root_.id rfl
@[simp] theorem scalarC_slice (l:List CV):scalarC (.slice l)=false:=_root_.id rfl
@[simp] theorem scalarC_agg (l:List CV):scalarC (.agg l)=false:=_root_.id rfl
@[simp] theorem scalarC_map (l k:List CV):scalarC (.map l k)=false:=_root_.id rfl
@[simp] theorem scalarC_ptr (l:List CV) (o:Nat):scalarC (.ptr l o)=false:=_root_.id rfl
@[simp] theorem scalarC_func (f:Nat) (l k:List CV):scalarC (.func f l k)=false:=_root_.id rfl
@[simp] theorem scalarC_tuple (l:List CV):scalarC (.tuple l)=l.all scalarS:=_root_.id rfl
@[simp] theorem scalarS_int (k:IntKind) (n:Int):scalarS (.int k n)=true:=_root_.id rfl
@[simp] theorem scalarS_bool (b:Bool):scalarS (.bool b)=true:=_root_.id rfl
@[simp] theorem scalarS_str (s:List UInt8):scalarS (.str s)=true:=_root_.id rfl
@[simp] theorem scalarS_slice (l:List CV):scalarS (.slice l)=false:=_root_.id rfl
@[simp] theorem scalarS_agg (l:List CV):scalarS (.agg l)=false:=_root_.id rfl
attribute [simp] opRun whereOk memOpnd baseBlock inPart slotOk isDead bump frz_slice frz_ptr frz_func frz_map frz_tuple frz_agg mapH_cons allC fillFields fillParts setCells flatAll LV.flat CV.flat mkAgg repeatL ofCells chunk
attribute [simp] newId newAt binStr stepS opStep binC binInt binBoolC ok okC int64 CV.cells ofCellsC LV.cells szOf importB bound
abbrev CallP (prog:Nat→Option SFunc) (f:Nat):Prop:=∀ (pos:Option Nat) (q:Bool) (args:List LV) (h:Heap),callS prog (limS prog) pos q f args h=bnd (frzArgs q args h) fun a=>bnd (fn prog f a.1) fun v=>some (.c v,if scalarC v then h else a.2)
abbrev CodeEq (prog:Nat→Option SFunc) (f:Nat) (rs:List LRes) (c:SCode):Prop:=∀ args:List CV,fn prog f args=resK rs (execS prog (limS prog) c ⟨args.map .c,[]⟩)
abbrev LoopT (prog:Nat→Option SFunc) (a b:SCode):Prop:=∀ s:St,execS prog (limS prog) a s=seqK (execS prog (limS prog) b s) fun s'=>execS prog (limS prog) a (gc s.heap.length s')
abbrev LoopF (prog:Nat→Option SFunc) (a b:SCode):Prop:=∀ s:St,execS prog (limS prog) a s=seqK (execS prog (limS prog) b s) fun s'=>execS prog (limS prog) a s'
end LM
namespace LM
open Go
abbrev Str:=List UInt8
abbrev ci (n:Int):CV:=.int .i64 n
theorem wrap64 {n:Int} (h1 : -9223372036854775808≤n) (h2:n≤9223372036854775807):IntKind.i64.wrap n=n:=by
 simp only[IntKind.wrap,IntKind.bits,IntKind.signed]
 first
  | omega
  | (simp; omega)
def firstE:List Int→Int
 | []=>0
 | e::r=>if e≠0 then e else firstE r
def whenE (b:Bool) (e:Int):Int:=if b then e else 0
def outside (n a b:Int):Bool:=decide (n<a) || decide (n > b)
def letterN (c:Nat):Bool:=(decide (97≤c) && decide (c≤122)) || (decide (65≤c) && decide (c≤90))
def digitN (c:Nat):Bool:=decide (48≤c) && decide (c≤57)
def nameN (i:Nat) (c:Nat):Bool:=letterN c || (i != 0 && (digitN c || c == 95))
def nameFrom:Nat→Str→Bool
 | _,[]=>true
 | i,c::r=>nameN i c.toNat && nameFrom (i+1) r
def isName (s:Str):Bool:=decide (1≤s.length) && decide (s.length≤24) && nameFrom 0 s
def named (s:Str):Int:=whenE (!isName s) 8
theorem byte_get {s:Str} {pos:Nat} {c:UInt8} (hc:s[pos]? = some c):∃ h:pos<(ByteArray.mk s.toArray).size,(ByteArray.mk s.toArray)[pos]'h=c:=by
 obtain⟨h,e⟩:=List.getElem?_eq_some_iff.1 hc
 refine⟨by simpa[ByteArray.size] using h,?_⟩
 show s.toArray[pos]'_=c
 simpa using e
theorem decode_lo {s:Str} {pos:Nat} {c:UInt8} (hc:s[pos]? = some c) (h:c.toNat<128):Utf8.decode ⟨s.toArray⟩ pos=(c.toNat,1):=by
 obtain⟨h1,e⟩:=byte_get hc
 rw[Go.decode_ascii _ pos h1 (by rw[e]; exact h),e]
theorem decode_hi {s:Str} {pos:Nat} {c:UInt8} (hc:s[pos]? = some c) (h:128≤c.toNat):128≤(Utf8.decode ⟨s.toArray⟩ pos).1:=by
 obtain⟨h1,e⟩:=byte_get hc
 exact (Go.decode_high _ pos h1 (by rw[e]; exact h)).1
theorem nameN_hi {i c:Nat} (h:128≤c):nameN i c=false:=by
 unfold nameN letterN digitN
 simp
 omega
def cellsOf (xs:List CV):List LV:=(xs.flatMap CV.cells).map .c
@[simp] theorem cellsOf_nil:cellsOf []=[]:=rfl
theorem cellsOf_append (a b:List CV):cellsOf (a++b)=cellsOf a++cellsOf b:=by simp[cellsOf]
@[simp] theorem underL_cellsOf (n:Nat) (xs:List CV):underL n (cellsOf xs)=true:=underL_map_c n _
def Elem:Option Nat→CV→Prop
 | none,x=>x.cells=[x]∧x.flat=true
 | some k,x=>∃ cs:List CV,x=.agg cs∧cs.length=k∧∀ y ∈ cs,y.flat=true
theorem Elem.cells {e:Option Nat} {x:CV} (h:Elem e x):x.cells.length=szOf e∧∀ y ∈ x.cells,y.flat=true:=by
 cases e with
 | none =>
  obtain⟨h1,h2⟩:=h
  rw[h1]
  exact⟨rfl,by simpa using h2⟩
 | some k =>
  obtain⟨cs,rfl,h1,h2⟩:=h
  exact⟨h1,h2⟩
theorem cellsOf_length {e:Option Nat}:∀ {xs:List CV},(∀ x ∈ xs,Elem e x)→(cellsOf xs).length=xs.length*szOf e
 | [],_=>by simp
 | x::xs,h=>by
  have h1:=(h x (by simp)).cells.1
  have h2:=cellsOf_length (e:=e) (xs:=xs) fun y hy=>h y (by simp[hy])
  simp only[cellsOf,List.flatMap_cons,List.map_append,List.length_append,List.length_map,List.length_cons] at h2 ⊢
  rw[h1,h2,Nat.add_mul]
  omega
theorem flatAll_cellsOf {e:Option Nat} {xs:List CV} (h:∀ x ∈ xs,Elem e x):flatAll (cellsOf xs)=true:=by
 have:∀ l:List CV,(∀ y ∈ l,y.flat=true)→flatAll (l.map .c)=true:=by
  intro l hl
  induction l with
  | nil=>rfl
  | cons y l ih =>
   simp only[List.map_cons,flatAll,List.all_cons,Bool.and_eq_true] at ih ⊢
   exact⟨hl y (by simp),ih fun z hz=>hl z (by simp[hz])⟩
 apply this
 intro y hy
 rw[List.mem_flatMap] at hy
 obtain⟨x,hx,hy⟩:=hy
 exact (h x hx).cells.2 y hy
theorem chunk_cellsOf {e:Option Nat}:∀ {xs:List CV},(∀ x ∈ xs,Elem e x)→chunk e xs.length (xs.flatMap CV.cells)=some xs
 | [],_=>rfl
 | x::xs,h=>by
  have ih:=chunk_cellsOf (e:=e) (xs:=xs) fun y hy=>h y (by simp[hy])
  have hx:=h x (by simp)
  cases e with
  | none =>
   obtain⟨h1,h2⟩:=hx
   simp only[List.length_cons,List.flatMap_cons,h1,List.singleton_append,chunk,ofCellsC,List.head?_cons,szOf,List.drop_one,List.tail_cons,ih]
  | some k =>
   obtain⟨cs,rfl,h1,h2⟩:=hx
   simp only[List.length_cons,List.flatMap_cons,CV.cells,chunk,ofCellsC,szOf]
   rw[if_pos (by simp; omega)]
   have e1:(cs++xs.flatMap CV.cells).take k=cs:=by rw[← h1]; simp
   have e2:(cs++xs.flatMap CV.cells).drop k=xs.flatMap CV.cells:=by rw[← h1]; simp
   simp only[e1,e2,ih]
theorem append_ownP (pos:Option Nat) {b g bytes fz:Nat} {e:Option Nat} {ys xs:List CV} {h:Heap} {len:Nat} (hb:h[b]? = some (.cells g (cellsOf ys) fz)) (hy:∀ x ∈ ys,Elem e x) (hx:∀ x ∈ xs,Elem e x) (hlen:len=ys.length) (hf:fz≤(cellsOf ys).length) (hn:xs≠[])
  (hs:(ys.length+xs.length)*bytes≤2^47) (hs2:ys.length+xs.length≤9223372036854775807) :
  appendOp pos e bytes (.slice b g 0 len e none) (.c (.slice xs)) h=some (.slice b (g+1) 0 (len+xs.length) e none,h.set b (.cells (g+1) (cellsOf (ys++xs)) fz)):=by
 subst hlen
 have h1:sliceCells e h (.c (.slice xs))=some (xs.length,cellsOf xs):=rfl
 have h2:=cellsOf_length hx
 have h3:=cellsOf_length hy
 have hne:xs.length≠0:=fun e=>hn (List.eq_nil_of_length_eq_zero e)
 simp only[appendOp,h1,flatAll_cellsOf hx,hb]
 rw[if_neg (by simp),if_neg (by rw[h2]; simp),if_neg (by simp; omega)]
 rw[if_pos ⟨trivial,h3.symm,hf⟩,if_neg hne,cellsOf_append]
 rfl
theorem append_own {b g bytes fz:Nat} {e:Option Nat} {ys xs:List CV} {h:Heap} {len:Nat} (hb:h[b]? = some (.cells g (cellsOf ys) fz)) (hy:∀ x ∈ ys,Elem e x) (hx:∀ x ∈ xs,Elem e x) (hlen:len=ys.length) (hf:fz≤(cellsOf ys).length) (hn:xs≠[])
  (hs:(ys.length+xs.length)*bytes≤2^47) (hs2:ys.length+xs.length≤9223372036854775807) :
  appendOp none e bytes (.slice b g 0 len e none) (.c (.slice xs)) h=some (.slice b (g+1) 0 (len+xs.length) e none,h.set b (.cells (g+1) (cellsOf (ys++xs)) fz)):=append_ownP none hb hy hx hlen hf hn hs hs2
theorem frz_own {b g fz:Nat} {e:Option Nat} {ys:List CV} {h:Heap} {len:Nat} (hb:h[b]? = some (.cells g (cellsOf ys) fz)) (hy:∀ x ∈ ys,Elem e x) (hlen:len=ys.length) (cap:Option Nat) :
  frz frzDepth (.slice b g 0 len e cap) h=some (.slice ys,bump b (len*szOf e) h):=by
 subst hlen
 have h3:=cellsOf_length hy
 rw[frz_slice,hb]
 simp only[Nat.zero_add,List.drop_zero]
 rw[if_pos ⟨trivial,by omega⟩]
 have:(cellsOf ys).take (ys.length*szOf e)=cellsOf ys:=by rw[← h3]; exact List.take_length
 rw[this]
 unfold cellsOf
 rw[mapH_map_c 38]
 simp only[bnd_some,chunk_cellsOf hy]
theorem frz_own39 {b g fz:Nat} {e:Option Nat} {ys:List CV} {h:Heap} {len:Nat} (hb:h[b]? = some (.cells g (cellsOf ys) fz)) (hy:∀ x ∈ ys,Elem e x) (hlen:len=ys.length) (cap:Option Nat) :
  frz 39 (.slice b g 0 len e cap) h=some (.slice ys,bump b (len*szOf e) h):=by
 subst hlen
 have h3:=cellsOf_length hy
 rw[frz_39_slice,hb]
 simp only[Nat.zero_add,List.drop_zero]
 rw[if_pos ⟨trivial,by omega⟩]
 have:(cellsOf ys).take (ys.length*szOf e)=cellsOf ys:=by rw[← h3]; exact List.take_length
 rw[this]
 unfold cellsOf
 rw[mapH_map_c 37]
 simp only[bnd_some,chunk_cellsOf hy]
theorem resV_own {b g fz:Nat} {e:Option Nat} {ys:List CV} {h:Heap} {len:Nat} (hb:h[b]? = some (.cells g (cellsOf ys) fz)) (hy:∀ x ∈ ys,Elem e x) (hlen:len=ys.length) (cap:Option Nat) (v:CV) :
  resV (some (mkTuple [.slice b g 0 len e cap,.c v])) h=some (.tuple [.slice ys,v]):=by
 have h1:mkTuple [.slice b g 0 len e cap,.c v]=.tuple [.slice b g 0 len e cap,.c v]:=rfl
 unfold resV
 rw[bnd_some,h1,frz_tuple]
 simp only[mapH_cons,frz_own39 hb hy hlen cap,bnd_some,mapH_nil]
 rfl
theorem resV_own1 {b g fz:Nat} {e:Option Nat} {ys:List CV} {h:Heap} {len:Nat} (hb:h[b]? = some (.cells g (cellsOf ys) fz)) (hy:∀ x ∈ ys,Elem e x) (hlen:len=ys.length) (cap:Option Nat) :
  resV (some (.slice b g 0 len e cap)) h=some (.slice ys):=by
 unfold resV
 rw[bnd_some,frz_own hb hy hlen cap,bnd_some]
@[simp] theorem resV_nil2 {b g fz:Nat} {e:Option Nat} {h:Heap} (cap:Option Nat) (v:CV) (hb:h[b]? = some (.cells g [] fz)):resV (some (mkTuple [.slice b g 0 0 e cap,.c v])) h=some (.tuple [.slice [],v]):=resV_own (ys:=[]) hb (by simp) rfl cap v
@[simp] theorem resV_nil1 {b g fz:Nat} {e:Option Nat} {h:Heap} (cap:Option Nat) (hb:h[b]? = some (.cells g [] fz)):resV (some (.slice b g 0 0 e cap)) h=some (.slice []):=resV_own1 (ys:=[]) hb (by simp) rfl cap
end LM
namespace LM
open Go Go.RowKit
variable {P:Program} {H:Hints}
open Classical in
noncomputable def limP (Q:Nat→Option LFunc) (f:Nat) (args:List CV):Option CV :=
 if h:∃ v,∃ n,pcall Q n f args=some v then some (Classical.choose h) else none
theorem limP_of {Q:Nat→Option LFunc} {f n:Nat} {args:List CV} {v:CV} (h:pcall Q n f args=some v):limP Q f args=some v:=by
 unfold limP
 have hx:∃ v,∃ n,pcall Q n f args=some v:=⟨v,n,h⟩
 rw[dif_pos hx]
 obtain⟨m,hm⟩:=Classical.choose_spec hx
 have h1:=pcall_le (fun _ _ h=>h) (Nat.le_max_left n m) h
 have h2:=pcall_le (fun _ _ h=>h) (Nat.le_max_right n m) hm
 rw[h1] at h2
 exact h2.symm
theorem primOk_lim {Q:Nat→Option LFunc} (hP:ProgOk P H Q) {f:Nat} (he:Enters P f):PrimOk P f (limP Q f) :=
 ⟨he,fun _ _ _ v _ hF ha hg=>by
  unfold limP at hg
  split at hg
  ·rename_i hx
   obtain⟨m,hm⟩:=Classical.choose_spec hx
   simp only[Option.some.injEq] at hg
   rw[hg] at hm
   exact pcall_calls hP hF ha hm
  ·cases hg⟩
theorem mix_le {L:List (Nat × LFunc)} {S:List (Nat × SFunc)} (h:∀ f x,lookupPrim f L=some x→lookupPrim f S=none):PLe (progL (lookupPrim · S)) (mixL L S):=by
 intro f F hf
 unfold mixL
 cases hl:lookupPrim f L with
 | none=>exact hf
 | some x=>simp only[progL,h f x hl] at hf; cases hf
theorem fn_mix {L:List (Nat × LFunc)} {S:List (Nat × SFunc)} (hr:Readable (lookupPrim · S)) (h:∀ f x,lookupPrim f L=some x→lookupPrim f S=none) {f:Nat} {args:List CV} {v:CV} (hf:fn (lookupPrim · S) f args=some v):∃ n,pcall (mixL L S) n f args=some v:=by
 obtain⟨n,hn⟩:=fn_pcall hr hf
 exact⟨n,pcall_le (mix_le h) (Nat.le_refl n) hn⟩
theorem freshOf_prims (ps:List (Nat × (List CV→Option CV))):freshOf { H with prims:=ps }=freshOf H:=rfl
theorem place_prims (ps:List (Nat × (List CV→Option CV))) (R:List Nat) (ops:List Oper):∀ (l:List LOper) (k:Nat),place { H with prims:=ps } R ops k l=place H R ops k l
 | [],k=>rfl
 | o::r,k=>by simp only[place,place_prims ps R ops r,freshOf_prims]; rfl
theorem cOper_prims (ps:List (Nat × (List CV→Option CV))) (fid:Nat) (b:Bool) (ops:List Oper):cOper P { H with prims:=ps } fid b ops=cOper P H fid b ops:=rfl
theorem regionOk_prims (ps:List (Nat × (List CV→Option CV))) (ops:Array Oper) (l:List LOper):regionOk { H with prims:=ps } ops l=regionOk H ops l:=rfl
theorem cCode_prims (ps:List (Nat × (List CV→Option CV))) (fid:Nat):∀ c:Code,cCode P { H with prims:=ps } fid c=cCode P H fid c
 | .skip=>rfl
 | .label _=>rfl
 | .ret=>rfl
 | .exit id=>rfl
 | .seq a b=>by simp only[cCode,cCode_prims ps fid a,cCode_prims ps fid b]
 | .cond c a b=>by simp only[cCode,cCode_prims ps fid a,cCode_prims ps fid b]
 | .block id a=>by simp only[cCode,cCode_prims ps fid a]
 | .loop a=>by simp only[cCode,cCode_prims ps fid a]
 | .region _ ops draw=>by simp only[cCode,place_prims,cOper_prims,regionOk_prims]; rfl
 | .rangeFunc g ps' a b=>by simp only[cCode,cCode_prims ps fid a,cCode_prims ps fid b]
 | .scope a=>by simp only[cCode,cCode_prims ps fid a]
 | .goto _=>rfl
 | .refuse _=>rfl
theorem cFunc_prims {ps:List (Nat × (List CV→Option CV))} {f:Nat} (h:lookupPrim f ps=none) (h0:lookupPrim f H.prims=none):cFunc P { H with prims:=ps } f=cFunc P H f:=by
 unfold cFunc
 simp only[h,h0,cCode_prims]
 rfl
theorem tab_prims {ps:List (Nat × (List CV→Option CV))} {f:Nat} {F:SFunc} (h:cFunc P H f=decF F∧(decF F).isSome=true) (h1:lookupPrim f ps=none) (h0:lookupPrim f H.prims=none):cFunc P { H with prims:=ps } f=decF F∧(decF F).isSome=true :=
 ⟨(cFunc_prims h1 h0).trans h.1,h.2⟩
theorem tab_enters {f:Nat} {F:SFunc} (h:cFunc P H f=decF F∧(decF F).isSome=true) (h1:lookupPrim f H.prims=none) (h2:lookupPrim f H.fprims=none):Enters P f:=by
 obtain⟨lf,hl⟩:=Option.isSome_iff_exists.1 h.2
 rcases cFunc_inv (h.1.trans hl) with ⟨g',_,e⟩ | ⟨k,g',_,e⟩ | ⟨fn,c,rs',_,_,_,_,he⟩
 ·rw[h1] at e; cases e
 ·rw[h2] at e; cases e
 ·exact he
theorem TabOk.filter (p:Nat × SFunc→Bool):∀ {l:List (Nat × SFunc)},TabOk P H l→TabOk P H (l.filter p)
 | [],_=>trivial
 | x::r,h=>by
  rw[List.filter_cons]
  split
  ·exact⟨h.1,h.2.filter p⟩
  ·exact h.2.filter p
theorem TabOk.prims {ps:List (Nat × (List CV→Option CV))} (h0:H.prims=[]):∀ {l:List (Nat × SFunc)},TabOk P H l→(l.all fun x=>(lookupPrim x.1 ps).isNone)=true→TabOk P { H with prims:=ps } l
 | [],_,_=>trivial
 | (f,F)::r,h,hn=>by
  simp only[List.all_cons,Bool.and_eq_true] at hn
  exact⟨tab_prims h.1 (Option.isNone_iff_eq_none.1 hn.1) (by rw[h0]; rfl),h.2.prims h0 hn.2⟩
end LM
namespace LM
structure Swo {α:Type} (lt:α→α→Bool):Prop where
 asym:∀ x y,lt x y=true→lt y x=false
 split:∀ x y z,lt x z=true→lt x y=true∨lt y z=true
section
variable {α:Type} {lt:α→α→Bool}
theorem Swo.lel (h:Swo lt) {x y z:α} (a:lt y x=false) (b:lt y z=true):lt x z=true:=by
 rcases h.split y x z b with q | q
 ·rw[a] at q; cases q
 ·exact q
theorem Swo.lele (h:Swo lt) {x y z:α} (a:lt y x=false) (b:lt z y=false):lt z x=false:=by
 cases q:lt z x
 ·rfl
 ·rcases h.split z y x q with p | p
  ·rw[b] at p; cases p
  ·rw[a] at p; cases p
theorem Swo.irr (h:Swo lt) (x:α):lt x x=false:=by
 cases q:lt x x
 ·rfl
 ·have:=h.asym x x q
  rw[q] at this
  exact this
def insL (lt:α→α→Bool) (x:α):List α→List α→List α
 | [],Q=>x::Q
 | y::L,Q=>if lt x y then insL lt x L (y::Q) else L.reverse++y::x::Q
theorem insL_append (x:α):∀ (L Q R:List α),insL lt x L (Q++R)=insL lt x L Q++R
 | [],Q,R=>rfl
 | y::L,Q,R=>by
  simp only[insL]
  split
  ·exact insL_append x L (y::Q) R
  ·simp
theorem insL_length (x:α):∀ (L Q:List α),(insL lt x L Q).length=L.length+Q.length+1
 | [],Q=>by simp[insL]
 | y::L,Q=>by
  simp only[insL]
  split
  ·rw[insL_length x L (y::Q)]; simp; omega
  ·simp; omega
theorem insL_perm (x:α):∀ (L Q:List α),(insL lt x L Q).Perm (x::(L.reverse++Q))
 | [],Q=>by simp[insL]
 | y::L,Q=>by
  simp only[insL]
  split
  ·refine (insL_perm x L (y::Q)).trans ?_
   simp
  ·have:(y::L).reverse++Q=L.reverse++y::Q:=by simp
   rw[this]
   have h2:L.reverse++y::x::Q=(L.reverse++[y])++x::Q:=by simp
   have h3:x::(L.reverse++y::Q)=x::((L.reverse++[y])++Q):=by simp
   rw[h2,h3]
   exact List.perm_middle
def insS (lt:α→α→Bool) (x:α) (S:List α):List α:=insL lt x S.reverse []
theorem insS_length (x:α) (S:List α):(insS lt x S).length=S.length+1:=by
 unfold insS
 rw[insL_length]
 simp
theorem insS_perm (x:α) (S:List α):(insS lt x S).Perm (x::S):=by
 have:=insL_perm (lt:=lt) x S.reverse []
 simpa[insS] using this
def sortI (lt:α→α→Bool):List α→List α→List α
 | S,[]=>S
 | S,x::U=>sortI lt (insS lt x S) U
theorem sortI_length:∀ (S U:List α),(sortI lt S U).length=S.length+U.length
 | S,[]=>rfl
 | S,x::U=>by rw[sortI,sortI_length,insS_length]; simp; omega
theorem sortI_perm:∀ (S U:List α),(sortI lt S U).Perm (S++U)
 | S,[]=>by simp[sortI]
 | S,x::U=>by
  rw[sortI]
  refine (sortI_perm (insS lt x S) U).trans ?_
  refine ((insS_perm x S).append_right U).trans ?_
  exact List.perm_middle.symm
def Srt (lt:α→α→Bool) (l:List α):Prop:=l.Pairwise fun x y=>lt y x=false
theorem insS_split (h:Swo lt) (x:α) {S:List α} (hs:Srt lt S):∃ A B,S=A++B∧insS lt x S=A++x::B∧(∀ y ∈ A,lt x y=false)∧∀ y ∈ B,lt x y=true:=by
 have key:∀ (L Q:List α),Srt lt (L.reverse++Q)→(∀ y ∈ Q,lt x y=true)→∃ A B,L.reverse++Q=A++B∧insL lt x L Q=A++x::B∧(∀ y ∈ A,lt x y=false)∧∀ y ∈ B,lt x y=true:=by
  intro L
  induction L with
  | nil=>intro Q _ hq; exact⟨[],Q,by simp,by simp[insL],by simp,hq⟩
  | cons y L ih =>
   intro Q hsrt hq
   simp only[insL]
   cases q:lt x y
   ·refine⟨L.reverse++[y],Q,by simp,by simp,?_,hq⟩
    intro z hz
    rcases List.mem_append.1 hz with hz | hz
    ·have h1:lt y z=false:=by
      unfold Srt at hsrt
      simp only[List.reverse_cons,List.append_assoc,List.singleton_append] at hsrt
      exact (List.pairwise_append.1 hsrt).2.2 z hz y (by simp)
     exact h.lele h1 q
    ·simp at hz
     subst hz
     exact q
   ·simp only[if_true]
    obtain⟨A,B,e1,e2,e3,e4⟩:=ih (y::Q) (by simpa using hsrt) (by
     intro z hz
     rcases List.mem_cons.1 hz with rfl | hz
     ·exact q
     ·exact hq z hz)
    exact⟨A,B,by rw[← e1]; simp,e2,e3,e4⟩
 obtain⟨A,B,e1,e2,e3,e4⟩:=key S.reverse [] (by simpa using hs) (by simp)
 exact⟨A,B,by simpa using e1,e2,e3,e4⟩
theorem insS_eq {x:α} {A B:List α} (ha:∀ y ∈ A,lt x y=false) (hb:∀ y ∈ B,lt x y=true):insS lt x (A++B)=A++x::B:=by
 have key:∀ (L Q:List α),(∀ y ∈ L,lt x y=true)→insL lt x (L++A.reverse) Q=A++x::(L.reverse++Q):=by
  intro L
  induction L with
  | nil =>
   intro Q _
   cases hA:A.reverse with
   | nil =>
    have:A=[]:=by simpa using hA
    subst this
    simp[insL]
   | cons y r =>
    have e:A=r.reverse++[y]:=by rw[← List.reverse_reverse A,hA]; simp
    have:=ha y (by rw[e]; simp)
    simp[insL,this,e]
  | cons y L ih =>
   intro Q hL
   simp only[List.cons_append,insL,hL y (by simp),if_true]
   rw[ih (y::Q) (fun z hz=>hL z (by simp[hz]))]
   simp
 unfold insS
 rw[List.reverse_append]
 have:=key B.reverse [] (fun y hy=>hb y (by simpa using hy))
 simpa using this
theorem insS_srt (h:Swo lt) (x:α) {S:List α} (hs:Srt lt S):Srt lt (insS lt x S):=by
 obtain⟨A,B,rfl,e2,e3,e4⟩:=insS_split h x hs
 rw[e2]
 unfold Srt at hs ⊢
 obtain⟨p1,p2,p3⟩:=List.pairwise_append.1 hs
 refine List.pairwise_append.2 ⟨p1,List.pairwise_cons.2 ⟨fun y hy=>h.asym _ _ (e4 y hy),p2⟩,?_⟩
 intro a ha b hb
 rcases List.mem_cons.1 hb with rfl | hb
 ·exact e3 a ha
 ·exact p3 a ha b hb
theorem sortI_srt (h:Swo lt):∀ (S U:List α),Srt lt S→Srt lt (sortI lt S U)
 | S,[],hs=>hs
 | S,x::U,hs=>sortI_srt h _ U (insS_srt h x hs)
def mrg (lt:α→α→Bool) (U V:List α):List α:=List.merge U V fun u v=>!lt v u
@[simp] theorem mrg_nil_left (V:List α):mrg lt [] V=V:=by simp[mrg]
@[simp] theorem mrg_nil_right (U:List α):mrg lt U []=U:=by simp[mrg]
end
open Go
theorem frzFuncs_nil (h:Heap):frzFuncs [] h=some ([],h):=by rw[frzFuncs]
theorem frzFuncs_c (v:CV) (l:List LV) (h:Heap):frzFuncs (.c v::l) h=bnd (frzFuncs l h) fun a=>some (.c v::a.1,a.2):=by
 rw[frzFuncs]
 rcases frzFuncs l h with _ | ⟨x,y⟩<;>rfl
 all_goals simp
theorem frzFuncs_slice (b g o n:Nat) (e c:Option Nat) (l:List LV) (h:Heap):frzFuncs (.slice b g o n e c::l) h=bnd (frzFuncs l h) fun a=>some (.slice b g o n e c::a.1,a.2):=by
 rw[frzFuncs]
 rcases frzFuncs l h with _ | ⟨x,y⟩<;>rfl
 all_goals simp
end LM
namespace LM
open Go
section
variable {Q:Nat→Option LFunc} {r:Run} {ri:RunI} {yh:Hand}
@[simp] theorem lx_skip (s:St):exec Q r ri .skip s=some (.normal,s):=_root_.id rfl
@[simp] theorem lx_ret (s:St):exec Q r ri .ret s=some (.ret,s):=_root_.id rfl
@[simp] theorem lx_exit (id:Nat) (s:St):exec Q r ri (.exit id) s=some (.exit id,s):=_root_.id rfl
@[simp] theorem lx_seq (a b:LCode) (s:St):exec Q r ri (.seq a b) s=seqK (exec Q r ri a s) (exec Q r ri b):=by
 simp only[exec]
 unfold seqK
 rcases exec Q r ri a s with _ | ⟨e,s'⟩
 ·rfl
 ·cases e<;>rfl
@[simp] theorem lx_cond (c:LO) (a b:LCode) (s:St):exec Q r ri (.cond c a b) s=condF (ev s.tmps c) (exec Q r ri a) (exec Q r ri b) s:=by
 simp only[exec]
 unfold condF
 cases ev s.tmps c with
 | c v=>cases v<;>first | rfl | (rename_i t; cases t<;>rfl)
 | _=>rfl
@[simp] theorem lx_block (id:Nat) (a:LCode) (s:St):exec Q r ri (.block id a) s=blockK id (exec Q r ri a s):=by
 simp only[exec]
 unfold blockK
 rcases exec Q r ri a s with _ | ⟨e,s'⟩
 ·rfl
 ·cases e<;>rfl
def lregK (x:Option St):Option (Ex × St):=bnd x fun s=>some (.normal,s)
@[simp] theorem lregK_some (s:St):lregK (some s)=some (.normal,s):=_root_.id rfl
@[simp] theorem lregK_none:lregK none=none:=_root_.id rfl
@[simp] theorem lx_region (ops:List LOper) (s:St):exec Q r ri (.region ops) s=lregK (operSteps Q r 0 ops s):=by
 simp only[exec]
 unfold lregK
 cases operSteps Q r 0 ops s<;>rfl
@[simp] theorem lx_draw (k:Nat) (ops:List LOper) (s:St):exec Q r ri (.draw k ops) s=lregK (operSteps Q r s.heap.length ops ⟨s.tmps,s.heap++List.replicate k .dead⟩):=by
 simp only[exec]
 unfold lregK
 cases operSteps Q r s.heap.length ops ⟨s.tmps,s.heap++List.replicate k .dead⟩<;>rfl
def lopsK (Q:Nat→Option LFunc) (r:Run) (base:Nat) (os:List LOper) (x:Option St):Option St:=bnd x fun s=>operSteps Q r base os s
@[simp] theorem lopsK_some (base:Nat) (os:List LOper) (s:St):lopsK Q r base os (some s)=operSteps Q r base os s:=_root_.id rfl
@[simp] theorem lopsK_none (base:Nat) (os:List LOper):lopsK Q r base os none=none:=_root_.id rfl
@[simp] theorem ls_nil (base:Nat) (s:St):operSteps Q r base [] s=some s:=_root_.id rfl
@[simp] theorem ls_cons (base:Nat) (o:LOper) (os:List LOper) (s:St):operSteps Q r base (o::os) s=lopsK Q r base os (operStep Q r base o s):=by
 simp only[operSteps]
 unfold lopsK
 cases operStep Q r base o s<;>rfl
def guardF (v:LV) (b:Bool) (f:St→Option St) (d:Option Nat) (s:St):Option St :=
 match v with
 | .c (.bool b')=>if b' == b then f s else some ⟨put s.tmps d (.c (.tuple [])),s.heap⟩
 | .c (.tuple [])=>some ⟨put s.tmps d (.c (.tuple [])),s.heap⟩
 | _=>none
@[simp] theorem guardF_true (f:St→Option St) (d:Option Nat) (s:St):guardF (.c (.bool true)) true f d s=f s:=_root_.id rfl
@[simp] theorem guardF_false (f:St→Option St) (d:Option Nat) (s:St):guardF (.c (.bool false)) false f d s=f s:=_root_.id rfl
@[simp] theorem guardF_tf (f:St→Option St) (d:Option Nat) (s:St):guardF (.c (.bool true)) false f d s=some ⟨put s.tmps d (.c (.tuple [])),s.heap⟩:=_root_.id rfl
@[simp] theorem guardF_ft (f:St→Option St) (d:Option Nat) (s:St):guardF (.c (.bool false)) true f d s=some ⟨put s.tmps d (.c (.tuple [])),s.heap⟩:=_root_.id rfl
@[simp] theorem lo_plain (base:Nat) (d:Option Nat) (op:LOp) (sl:Option Nat) (wh:Where) (s:St):operStep Q r base (.mk d op none sl wh) s=operRun Q r base (.mk d op none sl wh) s:=_root_.id rfl
@[simp] theorem lo_guard (base:Nat) (d:Option Nat) (op:LOp) (t:Nat) (b:Bool) (sl:Option Nat) (wh:Where) (s:St):operStep Q r base (.mk d op (some (t,b)) sl wh) s=guardF (ev s.tmps (.t t)) b (operRun Q r base (.mk d op (some (t,b)) sl wh)) d s:=by
 simp only[operStep,ev]
 unfold guardF
 split<;>simp_all
def lputK (d:Option Nat) (ts:List LV) (x:R):Option St:=bnd x fun v=>some ⟨put ts d v.1,v.2⟩
@[simp] theorem lputK_some (d:Option Nat) (ts:List LV) (v:LV) (h:Heap):lputK d ts (some (v,h))=some ⟨put ts d v,h⟩:=_root_.id rfl
@[simp] theorem lputK_none (d:Option Nat) (ts:List LV):lputK d ts none=none:=_root_.id rfl
@[simp] theorem lr_any (base:Nat) (d:Option Nat) (op:LOp) (g:Option (Nat × Bool)) (s:St):operRun Q r base (.mk d op g none .any) s=lputK d s.tmps (step Q r none s.tmps s.heap op):=by
 simp only[operRun,whereOk_any,slotOk,Bool.and_self,if_true,Option.map_none]
 unfold lputK
 cases step Q r none s.tmps s.heap op<;>rfl
theorem lr_some (base:Nat) (d:Option Nat) (op:LOp) (g:Option (Nat × Bool)) (sl:Option Nat) (wh:Where) (s:St):operRun Q r base (.mk d op g sl wh) s=if whereOk base wh s.tmps op && slotOk base sl s.heap then lputK d s.tmps (step Q r (sl.map (base+·)) s.tmps s.heap op) else none:=by
 simp only[operRun]
 split
 ·unfold lputK
  cases step Q r (sl.map (base+·)) s.tmps s.heap op<;>rfl
 ·rfl
@[simp] theorem put_some (ts:List LV) (d:Nat) (v:LV):put ts (some d) v=ts.set d v:=_root_.id rfl
@[simp] theorem put_none (ts:List LV) (v:LV):put ts none v=ts:=_root_.id rfl
@[simp] theorem lstep_call (pos:Option Nat) (ts:List LV) (h:Heap) (q:Bool) (f:LO) (args:List LO):step Q r pos ts h (.call q f args)=bnd (funcOf (ev ts f)) fun g=>callF Q r pos q g.1 (g.2.1++args.map (ev ts)++g.2.2) h:=by
 simp only[step]
 rcases funcOf (ev ts f) with _ | ⟨g,a,b⟩<;>rfl
theorem pcall_code {n f nt:Nat} {rs:List LRes} {b:LCode} (hf:Q f=some (.code .pure nt rs b)) (args:List CV):pcall Q (n+1) f args=resK rs (exec Q (runs Q n).1 (runs Q n).2 b ⟨pad nt (args.map .c),[]⟩):=by
 simp only[pcall,hf,run,pureCall,runs]
 rcases exec Q (runs Q n).1 (runs Q n).2 b ⟨pad nt (args.map .c),[]⟩ with _ | ⟨ex,s⟩
 ·rfl
 ·cases ex with
  | exit id=>rfl
  | normal =>
   simp only[resK_normal]
   unfold resV
   cases resultV s rs with
   | none=>rfl
   | some v=>simp only[bnd_some]; cases frz frzDepth v s.heap<;>rfl
  | ret =>
   simp only[resK_ret]
   unfold resV
   cases resultV s rs with
   | none=>rfl
   | some v=>simp only[bnd_some]; cases frz frzDepth v s.heap<;>rfl
abbrev R3:=Option (Ex × St × Option Ex)
def seqI (x:R3) (k:St→Option Ex→R3):R3 :=
 match x with
 | some (.normal,s,p)=>k s p
 | x=>x
@[simp] theorem seqI_normal (s:St) (p:Option Ex) (k:St→Option Ex→R3):seqI (some (.normal,s,p)) k=k s p:=_root_.id rfl
@[simp] theorem seqI_ret (s:St) (p:Option Ex) (k:St→Option Ex→R3):seqI (some (.ret,s,p)) k=some (.ret,s,p):=_root_.id rfl
@[simp] theorem seqI_exit (id:Nat) (s:St) (p:Option Ex) (k:St→Option Ex→R3):seqI (some (.exit id,s,p)) k=some (.exit id,s,p):=_root_.id rfl
def blockI (id:Nat) (x:R3):R3 :=
 match x with
 | some (.exit id',s,p)=>if id'=id then some (.normal,s,p) else some (.exit id',s,p)
 | x=>x
@[simp] theorem blockI_normal (id:Nat) (s:St) (p:Option Ex):blockI id (some (.normal,s,p))=some (.normal,s,p):=_root_.id rfl
@[simp] theorem blockI_ret (id:Nat) (s:St) (p:Option Ex):blockI id (some (.ret,s,p))=some (.ret,s,p):=_root_.id rfl
@[simp] theorem blockI_exit (id id' : Nat) (s:St) (p:Option Ex):blockI id (some (.exit id',s,p))=if id'=id then some (.normal,s,p) else some (.exit id',s,p):=_root_.id rfl
def condII (v:LV) (f g:St→Option Ex→R3) (s:St) (p:Option Ex):R3 :=
 match v with
 | .c (.bool b)=>if b then f s p else g s p
 | _=>none
@[simp] theorem condII_true (f g:St→Option Ex→R3) (s:St) (p:Option Ex):condII (.c (.bool true)) f g s p=f s p:=_root_.id rfl
@[simp] theorem condII_false (f g:St→Option Ex→R3) (s:St) (p:Option Ex):condII (.c (.bool false)) f g s p=g s p:=_root_.id rfl
@[simp] theorem condII_bool (b:Bool) (f g:St→Option Ex→R3) (s:St) (p:Option Ex):condII (.c (.bool b)) f g s p=if b then f s p else g s p:=_root_.id rfl
def regI (x:Option (St × Option Ex)):R3:=bnd x fun y=>some (.normal,y.1,y.2)
@[simp] theorem regI_some (s:St) (p:Option Ex):regI (some (s,p))=some (.normal,s,p):=_root_.id rfl
def opsI (Q:Nat→Option LFunc) (r:Run) (yh:Hand) (os:List LOper) (x:Option (St × Option Ex)):Option (St × Option Ex):=bnd x fun y=>stepsI Q r yh os y.1 y.2
@[simp] theorem opsI_some (os:List LOper) (s:St) (p:Option Ex):opsI Q r yh os (some (s,p))=stepsI Q r yh os s p:=_root_.id rfl
@[simp] theorem stepsI_nil (s:St) (p:Option Ex):stepsI Q r yh [] s p=some (s,p):=_root_.id rfl
@[simp] theorem stepsI_cons (o:LOper) (os:List LOper) (s:St) (p:Option Ex):stepsI Q r yh (o::os) s p=opsI Q r yh os (stepI Q r yh o s p):=by
 simp only[stepsI]
 unfold opsI
 rcases stepI Q r yh o s p with _ | ⟨s',p'⟩<;>rfl
@[simp] theorem ix_skip (s:St) (p:Option Ex):execI Q r ri yh .skip s p=some (.normal,s,p):=_root_.id rfl
@[simp] theorem ix_ret (s:St) (p:Option Ex):execI Q r ri yh .ret s p=some (.ret,s,p):=_root_.id rfl
@[simp] theorem ix_exit (id:Nat) (s:St) (p:Option Ex):execI Q r ri yh (.exit id) s p=some (.exit id,s,p):=_root_.id rfl
@[simp] theorem ix_seq (a b:LCode) (s:St) (p:Option Ex):execI Q r ri yh (.seq a b) s p=seqI (execI Q r ri yh a s p) (execI Q r ri yh b):=by
 simp only[execI]
 unfold seqI
 rcases execI Q r ri yh a s p with _ | ⟨e,s',p'⟩
 ·rfl
 ·cases e<;>rfl
@[simp] theorem ix_cond (c:LO) (a b:LCode) (s:St) (p:Option Ex):execI Q r ri yh (.cond c a b) s p=condII (ev s.tmps c) (execI Q r ri yh a) (execI Q r ri yh b) s p:=by
 simp only[execI]
 unfold condII
 cases ev s.tmps c with
 | c v=>cases v<;>first | rfl | (rename_i t; cases t<;>rfl)
 | _=>rfl
@[simp] theorem ix_block (id:Nat) (a:LCode) (s:St) (p:Option Ex):execI Q r ri yh (.block id a) s p=blockI id (execI Q r ri yh a s p):=by
 simp only[execI]
 unfold blockI
 rcases execI Q r ri yh a s p with _ | ⟨e,s',p'⟩
 ·rfl
 ·cases e<;>rfl
@[simp] theorem ix_region (ops:List LOper) (s:St) (p:Option Ex):execI Q r ri yh (.region ops) s p=regI (stepsI Q r yh ops s p):=by
 simp only[execI]
 unfold regI
 rcases stepsI Q r yh ops s p with _ | ⟨s',p'⟩<;>rfl
theorem ix_loop (g:Bool) (a:LCode) (s:St) (p:Option Ex):execI Q r ri yh (.loop g a) s p=seqI (execI Q r ri yh a s p) fun s' p'=>ri yh (.loop g a) (if g then gc s.heap.length s' else s') p':=by
 simp only[execI]
 unfold seqI
 rcases execI Q r ri yh a s p with _ | ⟨e,s',p'⟩
 ·rfl
 ·cases e<;>rfl
def guardG (v:LV) (b:Bool) (f:St→Option Ex→Option (St × Option Ex)) (d:Option Nat) (s:St) (p:Option Ex):Option (St × Option Ex) :=
 match v with
 | .c (.bool b')=>if b' == b then f s p else some (⟨put s.tmps d (.c (.tuple [])),s.heap⟩,p)
 | .c (.tuple [])=>some (⟨put s.tmps d (.c (.tuple [])),s.heap⟩,p)
 | _=>none
@[simp] theorem guardG_true (f:St→Option Ex→Option (St × Option Ex)) (d:Option Nat) (s:St) (p:Option Ex):guardG (.c (.bool true)) true f d s p=f s p:=_root_.id rfl
@[simp] theorem guardG_false (f:St→Option Ex→Option (St × Option Ex)) (d:Option Nat) (s:St) (p:Option Ex):guardG (.c (.bool false)) false f d s p=f s p:=_root_.id rfl
@[simp] theorem guardG_tf (f:St→Option Ex→Option (St × Option Ex)) (d:Option Nat) (s:St) (p:Option Ex):guardG (.c (.bool true)) false f d s p=some (⟨put s.tmps d (.c (.tuple [])),s.heap⟩,p):=_root_.id rfl
@[simp] theorem guardG_ft (f:St→Option Ex→Option (St × Option Ex)) (d:Option Nat) (s:St) (p:Option Ex):guardG (.c (.bool false)) true f d s p=some (⟨put s.tmps d (.c (.tuple [])),s.heap⟩,p):=_root_.id rfl
@[simp] theorem io_plain (d:Option Nat) (op:LOp) (sl:Option Nat) (wh:Where) (s:St) (p:Option Ex):stepI Q r yh (.mk d op none sl wh) s p=opI Q r yh (.mk d op none sl wh) s p:=_root_.id rfl
@[simp] theorem io_guard (d:Option Nat) (op:LOp) (t:Nat) (b:Bool) (sl:Option Nat) (wh:Where) (s:St) (p:Option Ex):stepI Q r yh (.mk d op (some (t,b)) sl wh) s p=guardG (ev s.tmps (.t t)) b (opI Q r yh (.mk d op (some (t,b)) sl wh)) d s p:=by
 simp only[stepI,ev]
 unfold guardG
 split<;>simp_all
@[simp] theorem isMark_c (v:CV):isMark (.c v)=false:=_root_.id rfl
@[simp] theorem isMark_mark:isMark (.tuple [])=true:=_root_.id rfl
@[simp] theorem isMark_undef:isMark .undef=false:=_root_.id rfl
@[simp] theorem isMark_ptr (b g o:Nat):isMark (.ptr b g o)=false:=_root_.id rfl
@[simp] theorem isMark_func (f:Nat) (a b:List LV):isMark (.func f a b)=false:=_root_.id rfl
@[simp] theorem isMark_slice (b g o n:Nat) (e c:Option Nat):isMark (.slice b g o n e c)=false:=_root_.id rfl
@[simp] theorem isMark_nil:isMark .nil=false:=_root_.id rfl
def unm (v:LV):LV:=if isMark v then .undef else v
@[simp] theorem unm_c (v:CV):unm (.c v)=.c v:=_root_.id rfl
@[simp] theorem unm_mark:unm (.tuple [])=.undef:=_root_.id rfl
@[simp] theorem unm_undef:unm .undef=.undef:=_root_.id rfl
@[simp] theorem unm_ptr (b g o:Nat):unm (.ptr b g o)=.ptr b g o:=_root_.id rfl
@[simp] theorem unm_func (f:Nat) (a b:List LV):unm (.func f a b)=.func f a b:=_root_.id rfl
@[simp] theorem unm_slice (b g o n:Nat) (e c:Option Nat):unm (.slice b g o n e c)=.slice b g o n e c:=_root_.id rfl
@[simp] theorem ev_unmark_t (ts:List LV) (i:Nat):ev (unmark ts) (.t i)=unm (ev ts (.t i)):=by
 simp only[ev,unmark,unm,List.getD_eq_getElem?_getD,List.getElem?_map]
 cases ts[i]?<;>rfl
@[simp] theorem ev_unmark_k (ts:List LV) (v:LV):ev (unmark ts) (.k v)=v:=_root_.id rfl
theorem any_unmark (ts:List LV):(unmark ts).any isMark=false:=by
 rw[List.any_eq_false]
 intro x hx
 unfold unmark at hx
 obtain⟨y,_,rfl⟩:=List.mem_map.1 hx
 by_cases h:isMark y=true
 ·rw[if_pos h]; simp
 ·rw[if_neg h]; exact h
theorem any_set {v:LV} (hv:isMark v=false):∀ {ts:List LV} {d:Nat},ts.any isMark=false→(ts.set d v).any isMark=false
 | [],_,_=>rfl
 | x::ts,0,h=>by simp only[List.set_cons_zero,List.any_cons,Bool.or_eq_false_iff] at h ⊢; exact⟨hv,h.2⟩
 | x::ts,d+1,h=>by simp only[List.set_cons_succ,List.any_cons,Bool.or_eq_false_iff] at h ⊢; exact⟨h.1,any_set hv h.2⟩
theorem remark_none:∀ (ts:List LV) (i:Nat),remark [] i ts (unmark ts)=ts
 | [],_=>rfl
 | x::ts,i=>by
  have ih:=remark_none ts (i+1)
  unfold unmark at ih ⊢
  simp only[List.map_cons,remark,ih]
  by_cases h:isMark x=true
  ·simp[h]
  ·simp[h]
theorem remark_set (v:LV):∀ (ts:List LV) (i d:Nat),remark [i+d] i ts ((unmark ts).set d v)=ts.set d v
 | [],_,_=>rfl
 | x::ts,i,0=>by
  have:∀ (ts:List LV) (k:Nat),i<k→remark [i] k ts (unmark ts)=ts:=by
   intro ts
   induction ts with
   | nil=>intro k _; rfl
   | cons y ts ih =>
    intro k hk
    have ih:=ih (k+1) (by omega)
    unfold unmark at ih ⊢
    simp only[List.map_cons,remark,ih]
    by_cases h:isMark y=true
    ·have:¬ k=i:=by omega
     simp[h,this]
    ·simp[h]
  have h2:=this ts (i+1) (by omega)
  unfold unmark at h2 ⊢
  simp only[List.map_cons,List.set_cons_zero,remark,Nat.add_zero,h2]
  simp
 | x::ts,i,d+1=>by
  have ih:=remark_set v ts (i+1) d
  have e:i+1+d=i+(d+1):=by omega
  rw[e] at ih
  unfold unmark at ih ⊢
  simp only[List.map_cons,List.set_cons_succ,remark,ih]
  by_cases h:isMark x=true
  ·simp[h]
  ·simp[h]
def plK (Q:Nat→Option LFunc) (r:Run) (o:LOper) (s:St) (p:Option Ex) (x:R):Option (St × Option Ex) :=
 match x with
 | some (v,h)=>if isMark v then plainI Q r o s p else some (⟨put s.tmps o.dst v,h⟩,p)
 | none=>none
theorem plK_some (o:LOper) (s:St) (p:Option Ex) (v:LV) (h:Heap) (hv:isMark v=false):plK Q r o s p (some (v,h))=some (⟨put s.tmps o.dst v,h⟩,p):=by
 unfold plK
 simp[hv]
@[simp] theorem plK_c (d:Option Nat) (op:LOp) (g:Option (Nat × Bool)) (sl:Option Nat) (wh:Where) (s:St) (p:Option Ex) (v:CV) (h:Heap):plK Q r (.mk d op g sl wh) s p (some (.c v,h))=some (⟨put s.tmps d (.c v),h⟩,p):=plK_some _ _ _ _ _ rfl
@[simp] theorem plK_ptr (d:Option Nat) (op:LOp) (g:Option (Nat × Bool)) (sl:Option Nat) (wh:Where) (s:St) (p:Option Ex) (b k o:Nat) (h:Heap):plK Q r (.mk d op g sl wh) s p (some (.ptr b k o,h))=some (⟨put s.tmps d (.ptr b k o),h⟩,p):=plK_some _ _ _ _ _ rfl
@[simp] theorem plK_func (d:Option Nat) (op:LOp) (g:Option (Nat × Bool)) (sl:Option Nat) (wh:Where) (s:St) (p:Option Ex) (f:Nat) (a b:List LV) (h:Heap):plK Q r (.mk d op g sl wh) s p (some (.func f a b,h))=some (⟨put s.tmps d (.func f a b),h⟩,p):=plK_some _ _ _ _ _ rfl
@[simp] theorem plK_undef (d:Option Nat) (op:LOp) (g:Option (Nat × Bool)) (sl:Option Nat) (wh:Where) (s:St) (p:Option Ex) (h:Heap):plK Q r (.mk d op g sl wh) s p (some (.undef,h))=some (⟨put s.tmps d .undef,h⟩,p):=plK_some _ _ _ _ _ rfl
theorem plainI_eq (d:Option Nat) (op:LOp) (g:Option (Nat × Bool)) (s:St) (p:Option Ex):plainI Q r (.mk d op g none .any) s p=plK Q r (.mk d op g none .any) s p (step Q r none (unmark s.tmps) s.heap op):=by
 unfold plK
 cases hs:step Q r none (unmark s.tmps) s.heap op with
 | none=>unfold plainI; rw[lr_any]; simp only[hs,lputK_none]
 | some x =>
  obtain⟨v,h⟩:=x
  simp only
  by_cases hv:isMark v=true
  ·rw[if_pos hv]
  ·rw[if_neg hv]
   have hv' : isMark v=false:=by cases h:isMark v; rfl; exact absurd h hv
   unfold plainI
   rw[lr_any]
   simp only[hs,lputK_some]
   cases d with
   | none =>
    simp only[put_none,any_unmark,Bool.false_eq_true,if_false,dstL]
    rw[remark_none]
   | some d =>
    simp only[put_some,any_set hv' (any_unmark _),Bool.false_eq_true,if_false,dstL]
    have:=remark_set v s.tmps 0 d
    rw[Nat.zero_add] at this
    rw[this]
def moveI (Q:Nat→Option LFunc) (r:Run) (d:Option Nat) (g:Option (Nat × Bool)) (x:LO) (s:St) (p:Option Ex) (v:LV):Option (St × Option Ex) :=
 if isMark v then some (⟨put s.tmps d v,s.heap⟩,p) else plainI Q r (.mk d (.move x) g none .any) s p
@[simp] theorem moveI_mark (d:Option Nat) (g:Option (Nat × Bool)) (x:LO) (s:St) (p:Option Ex):moveI Q r d g x s p (.tuple [])=some (⟨put s.tmps d (.tuple []),s.heap⟩,p):=_root_.id rfl
@[simp] theorem moveI_c (d:Option Nat) (g:Option (Nat × Bool)) (x:LO) (s:St) (p:Option Ex) (v:CV):moveI Q r d g x s p (.c v)=plK Q r (.mk d (.move x) g none .any) s p (step Q r none (unmark s.tmps) s.heap (.move x)):=by
 unfold moveI
 rw[if_neg (by simp)]
 exact plainI_eq _ _ _ _ _
@[simp] theorem moveI_ptr (d:Option Nat) (g:Option (Nat × Bool)) (x:LO) (s:St) (p:Option Ex) (b k o:Nat):moveI Q r d g x s p (.ptr b k o)=plK Q r (.mk d (.move x) g none .any) s p (step Q r none (unmark s.tmps) s.heap (.move x)):=by
 unfold moveI
 rw[if_neg (by simp)]
 exact plainI_eq _ _ _ _ _
@[simp] theorem io_move (d:Option Nat) (g:Option (Nat × Bool)) (x:LO) (s:St) (p:Option Ex):opI Q r yh (.mk d (.move x) g none .any) s p=moveI Q r d g x s p (ev s.tmps x):=by
 unfold opI moveI
 rfl
def yieldK (d:Option Nat) (ts:List LV) (x:Option (Heap × Option Ex)):Option (St × Option Ex):=bnd x fun y=>some (⟨put ts d (.c (.bool y.2.isNone)),y.1⟩,y.2)
@[simp] theorem yieldK_some (d:Option Nat) (ts:List LV) (h:Heap) (j:Option Ex):yieldK d ts (some (h,j))=some (⟨put ts d (.c (.bool j.isNone)),h⟩,j):=_root_.id rfl
def callI (Q:Nat→Option LFunc) (r:Run) (yh:Hand) (d:Option Nat) (g:Option (Nat × Bool)) (q:Bool) (f:LO) (args:List LO) (s:St) (p:Option Ex) (v:LV):Option (St × Option Ex) :=
 if isMark v then (if p.isNone && !(args.map (ev s.tmps)).any isMark then yieldK d s.tmps (yh (args.map (ev s.tmps)) s.heap) else none) else plainI Q r (.mk d (.call q f args) g none .any) s p
@[simp] theorem callI_mark (d:Option Nat) (g:Option (Nat × Bool)) (q:Bool) (f:LO) (args:List LO) (s:St) (p:Option Ex):callI Q r yh d g q f args s p (.tuple [])=if p.isNone && !(args.map (ev s.tmps)).any isMark then yieldK d s.tmps (yh (args.map (ev s.tmps)) s.heap) else none:=_root_.id rfl
@[simp] theorem callI_c (d:Option Nat) (g:Option (Nat × Bool)) (q:Bool) (f:LO) (args:List LO) (s:St) (p:Option Ex) (v:CV):callI Q r yh d g q f args s p (.c v)=plK Q r (.mk d (.call q f args) g none .any) s p (step Q r none (unmark s.tmps) s.heap (.call q f args)):=by
 unfold callI
 rw[if_neg (by simp)]
 exact plainI_eq _ _ _ _ _
@[simp] theorem io_call (d:Option Nat) (g:Option (Nat × Bool)) (q:Bool) (f:LO) (args:List LO) (s:St) (p:Option Ex):opI Q r yh (.mk d (.call q f args) g none .any) s p=callI Q r yh d g q f args s p (ev s.tmps f):=by
 unfold opI callI yieldK
 simp only
 split
 ·split
  ·rcases yh (args.map (ev s.tmps)) s.heap with _ | ⟨h',j⟩<;>rfl
  ·rfl
 ·rfl
def rangeK (ts:List LV) (x:R3):Option (Ex × St) :=
 match x with
 | some (.exit _,_,_)=>none
 | some (_,s3,none)=>some (.normal,⟨ts,s3.heap⟩)
 | some (_,s3,some e)=>some (e,⟨ts,s3.heap⟩)
 | none=>none
@[simp] theorem rangeK_normal (ts:List LV) (s:St):rangeK ts (some (.normal,s,none))=some (.normal,⟨ts,s.heap⟩):=_root_.id rfl
@[simp] theorem rangeK_ret (ts:List LV) (s:St):rangeK ts (some (.ret,s,none))=some (.normal,⟨ts,s.heap⟩):=_root_.id rfl
@[simp] theorem rangeK_normalJ (ts:List LV) (s:St) (e:Ex):rangeK ts (some (.normal,s,some e))=some (e,⟨ts,s.heap⟩):=_root_.id rfl
@[simp] theorem rangeK_retJ (ts:List LV) (s:St) (e:Ex):rangeK ts (some (.ret,s,some e))=some (e,⟨ts,s.heap⟩):=_root_.id rfl
def rangeF (Q:Nat→Option LFunc) (r:Run) (ri:RunI) (ps:List Nat) (asg body:LCode) (s:St) (v:LV):Option (Ex × St) :=
 match funcOf v with
 | some (f,[],caps)=>match Q f with
  | some (.code .shared nt [] itb)=>if caps.any isMark then none else rangeK s.tmps (ri (handOf (exec Q r ri asg) (exec Q r ri body) ps s.tmps) itb ⟨pad nt (.tuple []::caps),s.heap⟩ none)
  | _=>none
 | _=>none
@[simp] theorem lx_range (g:LO) (ps:List Nat) (asg body:LCode) (s:St):exec Q r ri (.rangeFn g ps asg body) s=rangeF Q r ri ps asg body s (ev s.tmps g):=by
 simp only[exec]
 unfold rangeF
 rcases funcOf (ev s.tmps g) with _ | ⟨f,a,caps⟩
 ·rfl
 ·cases a with
  | cons x y=>rfl
  | nil =>
   simp only
   cases Q f with
   | none=>rfl
   | some F =>
    cases F with
    | prim g=>rfl
    | fprim k g=>rfl
    | code m nt rs b =>
     cases m<;>cases rs<;>rfl
end
attribute [simp] step
end LM
namespace LM
open Go
theorem call_mix {L:List (Nat × LFunc)} {S:List (Nat × SFunc)} (hr:Readable (lookupPrim · S)) (h:∀ f x,lookupPrim f L=some x→lookupPrim f S=none) {pos:Option Nat} {q:Bool} {f:Nat} {args:List LV} {hp:Heap} {x:LV × Heap}
  (hc:callS (lookupPrim · S) (limS (lookupPrim · S)) pos q f args hp=some x):∃ n,∀ M,n≤M→callF (mixL L S) (runs (mixL L S) M).1 pos q f args hp=some x:=by
 obtain⟨n,hn⟩:=(scottS_callS limS_chain pos q f args hp).cont x hc
 refine⟨n,fun M hM=>?_⟩
 have h1:=callS_ok hr (runS_ok hr n) hn
 exact callF_le (mix_le h) (fun c s x hx=>(runs_le hM).1 c s x ((runs_le_prog (mix_le h) n).1 c s x hx)) h1
end LM
