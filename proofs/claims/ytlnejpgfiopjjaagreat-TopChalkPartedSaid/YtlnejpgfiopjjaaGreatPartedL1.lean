/- Part 1 of what YtlnejpgfiopjjaaGreatParted leans on. -/
import Derived.Calls
import Derived.Orders
import Derived.Below
import Derived.Laws.Strings
import Derived.Laws.CopyRow
import Derived.Laws.Entries
import Derived.Great.BuildSlice
import Derived.IntWalk
import Derived.Laws.StructEq
import Derived.ChangeKeysEq
import Derived.WideKeyRuns
import Derived.Deep.AppendSrc
set_option linter.all false
namespace LM
open Go
inductive CV where
 | bool (b:Bool)
 | int (k:IntKind) (n:Int)
 | str (s:List UInt8)
 | nilptr
 | ptr (cells:List CV) (off:Nat)
 | slice (xs:List CV)
 | map (ks vs:List CV)
 | func (f:Nat) (first caps:List CV)
 | nilfunc
 | agg (cs:List CV)
 | tuple (vs:List CV)
 deriving Inhabited
inductive LV where
 | c (v:CV)
 | nil
 | emp
 | ptr (b g off:Nat)
 | slice (b g off len:Nat) (esz:Option Nat) (cap:Option Nat)
 | map (b:Nat)
 | func (f:Nat) (first caps:List LV)
 | agg (cs:List LV)
 | tuple (vs:List LV)
 | undef
 deriving Inhabited
inductive LB where
 | cells (g:Nat) (cs:List LV) (fz:Nat)
 | map (ks:List CV) (vs:List LV) (fz:Bool)
 | iter (s:List UInt8) (pos:Nat)
 | dead
 deriving Inhabited
structure St where
 tmps:List LV
 heap:List LB
inductive Ex where
 | normal
 | exit (id:Nat)
 | ret
 deriving DecidableEq
inductive LO where
 | t (i:Nat)
 | k (v:LV)
 deriving Inhabited
inductive KeyKind where
 | one (k:Nat)
 | many (ks:List Nat)
 deriving Inhabited
inductive LOp where
 | move (x:LO)
 | pick (c a b:LO)
 | bin (op:BinOp) (x y:LO)
 | binBool (op:BinOp) (x y:LO)
 | convStr (x:LO)
 | eqAgg (kk:KeyKind) (neg:Bool) (x y:LO)
 | mkNil (esz:Option Nat)
 | eqNil (neg:Bool) (x:LO)
 | nilCheck (x:LO)
 | not (x:LO)
 | neg (x:LO)
 | conv (k:IntKind) (x:LO)
 | mkFunc (f:Nat) (first caps:List LO)
 | extract (x:LO) (i:Nat)
 | field (off:Nat) (n:Option Nat) (x:LO)
 | indexArr (len:Nat) (esz:Option Nat) (x i:LO)
 | indexStr (x i:LO)
 | idxSlice (sz:Nat) (x i:LO)
 | idxArr (len sz:Nat) (x i:LO)
 | fieldAddr (off:Nat) (x:LO)
 | load (n:Option Nat) (a:LO)
 | store (n:Nat) (a x:LO)
 | copy (sz:Nat) (a x:LO)
 | new (zero:List LV) (g:Nat:=0)
 | box (x:LO)
 | build (zero:List LV) (parts:List (Nat × Nat × LO))
 | buildSlice (const:Nat) (esz:Option Nat) (len:Nat) (zero:List LV) (parts:List (Nat × LO))
 | makeSlice (esz:Option Nat) (bytes:Nat) (zero:List LV) (l c:LO)
 | makeMap
 | sliceStr (x:LO) (lo hi:Option LO)
 | sliceSl (sz:Nat) (x:LO) (lo hi mx:Option LO)
 | sliceArr (len:Nat) (esz:Option Nat) (x:LO) (lo hi mx:Option LO)
 | lookup (kn:KeyKind) (zero:LV) (ok:Bool) (x k:LO)
 | mapUpdate (kn:KeyKind) (m k x:LO)
 | range (x:LO)
 | next (x:LO)
 | len (kind:Nat) (x:LO)
 | append (esz:Option Nat) (bytes:Nat) (s x:LO)
 | max (x:LO) (rest:List LO)
 | min (x:LO) (rest:List LO)
 | clear (zero:List LV) (x:LO)
 | call (quiet:Bool) (f:LO) (args:List LO)
 | bad (why:Nat)
 deriving Inhabited
inductive Where where
 | any | old | new | var | row | own
 deriving DecidableEq,Inhabited
structure LOper where
 dst:Option Nat
 op:LOp
 guard:Option (Nat × Bool)
 slot:Option Nat:=none
 wh:Where:=.any
 deriving Inhabited
inductive LCode where
 | skip
 | ret
 | exit (id:Nat)
 | seq (a b:LCode)
 | cond (c:LO) (a b:LCode)
 | block (id:Nat) (a:LCode)
 | loop (gc:Bool) (a:LCode)
 | region (ops:List LOper)
 | draw (slots:Nat) (ops:List LOper)
 | rangeFn (g:LO) (ps:List Nat) (asg body:LCode)
 | bad (why:Nat)
 deriving Inhabited
inductive LRes where
 | tmp (t:Nat)
 | cell (t:Nat) (n:Option Nat)
 deriving Inhabited
inductive FMode where
 | pure
 | fresh (k:Nat)
 | shared
 | live
 deriving Inhabited
inductive LFunc where
 | code (mode:FMode) (ntmps:Nat) (results:List LRes) (body:LCode)
 | prim (g:List CV→Option CV)
 | fprim (k:Nat) (g:List CV→Option (LV × List LB))
 deriving Inhabited
def ae:Option Nat→Nat
 | none=>1
 | some k=>k
def CV.cells:CV→List CV
 | .agg cs=>cs
 | v=>[v]
def CV.flat:CV→Bool
 | .agg _ | .tuple _=>false
 | _=>true
def LV.flat:LV→Bool
 | .c v=>v.flat
 | .agg _ | .tuple _ | .undef=>false
 | _=>true
def eW:List LV→Option (List CV)
 | []=>some []
 | .c v::r=>match eW r with
  | some l=>some (v::l)
  | none=>none
 | _::_=>none
mutual
def toC:LV→Option CV
 | .c v=>some v
 | .nil=>some (.slice [])
 | .emp=>some (.slice [])
 | .func f a b=>match toCL a with
  | some a'=>match toCL b with
   | some b'=>some (.func f a' b')
   | none=>none
  | none=>none
 | .agg cs=>match toCL cs with
  | some l=>some (.agg l)
  | none=>none
 | .tuple cs=>match toCL cs with
  | some l=>some (.tuple l)
  | none=>none
 | _=>none
def toCL:List LV→Option (List CV)
 | []=>some []
 | v::r=>match toC v with
  | some x=>match toCL r with
   | some l=>some (x::l)
   | none=>none
  | none=>none
end
def mkAgg (cs:List LV):LV :=
 match eW cs with
 | some l=>.c (.agg l)
 | none=>.agg cs
def mkTuple (cs:List LV):LV :=
 match eW cs with
 | some l=>.c (.tuple l)
 | none=>.tuple cs
def LV.cells:LV→List LV
 | .c v=>v.cells.map .c
 | .agg cs=>cs
 | v=>[v]
def fC (n:Option Nat) (cs:List LV):Option LV :=
 match n with
 | none=>cs.head?
 | some k=>if k≤cs.length then some (mkAgg (cs.take k)) else none
def bO (n:Option Nat) (cs:List CV):Option CV :=
 match n with
 | none=>cs.head?
 | some k=>if k≤cs.length then some (.agg (cs.take k)) else none
mutual
def LV.under (n:Nat):LV→Bool
 | .c _ | .nil | .emp | .undef=>true
 | .ptr b _ _=>decide (b<n)
 | .slice b _ _ _ _ _=>decide (b<n)
 | .map b=>decide (b<n)
 | .func _ a b=>underL n a && underL n b
 | .agg cs=>underL n cs
 | .tuple vs=>underL n vs
def underL (n:Nat):List LV→Bool
 | []=>true
 | v::r=>v.under n && underL n r
end
def LB.under (n:Nat):LB→Bool
 | .cells _ cs _=>underL n cs
 | .map _ vs _=>underL n vs
 | .iter _ _=>true
 | .dead=>true
def bM (n:Nat):List LB→Bool
 | []=>true
 | b::r=>b.under n && bM n r
def scrub (n:Nat):List LV→List LV
 | []=>[]
 | v::r=>(if v.under n then v else .undef)::scrub n r
def gc (n:Nat) (s:St):St :=
 if bM n (s.heap.take n) then ⟨scrub n s.tmps,s.heap.take n⟩ else s
mutual
def LV.shift (n:Nat):LV→LV
 | .c v=>.c v
 | .nil=>.nil
 | .emp=>.emp
 | .undef=>.undef
 | .ptr b g off=>.ptr (b+n) g off
 | .slice b g off len esz cap=>.slice (b+n) g off len esz cap
 | .map b=>.map (b+n)
 | .func f a b=>.func f (shiftL n a) (shiftL n b)
 | .agg cs=>.agg (shiftL n cs)
 | .tuple vs=>.tuple (shiftL n vs)
def shiftL (n:Nat):List LV→List LV
 | []=>[]
 | v::r=>v.shift n::shiftL n r
end
def LB.shift (n:Nat):LB→LB
 | .cells g cs fz=>.cells g (shiftL n cs) fz
 | .map ks vs fz=>.map ks (shiftL n vs) fz
 | .iter s pos=>.iter s pos
 | .dead=>.dead
def bC (n:Nat):List LB→List LB
 | []=>[]
 | b::r=>b.shift n::bC n r
def bump (b:Nat) (top:Nat) (h:List LB):List LB :=
 match h[b]? with
 | some (.cells g cs fz)=>h.set b (.cells g cs (Nat.max fz top))
 | _=>h
def bV (sz:Option Nat):Nat→List CV→Option (List CV)
 | 0,_=>some []
 | n+1,cs=>match bO sz cs with
  | none=>none
  | some x=>match bV sz n (cs.drop (ae sz)) with
   | none=>none
   | some r=>some (x::r)
def aV (f:LV→List LB→Option (CV × List LB)):List LV→List LB→Option (List CV × List LB)
 | [],h=>some ([],h)
 | v::r,h=>match f v h with
  | some (x,h1)=>match aV f r h1 with
   | some (l,h2)=>some (x::l,h2)
   | none=>none
  | none=>none
def frz:Nat→LV→List LB→Option (CV × List LB)
 | 0,_,_=>none
 | _+1,.c v,h=>some (v,h)
 | _+1,.nil,h=>some (.slice [],h)
 | _+1,.emp,h=>some (.slice [],h)
 | n+1,.ptr b g off,h=>match h[b]? with
  | some (.cells g' cs _)=>if g=g' then match aV (frz n) cs (bump b cs.length h) with
    | some (l,h')=>some (.ptr l off,h')
    | none=>none
   else none
  | _=>none
 | n+1,.slice b g off len esz _,h=>match h[b]? with
  | some (.cells g' cs _)=>if g=g'∧off+len*ae esz≤cs.length then match aV (frz n) ((cs.drop off).take (len*ae esz)) (bump b (off+len*ae esz) h) with
    | some (l,h')=>match bV esz len l with
     | some xs=>some (.slice xs,h')
     | none=>none
    | none=>none
   else none
  | _=>none
 | n+1,.map b,h=>match h[b]? with
  | some (.map ks vs _)=>match aV (frz n) vs (h.set b (.map ks vs true)) with
    | some (l,h')=>some (.map ks l,h')
    | none=>none
  | _=>none
 | n+1,.func f a b,h=>match aV (frz n) a h with
  | some (a',h1)=>match aV (frz n) b h1 with
   | some (b',h2)=>some (.func f a' b',h2)
   | none=>none
  | none=>none
 | n+1,.agg cs,h=>match aV (frz n) cs h with
  | some (l,h')=>some (.agg l,h')
  | none=>none
 | n+1,.tuple cs,h=>match aV (frz n) cs h with
  | some (l,h')=>some (.tuple l,h')
  | none=>none
 | _+1,.undef,_=>none
abbrev sU (n:Nat):List LV→List LB→Option (List CV × List LB):=aV (frz n)
abbrev Heap:=List LB
abbrev R:=Option (LV × Heap)
def ev (ts:List LV):LO→LV
 | .t i=>ts.getD i .undef
 | .k v=>v
def ok (v:LV) (h:Heap):R:=some (v,h)
def okC (v:CV) (h:Heap):R:=some (.c v,h)
def iN (n:Int):CV:=.int .i64 n
def qc (op:BinOp) (k:IntKind) (a b:Int):Option CV :=
 match op with
 | .add=>some (.int k (k.wrap (a+b)))
 | .sub=>some (.int k (k.wrap (a-b)))
 | .mul=>some (.int k (k.wrap (a*b)))
 | .quo=>if b=0 then none else some (.int k (k.wrap (a.tdiv b)))
 | .rem=>if b=0 then none else some (.int k (a.tmod b))
 | .and=>some (.int k (k.wrap (BitVec.ofInt k.bits a &&& BitVec.ofInt k.bits b).toNat))
 | .or=>some (.int k (k.wrap (BitVec.ofInt k.bits a ||| BitVec.ofInt k.bits b).toNat))
 | .xor=>some (.int k (k.wrap (BitVec.ofInt k.bits a ^^^ BitVec.ofInt k.bits b).toNat))
 | .andNot=>some (.int k (k.wrap (BitVec.ofInt k.bits a &&& ~~~BitVec.ofInt k.bits b).toNat))
 | .eql=>some (.bool (a == b))
 | .neq=>some (.bool (a != b))
 | .lss=>some (.bool (decide (a<b)))
 | .leq=>some (.bool (decide (a≤b)))
 | .gtr=>some (.bool (decide (a > b)))
 | .geq=>some (.bool (decide (a ≥ b)))
 | _=>none
def pK (op:BinOp) (k:IntKind) (a b:Int):Option CV :=
 if b<0 then none else
 match op with
 | .shl=>some (.int k (k.wrap (a*2^(Nat.min b.toNat k.bits))))
 | .shr=>some (.int k (a.fdiv (2^(Nat.min b.toNat k.bits))))
 | _=>none
def rj (op:BinOp) (a b:List UInt8):Option CV :=
 match op with
 | .add=>if ((a.length+b.length:Nat):Int) > 9223372036854775807 then none else some (.str (a++b))
 | .eql=>some (.bool (a == b))
 | .neq=>some (.bool (!(a == b)))
 | .lss=>some (.bool (Op.bytesLess a b))
 | .leq=>some (.bool (Op.bytesLess a b || a == b))
 | .gtr=>some (.bool (!(Op.bytesLess a b || a == b)))
 | .geq=>some (.bool (!Op.bytesLess a b))
 | _=>none
def Gn (op:BinOp):CV→CV→Option CV
 | .int k a,.int k' b=>if op=.shl∨op=.shr then pK op k a b else if k=k' then qc op k a b else none
 | .str a,.str b=>rj op a b
 | _,_=>none
def lV (op:BinOp):CV→CV→Option CV
 | .bool a,.bool b=>match op with
  | .eql=>some (.bool (a == b))
  | .neq=>some (.bool (!(a == b)))
  | _=>none
 | _,_=>none
def eqS:CV→CV→Option Bool
 | .int k a,.int k' b=>if k=k' then some (a == b) else none
 | .str a,.str b=>some (a == b)
 | .bool a,.bool b=>some (a == b)
 | _,_=>none
def dJ:List CV→List CV→Option Bool
 | [],[]=>some true
 | x::a,y::b=>match eqS x y with
  | some true=>dJ a b
  | r=>r
 | _,_=>none
def db:CV→Nat
 | .int _ _=>0
 | .str _=>1
 | .bool _=>2
 | _=>9
def bU:List Nat→List CV→Bool
 | [],[]=>true
 | k::ks,x::xs=>db x == k && k != 9 && bU ks xs
 | _,_=>false
def cP:KeyKind→CV→Bool
 | .one k,v=>db v == k && k != 9
 | .many ks,.agg a=>bU ks a
 | .many _,_=>false
def eqK (kk:KeyKind) (x y:CV):Option Bool :=
 if cP kk x && cP kk y then
  match x,y with
  | .agg a,.agg b=>dJ a b
  | x,y=>eqS x y
 else none
def aH (kk:KeyKind) (k:CV):List CV→Option (Option Nat)
 | []=>some none
 | x::r=>match eqK kk k x with
  | some true=>some (some 0)
  | some false=>match aH kk k r with
   | some (some i)=>some (some (i+1))
   | r'=>r'
  | none=>none
def setCells (cs:List LV) (off:Nat):List LV→List LV
 | []=>cs
 | v::r=>setCells (cs.set off v) (off+1) r
def aT:List LV→Bool
 | []=>true
 | v::r=>v.flat && aT r
def bz (ts:List LV) (sz:Nat):List (Nat × LO)→List LV→Option (List LV)
 | [],cs=>some cs
 | (i,x)::r,cs =>
  let v:=(ev ts x).cells
  if aT v∧v.length=sz∧i*sz+v.length≤cs.length then bz ts sz r (setCells cs (i*sz) v) else none
def bF (ts:List LV):List (Nat × Nat × LO)→List LV→Option (List LV)
 | [],cs=>some cs
 | (off,sz,x)::r,cs =>
  let v:=(ev ts x).cells
  if aT v∧v.length=sz∧off+v.length≤cs.length then bF ts r (setCells cs off v) else none
def aP {α:Type} (n:Nat) (l:List α):List α:=(List.replicate n l).flatten
def fP (sz:Nat):List CV→Bool
 | []=>true
 | x::_=>x.cells.length == sz
def bound (x:Option LV) (dflt top:Nat):Option Nat :=
 match x with
 | none=>some dflt
 | some (.c (.int _ i))=>if 0≤i∧i≤top then some i.toNat else none
 | _=>none
def aO (esz:Option Nat) (h:Heap):LV→Option (Nat × List LV)
 | .nil=>some (0,[])
 | .emp=>some (0,[])
 | .c (.slice xs)=>some (xs.length,(xs.flatMap CV.cells).map .c)
 | .c (.str s)=>some (s.length,s.map fun b=>.c (.int .u8 b.toNat))
 | .slice b g off len _ _=>match h[b]? with
  | some (.cells g' cs _)=>if g=g'∧off+len*ae esz≤cs.length then some (len,(cs.drop off).take (len*ae esz)) else none
  | _=>none
 | _=>none
def cN (pos:Option Nat) (b:LB) (h:Heap):Heap :=
 match pos with
 | none=>h++[b]
 | some p=>h.set p b
def b7 (pos:Option Nat) (h:Heap):Nat :=
 match pos with
 | none=>h.length
 | some p=>p
def aN (pos:Option Nat) (esz:Option Nat) (bytes:Nat) (s x:LV) (h:Heap):R :=
 match aO esz h x with
 | none=>none
 | some (n,new) =>
  if !aT new then none else
  if new.length≠n*ae esz then none else
  match s with
  | .nil=>if n=0 then ok .nil h else
   if n*bytes > 2^47∨n > 9223372036854775807 then none else
   ok (.slice (b7 pos h) 1 0 n esz none) (cN pos (.cells 1 new 0) h)
  | .emp=>if n=0 then ok .emp h else
   if n*bytes > 2^47∨n > 9223372036854775807 then none else
   ok (.slice (b7 pos h) 1 0 n esz none) (cN pos (.cells 1 new 0) h)
  | .slice b g off len e' cap=>match h[b]? with
   | some (.cells g' cs fz) =>
    if g≠g'∨(len+n)*bytes > 2^47∨len+n > 9223372036854775807∨e'≠esz then none else
    match cap with
    | some c =>
     if len+n≤c then
      if off+c*ae esz≤cs.length∧fz≤off+len*ae esz then
       ok (.slice b g off (len+n) esz (some c)) (h.set b (.cells g (setCells cs (off+len*ae esz) new) fz))
      else none
     else
      if off+len*ae esz≤cs.length then
       ok (.slice (b7 pos h) 1 0 (len+n) esz none) (cN pos (.cells 1 ((cs.drop off).take (len*ae esz)++new) 0) h)
      else none
    | none =>
     if off=0∧len*ae esz=cs.length∧fz≤cs.length then
      if n=0 then ok s h else
      ok (.slice b (g+1) 0 (len+n) esz none) (h.set b (.cells (g+1) (cs++new) fz))
     else none
   | _=>none
  | _=>none
def bt (f:Int→Int→Int) (ts:List LV):LV→List LO→Option LV
 | v,[]=>some v
 | .c (.int k a),x::r=>match ev ts x with
  | .c (.int _ b)=>bt f ts (.c (.int k (f a b))) r
  | _=>none
 | _,_=>none
def ab (pos:Option Nat) (ts:List LV) (h:Heap):LOp→R
 | .move x=>ok (ev ts x) h
 | .pick c a b=>match ev ts c with
  | .c (.bool t)=>ok (if t then ev ts a else ev ts b) h
  | _=>none
 | .bin op x y=>match ev ts x,ev ts y with
  | .c a,.c b=>match Gn op a b with
   | some v=>okC v h
   | none=>none
  | _,_=>none
 | .binBool op x y=>match ev ts x,ev ts y with
  | .c a,.c b=>match lV op a b with
   | some v=>okC v h
   | none=>none
  | _,_=>none
 | .convStr x=>match ev ts x with
  | .c (.str s)=>okC (.str s) h
  | _=>none
 | .eqAgg kk neg x y=>match ev ts x,ev ts y with
  | .c a,.c b=>match eqK kk a b with
   | some t=>okC (.bool (if neg then !t else t)) h
   | none=>none
  | _,_=>none
 | .mkNil esz=>ok (.slice (b7 pos h) 1 0 0 esz none) (cN pos (.cells 1 [] 0) h)
 | .eqNil neg x=>match ev ts x with
  | .nil=>okC (.bool (!neg)) h
  | .slice _ _ _ len _ _=>if len=0 then none else okC (.bool neg) h
  | .c (.slice (_::_))=>okC (.bool neg) h
  | _=>none
 | .nilCheck x=>match ev ts x with
  | .ptr b g off=>ok (.ptr b g off) h
  | .c (.ptr cells off)=>okC (.ptr cells off) h
  | .c (.func f a b)=>okC (.func f a b) h
  | .func f a b=>ok (.func f a b) h
  | _=>none
 | .not x=>match ev ts x with
  | .c (.bool b)=>okC (.bool !b) h
  | _=>none
 | .neg x=>match ev ts x with
  | .c (.int k n)=>okC (.int k (k.wrap (0-n))) h
  | _=>none
 | .conv k x=>match ev ts x with
  | .c (.int _ n)=>okC (.int k (k.wrap n)) h
  | _=>none
 | .mkFunc f first caps=>match eW (first.map (ev ts)),eW (caps.map (ev ts)) with
  | some a,some b=>okC (.func f a b) h
  | _,_=>ok (.func f (first.map (ev ts)) (caps.map (ev ts))) h
 | .extract x i=>match ev ts x with
  | .c (.tuple vs)=>match vs[i]? with
   | some v=>okC v h
   | none=>none
  | .tuple vs=>match vs[i]? with
   | some v=>ok v h
   | none=>none
  | _=>none
 | .field off n x=>match ev ts x with
  | .c (.agg cs)=>match bO n (cs.drop off) with
   | some v=>okC v h
   | none=>none
  | .agg cs=>match fC n (cs.drop off) with
   | some v=>ok v h
   | none=>none
  | _=>none
 | .indexArr len esz x i=>match ev ts x,ev ts i with
  | .c (.agg cs),.c (.int _ n)=>if 0≤n∧n<len then match bO esz (cs.drop (n.toNat*ae esz)) with
    | some v=>okC v h
    | none=>none
   else none
  | .agg cs,.c (.int _ n)=>if 0≤n∧n<len then match fC esz (cs.drop (n.toNat*ae esz)) with
    | some v=>ok v h
    | none=>none
   else none
  | _,_=>none
 | .indexStr x i=>match ev ts x,ev ts i with
  | .c (.str s),.c (.int _ n)=>if 0≤n then match s[n.toNat]? with
    | some b=>okC (.int .u8 b.toNat) h
    | none=>none
   else none
  | _,_=>none
 | .idxSlice sz x i=>match ev ts x,ev ts i with
  | .c (.slice xs),.c (.int _ n)=>if 0≤n then match xs[n.toNat]? with
    | some v=>if v.cells.length=sz then okC (.ptr v.cells 0) h else none
    | none=>none
   else none
  | .slice b g off len _ _,.c (.int _ n)=>if 0≤n∧n<len then ok (.ptr b g (off+n.toNat*sz)) h else none
  | _,_=>none
 | .idxArr len sz x i=>match ev ts x,ev ts i with
  | .c (.ptr cells off),.c (.int _ n)=>if 0≤n∧n<len then okC (.ptr cells (off+n.toNat*sz)) h else none
  | .ptr b g off,.c (.int _ n)=>if 0≤n∧n<len then ok (.ptr b g (off+n.toNat*sz)) h else none
  | _,_=>none
 | .fieldAddr o x=>match ev ts x with
  | .c (.ptr cells off)=>okC (.ptr cells (off+o)) h
  | .ptr b g off=>ok (.ptr b g (off+o)) h
  | _=>none
 | .load n a=>match ev ts a with
  | .c (.ptr cells off)=>match bO n (cells.drop off) with
   | some v=>okC v h
   | none=>none
  | .ptr b g off=>match h[b]? with
   | some (.cells g' cs _)=>if g=g' then match fC n (cs.drop off) with
     | some v=>ok v h
     | none=>none
    else none
   | _=>none
  | _=>none
 | .store n a x=>match ev ts a with
  | .ptr b g off=>match h[b]? with
   | some (.cells g' cs fz) =>
    let v:=(ev ts x).cells
    if g=g'∧v.length=n∧aT v∧fz≤off∧off+n≤cs.length then ok .undef (h.set b (.cells g (setCells cs off v) fz)) else none
   | _=>none
  | _=>none
 | .new zero g=>ok (.ptr (b7 pos h) g 0) (cN pos (.cells g zero 0) h)
 | .box x=>if aT (ev ts x).cells then ok (.ptr (b7 pos h) 0 0) (cN pos (.cells 0 (ev ts x).cells 0) h) else none
 | .build zero parts=>match bF ts parts zero with
  | some cs=>if aT cs then ok (mkAgg cs) h else none
  | none=>none
 | .buildSlice const esz len zero parts=>match bz ts (ae esz) parts (aP len zero) with
  | some cs=>if aT cs then match const,eW cs with
    | 0,_=>ok (.slice (b7 pos h) 1 0 len esz (some len)) (cN pos (.cells 1 cs 0) h)
    | 3,_=>ok (.slice (b7 pos h) 1 0 len esz none) (cN pos (.cells 1 cs 0) h)
    | 1,none=>none
    | _,none=>ok (.slice (b7 pos h) 1 0 len esz (some len)) (cN pos (.cells 1 cs 0) h)
    | _,some l=>match bV esz len l with
     | some xs=>okC (.slice xs) h
     | none=>none
   else none
  | none=>none
 | .makeSlice esz bytes zero l c=>match ev ts l,ev ts c with
  | .c (.int _ n),.c (.int _ m) =>
   if 0≤n∧n≤m∧m*bytes≤2^47∧m≤9223372036854775807 then
    ok (.slice (b7 pos h) 1 0 n.toNat esz (some m.toNat)) (cN pos (.cells 1 (aP m.toNat zero) 0) h)
   else none
  | _,_=>none
 | .makeMap=>ok (.map (b7 pos h)) (cN pos (.map [] [] false) h)
 | .sliceStr x lo hi=>match ev ts x with
  | .c (.str s)=>match bound (hi.map (ev ts)) s.length s.length with
   | some b=>match bound (lo.map (ev ts)) 0 b with
    | some a=>okC (.str ((s.drop a).take (b-a))) h
    | none=>none
   | none=>none
  | _=>none
 | .sliceSl sz x lo hi mx=>if mx.isSome && hi.isNone then none else match ev ts x with
  | .nil=>match bound (mx.map (ev ts)) 0 0 with
   | some m=>match bound (hi.map (ev ts)) 0 m with
    | some b=>match bound (lo.map (ev ts)) 0 b with
     | some _=>ok .nil h
     | none=>none
    | none=>none
   | none=>none
  | .emp=>match bound (mx.map (ev ts)) 0 0 with
   | some m=>match bound (hi.map (ev ts)) 0 m with
    | some b=>match bound (lo.map (ev ts)) 0 b with
     | some _=>ok .emp h
     | none=>none
    | none=>none
   | none=>none
  | .c (.slice xs)=>match bound (mx.map (ev ts)) xs.length xs.length with
   | some m=>match bound (hi.map (ev ts)) xs.length m with
    | some b=>match bound (lo.map (ev ts)) 0 b with
     | some a=>if fP sz xs then okC (.slice ((xs.drop a).take (b-a))) h else none
     | none=>none
    | none=>none
   | none=>none
  | .slice b g off len esz cap=>if ae esz≠sz then none else match bound (mx.map (ev ts)) (cap.getD len) (cap.getD len) with
   | some m=>match bound (hi.map (ev ts)) len m with
    | some hh=>match bound (lo.map (ev ts)) 0 hh with
     | some l=>match (if mx.isSome then some m else cap) with
      | some c=>ok (.slice b g (if c=l then off else off+l*sz) (hh-l) esz (some (c-l))) h
      | none=>if l=0 then ok (.slice b g off hh esz none) h else if l<hh then ok (.slice b g (off+l*sz) (hh-l) esz none) h else okC (.slice []) h
     | none=>none
    | none=>none
   | none=>none
  | _=>none
 | .sliceArr len esz x lo hi mx=>match ev ts x with
  | .ptr b g off=>match mx with
   | some _=>none
   | none=>match bound (hi.map (ev ts)) len len with
    | some hh=>match bound (lo.map (ev ts)) 0 hh with
     | some l=>match h[b]? with
      | some (.cells g' cs _)=>if g=g'∧off+len*ae esz≤cs.length then ok (.slice b g (if len=l then off else off+l*ae esz) (hh-l) esz (some (len-l))) h else none
      | _=>none
     | none=>none
    | none=>none
  | _=>none
 | .lookup kn zero isOk x k=>match ev ts k with
  | .c key=>if !cP kn key then none else
   match (match ev ts x with
    | .c (.map ks vs)=>some (ks,vs.map .c)
    | .map b=>match h[b]? with
     | some (.map ks vs _)=>some (ks,vs)
     | _=>none
    | _=>none:Option (List CV × List LV)) with
   | some (ks,vs)=>match aH kn key ks with
    | some (some i)=>match vs[i]? with
     | some v=>ok (if isOk then mkTuple [v,.c (.bool true)] else v) h
     | none=>none
    | some none=>ok (if isOk then mkTuple [zero,.c (.bool false)] else zero) h
    | none=>none
   | none=>none
  | _=>none
 | .mapUpdate kn m k x=>match ev ts m,ev ts k with
  | .map b,.c key=>if !cP kn key then none else match h[b]? with
   | some (.map ks vs false)=>match aH kn key ks with
    | some (some i)=>ok .undef (h.set b (.map ks (vs.set i (ev ts x)) false))
    | some none=>ok .undef (h.set b (.map (ks++[key]) (vs++[ev ts x]) false))
    | none=>none
   | _=>none
  | _,_=>none
 | .range x=>match ev ts x with
  | .c (.str s)=>ok (.ptr (b7 pos h) 0 0) (cN pos (.iter s 0) h)
  | _=>none
 | .next x=>match ev ts x with
  | .ptr b 0 0=>match h[b]? with
   | some (.iter s pos)=>if pos<s.length then
     okC (.tuple [.bool true,.int .i64 pos,.int .i32 (Utf8.decode ⟨s.toArray⟩ pos).1]) (h.set b (.iter s (pos+(Utf8.decode ⟨s.toArray⟩ pos).2)))
    else okC (.tuple [.bool false]) h
   | _=>none
  | _=>none
 | .len k x=>match k,ev ts x with
  | 1,.nil=>okC (iN 0) h
  | 1,.emp=>okC (iN 0) h
  | 0,.c (.str s)=>okC (iN s.length) h
  | 1,.c (.slice xs)=>okC (iN xs.length) h
  | 2,.c (.map ks _)=>okC (iN ks.length) h
  | 1,.slice _ _ _ len _ _=>okC (iN len) h
  | 2,.map b=>match h[b]? with
   | some (.map ks _ _)=>okC (iN ks.length) h
   | _=>none
  | _,_=>none
 | .append esz bytes s x=>aN pos esz bytes (ev ts s) (ev ts x) h
 | .max x rest=>match bt (fun a b=>if b > a then b else a) ts (ev ts x) rest with
  | some v=>ok v h
  | none=>none
 | .min x rest=>match bt (fun a b=>if b<a then b else a) ts (ev ts x) rest with
  | some v=>ok v h
  | none=>none
 | .clear zero x=>match ev ts x with
  | .nil=>ok .undef h
  | .emp=>ok .undef h
  | .c (.slice [])=>ok .undef h
  | .slice b g off len _ _=>if len=0 then ok .undef h else match h[b]? with
   | some (.cells g' cs fz) =>
    if g=g'∧fz≤off∧off+len*zero.length≤cs.length∧aT zero then ok .undef (h.set b (.cells g (setCells cs off (aP len zero)) fz)) else none
   | _=>none
  | _=>none
 | .copy sz a x=>match ev ts a with
  | .slice b g off len esz _=>match h[b]?,aO esz h (ev ts x) with
   | some (.cells g' cs fz),some (n,src) =>
    if g=g'∧ae esz=sz∧fz≤off∧src.length=n*sz∧off+len*sz≤cs.length∧aT src then
     okC (iN (Nat.min len n)) (h.set b (.cells g (setCells cs off (src.take (Nat.min len n*sz))) fz))
    else none
   | _,_=>none
  | _=>none
 | .call ..=>none
 | .bad _=>none
abbrev Run:=LCode→St→Option (Ex × St)
def ay:Nat:=40
def cX (s:St):LRes→Option LV
 | .tmp t=>some (s.tmps.getD t .undef)
 | .cell t n=>match s.tmps.getD t .undef with
  | .c (.ptr cells off)=>(bO n (cells.drop off)).map .c
  | .ptr b g off=>match s.heap[b]? with
   | some (.cells g' cs _)=>if g=g' then fC n (cs.drop off) else none
   | _=>none
  | _=>none
def bT (s:St):List LRes→Option (List LV)
 | []=>some []
 | r::rs=>match cX s r with
  | some v=>match bT s rs with
   | some l=>some (v::l)
   | none=>none
  | none=>none
def aK (s:St) (rs:List LRes):Option LV :=
 match bT s rs with
 | some [v]=>some v
 | some l=>some (mkTuple l)
 | none=>none
def pad (n:Nat) (l:List LV):List LV:=l++List.replicate (n-l.length) .undef
def cT (r:Run) (ntmps:Nat) (results:List LRes) (body:LCode) (args:List CV):Option CV :=
 match r body ⟨pad ntmps (args.map .c),[]⟩ with
 | some (ex,s)=>match ex with
  | .exit _=>none
  | _=>match aK s results with
   | some v=>match frz ay v s.heap with
    | some (c,_)=>some c
    | none=>none
   | none=>none
 | none=>none
def ah:List LV→List LB→Option (List LV × List LB)
 | [],h=>some ([],h)
 | .func f a b::r,h=>match frz ay (.func f a b) h with
  | some (c,h1)=>match ah r h1 with
   | some (l,h2)=>some (.c c::l,h2)
   | none=>none
  | none=>none
 | v::r,h=>match ah r h with
  | some (l,h2)=>some (v::l,h2)
  | none=>none
def dp (esz:Option Nat) (bytes:Nat):List CV→Option (LV × List LB)
 | [.slice xs] =>
  if xs.length=0 then some (.emp,[]) else
  if xs.length*bytes > 2^47∨xs.length > 9223372036854775807∨((xs.flatMap CV.cells).map LV.c).length≠xs.length*ae esz∨aT ((xs.flatMap CV.cells).map .c)=false then none else
  some (.slice 0 1 0 xs.length esz none,[.cells 1 ((xs.flatMap CV.cells).map .c) 0])
 | _=>none
def c8 (r:Run) (ntmps:Nat) (results:List LRes) (body:LCode) (args:List CV):Option (LV × List LB) :=
 match r body ⟨pad ntmps (args.map .c),[]⟩ with
 | some (ex,s)=>match ex with
  | .exit _=>none
  | _=>match aK s results with
   | some v=>some (v,s.heap)
   | none=>none
 | none=>none
def aD (quiet:Bool) (args:List LV) (h:Heap):Option (List CV × Heap) :=
 if quiet then match toCL args with
  | some cs=>some (cs,h)
  | none=>none
 else sU ay args h
def eM:CV→Bool
 | .bool _ | .int _ _ | .str _=>true
 | _=>false
def bE:CV→Bool
 | .tuple vs=>vs.all eM
 | v=>eM v
def cQ (h:Heap) (p:Nat):Bool :=
 match h[p]? with
 | some .dead=>true
 | _=>false
def bI (h:Heap):Nat→Nat→Bool
 | _,0=>true
 | p,n+1=>cQ h p && bI h (p+1) n
def bj (h:Heap) (p:Nat):List LB→Heap
 | []=>h
 | b::r=>bj (h.set p b) (p+1) r
def bW (pos:Option Nat) (k:Nat) (v:LV) (bs:List LB) (h:Heap):R :=
 if bs.length≤k then
  match pos with
  | none=>some (v.shift h.length,h++bC h.length bs++List.replicate (k-bs.length) .dead)
  | some p=>if bI h p bs.length then some (v.shift p,bj h p (bC p bs)) else none
 else none
def bD (prog:Nat→Option LFunc) (r:Run) (pos:Option Nat) (quiet:Bool) (f:Nat) (args:List LV) (h:Heap):R :=
 match prog f with
 | none=>none
 | some (.prim g)=>match aD quiet args h with
  | none=>none
  | some (cs,h')=>match g cs with
   | none=>none
   | some v=>some (.c v,if bE v then h else h')
 | some (.code .pure nt rs body)=>match aD quiet args h with
  | none=>none
  | some (cs,h')=>match cT r nt rs body cs with
   | none=>none
   | some v=>some (.c v,if bE v then h else h')
 | some (.fprim k g)=>if quiet && pos.isNone then none else match aD quiet args h with
  | none=>none
  | some (cs,h')=>match g cs with
   | none=>none
   | some (v,bs)=>bW pos k v bs h'
 | some (.code (.fresh k) nt rs body)=>if quiet && pos.isNone then none else match aD quiet args h with
  | none=>none
  | some (cs,h')=>match c8 r nt rs body cs with
   | none=>none
   | some (v,bs)=>bW pos k v bs h'
 | some (.code .shared nt rs body)=>if quiet then none else
  match ah args h with
  | none=>none
  | some (args',h')=>match r body ⟨pad nt args',h'⟩ with
   | some (ex,s)=>match ex with
    | .exit _=>none
    | _=>match aK s rs with
     | some v=>some (v,s.heap)
     | none=>none
   | none=>none
 | some (.code .live nt rs body)=>if quiet then none else
  match r body ⟨pad nt args,h⟩ with
   | some (ex,s)=>match ex with
    | .exit _=>none
    | _=>match aK s rs with
     | some v=>some (v,s.heap)
     | none=>none
   | none=>none
def da:LV→Option (Nat × List LV × List LV)
 | .c (.func f a b)=>some (f,a.map .c,b.map .c)
 | .func f a b=>some (f,a,b)
 | _=>none
def step (prog:Nat→Option LFunc) (r:Run) (pos:Option Nat) (ts:List LV) (h:Heap):LOp→R
 | .call quiet f args=>match da (ev ts f) with
  | some (g,a,b)=>bD prog r pos quiet g (a++args.map (ev ts)++b) h
  | none=>none
 | op=>ab pos ts h op
def put (ts:List LV) (dst:Option Nat) (v:LV):List LV :=
 match dst with
 | some d=>ts.set d v
 | none=>ts
def dK:LV→Option (Nat × Nat)
 | .ptr b g _=>some (b,g)
 | .slice b g _ _ _ _=>some (b,g)
 | .map b=>some (b,0)
 | _=>none
def cK:LOp→Option LO
 | .load _ a | .store _ a _ | .lookup _ _ _ a _ | .mapUpdate _ a _ _ | .len _ a | .append _ _ a _ | .clear _ a | .copy _ a _=>some a
 | _=>none
def bQ (base:Nat):Where→Nat × Nat→Bool
 | .any,_=>true
 | .old,(b,_)=>decide (b<base)
 | .new,(b,_)=>decide (base≤b)
 | .var,(b,g)=>decide (b<base) && g == 0
 | .row,(b,g)=>decide (b<base) && g != 0
 | .own,(b,g)=>(decide (b<base) && g != 0) || decide (base≤b)
def aX (base:Nat) (wh:Where) (ts:List LV) (op:LOp):Bool :=
 match cK op with
 | some a=>match dK (ev ts a) with
  | some bg=>bQ base wh bg
  | none=>true
 | none=>true
def de (base:Nat) (slot:Option Nat) (h:Heap):Bool :=
 match slot with
 | none=>true
 | some k=>cQ h (base+k)
def bu (prog:Nat→Option LFunc) (r:Run) (base:Nat) (o:LOper) (s:St):Option St :=
 if aX base o.wh s.tmps o.op && de base o.slot s.heap then
  match step prog r (o.slot.map (base+·)) s.tmps s.heap o.op with
  | some (v,h)=>some ⟨put s.tmps o.dst v,h⟩
  | none=>none
 else none
def aY (prog:Nat→Option LFunc) (r:Run) (base:Nat) (o:LOper) (s:St):Option St :=
 match o.guard with
 | none=>bu prog r base o s
 | some (t,b)=>match s.tmps.getD t .undef with
  | .c (.bool b')=>if b' == b then bu prog r base o s else some ⟨put s.tmps o.dst (.c (.tuple [])),s.heap⟩
  | .c (.tuple [])=>some ⟨put s.tmps o.dst (.c (.tuple [])),s.heap⟩
  | _=>none
def au (prog:Nat→Option LFunc) (r:Run) (base:Nat):List LOper→St→Option St
 | [],s=>some s
 | o::os,s=>match aY prog r base o s with
  | some s'=>au prog r base os s'
  | none=>none
abbrev dG:=List LV→Heap→Option (Heap × Option Ex)
abbrev jD:=dG→LCode→St→Option Ex→Option (Ex × St × Option Ex)
def isMark:LV→Bool
 | .tuple []=>true
 | _=>false
def unmark (ts:List LV):List LV:=ts.map fun v=>if isMark v then .undef else v
def remark (ds:List Nat):Nat→List LV→List LV→List LV
 | i,old::os,new::ns=>(if isMark old && !ds.contains i then old else new)::remark ds (i+1) os ns
 | _,_,ns=>ns
def i7:List Nat→List LV→List LV→List LV
 | p::ps,x::xs,ts=>i7 ps xs (ts.set p x)
 | _,_,ts=>ts
def kU (o:LOper):List Nat :=
 match o.dst with
 | some d=>[d]
 | none=>[]
def dP (prog:Nat→Option LFunc) (r:Run) (o:LOper) (s:St) (p:Option Ex):Option (St × Option Ex) :=
 match bu prog r 0 o ⟨unmark s.tmps,s.heap⟩ with
 | some s'=>if s'.tmps.any isMark then none else some (⟨remark (kU o) 0 s.tmps s'.tmps,s'.heap⟩,p)
 | none=>none
def opI (prog:Nat→Option LFunc) (r:Run) (yh:dG) (o:LOper) (s:St) (p:Option Ex):Option (St × Option Ex) :=
 match o.op with
 | .move x=>if isMark (ev s.tmps x) then match o.slot with
   | none=>some (⟨put s.tmps o.dst (ev s.tmps x),s.heap⟩,p)
   | some _=>none
  else dP prog r o s p
 | .call _ f args=>if isMark (ev s.tmps f) then
   if p.isNone && !(args.map (ev s.tmps)).any isMark then match yh (args.map (ev s.tmps)) s.heap with
    | some (h',j)=>some (⟨put s.tmps o.dst (.c (.bool j.isNone)),h'⟩,j)
    | none=>none
   else none
  else dP prog r o s p
 | _=>dP prog r o s p
def fv (prog:Nat→Option LFunc) (r:Run) (yh:dG) (o:LOper) (s:St) (p:Option Ex):Option (St × Option Ex) :=
 match o.guard with
 | none=>opI prog r yh o s p
 | some (t,b)=>match s.tmps.getD t .undef with
  | .c (.bool b')=>if b' == b then opI prog r yh o s p else some (⟨put s.tmps o.dst (.c (.tuple [])),s.heap⟩,p)
  | .c (.tuple [])=>some (⟨put s.tmps o.dst (.c (.tuple [])),s.heap⟩,p)
  | _=>none
def dn (prog:Nat→Option LFunc) (r:Run) (yh:dG):List LOper→St→Option Ex→Option (St × Option Ex)
 | [],s,p=>some (s,p)
 | o::os,s,p=>match fv prog r yh o s p with
  | some (s',p')=>dn prog r yh os s' p'
  | none=>none
def aJ (prog:Nat→Option LFunc) (r:Run) (ri:jD) (yh:dG):LCode→St→Option Ex→Option (Ex × St × Option Ex)
 | .skip,s,p=>some (.normal,s,p)
 | .ret,s,p=>some (.ret,s,p)
 | .exit id,s,p=>some (.exit id,s,p)
 | .seq a b,s,p=>match aJ prog r ri yh a s p with
  | some (.normal,s',p')=>aJ prog r ri yh b s' p'
  | x=>x
 | .cond c a b,s,p=>match ev s.tmps c with
  | .c (.bool true)=>aJ prog r ri yh a s p
  | .c (.bool false)=>aJ prog r ri yh b s p
  | _=>none
 | .block id a,s,p=>match aJ prog r ri yh a s p with
  | some (.exit id',s',p')=>if id'=id then some (.normal,s',p') else some (.exit id',s',p')
  | x=>x
 | .loop g a,s,p=>match aJ prog r ri yh a s p with
  | some (.normal,s',p')=>ri yh (.loop g a) (if g then gc s.heap.length s' else s') p'
  | x=>x
 | .region ops,s,p=>match dn prog r yh ops s p with
  | some (s',p')=>some (.normal,s',p')
  | none=>none
 | .draw k ops,s,p=>match au prog r s.heap.length ops ⟨unmark s.tmps,s.heap++List.replicate k .dead⟩ with
  | some s'=>if s'.tmps.any isMark then none else some (.normal,⟨remark (ops.flatMap kU) 0 s.tmps s'.tmps,s'.heap⟩,p)
  | none=>none
 | .rangeFn ..,_,_=>none
 | .bad _,_,_=>none
def dm (ea eb:St→Option (Ex × St)) (ps:List Nat) (ts:List LV):dG:=fun args h =>
 if args.length=ps.length then match ea ⟨i7 ps args ts,h⟩ with
  | some (.normal,s1)=>match eb s1 with
   | some (.normal,s2)=>some (s2.heap,none)
   | some (e,s2)=>some (s2.heap,some e)
   | none=>none
  | _=>none
 else none
def exec (prog:Nat→Option LFunc) (r:Run) (ri:jD):LCode→St→Option (Ex × St)
 | .skip,s=>some (.normal,s)
 | .ret,s=>some (.ret,s)
 | .exit id,s=>some (.exit id,s)
 | .seq a b,s=>match exec prog r ri a s with
  | some (.normal,s')=>exec prog r ri b s'
  | x=>x
 | .cond c a b,s=>match ev s.tmps c with
  | .c (.bool true)=>exec prog r ri a s
  | .c (.bool false)=>exec prog r ri b s
  | _=>none
 | .block id a,s=>match exec prog r ri a s with
  | some (.exit id',s')=>if id'=id then some (.normal,s') else some (.exit id',s')
  | x=>x
 | .loop g a,s=>match exec prog r ri a s with
  | some (.normal,s')=>r (.loop g a) (if g then gc s.heap.length s' else s')
  | x=>x
 | .region ops,s=>match au prog r 0 ops s with
  | some s'=>some (.normal,s')
  | none=>none
 | .draw k ops,s=>match au prog r s.heap.length ops ⟨s.tmps,s.heap++List.replicate k .dead⟩ with
  | some s'=>some (.normal,s')
  | none=>none
 | .rangeFn g ps asg body,s=>match da (ev s.tmps g) with
  | some (f,[],caps)=>match prog f with
   | some (.code .shared nt [] itb)=>if caps.any isMark then none else
    match ri (dm (exec prog r ri asg) (exec prog r ri body) ps s.tmps) itb ⟨pad nt (.tuple []::caps),s.heap⟩ none with
    | some (.exit _,_,_)=>none
    | some (_,s3,none)=>some (.normal,⟨s.tmps,s3.heap⟩)
    | some (_,s3,some e)=>some (e,⟨s.tmps,s3.heap⟩)
    | none=>none
   | _=>none
  | _=>none
 | .bad _,_=>none
def runs (prog:Nat→Option LFunc):Nat→Run × jD
 | 0=>(fun _ _=>none,fun _ _ _ _=>none)
 | n+1=>(exec prog (runs prog n).1 (runs prog n).2,fun yh=>aJ prog (runs prog n).1 (runs prog n).2 yh)
def run (prog:Nat→Option LFunc) (n:Nat):Run:=(runs prog n).1
def pcall (prog:Nat→Option LFunc) (n:Nat) (f:Nat) (args:List CV):Option CV :=
 match prog f with
 | some (.prim g)=>g args
 | some (.code .pure nt rs body)=>cT (run prog n) nt rs body args
 | _=>none
def ng:Value→Option LV
 | .bool b=>some (.c (.bool b))
 | .int k n=>some (.c (.int k n))
 | .string s=>some (.c (.str s.data.toList))
 | .pointer none=>some (.c .nilptr)
 | .slice none 0 0=>some .nil
 | .map none=>some (.c (.map [] []))
 | .nilFunc=>some (.c .nilfunc)
 | _=>none
def o7:List Value→Option (List LV)
 | []=>some []
 | v::r=>match ng v with
  | some x=>match o7 r with
   | some l=>some (x::l)
   | none=>none
  | none=>none
def cd (P:Program) (t:TypeId):Option (List LV) :=
 match P.info? t with
 | some i=>match i.zero with
  | some v=>o7 v.cells.toList
  | none=>none
 | none=>none
def qW (P:Program) (t:TypeId):Option LV :=
 match P.info? t with
 | some i=>match i.zero with
  | some (.agg cs)=>match o7 cs.toList with
   | some l=>some (mkAgg l)
   | none=>none
  | some v=>ng v
  | none=>none
 | none=>none
def jX (P:Program) (t:TypeId):Option Bool :=
 match P.underlying t with
 | some (.struct _)=>some true
 | some (.array _ _)=>some true
 | some _=>some false
 | none=>none
def dh (P:Program) (t:TypeId):Option Nat:=(P.info? t).map (·.size)
def bX (P:Program) (t:TypeId):Option (Option Nat) :=
 match jX P t,dh P t with
 | some true,some n=>some (some n)
 | some false,some 1=>some none
 | _,_=>none
def ef (P:Program) (t:TypeId):Option Nat :=
 match P.underlying t,dh P t with
 | some (.int _),some 1=>some 0
 | some .string,some 1=>some 1
 | some .bool,some 1=>some 2
 | _,_=>none
def cC (P:Program):List Field→Nat→Option (List Nat)
 | [],_=>some []
 | f::r,k=>if f.name != "_" && f.offset == k then match ef P f.type,cC P r (k+1) with
   | some a,some l=>some (a::l)
   | _,_=>none
  else none
def dA (P:Program) (t:TypeId):Option KeyKind :=
 match P.underlying t with
 | some (.struct fs)=>if P.stoodInHeld t then none else match cC P fs.toList 0 with
  | some ks=>some (.many ks)
  | none=>none
 | some (.array n e)=>match ef P e with
  | some k=>some (.many (List.replicate n k))
  | none=>none
 | _=>match ef P t with
  | some k=>some (.one k)
  | none=>none
def aE:Operand→Option LO
 | .tmp t=>some (.t t)
 | .const v=>(ng v).map .k
 | .func f=>some (.k (.c (.func f [] [])))
 | .global _=>none
def dF:List Operand→Option (List LO)
 | []=>some []
 | x::r=>match aE x,dF r with
  | some a,some l=>some (a::l)
  | _,_=>none
def dN:Option Operand→Option (Option LO)
 | none=>some none
 | some x=>match aE x with
  | some a=>some (some a)
  | none=>none
def jQ:List (Nat × Operand)→Option (List (Nat × LO))
 | []=>some []
 | (i,x)::r=>match aE x,jQ r with
  | some a,some l=>some ((i,a)::l)
  | _,_=>none
def lK (P:Program) (fs:Array Field):List (Nat × Operand)→Option (List (Nat × Nat × LO))
 | []=>some []
 | (i,x)::r=>match aE x,fs[i]?,lK P fs r with
  | some a,some f,some l=>match dh P f.type with
   | some n=>some ((f.offset,n,a)::l)
   | none=>none
  | _,_,_=>none
def lc (P:Program) (fs:Array Field):Option (List (Nat × Nat)):=fs.toList.mapM (fun f=>(P.info? f.type).map fun i=>(f.offset,i.size))
def lq (sz:Nat):List (Nat × Operand)→Option (List (Nat × Nat × LO))
 | []=>some []
 | (i,x)::r=>match aE x,lq sz r with
  | some a,some l=>some ((i*sz,sz,a)::l)
  | _,_=>none
def orBad (n:Nat) (x:Option LOp):LOp:=x.getD (.bad n)
def o1 (x:Operand) (f:LO→LOp):Option LOp:=(aE x).map f
def o2 (x y:Operand) (f:LO→LO→LOp):Option LOp :=
 match aE x,aE y with
 | some a,some b=>some (f a b)
 | _,_=>none
def o3 (x y z:Operand) (f:LO→LO→LO→LOp):Option LOp :=
 match aE x,aE y,aE z with
 | some a,some b,some c=>some (f a b c)
 | _,_,_=>none
structure Hints where
 shared:List Nat:=[]
 live:List Nat:=[]               -- of the shared ones: their function arguments are not frozen
 fresh:List (Nat × Nat):=[]
 noGc:List (Nat × Nat):=[]       -- function,first region of the loop's body
 constLit:List (Nat × Nat):=[]   -- function,temporary: literal slices that are constants
 openLit:List (Nat × Nat):=[]    -- function,temporary: literal slices whose room is left open
 rowTmp:List (Nat × Nat):=[]     -- function,temporary: pointers into rows; 1000000 more: pointers into rows or variables,only read
 rowNew:List (Nat × Nat):=[]     -- function,temporary: variables that are told apart from the others (as rows)
 oneLit:List (Nat × Nat):=[]     -- function,temporary: literal slices that are constants in every reading
 nilVar:List (Nat × Nat):=[]     -- function,temporary: a variable whose nil slice stays nil
 prims:List (Nat × (List CV→Option CV)):=[]
 fprims:List (Nat × Nat × (List CV→Option (LV × List LB))):=[]
def rh (P:Program) (t:TypeId):Bool :=
 match P.underlying t with
 | some (.slice _)=>true
 | some .string=>true
 | _=>false
def gd (P:Program) (b:Builtin) (argTypes:List TypeId) (args:List Operand):Option LOp :=
 match b,argTypes,args with
 | .len,t::_,[x]=>match P.underlying t with
  | some .string=>o1 x (.len 0)
  | some (.slice _)=>o1 x (.len 1)
  | some (.map _ _)=>o1 x (.len 2)
  | some (.array n _)=>some (.move (.k (.c (.int .i64 n))))
  | _=>none
 | .append,[t,t2],[s,x]=>match P.underlying t,rh P t2 with
  | some (.slice e),true=>match bX P e,P.info? e with
   | some z,some i=>if i.bytes≠0∧i.zero.map (fun v=>v.cells.size)=some (ae z) then o2 s x (.append z i.bytes) else none
   | _,_=>none
  | _,_=>none
 | .max,_,x::r=>match aE x,dF r with
  | some a,some l=>some (.max a l)
  | _,_=>none
 | .min,_,x::r=>match aE x,dF r with
  | some a,some l=>some (.min a l)
  | _,_=>none
 | .clear,t::_,[x]=>match P.underlying t with
  | some (.slice e)=>match cd P e,dh P e with
   | some z,some n=>if z.length=n then o1 x (.clear z) else none
   | _,_=>none
  | _=>none
 | .copy,[t,t2],[a,x]=>match P.underlying t,rh P t2 with
  | some (.slice e),true=>match bX P e with
   | some z=>if ae z≠0 then o2 a x (.copy (ae z)) else none
   | none=>none
  | _,_=>none
 | _,_,_=>none
def eT (P:Program) (quiet:Bool) (ty:TypeId) (x:Operand):Option LOp :=
 match quiet,x,P.underlying ty with
 | false,.const (.slice none 0 0),some (.slice e)=>match bX P e with
  | some z=>if ae z≠0 then some (.mkNil z) else none
  | none=>none
 | _,_,_=>o1 x .move
def cOp (P:Program) (quiet:Bool) (const:Nat) (ty:TypeId):Op→Option LOp
 | .move x=>eT P quiet ty x
 | .assign x=>eT P quiet ty x
 | .pick c a b=>o3 c a b .pick
 | .alloc e=>(cd P e).map fun z=>.new z (if const=4 then 1 else 0)
 | .box _ x=>o1 x .box
 | .build t parts=>match P.underlying t,cd P t with
  | some (.struct fs),some z=>if (lc P fs).isSome then (lK P fs parts.toList).map (.build z) else none
  | some (.array _ e),some z=>match dh P e with
   | some n=>(lq n parts.toList).map (.build z)
   | none=>none
  | _,_=>none
 | .buildSlice t len parts=>match P.underlying t with
  | some (.slice e)=>match bX P e,cd P e,jQ parts.toList with
   | some z,some zs,some ps=>if len*ae z≤2^24∧zs.length=ae z∧ae z≠0 then some (.buildSlice const z len zs ps) else none
   | _,_,_=>none
  | _=>none
 | .load t a=>match bX P t with
  | some z=>o1 a (.load z)
  | none=>none
 | .store t a x=>match dh P t with
  | some n=>o2 a x (.store n)
  | none=>none
 | .binOp op t x y _=>match P.underlying t with
  | some (.slice _)=>match op,y with
   | .eql,.const (.slice none 0 0)=>o1 x (.eqNil false)
   | .neq,.const (.slice none 0 0)=>o1 x (.eqNil true)
   | _,_=>none
  | some .bool=>o2 x y (.binBool op)
  | some (.int _) | some .string=>o2 x y (.bin op)
  | some (.struct _) | some (.array _ _)=>match dA P t with
   | some kk=>if P.eqGuardType P.depth t then none else match op with
    | .eql=>o2 x y (.eqAgg kk false)
    | .neq=>o2 x y (.eqAgg kk true)
    | _=>none
   | none=>none
  | _=>none
 | .nilCheck x=>o1 x .nilCheck
 | .unOp .not _ x=>o1 x .not
 | .unOp .neg _ x=>o1 x .neg
 | .convert src dst x=>match P.underlying src,P.underlying dst with
  | some (.int _),some (.int k)=>o1 x (.conv k)
  | some .string,some .string=>o1 x .convStr
  | _,_=>none
 | .makeFunc (.func f) first caps=>match dF first.toList,dF caps.toList with
  | some a,some b=>some (.mkFunc f a b)
  | _,_=>none
 | .makeMap t r=>match r,P.underlying t with
  | none,_=>some .makeMap
  | some (.const (.int _ _)),some (.map _ _)=>some .makeMap
  | _,_=>none
 | .makeSlice t l c=>match P.underlying t with
  | some (.slice e)=>match bX P e,cd P e,P.info? e with
   | some z,some zs,some i=>if zs.length=ae z∧ae z≠0 then o2 l c (.makeSlice z i.bytes zs) else none
   | _,_,_=>none
  | _=>none
 | .slice t x lo hi mx=>match P.underlying t,aE x,dN lo,dN hi,dN mx with
  | some .string,some a,some l,some h,some none=>some (.sliceStr a l h)
  | some (.slice e),some a,some l,some h,some m=>match bX P e with
   | some z=>if ae z≠0 then some (.sliceSl (ae z) a l h m) else none
   | none=>none
  | some (.array n e),some a,some l,some h,some m=>match bX P e with
   | some z=>some (.sliceArr n z a l h m)
   | none=>none
  | _,_,_,_,_=>none
 | .fieldAddr s x f=>match P.underlying s with
  | some (.struct fs)=>match fs[f]? with
   | some fd=>match dh P fd.type with
    | some n=>if n=0 then none else o1 x (.fieldAddr fd.offset)
    | none=>none
   | none=>none
  | _=>none
 | .field t x f=>match P.underlying t with
  | some (.struct fs)=>match fs[f]? with
   | some fd=>match bX P fd.type with
    | some z=>o1 x (.field fd.offset z)
    | none=>none
   | none=>none
  | _=>none
 | .indexAddr t x i=>match P.underlying t with
  | some (.slice e)=>match bX P e with
   | some z=>o2 x i (.idxSlice (ae z))
   | none=>none
  | some (.array n e)=>match bX P e with
   | some z=>o2 x i (.idxArr n (ae z))
   | none=>none
  | _=>none
 | .index t x i=>match P.underlying t with
  | some (.array n e)=>match bX P e with
   | some z=>o2 x i (.indexArr n z)
   | none=>none
  | some .string=>o2 x i .indexStr
  | _=>none
 | .lookup t x k isOk=>match P.underlying t with
  | some (.map kt et)=>match qW P et,dA P kt with
   | some zero,some kn=>o2 x k (.lookup kn zero isOk)
   | _,_=>none
  | _=>none
 | .mapUpdate t m k x=>match P.underlying t with
  | some (.map kt _)=>match dA P kt with
   | some kn=>o3 m k x (.mapUpdate kn)
   | none=>none
  | _=>none
 | .insert t m k x=>match P.underlying t with
  | some (.map kt _)=>match dA P kt with
   | some kn=>o3 m k x (.mapUpdate kn)
   | none=>none
  | _=>none
 | .range t x=>match P.underlying t with
  | some .string=>o1 x .range
  | _=>none
 | .next x true=>o1 x .next
 | .extract x i=>o1 x (.extract · i)
 | .call { callee:=.builtin b,args,argTypes }=>gd P b argTypes.toList args.toList
 | .call { callee:=.value f,args,.. }=>match aE f,dF args.toList with
  | some g,some l=>some (.call quiet g l)
  | _,_=>none
 | _=>none
def Ns (H:Hints) (ops:List Oper) (dst:Option Nat):Bool :=
 match dst with
 | some d=>ops.any fun o=>match o.op with
  | .call { callee:=.value (.func f),args,.. }=>!H.shared.contains f && args.toList.any fun | .tmp t=>t == d | _=>false
  | .call { callee:=.builtin .append,args,.. }=>(args.toList.drop 1).any fun | .tmp t=>t == d | _=>false
  | _=>false
 | none=>false
def Y2:Op→Nat
 | .move _=>1 | .assign _=>2 | .pick ..=>3 | .alloc _=>4 | .box ..=>5 | .build ..=>6 | .buildSlice ..=>7 | .insert ..=>8
 | .load ..=>9 | .store ..=>10 | .ready _=>11 | .waits _=>12 | .nilCheck _=>13 | .binOp ..=>14 | .unOp ..=>15 | .convert ..=>16
 | .sliceToArrayPointer ..=>17 | .makeInterface ..=>18 | .makeFunc ..=>19 | .makeMap ..=>20 | .makeChan ..=>21 | .makeSlice ..=>22
 | .slice ..=>23 | .fieldAddr ..=>24 | .field ..=>25 | .indexAddr ..=>26 | .index ..=>27 | .lookup ..=>28 | .mapUpdate ..=>29
 | .mapEntry ..=>30 | .entryStore ..=>31 | .range ..=>32 | .next ..=>33 | .entry _=>34 | .typeAssert ..=>35 | .extract ..=>36
 | .call { callee:=.builtin _,.. }=>37 | .call _=>38 | .go _=>39 | .defer _=>40 | .panic _=>41 | _=>42
def eA (P:Program) (H:Hints) (fid:Nat) (draw:Bool) (ops:List Oper) (o:Oper):LOper :=
 let const:=if (match o.dst with | some d=>H.rowNew.contains (fid,d) | none=>false) then 4 else if (match o.dst with | some d=>H.openLit.contains (fid,d) | none=>false) then 3 else if (match o.dst with | some d=>H.oneLit.contains (fid,d) | none=>false) then 1 else if Ns H ops o.dst || (match o.dst with | some d=>H.constLit.contains (fid,d) | none=>false) then (if draw then 1 else 2) else 0
 {dst:=o.dst,
  op:=orBad (Y2 o.op) (cOp P (draw || (match o.dst with | some d=>H.nilVar.contains (fid,d) | none=>false)) const o.type o.op),
  guard:=match o.guard with
   | none=>none
   | some (j,b)=>match (ops[j]?).bind (·.dst) with
    | some t=>some (t,b)
    | none=>some (0,b) }
structure Eff where
 rv:Bool
 rr:Bool
 rm:Bool
 wv:Bool
 wr:Bool
 wm:Bool
 nw:Bool
 al:Bool
 fr:Bool
 all:Bool
def Eff.none:Eff:=⟨false,false,false,false,false,false,false,false,false,false⟩
def eC (fresh:Nat→Option Nat):LOp→Nat
 | .new .. | .box _ | .mkNil _ | .makeSlice .. | .makeMap | .range _ | .append ..=>1
 | .buildSlice k ..=>if k=1 then 0 else 1
 | .call _ (.k (.c (.func f _ _))) _=>(fresh f).getD 0
 | _=>0
def aA (fresh:Nat→Option Nat) (shared:Nat→Bool) (o:LOper):Eff :=
 match o.op with
 | .move _ | .pick .. | .bin .. | .binBool .. | .convStr _ | .eqAgg .. | .eqNil .. | .nilCheck _ | .not _ | .neg _ | .conv .. | .mkFunc .. | .extract .. | .field .. | .indexArr .. | .indexStr ..
 | .idxSlice .. | .idxArr .. | .fieldAddr .. | .max .. | .min .. | .sliceStr .. | .sliceSl .. | .build ..=>.none
 | .buildSlice 1 ..=>.none
 | .load ..=>match o.wh with
  | .old=>{ Eff.none with rv:=true,rr:=true }
  | .var=>{ Eff.none with rv:=true }
  | .row=>{ Eff.none with rr:=true }
  | _=>{ Eff.none with all:=true }
 | .len 0 _ | .len 1 _=>.none
 | .lookup .. | .len ..=>match o.wh with
  | .old=>{ Eff.none with rm:=true }
  | _=>{ Eff.none with all:=true }
 | .call true (.k (.c (.func f _ _))) _=>if shared f then { Eff.none with all:=true } else { Eff.none with al:=(fresh f).isSome }
 | .call true _ _=>.none
 | .call false (.k (.c (.func f _ _))) _=>if shared f then { Eff.none with all:=true } else { Eff.none with rv:=true,rr:=true,rm:=true,fr:=true,al:=(fresh f).isSome }
 | .store ..=>match o.wh with
  | .new=>{ Eff.none with nw:=true }
  | .old=>{ Eff.none with rv:=true,rr:=true,wv:=true,wr:=true }
  | .var=>{ Eff.none with rv:=true,wv:=true }
  | .row=>{ Eff.none with rr:=true,wr:=true }
  | .any=>{ Eff.none with all:=true }
  | .own=>{ Eff.none with all:=true }
 | .mapUpdate ..=>match o.wh with
  | .old=>{ Eff.none with rm:=true,wm:=true }
  | _=>{ Eff.none with all:=true }
 | .append ..=>match o.wh with
  | .new=>{ Eff.none with rv:=true,rr:=true,nw:=true,al:=true }
  | .row=>{ Eff.none with rv:=true,rr:=true,wr:=true,nw:=true,al:=true }
  | .own=>{ Eff.none with rv:=true,rr:=true,wr:=true,nw:=true,al:=true }
  | _=>{ Eff.none with all:=true }
 | .new .. | .box _ | .mkNil _ | .makeSlice .. | .makeMap | .range _=>{ Eff.none with al:=true }
 | .buildSlice _ ..=>{ Eff.none with al:=true }
 | _=>{ Eff.none with all:=true }
def Eff.touches (a:Eff):Bool:=a.rv || a.rr || a.rm || a.wv || a.wr || a.wm || a.nw || a.al || a.fr || a.all
def Eff.clash1 (a b:Eff):Bool :=
 (a.all && b.touches) || (a.wv && (b.rv || b.wv)) || (a.wr && (b.rr || b.wr)) || (a.wm && (b.rm || b.wm)) || (a.nw && (b.nw || b.al)) ||
 (a.fr && (b.wv || b.wr || b.wm || b.nw || b.al || b.fr))
def Eff.clash (a b:Eff):Bool:=a.clash1 b || b.clash1 a
def b6:LO→List Nat
 | .t i=>[i]
 | .k _=>[]
def lE:Option LO→List Nat
 | some x=>b6 x
 | none=>[]
def ix:LOp→List Nat
 | .move x | .eqNil _ x | .nilCheck x | .not x | .neg x | .conv _ x | .extract x _ | .field _ _ x | .fieldAddr _ x | .load _ x | .box x | .range x | .next x | .len _ x | .clear _ x | .convStr x=>b6 x
 | .pick a b c=>b6 a++b6 b++b6 c
 | .bin _ x y | .binBool _ x y | .eqAgg _ _ x y | .indexArr _ _ x y | .indexStr x y | .idxSlice _ x y | .idxArr _ _ x y | .store _ x y | .copy _ x y | .makeSlice _ _ _ x y | .lookup _ _ _ x y | .append _ _ x y=>b6 x++b6 y
 | .mapUpdate _ a b c=>b6 a++b6 b++b6 c
 | .mkFunc _ a b=>a.flatMap b6++b.flatMap b6
 | .build _ ps=>ps.flatMap fun p=>b6 p.2.2
 | .buildSlice _ _ _ _ ps=>ps.flatMap fun p=>b6 p.2
 | .sliceStr x a b=>b6 x++lE a++lE b
 | .sliceSl _ x a b c | .sliceArr _ _ x a b c=>b6 x++lE a++lE b++lE c
 | .max x r | .min x r=>b6 x++r.flatMap b6
 | .call _ f args=>b6 f++args.flatMap b6
 | .mkNil _ | .new .. | .makeMap | .bad _=>[]
def ei (o:LOper):List Nat :=
 ix o.op++match o.guard with
  | some (t,_)=>[t]
  | none=>[]
def jr (o:LOper):List Nat :=
 match o.dst with
 | some d=>[d]
 | none=>[]
def lookupPrim {α:Type} (f:Nat):List (Nat × α)→Option α
 | []=>none
 | (g,p)::r=>if g=f then some p else lookupPrim f r
def freshOf (H:Hints) (f:Nat):Option Nat :=
 match lookupPrim f H.fprims with
 | some (k,_)=>some k
 | none=>lookupPrim f H.fresh
def wO (H:Hints) (a:LOper):Nat × Nat:=(a.slot.getD 0,eC (freshOf H) a.op)
def qz (H:Hints) (a b:LOper):Bool :=
 let x:=wO H a
 let y:=wO H b
 x.1+x.2≤y.1 || y.1+y.2≤x.1
def nK (H:Hints) (a b:LOper):Bool :=
 qz H a b &&
 !(aA (freshOf H) H.shared.contains a).clash (aA (freshOf H) H.shared.contains b) &&
 (jr a).all (fun d=>!(ei b).contains d && !(jr b).contains d) &&
 (jr b).all (fun d=>!(ei a).contains d)
def iR (acc:List Nat):List Edge→Nat
 | []=>0
 | e::r=>if Region.binds .any e then 2^e.on ||| acc.getD e.on 0 ||| iR acc r else iR acc r
def eI:List Oper→List Nat→List Nat
 | [],acc=>acc
 | o::r,acc=>eI r (acc++[iR acc o.after.toList])
def ID (H:Hints) (ops:List Oper) (l:List LOper):Bool :=
 let deps:=eI ops []
 l.all (fun o=>(aA (freshOf H) H.shared.contains o).all || ((aA (freshOf H) H.shared.contains o).al == o.slot.isSome && (o.slot.isNone || eC (freshOf H) o.op != 0))) &&
 (List.range l.length).all fun j=>(List.range j).all fun i =>
  (deps.getD j 0).testBit i || nK H (l.getD i default) (l.getD j default)
def qx (md:Region.Mode) (ops:Array Oper):List Nat→List Nat→Bool
 | _,[]=>true
 | seen,i::r=>(match ops[i]? with
  | some o=>o.after.all fun e=>!Region.binds md e || seen.contains e.on
  | none=>false) && qx md ops (i::seen) r
def HE (md:Region.Mode) (ops:Array Oper) (l:List Nat):Bool :=
 qx md ops [] l && (List.range ops.size).all l.contains
def eD (H:Hints) (ops:Array Oper) (l:List LOper):Bool :=
 ID H ops.toList l && HE .any ops (List.range ops.size)
def jN (ops:List Oper):Bool :=
 ops.all fun o=>match o.guard with
  | none=>true
  | some (j,_)=>match ops[j]? with
   | some o'=>o'.dst.isSome
   | none=>false
def dv:Code→Nat
 | .region id _ _=>id
 | .seq a _=>dv a
 | .block _ a=>dv a
 | .loop a=>dv a
 | _=>1000000
def VM (H:Hints) (ops:List Oper) (t:Nat):Bool :=
 ops.any fun o=>o.dst == some t && match o.op with
  | .alloc _ | .box .. | .buildSlice .. | .makeSlice .. | .makeMap ..=>true
  | .call { callee:=.value (.func f),.. }=>(freshOf H f).isSome
  | .call { callee:=.builtin .append,args,.. }=>match args.toList with
   | .tmp a::_=>ops.any fun o'=>o'.dst == some a && match o'.op with
    | .buildSlice ..=>true
    | .call { callee:=.value (.func f),.. }=>(freshOf H f).isSome
    | .call { callee:=.builtin .append,.. }=>true
    | _=>false
   | _=>false
  | _=>false
def uV (ops:List Oper):Nat→Nat→Bool
 | 0,_=>true
 | d+1,t=>ops.any fun o=>o.dst == some t && match o.op with
  | .indexAddr ..=>true
  | .fieldAddr _ (.tmp a) _ | .nilCheck (.tmp a) | .move (.tmp a)=>uV ops d a
  | _=>false
def sN (R:List Nat) (ops:List Oper):Nat→Nat→Bool
 | 0,_=>false
 | d+1,t=>R.contains t || ops.any fun o=>o.dst == some t && match o.op with
  | .fieldAddr _ (.tmp a) _ | .nilCheck (.tmp a) | .move (.tmp a)=>sN R ops d a
  | _=>false
def place (H:Hints) (R:List Nat) (ops:List Oper) (k:Nat):List LOper→Nat × List LOper
 | []=>(k,[])
 | o::r =>
  let n:=eC (freshOf H) o.op
  let wh:Where:=match cK o.op with
   | some (.t a)=>if VM H ops a then .new else match o.op with
    | .append ..=>.own
    | .load .. | .store ..=>if uV ops 20 a then .old else if sN R ops 20 a then .row else if sN ((R.filter fun t=>decide (1000000≤t)).map fun t=>t-1000000) ops 20 a then .old else .var
    | _=>.old
   | _=>.any
  let o' : LOper:={ o with slot:=if n=0 then none else some k,wh:=wh }
  match place H R ops (k+n) r with
  | (m,l)=>(m,o'::l)
def noGoto:Code→Bool
 | .seq a b=>noGoto a && noGoto b
 | .cond _ a b=>noGoto a && noGoto b
 | .block _ a=>noGoto a
 | .loop a=>noGoto a
 | .rangeFunc _ _ a b=>noGoto a && noGoto b
 | .scope a=>noGoto a
 | .goto _=>false
 | _=>true
def qq (H:Hints) (fid:Nat):List Nat:=(H.rowTmp.filter fun p=>p.1 == fid).map (·.2)
def aM (P:Program) (H:Hints) (fid:Nat):Code→LCode
 | .skip=>.skip
 | .label _=>.skip
 | .ret=>.ret
 | .exit id=>.exit id
 | .seq a b=>.seq (aM P H fid a) (aM P H fid b)
 | .cond c a b=>match aE c with
  | some x=>.cond x (aM P H fid a) (aM P H fid b)
  | none=>.bad 1
 | .block id a=>.block id (aM P H fid a)
 | .loop a=>.loop (!H.noGc.contains (fid,dv a)) (aM P H fid a)
 | .region _ ops draw =>
  if !jN ops.toList then .bad 7 else
  if draw then
   let l:=place H (qq H fid) ops.toList 0 (ops.toList.map (eA P H fid false ops.toList))
   let q:=place H (qq H fid) ops.toList 0 (ops.toList.map (eA P H fid true ops.toList))
   if eD H ops l.2 then .draw l.1 l.2 else if eD H ops q.2 then .draw q.1 q.2 else .bad 6
  else .region (ops.toList.map (eA P H fid false ops.toList))
 | .rangeFunc g ps a b=>match aE g with
  | some x=>.rangeFn x ps.toList (aM P H fid a) (aM P H fid b)
  | none=>.bad 2
 | .scope a=>if noGoto a then aM P H fid a else .bad 3
 | .goto _=>.bad 4
 | .refuse _=>.bad 5
def ij (P:Program):List ResultVar→Option (List LRes)
 | []=>some []
 | .tmp t::r=>match ij P r with
  | some l=>some (.tmp t::l)
  | none=>none
 | .cell a t::r=>match bX P t,ij P r with
  | some z,some l=>some (.cell a z::l)
  | _,_=>none
def lP (H:Hints) (f:Nat):FMode :=
 if H.shared.contains f then (if H.live.contains f then .live else .shared) else match lookupPrim f H.fresh with
  | some k=>.fresh k
  | none=>.pure
def cFunc (P:Program) (H:Hints) (f:Nat):Option LFunc :=
 match lookupPrim f H.prims with
 | some g=>some (.prim g)
 | none=>match lookupPrim f H.fprims with
 | some (k,g)=>some (.fprim k g)
 | none=>match P.funcs[f]? with
  | some fn=>match fn.body,ij P fn.results.toList with
   | some c,some rs=>if fn.name == "runtime.NumGoroutine" then none else some (.code (lP H f) fn.ntmps rs (aM P H f c))
   | _,_=>none
  | none=>none
end LM
namespace LM
open Go Go.RowKit
structure Fz where
 cell:Nat→Nat→Option Value
 map:Nat→Option (Array MapEntry)
structure Fz.le (F F' : Fz):Prop where
 cell:∀ b o v,F.cell b o=some v→F'.cell b o=some v
 map:∀ b m,F.map b=some m→F'.map b=some m
theorem Fz.le_refl (F:Fz):F.le F:=⟨fun _ _ _ h=>h,fun _ _ h=>h⟩
theorem Fz.le_trans {A B C:Fz} (h:A.le B) (k:B.le C):A.le C:=⟨fun b o v x=>k.cell b o v (h.cell b o v x),fun b m x=>k.map b m (h.map b m x)⟩
def isCell (v:Value):Prop:=v.oneCell'=true
inductive CRel (F:Fz):CV→Value→Prop
 | bool (b:Bool):CRel F (.bool b) (.bool b)
 | int (k:IntKind) (n:Int):CRel F (.int k n) (.int k n)
 | str (s:ByteArray):CRel F (.str s.data.toList) (.string s)
 | nilptr:CRel F .nilptr (.pointer none)
 | ptr (cells:List CV) (off b o:Nat) (u:Nat→Value) (h1:∀ (i:Nat) (x:CV),cells[i]? = some x→F.cell b (o+i)=some (u i))
   (h2:∀ (i:Nat) (x:CV),cells[i]? = some x→CRel F x (u i)) (h3:∀ (i:Nat) (x:CV),cells[i]? = some x→isCell (u i)):CRel F (.ptr cells off) (.pointer (some ⟨b,o+off,none⟩))
 | sliceE (a:Option Addr) (cap:Nat):CRel F (.slice []) (.slice a 0 cap)
 | slice (xs:List CV) (b o cap sz:Nat) (u:Nat→Nat→Value) (hl:xs.length≤cap) (hs:∀ (i:Nat) (x:CV),xs[i]? = some x→x.cells.length=sz)
   (h1:∀ (i:Nat) (x:CV) (j:Nat) (y:CV),xs[i]? = some x→x.cells[j]? = some y→F.cell b (o+i*sz+j)=some (u i j))
   (h2:∀ (i:Nat) (x:CV) (j:Nat) (y:CV),xs[i]? = some x→x.cells[j]? = some y→CRel F y (u i j))
   (h3:∀ (i:Nat) (x:CV) (j:Nat) (y:CV),xs[i]? = some x→x.cells[j]? = some y→isCell (u i j)):CRel F (.slice xs) (.slice (some ⟨b,o,none⟩) xs.length cap)
 | mapNil:CRel F (.map [] []) (.map none)
 | map (ks vs:List CV) (r:Nat) (es:Array MapEntry) (hr:F.map r=some es) (hk:es.size=ks.length) (hv:vs.length=ks.length) (e:Nat→MapEntry)
   (he:∀ i:Nat,i<ks.length→es[i]? = some (e i))
   (h1:∀ (i:Nat) (x:CV),ks[i]? = some x→CRel F x (e i).key) (h2:∀ (i:Nat) (x:CV),vs[i]? = some x→CRel F x (e i).val):CRel F (.map ks vs) (.map (some r))
 | func (f:Nat) (a b:List CV) (a' b' : Array Value) (u v:Nat→Value) (ha:a'.size=a.length) (hb:b'.size=b.length)
   (h1:∀ (i:Nat) (x:CV),a[i]? = some x→a'[i]? = some (u i)) (h2:∀ (i:Nat) (x:CV),b[i]? = some x→b'[i]? = some (v i))
   (h3:∀ (i:Nat) (x:CV),a[i]? = some x→CRel F x (u i)) (h4:∀ (i:Nat) (x:CV),b[i]? = some x→CRel F x (v i)):CRel F (.func f a b) (.func (.func f) a' b')
 | nilfunc:CRel F .nilfunc .nilFunc
 | agg (cs:List CV) (cs' : Array Value) (u:Nat→Value) (hl:cs'.size=cs.length) (h1:∀ (i:Nat) (x:CV),cs[i]? = some x→cs'[i]? = some (u i))
   (h2:∀ (i:Nat) (x:CV),cs[i]? = some x→CRel F x (u i)) (h3:∀ (i:Nat) (x:CV),cs[i]? = some x→isCell (u i)):CRel F (.agg cs) (.agg cs')
 | tuple (cs:List CV) (cs' : Array Value) (u:Nat→Value) (hl:cs'.size=cs.length) (h1:∀ (i:Nat) (x:CV),cs[i]? = some x→cs'[i]? = some (u i))
   (h2:∀ (i:Nat) (x:CV),cs[i]? = some x→CRel F x (u i)):CRel F (.tuple cs) (.tuple cs')
theorem CRel.mono {F F' : Fz} (hF:F.le F') {x:CV} {u:Value} (h:CRel F x u):CRel F' x u:=by
 induction h with
 | bool b=>exact .bool b
 | int k n=>exact .int k n
 | str s=>exact .str s
 | nilptr=>exact .nilptr
 | ptr cells off b o u h1 h2 h3 ih=>exact .ptr cells off b o u (fun i x h=>hF.cell _ _ _ (h1 i x h)) ih h3
 | sliceE a cap=>exact .sliceE a cap
 | slice xs b o cap sz u hl hs h1 h2 h3 ih=>exact .slice xs b o cap sz u hl hs (fun i x j y h k=>hF.cell _ _ _ (h1 i x j y h k)) ih h3
 | mapNil=>exact .mapNil
 | map ks vs r es hr hk hv e he h1 h2 i1 i2=>exact .map ks vs r es (hF.map _ _ hr) hk hv e he i1 i2
 | func f a b a' b' u v ha hb h1 h2 h3 h4 i1 i2=>exact .func f a b a' b' u v ha hb h1 h2 i1 i2
 | nilfunc=>exact .nilfunc
 | agg cs cs' u hl h1 h2 h3 ih=>exact .agg cs cs' u hl h1 ih h3
 | tuple cs cs' u hl h1 h2 ih=>exact .tuple cs cs' u hl h1 ih
theorem CRel.cell_of_flat {F:Fz} {x:CV} {u:Value} (h:CRel F x u) (hf:x.flat=true):isCell u:=by
 cases h<;>first | rfl | (simp[CV.flat] at hf)
theorem CRel.flat_of_cell {F:Fz} {x:CV} {u:Value} (h:CRel F x u) (hf:isCell u):x.flat=true:=by
 cases h<;>first | rfl | (exact absurd hf (by simp[isCell,Value.oneCell']))
structure Info where
 gen:Nat
 virt:Bool
 fix:Bool
 cb:Nat
 base:Nat
 size:Nat
abbrev JMap:=List (Option Info)
def JLe (J J' : JMap):Prop:=∀ (b:Nat) (i:Info),J[b]? = some (some i)→∃ i' : Info,J'[b]? = some (some i')∧i.gen≤i'.gen∧(i'.gen=i.gen→i'=i)∧(i.fix=true→i'=i)
theorem JLe.refl (J:JMap):JLe J J:=fun _ i h=>⟨i,h,Nat.le_refl _,fun _=>rfl,fun _=>rfl⟩
theorem JLe.trans {A B C:JMap} (h:JLe A B) (k:JLe B C):JLe A C:=by
 intro b i hb
 obtain⟨i1,h1,g1,e1,f1⟩:=h b i hb
 obtain⟨i2,h2,g2,e2,f2⟩:=k b i1 h1
 refine⟨i2,h2,Nat.le_trans g1 g2,fun e=>?_,fun e=>?_⟩
 ·have e' : i1.gen=i.gen:=by omega
  have e3:i2=i1:=e2 (by omega)
  rw[e3,e1 e']
 ·have e1:=f1 e
  subst e1
  exact f2 e
def PtrOk (J:JMap) (b g off:Nat) (u:Value):Prop :=
 ∃ (i:Info) (ad:Addr),J[b]? = some (some i)∧g≤i.gen∧u=.pointer (some ad)∧(g=i.gen→i.virt=false∧ad=⟨i.cb,i.base+off,none⟩)
def SlOk (J:JMap) (b g off len:Nat) (esz:Option Nat) (cap:Option Nat) (u:Value):Prop :=
 ∃ (i:Info) (ad:Option Addr) (c:Nat),J[b]? = some (some i)∧g≤i.gen∧u=.slice ad len c∧len≤c∧(ad=none→c=0)∧(∀ k,cap=some k→c=k) ∧
  (g=i.gen→(i.virt=true→c=0∧off=0)∧(i.virt=false→ad=some ⟨i.cb,i.base+off,none⟩∧i.base+off+c*ae esz≤i.size))
def MapOk (J:JMap) (b:Nat) (u:Value):Prop:=∃ i:Info,J[b]? = some (some i)∧i.fix=true∧i.virt=false∧u=.map (some i.cb)
theorem PtrOk.mono {J J' : JMap} (h:JLe J J') {b g off:Nat} {u:Value}:PtrOk J b g off u→PtrOk J' b g off u:=by
 rintro⟨i,ad,hi,hg,hc,hu⟩
 obtain⟨i',hi',g',e',_⟩:=h b i hi
 refine⟨i',ad,hi',Nat.le_trans hg g',hc,fun e=>?_⟩
 have:i'=i:=e' (by omega)
 subst this
 exact hu e
theorem SlOk.mono {J J' : JMap} (h:JLe J J') {b g off len:Nat} {esz cap:Option Nat} {u:Value}:SlOk J b g off len esz cap u→SlOk J' b g off len esz cap u:=by
 rintro⟨i,ad,c,hi,hg,hu,hl,hn,hc,hx⟩
 obtain⟨i',hi',g',e',_⟩:=h b i hi
 refine⟨i',ad,c,hi',Nat.le_trans hg g',hu,hl,hn,hc,fun e=>?_⟩
 have:i'=i:=e' (by omega)
 subst this
 exact hx e
theorem MapOk.mono {J J' : JMap} (h:JLe J J') {b:Nat} {u:Value}:MapOk J b u→MapOk J' b u:=by
 rintro⟨i,hi,hf,hv,hu⟩
 obtain⟨i',hi',_,_,e'⟩:=h b i hi
 have:=e' hf
 subst this
 exact⟨i',hi',hf,hv,hu⟩
inductive VRel (F:Fz) (J:JMap):LV→Value→Prop
 | c (x:CV) (u:Value) (h:CRel F x u):VRel F J (.c x) u
 | nil:VRel F J .nil (.slice none 0 0)
 | emp (a:Option Addr):VRel F J .emp (.slice a 0 0)
 | ptr (b g off:Nat) (u:Value) (h:PtrOk J b g off u):VRel F J (.ptr b g off) u
 | slice (b g off len:Nat) (esz cap:Option Nat) (u:Value) (h:SlOk J b g off len esz cap u):VRel F J (.slice b g off len esz cap) u
 | map (b:Nat) (u:Value) (h:MapOk J b u):VRel F J (.map b) u
 | func (f:Nat) (a b:List LV) (a' b' : Array Value) (u v:Nat→Value) (ha:a'.size=a.length) (hb:b'.size=b.length)
   (h1:∀ (i:Nat) (x:LV),a[i]? = some x→a'[i]? = some (u i)) (h2:∀ (i:Nat) (x:LV),b[i]? = some x→b'[i]? = some (v i))
   (h3:∀ (i:Nat) (x:LV),a[i]? = some x→VRel F J x (u i)) (h4:∀ (i:Nat) (x:LV),b[i]? = some x→VRel F J x (v i)):VRel F J (.func f a b) (.func (.func f) a' b')
 | agg (cs:List LV) (cs' : Array Value) (u:Nat→Value) (hl:cs'.size=cs.length) (h1:∀ (i:Nat) (x:LV),cs[i]? = some x→cs'[i]? = some (u i))
   (h2:∀ (i:Nat) (x:LV),cs[i]? = some x→VRel F J x (u i)) (h3:∀ (i:Nat) (x:LV),cs[i]? = some x→isCell (u i)):VRel F J (.agg cs) (.agg cs')
 | tuple (cs:List LV) (cs' : Array Value) (u:Nat→Value) (hl:cs'.size=cs.length) (h1:∀ (i:Nat) (x:LV),cs[i]? = some x→cs'[i]? = some (u i))
   (h2:∀ (i:Nat) (x:LV),cs[i]? = some x→VRel F J x (u i)):VRel F J (.tuple cs) (.tuple cs')
 | undef (u:Value):VRel F J .undef u
theorem VRel.mono {F F' : Fz} {J J' : JMap} (hF:F.le F') (hJ:JLe J J') {x:LV} {u:Value} (h:VRel F J x u):VRel F' J' x u:=by
 induction h with
 | c x u h=>exact .c x u (h.mono hF)
 | nil=>exact .nil
 | emp a=>exact .emp a
 | ptr b g off u h=>exact .ptr b g off u (h.mono hJ)
 | slice b g off len esz cap u h=>exact .slice b g off len esz cap u (h.mono hJ)
 | map b u h=>exact .map b u (h.mono hJ)
 | func f a b a' b' u v ha hb h1 h2 h3 h4 i1 i2=>exact .func f a b a' b' u v ha hb h1 h2 i1 i2
 | agg cs cs' u hl h1 h2 h3 ih=>exact .agg cs cs' u hl h1 ih h3
 | tuple cs cs' u hl h1 h2 ih=>exact .tuple cs cs' u hl h1 ih
 | undef u=>exact .undef u
def BRel (F:Fz) (J:JMap) (i:Info) (w:World):LB→Prop
 | .cells g cs fz=>g=i.gen∧i.fix=false∧(i.virt=true→cs=[])∧(i.virt=false →
   ∃ (arr:Array Value) (el:TypeId),w.heap[i.cb]? = some (.cells arr el (0,0))∧arr.size=i.size∧i.base+cs.length≤i.size ∧
    (∀ (k:Nat) (x:LV),cs[k]? = some x→∃ u,arr[i.base+k]? = some u∧VRel F J x u∧isCell u)∧(∀ o,i.base+fz≤o→F.cell i.cb o=none))
 | .map ks vs fz=>i.fix=true∧i.virt=false∧∃ (es:Array MapEntry) (clk:Nat),w.heap[i.cb]? = some (.map es clk)∧es.size=ks.length∧vs.length=ks.length ∧
   (∀ (k:Nat) (x:CV),ks[k]? = some x→∃ e,es[k]? = some e∧CRel F x e.key)∧(∀ (k:Nat) (x:LV),vs[k]? = some x→∃ e,es[k]? = some e∧VRel F J x e.val) ∧
   (fz=false→F.map i.cb=none)
 | .iter s pos=>i.fix=true∧i.virt=false∧i.gen=0∧i.base=0∧∃ b:ByteArray,b.data.toList=s∧w.heap[i.cb]? = some (.stringIter b pos)
 | .dead=>False
structure FzOk (F:Fz) (w:World):Prop where
 cell:∀ b o v,F.cell b o=some v→w.cell? ⟨b,o,none⟩=some v
 map:∀ r es,F.map r=some es→∃ clk,w.heap[r]? = some (.map es clk)
structure HRel (F:Fz) (J:JMap) (h:List LB) (w:World):Prop where
 len:h.length=J.length
 live:∀ (b:Nat) (blk:LB),h[b]? = some blk→blk≠.dead→∃ i:Info,J[b]? = some (some i)∧BRel F J i w blk
 dead:∀ b:Nat,h[b]? = some .dead→J[b]? = some none
 inj:∀ (b b' : Nat) (i i' : Info),J[b]? = some (some i)→J[b']? = some (some i')→i.virt=false→i'.virt=false→i.cb=i'.cb→b=b'
 bound:∀ (b:Nat) (i:Info),J[b]? = some (some i)→i.virt=false→i.cb<w.heap.size
 fz:FzOk F w
structure TRel (DS:List Deferred) (F:Fz) (J:JMap) (ts:List LV) (a:Act):Prop where
 defers:a.defers=DS
 size:a.tmps.size=ts.length
 rel:∀ (t:Nat) (x:LV),ts[t]? = some x→∃ u,a.tmps[t]? = some u∧VRel F J x u
structure Ext (F:Fz) (J:JMap) (w:World) (F' : Fz) (J' : JMap) (w' : World):Prop where
 fle:F.le F'
 jle:JLe J J'
 os:w'.os=w.os
 tape:w'.tape=w.tape
 output:w'.output=w.output
 size:w.heap.size≤w'.heap.size
 blk:∀ cb,cb<w.heap.size→(∀ (b:Nat) (i:Info),J[b]? = some (some i)→i.virt=false→i.cb≠cb) →
  w'.heap[cb]? = w.heap[cb]?∧(∀ o,F'.cell cb o=F.cell cb o)∧F'.map cb=F.map cb
 own:∀ (b:Nat) (i:Info),J'[b]? = some (some i)→i.virt=false→i.cb<w.heap.size→∃ (b' : Nat) (i' : Info),J[b']? = some (some i')∧i'.virt=false∧i'.cb=i.cb
theorem Ext.refl (F:Fz) (J:JMap) (w:World):Ext F J w F J w :=
 ⟨F.le_refl,.refl J,rfl,rfl,rfl,Nat.le_refl _,fun _ _ _=>⟨rfl,fun _=>rfl,rfl⟩,fun b i h v _=>⟨b,i,h,v,rfl⟩⟩
theorem Ext.trans {F F1 F2:Fz} {J J1 J2:JMap} {w w1 w2:World} (h:Ext F J w F1 J1 w1) (k:Ext F1 J1 w1 F2 J2 w2):Ext F J w F2 J2 w2:=by
 refine⟨Fz.le_trans h.fle k.fle,.trans h.jle k.jle,k.os.trans h.os,k.tape.trans h.tape,k.output.trans h.output,Nat.le_trans h.size k.size,?_,?_⟩
 ·intro cb hcb hne
  obtain⟨a1,a2,a3⟩:=h.blk cb hcb hne
  have hne' : ∀ (b:Nat) (i:Info),J1[b]? = some (some i)→i.virt=false→i.cb≠cb:=by
   intro b i hi hv e
   obtain⟨b',i',hi',hv',e'⟩:=h.own b i hi hv (e ▸ hcb)
   exact hne b' i' hi' hv' (e'.trans e)
  obtain⟨b1,b2,b3⟩:=k.blk cb (Nat.lt_of_lt_of_le hcb h.size) hne'
  exact⟨b1.trans a1,fun o=>(b2 o).trans (a2 o),b3.trans a3⟩
 ·intro b i hi hv hcb
  obtain⟨b1,i1,hi1,hv1,e1⟩:=k.own b i hi hv (Nat.lt_of_lt_of_le hcb h.size)
  obtain⟨b2,i2,hi2,hv2,e2⟩:=h.own b1 i1 hi1 hv1 (e1 ▸ hcb)
  exact⟨b2,i2,hi2,hv2,e2.trans e1⟩
theorem TRel.mono {DS:List Deferred} {F F' : Fz} {J J' : JMap} {ts:List LV} {a:Act} (hF:F.le F') (hJ:JLe J J') (h:TRel DS F J ts a):TRel DS F' J' ts a :=
 ⟨h.defers,h.size,fun t x hx=>let ⟨u,hu,hr⟩:=h.rel t x hx; ⟨u,hu,hr.mono hF hJ⟩⟩
theorem TRel.put {DS:List Deferred} {F:Fz} {J:JMap} {ts:List LV} {a:Act} (h:TRel DS F J ts a) (dst:Option Nat) {v:LV} {u:Value} (hv:VRel F J v u) :
  TRel DS F J (put ts dst v) (a.put dst u):=by
 cases dst with
 | none=>exact h
 | some d =>
  refine⟨h.defers,by simp[Act.put,LM.put,h.size],fun t x hx=>?_⟩
  simp only[LM.put,List.getElem?_set] at hx
  simp only[Act.put,Array.getElem?_setIfInBounds]
  by_cases e:d=t
  ·subst e
   rw[if_pos rfl] at hx
   split at hx
   ·rename_i hlt
    injection hx with hx
    subst hx
    exact⟨u,by rw[if_pos rfl,if_pos (by rw[h.size]; exact hlt)],hv⟩
   ·cases hx
  ·rw[if_neg e] at hx
   obtain⟨u',hu',hr⟩:=h.rel t x hx
   exact⟨u',by rw[if_neg e]; exact hu',hr⟩
theorem TRel.ev {DS:List Deferred} {F:Fz} {J:JMap} {ts:List LV} {a:Act} (h:TRel DS F J ts a) (t:Nat):VRel F J (ts.getD t .undef) (a.tmps.getD t undef):=by
 cases hx:ts[t]? with
 | none=>rw[List.getD_eq_getElem?_getD,hx]; exact .undef _
 | some x =>
  obtain⟨u,hu,hr⟩:=h.rel t x hx
  rw[List.getD_eq_getElem?_getD,hx,Array.getD_eq_getD_getElem?,hu]
  exact hr
theorem pQ {F:Fz} {J:JMap} {v:Value} {x:LV} (h:ng v=some x):VRel F J x v:=by
 unfold ng at h
 split at h<;>first | cases h | skip
 ·exact .c _ _ (.bool _)
 ·exact .c _ _ (.int _ _)
 ·exact .c _ _ (.str _)
 ·exact .c _ _ .nilptr
 ·exact .nil
 ·exact .c _ _ .mapNil
 ·exact .c _ _ .nilfunc
theorem an {DS:List Deferred} {F:Fz} {J:JMap} {ts:List LV} {a:Act} (h:TRel DS F J ts a) {x:Operand} {y:LO} (hx:aE x=some y):VRel F J (LM.ev ts y) (a.eval x):=by
 cases x with
 | tmp t=>simp only[aE,Option.some.injEq] at hx; subst hx; exact h.ev t
 | const v =>
  simp only[aE,Option.map_eq_some_iff] at hx
  obtain⟨z,hz,rfl⟩:=hx
  exact pQ hz
 | global g=>simp[aE] at hx
 | func f =>
  simp only[aE,Option.some.injEq] at hx
  subst hx
  exact .c _ _ (.func f [] [] #[] #[] (fun _=>undef) (fun _=>undef) rfl rfl (by simp) (by simp) (by simp) (by simp))
end LM
namespace LM
open Go Go.RowKit
def Good (F:Fz) (J:JMap) (w:World) (h' : Heap) (v:LV) (r:Result Value):Prop :=
 ∃ u w' F' J',r=.ok u w'∧VRel F' J' v u∧HRel F' J' h' w'∧Ext F J w F' J' w'
theorem Good.same {F:Fz} {J:JMap} {w:World} {h:Heap} {v:LV} {r:Result Value} {u:Value} (hH:HRel F J h w) (hv:VRel F J v u) (hr:r=.ok u w):Good F J w h v r :=
 ⟨u,w,F,J,hr,hv,hH,.refl F J w⟩
theorem CRel.str' {F:Fz} {l:List UInt8} {s:ByteArray} (h:s.data.toList=l):CRel F (.str l) (.string s):=h ▸ .str s
section
variable {P:Program} {F:Fz} {w:World}
theorem BU {op:BinOp} {t:TypeId} {x y:Operand} {k k' : IntKind} {a b:Int}:(eqGuard op t x y (.int k a) (.int k' b)).run P w=.ok () w:=by
 unfold eqGuard; cases op<;>rfl
theorem BF {op:BinOp} {t:TypeId} {x y:Operand} {a b:ByteArray}:(eqGuard op t x y (.string a) (.string b)).run P w=.ok () w:=by
 unfold eqGuard; cases op<;>rfl
theorem Ap {op:BinOp} {t:TypeId} {x y:Operand} {a b:Bool}:(eqGuard op t x y (.bool a) (.bool b)).run P w=.ok () w:=by
 unfold eqGuard; cases op<;>rfl
theorem qL {t:TypeId} {a b:Bool} (ht:P.underlying t=some .bool):(Op.equal t (.bool a) (.bool b)).run P w=.ok (a == b) w:=by
 have h:∀ d,(Op.equalIn (d+1) t (.bool a) (.bool b)).run P w=.ok (a == b) w:=fun d=>by
  simp only[Op.equalIn,Sem.run_bind,run_underlying ht,Result.andThen_ok,Sem.run_pure]
 exact h 9999
theorem Gz {op:BinOp} {t:TypeId} {k:IntKind} {a b:Int} {v:CV} (hop:¬ (op=.shl∨op=.shr)) (h:qc op k a b=some v) :
  ∃ u,(binOp op t (.int k a) (.int k b)).run P w=.ok u w∧CRel F v u:=by
 cases op<;>simp only[qc,Option.some.injEq,reduceCtorEq] at h<;>first
  | (exact absurd (Or.inl rfl) hop)
  | (exact absurd (Or.inr rfl) hop)
  | (subst h; exact⟨.int _ _,by simp only[binOp,ne_eq,not_true,if_false]; rfl,.int _ _⟩)
  | (subst h; exact⟨.bool _,by simp only[binOp,ne_eq,not_true,if_false]; rfl,.bool _⟩)
  | skip
 all_goals
  split at h
  ·cases h
  ·rename_i hb
   simp only[Option.some.injEq] at h
   subst h
   exact⟨.int _ _,by simp only[binOp,ne_eq,not_true,if_false,Op.intDiv]; rw[if_neg hb]; rfl,.int _ _⟩
theorem z9 {op:BinOp} {t:TypeId} {k k' : IntKind} {a b:Int} {v:CV} (h:pK op k a b=some v) :
  ∃ u,(binOp op t (.int k a) (.int k' b)).run P w=.ok u w∧CRel F v u:=by
 unfold pK at h
 split at h
 ·cases h
 ·rename_i hb
  cases op<;>simp only[Option.some.injEq,reduceCtorEq] at h
  ·subst h
   exact⟨.int _ _,by simp only[binOp,Op.shift]; rw[if_neg hb]; rfl,.int _ _⟩
  ·subst h
   exact⟨.int _ _,by simp only[binOp,Op.shift]; rw[if_neg hb]; rfl,.int _ _⟩
theorem GP {op:BinOp} {t:TypeId} {a b:ByteArray} {v:CV} (h:rj op a.data.toList b.data.toList=some v) :
  ∃ u,(binOp op t (.string a) (.string b)).run P w=.ok u w∧CRel F v u:=by
 have ea:a.toList=a.data.toList:=ByteArray.toList_eq a
 have eb:b.toList=b.data.toList:=ByteArray.toList_eq b
 cases op<;>simp only[rj,Option.some.injEq,reduceCtorEq] at h<;>first
  | (subst h; exact⟨.bool _,by simp only[binOp,Op.stringOp,ea,eb]; rfl,.bool _⟩)
  | skip
 ·split at h
  ·cases h
  ·rename_i hle
   simp only[Option.some.injEq] at h
   subst h
   refine⟨.string (a++b),?_,.str' (by simp)⟩
   have:¬ ((a.size+b.size:Nat):Int) > IntKind.i64.max:=by
    simpa[IntKind.max,IntKind.signed,IntKind.bits] using hle
   simp only[binOp,Op.stringOp]
   rw[if_neg this]
   rfl
theorem Mc {op:BinOp} {t:TypeId} {x y:CV} {a b:Value} {v:CV} {px py:Operand} (hx:CRel F x a) (hy:CRel F y b) (h:Gn op x y=some v) :
  ∃ u,(do eqGuard op t px py a b; binOp op t a b:Sem Value).run P w=.ok u w∧CRel F v u:=by
 unfold Gn at h
 split at h
 ·rename_i k a0 k' b0
  cases hx; cases hy
  simp only[Sem.run_bind,BU,Result.andThen_ok]
  split at h
  ·exact z9 h
  ·split at h
   ·rename_i hop hk
    subst hk
    exact Gz hop h
   ·cases h
 ·rename_i a0 b0
  cases hx with
  | str sa=>cases hy with
   | str sb =>
    simp only[Sem.run_bind,BF,Result.andThen_ok]
    exact GP h
 ·cases h
theorem xE {op:BinOp} {t:TypeId} {x y:CV} {a b:Value} {v:CV} {px py:Operand} (ht:P.underlying t=some .bool)
  (hx:CRel F x a) (hy:CRel F y b) (h:lV op x y=some v) :
  ∃ u,(do eqGuard op t px py a b; binOp op t a b:Sem Value).run P w=.ok u w∧CRel F v u:=by
 unfold lV at h
 split at h
 ·rename_i a0 b0
  cases hx; cases hy
  simp only[Sem.run_bind,Ap,Result.andThen_ok]
  split at h
  ·simp only[Option.some.injEq] at h
   subst h
   exact⟨.bool _,by simp only[binOp,Sem.run_bind,qL ht,Result.andThen_ok]; rfl,.bool _⟩
  ·simp only[Option.some.injEq] at h
   subst h
   exact⟨.bool _,by simp only[binOp,Sem.run_bind,qL ht,Result.andThen_ok]; rfl,.bool _⟩
  ·cases h
 ·cases h
end
end LM
namespace LM
open Go Go.RowKit
def CL (F:Fz) (cs:List CV) (us:List Value):Prop:=us.length=cs.length∧∀ (i:Nat) (x:CV),cs[i]? = some x→∃ u,us[i]? = some u∧CRel F x u∧isCell u
def VL (F:Fz) (J:JMap) (cs:List LV) (us:List Value):Prop:=us.length=cs.length∧∀ (i:Nat) (x:LV),cs[i]? = some x→∃ u,us[i]? = some u∧VRel F J x u∧isCell u
section
variable {F F' : Fz} {J J' : JMap}
theorem VL.mono (hF:F.le F') (hJ:JLe J J') {cs:List LV} {us:List Value} (h:VL F J cs us):VL F' J' cs us :=
 ⟨h.1,fun i x hx=>let ⟨u,hu,hr,hc⟩:=h.2 i x hx; ⟨u,hu,hr.mono hF hJ,hc⟩⟩
theorem VL.nil:VL F J [] []:=⟨rfl,by simp⟩
theorem VL.cons {x:LV} {u:Value} {cs:List LV} {us:List Value} (hx:VRel F J x u) (hc:isCell u) (h:VL F J cs us):VL F J (x::cs) (u::us):=by
 refine⟨by simp[h.1],fun i y hy=>?_⟩
 cases i with
 | zero=>simp only[List.getElem?_cons_zero,Option.some.injEq] at hy; subst hy; exact⟨u,rfl,hx,hc⟩
 | succ i=>exact h.2 i y (by simpa using hy)
theorem VL.drop {cs:List LV} {us:List Value} (h:VL F J cs us) (n:Nat):VL F J (cs.drop n) (us.drop n) :=
 ⟨by simp[h.1],fun i x hx=>by simpa[List.getElem?_drop] using h.2 (n+i) x (by simpa[List.getElem?_drop] using hx)⟩
theorem VL.take {cs:List LV} {us:List Value} (h:VL F J cs us) (n:Nat):VL F J (cs.take n) (us.take n):=by
 refine⟨by simp[h.1],fun i x hx=>?_⟩
 rw[List.getElem?_take] at hx
 split at hx
 ·rename_i hi
  obtain⟨u,hu,hr⟩:=h.2 i x hx
  exact⟨u,by rw[List.getElem?_take,if_pos hi]; exact hu,hr⟩
 ·cases hx
theorem VL.append {cs cs' : List LV} {us us' : List Value} (h:VL F J cs us) (h' : VL F J cs' us'):VL F J (cs++cs') (us++us'):=by
 refine⟨by simp[h.1,h'.1],fun i x hx=>?_⟩
 by_cases hi:i<cs.length
 ·rw[List.getElem?_append_left hi] at hx
  obtain⟨u,hu,hr⟩:=h.2 i x hx
  exact⟨u,by rw[List.getElem?_append_left (by rw[h.1]; exact hi)]; exact hu,hr⟩
 ·rw[List.getElem?_append_right (by omega)] at hx
  obtain⟨u,hu,hr⟩:=h'.2 _ x hx
  exact⟨u,by rw[List.getElem?_append_right (by rw[h.1]; omega),h.1]; exact hu,hr⟩
theorem VL.set {cs:List LV} {us:List Value} (h:VL F J cs us) (n:Nat) {x:LV} {u:Value} (hx:VRel F J x u) (hc:isCell u):VL F J (cs.set n x) (us.set n u):=by
 refine⟨by simp[h.1],fun i y hy=>?_⟩
 rw[List.getElem?_set] at hy ⊢
 by_cases e:n=i
 ·subst e
  rw[if_pos rfl] at hy ⊢
  split at hy
  ·rename_i hl
   simp only[Option.some.injEq] at hy
   subst hy
   exact⟨u,by rw[if_pos (by rw[h.1]; exact hl)],hx,hc⟩
  ·cases hy
 ·rw[if_neg e] at hy ⊢
  exact h.2 i y hy
theorem VL.flatten:∀ (n:Nat) {cs:List LV} {us:List Value},VL F J cs us→VL F J (aP n cs) (aP n us)
 | 0,_,_,_=>by simpa[aP] using VL.nil
 | n+1,cs,us,h=>by
  have:=h.append (VL.flatten n h)
  simpa[aP,List.replicate_succ] using this
theorem lH:∀ {cs:List LV} {l:List CV},eW cs=some l→cs=l.map .c
 | [],l,h=>by simp only[eW,Option.some.injEq] at h; subst h; rfl
 | x::cs,l,h=>by
  cases x with
  | c v =>
   simp only[eW] at h
   split at h
   ·rename_i l' hl'
    simp only[Option.some.injEq] at h
    subst h
    simp[← lH hl']
   ·cases h
  | _=>simp[eW] at h
theorem VRel.of_c {x:CV} {u:Value} (h:VRel F J (.c x) u):CRel F x u:=by cases h; assumption
theorem CL.toVL {cs:List CV} {us:List Value} (h:CL F cs us):VL F J (cs.map .c) us:=by
 refine⟨by simp[h.1],fun i x hx=>?_⟩
 simp only[List.getElem?_map,Option.map_eq_some_iff] at hx
 obtain⟨y,hy,rfl⟩:=hx
 obtain⟨u,hu,hr,hc⟩:=h.2 i y hy
 exact⟨u,hu,.c _ _ hr,hc⟩
theorem VL.toCL {cs:List CV} {us:List Value} (h:VL F J (cs.map .c) us):CL F cs us:=by
 refine⟨by simpa using h.1,fun i x hx=>?_⟩
 obtain⟨u,hu,hr,hc⟩:=h.2 i (.c x) (by simp[hx])
 exact⟨u,hu,hr.of_c,hc⟩
theorem CL.drop {cs:List CV} {us:List Value} (h:CL F cs us) (n:Nat):CL F (cs.drop n) (us.drop n) :=
 ⟨by simp[h.1],fun i x hx=>by simpa[List.getElem?_drop] using h.2 (n+i) x (by simpa[List.getElem?_drop] using hx)⟩
theorem CL.take {cs:List CV} {us:List Value} (h:CL F cs us) (n:Nat):CL F (cs.take n) (us.take n):=by
 have:=(h.toVL (J:=[])).take n
 rw[← List.map_take] at this
 exact this.toCL
theorem CL.agg {cs:List CV} {us:List Value} (h:CL F cs us):CRel F (.agg cs) (.agg us.toArray):=by
 refine .agg cs us.toArray (fun i=>us.getD i undef) (by simp[h.1]) (fun i x hx=>?_) (fun i x hx=>?_) (fun i x hx=>?_) <;>
  obtain⟨u,hu,hr,hc⟩:=h.2 i x hx
 ·simp[hu]
 ·simpa[List.getD_eq_getElem?_getD,hu] using hr
 ·simpa[List.getD_eq_getElem?_getD,hu] using hc
theorem CRel.agg_inv {cs:List CV} {u:Value} (h:CRel F (.agg cs) u):∃ us:List Value,u=.agg us.toArray∧CL F cs us:=by
 cases h with
 | agg _ cs' v hl h1 h2 h3 =>
  refine⟨cs'.toList,by simp,by simp[hl],fun i x hx=>⟨v i,by simpa using h1 i x hx,h2 i x hx,h3 i x hx⟩⟩
theorem VL.agg {cs:List LV} {us:List Value} (h:VL F J cs us):VRel F J (.agg cs) (.agg us.toArray):=by
 refine .agg cs us.toArray (fun i=>us.getD i undef) (by simp[h.1]) (fun i x hx=>?_) (fun i x hx=>?_) (fun i x hx=>?_) <;>
  obtain⟨u,hu,hr,hc⟩:=h.2 i x hx
 ·simp[hu]
 ·simpa[List.getD_eq_getElem?_getD,hu] using hr
 ·simpa[List.getD_eq_getElem?_getD,hu] using hc
theorem VRel.agg_inv {cs:List LV} {u:Value} (h:VRel F J (.agg cs) u):∃ us:List Value,u=.agg us.toArray∧VL F J cs us:=by
 cases h with
 | agg _ cs' v hl h1 h2 h3 =>
  refine⟨cs'.toList,by simp,by simp[hl],fun i x hx=>⟨v i,by simpa using h1 i x hx,h2 i x hx,h3 i x hx⟩⟩
theorem VL.mkAgg {cs:List LV} {us:List Value} (h:VL F J cs us):VRel F J (mkAgg cs) (.agg us.toArray):=by
 unfold LM.mkAgg
 split
 ·rename_i l hl
  rw[lH hl] at h
  exact .c _ _ h.toCL.agg
 ·exact h.agg
theorem isCell.cells {u:Value} (h:isCell u):u.cells=#[u]:=by
 cases u<;>first | rfl | (simp[isCell,Value.oneCell'] at h)
theorem VRel.cell_of_flat {x:LV} {u:Value} (h:VRel F J x u) (hf:x.flat=true):isCell u:=by
 cases h with
 | c x u h=>exact h.cell_of_flat hf
 | ptr b g off u h=>obtain⟨i,ad,_,_,rfl,_⟩:=h; rfl
 | slice b g off len esz cap u h=>obtain⟨i,ad,c,_,_,rfl,_⟩:=h; rfl
 | map b u h=>obtain⟨i,_,_,_,rfl⟩:=h; rfl
 | nil=>rfl
 | emp=>rfl
 | func=>rfl
 | _=>simp[LV.flat] at hf
theorem VRel.cells {x:LV} {u:Value} (h:VRel F J x u) (hf:aT x.cells=true):VL F J x.cells u.cells.toList:=by
 have one:∀ {y:LV},y.cells=[y]→VRel F J y u→aT y.cells=true→VL F J y.cells u.cells.toList:=by
  intro y hy hr hfl
  rw[hy] at hfl ⊢
  simp only[aT,Bool.and_true] at hfl
  have hc:=hr.cell_of_flat hfl
  rw[hc.cells]
  exact VL.nil.cons hr hc
 cases h with
 | c x u h =>
  cases x with
  | agg cs =>
   obtain⟨us,rfl,hl⟩:=h.agg_inv
   simpa[LV.cells,CV.cells,Value.cells] using hl.toVL (J:=J)
  | _=>exact one rfl (.c _ _ h) hf
 | agg cs cs' v hl h1 h2 h3 =>
  obtain⟨us,e,hv⟩:=VRel.agg_inv (F:=F) (J:=J) (.agg cs cs' v hl h1 h2 h3)
  injection e with e
  subst e
  simpa[LV.cells,Value.cells] using hv
 | nil=>exact one rfl .nil hf
 | emp a=>exact one rfl (.emp a) hf
 | ptr b g off u h=>exact one rfl (.ptr _ _ _ _ h) hf
 | slice b g off len esz cap u h=>exact one rfl (.slice _ _ _ _ _ _ _ h) hf
 | map b u h=>exact one rfl (.map _ _ h) hf
 | func f a b a' b' u v ha hb h1 h2 h3 h4=>exact one rfl (.func f a b a' b' u v ha hb h1 h2 h3 h4) hf
 | tuple cs cs' u hl h1 h2=>exact one rfl (.tuple cs cs' u hl h1 h2) hf
 | undef u=>simp[LV.cells,aT,LV.flat] at hf
def c7 (n:Option Nat) (us:List Value):Option Value :=
 match n with
 | none=>us.head?
 | some k=>if k≤us.length then some (.agg (us.take k).toArray) else none
theorem iG {n:Option Nat} {cs:List LV} {us:List Value} {v:LV} (h:VL F J cs us) (hv:fC n cs=some v) :
  ∃ u,c7 n us=some u∧VRel F J v u:=by
 cases n with
 | none =>
  cases cs with
  | nil=>simp[fC] at hv
  | cons x r =>
   simp only[fC,List.head?_cons,Option.some.injEq] at hv
   subst hv
   obtain⟨u,hu,hr,_⟩:=h.2 0 x rfl
   exact⟨u,by simpa[c7,List.head?_eq_getElem?] using hu,hr⟩
 | some k =>
  simp only[fC] at hv
  split at hv
  ·rename_i hk
   simp only[Option.some.injEq] at hv
   subst hv
   exact⟨_,by simp only[c7]; rw[if_pos (by rw[h.1]; exact hk)],(h.take k).mkAgg⟩
  ·cases hv
theorem gK {n:Option Nat} {cs:List CV} {us:List Value} {v:CV} (h:CL F cs us) (hv:bO n cs=some v) :
  ∃ u,c7 n us=some u∧CRel F v u:=by
 cases n with
 | none =>
  cases cs with
  | nil=>simp[bO] at hv
  | cons x r =>
   simp only[bO,List.head?_cons,Option.some.injEq] at hv
   subst hv
   obtain⟨u,hu,hr,_⟩:=h.2 0 x rfl
   exact⟨u,by simpa[c7,List.head?_eq_getElem?] using hu,hr⟩
 | some k =>
  simp only[bO] at hv
  split at hv
  ·rename_i hk
   simp only[Option.some.injEq] at hv
   subst hv
   exact⟨_,by simp only[c7]; rw[if_pos (by rw[h.1]; exact hk)],(h.take k).agg⟩
  ·cases hv
theorem VL.cellsOk {cs:List LV} {us:List Value} (h:VL F J cs us):∀ u ∈ us,u.oneCell'=true:=by
 intro u hu
 obtain⟨i,hi,rfl⟩:=List.getElem_of_mem hu
 have hl:i<cs.length:=by rw[← h.1]; exact hi
 obtain⟨v,hv,_,hc⟩:=h.2 i cs[i] (List.getElem?_eq_getElem hl)
 rw[List.getElem?_eq_getElem hi] at hv
 injection hv with hv
 subst hv
 exact hc
theorem eU:∀ (vs cs:List LV) (off:Nat),(setCells cs off vs).length=cs.length
 | [],cs,off=>rfl
 | v::r,cs,off=>by simp[setCells,eU r]
def bB (us:List Value) (off:Nat):List Value→List Value
 | []=>us
 | v::r=>bB (us.set off v) (off+1) r
theorem VL.setCells:∀ {vs:List LV} {ws:List Value} {cs:List LV} {us:List Value} (off:Nat),VL F J vs ws→VL F J cs us→VL F J (setCells cs off vs) (bB us off ws)
 | [],[],cs,us,off,_,h=>h
 | [],w::ws,cs,us,off,hv,h=>by simp[VL] at hv
 | v::vs,[],cs,us,off,hv,h=>by simp[VL] at hv
 | v::vs,w::ws,cs,us,off,hv,h=>by
  obtain⟨u0,hu0,hr0,hc0⟩:=hv.2 0 v rfl
  simp only[List.getElem?_cons_zero,Option.some.injEq] at hu0
  subst hu0
  have hv' : VL F J vs ws:=by simpa using hv.drop 1
  exact VL.setCells (off+1) hv' (h.set off hr0 hc0)
theorem qS:∀ (ws us:List Value) (off:Nat),off+ws.length≤us.length→bB us off ws=us.take off++ws++us.drop (off+ws.length)
 | [],us,off,_=>by simp[bB]
 | w::ws,us,off,h=>by
  simp only[List.length_cons] at h
  rw[bB,qS ws (us.set off w) (off+1) (by simp; omega)]
  have:=list_seg_step us off w ws (by omega)
  rw[this]
  simp
end
end LM
namespace LM
open Go Go.RowKit
variable {DS:List Deferred}
def acK (P:Program) (a:Act) (o:Oper) (w:World) (u:Value) (w' : World):Prop :=
 (execOp a.eval o).run P w=.ok (.value u) w'∨((execOp a.eval o).run P w=.ok .skip w'∧u=undef)
def aG (P:Program) (F:Fz) (J:JMap) (a:Act) (w:World) (o:Oper) (h' : Heap) (v:LV):Prop :=
 ∃ u w' F' J',acK P a o w u w'∧VRel F' J' v u∧HRel F' J' h' w'∧Ext F J w F' J' w'
theorem bY {x:Operand} {f:LO→LOp} {l:LOp} (h:o1 x f=some l):∃ y,aE x=some y∧f y=l:=by
 simpa[o1,Option.map_eq_some_iff] using h
theorem cG {x y:Operand} {f:LO→LO→LOp} {l:LOp} (h:o2 x y f=some l):∃ a b,aE x=some a∧aE y=some b∧f a b=l:=by
 unfold o2 at h
 split at h
 ·rename_i a b ha hb
  simp only[Option.some.injEq] at h
  exact⟨a,b,ha,hb,h⟩
 ·cases h
theorem lF {x y z:Operand} {f:LO→LO→LO→LOp} {l:LOp} (h:o3 x y z f=some l):∃ a b c,aE x=some a∧aE y=some b∧aE z=some c∧f a b c=l:=by
 unfold o3 at h
 split at h
 ·rename_i a b c ha hb hc
  simp only[Option.some.injEq] at h
  exact⟨a,b,c,ha,hb,hc,h⟩
 ·cases h
section
variable {P:Program} {F:Fz} {J:JMap} {a:Act} {w:World} {o:Oper} {ts:List LV} {h h' : Heap} {v:LV} {pos:Option Nat}
theorem Good.op {s:Sem Value} (he:execOp a.eval o=(do pure (.value (← s)))) (hg:Good F J w h' v (s.run P w)):aG P F J a w o h' v:=by
 obtain⟨u,w',F',J',hr,hv,hH,hE⟩:=hg
 refine⟨u,w',F',J',.inl ?_,hv,hH,hE⟩
 rw[he,Sem.run_bind,hr]
 rfl
theorem Good.skip {s:Sem Unit} {w' : World} {F' : Fz} {J' : JMap} (he:execOp a.eval o=(do s; pure .skip)) (hr:s.run P w=.ok () w') (hH:HRel F' J' h' w') (hE:Ext F J w F' J' w') :
  aG P F J a w o h' .undef:=by
 refine⟨undef,w',F',J',.inr ⟨?_,rfl⟩,.undef _,hH,hE⟩
 rw[he,Sem.run_bind,hr]
 rfl
theorem Good.val {u:Value} (he:execOp a.eval o=pure (.value u)) (hH:HRel F J h w) (hv:VRel F J v u):aG P F J a w o h v :=
 ⟨u,w,F,J,.inl (by rw[he]; rfl),hv,hH,.refl F J w⟩
theorem aI {x:LV} {h1:Heap} (hs:ok x h1=some (v,h')):v=x∧h'=h1:=by
 simp only[ok,Option.some.injEq,Prod.mk.injEq] at hs
 exact⟨hs.1.symm,hs.2.symm⟩
theorem aQ {x:CV} {h1:Heap} (hs:okC x h1=some (v,h')):v=.c x∧h'=h1:=by
 simp only[okC,Option.some.injEq,Prod.mk.injEq] at hs
 exact⟨hs.1.symm,hs.2.symm⟩
theorem M5 {x:Operand} {y:LO} (hop:o.op=.move x∨o.op=.assign x) (hx:aE x=some y) (hT:TRel DS F J ts a) (hH:HRel F J h w) (hs:ab pos ts h (.move y)=some (v,h')) :
  aG P F J a w o h' v:=by
 obtain⟨rfl,rfl⟩:=aI hs
 exact Good.val (by rcases hop with e | e<;>simp only[execOp,e]) hH (an hT hx)
theorem VRel.bool_inv {b:Bool} {u:Value} (h:VRel F J (.c (.bool b)) u):u=.bool b:=by cases h.of_c; rfl
theorem VRel.int_inv {k:IntKind} {n:Int} {u:Value} (h:VRel F J (.c (.int k n)) u):u=.int k n:=by cases h.of_c; rfl
theorem Nb {x1 x2 x3:Operand} {y1 y2 y3:LO} (hop:o.op=.pick x1 x2 x3) (h1:aE x1=some y1) (h2:aE x2=some y2) (h3:aE x3=some y3) (hT:TRel DS F J ts a) (hH:HRel F J h w)
  (hs:ab pos ts h (.pick y1 y2 y3)=some (v,h')):aG P F J a w o h' v:=by
 simp only[ab] at hs
 split at hs
 ·rename_i t ht
  obtain⟨rfl,rfl⟩:=aI hs
  have e1:=an hT h1
  rw[ht] at e1
  have e1:=e1.bool_inv
  have e2:=an hT h2
  have e3:=an hT h3
  refine⟨if t then a.eval x2 else a.eval x3,w,F,J,.inl ?_,?_,hH,.refl F J w⟩
  ·simp only[execOp,hop,e1,asBool,Sem.run_bind,Sem.run_pure,Result.andThen_ok]
  ·cases t
   ·exact e3
   ·exact e2
 ·cases hs
theorem Dj {op:BinOp} {t yt:TypeId} {x y:Operand} {y1 y2:LO} (hop:o.op=.binOp op t x y yt) (h1:aE x=some y1) (h2:aE y=some y2)
  (hT:TRel DS F J ts a) (hH:HRel F J h w) (hs:ab pos ts h (.bin op y1 y2)=some (v,h')):aG P F J a w o h' v:=by
 simp only[ab] at hs
 split at hs
 ·rename_i c1 c2 hc1 hc2
  split at hs
  ·rename_i r hr
   obtain⟨rfl,rfl⟩:=aQ hs
   have e1:=an hT h1
   have e2:=an hT h2
   rw[hc1] at e1
   rw[hc2] at e2
   obtain⟨u,hu,hrel⟩:=Mc (P:=P) (w:=w) (px:=x) (py:=y) (t:=t) e1.of_c e2.of_c hr
   exact Good.op (by simp only[execOp,hop]) (.same hH (.c _ _ hrel) hu)
  ·cases hs
 ·cases hs
theorem BQ {op:BinOp} {t yt:TypeId} {x y:Operand} {y1 y2:LO} (hop:o.op=.binOp op t x y yt) (h1:aE x=some y1) (h2:aE y=some y2)
  (ht:P.underlying t=some .bool) (hT:TRel DS F J ts a) (hH:HRel F J h w) (hs:ab pos ts h (.binBool op y1 y2)=some (v,h')):aG P F J a w o h' v:=by
 simp only[ab] at hs
 split at hs
 ·rename_i c1 c2 hc1 hc2
  split at hs
  ·rename_i r hr
   obtain⟨rfl,rfl⟩:=aQ hs
   have e1:=an hT h1
   have e2:=an hT h2
   rw[hc1] at e1
   rw[hc2] at e2
   obtain⟨u,hu,hrel⟩:=xE (P:=P) (w:=w) (px:=x) (py:=y) (t:=t) ht e1.of_c e2.of_c hr
   exact Good.op (by simp only[execOp,hop]) (.same hH (.c _ _ hrel) hu)
  ·cases hs
 ·cases hs
theorem P1 {t:TypeId} {x:Operand} {y:LO} (hop:o.op=.unOp .not t x) (h1:aE x=some y) (hT:TRel DS F J ts a) (hH:HRel F J h w)
  (hs:ab pos ts h (.not y)=some (v,h')):aG P F J a w o h' v:=by
 simp only[ab] at hs
 split at hs
 ·rename_i b hb
  obtain⟨rfl,rfl⟩:=aQ hs
  have e1:=an hT h1
  rw[hb] at e1
  exact Good.op (s:=Op.unary .not (a.eval x)) (by simp only[execOp,hop]) (.same hH (.c _ _ (.bool _)) (by rw[e1.bool_inv]; rfl))
 ·cases hs
theorem Rh {t:TypeId} {x:Operand} {y:LO} (hop:o.op=.unOp .neg t x) (h1:aE x=some y) (hT:TRel DS F J ts a) (hH:HRel F J h w)
  (hs:ab pos ts h (.neg y)=some (v,h')):aG P F J a w o h' v:=by
 simp only[ab] at hs
 split at hs
 ·rename_i k n hb
  obtain⟨rfl,rfl⟩:=aQ hs
  have e1:=an hT h1
  rw[hb] at e1
  exact Good.op (s:=Op.unary .neg (a.eval x)) (by simp only[execOp,hop]) (.same hH (.c _ _ (.int _ _)) (by rw[e1.int_inv]; rfl))
 ·cases hs
theorem OA {src dst:TypeId} {x:Operand} {y:LO} {k k' : IntKind} (hop:o.op=.convert src dst x) (h1:aE x=some y) (hsrc:P.underlying src=some (.int k')) (hdst:P.underlying dst=some (.int k))
  (hT:TRel DS F J ts a) (hH:HRel F J h w) (hs:ab pos ts h (.conv k y)=some (v,h')):aG P F J a w o h' v:=by
 simp only[ab] at hs
 split at hs
 ·rename_i k2 n hb
  obtain⟨rfl,rfl⟩:=aQ hs
  have e1:=an hT h1
  rw[hb] at e1
  refine Good.op (s:=convert src dst (a.eval x)) (by simp only[execOp,hop]) (.same hH (.c _ _ (.int _ _)) ?_)
  rw[e1.int_inv]
  simp only[convert,Sem.run_bind,run_underlying hsrc,run_underlying hdst,Result.andThen_ok,Conv.intToInt,Sem.run_pure]
 ·cases hs
theorem Cb {src dst:TypeId} {x:Operand} {y:LO} (hop:o.op=.convert src dst x) (h1:aE x=some y) (hsrc:P.underlying src=some .string) (hdst:P.underlying dst=some .string)
  (hT:TRel DS F J ts a) (hH:HRel F J h w) (hs:ab pos ts h (.convStr y)=some (v,h')):aG P F J a w o h' v:=by
 simp only[ab] at hs
 split at hs
 ·rename_i s hs'
  obtain⟨rfl,rfl⟩:=aQ hs
  have e1:=an hT h1
  rw[hs'] at e1
  have e3:=e1.of_c
  refine Good.op (s:=convert src dst (a.eval x)) (by simp only[execOp,hop]) (.same hH e1 ?_)
  generalize a.eval x=z at *
  cases e3
  simp only[convert,Sem.run_bind,run_underlying hsrc,run_underlying hdst,Result.andThen_ok,Sem.run_pure]
 ·cases hs
theorem qB {t:TypeId} {b:Bool} (h:jX P t=some b):(isAgg t).run P w=.ok b w:=by
 unfold jX at h
 cases hd:P.underlying t with
 | none=>rw[hd] at h; cases h
 | some d =>
  rw[hd] at h
  simp only[isAgg,Sem.run_bind,run_underlying hd,Result.andThen_ok]
  cases d<;>simp_all
theorem b8 {t:TypeId} {n:Nat} (h:dh P t=some n):(Go.sizeOf t).run P w=.ok n w:=by
 unfold dh at h
 simp only[Option.map_eq_some_iff] at h
 obtain⟨i,hi,rfl⟩:=h
 simp only[Go.sizeOf,typeInfo,Sem.run_bind,run_program,Result.andThen_ok,hi,Sem.run_pure]
theorem cm {t:TypeId} {z:Option Nat} (h:bX P t=some z):jX P t=some z.isSome∧dh P t=some (ae z):=by
 unfold bX at h
 split at h
 ·rename_i n h1 h2
  simp only[Option.some.injEq] at h
  subst h
  exact⟨h1,h2⟩
 ·rename_i h1 h2
  simp only[Option.some.injEq] at h
  subst h
  exact⟨h1,h2⟩
 ·cases h
theorem pP {t:TypeId} {z:Option Nat} (hz:bX P t=some z) {us:List Value} {off:Nat} {u:Value} (hu:c7 z (us.drop off)=some u):(part t us.toArray off).run P w=.ok u w:=by
 obtain⟨h1,h2⟩:=cm hz
 simp only[part,Sem.run_bind,qB h1,Result.andThen_ok]
 cases z with
 | none =>
  simp only[c7] at hu
  have:us[off]? = some u:=by rw[← hu,List.head?_drop]
  simp[this]
 | some n =>
  simp only[c7] at hu
  split at hu
  ·simp only[Option.some.injEq] at hu
   subst hu
   simp only[Option.isSome_some,if_true,Sem.run_bind,b8 h2,Result.andThen_ok,Sem.run_pure,ae]
   congr 2
   rw[List.extract_toArray,List.extract_eq_drop_take]
   simp
  ·cases hu
theorem bK (b o n:Nat):(⟨b,o,none⟩ : Addr).add n=⟨b,o+n,none⟩:=by
 unfold Addr.add; split<;>simp_all
theorem oD {t:TypeId} {z:Option Nat} (hz:bX P t=some z) {us:List Value} {b off:Nat} {u:Value} (hu:c7 z us=some u)
  (hc:∀ (j:Nat) (x:Value),us[j]? = some x→w.cell? ⟨b,off+j,none⟩=some x):(loadVar t ⟨b,off,none⟩).run P w=.ok u w:=by
 obtain⟨h1,h2⟩:=cm hz
 simp only[loadVar,Sem.run_bind,qB h1,Result.andThen_ok]
 cases z with
 | none =>
  simp only[c7,List.head?_eq_getElem?] at hu
  have:=hc 0 u hu
  simp only[Nat.add_zero] at this
  simp[this]
 | some n =>
  simp only[c7] at hu
  split at hu
  ·rename_i hn
   simp only[Option.some.injEq] at hu
   subst hu
   simp only[Option.isSome_some,if_true,Sem.run_bind,b8 h2,Result.andThen_ok,ae]
   have hl:(us.take n).length=n:=by simp; omega
   have:=run_loadCells_list (P:=P) w ⟨b,off,none⟩ (us.take n) (fun j x hx=>by
    rw[bK]
    apply hc
    rw[List.getElem?_take] at hx
    split at hx
    ·exact hx
    ·cases hx)
   rw[hl] at this
   simp only[this,Result.andThen_ok,Sem.run_pure]
  ·cases hu
end
end LM
namespace LM
open Go Go.RowKit
variable {DS:List Deferred}
section
variable {P:Program} {F:Fz} {J:JMap} {a:Act} {w:World} {o:Oper} {ts:List LV} {h h' : Heap} {v:LV} {pos:Option Nat}
theorem CRel.tuple_inv {vs:List CV} {u:Value} (h:CRel F (.tuple vs) u):∃ us:Array Value,u=.tuple us∧us.size=vs.length∧∀ (i:Nat) (x:CV),vs[i]? = some x→∃ y,us[i]? = some y∧CRel F x y:=by
 cases h with
 | tuple _ cs' f hl h1 h2=>exact⟨cs',rfl,hl,fun i x hx=>⟨f i,h1 i x hx,h2 i x hx⟩⟩
theorem VRel.tuple_inv {vs:List LV} {u:Value} (h:VRel F J (.tuple vs) u):∃ us:Array Value,u=.tuple us∧us.size=vs.length∧∀ (i:Nat) (x:LV),vs[i]? = some x→∃ y,us[i]? = some y∧VRel F J x y:=by
 cases h with
 | tuple _ cs' f hl h1 h2=>exact⟨cs',rfl,hl,fun i x hx=>⟨f i,h1 i x hx,h2 i x hx⟩⟩
theorem B8 {x:Operand} {y:LO} {i:Nat} (hop:o.op=.extract x i) (h1:aE x=some y) (hT:TRel DS F J ts a) (hH:HRel F J h w)
  (hs:ab pos ts h (.extract y i)=some (v,h')):aG P F J a w o h' v:=by
 have e1:=an hT h1
 simp only[ab] at hs
 split at hs
 ·rename_i vs hvs
  rw[hvs] at e1
  split at hs
  ·rename_i c hc
   obtain⟨rfl,rfl⟩:=aQ hs
   obtain⟨us,hu,_,hr⟩:=e1.of_c.tuple_inv
   obtain⟨z,hz,hzr⟩:=hr i c hc
   exact Good.op (s:=Instr.extract (a.eval x) i) (by simp only[execOp,hop]) (.same hH (.c _ _ hzr) (by rw[hu]; simp only[Instr.extract,hz]; rfl))
  ·cases hs
 ·rename_i vs hvs
  rw[hvs] at e1
  split at hs
  ·rename_i c hc
   obtain⟨rfl,rfl⟩:=aI hs
   obtain⟨us,hu,_,hr⟩:=e1.tuple_inv
   obtain⟨z,hz,hzr⟩:=hr i v hc
   exact Good.op (s:=Instr.extract (a.eval x) i) (by simp only[execOp,hop]) (.same hH hzr (by rw[hu]; simp only[Instr.extract,hz]; rfl))
  ·cases hs
 ·cases hs
theorem LL {t:TypeId} {x:Operand} {y:LO} {i:Nat} {fs:Array Field} {fd:Field} {z:Option Nat} (hop:o.op=.field t x i) (h1:aE x=some y) (ht:P.underlying t=some (.struct fs)) (hf:fs[i]? = some fd)
  (hz:bX P fd.type=some z) (hT:TRel DS F J ts a) (hH:HRel F J h w) (hs:ab pos ts h (.field fd.offset z y)=some (v,h')):aG P F J a w o h' v:=by
 have e1:=an hT h1
 simp only[ab] at hs
 have main:∀ (us:List Value) (u:Value),a.eval x=.agg us.toArray→c7 z (us.drop fd.offset)=some u→VRel F J v u→h'=h→aG P F J a w o h' v:=by
  intro us u hu hv hr hh
  subst hh
  refine Good.op (s:=Instr.field t (a.eval x) i) (by simp only[execOp,hop]) (.same hH hr ?_)
  simp only[Instr.field,Sem.run_bind,run_underlying ht,Result.andThen_ok,hf,hu,asAgg,Sem.run_pure]
  exact pP hz hv
 split at hs
 ·rename_i cs hcs
  rw[hcs] at e1
  obtain⟨us,hu,hl⟩:=e1.of_c.agg_inv
  split at hs
  ·rename_i c hc
   obtain⟨rfl,rfl⟩:=aQ hs
   obtain⟨u,hu',hr⟩:=gK (hl.drop _) hc
   exact main us u hu hu' (.c _ _ hr) rfl
  ·cases hs
 ·rename_i cs hcs
  rw[hcs] at e1
  obtain⟨us,hu,hl⟩:=e1.agg_inv
  split at hs
  ·rename_i c hc
   obtain⟨rfl,rfl⟩:=aI hs
   obtain⟨u,hu',hr⟩:=iG (hl.drop _) hc
   exact main us u hu hu' hr rfl
  ·cases hs
 ·cases hs
theorem zl {t e:TypeId} {x xi:Operand} {y yi:LO} {n:Nat} {z:Option Nat} (hop:o.op=.index t x xi) (h1:aE x=some y) (h2:aE xi=some yi) (ht:P.underlying t=some (.array n e))
  (hz:bX P e=some z) (hT:TRel DS F J ts a) (hH:HRel F J h w) (hs:ab pos ts h (.indexArr n z y yi)=some (v,h')):aG P F J a w o h' v:=by
 have e1:=an hT h1
 have e2:=an hT h2
 simp only[ab] at hs
 have main:∀ (us:List Value) (u:Value) (k:IntKind) (j:Int),a.eval x=.agg us.toArray→a.eval xi=.int k j→(0≤j∧j<n)→c7 z (us.drop (j.toNat*ae z))=some u→VRel F J v u→h'=h→aG P F J a w o h' v:=by
  intro us u k j hu hi hj hv hr hh
  subst hh
  refine Good.op (s:=Instr.index t (a.eval x) (a.eval xi)) (by simp only[execOp,hop]) (.same hH hr ?_)
  simp only[Instr.index,hi,asIntOf,Sem.run_bind,Sem.run_pure,run_underlying ht,Result.andThen_ok,hu]
  rw[if_pos hj]
  simp only[Sem.run_bind,b8 (cm hz).2,Result.andThen_ok]
  exact pP hz hv
 split at hs
 ·rename_i cs k j hcs hj
  rw[hcs] at e1
  rw[hj] at e2
  obtain⟨us,hu,hl⟩:=e1.of_c.agg_inv
  split at hs
  ·rename_i hb
   split at hs
   ·rename_i c hc
    obtain⟨rfl,rfl⟩:=aQ hs
    obtain⟨u,hu',hr⟩:=gK (hl.drop _) hc
    exact main us u k j hu e2.int_inv hb hu' (.c _ _ hr) rfl
   ·cases hs
  ·cases hs
 ·rename_i cs k j hcs hj
  rw[hcs] at e1
  rw[hj] at e2
  obtain⟨us,hu,hl⟩:=e1.agg_inv
  split at hs
  ·rename_i hb
   split at hs
   ·rename_i c hc
    obtain⟨rfl,rfl⟩:=aI hs
    obtain⟨u,hu',hr⟩:=iG (hl.drop _) hc
    exact main us u k j hu e2.int_inv hb hu' hr rfl
   ·cases hs
  ·cases hs
 ·cases hs
theorem CRel.str_inv {s:List UInt8} {u:Value} (h:CRel F (.str s) u):∃ b:ByteArray,u=.string b∧b.data.toList=s:=by
 cases h with
 | str b=>exact⟨b,rfl,rfl⟩
theorem yy {t:TypeId} {x xi:Operand} {y yi:LO} (hop:o.op=.index t x xi) (h1:aE x=some y) (h2:aE xi=some yi) (ht:P.underlying t=some .string)
  (hT:TRel DS F J ts a) (hH:HRel F J h w) (hs:ab pos ts h (.indexStr y yi)=some (v,h')):aG P F J a w o h' v:=by
 have e1:=an hT h1
 have e2:=an hT h2
 simp only[ab] at hs
 split at hs
 ·rename_i s k j hcs hj
  rw[hcs] at e1
  rw[hj] at e2
  obtain⟨b,hb,rfl⟩:=e1.of_c.str_inv
  split at hs
  ·rename_i h0
   split at hs
   ·rename_i c hc
    obtain⟨rfl,rfl⟩:=aQ hs
    refine Good.op (s:=Instr.index t (a.eval x) (a.eval xi)) (by simp only[execOp,hop]) (.same hH (.c _ _ (.int .u8 c.toNat)) ?_)
    have hg:b[j.toNat]? = some c:=by
     have:b.data[j.toNat]? = some c:=by simpa using hc
     have hlt:=(Array.getElem?_eq_some_iff.1 this).1
     have hv:=(Array.getElem?_eq_some_iff.1 this).2
     have hlt' : j.toNat<b.size:=hlt
     rw[getElem?_pos b j.toNat hlt']
     exact congrArg some hv
    simp only[Instr.index,e2.int_inv,asIntOf,Sem.run_bind,Sem.run_pure,run_underlying ht,Result.andThen_ok,hb]
    rw[if_pos h0,hg]
    rfl
   ·cases hs
  ·cases hs
 ·cases hs
theorem CRel.ptr_inv {cells:List CV} {off:Nat} {u:Value} (h:CRel F (.ptr cells off) u) :
  ∃ (b c:Nat) (us:List Value),u=.pointer (some ⟨b,c+off,none⟩)∧CL F cells us∧∀ (i:Nat) (x:Value),us[i]? = some x→F.cell b (c+i)=some x:=by
 cases h with
 | ptr _ _ b c f h1 h2 h3 =>
  refine⟨b,c,(List.range cells.length).map f,rfl,⟨by simp,fun i x hx=>?_⟩,fun i x hx=>?_⟩
  ·have hi:i<cells.length:=(List.getElem?_eq_some_iff.1 hx).1
   exact⟨f i,by simp[hi],h2 i x hx,h3 i x hx⟩
  ·have hi:i<cells.length:=by
    have:=(List.getElem?_eq_some_iff.1 hx).1
    simpa using this
   simp only[List.getElem?_map,List.getElem?_range hi,Option.map_some,Option.some.injEq] at hx
   subst hx
   exact h1 i cells[i] (List.getElem?_eq_getElem hi)
theorem CRel.mkPtr {cells:List CV} {off b c:Nat} {us:List Value} (hl:CL F cells us) (hc:∀ (i:Nat) (x:Value),us[i]? = some x→F.cell b (c+i)=some x):CRel F (.ptr cells off) (.pointer (some ⟨b,c+off,none⟩)):=by
 refine .ptr cells off b c (fun i=>us.getD i undef) (fun i x hx=>?_) (fun i x hx=>?_) (fun i x hx=>?_) <;>
  obtain⟨u,hu,hr,hcell⟩:=hl.2 i x hx
 ·rw[hc i u hu,List.getD_eq_getElem?_getD,hu]; rfl
 ·simpa[List.getD_eq_getElem?_getD,hu] using hr
 ·simpa[List.getD_eq_getElem?_getD,hu] using hcell
theorem GR {x:CV} (h:x.flat=true):x.cells=[x]:=by cases x<;>first | rfl | (simp[CV.flat] at h)
theorem CRel.slice_inv {xs:List CV} {u:Value} (h:CRel F (.slice xs) u) :
  ∃ (ad:Option Addr) (cap:Nat),u=.slice ad xs.length cap∧xs.length≤cap∧(0<xs.length→∃ b c sz,ad=some ⟨b,c,none⟩ ∧
   ∀ (i:Nat) (x:CV),xs[i]? = some x→x.cells.length=sz∧∃ us:List Value,CL F x.cells us∧∀ (j:Nat) (y:Value),us[j]? = some y→F.cell b (c+i*sz+j)=some y):=by
 cases h with
 | sliceE a cap=>exact⟨a,cap,rfl,Nat.zero_le _,fun h=>by simp at h⟩
 | slice _ b c cap sz f hl hs h1 h2 h3 =>
  refine⟨_,cap,rfl,hl,fun _=>⟨b,c,sz,rfl,fun i x hx=>⟨hs i x hx,(List.range x.cells.length).map (f i),⟨by simp,fun j y hy=>?_⟩,fun j y hy=>?_⟩⟩⟩
  ·have hj:j<x.cells.length:=(List.getElem?_eq_some_iff.1 hy).1
   exact⟨f i j,by simp[hj],h2 i x j y hx hy,h3 i x j y hx hy⟩
  ·have hj:j<x.cells.length:=by
    have:=(List.getElem?_eq_some_iff.1 hy).1
    simpa using this
   simp only[List.getElem?_map,List.getElem?_range hj,Option.map_some,Option.some.injEq] at hy
   subst hy
   exact h1 i x j x.cells[j] hx (List.getElem?_eq_getElem hj)
theorem xF {t e:TypeId} {x xi:Operand} {y yi:LO} {z:Option Nat} (hop:o.op=.indexAddr t x xi) (h1:aE x=some y) (h2:aE xi=some yi) (ht:P.underlying t=some (.slice e))
  (hz:bX P e=some z) (hT:TRel DS F J ts a) (hH:HRel F J h w) (hs:ab pos ts h (.idxSlice (ae z) y yi)=some (v,h')):aG P F J a w o h' v:=by
 have e1:=an hT h1
 have e2:=an hT h2
 simp only[ab] at hs
 have main:∀ (ad:Addr) (len cap:Nat) (k:IntKind) (j:Int),a.eval x=.slice (some ad) len cap→a.eval xi=.int k j→(0≤j∧j<len)→VRel F J v (.pointer (some (ad.add (j.toNat*ae z))))→h'=h→aG P F J a w o h' v:=by
  intro ad len cap k j hu hi hj hr hh
  subst hh
  refine Good.op (s:=Instr.indexAt t (a.eval x) (a.eval xi)) (by simp only[execOp,hop]) (.same hH hr ?_)
  simp only[Instr.indexAt,hi,asIntOf,Sem.run_bind,Sem.run_pure,run_underlying ht,Result.andThen_ok,hu]
  rw[if_pos hj]
  simp only[Sem.run_bind,b8 (cm hz).2,Result.andThen_ok,Sem.run_pure]
 split at hs
 ·rename_i xs k j hxs hj
  rw[hxs] at e1
  rw[hj] at e2
  obtain⟨ad,cap,hu,hl,hne⟩:=e1.of_c.slice_inv
  split at hs
  ·rename_i h0
   split at hs
   ·rename_i c hc
    split at hs
    ·rename_i hsz
     obtain⟨rfl,rfl⟩:=aQ hs
     have hlt:j.toNat<xs.length:=(List.getElem?_eq_some_iff.1 hc).1
     obtain⟨b,c0,sz,rfl,hx⟩:=hne (by omega)
     obtain⟨hcl,us,hus,hF⟩:=hx _ c hc
     refine main _ _ _ k j hu e2.int_inv ⟨h0,by omega⟩ ?_ rfl
     rw[bK,← hsz,hcl]
     exact .c _ _ (CRel.mkPtr (off:=0) hus hF)
    ·cases hs
   ·cases hs
  ·cases hs
 ·rename_i b g off len ez cp k j hxs hj
  rw[hxs] at e1
  rw[hj] at e2
  split at hs
  ·rename_i hb
   obtain⟨rfl,rfl⟩:=aI hs
   cases e1 with
   | slice _ _ _ _ _ _ _ hso =>
    obtain⟨i,ad,c,hi,hg,hu,hl,hn,hcap,hx⟩:=hso
    cases ad with
    | none=>have:=hn rfl; omega
    | some ad =>
     refine main ad len c k j hu e2.int_inv hb ?_ rfl
     refine .ptr _ _ _ _ ⟨i,_,hi,hg,rfl,fun e=>?_⟩
     cases hv:i.virt with
     | true=>have:=((hx e).1 hv).1; omega
     | false =>
      obtain⟨had,_⟩:=(hx e).2 hv
      injection had with had
      rw[had,bK]
      exact⟨rfl,by simp[Nat.add_assoc]⟩
  ·cases hs
 ·cases hs
theorem VRel.ptr_inv {b g off:Nat} {u:Value} (h:VRel F J (.ptr b g off) u):PtrOk J b g off u:=by cases h; assumption
theorem HRel.cellsAt (hH:HRel F J h w) {b g:Nat} {cs:List LV} {fz:Nat} (hb:h[b]? = some (.cells g cs fz)) :
  ∃ i:Info,J[b]? = some (some i)∧i.gen=g∧i.fix=false∧(i.virt=true→cs=[])∧(i.virt=false→∃ (arr:Array Value) (el:TypeId),w.heap[i.cb]? = some (.cells arr el (0,0))∧arr.size=i.size∧i.base+cs.length≤i.size ∧
    (∀ o,i.base+fz≤o→F.cell i.cb o=none)∧∃ us:List Value,VL F J cs us∧(∀ (k:Nat) (x:Value),us[k]? = some x→arr[i.base+k]? = some x)):=by
 obtain⟨i,hi,hg,hf,hv,hc⟩:=hH.live b _ hb (by simp)
 refine⟨i,hi,hg.symm,hf,hv,fun hv=>?_⟩
 obtain⟨arr,el,h1,h2,h3,h4,h5⟩:=hc hv
 refine⟨arr,el,h1,h2,h3,h5,(List.range cs.length).map (fun k=>arr.getD (i.base+k) undef),⟨by simp,fun k x hx=>?_⟩,fun k x hx=>?_⟩
 ·obtain⟨u,hu,hr,hcell⟩:=h4 k x hx
  have hk:k<cs.length:=(List.getElem?_eq_some_iff.1 hx).1
  refine⟨u,?_,hr,hcell⟩
  simp[hk,Array.getD_eq_getD_getElem?,hu]
 ·have hk:k<cs.length:=by simpa using (List.getElem?_eq_some_iff.1 hx).1
  simp only[List.getElem?_map,List.getElem?_range hk,Option.map_some,Option.some.injEq,Array.getD_eq_getD_getElem?] at hx
  obtain⟨u,hu,_⟩:=h4 k cs[k] (List.getElem?_eq_getElem hk)
  rw[hu] at hx ⊢
  simpa using hx
theorem dC {b o:Nat} {arr:Array Value} {el:TypeId} {fr:Nat × Nat} {x:Value} (hb:w.heap[b]? = some (.cells arr el fr)) (hx:arr[o]? = some x):w.cell? ⟨b,o,none⟩=some x:=by
 simp[World.cell?,hb,hx]
theorem Me {t:TypeId} {x:Operand} {y:LO} {z:Option Nat} (hop:o.op=.load t x) (h1:aE x=some y) (hz:bX P t=some z) (hT:TRel DS F J ts a) (hH:HRel F J h w)
  (hs:ab pos ts h (.load z y)=some (v,h')):aG P F J a w o h' v:=by
 have e1:=an hT h1
 simp only[ab] at hs
 have main:∀ (b c:Nat) (us:List Value) (u:Value),a.eval x=.pointer (some ⟨b,c,none⟩)→c7 z us=some u→(∀ (j:Nat) (y:Value),us[j]? = some y→w.cell? ⟨b,c+j,none⟩=some y)→VRel F J v u→h'=h→aG P F J a w o h' v:=by
  intro b c us u hu hv hc hr hh
  subst hh
  refine Good.op (s:=Instr.loadAt t (a.eval x)) (by simp only[execOp,hop]) (.same hH hr ?_)
  simp only[Instr.loadAt,hu,Instr.sureAddr,Sem.run_bind,Sem.run_pure,Result.andThen_ok]
  exact oD hz hv hc
 split at hs
 ·rename_i cells off hx
  rw[hx] at e1
  obtain⟨b,c,us,hu,hl,hF⟩:=e1.of_c.ptr_inv
  split at hs
  ·rename_i r hr
   obtain⟨rfl,rfl⟩:=aQ hs
   obtain⟨u,hu',hrel⟩:=gK (hl.drop _) hr
   refine main b (c+off) _ u hu hu' (fun j y hy=>?_) (.c _ _ hrel) rfl
   rw[List.getElem?_drop] at hy
   have:=hH.fz.cell _ _ _ (hF _ y hy)
   rwa [← Nat.add_assoc] at this
  ·cases hs
 ·rename_i b g off hx
  rw[hx] at e1
  split at hs
  ·rename_i g' cs fz hb
   split at hs
   ·rename_i hg
    subst hg
    split at hs
    ·rename_i r hr
     obtain⟨rfl,rfl⟩:=aI hs
     obtain⟨i,hi,hgen,_,_,hlive⟩:=hH.cellsAt hb
     obtain⟨i',ad,hi',_,hu0,hu⟩:=e1.ptr_inv
     rw[hi] at hi'
     simp only[Option.some.injEq] at hi'
     subst hi'
     obtain⟨hvirt,rfl⟩:=hu hgen.symm
     obtain⟨arr,el,ha,_,_,_,us,hl,hus⟩:=hlive hvirt
     obtain⟨u,hu',hrel⟩:=iG (hl.drop off) hr
     refine main i.cb (i.base+off) _ u hu0 hu' (fun j y hy=>?_) hrel rfl
     rw[List.getElem?_drop] at hy
     have:=dC ha (hus _ y hy)
     rwa [← Nat.add_assoc] at this
    ·cases hs
   ·cases hs
  ·cases hs
 ·cases hs
theorem vB {t:TypeId} {x:Operand} {y:LO} {i n:Nat} {fs:Array Field} {fd:Field} (hop:o.op=.fieldAddr t x i) (h1:aE x=some y) (ht:P.underlying t=some (.struct fs)) (hf:fs[i]? = some fd)
  (hn:dh P fd.type=some n) (hn0:n≠0) (hT:TRel DS F J ts a) (hH:HRel F J h w) (hs:ab pos ts h (.fieldAddr fd.offset y)=some (v,h')):aG P F J a w o h' v:=by
 have e1:=an hT h1
 simp only[ab] at hs
 have main:∀ (ad:Addr),a.eval x=.pointer (some ad)→VRel F J v (.pointer (some (ad.add fd.offset)))→h'=h→aG P F J a w o h' v:=by
  intro ad hu hr hh
  subst hh
  refine Good.op (s:=Instr.fieldAt t (a.eval x) i) (by simp only[execOp,hop]) (.same hH hr ?_)
  simp only[Instr.fieldAt,Sem.run_bind,run_underlying ht,Result.andThen_ok,hf,hu,Instr.sureAddr,Sem.run_pure,fieldPlace,b8 hn]
  rw[if_neg hn0]
  rfl
 split at hs
 ·rename_i cells off hx
  rw[hx] at e1
  obtain⟨rfl,rfl⟩:=aQ hs
  obtain⟨b,c,us,hu,hl,hF⟩:=e1.of_c.ptr_inv
  refine main _ hu ?_ rfl
  rw[bK,Nat.add_assoc]
  exact .c _ _ (CRel.mkPtr hl hF)
 ·rename_i b g off hx
  rw[hx] at e1
  obtain⟨rfl,rfl⟩:=aI hs
  obtain⟨i',ad,hi',hg,hu,hc⟩:=e1.ptr_inv
  refine main _ hu (.ptr _ _ _ _ ⟨i',_,hi',hg,rfl,fun e=>?_⟩) rfl
  obtain⟨hv,rfl⟩:=hc e
  exact⟨hv,by rw[bK,Nat.add_assoc]⟩
 ·cases hs
theorem GD {t e:TypeId} {x xi:Operand} {y yi:LO} {n:Nat} {z:Option Nat} (hop:o.op=.indexAddr t x xi) (h1:aE x=some y) (h2:aE xi=some yi) (ht:P.underlying t=some (.array n e))
  (hz:bX P e=some z) (hT:TRel DS F J ts a) (hH:HRel F J h w) (hs:ab pos ts h (.idxArr n (ae z) y yi)=some (v,h')):aG P F J a w o h' v:=by
 have e1:=an hT h1
 have e2:=an hT h2
 simp only[ab] at hs
 have main:∀ (ad:Addr) (k:IntKind) (j:Int),a.eval x=.pointer (some ad)→a.eval xi=.int k j→(0≤j∧j<n)→VRel F J v (.pointer (some (ad.add (j.toNat*ae z))))→h'=h→aG P F J a w o h' v:=by
  intro ad k j hu hi hj hr hh
  subst hh
  refine Good.op (s:=Instr.indexAt t (a.eval x) (a.eval xi)) (by simp only[execOp,hop]) (.same hH hr ?_)
  simp only[Instr.indexAt,hi,asIntOf,Sem.run_bind,Sem.run_pure,run_underlying ht,Result.andThen_ok,hu,Instr.sureAddr]
  rw[if_pos hj]
  simp only[Sem.run_bind,b8 (cm hz).2,Result.andThen_ok,Sem.run_pure]
 split at hs
 ·rename_i cells off k j hx hj
  rw[hx] at e1
  rw[hj] at e2
  split at hs
  ·rename_i hb
   obtain⟨rfl,rfl⟩:=aQ hs
   obtain⟨b,c,us,hu,hl,hF⟩:=e1.of_c.ptr_inv
   refine main _ k j hu e2.int_inv hb ?_ rfl
   rw[bK,Nat.add_assoc]
   exact .c _ _ (CRel.mkPtr hl hF)
  ·cases hs
 ·rename_i b g off k j hx hj
  rw[hx] at e1
  rw[hj] at e2
  split at hs
  ·rename_i hb
   obtain⟨rfl,rfl⟩:=aI hs
   obtain⟨i',ad,hi',hg,hu,hc⟩:=e1.ptr_inv
   refine main _ k j hu e2.int_inv hb (.ptr _ _ _ _ ⟨i',_,hi',hg,rfl,fun e=>?_⟩) rfl
   obtain⟨hv,rfl⟩:=hc e
   exact⟨hv,by rw[bK,Nat.add_assoc]⟩
  ·cases hs
 ·cases hs
theorem VRel.slice_inv {b g off len:Nat} {esz cap:Option Nat} {u:Value} (h:VRel F J (.slice b g off len esz cap) u):SlOk J b g off len esz cap u:=by cases h; assumption
theorem dY {c:Call} {b:Builtin} (hop:o.op=.call c) (hc:c.callee=.builtin b) :
  ∃ cs,execOp a.eval o=builtin b c.argTypes o.type cs (c.args.map a.eval):=by
 simp only[execOp,hop,resolve,hc,pure_bind,invoke]
 exact⟨_,rfl⟩
theorem PT {ats:Array TypeId} {ty t:TypeId} {s:ByteArray} (h0:ats[0]? = some t) (ht:P.underlying t=some .string):(Builtin.len_ ats ty #[.string s]).run P w=.ok (goInt s.size) w:=by
 have e:(#[Value.string s]:Array Value)[0]? = some (.string s):=rfl
 simp only[Builtin.len_,h0,e,Sem.run_bind,run_underlying ht,Result.andThen_ok]
 rfl
theorem kg {ats:Array TypeId} {ty t e:TypeId} {ad:Option Addr} {n cap:Nat} (h0:ats[0]? = some t) (ht:P.underlying t=some (.slice e)):(Builtin.len_ ats ty #[.slice ad n cap]).run P w=.ok (goInt n) w:=by
 have e:(#[Value.slice ad n cap]:Array Value)[0]? = some (.slice ad n cap):=rfl
 simp only[Builtin.len_,h0,e,Sem.run_bind,run_underlying ht,Result.andThen_ok]
 rfl
theorem GC {ats:Array TypeId} {ty t e f:TypeId} (h0:ats[0]? = some t) (ht:P.underlying t=some (.map e f)):(Builtin.len_ ats ty #[.map none]).run P w=.ok (goInt 0) w:=by
 have e:(#[Value.map none]:Array Value)[0]? = some (.map none):=rfl
 simp only[Builtin.len_,h0,e,Sem.run_bind,run_underlying ht,Result.andThen_ok]
 rfl
theorem eE {r:Nat} {ob:Obj} (hb:w.heap[r]? = some ob) (hc:(match ob with | .cells ..=>false | _=>true)=true):(getObj r).run P w=.ok ob w:=by
 simp only[getObj,Sem.run,hb]
 cases ob<;>first | rfl | (simp at hc)
theorem EE {ats:Array TypeId} {ty t e f:TypeId} {r clk:Nat} {es:Array MapEntry} (h0:ats[0]? = some t) (ht:P.underlying t=some (.map e f)) (hb:w.heap[r]? = some (.map es clk)) :
  (Builtin.len_ ats ty #[.map (some r)]).run P w=.ok (goInt es.size) w:=by
 have e:(#[Value.map (some r)]:Array Value)[0]? = some (.map (some r)):=rfl
 simp only[Builtin.len_,h0,e,Sem.run_bind,run_underlying ht,Result.andThen_ok,eE hb rfl]
 rfl
theorem CRel.map_inv {ks vs:List CV} {u:Value} (h:CRel F (.map ks vs) u):(u=.map none∧ks=[]∧vs=[])∨∃ (r:Nat) (es:Array MapEntry),u=.map (some r)∧F.map r=some es∧es.size=ks.length∧vs.length=ks.length ∧
  (∀ (i:Nat) (x:CV),ks[i]? = some x→∃ e,es[i]? = some e∧CRel F x e.key)∧(∀ (i:Nat) (x:CV),vs[i]? = some x→∃ e,es[i]? = some e∧CRel F x e.val):=by
 cases h with
 | mapNil=>exact .inl ⟨rfl,rfl,rfl⟩
 | map _ _ r es hr hk hv e he h1 h2 =>
  refine .inr ⟨r,es,rfl,hr,hk,hv,fun i x hx=>⟨e i,he i (List.getElem?_eq_some_iff.1 hx).1,h1 i x hx⟩,fun i x hx=>⟨e i,he i (by rw[← hv]; exact (List.getElem?_eq_some_iff.1 hx).1),h2 i x hx⟩⟩
theorem sD {t:TypeId} {x:Operand} {y:LO} {k:Nat} {c:Call} (hop:o.op=.call c) (hc:c.callee=.builtin .len) (h0:c.argTypes[0]? = some t) (ha:c.args=#[x])
  (h1:aE x=some y) (hk:(k=0∧P.underlying t=some .string)∨(k=1∧∃ e,P.underlying t=some (.slice e))∨(k=2∧∃ e f,P.underlying t=some (.map e f)))
  (hT:TRel DS F J ts a) (hH:HRel F J h w) (hs:ab pos ts h (.len k y)=some (v,h')):aG P F J a w o h' v:=by
 have e1:=an hT h1
 simp only[ab] at hs
 have main:∀ (n:Nat),(Builtin.len_ c.argTypes o.type #[a.eval x]).run P w=.ok (goInt n) w→v=.c (iN n)→h'=h→aG P F J a w o h' v:=by
  intro n hr hv hh
  subst hh hv
  refine Good.op (s:=Builtin.len_ c.argTypes o.type #[a.eval x]) ?_ (.same hH (.c _ _ (.int _ _)) hr)
  obtain⟨cs,he⟩:=dY (a:=a) hop hc
  rw[he,ha,List.map_toArray]
  rfl
 have hk0:k=0→P.underlying t=some .string:=by rintro rfl; simpa using hk
 have hk1:k=1→∃ e,P.underlying t=some (.slice e):=by rintro rfl; simpa using hk
 have hk2:k=2→∃ e f,P.underlying t=some (.map e f):=by rintro rfl; simpa using hk
 split at hs
 ·rename_i hx
  rw[hx] at e1
  obtain⟨rfl,rfl⟩:=aQ hs
  obtain⟨e,ht⟩:=hk1 rfl
  cases hu:a.eval x<;>rw[hu] at e1<;>cases e1
  exact main 0 (by rw[hu]; exact kg h0 ht) rfl rfl
 ·rename_i hx
  rw[hx] at e1
  obtain⟨rfl,rfl⟩:=aQ hs
  obtain⟨e,ht⟩:=hk1 rfl
  cases hu:a.eval x<;>rw[hu] at e1<;>cases e1
  exact main 0 (by rw[hu]; exact kg h0 ht) rfl rfl
 ·rename_i s hx
  rw[hx] at e1
  obtain⟨rfl,rfl⟩:=aQ hs
  obtain⟨b,hb,rfl⟩:=e1.of_c.str_inv
  exact main b.size (by rw[hb]; exact PT h0 (hk0 rfl)) (by rw[Array.length_toList]; rfl) rfl
 ·rename_i xs hx
  rw[hx] at e1
  obtain⟨rfl,rfl⟩:=aQ hs
  obtain⟨e,ht⟩:=hk1 rfl
  obtain⟨ad,cap,hu,_⟩:=e1.of_c.slice_inv
  exact main _ (by rw[hu]; exact kg h0 ht) rfl rfl
 ·rename_i ks vs hx
  rw[hx] at e1
  obtain⟨rfl,rfl⟩:=aQ hs
  obtain⟨e,f,ht⟩:=hk2 rfl
  rcases e1.of_c.map_inv with ⟨hu,rfl,rfl⟩ | ⟨r,es,hu,hF,hks,_⟩
  ·exact main 0 (by rw[hu]; exact GC h0 ht) rfl rfl
  ·obtain⟨clk,hb⟩:=hH.fz.map r es hF
   exact main es.size (by rw[hu]; exact EE h0 ht hb) (by rw[hks]) rfl
 ·rename_i b g off len ez cp hx
  rw[hx] at e1
  obtain⟨rfl,rfl⟩:=aQ hs
  obtain⟨e,ht⟩:=hk1 rfl
  obtain⟨i,ad,c0,_,_,hu,_⟩:=e1.slice_inv
  exact main _ (by rw[hu]; exact kg h0 ht) rfl rfl
 ·rename_i b hx
  rw[hx] at e1
  split at hs
  ·rename_i ks vs fz hb
   obtain⟨rfl,rfl⟩:=aQ hs
   obtain⟨e,f,ht⟩:=hk2 rfl
   cases e1 with
   | map _ _ hm =>
    obtain⟨i,hi,_,_,hu⟩:=hm
    obtain⟨i',hi',_,_,es,clk,hes,hks,_⟩:=hH.live b _ hb (by simp)
    rw[hi] at hi'
    simp only[Option.some.injEq] at hi'
    subst hi'
    exact main es.size (by rw[hu]; exact EE h0 ht hes) (by rw[hks]) rfl
  ·cases hs
 ·cases hs
end
end LM
namespace LM
open Go Go.RowKit
variable {DS:List Deferred}
section
variable {P:Program} {F:Fz} {J:JMap} {a:Act} {w:World} {o:Oper} {ts:List LV} {h h' : Heap} {v:LV} {pos:Option Nat}
theorem fm {x:Option Operand} {y:Option LO} (h:dN x=some y):(x=none∧y=none)∨∃ x0 y0,x=some x0∧y=some y0∧aE x0=some y0:=by
 cases x with
 | none=>simp only[dN,Option.some.injEq] at h; exact .inl ⟨rfl,h.symm⟩
 | some x0 =>
  simp only[dN] at h
  split at h
  ·rename_i y0 hy0
   simp only[Option.some.injEq] at h
   exact .inr ⟨x0,y0,rfl,h.symm,hy0⟩
  ·cases h
theorem ck {x:Option LV} {d top n:Nat} (hd:d≤top) (h:bound x d top=some n):n≤top:=by
 cases x with
 | none=>simp only[bound,Option.some.injEq] at h; omega
 | some v =>
  simp only[bound] at h
  split at h
  ·rename_i e; cases e
  ·rename_i k i e
   split at h
   ·simp only[Option.some.injEq] at h; omega
   ·cases h
  ·cases h
theorem ft {x0:Operand} {y0:LO} (hT:TRel DS F J ts a) (hx:aE x0=some y0) {d top top' n:Nat} (htop:top≤top') (h:bound (some (LM.ev ts y0)) d top=some n) (code:BoundsCode) :
  (Instr.sliceBound (a.eval x0) top' code).run P w=.ok n w:=by
 have e1:=an hT hx
 simp only[bound] at h
 split at h
 ·rename_i e; cases e
 ·rename_i k i e
  simp only[Option.some.injEq] at e
  rw[e] at e1
  split at h
  ·rename_i hi
   simp only[Option.some.injEq] at h
   subst h
   rw[e1.int_inv]
   simp only[Instr.sliceBound,asIntOf,Sem.run_bind,Sem.run_pure,Result.andThen_ok]
   rw[if_pos (by omega)]
   rfl
  ·cases h
 ·cases h
theorem lS {isSl:Bool} {len cap top:Nat} {lo hi:Option Operand} {lo' hi' : Option LO} {l hh:Nat} (hT:TRel DS F J ts a) (hlo:dN lo=some lo') (hhi:dN hi=some hi') (htop:top≤cap)
  (h1:bound (hi'.map (LM.ev ts)) len top=some hh) (h2:bound (lo'.map (LM.ev ts)) 0 hh=some l) :
  (Instr.sliceBounds isSl len cap (lo.map a.eval) (hi.map a.eval) none).run P w=.ok (l,hh,cap) w:=by
 rcases fm hlo with ⟨rfl,rfl⟩ | ⟨x1,y1,rfl,rfl,hx1⟩<;>rcases fm hhi with ⟨rfl,rfl⟩ | ⟨x0,y0,rfl,rfl,hx⟩
 ·simp only[Option.map_none,bound,Option.some.injEq] at h1 h2
  subst h1 h2
  rfl
 ·simp only[Option.map_none,bound,Option.some.injEq] at h2
  subst h2
  have H:=fun code=>ft (P:=P) (w:=w) hT hx htop h1 code
  simp only[Instr.sliceBounds,Option.map_some,Option.map_none,Sem.run_bind,Sem.run_pure,Result.andThen_ok,Option.isSome_none,Bool.false_eq_true,if_false,H]
 ·simp only[Option.map_none,bound,Option.some.injEq] at h1
  subst h1
  have H:=fun code=>ft (P:=P) (w:=w) hT hx1 (Nat.le_refl _) h2 code
  simp only[Instr.sliceBounds,Option.map_some,Option.map_none,Sem.run_bind,Sem.run_pure,Result.andThen_ok,Option.isSome_none,Bool.false_eq_true,if_false,H]
 ·have H:=fun code=>ft (P:=P) (w:=w) hT hx htop h1 code
  have L:=fun code=>ft (P:=P) (w:=w) hT hx1 (Nat.le_refl _) h2 code
  simp only[Instr.sliceBounds,Option.map_some,Sem.run_bind,Sem.run_pure,Result.andThen_ok,Option.isSome_none,Bool.false_eq_true,if_false,H,L]
theorem BM {isSl:Bool} {len cap top:Nat} {lo:Option Operand} {x0 x2:Operand} {lo' : Option LO} {y0 y2:LO} {l hh m d0:Nat} (hT:TRel DS F J ts a) (hlo:dN lo=some lo') (hx0:aE x0=some y0) (hx2:aE x2=some y2)
  (htop:top≤cap) (h0:bound (some (LM.ev ts y2)) d0 top=some m) (h1:bound (some (LM.ev ts y0)) len m=some hh) (h2:bound (lo'.map (LM.ev ts)) 0 hh=some l) :
  (Instr.sliceBounds isSl len cap (lo.map a.eval) (some (a.eval x0)) (some (a.eval x2))).run P w=.ok (l,hh,m) w:=by
 have H:=fun code=>ft (P:=P) (w:=w) hT hx0 (Nat.le_refl _) h1 code
 have M:=fun code=>ft (P:=P) (w:=w) hT hx2 htop h0 code
 rcases fm hlo with ⟨rfl,rfl⟩ | ⟨x1,y1,rfl,rfl,hx1⟩
 ·simp only[Option.map_none,bound,Option.some.injEq] at h2
  subst h2
  simp only[Instr.sliceBounds,Option.map_none,Sem.run_bind,Sem.run_pure,Result.andThen_ok,H,M]
 ·have L:=fun code=>ft (P:=P) (w:=w) hT hx1 (Nat.le_refl _) h2 code
  simp only[Instr.sliceBounds,Option.map_some,Sem.run_bind,Sem.run_pure,Result.andThen_ok,Option.isSome_some,if_true,H,L,M]
theorem Ax {t:TypeId} {x:Operand} {lo hi:Option Operand} {y:LO} {lo' hi' : Option LO} (hop:o.op=.slice t x lo hi none) (h1:aE x=some y) (hlo:dN lo=some lo') (hhi:dN hi=some hi') (ht:P.underlying t=some .string)
  (hT:TRel DS F J ts a) (hH:HRel F J h w) (hs:ab pos ts h (.sliceStr y lo' hi')=some (v,h')):aG P F J a w o h' v:=by
 have e1:=an hT h1
 simp only[ab] at hs
 split at hs
 ·rename_i s hx
  rw[hx] at e1
  split at hs
  ·rename_i b hb
   split at hs
   ·rename_i l hl
    obtain⟨rfl,rfl⟩:=aQ hs
    obtain⟨bs,hbs,rfl⟩:=e1.of_c.str_inv
    refine Good.op (s:=Instr.sliceAt t (a.eval x) (lo.map a.eval) (hi.map a.eval) none) (by simp only[execOp,hop,Option.map_none])
     (.same hH (.c _ _ (CRel.str' (s:=bs.extract l b) ?_)) ?_)
    ·rw[ByteArray.data_extract,Array.toList_extract,List.extract_eq_take_drop]
    ·have hsz:bs.data.toList.length=bs.size:=by rw[Array.length_toList]; rfl
     rw[hsz] at hb
     simp only[Instr.sliceAt,Instr.slice,Sem.run_bind,run_underlying ht,Result.andThen_ok,hbs,Option.isSome_none,Bool.false_eq_true,if_false,lS hT hlo hhi (Nat.le_refl _) hb hl,Sem.run_pure]
   ·cases hs
  ·cases hs
 ·cases hs
theorem xj {sz:Nat} {xs:List CV} {u:Value} (hf:fP sz xs=true) (hr:CRel F (.slice xs) u):∀ x ∈ xs,x.cells.length=sz:=by
 intro x hx
 cases xs with
 | nil=>simp at hx
 | cons y ys =>
  simp only[fP,beq_iff_eq] at hf
  obtain⟨ad,cap,_,_,hne⟩:=hr.slice_inv
  obtain⟨b,c,s,_,hall⟩:=hne (by simp)
  have h0:=(hall 0 y rfl).1
  obtain⟨i,hi,rfl⟩:=List.getElem_of_mem hx
  have h1:=(hall i _ (List.getElem?_eq_getElem hi)).1
  omega
theorem CRel.subslice {xs:List CV} {ad:Option Addr} {cap sz l hh m:Nat} (hr:CRel F (.slice xs) (.slice ad xs.length cap)) (hsz:∀ x ∈ xs,x.cells.length=sz) (hl:l≤hh) (hh' : hh≤xs.length) (hm:hh≤m) (hmc:m≤cap) :
  CRel F (.slice ((xs.drop l).take (hh-l))) (.slice (if m=l then ad else ad.map (·.add (l*sz))) (hh-l) (m-l)):=by
 by_cases he:hh=l
 ·subst he
  simp only[Nat.sub_self,List.take_zero]
  exact .sliceE _ _
 obtain⟨ad',cap',hu,hlc,hne⟩:=hr.slice_inv
 injection hu with h1 h2 h3
 subst h1 h3
 obtain⟨b,c,s,rfl,hall⟩:=hne (by omega)
 have hs:s=sz:=by
  have:=(hall 0 xs[0] (List.getElem?_eq_getElem (by omega))).1
  rw[hsz _ (List.getElem_mem _)] at this
  exact this.symm
 subst hs
 rw[if_neg (by omega),Option.map_some,bK]
 have hlen:((xs.drop l).take (hh-l)).length=hh-l:=by simp; omega
 have key:∀ (i:Nat) (x:CV),((xs.drop l).take (hh-l))[i]? = some x→xs[l+i]? = some x:=by
  intro i x hx
  rw[List.getElem?_take] at hx
  split at hx
  ·rwa [List.getElem?_drop] at hx
  ·cases hx
 have hS:CRel F (.slice ((xs.drop l).take (hh-l))) (.slice (some ⟨b,c+l*s,none⟩) ((xs.drop l).take (hh-l)).length (m-l)):=by
  refine .slice _ b _ (m-l) s (fun i j=>(F.cell b (c+(l+i)*s+j)).getD undef) (by omega) (fun i x hx=>hsz x (List.mem_of_getElem? (key i x hx))) ?_ ?_ ?_
  all_goals
   intro i x j y hx hy
   have hx':=key i x hx
   obtain⟨_,us,hus,hF⟩:=hall _ x hx'
   obtain⟨u,hu,hcr,hcell⟩:=hus.2 j y hy
   have hF':=hF j u hu
   simp only[hF',Option.getD_some]
  ·rw[← hF']
   congr 1
   rw[Nat.add_mul]
   omega
  ·exact hcr
  ·exact hcell
 rwa [hlen] at hS
theorem Ca {t e:TypeId} {z:Option Nat} {x:Operand} {lo hi mx:Option Operand} {y:LO} {lo' hi' mx' : Option LO} (hop:o.op=.slice t x lo hi mx) (h1:aE x=some y) (hlo:dN lo=some lo') (hhi:dN hi=some hi') (hmx:dN mx=some mx')
  (ht:P.underlying t=some (.slice e)) (hz:bX P e=some z) (hT:TRel DS F J ts a) (hH:HRel F J h w) (hs:ab pos ts h (.sliceSl (ae z) y lo' hi' mx')=some (v,h')):aG P F J a w o h' v:=by
 have e1:=an hT h1
 simp only[ab] at hs
 split at hs
 ·cases hs
 rename_i hguard
 -- the run,given the bounds
 have main:∀ (ad:Option Addr) (len cap l hh m top d:Nat),a.eval x=.slice ad len cap→top≤cap→bound (mx'.map (LM.ev ts)) d top=some m→bound (hi'.map (LM.ev ts)) len m=some hh→bound (lo'.map (LM.ev ts)) 0 hh=some l →
   VRel F J v (.slice (if (if mx'.isSome then m else cap)=l then ad else ad.map (·.add (l*ae z))) (hh-l) ((if mx'.isSome then m else cap)-l))→d≤top→h'=h→aG P F J a w o h' v:=by
  intro ad len cap l hh m top d hu htop b0 b1 b2 hr hd hE
  subst hE
  refine Good.op (s:=Instr.sliceAt t (a.eval x) (lo.map a.eval) (hi.map a.eval) (mx.map a.eval)) (by simp only[execOp,hop]) (.same hH hr ?_)
  have hmt:=ck hd b0
  rcases fm hmx with ⟨rfl,rfl⟩ | ⟨x2,y2,rfl,rfl,hx2⟩
  ·simp only[Instr.sliceAt,Instr.slice,Option.map_none,Sem.run_bind,run_underlying ht,Result.andThen_ok,hu,lS hT hlo hhi (Nat.le_trans hmt htop) b1 b2,b8 (cm hz).2,Sem.run_pure]
   simp
  ·rcases fm hhi with ⟨rfl,rfl⟩ | ⟨x0,y0,rfl,rfl,hx0⟩
   ·simp at hguard
   ·simp only[Instr.sliceAt,Instr.slice,Option.map_some,Sem.run_bind,run_underlying ht,Result.andThen_ok,hu,BM hT hlo hx0 hx2 htop b0 b1 b2,b8 (cm hz).2,Sem.run_pure]
    simp
 split at hs
 ·-- nil
  rename_i hx
  rw[hx] at e1
  split at hs
  ·rename_i m hm
   split at hs
   ·rename_i b hb
    split at hs
    ·rename_i l hl
     obtain⟨rfl,rfl⟩:=aI hs
     have m0:=ck (Nat.le_refl _) hm
     have b0:=ck (by omega) hb
     have l0:=ck (by omega) hl
     obtain rfl:m=0:=by omega
     obtain rfl:b=0:=by omega
     obtain rfl:l=0:=by omega
     cases hu:a.eval x<;>rw[hu] at e1<;>cases e1
     refine main none 0 0 0 0 0 0 0 hu (Nat.le_refl _) hm hb hl ?_ (Nat.le_refl _) rfl
     simpa using VRel.nil
    ·cases hs
   ·cases hs
  ·cases hs
 ·rename_i hx
  rw[hx] at e1
  split at hs
  ·rename_i m hm
   split at hs
   ·rename_i b hb
    split at hs
    ·rename_i l hl
     obtain⟨rfl,rfl⟩:=aI hs
     have m0:=ck (Nat.le_refl _) hm
     have b0:=ck (by omega) hb
     have l0:=ck (by omega) hl
     obtain rfl:m=0:=by omega
     obtain rfl:b=0:=by omega
     obtain rfl:l=0:=by omega
     cases hu:a.eval x<;>rw[hu] at e1<;>cases e1
     refine main _ 0 0 0 0 0 0 0 hu (Nat.le_refl _) hm hb hl ?_ (Nat.le_refl _) rfl
     simpa using VRel.emp _
    ·cases hs
   ·cases hs
  ·cases hs
 ·rename_i xs hx
  rw[hx] at e1
  obtain⟨ad,cap,hu,hlc,_⟩:=e1.of_c.slice_inv
  split at hs
  ·rename_i m hm
   split at hs
   ·rename_i b hb
    split at hs
    ·rename_i l hl
     split at hs
     ·rename_i hf
      obtain⟨rfl,rfl⟩:=aQ hs
      have m0:=ck (Nat.le_refl _) hm
      have b0:b≤m:=by
       cases hmx' : mx' with
       | none =>
        rw[hmx'] at hm
        simp only[Option.map_none,bound,Option.some.injEq] at hm
        exact ck (by omega) hb
       | some y2 =>
        cases hi' with
        | none=>simp[hmx'] at hguard
        | some y3 =>
         simp only[Option.map_some,bound] at hb
         split at hb
         ·rename_i e'; cases e'
         ·split at hb
          ·simp only[Option.some.injEq] at hb; omega
          ·cases hb
         ·cases hb
      have l0:=ck (Nat.zero_le _) hl
      refine main ad xs.length cap l b m xs.length xs.length hu hlc hm hb hl ?_ (Nat.le_refl _) rfl
      have hr:=e1.of_c
      rw[hu] at hr
      refine .c _ _ (CRel.subslice hr (xj hf hr) l0 (by omega) ?_ ?_)
      ·split<;>omega
      ·split<;>omega
     ·cases hs
    ·cases hs
   ·cases hs
  ·cases hs
 ·rename_i b g off len ez cp hx
  rw[hx] at e1
  obtain⟨i,ad,c,hi,hg,hu,hlc,hn,hcap,hrest⟩:=e1.slice_inv
  split at hs
  ·cases hs
  rename_i hez
  simp only[ne_eq,Decidable.not_not] at hez
  have htop:cp.getD len≤c:=by
   cases cp with
   | none=>exact hlc
   | some k=>rw[hcap k rfl]; exact Nat.le_refl _
  split at hs
  ·rename_i m hm
   split at hs
   ·rename_i hh hb
    split at hs
    ·rename_i l hl
     have m0:=ck (Nat.le_refl _) hm
     have l0:=ck (Nat.zero_le _) hl
     have hhm:hh≤(if mx'.isSome then m else c):=by
      cases hmx' : mx' with
      | none =>
       rw[hmx'] at hm
       simp only[Option.map_none,bound,Option.some.injEq] at hm
       subst hm
       have:len≤cp.getD len:=by
        cases cp with
        | none=>exact Nat.le_refl _
        | some k=>have:=hcap k rfl; simp only[Option.getD_some]; omega
       have:=ck this hb
       simp only[Option.isSome_none,Bool.false_eq_true,if_false]
       omega
      | some y2 =>
       cases hi' with
       | none=>simp[hmx'] at hguard
       | some y3 =>
        simp only[Option.map_some,bound] at hb
        simp only[Option.isSome_some,if_true]
        split at hb
        ·rename_i e'; cases e'
        ·split at hb
         ·simp only[Option.some.injEq] at hb; omega
         ·cases hb
        ·cases hb
     -- the new slice
     have mk:∀ (cp' : Option Nat) (cc:Nat),cc=(if mx'.isSome then m else c)→(∀ k,cp'=some k→k=cc-l) →
       VRel F J (.slice b g (if cc=l then off else off+l*ae z) (hh-l) ez cp') (.slice (if cc=l then ad else ad.map (·.add (l*ae z))) (hh-l) (cc-l)):=by
      intro cp' cc hcc hcp'
      have hccc:cc≤c:=by
       rw[hcc]; split
       ·omega
       ·exact Nat.le_refl _
      have hhcc:hh≤cc:=by rw[hcc]; exact hhm
      refine .slice _ _ _ _ _ _ _ ⟨i,_,_,hi,hg,rfl,by omega,fun e=>?_,fun k hk=>(hcp' k hk).symm,fun e=>⟨fun hv=>?_,fun hv=>?_⟩⟩
      ·by_cases he:cc=l
       ·omega
       ·rw[if_neg he] at e
        cases ad with
        | none=>have:=hn rfl; omega
        | some ad=>cases e
      ·obtain⟨h1,h2⟩:=(hrest e).1 hv
       refine⟨by omega,?_⟩
       rw[if_pos (by omega)]
       exact h2
      ·obtain⟨h1,h2⟩:=(hrest e).2 hv
       subst h1
       by_cases he:cc=l
       ·rw[if_pos he,if_pos he]
        refine⟨rfl,?_⟩
        have:(cc-l)*ae ez=0:=by rw[he]; simp
        omega
       ·rw[if_neg he,if_neg he,Option.map_some,bK]
        refine⟨by rw[Nat.add_assoc],?_⟩
        rw[hez] at h2 ⊢
        have h3:l*ae z+(cc-l)*ae z=cc*ae z:=by rw[← Nat.add_mul]; congr 1; omega
        have h4:cc*ae z≤c*ae z:=Nat.mul_le_mul_right _ hccc
        omega
     split at hs
     ·rename_i k hk
      obtain⟨rfl,rfl⟩:=aI hs
      have hkc:k=(if mx'.isSome then m else c):=by
       cases hmx' : mx'.isSome with
       | true=>rw[hmx'] at hk; simpa using hk.symm
       | false=>rw[hmx'] at hk; simp only[Bool.false_eq_true,if_false] at hk ⊢; exact (hcap k hk).symm
      refine main ad len c l hh m _ _ hu htop hm hb hl ?_ (Nat.le_refl _) rfl
      have:=mk (some (k-l)) k hkc (by rintro k' h'; cases h'; rfl)
      rw[← hkc]
      exact this
     ·rename_i hk
      have hmn:mx'.isSome=false:=by
       cases hmx' : mx'.isSome with
       | true=>rw[hmx'] at hk; simp at hk
       | false=>rfl
      have e2:(if mx'.isSome then m else c)=c:=by rw[hmn]; rfl
      rw[e2] at hhm
      split at hs
      ·rename_i l00
       obtain⟨rfl,rfl⟩:=aI hs
       subst l00
       refine main ad len c 0 hh m _ _ hu htop hm hb hl ?_ (Nat.le_refl _) rfl
       have:=mk none c e2.symm (by simp)
       rw[e2]
       simpa using this
      ·split at hs
       ·rename_i hlt
        obtain⟨rfl,rfl⟩:=aI hs
        refine main ad len c l hh m _ _ hu htop hm hb hl ?_ (Nat.le_refl _) rfl
        have:=mk none c e2.symm (by simp)
        rw[e2]
        rw[if_neg (by omega)] at this
        exact this
       ·rename_i hlt
        obtain⟨rfl,rfl⟩:=aQ hs
        obtain rfl:hh=l:=by omega
        refine main ad len c hh hh m _ _ hu htop hm hb hl ?_ (Nat.le_refl _) rfl
        rw[Nat.sub_self]
        exact .c _ _ (.sliceE _ _)
    ·cases hs
   ·cases hs
  ·cases hs
 ·cases hs
end
end LM
namespace LM
open Go Go.RowKit
variable {DS:List Deferred}
section
variable {P:Program} {F:Fz} {J:JMap} {a:Act} {w:World} {o:Oper} {ts:List LV} {h h' : Heap} {v:LV} {pos:Option Nat}
theorem zp {t e:TypeId} {n:Nat} {z:Option Nat} {x:Operand} {lo hi mx:Option Operand} {y:LO} {lo' hi' mx' : Option LO} (hop:o.op=.slice t x lo hi mx) (h1:aE x=some y) (hlo:dN lo=some lo') (hhi:dN hi=some hi') (hmx:dN mx=some mx')
  (ht:P.underlying t=some (.array n e)) (hz:bX P e=some z) (hT:TRel DS F J ts a) (hH:HRel F J h w) (hs:ab pos ts h (.sliceArr n z y lo' hi' mx')=some (v,h')):aG P F J a w o h' v:=by
 have e1:=an hT h1
 simp only[ab] at hs
 split at hs
 ·rename_i b g off hx
  rw[hx] at e1
  split at hs
  ·cases hs
  ·split at hs
   ·rename_i hh hb
    split at hs
    ·rename_i l hl
     split at hs
     ·rename_i g' cs fz hblk
      split at hs
      ·rename_i hcond
       obtain⟨hg',hle⟩:=hcond
       subst hg'
       obtain⟨rfl,rfl⟩:=aI hs
       obtain⟨i,ad,hi0,hg,hu,hc⟩:=e1.ptr_inv
       obtain⟨i',hi',hgen,_,_,hlive⟩:=hH.cellsAt hblk
       rw[hi0] at hi'
       simp only[Option.some.injEq] at hi'
       subst hi'
       obtain⟨hv,rfl⟩:=hc hgen.symm
       obtain⟨arr,el,_,_,hbase,_⟩:=hlive hv
       have hmx0:mx=none:=by
        rcases fm hmx with ⟨rfl,_⟩ | ⟨x2,y2,_,h,_⟩
        ·rfl
        ·cases h
       subst hmx0
       have h0:=ck (Nat.le_refl _) hb
       have l0:=ck (Nat.zero_le _) hl
       refine Good.op (s:=Instr.sliceAt t (a.eval x) (lo.map a.eval) (hi.map a.eval) none) (by simp only[execOp,hop,Option.map_none])
        (.same (u:=.slice (some (if n=l then ⟨i.cb,i.base+off,none⟩ else (⟨i.cb,i.base+off,none⟩ : Addr).add (l*ae z))) (hh-l) (n-l)) hH ?_ ?_)
       ·refine .slice _ _ _ _ _ _ _ ⟨i,_,_,hi0,hg,rfl,by omega,by simp,by rintro k hk; cases hk; rfl,fun _=>⟨fun hv'=>(by rw[hv] at hv'; cases hv'),fun _=>?_⟩⟩
        by_cases he:n=l
        ·rw[if_pos he,if_pos he]
         refine⟨rfl,?_⟩
         have:(n-l)*ae z=0:=by rw[he]; simp
         omega
        ·rw[if_neg he,if_neg he,bK]
         refine⟨by rw[Nat.add_assoc],?_⟩
         have h3:l*ae z+(n-l)*ae z=n*ae z:=by rw[← Nat.add_mul]; congr 1; omega
         omega
       ·simp only[Instr.sliceAt,Sem.run_bind,run_underlying ht,Result.andThen_ok,hu,Instr.sureAddr,Sem.run_pure,lS hT hlo hhi (Nat.le_refl _) hb hl,b8 (cm hz).2]
      ·cases hs
     ·cases hs
    ·cases hs
   ·cases hs
 ·cases hs
theorem kP (mx:Bool) (f:Int→Int→Int) (hf:∀ x y,f x y=if mx then (if y > x then y else x) else (if y<x then y else x)) (m2:Value→Value→Sem Value)
  (hm:∀ k k' x y,m2 (.int k x) (.int k' y)=pure (.int k (f x y))) (hT:TRel DS F J ts a):∀ (xs:List Operand) (ys:List LO) (hx:dF xs=some ys) (k:IntKind) (n:Int) (r:LV),bt f ts (.c (.int k n)) ys=some r →
   ∃ u,((xs.map a.eval).foldlM m2 (.int k n)).run P w=.ok u w∧VRel F J r u
 | [],ys,hx,k,n,r,h=>by
  simp only[dF,Option.some.injEq] at hx
  subst hx
  simp only[bt,Option.some.injEq] at h
  subst h
  exact⟨.int k n,rfl,.c _ _ (.int _ _)⟩
 | x::xs,ys,hx,k,n,r,h=>by
  simp only[dF] at hx
  split at hx
  ·rename_i y l hy hl
   simp only[Option.some.injEq] at hx
   subst hx
   simp only[bt] at h
   have e1:=an hT hy
   split at h
   ·rename_i k' m hm'
    rw[hm'] at e1
    obtain⟨u,hu,hr⟩:=kP mx f hf m2 hm hT xs l hl k (f n m) r h
    refine⟨u,?_,hr⟩
    simp only[List.map_cons,List.foldlM_cons,e1.int_inv,hm,pure_bind]
    exact hu
   ·cases h
  ·cases hx
theorem qy {b:Bool} {x:Operand} {xs:List Operand} {y:LO} {ys:List LO} {c:Call} (hop:o.op=.call c) (hc:c.callee=.builtin (if b then .max else .min)) (ha:c.args.toList=x::xs) (h1:aE x=some y) (h2:dF xs=some ys)
  (hT:TRel DS F J ts a) (hH:HRel F J h w) (hs:ab pos ts h (if b then .max y ys else .min y ys)=some (v,h')):aG P F J a w o h' v:=by
 have e1:=an hT h1
 obtain⟨cs,he⟩:=dY (a:=a) hop hc
 have hl:(c.args.map a.eval).toList=a.eval x::xs.map a.eval:=by rw[Array.toList_map,ha]; rfl
 cases b with
 | true =>
  simp only[if_true,ab] at hs
  split at hs
  ·rename_i r hr
   obtain⟨rfl,rfl⟩:=aI hs
   have:∃ k n,LM.ev ts y=.c (.int k n)∨ys=[]:=by
    cases ys with
    | nil=>exact⟨.i64,0,.inr rfl⟩
    | cons y2 ys2 =>
     cases hy:LM.ev ts y with
     | c cv=>cases cv with
      | int k n=>exact⟨k,n,.inl rfl⟩
      | _=>rw[hy] at hr; simp[bt] at hr
     | _=>rw[hy] at hr; simp[bt] at hr
   obtain⟨k,n,hy | hy⟩:=this
   ·rw[hy] at hr e1
    obtain⟨u,hu,hrel⟩:=kP (P:=P) (w:=w) true _ (by simp) Builtin.max2 (fun k k' x y=>rfl) hT xs ys h2 k n _ hr
    refine Good.op (s:=Builtin.max_ c.argTypes o.type (c.args.map a.eval)) (by rw[he]; rfl) (.same hH hrel ?_)
    unfold Builtin.max_
    rw[hl,e1.int_inv]
    exact hu
   ·subst hy
    simp only[bt,Option.some.injEq] at hr
    subst hr
    have hxs:xs=[]:=by
     cases xs with
     | nil=>rfl
     | cons x2 xs2 =>
      simp only[dF] at h2
      split at h2
      ·cases h2
      ·cases h2
    subst hxs
    refine Good.op (s:=Builtin.max_ c.argTypes o.type (c.args.map a.eval)) (by rw[he]; rfl) (.same hH e1 ?_)
    unfold Builtin.max_
    rw[hl]
    rfl
  ·cases hs
 | false =>
  simp only[Bool.false_eq_true,if_false,ab] at hs
  split at hs
  ·rename_i r hr
   obtain⟨rfl,rfl⟩:=aI hs
   have:∃ k n,LM.ev ts y=.c (.int k n)∨ys=[]:=by
    cases ys with
    | nil=>exact⟨.i64,0,.inr rfl⟩
    | cons y2 ys2 =>
     cases hy:LM.ev ts y with
     | c cv=>cases cv with
      | int k n=>exact⟨k,n,.inl rfl⟩
      | _=>rw[hy] at hr; simp[bt] at hr
     | _=>rw[hy] at hr; simp[bt] at hr
   obtain⟨k,n,hy | hy⟩:=this
   ·rw[hy] at hr e1
    obtain⟨u,hu,hrel⟩:=kP (P:=P) (w:=w) false _ (by simp) Builtin.min2 (fun k k' x y=>rfl) hT xs ys h2 k n _ hr
    refine Good.op (s:=Builtin.min_ c.argTypes o.type (c.args.map a.eval)) (by rw[he]; rfl) (.same hH hrel ?_)
    unfold Builtin.min_
    rw[hl,e1.int_inv]
    exact hu
   ·subst hy
    simp only[bt,Option.some.injEq] at hr
    subst hr
    have hxs:xs=[]:=by
     cases xs with
     | nil=>rfl
     | cons x2 xs2 =>
      simp only[dF] at h2
      split at h2
      ·cases h2
      ·cases h2
    subst hxs
    refine Good.op (s:=Builtin.min_ c.argTypes o.type (c.args.map a.eval)) (by rw[he]; rfl) (.same hH e1 ?_)
    unfold Builtin.min_
    rw[hl]
    rfl
  ·cases hs
end
end LM
namespace LM
open Go Go.RowKit
variable {DS:List Deferred}
section
variable {P:Program} {F:Fz} {J:JMap} {a:Act} {w:World} {o:Oper} {ts:List LV} {h h' : Heap} {v:LV} {pos:Option Nat}
theorem Ld {v:Value} {x:LV} (h:ng v=some x):isCell v:=by
 unfold ng at h
 split at h<;>cases h<;>rfl
theorem fV:∀ {us:List Value} {cs:List LV},o7 us=some cs→VL F J cs us
 | [],cs,h=>by simp only[o7,Option.some.injEq] at h; subst h; exact VL.nil
 | u::us,cs,h=>by
  simp only[o7] at h
  split at h
  ·rename_i x hx
   split at h
   ·rename_i l hl
    simp only[Option.some.injEq] at h
    subst h
    exact (fV hl).cons (pQ hx) (Ld hx)
   ·cases h
  ·cases h
theorem ed {t:TypeId} {z:List LV} (h:cd P t=some z):∃ i u,P.info? t=some i∧i.zero=some u∧o7 u.cells.toList=some z:=by
 unfold cd at h
 split at h
 ·rename_i i hi
  split at h
  ·rename_i u hu
   exact⟨i,u,hi,hu,h⟩
  ·cases h
 ·cases h
theorem mS (off:Nat):∀ (l:List Value) (s:Nat) (cs:Array Value),((l.zipIdx s).foldl (fun cs (x:Value × Nat)=>cs.setIfInBounds (off+x.2) x.1) cs).toList=bB cs.toList (off+s) l
 | [],s,cs=>rfl
 | c::l,s,cs=>by
  simp only[List.zipIdx_cons,List.foldl_cons,bB]
  rw[mS off l (s+1)]
  simp[Nat.add_assoc]
theorem nB (place:Nat→Option (Nat × Nat)) (cells:Array Value) (i off size:Nat) (u:Value) (rest:List (Nat × Value)) (hp:place i=some (off,size)) (hs:u.cells.size=size) (hl:off+u.cells.size≤cells.size) :
  Instr.fill place cells ((i,u)::rest)=Instr.fill place (bB cells.toList off u.cells.toList).toArray rest:=by
 simp only[Instr.fill,hp]
 rw[if_neg (by simp[hs]; omega)]
 congr 1
 rw[← Array.toList_inj]
 have:=mS off u.cells.toList 0 cells
 simp only[Nat.add_zero] at this
 rw[← this,← Array.foldl_toList,Array.toList_zipIdx]
def eu (a:Act) (ps:List (Nat × Operand)):List (Nat × Value):=ps.map fun p=>(p.1,a.eval p.2)
theorem kW {fs:Array Field} {places:Nat→Option (Nat × Nat)} (hpl:∀ (i:Nat) (f:Field) (n:Nat),fs[i]? = some f→dh P f.type=some n→places i=some (f.offset,n)) (hT:TRel DS F J ts a) :
  ∀ (ps:List (Nat × Operand)) (qs:List (Nat × Nat × LO)) (hp:lK P fs ps=some qs) (cs cs' : List LV) (us:List Value) (hv:VL F J cs us),bF ts qs cs=some cs' →
   ∃ us' : List Value,Instr.fill places us.toArray (eu a ps)=some us'.toArray∧VL F J cs' us'
 | [],qs,hp,cs,cs',us,hv,h=>by
  simp only[lK,Option.some.injEq] at hp
  subst hp
  simp only[bF,Option.some.injEq] at h
  subst h
  exact⟨us,rfl,hv⟩
 | (i,x)::ps,qs,hp,cs,cs',us,hv,h=>by
  simp only[lK] at hp
  split at hp
  ·rename_i y f l hy hf hl
   split at hp
   ·rename_i n hn
    simp only[Option.some.injEq] at hp
    subst hp
    simp only[bF] at h
    split at h
    ·rename_i hc
     obtain⟨hflat,hlen,hle⟩:=hc
     have e1:=an hT hy
     have hvx:=e1.cells hflat
     obtain⟨us',hfill,hv'⟩:=kW hpl hT ps l hl _ cs' _ (hvx.setCells f.offset hv) h
     refine⟨us',?_,hv'⟩
     have hsz:(a.eval x).cells.size=n:=by rw[← Array.length_toList,hvx.1,hlen]
     rw[eu,List.map_cons,nB places _ i f.offset n _ _ (hpl i f n hf hn) hsz (by rw[hsz,List.size_toArray,hv.1]; omega)]
     exact hfill
    ·cases h
   ·cases hp
  ·cases hp
theorem ki {sz:Nat} (hT:TRel DS F J ts a) :
  ∀ (ps:List (Nat × Operand)) (qs:List (Nat × Nat × LO)) (hp:lq sz ps=some qs) (cs cs' : List LV) (us:List Value) (hv:VL F J cs us),bF ts qs cs=some cs' →
   ∃ us' : List Value,Instr.fill (fun i=>some (i*sz,sz)) us.toArray (eu a ps)=some us'.toArray∧VL F J cs' us'
 | [],qs,hp,cs,cs',us,hv,h=>by
  simp only[lq,Option.some.injEq] at hp
  subst hp
  simp only[bF,Option.some.injEq] at h
  subst h
  exact⟨us,rfl,hv⟩
 | (i,x)::ps,qs,hp,cs,cs',us,hv,h=>by
  simp only[lq] at hp
  split at hp
  ·rename_i y l hy hl
   simp only[Option.some.injEq] at hp
   subst hp
   simp only[bF] at h
   split at h
   ·rename_i hc
    obtain⟨hflat,hlen,hle⟩:=hc
    have e1:=an hT hy
    have hvx:=e1.cells hflat
    obtain⟨us',hfill,hv'⟩:=ki hT ps l hl _ cs' _ (hvx.setCells (i*sz) hv) h
    refine⟨us',?_,hv'⟩
    have hsz:(a.eval x).cells.size=sz:=by rw[← Array.length_toList,hvx.1,hlen]
    rw[eu,List.map_cons,nB _ _ i (i*sz) sz _ _ rfl hsz (by rw[hsz,List.size_toArray,hv.1]; omega)]
    exact hfill
   ·cases h
  ·cases hp
theorem mA {sz:Nat} (hT:TRel DS F J ts a) :
  ∀ (ps:List (Nat × Operand)) (qs:List (Nat × LO)) (hp:jQ ps=some qs) (cs cs' : List LV) (us:List Value) (hv:VL F J cs us),bz ts sz qs cs=some cs' →
   ∃ us' : List Value,Instr.fill (fun i=>some (i*sz,sz)) us.toArray (eu a ps)=some us'.toArray∧VL F J cs' us'
 | [],qs,hp,cs,cs',us,hv,h=>by
  simp only[jQ,Option.some.injEq] at hp
  subst hp
  simp only[bz,Option.some.injEq] at h
  subst h
  exact⟨us,rfl,hv⟩
 | (i,x)::ps,qs,hp,cs,cs',us,hv,h=>by
  simp only[jQ] at hp
  split at hp
  ·rename_i y l hy hl
   simp only[Option.some.injEq] at hp
   subst hp
   simp only[bz] at h
   split at h
   ·rename_i hc
    obtain⟨hflat,hlen,hle⟩:=hc
    have e1:=an hT hy
    have hvx:=e1.cells hflat
    obtain⟨us',hfill,hv'⟩:=mA hT ps l hl _ cs' _ (hvx.setCells (i*sz) hv) h
    refine⟨us',?_,hv'⟩
    have hsz:(a.eval x).cells.size=sz:=by rw[← Array.length_toList,hvx.1,hlen]
    rw[eu,List.map_cons,nB _ _ i (i*sz) sz _ _ rfl hsz (by rw[hsz,List.size_toArray,hv.1]; omega)]
    exact hfill
   ·cases h
  ·cases hp
theorem BD {fs:Array Field} {places:List (Nat × Nat)} (h:lc P fs=some places) (i:Nat) (f:Field) (n:Nat) (hf:fs[i]? = some f) (hn:dh P f.type=some n):places.toArray[i]? = some (f.offset,n):=by
 unfold lc at h
 have gen:∀ (l:List Field) (ps:List (Nat × Nat)),l.mapM (fun f=>(P.info? f.type).map fun i=>(f.offset,i.size))=some ps→∀ (i:Nat),l[i]? = some f→ps[i]? = some (f.offset,n):=by
  intro l
  induction l with
  | nil=>intro ps _ i hi; simp at hi
  | cons g l ih =>
   intro ps hps i hi
   simp only[List.mapM_cons,Option.bind_eq_bind,Option.pure_def] at hps
   cases hg:P.info? g.type with
   | none=>simp[hg] at hps
   | some ig =>
    cases hr:l.mapM (fun f=>(P.info? f.type).map fun i=>(f.offset,i.size)) with
    | none=>simp[hg,hr] at hps
    | some rest =>
     simp[hg,hr] at hps
     subst hps
     cases i with
     | zero =>
      simp only[List.getElem?_cons_zero,Option.some.injEq] at hi
      subst hi
      simp only[dh,hg,Option.map_some,Option.some.injEq] at hn
      simp[hn]
     | succ i=>simpa using ih rest hr i (by simpa using hi)
 have:=gen fs.toList places h i (by simpa using hf)
 simpa using this
theorem uT {t:TypeId} {parts:Array (Nat × Operand)} {z:List LV} {qs:List (Nat × Nat × LO)} (hop:o.op=.build t parts) (hz:cd P t=some z)
  (ht:(∃ fs places,P.underlying t=some (.struct fs)∧lc P fs=some places∧lK P fs parts.toList=some qs)∨(∃ n e m,P.underlying t=some (.array n e)∧dh P e=some m∧lq m parts.toList=some qs))
  (hT:TRel DS F J ts a) (hH:HRel F J h w) (hs:ab pos ts h (.build z qs)=some (v,h')):aG P F J a w o h' v:=by
 simp only[ab] at hs
 split at hs
 ·rename_i cs hcs
  split at hs
  ·obtain⟨rfl,rfl⟩:=aI hs
   obtain⟨it,zu,hit,hzu,hlit⟩:=ed hz
   have hv0:VL F J z zu.cells.toList:=fV hlit
   have hparts:(parts.map fun (p:Nat × Operand)=>(p.1,a.eval p.2)).toList=eu a parts.toList:=by rw[Array.toList_map]; rfl
   have fin:∀ us' : List Value,P.built t (eu a parts.toList)=some us'.toArray→VL F J cs us'→aG P F J a w o h' (mkAgg cs):=by
    intro us' hb hv'
    refine Good.op (s:=Instr.build t (parts.map fun (p:Nat × Operand)=>(p.1,a.eval p.2))) (by simp only[execOp,hop]) (.same hH hv'.mkAgg ?_)
    exact run_build w t _ _ (by rw[hparts]; exact hb)
   rcases ht with ⟨fs,places,hu,hpl,hp⟩ | ⟨n,e,m,hu,hm,hp⟩
   ·obtain⟨us',hfill,hv'⟩:=kW (P:=P) (fs:=fs) (places:=(places.toArray[·]?)) (BD hpl) hT parts.toList qs hp z cs zu.cells.toList hv0 hcs
    refine fin us' ?_ hv'
    unfold Program.built
    simp only[lc] at hpl
    simp only[hit,hu,hzu,hpl]
    simpa using hfill
   ·obtain⟨us',hfill,hv'⟩:=ki (sz:=m) hT parts.toList qs hp z cs zu.cells.toList hv0 hcs
    refine fin us' ?_ hv'
    obtain⟨ie,hie,rfl⟩ : ∃ ie,P.info? e=some ie∧ie.size=m:=by simpa[dh,Option.map_eq_some_iff] using hm
    unfold Program.built
    simp only[hit,hu,hzu,hie]
    simpa using hfill
  ·cases hs
 ·cases hs
end
end LM
namespace LM
open Go Go.RowKit
section
variable {P:Program} {F F' : Fz} {J J' : JMap} {w w' : World} {h h' : Heap}
theorem BRel.mono {i:Info} {blk:LB} (hF:F.le F') (hJ:JLe J J') (hb:i.virt=false→w'.heap[i.cb]? = w.heap[i.cb]?∧(∀ o,F'.cell i.cb o=F.cell i.cb o)∧F'.map i.cb=F.map i.cb)
  (h:BRel F J i w blk):BRel F' J' i w' blk:=by
 cases blk with
 | cells g cs fz =>
  obtain⟨h1,h2,h3,h4⟩:=h
  refine⟨h1,h2,h3,fun hv=>?_⟩
  obtain⟨e1,e2,_⟩:=hb hv
  obtain⟨arr,el,a1,a2,a3,a4,a5⟩:=h4 hv
  exact⟨arr,el,e1.trans a1,a2,a3,fun k x hx=>let ⟨u,hu,hr,hc⟩:=a4 k x hx; ⟨u,hu,hr.mono hF hJ,hc⟩,fun o ho=>(e2 o).trans (a5 o ho)⟩
 | map ks vs fz =>
  obtain⟨h1,h2,es,clk,a1,a2,a3,a4,a5,a6⟩:=h
  obtain⟨e1,_,e3⟩:=hb h2
  exact⟨h1,h2,es,clk,e1.trans a1,a2,a3,fun k x hx=>let ⟨e,he,hr⟩:=a4 k x hx; ⟨e,he,hr.mono hF⟩,fun k x hx=>let ⟨e,he,hr⟩:=a5 k x hx; ⟨e,he,hr.mono hF hJ⟩,fun hf=>e3.trans (a6 hf)⟩
 | iter s pos =>
  obtain⟨h1,h2,h3,h4,b,hb1,hb2⟩:=h
  obtain⟨e1,_,_⟩:=hb h2
  exact⟨h1,h2,h3,h4,b,hb1,e1.trans hb2⟩
 | dead=>exact h.elim
theorem JLe.push (J:JMap) (x:Option Info):JLe J (J++[x]):=by
 intro b i hb
 have hl:=(List.getElem?_eq_some_iff.1 hb).1
 exact⟨i,by rw[List.getElem?_append_left hl]; exact hb,Nat.le_refl _,fun _=>rfl,fun _=>rfl⟩
theorem JLe.append (J:JMap) (l:List (Option Info)):JLe J (J++l):=by
 intro b i hb
 have hl:=(List.getElem?_eq_some_iff.1 hb).1
 exact⟨i,by rw[List.getElem?_append_left hl]; exact hb,Nat.le_refl _,fun _=>rfl,fun _=>rfl⟩
theorem HRel.pushDead (hH:HRel F J h w) (n:Nat):HRel F (J++List.replicate n none) (h++List.replicate n .dead) w:=by
 have hJ:=JLe.append J (List.replicate n none)
 have out:∀ (b:Nat) (i:Info),(J++List.replicate n none)[b]? = some (some i)→J[b]? = some (some i):=by
  intro b i hb
  rcases Nat.lt_or_ge b J.length with hl | hl
  ·rwa [List.getElem?_append_left hl] at hb
  ·rw[List.getElem?_append_right hl,List.getElem?_replicate] at hb
   split at hb<;>simp at hb
 refine⟨by simp[hH.len],fun b blk hb hd=>?_,fun b hb=>?_,fun b b' i i' hi hi'=>hH.inj b b' i i' (out b i hi) (out b' i' hi'),fun b i hi=>hH.bound b i (out b i hi),hH.fz⟩
 ·rcases Nat.lt_or_ge b h.length with hl | hl
  ·rw[List.getElem?_append_left hl] at hb
   obtain⟨i,hi,hr⟩:=hH.live b blk hb hd
   exact⟨i,by rw[List.getElem?_append_left (by rw[← hH.len]; exact hl)]; exact hi,hr.mono F.le_refl hJ (fun _=>⟨rfl,fun _=>rfl,rfl⟩)⟩
  ·rw[List.getElem?_append_right hl,List.getElem?_replicate] at hb
   split at hb
   ·simp only[Option.some.injEq] at hb; exact absurd hb.symm hd
   ·cases hb
 ·rcases Nat.lt_or_ge b h.length with hl | hl
  ·rw[List.getElem?_append_left hl] at hb
   rw[List.getElem?_append_left (by rw[← hH.len]; exact hl)]
   exact hH.dead b hb
  ·have hlt:b<(h++List.replicate n LB.dead).length:=(List.getElem?_eq_some_iff.1 hb).1
   rw[List.getElem?_append_right (by rw[← hH.len]; exact hl),List.getElem?_replicate,if_pos]
   simp at hlt
   rw[← hH.len]
   omega
theorem Ext.pushDead (F:Fz) (J:JMap) (w:World) (n:Nat):Ext F J w F (J++List.replicate n none) w:=by
 refine⟨F.le_refl,JLe.append _ _,rfl,rfl,rfl,Nat.le_refl _,fun _ _ _=>⟨rfl,fun _=>rfl,rfl⟩,fun b i hb hv _=>⟨b,i,?_,hv,rfl⟩⟩
 rcases Nat.lt_or_ge b J.length with hl | hl
 ·rwa [List.getElem?_append_left hl] at hb
 ·rw[List.getElem?_append_right hl,List.getElem?_replicate] at hb
  split at hb<;>simp at hb
theorem HRel.change (hH:HRel F J h w) {b:Nat} {i' : Info} {blk' : LB} (hb:b<J.length) (hd:blk'≠.dead)
  (hold:∀ i:Info,J[b]? = some (some i)→i.gen≤i'.gen∧(i'.gen=i.gen→i'=i)∧(i.fix=true→i'=i))
  (hos:w'.os=w.os) (htape:w'.tape=w.tape) (hout:w'.output=w.output) (hsize:w.heap.size≤w'.heap.size)
  (hother:∀ k,k<w.heap.size→(∀ i:Info,J[b]? = some (some i)→i.virt=false→i.cb≠k)→w'.heap[k]? = w.heap[k]?)
  (hcb:i'.virt=false→i'.cb<w'.heap.size∧(w.heap.size≤i'.cb∨∃ i:Info,J[b]? = some (some i)∧i.virt=false∧i.cb=i'.cb))
  (hB:BRel F (J.set b (some i')) i' w' blk') (hfz:FzOk F w'):HRel F (J.set b (some i')) (h.set b blk') w'∧Ext F J w F (J.set b (some i')) w':=by
 have hJ:JLe J (J.set b (some i')):=by
  intro c i hc
  by_cases e:b=c
  ·subst e
   obtain⟨g1,g2,g3⟩:=hold i hc
   exact⟨i',by rw[List.getElem?_set_self hb],g1,g2,g3⟩
  ·exact⟨i,by rw[List.getElem?_set_ne e]; exact hc,Nat.le_refl _,fun _=>rfl,fun _=>rfl⟩
 have out:∀ (c:Nat) (i:Info),c≠b→(J.set b (some i'))[c]? = some (some i)→J[c]? = some (some i):=by
  intro c i hne hc
  rwa [List.getElem?_set_ne (fun e=>hne e.symm)] at hc
 -- the blocks of the others are others
 have apart:∀ (c:Nat) (i:Info),c≠b→J[c]? = some (some i)→i.virt=false→w'.heap[i.cb]? = w.heap[i.cb]?:=by
  intro c i hne hc hv
  refine hother _ (hH.bound c i hc hv) fun i2 hi2 hv2 e=>hne ?_
  exact (hH.inj b c i2 i hi2 hc hv2 hv e).symm
 constructor
 ·refine⟨by simp[hH.len],fun c blk hc hdc=>?_,fun c hc=>?_,?_,fun c i hi hv=>?_,hfz⟩
  ·by_cases e:b=c
   ·subst e
    have hl:b<h.length:=by rw[hH.len]; exact hb
    rw[List.getElem?_set_self hl] at hc
    simp only[Option.some.injEq] at hc
    subst hc
    exact⟨i',by rw[List.getElem?_set_self hb],hB⟩
   ·rw[List.getElem?_set_ne e] at hc
    obtain⟨i,hi,hr⟩:=hH.live c blk hc hdc
    exact⟨i,by rw[List.getElem?_set_ne e]; exact hi,hr.mono F.le_refl hJ (fun hv=>⟨apart c i (fun e'=>e e'.symm) hi hv,fun _=>rfl,rfl⟩)⟩
  ·by_cases e:b=c
   ·subst e
    have hl:b<h.length:=by rw[hH.len]; exact hb
    rw[List.getElem?_set_self hl] at hc
    simp only[Option.some.injEq] at hc
    exact absurd hc hd
   ·rw[List.getElem?_set_ne e] at hc ⊢
    exact hH.dead c hc
  ·-- no two have one block
   have one:∀ (c:Nat) (i:Info),c≠b→(J.set b (some i'))[c]? = some (some i)→i.virt=false→i'.virt=false→i'.cb≠i.cb:=by
    intro c i hne hc hv hv' e
    have hc':=out c i hne hc
    obtain⟨_,h1 | ⟨i2,hi2,hv2,e2⟩⟩:=hcb hv'
    ·have:=hH.bound c i hc' hv; omega
    ·exact hne (hH.inj b c i2 i hi2 hc' hv2 hv (e2.trans e)).symm
   intro c c' j j' hc hc' hv hv' e
   by_cases e1:b=c
   ·subst e1
    by_cases e2:b=c'
    ·exact e2
    ·rw[List.getElem?_set_self hb] at hc
     simp only[Option.some.injEq] at hc
     subst hc
     exact absurd e (one c' j' (fun x=>e2 x.symm) hc' hv' hv)
   ·by_cases e2:b=c'
    ·subst e2
     rw[List.getElem?_set_self hb] at hc'
     simp only[Option.some.injEq] at hc'
     subst hc'
     exact absurd e.symm (one c j (fun x=>e1 x.symm) hc hv hv')
    ·exact hH.inj c c' j j' (out c j (fun x=>e1 x.symm) hc) (out c' j' (fun x=>e2 x.symm) hc') hv hv' e
  ·by_cases e:b=c
   ·subst e
    rw[List.getElem?_set_self hb] at hi
    simp only[Option.some.injEq] at hi
    subst hi
    exact (hcb hv).1
   ·exact Nat.lt_of_lt_of_le (hH.bound c i (out c i (fun x=>e x.symm) hi) hv) hsize
 ·refine⟨F.le_refl,hJ,hos,htape,hout,hsize,fun k hk hne=>⟨hother k hk fun i hi hv=>hne b i hi hv,fun _=>rfl,rfl⟩,fun c i hi hv hlt=>?_⟩
  by_cases e:b=c
  ·subst e
   rw[List.getElem?_set_self hb] at hi
   simp only[Option.some.injEq] at hi
   subst hi
   obtain⟨_,h1 | ⟨i2,hi2,hv2,e2⟩⟩:=hcb hv
   ·omega
   ·exact⟨b,i2,hi2,hv2,e2⟩
  ·exact⟨c,i,out c i (fun x=>e x.symm) hi,hv,rfl⟩
theorem HRel.elsewhere (hH:HRel F J h w) (hF:F.le F') (hB:Below w.heap.size w w') (hsame:∀ cb,cb<w.heap.size→(∀ o,F'.cell cb o=F.cell cb o)∧F'.map cb=F.map cb) (hfz:FzOk F' w') :
  HRel F' J h w'∧Ext F J w F' J w':=by
 refine⟨⟨hH.len,fun b blk hb hd=>?_,hH.dead,hH.inj,fun b i hi hv=>Nat.lt_of_lt_of_le (hH.bound b i hi hv) hB.size,hfz⟩,
  ⟨hF,.refl J,hB.os,hB.tape,hB.output,hB.size,fun cb hcb _=>⟨hB.block cb hcb,(hsame cb hcb).1,(hsame cb hcb).2⟩,fun b i hi hv _=>⟨b,i,hi,hv,rfl⟩⟩⟩
 obtain⟨i,hi,hr⟩:=hH.live b blk hb hd
 exact⟨i,hi,hr.mono hF (.refl J) fun hv=>⟨hB.block _ (hH.bound b i hi hv),hsame _ (hH.bound b i hi hv)⟩⟩
def dW (pos:Option Nat) (h:Heap):Prop:=∀ p,pos=some p→h[p]? = some .dead
def newJ (pos:Option Nat) (i:Info) (J:JMap):JMap :=
 match pos with
 | none=>J++[some i]
 | some p=>J.set p (some i)
theorem je (w:World) (ob:Obj):(w.alloc ob).heap[w.heap.size]? = some ob:=by
 show (w.heap.push ob)[w.heap.size]? = _
 simp
theorem FzOk.alloc (h:FzOk F w) (ob:Obj):FzOk F (w.alloc ob):=by
 refine⟨fun b o v hb=>?_,fun r es hr=>?_⟩
 ·have:=h.cell b o v hb
  have hlt:b<w.heap.size:=by
   unfold World.cell? at this
   split at this
   ·rename_i hx; exact (Array.getElem?_eq_some_iff.1 hx).1
   ·cases this
  rw[← this]
  exact World.cell?_of_block (w:=w) (a:=⟨b,o,none⟩) (Below.heap_alloc w ob b hlt)
 ·obtain⟨clk,hc⟩:=h.map r es hr
  have hlt:r<w.heap.size:=(Array.getElem?_eq_some_iff.1 hc).1
  exact⟨clk,by rw[Below.heap_alloc w ob r hlt]; exact hc⟩
theorem HRel.alloc (hH:HRel F J h w) {pos:Option Nat} (hp:dW pos h) (ob:Obj) (i:Info) (blk:LB) (hd:blk≠.dead) (hv:i.virt=false) (hcb:i.cb=w.heap.size)
  (hB:BRel F (newJ pos i J) i (w.alloc ob) blk):HRel F (newJ pos i J) (cN pos blk h) (w.alloc ob)∧Ext F J w F (newJ pos i J) (w.alloc ob)∧(newJ pos i J)[b7 pos h]? = some (some i):=by
 have hsz:(w.alloc ob).heap.size=w.heap.size+1:=by show (w.heap.push ob).size=_; simp
 cases pos with
 | none =>
  have h1:=hH.pushDead 1
  have hl:J.length<(J++List.replicate 1 none).length:=by simp
  have eJ:(J++List.replicate 1 none).set J.length (some i)=J++[some i]:=by simp
  have eh:(h++List.replicate 1 LB.dead).set J.length blk=h++[blk]:=by rw[← hH.len]; simp
  have hnone:∀ i2:Info,(J++List.replicate 1 none)[J.length]? = some (some i2)→False:=by intro i2 h2; simp at h2
  have:=h1.change (b:=J.length) (i':=i) (blk':=blk) (w':=w.alloc ob) hl hd (fun i2 h2=>(hnone i2 h2).elim) rfl rfl rfl (by omega)
   (fun k hk _=>Below.heap_alloc w ob k hk) (fun _=>⟨by omega,.inl (by omega)⟩) (by rw[eJ]; exact hB) (hH.fz.alloc ob)
  rw[eJ,eh] at this
  exact⟨this.1,(Ext.pushDead F J w 1).trans this.2,by simp[newJ,b7,hH.len]⟩
 | some p =>
  have hdead:=hH.dead p (hp p rfl)
  have hl:p<J.length:=(List.getElem?_eq_some_iff.1 hdead).1
  have:=hH.change (b:=p) (i':=i) (blk':=blk) (w':=w.alloc ob) hl hd (fun i2 h2=>by rw[hdead] at h2; simp at h2) rfl rfl rfl (by omega)
   (fun k hk _=>Below.heap_alloc w ob k hk) (fun _=>⟨by omega,.inl (by omega)⟩) hB (hH.fz.alloc ob)
  exact⟨this.1,this.2,by simp[newJ,b7,hl]⟩
theorem BRel.newCells {i:Info} {cs:List LV} {us:List Value} {arr:Array Value} {el:TypeId} (hi:i.cb=w.heap.size) (hb:i.base=0) (hs:i.size=arr.size) (hg:i.fix=false) (hvl:VL F J cs us)
  (hus:∀ (k:Nat) (x:Value),us[k]? = some x→arr[k]? = some x) (hle:cs.length≤arr.size) (hv:i.virt=false) (hF:FzOk F w):BRel F J i (w.alloc (.cells arr el (0,0))) (.cells i.gen cs 0):=by
 refine⟨rfl,hg,fun h=>(by rw[hv] at h; cases h),fun _=>⟨arr,el,by rw[hi]; exact je w _,hs.symm,by omega,fun k x hx=>?_,fun o _=>?_⟩⟩
 ·obtain⟨u,hu,hr,hc⟩:=hvl.2 k x hx
  exact⟨u,by rw[hb,Nat.zero_add]; exact hus k u hu,hr,hc⟩
 ·rw[hi]
  cases hc:F.cell w.heap.size o with
  | none=>rfl
  | some v =>
   have:=hF.cell _ _ _ hc
   simp[World.cell?] at this
end
end LM
namespace LM
open Go Go.RowKit
variable {DS:List Deferred}
section
variable {P:Program} {F:Fz} {J:JMap} {a:Act} {w:World} {o:Oper} {ts:List LV} {h h' : Heap} {v:LV} {pos:Option Nat}
theorem i9 (e:TypeId) (cells:Array Value):(newRow e cells).run P w=.ok ⟨w.heap.size,0,none⟩ (w.alloc (.cells cells e (0,0))):=rfl
theorem Good.newVar {cs:List LV} {us:List Value} {e:TypeId} {r:Result Value} (g:Nat) (hH:HRel F J h w) (hp:dW pos h) (hv:VL F J cs us)
  (hr:r=.ok (.pointer (some ⟨w.heap.size,0,none⟩)) (w.alloc (.cells us.toArray e (0,0)))):Good F J w (cN pos (.cells g cs 0) h) (.ptr (b7 pos h) g 0) r:=by
 let i:Info:=⟨g,false,false,w.heap.size,0,us.length⟩
 have hJ:JLe J (newJ pos i J):=by
  cases pos with
  | none=>exact JLe.push J _
  | some p =>
   have hdead:=hH.dead p (hp p rfl)
   intro b i2 hb
   have:p≠b:=by rintro rfl; rw[hdead] at hb; simp at hb
   exact⟨i2,by simp only[newJ]; rw[List.getElem?_set_ne this]; exact hb,Nat.le_refl _,fun _=>rfl,fun _=>rfl⟩
 have hB:BRel F (newJ pos i J) i (w.alloc (.cells us.toArray e (0,0))) (.cells g cs 0) :=
  BRel.newCells (i:=i) rfl rfl (by simp[i]) rfl (hv.mono F.le_refl hJ) (fun k x hx=>by simpa using hx) (by simp[hv.1]) rfl hH.fz
 obtain⟨h1,h2,h3⟩:=hH.alloc hp (.cells us.toArray e (0,0)) i (.cells g cs 0) (by simp) rfl rfl hB
 exact⟨_,_,F,newJ pos i J,hr,.ptr _ _ _ _ ⟨i,_,h3,Nat.le_refl _,rfl,fun _=>⟨rfl,rfl⟩⟩,h1,h2⟩
theorem RJ {e:TypeId} {z:List LV} {g:Nat} (hop:o.op=.alloc e) (hz:cd P e=some z) (hH:HRel F J h w) (hp:dW pos h) (hs:ab pos ts h (.new z g)=some (v,h')):aG P F J a w o h' v:=by
 obtain⟨rfl,rfl⟩:=aI hs
 obtain⟨it,zu,hit,hzu,hlit⟩:=ed hz
 refine Good.op (s:=Instr.alloc e true (.tuple #[])) (by simp only[execOp,hop]) (Good.newVar (e:=e) g hH hp (fV hlit) ?_)
 simp only[Instr.alloc,zeroValue,typeInfo,Sem.run_bind,run_program,Result.andThen_ok,hit,hzu,Sem.run_pure,newVar,i9]
theorem Qb {e:TypeId} {x:Operand} {y:LO} (hop:o.op=.box e x) (h1:aE x=some y) (hT:TRel DS F J ts a) (hH:HRel F J h w) (hp:dW pos h) (hs:ab pos ts h (.box y)=some (v,h')):aG P F J a w o h' v:=by
 simp only[ab] at hs
 split at hs
 ·rename_i hf
  obtain⟨rfl,rfl⟩:=aI hs
  have e1:=an hT h1
  refine Good.op (s:=Instr.box e (a.eval x)) (by simp only[execOp,hop]) (Good.newVar (e:=e) 0 hH hp (e1.cells hf) ?_)
  simp only[Instr.box,newVar,Sem.run_bind,i9,Result.andThen_ok,Sem.run_pure]
 ·cases hs
theorem Good.newSlice {cs:List LV} {us:List Value} {arr:Array Value} {e:TypeId} {len cap:Nat} {esz kcap:Option Nat} {r:Result Value} (hH:HRel F J h w) (hp:dW pos h) (hv:VL F J cs us) (hlen:len≤cap) (hk:∀ k,kcap=some k→k=cap)
  (harr:∀ (k:Nat) (x:Value),us[k]? = some x→arr[k]? = some x) (hle:cs.length≤arr.size) (hsz:cap*ae esz≤arr.size)
  (hr:∃ w1:World,r=.ok (.slice (some ⟨w1.heap.size,0,none⟩) len cap) (w1.alloc (.cells arr e (0,0)))∧w1.heap=w.heap∧w1.os=w.os∧w1.tape=w.tape∧w1.output=w.output) :
  Good F J w (cN pos (.cells 1 cs 0) h) (.slice (b7 pos h) 1 0 len esz kcap) r:=by
 obtain⟨w1,hr,e1,e2,e3,e4⟩:=hr
 -- the draws in between turn nothing
 have hcell:∀ ad,w1.cell? ad=w.cell? ad:=fun ad=>by unfold World.cell?; rw[e1]
 have hfz1:FzOk F w1:=⟨fun b o v hb=>by rw[hcell]; exact hH.fz.cell b o v hb,fun r es hr=>by rw[e1]; exact hH.fz.map r es hr⟩
 obtain⟨hH1,hE1⟩:=hH.elsewhere (F':=F) F.le_refl (w':=w1) ⟨e2,e3,e4,by rw[e1]; exact Nat.le_refl _,fun k _=>by rw[e1]⟩ (fun _ _=>⟨fun _=>rfl,rfl⟩) hfz1
 let i:Info:=⟨1,false,false,w1.heap.size,0,arr.size⟩
 have hJ:JLe J (newJ pos i J):=by
  cases pos with
  | none=>exact JLe.push J _
  | some p =>
   have hdead:=hH.dead p (hp p rfl)
   intro b i2 hb
   have:p≠b:=by rintro rfl; rw[hdead] at hb; simp at hb
   exact⟨i2,by simp only[newJ]; rw[List.getElem?_set_ne this]; exact hb,Nat.le_refl _,fun _=>rfl,fun _=>rfl⟩
 have hB:BRel F (newJ pos i J) i (w1.alloc (.cells arr e (0,0))) (.cells 1 cs 0) :=
  BRel.newCells (i:=i) rfl rfl rfl rfl (hv.mono F.le_refl hJ) harr hle rfl hfz1
 obtain⟨h1,h2,h3⟩:=hH1.alloc hp (.cells arr e (0,0)) i (.cells 1 cs 0) (by simp) rfl rfl hB
 refine⟨_,_,F,newJ pos i J,hr,.slice _ _ _ _ _ _ _ ⟨i,_,cap,h3,Nat.le_refl _,rfl,hlen,by simp,fun k hk'=>(hk k hk').symm,fun _=>⟨by simp[i],fun _=>⟨rfl,by simp[i]; exact hsz⟩⟩⟩,h1,hE1.trans h2⟩
def Fz.add (F:Fz) (b:Nat) (g:Nat→Option Value):Fz where
 cell:=fun b' o=>match F.cell b' o with
  | some v=>some v
  | none=>if b'=b then g o else none
 map:=F.map
theorem Fz.le_add (F:Fz) (b:Nat) (g:Nat→Option Value):F.le (F.add b g):=⟨fun b' o v h=>by simp[Fz.add,h],fun _ _ h=>h⟩
theorem FzOk.add {g:Nat→Option Value} {b:Nat} (h:FzOk F w) (hg:∀ o v,g o=some v→w.cell? ⟨b,o,none⟩=some v):FzOk (F.add b g) w:=by
 refine⟨fun b' o v hb=>?_,h.map⟩
 simp only[Fz.add] at hb
 split at hb
 ·rename_i v' hv'
  simp only[Option.some.injEq] at hb
  subst hb
  exact h.cell _ _ _ hv'
 ·split at hb
  ·rename_i e
   subst e
   exact hg o v hb
  ·cases hb
theorem Fz.add_new (h:FzOk F w) {b:Nat} (hb:w.heap.size≤b) (g:Nat→Option Value) (o:Nat):(F.add b g).cell b o=g o:=by
 simp only[Fz.add]
 split
 ·rename_i v hv
  have:=h.cell _ _ _ hv
  simp only[World.cell?] at this
  rw[Array.getElem?_eq_none hb] at this
  cases this
 ·simp
theorem pX {z:Option Nat} {us:List Value}:∀ (n:Nat) (l:List CV) (xs:List CV) (off:Nat),CL F l (us.drop off)→bV z n l=some xs→xs.length=n∧∀ (i:Nat) (x:CV),xs[i]? = some x→x.cells.length=ae z∧CL F x.cells ((us.drop (off+i*ae z)).take (ae z))
 | 0,l,xs,off,_,h=>by
  simp only[bV,Option.some.injEq] at h
  subst h
  exact⟨rfl,by simp⟩
 | n+1,l,xs,off,hl,h=>by
  simp only[bV] at h
  split at h
  ·cases h
  ·rename_i x hx
   split at h
   ·cases h
   ·rename_i r hr
    simp only[Option.some.injEq] at h
    subst h
    have hl' : CL F (l.drop (ae z)) (us.drop (off+ae z)):=by have:=hl.drop (ae z); rwa [List.drop_drop] at this
    obtain⟨h1,h2⟩:=pX n _ r (off+ae z) hl' hr
    refine⟨by simp[h1],fun i y hy=>?_⟩
    cases i with
    | zero =>
     simp only[List.getElem?_cons_zero,Option.some.injEq] at hy
     subst hy
     cases z with
     | none =>
      simp only[bO] at hx
      cases l with
      | nil=>simp at hx
      | cons c l =>
       simp only[List.head?_cons,Option.some.injEq] at hx
       subst hx
       obtain⟨u,hu,hc,hcell⟩:=hl.2 0 c rfl
       have hf:=GR (hc.flat_of_cell hcell)
       rw[hf]
       refine⟨rfl,?_⟩
       have:=hl.take 1
       simpa[ae] using this
     | some k =>
      simp only[bO] at hx
      split at hx
      ·rename_i hk
       simp only[Option.some.injEq] at hx
       subst hx
       simp only[CV.cells,ae,Nat.zero_mul,Nat.add_zero]
       exact⟨by simp; omega,hl.take k⟩
      ·cases hx
    | succ i =>
     have:=h2 i y (by simpa using hy)
     refine⟨this.1,?_⟩
     have e:off+ae z+i*ae z=off+(i+1)*ae z:=by rw[Nat.add_mul]; omega
     rw[← e]
     exact this.2
theorem CRel.mkSlice {z:Option Nat} {n b o cap:Nat} {l xs:List CV} {us:List Value} (hl:CL F l us) (hx:bV z n l=some xs) (hc:n≤cap) (hF:∀ (k:Nat) (x:Value),us[k]? = some x→F.cell b (o+k)=some x) :
  CRel F (.slice xs) (.slice (some ⟨b,o,none⟩) n cap):=by
 obtain⟨h1,h2⟩:=pX (us:=us) n l xs 0 (by simpa using hl) hx
 subst h1
 refine .slice xs b o cap (ae z) (fun i j=>(us.getD (i*ae z+j) undef)) hc (fun i x hx=>(h2 i x hx).1) ?_ ?_ ?_
 all_goals
  intro i x j y hx hy
  obtain⟨hcl,hv⟩:=h2 i x hx
  obtain⟨u,hu,hr,hcell⟩:=hv.2 j y hy
  have hj:j<ae z:=by rw[← hcl]; exact (List.getElem?_eq_some_iff.1 hy).1
  rw[List.getElem?_take,if_pos hj,List.getElem?_drop,Nat.zero_add] at hu
  simp only[List.getD_eq_getElem?_getD,hu,Option.getD_some]
 ·rw[Nat.add_assoc]; exact hF _ u hu
 ·exact hr
 ·exact hcell
theorem sR {t e:TypeId} {len const:Nat} {parts:Array (Nat × Operand)} {z:Option Nat} {zs:List LV} {qs:List (Nat × LO)} (hop:o.op=.buildSlice t len parts) (ht:P.underlying t=some (.slice e)) (hz:bX P e=some z) (hzs:cd P e=some zs)
  (hqs:jQ parts.toList=some qs) (hsmall:len*ae z≤2^24) (hzl:zs.length=ae z) (hz0:ae z≠0) (hT:TRel DS F J ts a) (hH:HRel F J h w) (hp:dW pos h)
  (hs:ab pos ts h (.buildSlice const z len zs qs)=some (v,h')):aG P F J a w o h' v:=by
 obtain⟨it,zu,hit,hzu,hlit⟩:=ed hzs
 have hsz:it.size=ae z:=by
  have:=(cm hz).2
  simpa[dh,hit] using this
 have hv0:VL F J zs zu.cells.toList:=fV hlit
 have hzc:zu.cells.size=ae z:=by rw[← Array.length_toList,hv0.1,hzl]
 -- the row of zero values
 have hrow:((Array.range (len*ae z)).map (zu.cells[· % zu.cells.size]!)).toList=aP len zu.cells.toList:=by
  apply List.ext_getElem?
  intro i
  have hlen:(aP len zu.cells.toList).length=len*ae z:=by simp[aP,hzc]
  by_cases hi:i<len*ae z
  ·have hm:i % ae z<ae z:=Nat.mod_lt _ (by omega)
   have hrep:∀ (n i:Nat),i<n*ae z→(aP n zu.cells.toList)[i]? = zu.cells.toList[i % ae z]?:=by
    intro n
    induction n with
    | zero=>intro i hi; simp at hi
    | succ n ih =>
     intro i hi
     simp only[aP,List.replicate_succ,List.flatten_cons]
     have hl:zu.cells.toList.length=ae z:=by rw[Array.length_toList,hzc]
     by_cases hlt:i<ae z
     ·rw[List.getElem?_append_left (by rw[hl]; exact hlt),Nat.mod_eq_of_lt hlt]
     ·rw[List.getElem?_append_right (by rw[hl]; omega),hl]
      have:=ih (i-ae z) (by rw[Nat.add_mul] at hi; omega)
      simp only[aP] at this
      rw[this,← Nat.mod_eq_sub_mod (by omega)]
   rw[hrep len i hi]
   simp only[Array.toList_map,List.getElem?_map,Array.toList_range,List.getElem?_range hi,Option.map_some,hzc]
   have hm' : i % ae z<zu.cells.size:=by rw[hzc]; exact hm
   rw[getElem!_pos zu.cells _ hm']
   simp[hm']
  ·rw[List.getElem?_eq_none (by simp; omega),List.getElem?_eq_none (by rw[hlen]; omega)]
 have hparts:(parts.map fun (p:Nat × Operand)=>(p.1,a.eval p.2)).toList=eu a parts.toList:=by rw[Array.toList_map]; rfl
 simp only[ab] at hs
 split at hs
 ·rename_i cs hcs
  obtain⟨us,hfill,hv⟩:=mA (sz:=ae z) hT parts.toList qs hqs _ cs (aP len zu.cells.toList) (VL.flatten len hv0) hcs
  have hcl:cs.length=len*ae z:=by
   have hfl:∀ (qs:List (Nat × LO)) (c c' : List LV),bz ts (ae z) qs c=some c'→c'.length=c.length:=by
    intro qs
    induction qs with
    | nil=>intro c c' h; simp only[bz,Option.some.injEq] at h; rw[h]
    | cons q qs ih =>
     intro c c' h
     simp only[bz] at h
     split at h
     ·rw[ih _ _ h,eU]
     ·cases h
   rw[hfl qs _ _ hcs]
   simp[aP,hzl]
  have hrun:(Instr.buildSlice t len (parts.map fun (p:Nat × Operand)=>(p.1,a.eval p.2))).run P w=.ok (.slice (some ⟨w.heap.size,0,none⟩) len len) (w.alloc (.cells us.toArray e (0,0))):=by
   by_cases hl0:len=0
   ·subst hl0
    have hq0:qs=[]:=by
     cases qs with
     | nil=>rfl
     | cons q qs =>
      simp only[bz] at hcs
      split at hcs
      ·rename_i hc
       obtain⟨_,hc1,hc2⟩:=hc
       have hz' : (aP 0 zs).length=0:=rfl
       rw[hz'] at hc2
       omega
      ·cases hcs
    have hp0:parts=#[]:=by
     have:parts.toList=[]:=by
      cases hpl:parts.toList with
      | nil=>rfl
      | cons p ps =>
       rw[hpl] at hqs
       simp only[jQ] at hqs
       split at hqs
       ·subst hq0; cases hqs
       ·cases hqs
     simpa using this
    subst hp0
    have hus0:us=[]:=by
     have:=hv.1
     rw[hcl] at this
     simpa using this
    subst hus0
    simp only[Instr.buildSlice,Sem.run_bind,run_underlying ht,Result.andThen_ok,b8 (cm hz).2,Nat.zero_mul,if_true]
    rw[if_neg (by decide)]
    have e1:(Array.map (fun p:Nat × Operand=>(p.1,a.eval p.2)) #[]).toList=[]:=by simp
    have e2:(Array.map (fun x:Nat=>(#[]:Array Value)[x % (#[]:Array Value).size]!) (Array.range 0))=#[]:=by simp
    rw[e1]
    simp only[pure_bind,e2,Instr.fill]
    rfl
   ·refine run_buildSlice w t e len _ us.toArray it zu ht hit hzu (by rw[hsz]; omega) (by rw[hsz]; have:=Nat.mul_ne_zero hl0 hz0; omega) ?_
    rw[hparts,hsz,← hfill]
    congr 1
    rw[← hrow]
  split at hs
  ·rename_i hflat
   split at hs
   ·-- a slice of its own
    obtain⟨rfl,rfl⟩:=aI hs
    exact Good.op (s:=Instr.buildSlice t len (parts.map fun (p:Nat × Operand)=>(p.1,a.eval p.2))) (by simp only[execOp,hop])
     (Good.newSlice (e:=e) hH hp hv (Nat.le_refl _) (by rintro k hk; cases hk; rfl) (fun k x hx=>by simpa using hx) (by simp[hv.1]) (by simp[hv.1,hcl]) ⟨w,hrun,rfl,rfl,rfl,rfl⟩)
   ·-- a slice whose room is left open
    obtain⟨rfl,rfl⟩:=aI hs
    exact Good.op (s:=Instr.buildSlice t len (parts.map fun (p:Nat × Operand)=>(p.1,a.eval p.2))) (by simp only[execOp,hop])
     (Good.newSlice (e:=e) hH hp hv (Nat.le_refl _) (by rintro k hk; cases hk) (fun k x hx=>by simpa using hx) (by simp[hv.1]) (by simp[hv.1,hcl]) ⟨w,hrun,rfl,rfl,rfl,rfl⟩)
   ·cases hs
   ·obtain⟨rfl,rfl⟩:=aI hs
    exact Good.op (s:=Instr.buildSlice t len (parts.map fun (p:Nat × Operand)=>(p.1,a.eval p.2))) (by simp only[execOp,hop])
     (Good.newSlice (e:=e) hH hp hv (Nat.le_refl _) (by rintro k hk; cases hk; rfl) (fun k x hx=>by simpa using hx) (by simp[hv.1]) (by simp[hv.1,hcl]) ⟨w,hrun,rfl,rfl,rfl,rfl⟩)
   ·-- constants
    rename_i l hl
    split at hs
    ·rename_i xs hxs
     obtain⟨rfl,rfl⟩:=aQ hs
     rw[lH hl] at hv
     let F':=F.add w.heap.size (fun o=>us[o]?)
     have hfz:FzOk F' (w.alloc (.cells us.toArray e (0,0))):=(hH.fz.alloc _).add (fun o v hv=>dC (je w _) (by simpa using hv))
     have hF' : ∀ o,F'.cell w.heap.size o=us[o]?:=fun o=>Fz.add_new hH.fz (Nat.le_refl _) _ o
     obtain⟨hH',hE⟩:=hH.elsewhere (F.le_add _ _) ((Below.refl _ w).alloc (Nat.le_refl _) (.cells us.toArray e (0,0)))
      (fun cb hcb=>⟨fun o=>by simp only[Fz.add]; cases F.cell cb o with | some v=>rfl | none=>simp only[if_neg (Nat.ne_of_lt hcb)],rfl⟩) hfz
     refine⟨_,_,F',J,.inl ?_,.c _ _ (CRel.mkSlice (b:=w.heap.size) (o:=0) (cap:=len) ((hv.mono (F.le_add _ _) (.refl J)).toCL) hxs (Nat.le_refl _) (fun k x hx=>by rw[Nat.zero_add,hF']; exact hx)),hH',hE⟩
     simp only[execOp,hop,Sem.run_bind,hrun,Result.andThen_ok,Sem.run_pure]
    ·cases hs
  ·cases hs
 ·cases hs
end
end LM
namespace LM
open Go Go.RowKit
variable {DS:List Deferred}
section
variable {P:Program} {F:Fz} {J:JMap} {a:Act} {w:World} {o:Oper} {ts:List LV} {h h' : Heap} {v:LV} {pos:Option Nat}
theorem JLe.newJ (hH:HRel F J h w) (hp:dW pos h) (i:Info):JLe J (newJ pos i J):=by
 cases pos with
 | none=>exact JLe.push J _
 | some p =>
  have hdead:=hH.dead p (hp p rfl)
  intro b i2 hb
  have:p≠b:=by rintro rfl; rw[hdead] at hb; simp at hb
  exact⟨i2,by simp only[LM.newJ]; rw[List.getElem?_set_ne this]; exact hb,Nat.le_refl _,fun _=>rfl,fun _=>rfl⟩
theorem DB {sz:Nat} (cells:Array Value) (hc:cells.size=sz) (hs:sz≠0) (n:Nat):((Array.range (n*sz)).map (cells[· % cells.size]!)).toList=aP n cells.toList:=by
 apply List.ext_getElem?
 intro i
 have hlen:(aP n cells.toList).length=n*sz:=by simp[aP,hc]
 by_cases hi:i<n*sz
 ·have hm:i % sz<sz:=Nat.mod_lt _ (by omega)
  have hrep:∀ (n i:Nat),i<n*sz→(aP n cells.toList)[i]? = cells.toList[i % sz]?:=by
   intro n
   induction n with
   | zero=>intro i hi; simp at hi
   | succ n ih =>
    intro i hi
    simp only[aP,List.replicate_succ,List.flatten_cons]
    have hl:cells.toList.length=sz:=by rw[Array.length_toList,hc]
    by_cases hlt:i<sz
    ·rw[List.getElem?_append_left (by rw[hl]; exact hlt),Nat.mod_eq_of_lt hlt]
    ·rw[List.getElem?_append_right (by rw[hl]; omega),hl]
     have:=ih (i-sz) (by rw[Nat.add_mul] at hi; omega)
     simp only[aP] at this
     rw[this,← Nat.mod_eq_sub_mod (by omega)]
  rw[hrep n i hi]
  simp only[Array.toList_map,List.getElem?_map,Array.toList_range,List.getElem?_range hi,Option.map_some,hc]
  have hm' : i % sz<cells.size:=by rw[hc]; exact hm
  rw[getElem!_pos cells _ hm']
  simp[hm']
 ·rw[List.getElem?_eq_none (by simp; omega),List.getElem?_eq_none (by rw[hlen]; omega)]
theorem vf {n:Int} (h0:0≤n) (h1:n≤9223372036854775807):IntKind.i64.wrap n=n :=
 IntWalk.i64_in n ⟨by omega,h1⟩
theorem vo {t e:TypeId} {x1 x2:Operand} {y1 y2:LO} {z:Option Nat} {zs:List LV} {it:TypeInfo} (hop:o.op=.makeSlice t x1 x2) (h1:aE x1=some y1) (h2:aE x2=some y2) (ht:P.underlying t=some (.slice e)) (hz:bX P e=some z)
  (hzs:cd P e=some zs) (hit:P.info? e=some it) (hzl:zs.length=ae z) (hz0:ae z≠0) (hT:TRel DS F J ts a) (hH:HRel F J h w) (hp:dW pos h)
  (hs:ab pos ts h (.makeSlice z it.bytes zs y1 y2)=some (v,h')):aG P F J a w o h' v:=by
 have e1:=an hT h1
 have e2:=an hT h2
 obtain⟨it',zu,hit',hzu,hlit⟩:=ed hzs
 rw[hit] at hit'
 simp only[Option.some.injEq] at hit'
 subst hit'
 have hv0:VL F J zs zu.cells.toList:=fV hlit
 have hzc:zu.cells.size=ae z:=by rw[← Array.length_toList,hv0.1,hzl]
 simp only[ab] at hs
 split at hs
 ·rename_i k1 n k2 m hn hm
  rw[hn] at e1
  rw[hm] at e2
  split at hs
  ·rename_i hc
   obtain⟨c0,c1,c2,c3⟩:=hc
   obtain⟨rfl,rfl⟩:=aI hs
   have w1:IntKind.i64.wrap n=n:=vf c0 (by omega)
   have w2:IntKind.i64.wrap m=m:=vf (by omega) c3
   have hlen:(aP m.toNat zs).length=m.toNat*ae z:=by simp[aP,hzl]
   refine Good.op (s:=Instr.makeSlice t (a.eval x1) (a.eval x2)) (by simp only[execOp,hop])
    (Good.newSlice (cs:=aP m.toNat zs) (us:=aP m.toNat zu.cells.toList) (arr:=(aP m.toNat zu.cells.toList).toArray) (e:=e) (cap:=m.toNat) hH hp (VL.flatten _ hv0) (by omega) (by rintro k hk; cases hk; rfl)
     (fun k x hx=>by simpa using hx) (by rw[hlen]; simp[aP,hzc]) (by simp[aP,hzc]) ⟨w,?_,rfl,rfl,rfl,rfl⟩)
   have htl:¬ ((it.bytes:Int)*m > 2^48):=by
    have:(it.bytes:Int)*m=m*it.bytes:=Int.mul_comm _ _
    omega
   have hmn:¬ m<0:=by omega
   have hrow:=DB zu.cells hzc hz0 m.toNat
   simp only[Instr.makeSlice,Sem.run_bind,run_underlying ht,Result.andThen_ok,e1.int_inv,e2.int_inv,asInt,asIntOf,Sem.run_pure,typeInfo,run_program,hit,w1,w2]
   rw[if_neg (by simp[hmn,htl]; omega)]
   simp only[Sem.run_bind,run_askRoom,Result.andThen_ok,b8 (cm hz).2]
   by_cases hm0:m.toNat*ae z=0
   ·rw[if_pos hm0]
    have hmz:m.toNat=0:=by
     rcases Nat.mul_eq_zero.1 hm0 with h | h
     ·exact h
     ·exact absurd h hz0
    rw[hm0]
    simp only[pure_bind,Sem.run_bind,i9,Result.andThen_ok,Sem.run_pure,hmz]
    have:(Array.map (fun x:Nat=>(#[]:Array Value)[x % (#[]:Array Value).size]!) (Array.range 0))=#[]:=by simp
    rw[this]
    simp[aP]
   ·rw[if_neg hm0]
    have hzv:(zeroValue e).run P w=.ok zu w:=by simp only[zeroValue,typeInfo,Sem.run_bind,run_program,Result.andThen_ok,hit,hzu,Sem.run_pure]
    simp only[bind_assoc,pure_bind,Sem.run_bind,hzv,i9,Result.andThen_ok,Sem.run_pure]
    rw[← hrow]
  ·cases hs
 ·cases hs
theorem ou {t:TypeId} {r:Option Operand} (hop:o.op=.makeMap t r) (hr:r=none∨(∃ k n,r=some (.const (.int k n)))∧∃ e f,P.underlying t=some (.map e f)) (hH:HRel F J h w) (hp:dW pos h)
  (hs:ab pos ts h .makeMap=some (v,h')):aG P F J a w o h' v:=by
 obtain⟨rfl,rfl⟩:=aI hs
 let i:Info:=⟨0,false,true,w.heap.size,0,0⟩
 have hB:BRel F (newJ pos i J) i (w.alloc (.map #[] 0)) (.map [] [] false):=by
  refine⟨rfl,rfl,#[],0,je w _,rfl,rfl,by simp,by simp,fun _=>?_⟩
  cases hm:F.map w.heap.size with
  | none=>rfl
  | some es =>
   obtain⟨clk,hc⟩:=hH.fz.map _ _ hm
   simp at hc
 obtain⟨h1,h2,h3⟩:=hH.alloc hp (.map #[] 0) i (.map [] [] false) (by simp) rfl rfl hB
 refine⟨.map (some w.heap.size),_,F,newJ pos i J,.inl ?_,.map _ _ ⟨i,h3,rfl,rfl,rfl⟩,h1,h2⟩
 rcases hr with rfl | ⟨⟨k,n,rfl⟩,e,f,hu⟩
 ·simp only[execOp,hop,Option.map_none,Instr.makeMap,pure_bind,Sem.run_bind,run_newObj,Result.andThen_ok,Sem.run_pure]
  rfl
 ·have:a.eval (.const (.int k n))=.int k n:=rfl
  simp only[execOp,hop,Option.map_some,Instr.makeMap,this,asInt,asIntOf,pure_bind,Sem.run_bind,run_underlying hu,run_newObj,Result.andThen_ok,Sem.run_pure]
  rfl
theorem Ht {z:Option Nat} (hop:o.op=.move (.const (.slice none 0 0))∨o.op=.assign (.const (.slice none 0 0))) (hH:HRel F J h w) (hp:dW pos h)
  (hs:ab pos ts h (.mkNil z)=some (v,h')):aG P F J a w o h' v:=by
 obtain⟨rfl,rfl⟩:=aI hs
 let i:Info:=⟨1,true,false,0,0,0⟩
 have hB:∀ J',BRel F J' i w (.cells 1 [] 0):=fun J'=>⟨rfl,rfl,fun _=>rfl,fun h=>by cases h⟩
 have key:HRel F (newJ pos i J) (cN pos (.cells 1 [] 0) h) w∧Ext F J w F (newJ pos i J) w∧(newJ pos i J)[b7 pos h]? = some (some i):=by
  cases pos with
  | none =>
   have h1:=hH.pushDead 1
   have hl:J.length<(J++List.replicate 1 none).length:=by simp
   have eJ:(J++List.replicate 1 none).set J.length (some i)=J++[some i]:=by simp
   have eh:(h++List.replicate 1 LB.dead).set J.length (.cells 1 [] 0)=h++[.cells 1 [] 0]:=by rw[← hH.len]; simp
   have hnone:∀ i2:Info,(J++List.replicate 1 none)[J.length]? = some (some i2)→False:=by intro i2 h2; simp at h2
   have:=h1.change (b:=J.length) (i':=i) (blk':=.cells 1 [] 0) (w':=w) hl (by simp) (fun i2 h2=>(hnone i2 h2).elim) rfl rfl rfl (Nat.le_refl _) (fun k hk _=>rfl) (fun hv=>by cases hv) (hB _) hH.fz
   rw[eJ,eh] at this
   exact⟨this.1,(Ext.pushDead F J w 1).trans this.2,by simp[newJ,b7,hH.len]⟩
  | some p =>
   have hdead:=hH.dead p (hp p rfl)
   have hl:p<J.length:=(List.getElem?_eq_some_iff.1 hdead).1
   have:=hH.change (b:=p) (i':=i) (blk':=.cells 1 [] 0) (w':=w) hl (by simp) (fun i2 h2=>by rw[hdead] at h2; simp at h2) rfl rfl rfl (Nat.le_refl _) (fun k hk _=>rfl) (fun hv=>by cases hv) (hB _) hH.fz
   exact⟨this.1,this.2,by simp[newJ,b7,hl]⟩
 obtain⟨h1,h2,h3⟩:=key
 refine⟨.slice none 0 0,w,F,newJ pos i J,.inl ?_,.slice _ _ _ _ _ _ _ ⟨i,none,0,h3,Nat.le_refl _,rfl,Nat.le_refl _,fun _=>rfl,by simp,fun _=>⟨fun _=>⟨rfl,rfl⟩,fun hv=>by cases hv⟩⟩,h1,h2⟩
 rcases hop with e | e<;>simp only[execOp,e]<;>rfl
theorem Ko {t:TypeId} {x:Operand} {y:LO} (hop:o.op=.range t x) (h1:aE x=some y) (ht:P.underlying t=some .string) (hT:TRel DS F J ts a) (hH:HRel F J h w) (hp:dW pos h)
  (hs:ab pos ts h (.range y)=some (v,h')):aG P F J a w o h' v:=by
 have e1:=an hT h1
 simp only[ab] at hs
 split at hs
 ·rename_i s hx
  rw[hx] at e1
  obtain⟨b,hb,rfl⟩:=e1.of_c.str_inv
  obtain⟨rfl,rfl⟩:=aI hs
  let i:Info:=⟨0,false,true,w.heap.size,0,0⟩
  have hB:BRel F (newJ pos i J) i (w.alloc (.stringIter b 0)) (.iter b.data.toList 0):=⟨rfl,rfl,rfl,rfl,b,rfl,je w _⟩
  obtain⟨h1,h2,h3⟩:=hH.alloc hp (.stringIter b 0) i (.iter b.data.toList 0) (by simp) rfl rfl hB
  refine⟨.pointer (some ⟨w.heap.size,0,none⟩),_,F,newJ pos i J,.inl ?_,.ptr _ _ _ _ ⟨i,_,h3,Nat.le_refl _,rfl,fun _=>⟨rfl,rfl⟩⟩,h1,h2⟩
  simp only[execOp,hop,Instr.range,Sem.run_bind,run_underlying ht,Result.andThen_ok,hb,pure_bind,run_newObj,Sem.run_pure]
  rfl
 ·cases hs
theorem iA:∀ (vs us:List Value) (off:Nat),(bB us off vs).length=us.length
 | [],us,off=>rfl
 | v::r,us,off=>by simp[bB,iA r]
theorem eP:∀ (vs us:List Value) (off k:Nat),(bB us off vs)[k]? = if off≤k∧k<off+vs.length∧k<us.length then vs[k-off]? else us[k]?
 | [],us,off,k=>by simp only[bB,List.length_nil]; rw[if_neg (by omega)]
 | v::r,us,off,k=>by
  simp only[bB,eP r,List.length_set,List.length_cons]
  by_cases e:off=k
  ·subst e
   rw[if_neg (by omega)]
   by_cases hl:off<us.length
   ·rw[if_pos (by omega),List.getElem?_set_self hl]; simp
   ·rw[if_neg (by omega),List.getElem?_eq_none (by simp; omega),List.getElem?_eq_none (by omega)]
  ·rw[List.getElem?_set_ne e]
   by_cases hc:off+1≤k∧k<off+1+r.length∧k<us.length
   ·rw[if_pos hc,if_pos (by omega)]
    have:k-off=(k-(off+1))+1:=by omega
    rw[this,List.getElem?_cons_succ]
   ·rw[if_neg hc,if_neg (by omega)]
theorem HRel.write (hH:HRel F J h w) {b g fz off:Nat} {cs vs:List LV} {ws:List Value} {i:Info} {arr:Array Value} {el:TypeId} (hb:h[b]? = some (.cells g cs fz)) (hi:J[b]? = some (some i)) (hv:i.virt=false)
  (harr:w.heap[i.cb]? = some (.cells arr el (0,0))) (hvs:VL F J vs ws) (hfz:fz≤off) (hle:off+vs.length≤cs.length) :
  HRel F J (h.set b (.cells g (setCells cs off vs) fz)) (w.setRow i.cb (bB arr.toList (i.base+off) ws).toArray)∧Ext F J w F J (w.setRow i.cb (bB arr.toList (i.base+off) ws).toArray):=by
 obtain⟨i2,hi2,hg,hfix,hvt,hlive⟩:=hH.cellsAt hb
 rw[hi] at hi2
 simp only[Option.some.injEq] at hi2
 subst hi2
 obtain⟨arr2,el2,ha2,hsz,hbase,hun,us,hus,huarr⟩:=hlive hv
 have hvl:=hvs.1
 rw[harr] at ha2
 simp only[Option.some.injEq,Obj.cells.injEq] at ha2
 obtain⟨rfl,rfl,_⟩:=ha2
 have hJs:J.set b (some i)=J:=by
  apply List.ext_getElem?
  intro k
  by_cases e:b=k
  ·subst e; rw[List.getElem?_set_self (List.getElem?_eq_some_iff.1 hi).1,hi]
  ·rw[List.getElem?_set_ne e]
 have hl:b<J.length:=(List.getElem?_eq_some_iff.1 hi).1
 let w':=w.setRow i.cb (bB arr.toList (i.base+off) ws).toArray
 have hw' : w'.heap[i.cb]? = some (.cells (bB arr.toList (i.base+off) ws).toArray el (0,0)):=setRow_heap w i.cb arr _ el (0,0) harr
 have hother:∀ k,k≠i.cb→w'.heap[k]? = w.heap[k]?:=fun k hk=>setRow_other w i.cb k _ hk
 have hkeep:FzOk F w':=by
  refine⟨fun b' o u hF=>?_,fun r es hr=>?_⟩
  ·by_cases e:b'=i.cb
   ·subst e
    have hlt:o<i.base+fz:=by
     rcases Nat.lt_or_ge o (i.base+fz) with h | h
     ·exact h
     ·rw[hun o h] at hF; cases hF
    have:=hH.fz.cell _ _ _ hF
    simp only[World.cell?,harr,hw',Option.isSome_none,Bool.false_eq_true,if_false,List.getElem?_toArray] at this ⊢
    rw[eP,if_neg (by omega)]
    simpa using this
   ·have:=hH.fz.cell _ _ _ hF
    rw[← this]
    exact World.cell?_of_block (w:=w) (a:=⟨b',o,none⟩) (hother b' e)
  ·obtain⟨clk,hc⟩:=hH.fz.map r es hr
   refine⟨clk,?_⟩
   rw[hother r (by rintro rfl; rw[harr] at hc; cases hc)]
   exact hc
 have hB:BRel F (J.set b (some i)) i w' (.cells g (setCells cs off vs) fz):=by
  rw[hJs]
  refine⟨hg.symm,hfix,fun h=>(by rw[hv] at h; cases h),fun _=>⟨_,el,hw',by simp[iA,hsz],by rw[eU]; exact hbase,fun k x hx=>?_,hun⟩⟩
  obtain⟨u,hu,hr,hc⟩:=(hvs.setCells off hus).2 k x hx
  refine⟨u,?_,hr,hc⟩
  have hk:k<cs.length:=by rw[← eU vs cs off]; exact (List.getElem?_eq_some_iff.1 hx).1
  rw[List.getElem?_toArray,eP]
  rw[eP] at hu
  have hul:=hus.1
  by_cases hc:off≤k∧k<off+ws.length
  ·rw[if_pos (by omega)] at hu
   rw[if_pos (by have:=Array.length_toList (xs:=arr); omega)]
   rw[← hu]
   congr 1
   omega
  ·rw[if_neg (by omega)] at hu
   rw[if_neg (by omega)]
   have:=huarr k u hu
   simpa using this
 have:=hH.change (b:=b) (i':=i) (blk':=.cells g (setCells cs off vs) fz) (w':=w') hl (by simp) (fun i2 h2=>by rw[hi] at h2; simp only[Option.some.injEq] at h2; subst h2; exact⟨Nat.le_refl _,fun _=>rfl,fun _=>rfl⟩)
  rfl rfl rfl (by simp[w']) (fun k hk hne=>hother k (fun e=>hne i hi hv e.symm)) (fun _=>⟨by simp only[w',setRow_size]; exact hH.bound b i hi hv,.inr ⟨i,hi,hv,rfl⟩⟩) hB hkeep
 rw[hJs] at this
 exact this
theorem fG {g o:Nat} {arr:Array Value} {el:TypeId} {ws:List Value} (hg:w.heap[g]? = some (.cells arr el (0,0))) (hle:o+ws.length≤arr.size) (h1:∀ v ∈ ws,v.oneCell'=true) :
  (storeCells ⟨g,o,none⟩ ws).run P w=.ok () (w.setRow g (bB arr.toList o ws).toArray):=by
 have:=run_storeCells_at P g o el ws 0 arr w hg (by omega) h1
 simp only[Nat.add_zero] at this
 rw[qS ws arr.toList o (by simpa using hle)]
 exact this
theorem Lp {t:TypeId} {x1 x2:Operand} {y1 y2:LO} {n:Nat} (hop:o.op=.store t x1 x2) (h1:aE x1=some y1) (h2:aE x2=some y2) (hn:dh P t=some n) (hT:TRel DS F J ts a) (hH:HRel F J h w)
  (hs:ab pos ts h (.store n y1 y2)=some (v,h')):aG P F J a w o h' v:=by
 have e1:=an hT h1
 have e2:=an hT h2
 simp only[ab] at hs
 split at hs
 ·rename_i b g off hx
  rw[hx] at e1
  split at hs
  ·rename_i g' cs fz hb
   split at hs
   ·rename_i hc
    obtain⟨hg,hlen,hflat,hfz,hle⟩:=hc
    subst hg
    obtain⟨rfl,rfl⟩:=aI hs
    obtain⟨i,ad,hi,_,hu,hptr⟩:=e1.ptr_inv
    obtain⟨i2,hi2,hgen,_,_,hlive⟩:=hH.cellsAt hb
    rw[hi] at hi2
    simp only[Option.some.injEq] at hi2
    subst hi2
    obtain⟨hv,rfl⟩:=hptr hgen.symm
    obtain⟨arr,el,harr,hsz,hbase,_⟩:=hlive hv
    have hvs:=e2.cells hflat
    obtain⟨hH',hE⟩:=hH.write hb hi hv harr hvs hfz (by omega)
    refine Good.skip (s:=Instr.storeAt t (a.eval x1) (a.eval x2)) (by simp only[execOp,hop]) ?_ hH' hE
    have hsize:(a.eval x2).cells.size=n:=by rw[← Array.length_toList,hvs.1,hlen]
    simp only[Instr.storeAt,hu,Instr.sureAddr,Sem.run_bind,Sem.run_pure,Result.andThen_ok,storeVar,b8 hn,hsize,ne_eq,not_true,if_false]
    exact fG harr (by rw[hvs.1]; omega) hvs.cellsOk
   ·cases hs
  ·cases hs
 ·cases hs
end
end LM
namespace LM
open Go Go.RowKit
variable {DS:List Deferred}
section
variable {P:Program} {F:Fz} {J:JMap} {a:Act} {w:World} {o:Oper} {ts:List LV} {h h' : Heap} {v:LV} {pos:Option Nat}
theorem cg {t:TypeId} {k:Nat} (h:ef P t=some k):bX P t=some none∧((k=0∧∃ q,P.underlying t=some (.int q))∨(k=1∧P.underlying t=some .string)∨(k=2∧P.underlying t=some .bool)):=by
 unfold ef at h
 split at h
 ·rename_i q h1 h2
  simp only[Option.some.injEq] at h
  exact⟨by simp[bX,jX,h1,h2],.inl ⟨h.symm,q,h1⟩⟩
 ·rename_i h1 h2
  simp only[Option.some.injEq] at h
  exact⟨by simp[bX,jX,h1,h2],.inr (.inl ⟨h.symm,h1⟩)⟩
 ·rename_i h1 h2
  simp only[Option.some.injEq] at h
  exact⟨by simp[bX,jX,h1,h2],.inr (.inr ⟨h.symm,h1⟩)⟩
 ·cases h
theorem lw {t:TypeId} {k:Nat} {x y:CV} {u u' : Value} {r:Bool} (ht:ef P t=some k) (hx:db x=k) (hr:CRel F x u) (hr' : CRel F y u') (he:eqS x y=some r) (n:Nat) :
  (Op.equalIn (n+1) t u u').run P w=.ok r w:=by
 obtain⟨_,hk⟩:=cg ht
 unfold eqS at he
 split at he
 ·rename_i q a0 q' b0
  split at he
  ·rename_i e
   subst e
   simp only[Option.some.injEq] at he
   subst he
   cases hr; cases hr'
   rcases hk with ⟨_,q',hu⟩ | ⟨e,_⟩ | ⟨e,_⟩
   ·exact run_equalIn_int w n t q q' a0 b0 hu
   ·subst e; cases hx
   ·subst e; cases hx
  ·cases he
 ·rename_i s s'
  simp only[Option.some.injEq] at he
  subst he
  obtain⟨b,rfl,rfl⟩:=hr.str_inv
  obtain⟨b',rfl,rfl⟩:=hr'.str_inv
  rcases hk with ⟨e,_⟩ | ⟨_,hu⟩ | ⟨e,_⟩
  ·subst e; cases hx
  ·rw[run_equalIn_string w n t b b' hu,ByteArray.toList_eq,ByteArray.toList_eq]
  ·subst e; cases hx
 ·rename_i b b'
  simp only[Option.some.injEq] at he
  subst he
  cases hr; cases hr'
  rcases hk with ⟨e,_⟩ | ⟨e,_⟩ | ⟨_,hu⟩
  ·subst e; cases hx
  ·subst e; cases hx
  ·exact run_equalIn_bool w n t b b' hu
 ·cases he
theorem eO {t:TypeId} (hz:bX P t=some none) {us:List Value} {off:Nat} {u:Value} (hu:us[off]? = some u):(part t us.toArray off).run P w=.ok u w :=
 pP hz (by simp only[c7,List.head?_drop]; exact hu)
theorem fj {k:Nat} {ks:List Nat} {l:List CV} (h:bU (k::ks) l=true):∃ x r,l=x::r∧db x=k∧bU ks r=true:=by
 cases l with
 | nil=>simp[bU] at h
 | cons x r =>
  simp only[bU,Bool.and_eq_true,beq_iff_eq] at h
  exact⟨x,r,rfl,h.1.1,h.2⟩
theorem iU {l r:List CV} {x:CV} {k:Nat} (h:l.drop k=x::r):l[k]? = some x∧l.drop (k+1)=r:=by
 constructor
 ·have:=List.head?_drop (l:=l) (i:=k)
  rw[h] at this
  exact this.symm
 ·rw[← List.drop_drop,h]; rfl
theorem nv {l l' : List CV} {us us' : List Value} (hl:CL F l us) (hl' : CL F l' us') (n:Nat):∀ (fs:List Field) (k:Nat) (ks:List Nat) (r:Bool),cC P fs k=some ks→bU ks (l.drop k)=true→bU ks (l'.drop k)=true →
  dJ (l.drop k) (l'.drop k)=some r→(Op.eqFields (n+1) us.toArray us'.toArray fs).run P w=.ok r w
 | [],k,ks,r,hs,h1,h2,he=>by
  simp only[cC,Option.some.injEq] at hs
  subst hs
  have e1:l.drop k=[]:=by
   cases hd:l.drop k with
   | nil=>rfl
   | cons x r=>rw[hd] at h1; simp[bU] at h1
  have e2:l'.drop k=[]:=by
   cases hd:l'.drop k with
   | nil=>rfl
   | cons x r=>rw[hd] at h2; simp[bU] at h2
  rw[e1,e2] at he
  simp only[dJ,Option.some.injEq] at he
  subst he
  rfl
 | f::fs,k,ks,r,hs,h1,h2,he=>by
  simp only[cC] at hs
  split at hs
  ·rename_i hc
   simp only[Bool.and_eq_true,bne_iff_ne,ne_eq,beq_iff_eq] at hc
   obtain⟨hname,hoff⟩:=hc
   split at hs
   ·rename_i q ks' hq hks
    simp only[Option.some.injEq] at hs
    subst hs
    obtain⟨x,rl,ex,hkx,hk1⟩:=fj h1
    obtain⟨y,rl',ey,hky,hk2⟩:=fj h2
    obtain⟨gx,dx⟩:=iU ex
    obtain⟨gy,dy⟩:=iU ey
    obtain⟨u,hu,hru,_⟩:=hl.2 k x gx
    obtain⟨u',hu',hru',_⟩:=hl'.2 k y gy
    obtain⟨hz,_⟩:=cg hq
    rw[ex,ey] at he
    simp only[dJ] at he
    simp only[Op.eqFields,ne_eq,hname,not_false_eq_true,if_true,Sem.run_bind,hoff,eO hz hu,eO hz hu',Result.andThen_ok]
    split at he
    ·rename_i hS
     rw[lw hq hkx hru hru' hS n]
     simp only[Result.andThen_ok,Bool.not_true,Bool.false_eq_true,if_false]
     exact nv hl hl' n fs (k+1) ks' r hks (by rw[dx]; exact hk1) (by rw[dy]; exact hk2) (by rw[dx,dy]; exact he)
    ·rename_i hS
     cases hr:eqS x y with
     | none=>rw[hr] at he; cases he
     | some b =>
      rw[hr] at he
      simp only[Option.some.injEq] at he
      subst he
      cases b with
      | true=>exact absurd hr hS
      | false =>
       rw[lw hq hkx hru hru' hr n]
       rfl
   ·cases hs
  ·cases hs
theorem oq {l l' : List CV} {us us' : List Value} {e:TypeId} {q:Nat} (hl:CL F l us) (hl' : CL F l' us') (hq:ef P e=some q) (hcell:P.cellsOf e=1) (n:Nat):∀ (m k:Nat) (r:Bool),bU (List.replicate m q) (l.drop k)=true→bU (List.replicate m q) (l'.drop k)=true →
  dJ (l.drop k) (l'.drop k)=some r→(Op.eqItems (n+1) e (P.cellsOf e) us.toArray us'.toArray (List.range' k m)).run P w=.ok r w
 | 0,k,r,h1,h2,he=>by
  have e1:l.drop k=[]:=by
   cases hd:l.drop k with
   | nil=>rfl
   | cons x r=>rw[hd] at h1; simp[bU] at h1
  have e2:l'.drop k=[]:=by
   cases hd:l'.drop k with
   | nil=>rfl
   | cons x r=>rw[hd] at h2; simp[bU] at h2
  rw[e1,e2] at he
  simp only[dJ,Option.some.injEq] at he
  subst he
  rfl
 | m+1,k,r,h1,h2,he=>by
  rw[List.replicate_succ] at h1 h2
  obtain⟨x,rl,ex,hkx,hk1⟩:=fj h1
  obtain⟨y,rl',ey,hky,hk2⟩:=fj h2
  obtain⟨gx,dx⟩:=iU ex
  obtain⟨gy,dy⟩:=iU ey
  obtain⟨u,hu,hru,_⟩:=hl.2 k x gx
  obtain⟨u',hu',hru',_⟩:=hl'.2 k y gy
  obtain⟨hz,_⟩:=cg hq
  rw[ex,ey] at he
  simp only[dJ] at he
  simp only[List.range'_succ,Op.eqItems,Sem.run_bind,hcell,Nat.mul_one,eO hz hu,eO hz hu',Result.andThen_ok]
  split at he
  ·rename_i hS
   rw[lw hq hkx hru hru' hS n]
   simp only[Result.andThen_ok,Bool.not_true,Bool.false_eq_true,if_false]
   have:=oq hl hl' hq hcell n m (k+1) r (by rw[dx]; exact hk1) (by rw[dy]; exact hk2) (by rw[dx,dy]; exact he)
   rw[hcell] at this
   exact this
  ·rename_i hS
   cases hr:eqS x y with
   | none=>rw[hr] at he; cases he
   | some b =>
    rw[hr] at he
    simp only[Option.some.injEq] at he
    subst he
    cases b with
    | true=>exact absurd hr hS
    | false =>
     rw[lw hq hkx hru hru' hr n]
     rfl
theorem iO {t:TypeId} {kk:KeyKind} (h:dA P t=some kk) :
  (∃ k,kk=.one k∧ef P t=some k)∨(∃ fs ks,kk=.many ks∧P.underlying t=some (.struct fs)∧P.stoodInHeld t=false∧cC P fs.toList 0=some ks) ∨
  (∃ n e q,kk=.many (List.replicate n q)∧P.underlying t=some (.array n e)∧ef P e=some q):=by
 unfold dA at h
 split at h
 ·rename_i fs hu
  split at h
  ·cases h
  ·rename_i hst
   split at h
   ·rename_i ks hks
    simp only[Option.some.injEq] at h
    exact .inr (.inl ⟨fs,ks,h.symm,hu,by simpa using hst,hks⟩)
   ·cases h
 ·rename_i n e hu
  split at h
  ·rename_i q hq
   simp only[Option.some.injEq] at h
   exact .inr (.inr ⟨n,e,q,h.symm,hu,hq⟩)
  ·cases h
 ·split at h
  ·rename_i k hk
   simp only[Option.some.injEq] at h
   exact .inl ⟨k,h.symm,hk⟩
  ·cases h
theorem Fp {t:TypeId} {kk:KeyKind} {x y:CV} {u u' : Value} {r:Bool} (ht:dA P t=some kk) (hr:CRel F x u) (hr' : CRel F y u') (he:eqK kk x y=some r) (n:Nat):(Op.equalIn (n+2) t u u').run P w=.ok r w:=by
 unfold eqK at he
 split at he
 ·rename_i hok
  simp only[Bool.and_eq_true] at hok
  obtain⟨ok1,ok2⟩:=hok
  rcases iO ht with ⟨k,rfl,hk⟩ | ⟨fs,ks,rfl,hu,hst,hks⟩ | ⟨m,e,q,rfl,hu,hq⟩
  ·simp only[cP,Bool.and_eq_true,beq_iff_eq] at ok1 ok2
   have he' : eqS x y=some r:=by
    split at he
    ·obtain⟨_,hd⟩:=cg hk
     rcases hd with ⟨e,_⟩ | ⟨e,_⟩ | ⟨e,_⟩<;>(subst e; simp[db] at ok1)
    ·exact he
   exact lw hk ok1.1 hr hr' he' (n+1)
  ·cases x<;>cases y<;>simp only[cP,Bool.false_eq_true] at ok1 ok2
   rename_i l l'
   obtain⟨us,rfl,hl⟩:=hr.agg_inv
   obtain⟨us',rfl,hl'⟩:=hr'.agg_inv
   have hf:P.fieldsOf t=fs:=by simp[Program.fieldsOf,hu]
   rw[run_equalIn_struct w (n+1) t us.toArray us'.toArray (by rw[hf]; exact hu) hst,hf]
   exact nv hl hl' n fs.toList 0 ks r hks ok1 ok2 he
  ·cases x<;>cases y<;>simp only[cP,Bool.false_eq_true] at ok1 ok2
   rename_i l l'
   obtain⟨us,rfl,hl⟩:=hr.agg_inv
   obtain⟨us',rfl,hl'⟩:=hr'.agg_inv
   obtain⟨hz,_⟩:=cg hq
   have hs:=(cm hz).2
   simp only[dh,Option.map_eq_some_iff,ae] at hs
   obtain⟨ie,hie,hsz⟩:=hs
   have hcell:P.cellsOf e=1:=by simp[Program.cellsOf,hie,hsz]
   rw[run_equalIn_array w (n+1) us.toArray us'.toArray hu hie,List.range_eq_range']
   exact oq hl hl' hq hcell n m 0 r ok1 ok2 he
 ·cases he
theorem kr {op:BinOp} {t yt:TypeId} {x y:Operand} {y1 y2:LO} {kk:KeyKind} {neg:Bool} (hop:o.op=.binOp op t x y yt) (hn:(op=.eql∧neg=false)∨(op=.neq∧neg=true)) (h1:aE x=some y1) (h2:aE y=some y2)
  (ht:dA P t=some kk) (hu:(∃ fs,P.underlying t=some (.struct fs))∨∃ n e,P.underlying t=some (.array n e)) (hg:P.eqGuardType P.depth t=false) (hT:TRel DS F J ts a) (hH:HRel F J h w)
  (hs:ab pos ts h (.eqAgg kk neg y1 y2)=some (v,h')):aG P F J a w o h' v:=by
 have e1:=an hT h1
 have e2:=an hT h2
 simp only[ab] at hs
 split at hs
 ·rename_i c1 c2 hc1 hc2
  rw[hc1] at e1
  rw[hc2] at e2
  split at hs
  ·rename_i r hr
   obtain⟨rfl,rfl⟩:=aQ hs
   have hrun:=Fp (P:=P) (w:=w) ht e1.of_c e2.of_c hr 9998
   -- both are aggregates
   have hagg:∃ l l',c1=.agg l∧c2=.agg l':=by
    unfold eqK at hr
    split at hr
    ·rename_i hok
     simp only[Bool.and_eq_true] at hok
     rcases iO ht with ⟨k,rfl,hk⟩ | ⟨fs,ks,rfl,_⟩ | ⟨m,e,q,rfl,_⟩
     ·obtain⟨_,hd⟩:=cg hk
      rcases hu with ⟨fs,hu⟩ | ⟨n,e,hu⟩<;>rcases hd with ⟨_,q,hq⟩ | ⟨_,hq⟩ | ⟨_,hq⟩<;>(rw[hu] at hq; cases hq)
     ·cases c1<;>cases c2<;>simp[cP] at hok
      exact⟨_,_,rfl,rfl⟩
     ·cases c1<;>cases c2<;>simp[cP] at hok
      exact⟨_,_,rfl,rfl⟩
    ·cases hr
   obtain⟨l,l',rfl,rfl⟩:=hagg
   obtain⟨us,hus,_⟩:=e1.of_c.agg_inv
   obtain⟨us',hus',_⟩:=e2.of_c.agg_inv
   rw[hus,hus'] at hrun
   refine Good.op (s:=do eqGuard op t x y (a.eval x) (a.eval y); binOp op t (a.eval x) (a.eval y)) (by simp only[execOp,hop]) (.same (u:=.bool (if neg then !r else r)) hH (.c _ _ (.bool _)) ?_)
   rw[hus,hus']
   simp only[Sem.run_bind,run_eqGuard_agg w op t x y us.toArray us'.toArray hg,Result.andThen_ok]
   rcases hn with ⟨rfl,rfl⟩ | ⟨rfl,rfl⟩
   ·rw[run_eql_struct,hrun]; rfl
   ·rw[run_neq_struct,hrun]; rfl
  ·cases hs
 ·cases hs
end
end LM
namespace LM
open Go Go.RowKit
section
variable {P:Program} {F:Fz} {J:JMap} {a:Act} {w:World} {o:Oper} {ts:List LV} {h h' : Heap} {v:LV} {pos:Option Nat}
theorem ov {x:CV} {u:Value} (h:CRel F x u) (hk:db x≠9):(∃ q n,x=.int q n∧u=.int q n)∨(∃ b:ByteArray,x=.str b.data.toList∧u=.string b)∨∃ b,x=.bool b∧u=.bool b:=by
 cases h with
 | int q n=>exact .inl ⟨q,n,rfl,rfl⟩
 | str b=>exact .inr (.inl ⟨b,rfl,rfl⟩)
 | bool b=>exact .inr (.inr ⟨b,rfl,rfl⟩)
 | _=>simp[db] at hk
theorem gS {t:TypeId} {k:Nat} {u:Value} (ht:ef P t=some k) (em:Bool) (n:Nat):(Instr.checkKey em (n+1) t u).run P w=.ok () w:=by
 obtain⟨_,hd⟩:=cg ht
 rcases hd with ⟨_,q,hu⟩ | ⟨_,hu⟩ | ⟨_,hu⟩<;>(simp only[Instr.checkKey,Sem.run_bind,run_underlying hu,Result.andThen_ok]; cases u<;>rfl)
theorem pI {f:Field} {fs:List Field} {k:Nat} {ks:List Nat} (h:cC P (f::fs) k=some ks):f.name≠ "_"∧f.offset=k∧∃ q ks',ef P f.type=some q∧cC P fs (k+1)=some ks'∧ks=q::ks':=by
 simp only[cC] at h
 split at h
 ·rename_i hc
  simp only[Bool.and_eq_true,bne_iff_ne,ne_eq,beq_iff_eq] at hc
  split at h
  ·rename_i q ks' hq hks
   simp only[Option.some.injEq] at h
   exact⟨hc.1,hc.2,q,ks',hq,hks,h.symm⟩
  ·cases h
 ·cases h
theorem lI:∀ {ks:List Nat} {l:List CV},bU ks l=true→l.length=ks.length
 | [],[],_=>rfl
 | [],_::_,h=>by simp[bU] at h
 | _::_,[],h=>by simp[bU] at h
 | k::ks,x::l,h=>by
  simp only[bU,Bool.and_eq_true] at h
  simp[lI h.2]
theorem nk {t:TypeId} {kk:KeyKind} {x:CV} {u:Value} (ht:dA P t=some kk) (hr:CRel F x u) (hok:cP kk x=true) (em:Bool) (n:Nat):(Instr.checkKey em (n+2) t u).run P w=.ok () w:=by
 rcases iO ht with ⟨k,rfl,hk⟩ | ⟨fs,ks,rfl,hu,hst,hks⟩ | ⟨m,e,q,rfl,hu,hq⟩
 ·exact gS hk em (n+1)
 ·cases x<;>simp only[cP,Bool.false_eq_true] at hok
  rename_i l
  obtain⟨us,rfl,hl⟩:=hr.agg_inv
  rw[Instr.checkKey]
  simp only[Sem.run_bind,run_underlying hu,Result.andThen_ok]
  rw[← Array.forIn_toList]
  have gen:∀ (fl:List Field) (k:Nat) (ks:List Nat),cC P fl k=some ks→bU ks (l.drop k)=true →
    (forIn fl PUnit.unit fun f (r:PUnit)=>if f.name≠ "_" then do
      let v ← part f.type us.toArray f.offset
      Instr.checkKey em (n+1) f.type v
      pure (ForInStep.yield PUnit.unit)
     else pure (ForInStep.yield PUnit.unit):Sem PUnit).run P w=.ok PUnit.unit w:=by
   intro fl
   induction fl with
   | nil=>intro k ks _ _; rfl
   | cons f fl ih =>
    intro k ks hs h1
    obtain⟨hname,hoff,q,ks',hq,hks',rfl⟩:=pI hs
    obtain⟨y,r,ey,_,hk1⟩:=fj h1
    obtain⟨gy,dy⟩:=iU ey
    obtain⟨u,hu',_⟩:=hl.2 k y gy
    simp only[List.forIn_cons,ne_eq,hname,not_false_eq_true,if_true,Sem.run_bind,hoff,eO (cg hq).1 hu',gS hq,Result.andThen_ok,Sem.run_pure]
    exact ih (k+1) ks' hks' (by rw[dy]; exact hk1)
  have:=gen fs.toList 0 ks hks hok
  rw[this]
  rfl
 ·cases x<;>simp only[cP,Bool.false_eq_true] at hok
  rename_i l
  obtain⟨us,rfl,hl⟩:=hr.agg_inv
  obtain⟨hz,_⟩:=cg hq
  have hs:=(cm hz).2
  have hlen:=lI hok
  simp only[List.length_replicate] at hlen
  rw[Instr.checkKey]
  simp only[Sem.run_bind,run_underlying hu,Result.andThen_ok]
  simp only[Std.Legacy.Range.forIn_eq_forIn_range',Std.Legacy.Range.size,Nat.sub_zero,Nat.add_one_sub_one,Nat.div_one]
  have gen:∀ (c k:Nat),k+c≤m →
    (forIn (List.range' k c) PUnit.unit fun i (r:PUnit)=>do
      let z ← Go.sizeOf e
      let v ← part e us.toArray (i*z)
      Instr.checkKey em (n+1) e v
      pure (ForInStep.yield PUnit.unit):Sem PUnit).run P w=.ok PUnit.unit w:=by
   intro c
   induction c with
   | zero=>intro k _; rfl
   | succ c ih =>
    intro k hk
    have hlt:k<l.length:=by omega
    obtain⟨u,hu',_⟩:=hl.2 k l[k] (List.getElem?_eq_getElem hlt)
    simp only[List.range'_succ,List.forIn_cons,Sem.run_bind,b8 hs,ae,Nat.mul_one,eO hz hu',gS hq,Result.andThen_ok,Sem.run_pure]
    exact ih (k+1) (by omega)
  have:=gen m 0 (by omega)
  rw[this]
  rfl
theorem yr {kk:KeyKind} {key:CV}:∀ {ks:List CV} {i:Nat},aH kk key ks=some (some i)→i<ks.length∧∃ x,ks[i]? = some x∧eqK kk key x=some true
 | [],i,h=>by simp[aH] at h
 | x::ks,i,h=>by
  simp only[aH] at h
  split at h
  ·rename_i he
   simp only[Option.some.injEq] at h
   subst h
   exact⟨by simp,x,rfl,he⟩
  ·split at h
   ·rename_i j hj
    simp only[Option.some.injEq] at h
    subst h
    obtain⟨h1,y,h2,h3⟩:=yr hj
    exact⟨by simp; omega,y,by simpa using h2,h3⟩
   ·rename_i r' hne
    cases hr:aH kk key ks with
    | none=>rw[hr] at h; cases h
    | some r =>
     rw[hr] at h
     simp only[Option.some.injEq] at h
     exact absurd (by rw[hr,h]) (hne i)
  ·cases h
def fE (i:Nat) (es:List MapEntry):Option Nat→Option (Nat × Value)
 | none=>none
 | some j=>(es[j]?).map fun e=>(i+j,e.val)
theorem BK {t:TypeId} {k:Nat} {d:TypeDesc} {x y:CV} {u u' : Value} {r:Bool} (hd:P.underlying t=some d) (ht:ef P t=some k) (hx:db x=k) (hr:CRel F x u) (hr' : CRel F y u') (he:eqS x y=some r):Instr.sameNow d u u'=some r:=by
 obtain⟨_,hk⟩:=cg ht
 unfold eqS at he
 split at he
 ·rename_i q a0 q' b0
  split at he
  ·rename_i e
   subst e
   simp only[Option.some.injEq] at he
   subst he
   cases hr; cases hr'
   rcases hk with ⟨_,q',hu⟩ | ⟨e,_⟩ | ⟨e,_⟩
   ·rw[hu] at hd
    simp only[Option.some.injEq] at hd
    subst hd
    simp[Instr.sameNow]
   ·subst e; cases hx
   ·subst e; cases hx
  ·cases he
 ·rename_i s s'
  simp only[Option.some.injEq] at he
  subst he
  obtain⟨b,rfl,rfl⟩:=hr.str_inv
  obtain⟨b',rfl,rfl⟩:=hr'.str_inv
  rcases hk with ⟨e,_⟩ | ⟨_,hu⟩ | ⟨e,_⟩
  ·subst e; cases hx
  ·rw[hu] at hd
   simp only[Option.some.injEq] at hd
   subst hd
   simp only[Instr.sameNow,beq_toListBytes,ByteArray.toList_eq]
  ·subst e; cases hx
 ·rename_i b b'
  simp only[Option.some.injEq] at he
  subst he
  cases hr; cases hr'
  rcases hk with ⟨e,_⟩ | ⟨e,_⟩ | ⟨_,hu⟩
  ·subst e; cases hx
  ·subst e; cases hx
  ·rw[hu] at hd
   simp only[Option.some.injEq] at hd
   subst hd
   rfl
 ·cases he
theorem kH {t:TypeId} {k:Nat} {d:TypeDesc} {key:CV} {u:Value} (hd:P.underlying t=some d) (ht:ef P t=some k) (hr:CRel F key u):∀ (ks:List CV) (es:List MapEntry) (i:Nat) (r:Option Nat),es.length=ks.length →
  (∀ (j:Nat) (x:CV),ks[j]? = some x→∃ e,es[j]? = some e∧CRel F x e.key)→aH (.one k) key ks=some r→Instr.findNow d u es i=some (fE i es r)
 | [],es,i,r,hl,_,h=>by
  simp only[aH,Option.some.injEq] at h
  subst h
  have:es=[]:=by simpa using hl
  subst this
  rfl
 | x::ks,[],i,r,hl,_,h=>by simp at hl
 | x::ks,e::es,i,r,hl,hrel,h=>by
  obtain⟨e',he',hxr⟩:=hrel 0 x rfl
  simp only[List.getElem?_cons_zero,Option.some.injEq] at he'
  subst he'
  have hrel' : ∀ (j:Nat) (x:CV),ks[j]? = some x→∃ e,es[j]? = some e∧CRel F x e.key:=fun j y hy=>by simpa using hrel (j+1) y (by simpa using hy)
  have inv:∀ b,eqK (.one k) key x=some b→Instr.sameNow d u e.key=some b:=by
   intro b hb
   unfold eqK at hb
   split at hb
   ·rename_i hok
    simp only[Bool.and_eq_true,cP,beq_iff_eq] at hok
    refine BK hd ht hok.1.1 hr hxr ?_
    split at hb
    ·obtain⟨_,hdd⟩:=cg ht
     rcases hdd with ⟨e,_⟩ | ⟨e,_⟩ | ⟨e,_⟩<;>(subst e; simp[db] at hok)
    ·exact hb
   ·cases hb
  simp only[aH] at h
  split at h
  ·rename_i hb
   simp only[Option.some.injEq] at h
   subst h
   simp only[Instr.findNow,inv true hb]
   rfl
  ·rename_i hb
   simp only[Instr.findNow,inv false hb]
   split at h
   ·rename_i j hj
    simp only[Option.some.injEq] at h
    subst h
    rw[kH hd ht hr ks es (i+1) (some j) (by simpa using hl) hrel' hj]
    simp only[fE,List.getElem?_cons_succ]
    congr 1
    cases es[j]? with
    | none=>rfl
    | some e2=>simp only[Option.map_some]; congr 2; omega
   ·cases hr2:aH (.one k) key ks with
    | none=>rw[hr2] at h; cases h
    | some r2 =>
     rw[hr2] at h
     simp only[Option.some.injEq] at h
     subst h
     cases r2 with
     | none=>exact kH hd ht hr ks es (i+1) none (by simpa using hl) hrel' hr2
     | some j=>rename_i hne; exact absurd hr2 (hne j)
  ·cases h
theorem fu {t:TypeId} {kk:KeyKind} {key:CV} {u:Value} (ht:dA P t=some kk) (hr:CRel F key u):∀ (ks:List CV) (es:List MapEntry) (i:Nat) (r:Option Nat),es.length=ks.length →
  (∀ (j:Nat) (x:CV),ks[j]? = some x→∃ e,es[j]? = some e∧CRel F x e.key)→aH kk key ks=some r→(Instr.findAsking t u es i).run P w=.ok (fE i es r) w
 | [],es,i,r,hl,_,h=>by
  simp only[aH,Option.some.injEq] at h
  subst h
  have:es=[]:=by simpa using hl
  subst this
  rfl
 | x::ks,[],i,r,hl,_,h=>by simp at hl
 | x::ks,e::es,i,r,hl,hrel,h=>by
  obtain⟨e',he',hxr⟩:=hrel 0 x rfl
  simp only[List.getElem?_cons_zero,Option.some.injEq] at he'
  subst he'
  have hrel' : ∀ (j:Nat) (x:CV),ks[j]? = some x→∃ e,es[j]? = some e∧CRel F x e.key:=fun j y hy=>by simpa using hrel (j+1) y (by simpa using hy)
  have inv:∀ b,eqK kk key x=some b→(Op.equal t u e.key).run P w=.ok b w:=fun b hb=>Fp ht hr hxr hb 9998
  simp only[aH] at h
  split at h
  ·rename_i hb
   simp only[Option.some.injEq] at h
   subst h
   simp only[Instr.findAsking,Sem.run_bind,inv true hb,Result.andThen_ok,if_true]
   rfl
  ·rename_i hb
   simp only[Instr.findAsking,Sem.run_bind,inv false hb,Result.andThen_ok,Bool.false_eq_true,if_false]
   split at h
   ·rename_i j hj
    simp only[Option.some.injEq] at h
    subst h
    rw[fu ht hr ks es (i+1) (some j) (by simpa using hl) hrel' hj]
    simp only[fE,List.getElem?_cons_succ]
    congr 1
    cases es[j]? with
    | none=>rfl
    | some e2=>simp only[Option.map_some]; congr 2; omega
   ·cases hr2:aH kk key ks with
    | none=>rw[hr2] at h; cases h
    | some r2 =>
     rw[hr2] at h
     simp only[Option.some.injEq] at h
     subst h
     cases r2 with
     | none=>exact fu ht hr ks es (i+1) none (by simpa using hl) hrel' hr2
     | some j=>rename_i hne; exact absurd hr2 (hne j)
  ·cases h
theorem kL {t:TypeId} {kk:KeyKind} {key:CV} {u:Value} {ks:List CV} {es:List MapEntry} {r:Option Nat} (ht:dA P t=some kk) (hr:CRel F key u) (hl:es.length=ks.length)
  (hrel:∀ (j:Nat) (x:CV),ks[j]? = some x→∃ e,es[j]? = some e∧CRel F x e.key) (hf:aH kk key ks=some r):(Instr.findKey t u es).run P w=.ok (fE 0 es r) w:=by
 rcases iO ht with ⟨k,rfl,hk⟩ | ⟨fs,kl,rfl,hu,_⟩ | ⟨m,e,q,rfl,hu,_⟩
 ·obtain⟨_,hd⟩:=cg hk
  have:∃ d,P.underlying t=some d:=by rcases hd with ⟨_,q,hu⟩ | ⟨_,hu⟩ | ⟨_,hu⟩<;>exact⟨_,hu⟩
  obtain⟨d,hd⟩:=this
  simp only[Instr.findKey,Sem.run_bind,run_underlying hd,Result.andThen_ok,kH hd hk hr ks es 0 r hl hrel hf,Sem.run_pure]
 ·rw[run_findKey_eq w (by rw[hu]) u es]
  exact fu ht hr ks es 0 r hl hrel hf
 ·rw[run_findKey_eq w (by rw[hu]) u es]
  exact fu ht hr ks es 0 r hl hrel hf
end
end LM
namespace LM
open Go Go.RowKit
variable {DS:List Deferred}
section
variable {P:Program} {F:Fz} {J:JMap} {a:Act} {w:World} {o:Oper} {ts:List LV} {h h' : Heap} {v:LV} {pos:Option Nat}
theorem Ge {t:TypeId} {z:LV} (h:qW P t=some z):∃ u,(zeroValue t).run P w=.ok u w∧VRel F J z u:=by
 unfold qW at h
 split at h
 ·rename_i i hi
  have run:∀ u,i.zero=some u→(zeroValue t).run P w=.ok u w:=fun u hu=>by
   simp only[zeroValue,typeInfo,Sem.run_bind,run_program,Result.andThen_ok,hi,hu,Sem.run_pure]
  split at h
  ·rename_i cs hc
   split at h
   ·rename_i l hl
    simp only[Option.some.injEq] at h
    subst h
    refine⟨_,run _ hc,?_⟩
    have:=(fV (F:=F) (J:=J) hl).mkAgg
    simpa using this
   ·cases h
  ·rename_i u _ hu
   exact⟨u,run u hu,pQ h⟩
  ·cases h
 ·cases h
theorem VRel.mkTuple {l:List LV} {us:List Value} (hl:us.length=l.length) (h:∀ (i:Nat) (x:LV),l[i]? = some x→∃ u,us[i]? = some u∧VRel F J x u):VRel F J (mkTuple l) (.tuple us.toArray):=by
 unfold LM.mkTuple
 split
 ·rename_i cs hc
  have e:=lH hc
  subst e
  refine .c _ _ (.tuple cs us.toArray (fun i=>us.getD i Go.undef) (by simpa using hl) (fun i x hx=>?_) (fun i x hx=>?_)) <;>
   obtain⟨u,hu,hr⟩:=h i (.c x) (by simp[hx])
  ·simp[hu]
  ·simpa[List.getD_eq_getElem?_getD,hu] using hr.of_c
 ·refine .tuple l us.toArray (fun i=>us.getD i Go.undef) (by simpa using hl) (fun i x hx=>?_) (fun i x hx=>?_)<;>obtain⟨u,hu,hr⟩:=h i x hx
  ·simp[hu]
  ·simpa[List.getD_eq_getElem?_getD,hu] using hr
theorem VRel.pair {x y:LV} {u u' : Value} (hx:VRel F J x u) (hy:VRel F J y u'):VRel F J (LM.mkTuple [x,y]) (.tuple #[u,u']):=by
 refine VRel.mkTuple (us:=[u,u']) rfl fun i z hz=>?_
 match i,hz with
 | 0,hz=>simp only[List.getElem?_cons_zero,Option.some.injEq] at hz; subst hz; exact⟨u,rfl,hx⟩
 | 1,hz=>simp only[List.getElem?_cons_succ,List.getElem?_cons_zero,Option.some.injEq] at hz; subst hz; exact⟨u',rfl,hy⟩
 | i+2,hz=>simp at hz
theorem Ho {t kt et:TypeId} {x k:Operand} {y yk:LO} {kk:KeyKind} {zero:LV} {isOk:Bool} (hop:o.op=.lookup t x k isOk) (h1:aE x=some y) (h2:aE k=some yk) (ht:P.underlying t=some (.map kt et)) (hk:dA P kt=some kk)
  (hz:qW P et=some zero) (hT:TRel DS F J ts a) (hH:HRel F J h w) (hs:ab pos ts h (.lookup kk zero isOk y yk)=some (v,h')):aG P F J a w o h' v:=by
 have e1:=an hT h1
 have e2:=an hT h2
 obtain⟨zu,hzu,hzr⟩:=Ge (P:=P) (F:=F) (J:=J) (w:=w) hz
 simp only[ab] at hs
 split at hs
 ·rename_i key hkey
  rw[hkey] at e2
  have hkr:=e2.of_c
  split at hs
  ·cases hs
  rename_i hok
  simp only[Bool.not_eq_true',Bool.not_eq_false] at hok
  -- the entries
  have main:∀ (ks:List CV) (vs:List LV) (es:Array MapEntry) (m:Option Nat),a.eval x=.map m→(match m with | none=>es=#[] | some r=>∃ clk,w.heap[r]? = some (.map es clk))→es.size=ks.length→vs.length=ks.length →
    (∀ (i:Nat) (x:CV),ks[i]? = some x→∃ e,es[i]? = some e∧CRel F x e.key)→(∀ (i:Nat) (x:LV),vs[i]? = some x→∃ e,es[i]? = some e∧VRel F J x e.val) →
    (match aH kk key ks with
     | some (some i)=>match vs[i]? with
      | some v=>ok (if isOk then mkTuple [v,.c (.bool true)] else v) h
      | none=>none
     | some none=>ok (if isOk then mkTuple [zero,.c (.bool false)] else zero) h
     | none=>none)=some (v,h')→aG P F J a w o h' v:=by
   intro ks vs es m hu hm hsz hvl hks hvs hs
   have hget:(do match (Value.map m) with
     | .map none=>pure #[]
     | .map (some r)=>do
      let .map es _ ← getObj r | stuck "Lookup: map expected"
      pure es
     | _=>stuck "Lookup: map expected" : Sem (Array MapEntry)).run P w=.ok es w:=by
    cases m with
    | none=>simp only at hm; subst hm; rfl
    | some r =>
     obtain⟨clk,hc⟩:=hm
     simp only[Sem.run_bind,eE hc rfl,Result.andThen_ok]
     rfl
   have hlen:es.toList.length=ks.length:=by rw[Array.length_toList,hsz]
   have hrel:∀ (j:Nat) (x:CV),ks[j]? = some x→∃ e,es.toList[j]? = some e∧CRel F x e.key:=fun j x hx=>by simpa using hks j x hx
   have hck:∀ em,(Instr.checkKey em 10000 kt (a.eval k)).run P w=.ok () w:=fun em=>nk (P:=P) (w:=w) hk hkr hok em 9998
   have fin:∀ (r:Option Nat) (u:Value) (b:Bool),aH kk key ks=some r→fE 0 es.toList r=(match r with | none=>none | some i=>some (i,u))→(r=none→u=zu)→(b=r.isSome) →
     (Instr.lookup t (a.eval x) (a.eval k) isOk).run P w=.ok (if isOk then .tuple #[u,.bool b] else u) w:=by
    intro r u b hf hfa hz0 hb
    have hfk:=kL (P:=P) (w:=w) hk hkr hlen hrel hf
    unfold Instr.lookup
    rw[hu]
    simp only[Sem.run_bind,run_underlying ht,Result.andThen_ok]
    cases m with
    | none =>
     simp only at hm
     subst hm
     have ek:ks=[]:=List.eq_nil_of_length_eq_zero (by simpa using hsz.symm)
     subst ek
     simp only[aH,Option.some.injEq] at hf
     subst hf
     have hck0:=hck true
     have hfk0:(Instr.findKey kt (a.eval k) []).run P w=.ok none w:=hfk
     simp only[Sem.run_bind,Sem.run_pure,Result.andThen_ok,Array.isEmpty_empty,hck0,hfk0,hzu]
     rw[hz0 rfl,hb]
     rfl
    | some r0 =>
     obtain⟨clk,hc⟩:=hm
     simp only[Sem.run_bind,eE hc rfl,Sem.run_pure,Result.andThen_ok,hck,hfk,hfa]
     cases r with
     | none=>simp only[Sem.run_bind,hzu,Result.andThen_ok,Sem.run_pure]; rw[hz0 rfl,hb]; rfl
     | some i=>simp only[Sem.run_bind,Result.andThen_ok,Sem.run_pure]; rw[hb]; rfl
   split at hs
   ·rename_i i hf
    split at hs
    ·rename_i val hval
     obtain⟨rfl,rfl⟩:=aI hs
     obtain⟨e,he,hr⟩:=hvs i val hval
     refine Good.op (s:=Instr.lookup t (a.eval x) (a.eval k) isOk) (by simp only[execOp,hop]) (.same hH ?_ (fin (some i) e.val true hf (by simp[fE,he]) (by simp) rfl))
     cases isOk with
     | true=>exact VRel.pair hr (.c _ _ (.bool _))
     | false=>exact hr
    ·cases hs
   ·rename_i hf
    obtain⟨rfl,rfl⟩:=aI hs
    refine Good.op (s:=Instr.lookup t (a.eval x) (a.eval k) isOk) (by simp only[execOp,hop]) (.same hH ?_ (fin none zu false hf rfl (fun _=>rfl) rfl))
    cases isOk with
    | true=>exact VRel.pair hzr (.c _ _ (.bool _))
    | false=>exact hzr
   ·cases hs
  cases hx:LM.ev ts y with
  | c cv =>
   rw[hx] at e1 hs
   cases cv with
   | map ks vs =>
    rcases e1.of_c.map_inv with ⟨hu,rfl,rfl⟩ | ⟨r,es,hu,hF,hks,hvs,r1,r2⟩
    ·exact main [] [] #[] none hu rfl rfl rfl (by simp) (by simp) hs
    ·obtain⟨clk,hc⟩:=hH.fz.map r es hF
     refine main ks (vs.map .c) es (some r) hu ⟨clk,hc⟩ hks (by simpa using hvs) r1 (fun i x hx=>?_) hs
     simp only[List.getElem?_map,Option.map_eq_some_iff] at hx
     obtain⟨x0,hx0,rfl⟩:=hx
     obtain⟨e,he,hr⟩:=r2 i x0 hx0
     exact⟨e,he,.c _ _ hr⟩
   | _=>cases hs
  | map b =>
   rw[hx] at e1 hs
   cases e1 with
   | map _ _ hm =>
    obtain⟨i,hi,_,_,hu⟩:=hm
    cases hb:h[b]? with
    | none=>dsimp only at hs; rw[hb] at hs; cases hs
    | some blk =>
     dsimp only at hs
     rw[hb] at hs
     cases blk with
     | map ks vs fz =>
      obtain⟨i',hi',_,_,es,clk,hes,hks,hvs,r1,r2,_⟩:=hH.live b _ hb (by simp)
      rw[hi] at hi'
      simp only[Option.some.injEq] at hi'
      subst hi'
      exact main ks vs es (some i.cb) hu ⟨clk,hes⟩ hks hvs r1 r2 hs
     | _=>cases hs
  | _=>rw[hx] at hs; cases hs
 ·cases hs
theorem CRel.scalar_eq {x:CV} {u u' : Value} (hk:db x≠9) (h:CRel F x u) (h' : CRel F x u'):u=u':=by
 rcases ov h hk with ⟨q,n,rfl,rfl⟩ | ⟨b,rfl,rfl⟩ | ⟨b,rfl,rfl⟩
 ·cases h'; rfl
 ·obtain⟨b',rfl,hb⟩:=h'.str_inv
  congr 1
  have:b'.data=b.data:=by rw[← Array.toList_inj]; exact hb
  cases b; cases b'
  simp only at this
  rw[this]
 ·cases h'; rfl
theorem z4 {x y:CV} (h:eqS x y=some true):x=y∧db x≠9:=by
 unfold eqS at h
 split at h
 ·split at h
  ·rename_i e
   subst e
   simp only[Option.some.injEq,beq_iff_eq] at h
   subst h
   exact⟨rfl,by simp[db]⟩
  ·cases h
 ·simp only[Option.some.injEq,beq_iff_eq] at h
  subst h
  exact⟨rfl,by simp[db]⟩
 ·simp only[Option.some.injEq,beq_iff_eq] at h
  subst h
  exact⟨rfl,by simp[db]⟩
 ·cases h
theorem nn:∀ {l l' : List CV},dJ l l'=some true→l=l'∧∀ x ∈ l,db x≠9
 | [],[],_=>⟨rfl,by simp⟩
 | [],_::_,h=>by simp[dJ] at h
 | _::_,[],h=>by simp[dJ] at h
 | x::l,y::l',h=>by
  simp only[dJ] at h
  split at h
  ·rename_i he
   obtain⟨rfl,hk⟩:=z4 he
   obtain⟨rfl,hl⟩:=nn h
   exact⟨rfl,by simpa using ⟨hk,hl⟩⟩
  ·rename_i hne
   exact absurd h hne
theorem Jg {kk:KeyKind} {x y:CV} {u u' : Value} (h:eqK kk x y=some true) (hr:CRel F x u) (hr' : CRel F y u'):u=u'∧Instr.sameBits 10000 u u'=true:=by
 have self:∀ (n:Nat) (z:CV) (u:Value),db z≠9→CRel F z u→Instr.sameBits n u u=true:=by
  intro n z u hk hz
  rcases ov hz hk with ⟨q,m,rfl,rfl⟩ | ⟨b,rfl,rfl⟩ | ⟨b,rfl,rfl⟩<;>cases n<;>simp[Instr.sameBits,MapKept.bytes_beq]
 unfold eqK at h
 split at h
 ·split at h
  ·rename_i l l' _
   obtain⟨rfl,hl⟩:=nn h
   obtain⟨us,rfl,h1⟩:=hr.agg_inv
   obtain⟨us',rfl,h2⟩:=hr'.agg_inv
   have e:us=us':=by
    apply List.ext_getElem?
    intro i
    by_cases hi:i<l.length
    ·obtain⟨u,hu,hur,_⟩:=h1.2 i l[i] (List.getElem?_eq_getElem hi)
     obtain⟨u',hu',hur',_⟩:=h2.2 i l[i] (List.getElem?_eq_getElem hi)
     rw[hu,hu',CRel.scalar_eq (hl _ (List.getElem_mem hi)) hur hur']
    ·rw[List.getElem?_eq_none (by rw[h1.1]; omega),List.getElem?_eq_none (by rw[h2.1]; omega)]
   subst e
   refine⟨rfl,?_⟩
   have:∀ n,Instr.sameBits (n+1) (.agg us.toArray) (.agg us.toArray)=true:=by
    intro n
    simp only[Instr.sameBits,beq_self_eq_true,Bool.true_and,List.all_eq_true]
    rintro⟨p,q⟩ hpq
    obtain⟨i,hi,hpq⟩:=List.getElem_of_mem hpq
    simp only[List.getElem_zip,Prod.mk.injEq] at hpq
    obtain⟨rfl,rfl⟩:=hpq
    simp only[List.length_zip,Nat.min_self] at hi
    have hil:i<l.length:=by rw[← h1.1]; exact hi
    obtain⟨u,hu,hur,_⟩:=h1.2 i l[i] (List.getElem?_eq_getElem hil)
    rw[List.getElem?_eq_getElem hi] at hu
    simp only[Option.some.injEq] at hu
    have:=self n l[i] u (hl _ (List.getElem_mem hil)) hur
    rw[← hu] at this
    exact this
   exact this 9999
  ·obtain⟨rfl,hk⟩:=z4 h
   have:=CRel.scalar_eq hk hr hr'
   subst this
   exact⟨rfl,self _ _ _ hk hr⟩
 ·cases h
theorem mz {t kt et:TypeId} {m k x:Operand} {ym yk yx:LO} {kk:KeyKind} (hop:o.op=.mapUpdate t m k x∨o.op=.insert t m k x) (h1:aE m=some ym) (h2:aE k=some yk) (h3:aE x=some yx) (ht:P.underlying t=some (.map kt et)) (hk:dA P kt=some kk)
  (hT:TRel DS F J ts a) (hH:HRel F J h w) (hs:ab pos ts h (.mapUpdate kk ym yk yx)=some (v,h')):aG P F J a w o h' v:=by
 have e1:=an hT h1
 have e2:=an hT h2
 have e3:=an hT h3
 simp only[ab] at hs
 split at hs
 ·rename_i b key hm hkey
  rw[hm] at e1
  rw[hkey] at e2
  have hkr:=e2.of_c
  split at hs
  ·cases hs
  rename_i hok
  simp only[Bool.not_eq_true',Bool.not_eq_false] at hok
  split at hs
  ·rename_i ks vs hb
   cases e1 with
   | map _ _ hmo =>
    obtain⟨i,hi,hfix,hvirt,hu⟩:=hmo
    obtain⟨i',hi',_,_,es,clk,hes,hks,hvs,r1,r2,hun⟩:=hH.live b _ hb (by simp)
    rw[hi] at hi'
    simp only[Option.some.injEq] at hi'
    subst hi'
    have hbl:b<J.length:=(List.getElem?_eq_some_iff.1 hi).1
    have hJs:J.set b (some i)=J:=by
     apply List.ext_getElem?
     intro c
     by_cases e:b=c
     ·subst e; rw[List.getElem?_set_self hbl,hi]
     ·rw[List.getElem?_set_ne e]
    have hcbl:i.cb<w.heap.size:=hH.bound b i hi hvirt
    -- the new world,given the new entries
    have fin:∀ (ks' : List CV) (vs' : List LV) (es' : Array MapEntry) (clk' : Nat),es'.size=ks'.length→vs'.length=ks'.length→(∀ (i:Nat) (x:CV),ks'[i]? = some x→∃ e,es'[i]? = some e∧CRel F x e.key) →
      (∀ (i:Nat) (x:LV),vs'[i]? = some x→∃ e,es'[i]? = some e∧VRel F J x e.val)→(Instr.mapUpdate t (a.eval m) (a.eval k) (a.eval x)).run P w=.ok () { w with heap:=w.heap.setIfInBounds i.cb (.map es' clk') } →
      aG P F J a w o (h.set b (.map ks' vs' false)) .undef:=by
     intro ks' vs' es' clk' s1 s2 q1 q2 hrun
     let w' : World:={ w with heap:=w.heap.setIfInBounds i.cb (.map es' clk') }
     have hw' : w'.heap[i.cb]? = some (.map es' clk'):=by simp[w',hcbl]
     have hother:∀ c,c≠i.cb→w'.heap[c]? = w.heap[c]?:=fun c hc=>by simp only[w']; rw[Array.getElem?_setIfInBounds_ne (fun e=>hc e.symm)]
     have hfz:FzOk F w':=by
      refine⟨fun b' o' u' hF=>?_,fun r es2 hr=>?_⟩
      ·have:=hH.fz.cell _ _ _ hF
       by_cases e:b'=i.cb
       ·subst e
        simp[World.cell?,hes] at this
       ·rw[← this]
        exact World.cell?_of_block (w:=w) (a:=⟨b',o',none⟩) (hother b' e)
      ·obtain⟨clk2,hc⟩:=hH.fz.map r es2 hr
       refine⟨clk2,?_⟩
       rw[hother r (by rintro rfl; rw[hun rfl] at hr; cases hr)]
       exact hc
     have hB:BRel F (J.set b (some i)) i w' (.map ks' vs' false):=by
      rw[hJs]
      exact⟨hfix,hvirt,es',clk',hw',s1,s2,q1,q2,fun _=>hun rfl⟩
     have:=hH.change (b:=b) (i':=i) (blk':=.map ks' vs' false) (w':=w') hbl (by simp) (fun i2 h2=>by rw[hi] at h2; simp only[Option.some.injEq] at h2; subst h2; exact⟨Nat.le_refl _,fun _=>rfl,fun _=>rfl⟩)
      rfl rfl rfl (by simp[w']) (fun c hc hne=>hother c (fun e=>hne i hi hvirt e.symm)) (fun _=>⟨by simp[w']; exact hcbl,.inr ⟨i,hi,hvirt,rfl⟩⟩) hB hfz
     rw[hJs] at this
     rcases hop with e | e
     ·exact Good.skip (s:=Instr.mapUpdate t (a.eval m) (a.eval k) (a.eval x)) (by simp only[execOp,e]) hrun this.1 this.2
     ·exact Good.skip (s:=Instr.mapUpdate t (a.eval m) (a.eval k) (a.eval x)) (by simp only[execOp,e]) hrun this.1 this.2
    have hlen:es.toList.length=ks.length:=by rw[Array.length_toList,hks]
    have hrel:∀ (j:Nat) (x:CV),ks[j]? = some x→∃ e,es.toList[j]? = some e∧CRel F x e.key:=fun j x hx=>by simpa using r1 j x hx
    have hck:(Instr.checkKey false 10000 kt (a.eval k)).run P w=.ok () w:=nk (P:=P) (w:=w) hk hkr hok false 9998
    have setRun:∀ (es' : Array MapEntry) (clk' : Nat),(setObj i.cb (.map es' clk')).run P w=.ok () { w with heap:=w.heap.setIfInBounds i.cb (.map es' clk') }:=by
     intro es' clk'
     simp only[setObj,Sem.run,hes]
    split at hs
    ·rename_i j hf
     obtain⟨rfl,rfl⟩:=aI hs
     obtain⟨hj,xk,hxk,heq⟩:=yr hf
     obtain⟨e,he,her⟩:=r1 j xk hxk
     obtain⟨hval,hsame⟩:=Jg heq hkr her
     have hfk:=kL (P:=P) (w:=w) hk hkr hlen hrel hf
     have he' : es.toList[j]? = some e:=by simpa using he
     refine fin ks (vs.set j (LM.ev ts yx)) (es.modify j fun e=>{ e with key:=a.eval k,val:=a.eval x }) clk (by simp[hks]) (by simp[hvs]) (fun i2 x2 hx2=>?_) (fun i2 x2 hx2=>?_) ?_
     ·obtain⟨e2,he2,hr2⟩:=r1 i2 x2 hx2
      rw[Array.getElem?_modify,he2]
      by_cases e3:j=i2
      ·subst e3
       rw[he] at he2
       simp only[Option.some.injEq] at he2
       subst he2
       refine⟨_,by rw[if_pos rfl]; rfl,?_⟩
       simp only
       rw[hval]
       exact hr2
      ·exact⟨e2,by rw[if_neg e3],hr2⟩
     ·rw[List.getElem?_set] at hx2
      rw[Array.getElem?_modify]
      by_cases e3:j=i2
      ·subst e3
       rw[if_pos rfl] at hx2
       split at hx2
       ·simp only[Option.some.injEq] at hx2
        subst hx2
        exact⟨{ e with key:=a.eval k,val:=a.eval x },by rw[he,if_pos rfl]; rfl,e3⟩
       ·cases hx2
      ·rw[if_neg e3] at hx2
       obtain⟨e2,he2,hr2⟩:=r2 i2 x2 hx2
       exact⟨e2,by rw[he2,if_neg e3],hr2⟩
     ·unfold Instr.mapUpdate
      rw[hu]
      simp only[Sem.run_bind,run_underlying ht,Result.andThen_ok,eE hes rfl,hck,hfk,fE,he',Option.map_some,Nat.zero_add]
      simp only[he,Option.map_some,Option.getD_some,Instr.keyThatStays,← hval]
      rw[show Instr.sameBits 10000 (a.eval k) (a.eval k)=true from by have:=hsame; rw[← hval] at this; exact this]
      simp only[if_true,Sem.run_pure,Result.andThen_ok]
      exact setRun _ _
    ·rename_i hf
     obtain⟨rfl,rfl⟩:=aI hs
     have hfk:=kL (P:=P) (w:=w) hk hkr hlen hrel hf
     refine fin (ks++[key]) (vs++[LM.ev ts yx]) (es.push { key:=a.eval k,val:=a.eval x,born:=clk }) (clk+1) (by simp[hks]) (by simp[hvs]) (fun i2 x2 hx2=>?_) (fun i2 x2 hx2=>?_) ?_
     ·rw[Array.getElem?_push]
      by_cases hlt:i2<ks.length
      ·rw[List.getElem?_append_left hlt] at hx2
       rw[if_neg (by omega)]
       exact r1 i2 x2 hx2
      ·have hl2:=(List.getElem?_eq_some_iff.1 hx2).1
       simp only[List.length_append,List.length_singleton] at hl2
       have:i2=ks.length:=by omega
       subst this
       rw[List.getElem?_append_right (Nat.le_refl _),Nat.sub_self] at hx2
       simp only[List.getElem?_cons_zero,Option.some.injEq] at hx2
       subst hx2
       exact⟨_,by rw[if_pos hks.symm],hkr⟩
     ·rw[Array.getElem?_push]
      by_cases hlt:i2<vs.length
      ·rw[List.getElem?_append_left hlt] at hx2
       rw[if_neg (by omega)]
       exact r2 i2 x2 hx2
      ·have hl2:=(List.getElem?_eq_some_iff.1 hx2).1
       simp only[List.length_append,List.length_singleton] at hl2
       have:i2=vs.length:=by omega
       subst this
       rw[List.getElem?_append_right (Nat.le_refl _),Nat.sub_self] at hx2
       simp only[List.getElem?_cons_zero,Option.some.injEq] at hx2
       subst hx2
       exact⟨_,by rw[if_pos (by omega)],e3⟩
     ·unfold Instr.mapUpdate
      rw[hu]
      simp only[Sem.run_bind,run_underlying ht,Result.andThen_ok,eE hes rfl,hck,hfk,fE]
      exact setRun _ _
    ·cases hs
  ·cases hs
 ·cases hs
end
end LM
namespace LM
open Go Go.RowKit
section
variable {P:Program} {F:Fz} {J:JMap} {a:Act} {w:World} {o:Oper} {ts:List LV} {h h' : Heap} {v:LV} {pos:Option Nat}
theorem CL.append {cs cs' : List CV} {us us' : List Value} (h:CL F cs us) (h' : CL F cs' us'):CL F (cs++cs') (us++us'):=by
 have:=(h.toVL (J:=[])).append h'.toVL
 rw[← List.map_append] at this
 exact this.toCL
theorem mg {sz b:Nat}:∀ {xs:List CV} {c:Nat},(∀ (i:Nat) (x:CV),xs[i]? = some x→x.cells.length=sz∧∃ us:List Value,CL F x.cells us∧∀ (j:Nat) (y:Value),us[j]? = some y→F.cell b (c+i*sz+j)=some y) →
  ∃ ws:List Value,CL F (xs.flatMap CV.cells) ws∧ws.length=xs.length*sz∧∀ (k:Nat) (y:Value),ws[k]? = some y→F.cell b (c+k)=some y
 | [],c,_=>⟨[],⟨rfl,by simp⟩,by simp,by simp⟩
 | x::xs,c,h=>by
  obtain⟨hl,us,hu,hf⟩:=h 0 x rfl
  obtain⟨ws,hw,hwl,hwf⟩:=mg (xs:=xs) (c:=c+sz) fun i y hy=>by
   obtain⟨h1,us,h2,h3⟩:=h (i+1) y hy
   exact⟨h1,us,h2,fun j z hz=>by rw[← h3 j z hz,Nat.add_mul]; congr 1; omega⟩
  refine⟨us++ws,by rw[List.flatMap_cons]; exact hu.append hw,by rw[List.length_append,hwl,hu.1,hl,List.length_cons,Nat.add_mul]; omega,fun k y hy=>?_⟩
  by_cases hk:k<us.length
  ·rw[List.getElem?_append_left hk] at hy
   have:=hf k y hy
   simpa using this
  ·rw[List.getElem?_append_right (by omega)] at hy
   have:=hwf _ y hy
   rw[← this]
   congr 1
   have:=hu.1
   omega
theorem dL (size:Nat) (ad:Option Addr) (len cap:Nat) (w' : World):(Builtin.firstCells size 0 (.slice ad len cap)).run P w'=.ok #[] w':=by
 cases ad with
 | none=>exact run_firstCells_none w' size 0 len cap
 | some b=>exact run_firstCells_some w' size 0 b len cap [] (by simp) (by simp)
theorem tP {esz:Option Nat} {x:LV} {u:Value} {n:Nat} {new:List LV} {tx:TypeId} (hk:rh P tx=true) (hr:VRel F J x u) (hH:HRel F J h w)
  (hs:aO esz h x=some (n,new)) (hf:aT new=true) (hl:new.length=n*ae esz):∃ ws,VL F J new ws∧Src P (ae esz) tx u n ws w:=by
 have hk' : (∃ e',P.underlying tx=some (.slice e'))∨P.underlying tx=some .string:=by
  unfold rh at hk
  split at hk
  ·rename_i e he; exact .inl ⟨e,he⟩
  ·rename_i he; exact .inr he
  ·cases hk
 have bare:∀ (ad:Option Addr) (c:Nat),Src P (ae esz) tx (.slice ad 0 c) 0 [] w:=fun ad c =>
  ⟨hk',fun _=>rfl,dL _ ad 0 c w,dL _ ad 0 c w.drew,by simp,by simp⟩
 unfold aO at hs
 split at hs
 ·simp only[Option.some.injEq,Prod.mk.injEq] at hs
  obtain⟨rfl,rfl⟩:=hs
  cases hr
  exact⟨[],.nil,bare _ _⟩
 ·simp only[Option.some.injEq,Prod.mk.injEq] at hs
  obtain⟨rfl,rfl⟩:=hs
  cases hr
  exact⟨[],.nil,bare _ _⟩
 ·rename_i xs
  simp only[Option.some.injEq,Prod.mk.injEq] at hs
  obtain⟨rfl,rfl⟩:=hs
  obtain⟨ad,cap,rfl,hle,hc⟩:=hr.of_c.slice_inv
  by_cases h0:xs.length=0
  ·have:xs=[]:=List.eq_nil_of_length_eq_zero h0
   subst this
   exact⟨[],.nil,bare _ _⟩
  ·obtain⟨b,c,sz,rfl,hx⟩:=hc (by omega)
   obtain⟨ws,hw,hwl,hwf⟩:=mg hx
   have hsz:xs.length*sz=xs.length*ae esz:=by rw[← hwl,hw.1,← hl,List.length_map]
   refine⟨ws,hw.toVL,⟨hk',fun _=>rfl,?_,?_,by rw[hwl,hsz],hw.toVL (J:=J) |>.cellsOk⟩⟩
   ·exact run_firstCells_some w _ _ _ _ _ ws (by rw[hwl,hsz]) fun j v hv=>by rw[bK]; exact hH.fz.cell _ _ _ (hwf j v hv)
   ·exact run_firstCells_some w.drew _ _ _ _ _ ws (by rw[hwl,hsz]) fun j v hv=>by rw[bK]; exact hH.fz.cell _ _ _ (hwf j v hv)
 ·rename_i s
  simp only[Option.some.injEq,Prod.mk.injEq] at hs
  obtain⟨rfl,rfl⟩:=hs
  obtain⟨b,rfl,hb⟩:=hr.of_c.str_inv
  have hbs:b.size=s.length:=by rw[← hb,Array.length_toList]; rfl
  by_cases h0:s.length=0
  ·have e:s=[]:=List.eq_nil_of_length_eq_zero h0
   subst e
   have hemp:∀ w' : World,(Builtin.firstCells (ae esz) 0 (.string b)).run P w'=.ok #[] w':=fun w'=>by simp[Builtin.firstCells]
   exact⟨[],.nil,⟨hk',fun w'=>by show (pure b.size:Sem Nat).run P w'=_; rw[hbs]; rfl,hemp w,hemp w.drew,by simp,by simp⟩⟩
  ·have hz:ae esz=1:=by
    simp only[List.length_map] at hl
    have:s.length*1=s.length*ae esz:=by omega
    exact (Nat.eq_of_mul_eq_mul_left (by omega) this).symm
   refine⟨byteCells b,⟨by rw[byteCells_length,hbs,List.length_map],fun i x hx=>?_⟩,?_⟩
   ·simp only[List.getElem?_map,Option.map_eq_some_iff] at hx
    obtain⟨c,hc,rfl⟩:=hx
    rw[← hb] at hc
    exact⟨.int .u8 c.toNat,by unfold byteCells; rw[List.getElem?_map,hc]; rfl,.c _ _ (.int _ _),rfl⟩
   ·rw[hz,← hbs]
    exact⟨hk',fun _=>rfl,firstCells_string b w,firstCells_string b w.drew,by rw[byteCells_length,Nat.mul_one],fun u hu=>by
     obtain⟨_,_,rfl⟩:=List.mem_map.1 hu
     rfl⟩
 ·rename_i b g off len e1 c1
  split at hs
  ·rename_i g' cs fz hb
   split at hs
   ·rename_i hc
    obtain⟨hg,hle⟩:=hc
    subst hg
    simp only[Option.some.injEq,Prod.mk.injEq] at hs
    obtain⟨rfl,rfl⟩:=hs
    obtain⟨i,ad,c,hi,_,rfl,hlc,hnone,_,hcur⟩:=hr.slice_inv
    obtain⟨i2,hi2,hgen,_,hvirt,hlive⟩:=hH.cellsAt hb
    rw[hi] at hi2
    simp only[Option.some.injEq] at hi2
    subst hi2
    cases hv:i.virt with
    | true =>
     have h0:=((hcur hgen.symm).1 hv).1
     have:len=0:=by omega
     subst this
     have:=hvirt hv
     subst this
     exact⟨[],by simpa using VL.nil,bare _ _⟩
    | false =>
     obtain⟨arr,el,harr,hsz,hbase,hun,us,hus,huarr⟩:=hlive hv
     have had:=((hcur hgen.symm).2 hv).1
     have hul:=hus.1
     subst had
     have hval:=(hus.drop off).take (len*ae esz)
     have hlw:((us.drop off).take (len*ae esz)).length=len*ae esz:=by rw[hval.1]; exact hl
     have hcells:∀ (j:Nat) (v:Value),((us.drop off).take (len*ae esz))[j]? = some v→w.cell? ((⟨i.cb,i.base+off,none⟩ : Addr).add j)=some v:=by
      intro j v hv
      rw[bK]
      have hj:j<len*ae esz:=by rw[← hlw]; exact (List.getElem?_eq_some_iff.1 hv).1
      rw[List.getElem?_take,if_pos hj,List.getElem?_drop] at hv
      have:=huarr _ v hv
      exact dC harr (by rw[← this]; congr 1; omega)
     exact⟨_,hval,hk',fun _=>rfl,run_firstCells_some w _ _ _ _ _ _ hlw hcells,run_firstCells_some w.drew _ _ _ _ _ _ hlw (by simpa using hcells),hlw,hval.cellsOk⟩
   ·cases hs
  ·cases hs
 ·cases hs
end
end LM
namespace LM
open Go Go.RowKit
section
variable {P:Program} {F:Fz} {J:JMap} {a:Act} {w:World} {o:Oper} {ts:List LV} {h h' : Heap} {v:LV} {pos:Option Nat}
theorem iL {t tx ty e:TypeId} {i:TypeInfo} (ht:P.underlying t=some (.slice e)) (hi:P.info? e=some i) {ad:Option Addr} {sLen sCap:Nat} {x:Value} (hs:Src P i.size tx x 0 [] w) (hle:sLen≤sCap) :
  (Builtin.append_ #[t,tx] ty #[.slice ad sLen sCap,x]).run P w=.ok (.slice ad sLen sCap) w:=by
 have hst:∀ b:Addr,(storeCells (b.add (sLen*i.size)) []).run P w=.ok () w:=fun _=>rfl
 rcases hs.kind with ⟨e',hk⟩ | hk<;>cases ad<;>simp[Builtin.append_,run_underlying ht,run_underlying hk,Go.sizeOf,typeInfo,hi,hs.len,hle,hs.cells,hst]
theorem oH {t tx ty e:TypeId} {i:TypeInfo} (ht:P.underlying t=some (.slice e)) (hi:P.info? e=some i) {g off sLen sCap n:Nat} {x:Value} {news:List Value} {arr:Array Value} {el:TypeId} (hs:Src P i.size tx x n news w)
  (hle:sLen+n≤sCap) (harr:w.heap[g]? = some (.cells arr el (0,0))) (hfit:off+sLen*i.size+news.length≤arr.size) :
  (Builtin.append_ #[t,tx] ty #[.slice (some ⟨g,off,none⟩) sLen sCap,x]).run P w=.ok (.slice (some ⟨g,off,none⟩) (sLen+n) sCap) (w.setRow g (bB arr.toList (off+sLen*i.size) news).toArray):=by
 have hst:=fG (P:=P) harr hfit hs.one
 rcases hs.kind with ⟨e',hk⟩ | hk<;>simp[Builtin.append_,run_underlying ht,run_underlying hk,Go.sizeOf,typeInfo,hi,hs.len,hle,hs.cells,bK,hst]
theorem Good.grown {g fz len n b sz:Nat} {esz:Option Nat} {cs new:List LV} {us ws:List Value} {i:Info} {z:List Value} {c:Nat} {e:TypeId} {r:Result Value} (hH:HRel F J h w) (hb:h[b]? = some (.cells g cs fz)) (hi:J[b]? = some (some i)) (hsz:sz=ae esz)
  (hus:VL F J cs us) (hws:VL F J new ws) (hcl:cs.length=len*sz) (hnl:new.length=n*sz) (hfz:fz≤cs.length) (hz:z.length=(c-(len+n))*sz) (hc:len+n≤c)
  (hr:r=.ok (.slice (some ⟨w.heap.size,0,none⟩) (len+n) c) (w.drew.alloc (.cells ((us++ws).toArray++z.toArray) e (0,0)))) :
  Good F J w (h.set b (.cells (g+1) (cs++new) fz)) (.slice b (g+1) 0 (len+n) esz none) r:=by
 subst hsz
 obtain⟨i2,hi2,hg,hfix,_,_⟩:=hH.cellsAt hb
 rw[hi] at hi2
 simp only[Option.some.injEq] at hi2
 subst hi2
 have hl:b<J.length:=(List.getElem?_eq_some_iff.1 hi).1
 have hfz1:FzOk F w.drew:=⟨fun b o v hb=>hH.fz.cell b o v hb,fun r es hr=>hH.fz.map r es hr⟩
 let arr:=(us++ws).toArray++z.toArray
 have harr:arr.size=c*ae esz:=by
  simp only[arr,Array.size_append,List.size_toArray,List.length_append,hus.1,hws.1,hcl,hnl,hz,← Nat.add_mul]
  congr 1
  omega
 let i' : Info:=⟨g+1,false,false,w.heap.size,0,arr.size⟩
 have hJ:JLe J (J.set b (some i')):=by
  intro k i3 hk
  by_cases ek:b=k
  ·subst ek
   rw[hi] at hk
   simp only[Option.some.injEq] at hk
   subst hk
   exact⟨i',by rw[List.getElem?_set_self hl],by simp[i']; omega,fun h=>by simp only[i'] at h; omega,fun h=>by rw[hfix] at h; cases h⟩
  ·exact⟨i3,by rw[List.getElem?_set_ne ek]; exact hk,Nat.le_refl _,fun _=>rfl,fun _=>rfl⟩
 have hnew:=(hus.append hws).mono F.le_refl hJ
 have hB0:BRel F (J.set b (some i')) i' (w.drew.alloc (.cells arr e (0,0))) (.cells i'.gen (cs++new) 0):=by
  refine BRel.newCells (w:=w.drew) (i:=i') rfl rfl rfl rfl hnew (fun k x hx=>?_) ?_ rfl hfz1
  ·have hk:k<(us++ws).length:=(List.getElem?_eq_some_iff.1 hx).1
   simp only[arr]
   rw[Array.getElem?_append_left (by simpa using hk)]
   simpa using hx
  ·rw[harr,List.length_append,hcl,hnl,← Nat.add_mul]
   exact Nat.mul_le_mul_right _ hc
 have hB:BRel F (J.set b (some i')) i' (w.drew.alloc (.cells arr e (0,0))) (.cells (g+1) (cs++new) fz):=by
  obtain⟨q1,q2,q3,q4⟩:=hB0
  refine⟨q1,q2,q3,fun hv=>?_⟩
  obtain⟨arr1,el1,a1,a2,a3,a4,a5⟩:=q4 hv
  exact⟨arr1,el1,a1,a2,a3,a4,fun o ho=>a5 o (by omega)⟩
 have:=hH.change (b:=b) (i':=i') (blk':=.cells (g+1) (cs++new) fz) (w':=w.drew.alloc (.cells arr e (0,0))) hl (by simp)
  (fun i2 h2=>by rw[hi] at h2; simp only[Option.some.injEq] at h2; subst h2; exact⟨by simp[i']; omega,fun h=>by simp only[i'] at h; omega,fun h=>by rw[hfix] at h; cases h⟩)
  rfl rfl rfl (by simp) (fun k hk _=>by rw[Below.heap_alloc w.drew _ k (by simpa using hk)]; rfl) (fun _=>⟨by simp[i'],.inl (Nat.le_refl _)⟩) hB (hfz1.alloc _)
 refine⟨_,_,F,J.set b (some i'),hr,.slice _ _ _ _ _ _ _ ⟨i',_,c,by rw[List.getElem?_set_self hl],Nat.le_refl _,rfl,hc,by simp,by simp,fun _=>⟨by simp[i'],fun _=>⟨rfl,?_⟩⟩⟩,this.1,this.2⟩
 simp only[i',harr]
 omega
theorem Good.roomy {g fz len n b sz c:Nat} {esz:Option Nat} {cs new:List LV} {ws:List Value} {i:Info} {arr:Array Value} {el:TypeId} {r:Result Value} (hH:HRel F J h w) (hb:h[b]? = some (.cells g cs fz)) (hi:J[b]? = some (some i)) (hv:i.virt=false) (hsz:sz=ae esz)
  (harr:w.heap[i.cb]? = some (.cells arr el (0,0))) (hws:VL F J new ws) (hcl:cs.length=len*sz) (hnl:new.length=n*sz) (hfz:fz≤cs.length) (hc:len+n≤c) (hfit:i.base+c*sz≤i.size)
  (hr:r=.ok (.slice (some ⟨i.cb,i.base,none⟩) (len+n) c) (w.setRow i.cb (bB arr.toList (i.base+len*sz) ws).toArray)) :
  Good F J w (h.set b (.cells (g+1) (cs++new) fz)) (.slice b (g+1) 0 (len+n) esz none) r:=by
 subst hsz
 obtain⟨i2,hi2,hg,hfix,_,hlive⟩:=hH.cellsAt hb
 rw[hi] at hi2
 simp only[Option.some.injEq] at hi2
 subst hi2
 obtain⟨arr2,el2,ha2,hsize,hbase,hun,us,hus,huarr⟩:=hlive hv
 rw[harr] at ha2
 simp only[Option.some.injEq,Obj.cells.injEq] at ha2
 obtain⟨rfl,rfl,_⟩:=ha2
 have hl:b<J.length:=(List.getElem?_eq_some_iff.1 hi).1
 have hul:=hus.1
 have hwl:=hws.1
 have hmul:(len+n)*ae esz≤c*ae esz:=Nat.mul_le_mul_right _ hc
 rw[Nat.add_mul] at hmul
 let w':=w.setRow i.cb (bB arr.toList (i.base+len*ae esz) ws).toArray
 have hw' : w'.heap[i.cb]? = some (.cells (bB arr.toList (i.base+len*ae esz) ws).toArray el (0,0)):=setRow_heap w i.cb arr _ el (0,0) harr
 have hother:∀ k,k≠i.cb→w'.heap[k]? = w.heap[k]?:=fun k hk=>setRow_other w i.cb k _ hk
 have hkeep:FzOk F w':=by
  refine⟨fun b' o u hF=>?_,fun r es hr=>?_⟩
  ·by_cases e:b'=i.cb
   ·subst e
    have hlt:o<i.base+fz:=by
     rcases Nat.lt_or_ge o (i.base+fz) with h | h
     ·exact h
     ·rw[hun o h] at hF; cases hF
    have:=hH.fz.cell _ _ _ hF
    simp only[World.cell?,harr,hw',Option.isSome_none,Bool.false_eq_true,if_false,List.getElem?_toArray] at this ⊢
    rw[eP,if_neg (by omega)]
    simpa using this
   ·have:=hH.fz.cell _ _ _ hF
    rw[← this]
    exact World.cell?_of_block (w:=w) (a:=⟨b',o,none⟩) (hother b' e)
  ·obtain⟨clk,hc⟩:=hH.fz.map r es hr
   refine⟨clk,?_⟩
   rw[hother r (by rintro rfl; rw[harr] at hc; cases hc)]
   exact hc
 let i' : Info:={ i with gen:=g+1 }
 have hJ:JLe J (J.set b (some i')):=by
  intro k i3 hk
  by_cases ek:b=k
  ·subst ek
   rw[hi] at hk
   simp only[Option.some.injEq] at hk
   subst hk
   exact⟨i',by rw[List.getElem?_set_self hl],by simp[i']; omega,fun h=>by simp only[i'] at h; omega,fun h=>by rw[hfix] at h; cases h⟩
  ·exact⟨i3,by rw[List.getElem?_set_ne ek]; exact hk,Nat.le_refl _,fun _=>rfl,fun _=>rfl⟩
 have hasz:arr.toList.length=i.size:=by rw[Array.length_toList]; exact hsize
 have hB:BRel F (J.set b (some i')) i' w' (.cells (g+1) (cs++new) fz):=by
  refine⟨rfl,hfix,fun h=>(by simp only[i',hv] at h; cases h),fun _=>⟨_,el,hw',by simp[iA,i',hsize],by simp only[i',List.length_append,hcl,hnl]; omega,fun k x hx=>?_,hun⟩⟩
  obtain⟨u,hu,hr2,hcell⟩:=((hus.append hws).mono F.le_refl hJ).2 k x hx
  refine⟨u,?_,hr2,hcell⟩
  have hk:k<cs.length+new.length:=by rw[← List.length_append]; exact (List.getElem?_eq_some_iff.1 hx).1
  show (bB arr.toList (i.base+len*ae esz) ws).toArray[i.base+k]? = some u
  rw[List.getElem?_toArray,eP]
  by_cases hkc:k<cs.length
  ·rw[if_neg (by omega)]
   rw[List.getElem?_append_left (by omega)] at hu
   have:=huarr k u hu
   simpa using this
  ·rw[if_pos (by omega)]
   rw[List.getElem?_append_right (by omega)] at hu
   rw[← hu]
   congr 1
   omega
 have:=hH.change (b:=b) (i':=i') (blk':=.cells (g+1) (cs++new) fz) (w':=w') hl (by simp)
  (fun i2 h2=>by rw[hi] at h2; simp only[Option.some.injEq] at h2; subst h2; exact⟨by simp[i']; omega,fun h=>by simp only[i'] at h; omega,fun h=>by rw[hfix] at h; cases h⟩)
  rfl rfl rfl (by simp[w']) (fun k hk hne=>hother k (fun e=>hne i hi hv e.symm)) (fun _=>⟨by simp only[w',setRow_size,i']; exact hH.bound b i hi hv,.inr ⟨i,hi,hv,rfl⟩⟩) hB hkeep
 exact⟨_,_,F,J.set b (some i'),hr,.slice _ _ _ _ _ _ _ ⟨i',_,c,by rw[List.getElem?_set_self hl],Nat.le_refl _,rfl,hc,by simp,by simp,fun _=>⟨fun h=>(by simp only[i',hv] at h; cases h),fun _=>⟨rfl,by simp only[i']; omega⟩⟩⟩,this.1,this.2⟩
end
end LM
namespace LM
open Go Go.RowKit
variable {DS:List Deferred}
section
variable {P:Program} {F:Fz} {J:JMap} {a:Act} {w:World} {o:Oper} {ts:List LV} {h h' : Heap} {v:LV} {pos:Option Nat}
theorem G7 {t t2 e:TypeId} {s x:Operand} {ys yx:LO} {z:Option Nat} {it:TypeInfo} {c:Call} (hop:o.op=.call c) (hc:c.callee=.builtin .append) (h0:c.argTypes=#[t,t2]) (ha:c.args=#[s,x])
  (h1:aE s=some ys) (h2:aE x=some yx) (ht:P.underlying t=some (.slice e)) (hk:rh P t2=true) (hz:bX P e=some z) (hit:P.info? e=some it) (hzs:it.zero.map (fun v=>v.cells.size)=some (ae z))
  (hT:TRel DS F J ts a) (hH:HRel F J h w) (hp:dW pos h) (hs:ab pos ts h (.append z it.bytes ys yx)=some (v,h')):aG P F J a w o h' v:=by
 have e1:=an hT h1
 have e2:=an hT h2
 obtain⟨zu,hzu,hzc⟩:=Option.map_eq_some_iff.1 hzs
 have hsz:it.size=ae z:=by
  have:=(cm hz).2
  unfold dh at this
  rw[hit] at this
  simpa using this
 suffices hg:Good F J w h' v ((Builtin.append_ #[t,t2] o.type #[a.eval s,a.eval x]).run P w) by
  obtain⟨cs,he⟩:=dY (a:=a) hop hc
  refine Good.op (s:=Builtin.append_ #[t,t2] o.type #[a.eval s,a.eval x]) ?_ hg
  rw[he,ha,h0,List.map_toArray]
  rfl
 simp only[ab] at hs
 unfold aN at hs
 split at hs
 ·cases hs
 rename_i n new hsc
 split at hs
 ·cases hs
 rename_i hf
 simp only[Bool.not_eq_true',Bool.not_eq_false] at hf
 split at hs
 ·cases hs
 rename_i hnl
 simp only[ne_eq,Decidable.not_not] at hnl
 obtain⟨ws,hws,hsrc0⟩:=tP hk e2 hH hsc hf hnl
 have hsrc:Src P it.size t2 (a.eval x) n ws w:=by rw[hsz]; exact hsrc0
 have zeroN:n=0→ws=[]:=fun h=>List.eq_nil_of_length_eq_zero (by rw[hws.1,hnl,h,Nat.zero_mul])
 -- a new row
 have grow:∀ (ad:Option Addr) (len cap:Nat) (cs:List LV) (us:List Value),a.eval s=.slice ad len cap→VL F J cs us→cs.length=len*ae z→(∀ w' : World,w'.heap=w.heap→(Builtin.firstCells (ae z) len (.slice ad len cap)).run P w'=.ok us.toArray w')→cap<len+n →
   (len+n)*it.bytes≤2^47→len+n≤9223372036854775807 →
   (Builtin.append_ #[t,t2] o.type #[a.eval s,a.eval x]).run P w=.ok (.slice (some ⟨w.heap.size,0,none⟩) (len+n) (grownCap w (len+n) cap e))
    (w.drew.alloc (.cells ((us++ws).toArray++Builtin.zeroCells zu.cells (grownCap w (len+n) cap e-(len+n))) e)):=by
  intro ad len cap cs us hu hus hcl hold hcap hb h63
  rw[hu]
  exact run_append_grow_src w t t2 o.type e it zu ht hit hzu ad len cap us (by rw[hsz]; exact hold w.drew rfl) (a.eval x) n ws hsrc hcap (by omega) (growslice_fits hcap (by simpa using hb))
 have zeros:∀ m,(Builtin.zeroCells zu.cells m).toList.length=m*ae z:=fun m=>by simp[Builtin.zeroCells,hzc]
 -- the row of a slice that had none
 have first:∀ (ad:Option Addr),a.eval s=.slice ad 0 0→n≠0→n*it.bytes≤2^47→n≤9223372036854775807 →
   Good F J w (cN pos (.cells 1 new 0) h) (.slice (b7 pos h) 1 0 n z none) ((Builtin.append_ #[t,t2] o.type #[a.eval s,a.eval x]).run P w):=by
  intro ad hu hn0 hb h63
  have hr:=grow ad 0 0 [] [] hu .nil (by simp) (fun w' _=>dL _ ad 0 0 w') (by omega) (by simpa using hb) (by omega)
  simp only[Nat.zero_add,List.nil_append] at hr
  refine Good.newSlice (cap:=grownCap w n 0 e) (arr:=ws.toArray++Builtin.zeroCells zu.cells (grownCap w n 0 e-n)) (e:=e) hH hp hws (grownCap_ge w n 0 e) (by simp) (fun k y hy=>?_) ?_ ?_ ⟨w.drew,hr,rfl,rfl,rfl,rfl⟩
  ·have hk:k<ws.length:=(List.getElem?_eq_some_iff.1 hy).1
   rw[Array.getElem?_append_left (by simpa using hk)]
   simpa using hy
  ·rw[Array.size_append,List.size_toArray,hws.1]; omega
  ·have:=grownCap_ge w n 0 e
   rw[Array.size_append,List.size_toArray,hws.1,hnl,← Array.length_toList (xs:=Builtin.zeroCells zu.cells _),zeros,← Nat.add_mul]
   exact Nat.mul_le_mul_right _ (by omega)
 split at hs
 ·rename_i hx
  rw[hx] at e1
  have hu:a.eval s=.slice none 0 0:=by cases hu:a.eval s<;>rw[hu] at e1<;>cases e1<;>rfl
  split at hs
  ·rename_i hn0
   obtain⟨rfl,rfl⟩:=aI hs
   refine Good.same (u:=.slice none 0 0) hH .nil ?_
   rw[hu]
   subst hn0
   exact iL ht hit (by rw[← zeroN rfl]; exact hsrc) (Nat.le_refl _)
  ·rename_i hn0
   split at hs
   ·cases hs
   ·rename_i hb
    obtain⟨rfl,rfl⟩:=aI hs
    exact first none hu hn0 (by omega) (by omega)
 ·rename_i hx
  rw[hx] at e1
  obtain⟨ad,hu⟩ : ∃ ad,a.eval s=.slice ad 0 0:=by cases hu:a.eval s<;>rw[hu] at e1<;>cases e1; exact⟨_,rfl⟩
  split at hs
  ·rename_i hn0
   obtain⟨rfl,rfl⟩:=aI hs
   refine Good.same (u:=.slice ad 0 0) hH (.emp ad) ?_
   rw[hu]
   subst hn0
   exact iL ht hit (by rw[← zeroN rfl]; exact hsrc) (Nat.le_refl _)
  ·rename_i hn0
   split at hs
   ·cases hs
   ·rename_i hb
    obtain⟨rfl,rfl⟩:=aI hs
    exact first ad hu hn0 (by omega) (by omega)
 ·rename_i b g off len e' cap hx
  rw[hx] at e1
  obtain⟨i,ad,c',hi,_,hu,hlc,hnone,hcapk,hcur⟩:=e1.slice_inv
  split at hs
  ·rename_i g' cs fz hb
   split at hs
   ·cases hs
   rename_i hcond
   simp only[ne_eq,not_or,Decidable.not_not,Nat.not_lt,gt_iff_lt] at hcond
   obtain⟨hg,hbytes,h63,hez⟩:=hcond
   subst hg
   subst hez
   obtain⟨i2,hi2,hgen,hfix,hvirt,hlive⟩:=hH.cellsAt hb
   rw[hi] at hi2
   simp only[Option.some.injEq] at hi2
   subst hi2
   -- reading the old cells
   have old:off+len*ae e'≤cs.length→∃ us,VL F J ((cs.drop off).take (len*ae e')) us∧(∀ w' : World,w'.heap=w.heap→(Builtin.firstCells (ae e') len (.slice ad len c')).run P w'=.ok us.toArray w'):=by
    intro hle
    cases hv:i.virt with
    | true =>
     have h00:=((hcur hgen.symm).1 hv).1
     have:len=0:=by omega
     subst this
     exact⟨[],by simpa using VL.nil,fun w' _=>dL _ ad 0 c' w'⟩
    | false =>
     obtain⟨arr,el,harr,hsize,hbase,hun,us,hus,huarr⟩:=hlive hv
     have had:=((hcur hgen.symm).2 hv).1
     have hul:=hus.1
     have hval:=(hus.drop off).take (len*ae e')
     have hlw:((us.drop off).take (len*ae e')).length=len*ae e':=by rw[hval.1]; simp; omega
     refine⟨_,hval,fun w' hw'=>?_⟩
     rw[had]
     refine run_firstCells_some w' _ _ _ _ _ _ hlw fun j v hv=>?_
     rw[bK]
     have hj:j<len*ae e':=by rw[← hlw]; exact (List.getElem?_eq_some_iff.1 hv).1
     rw[List.getElem?_take,if_pos hj,List.getElem?_drop] at hv
     have:=huarr _ v hv
     exact dC (w:=w') (by rw[hw']; exact harr) (by rw[← this]; congr 1; omega)
   split at hs
   ·rename_i c
    have hcc:c'=c:=hcapk c rfl
    subst hcc
    split at hs
    ·rename_i hroom
     split at hs
     ·rename_i hfits
      obtain⟨rfl,rfl⟩:=aI hs
      cases hv:i.virt with
      | true =>
       have h00:=((hcur hgen.symm).1 hv).1
       have hl0:len=0:=by omega
       have hn0:n=0:=by omega
       have hnew:new=[]:=List.eq_nil_of_length_eq_zero (by rw[hnl,hn0,Nat.zero_mul])
       have hws0:=zeroN hn0
       subst hn0 hnew hws0
       have hset:h.set b (.cells g (setCells cs (off+len*ae e') []) fz)=h:=by
        apply List.ext_getElem?
        intro k
        by_cases ek:b=k
        ·subst ek
         rw[List.getElem?_set_self (List.getElem?_eq_some_iff.1 hb).1,hb]
         rfl
        ·rw[List.getElem?_set_ne ek]
       rw[hset]
       refine Good.same (u:=.slice ad len c') hH (.slice _ _ _ _ _ _ _ ⟨i,ad,c',hi,by omega,rfl,by omega,hnone,hcapk,hcur⟩) ?_
       rw[hu]
       exact iL ht hit hsrc hlc
      | false =>
       obtain⟨arr,el,harr,hsize,hbase,hun,us,hus,huarr⟩:=hlive hv
       obtain⟨had,hfit⟩:=(hcur hgen.symm).2 hv
       have hmul:(len+n)*ae e'≤c'*ae e':=Nat.mul_le_mul_right _ hroom
       rw[Nat.add_mul] at hmul
       obtain⟨hH',hE⟩:=hH.write (off:=off+len*ae e') hb hi hv harr hws (by omega) (by omega)
       refine⟨_,_,F,J,?_,.slice _ _ _ _ _ _ _ ⟨i,ad,c',hi,by omega,rfl,hroom,hnone,hcapk,hcur⟩,hH',hE⟩
       rw[hu,had]
       have hwl:=hws.1
       have:=oH (off:=i.base+off) (sLen:=len) (sCap:=c') (n:=n) (ty:=o.type) ht hit hsrc hroom harr (by rw[hsz]; omega)
       rw[this,hsz,Nat.add_assoc]
     ·cases hs
    ·rename_i hroom
     split at hs
     ·rename_i hle
      obtain⟨rfl,rfl⟩:=aI hs
      obtain⟨us,hus,hold⟩:=old hle
      have hcl:((cs.drop off).take (len*ae e')).length=len*ae e':=by simp; omega
      have hr:=grow ad len c' _ us hu hus hcl hold (by omega) hbytes h63
      have hge:=grownCap_ge w (len+n) c' e
      refine Good.newSlice (cap:=grownCap w (len+n) c' e) (arr:=(us++ws).toArray++Builtin.zeroCells zu.cells (grownCap w (len+n) c' e-(len+n))) (e:=e) hH hp (hus.append hws) hge (by simp) (fun k y hy=>?_) ?_ ?_ ⟨w.drew,hr,rfl,rfl,rfl,rfl⟩
      ·have hk:k<(us++ws).length:=(List.getElem?_eq_some_iff.1 hy).1
       rw[Array.getElem?_append_left (by simpa using hk)]
       simpa using hy
      ·rw[Array.size_append,List.size_toArray,(hus.append hws).1]; omega
      ·rw[Array.size_append,List.size_toArray,(hus.append hws).1,List.length_append,hcl,hnl,← Array.length_toList (xs:=Builtin.zeroCells zu.cells _),zeros,← Nat.add_mul,← Nat.add_mul]
       exact Nat.mul_le_mul_right _ (by omega)
     ·cases hs
   ·split at hs
    ·rename_i hc3
     obtain⟨hoff,hlen,hfz⟩:=hc3
     subst hoff
     split at hs
     ·rename_i hn0
      obtain⟨rfl,rfl⟩:=aI hs
      subst hn0
      rw[hx]
      refine Good.same (u:=.slice ad len c') hH (.slice _ _ _ _ _ _ _ ⟨i,ad,c',hi,by omega,rfl,by omega,hnone,hcapk,hcur⟩) ?_
      rw[hu]
      exact iL ht hit (by rw[← zeroN rfl]; exact hsrc) hlc
     ·rename_i hn0
      obtain⟨rfl,rfl⟩:=aI hs
      by_cases hroom:len+n≤c'
      ·cases hv:i.virt with
       | true =>
        have h00:=((hcur hgen.symm).1 hv).1
        omega
       | false =>
        obtain⟨arr,el,harr,hsize,hbase,hun,us,hus,huarr⟩:=hlive hv
        obtain⟨had,hfit⟩:=(hcur hgen.symm).2 hv
        have hmul:(len+n)*ae e'≤c'*ae e':=Nat.mul_le_mul_right _ hroom
        rw[Nat.add_mul] at hmul
        refine Good.roomy (c:=c') hH hb hi hv rfl harr hws hlen.symm hnl hfz hroom (by omega) ?_
        rw[hu,had]
        have hwl:=hws.1
        have:=oH (off:=i.base) (sLen:=len) (sCap:=c') (n:=n) (ty:=o.type) ht hit hsrc hroom harr (by rw[hsz]; omega)
        rw[← hsz]
        simpa using this
      ·obtain⟨us,hus,hold⟩:=old (by omega)
       have hcs:(cs.drop 0).take (len*ae e')=cs:=by rw[List.drop_zero,List.take_of_length_le (by omega)]
       rw[hcs] at hus
       have hr:=grow ad len c' _ us hu hus hlen.symm hold (by omega) hbytes h63
       refine Good.grown (z:=(Builtin.zeroCells zu.cells (grownCap w (len+n) c' e-(len+n))).toList) (c:=grownCap w (len+n) c' e) (e:=e) hH hb hi rfl hus hws hlen.symm hnl hfz (zeros _) (grownCap_ge w (len+n) c' e) ?_
       rw[hr]
    ·cases hs
  ·cases hs
 ·cases hs
end
end LM
namespace LM
open Go Go.RowKit
variable {DS:List Deferred}
section
variable {P:Program} {F:Fz} {J:JMap} {a:Act} {w:World} {o:Oper} {ts:List LV} {h h' : Heap} {v:LV} {pos:Option Nat}
theorem equal_nil {t e:TypeId} {ad:Option Addr} {n c:Nat} (ht:P.underlying t=some (.slice e)):(Op.equal t (.slice ad n c) (.slice none 0 0)).run P w=.ok ad.isNone w:=by
 have h:∀ d,(Op.equalIn (d+1) t (.slice ad n c) (.slice none 0 0)).run P w=.ok ad.isNone w:=fun d=>by
  cases ad<;>simp only[Op.equalIn,Sem.run_bind,run_underlying ht,Result.andThen_ok,Sem.run_pure]<;>rfl
 exact h 9999
theorem vg {t yt e:TypeId} {x:Operand} {y:LO} {op:BinOp} {neg:Bool} (hop:o.op=.binOp op t x (.const (.slice none 0 0)) yt) (hn:(op=.eql∧neg=false)∨(op=.neq∧neg=true)) (h1:aE x=some y) (ht:P.underlying t=some (.slice e))
  (hT:TRel DS F J ts a) (hH:HRel F J h w) (hs:ab pos ts h (.eqNil neg y)=some (v,h')):aG P F J a w o h' v:=by
 have e1:=an hT h1
 have main:∀ (ad:Option Addr) (n c:Nat),a.eval x=.slice ad n c→aG P F J a w o h (.c (.bool (if neg then !ad.isNone else ad.isNone))):=by
  intro ad n c hu
  refine Good.op (s:=do eqGuard op t x (.const (.slice none 0 0)) (a.eval x) (.slice none 0 0); binOp op t (a.eval x) (.slice none 0 0)) (by simp only[execOp,hop]; rfl) (Good.same (u:=.bool (if neg then !ad.isNone else ad.isNone)) hH (.c _ _ (.bool _)) ?_)
  rw[hu]
  have hg:(eqGuard op t x (.const (.slice none 0 0)) (.slice ad n c) (.slice none 0 0)).run P w=.ok () w:=by unfold eqGuard; cases op<;>rfl
  simp only[Sem.run_bind,hg,Result.andThen_ok]
  rcases hn with ⟨rfl,rfl⟩ | ⟨rfl,rfl⟩<;>simp only[binOp,Sem.run_bind,equal_nil ht,Result.andThen_ok]<;>rfl
 have someOf:∀ (ad:Option Addr) (n c:Nat),a.eval x=.slice ad n c→ad≠none→aG P F J a w o h (.c (.bool neg)):=by
  intro ad n c hu hne
  have:=main ad n c hu
  cases ad with
  | none=>exact absurd rfl hne
  | some _=>cases neg<;>simpa using this
 simp only[ab] at hs
 split at hs
 ·rename_i hx
  rw[hx] at e1
  have hu:a.eval x=.slice none 0 0:=by cases hu:a.eval x<;>rw[hu] at e1<;>cases e1<;>rfl
  obtain⟨rfl,rfl⟩:=aQ hs
  have:=main none 0 0 hu
  cases neg<;>simpa using this
 ·rename_i b g off len e' cap hx
  rw[hx] at e1
  split at hs
  ·cases hs
  ·rename_i hlen
   obtain⟨rfl,rfl⟩:=aQ hs
   obtain⟨i,ad,c,_,_,hu,hle,hnone,_⟩:=e1.slice_inv
   exact someOf ad len c hu (fun e=>by have:=hnone e; omega)
 ·rename_i y0 ys hx
  rw[hx] at e1
  obtain⟨rfl,rfl⟩:=aQ hs
  obtain⟨ad,cap,hu,hle,hc⟩:=e1.of_c.slice_inv
  obtain⟨b,c,sz,rfl,_⟩:=hc (by simp)
  exact someOf _ _ _ hu (by simp)
 ·cases hs
theorem Bt {x:Operand} {y:LO} (hop:o.op=.nilCheck x) (h1:aE x=some y) (hT:TRel DS F J ts a) (hH:HRel F J h w) (hs:ab pos ts h (.nilCheck y)=some (v,h')):aG P F J a w o h' v:=by
 have e1:=an hT h1
 simp only[ab] at hs
 split at hs
 ·rename_i b g off hx
  rw[hx] at e1
  obtain⟨rfl,rfl⟩:=aI hs
  obtain⟨i,ad,_,_,hu,_⟩:=e1.ptr_inv
  exact Good.val (u:=a.eval x) (by simp only[execOp,hop,hu]) hH e1
 ·rename_i cells off hx
  rw[hx] at e1
  obtain⟨rfl,rfl⟩:=aQ hs
  have hc:=e1.of_c
  cases hu:a.eval x<;>rw[hu] at hc<;>cases hc
  exact Good.val (u:=a.eval x) (by simp only[execOp,hop,hu]) hH e1
 ·rename_i f l1 l2 hx
  rw[hx] at e1
  obtain⟨rfl,rfl⟩:=aQ hs
  have hc:=e1.of_c
  cases hu:a.eval x<;>rw[hu] at hc<;>cases hc
  exact Good.val (u:=a.eval x) (by simp only[execOp,hop,hu]) hH e1
 ·rename_i f l1 l2 hx
  rw[hx] at e1
  obtain⟨rfl,rfl⟩:=aI hs
  have hc:=e1
  cases hu:a.eval x<;>rw[hu] at hc<;>cases hc
  exact Good.val (u:=a.eval x) (by simp only[execOp,hop,hu]) hH e1
 ·cases hs
theorem iT (hT:TRel DS F J ts a):∀ {xs:List Operand} {ys:List LO},dF xs=some ys→(xs.map a.eval).length=(ys.map (LM.ev ts)).length∧∀ (i:Nat) (x:LV),(ys.map (LM.ev ts))[i]? = some x→∃ u,(xs.map a.eval)[i]? = some u∧VRel F J x u
 | [],ys,h=>by
  simp only[dF,Option.some.injEq] at h
  subst h
  exact⟨rfl,by simp⟩
 | x::xs,ys,h=>by
  simp only[dF] at h
  split at h
  ·rename_i y l hy hl
   simp only[Option.some.injEq] at h
   subst h
   obtain⟨h1,h2⟩:=iT hT hl
   refine⟨by simp only[List.map_cons,List.length_cons,h1],fun i z hz=>?_⟩
   cases i with
   | zero =>
    simp only[List.map_cons,List.getElem?_cons_zero,Option.some.injEq] at hz ⊢
    subst hz
    exact⟨_,rfl,an hT hy⟩
   | succ i=>simpa using h2 i z (by simpa using hz)
  ·cases h
theorem VRel.mkFunc {f:Nat} {l1 l2:List LV} {us1 us2:List Value} (h1:us1.length=l1.length∧∀ (i:Nat) (x:LV),l1[i]? = some x→∃ u,us1[i]? = some u∧VRel F J x u)
  (h2:us2.length=l2.length∧∀ (i:Nat) (x:LV),l2[i]? = some x→∃ u,us2[i]? = some u∧VRel F J x u):VRel F J (.func f l1 l2) (.func (.func f) us1.toArray us2.toArray):=by
 refine .func f l1 l2 us1.toArray us2.toArray (fun i=>us1.getD i Go.undef) (fun i=>us2.getD i Go.undef) (by simpa using h1.1) (by simpa using h2.1) (fun i x hx=>?_) (fun i x hx=>?_) (fun i x hx=>?_) (fun i x hx=>?_)
 ·obtain⟨u,hu,_⟩:=h1.2 i x hx; simp[hu]
 ·obtain⟨u,hu,_⟩:=h2.2 i x hx; simp[hu]
 ·obtain⟨u,hu,hr⟩:=h1.2 i x hx; simpa[List.getD_eq_getElem?_getD,hu] using hr
 ·obtain⟨u,hu,hr⟩:=h2.2 i x hx; simpa[List.getD_eq_getElem?_getD,hu] using hr
theorem CRel.mkFunc {f:Nat} {l1 l2:List CV} {us1 us2:List Value} (h1:us1.length=l1.length∧∀ (i:Nat) (x:CV),l1[i]? = some x→∃ u,us1[i]? = some u∧CRel F x u)
  (h2:us2.length=l2.length∧∀ (i:Nat) (x:CV),l2[i]? = some x→∃ u,us2[i]? = some u∧CRel F x u):CRel F (.func f l1 l2) (.func (.func f) us1.toArray us2.toArray):=by
 refine .func f l1 l2 us1.toArray us2.toArray (fun i=>us1.getD i Go.undef) (fun i=>us2.getD i Go.undef) (by simpa using h1.1) (by simpa using h2.1) (fun i x hx=>?_) (fun i x hx=>?_) (fun i x hx=>?_) (fun i x hx=>?_)
 ·obtain⟨u,hu,_⟩:=h1.2 i x hx; simp[hu]
 ·obtain⟨u,hu,_⟩:=h2.2 i x hx; simp[hu]
 ·obtain⟨u,hu,hr⟩:=h1.2 i x hx; simpa[List.getD_eq_getElem?_getD,hu] using hr
 ·obtain⟨u,hu,hr⟩:=h2.2 i x hx; simpa[List.getD_eq_getElem?_getD,hu] using hr
theorem C8 {l:List LV} {cs:List CV} {us:List Value} (hc:eW l=some cs) (h:us.length=l.length∧∀ (i:Nat) (x:LV),l[i]? = some x→∃ u,us[i]? = some u∧VRel F J x u) :
  us.length=cs.length∧∀ (i:Nat) (x:CV),cs[i]? = some x→∃ u,us[i]? = some u∧CRel F x u:=by
 have e:=lH hc
 subst e
 refine⟨by simpa using h.1,fun i x hx=>?_⟩
 obtain⟨u,hu,hr⟩:=h.2 i (.c x) (by simp[hx])
 exact⟨u,hu,hr.of_c⟩
theorem GQ {f:FuncId} {first caps:Array Operand} {l1 l2:List LO} (hop:o.op=.makeFunc (.func f) first caps) (h1:dF first.toList=some l1) (h2:dF caps.toList=some l2)
  (hT:TRel DS F J ts a) (hH:HRel F J h w) (hs:ab pos ts h (.mkFunc f l1 l2)=some (v,h')):aG P F J a w o h' v:=by
 have r1:=iT hT h1
 have r2:=iT hT h2
 have he:execOp a.eval o=(do pure (.value (← Instr.makeFunc (.func f) (first.map a.eval) (caps.map a.eval)))):=by simp only[execOp,hop]
 have hu:(Instr.makeFunc (.func f) (first.map a.eval) (caps.map a.eval)).run P w=.ok (.func (.func f) (first.toList.map a.eval).toArray (caps.toList.map a.eval).toArray) w:=by
  have e1:(first.toList.map a.eval).toArray=first.map a.eval:=by rw[← Array.toList_map]
  have e2:(caps.toList.map a.eval).toArray=caps.map a.eval:=by rw[← Array.toList_map]
  rw[e1,e2]
  rfl
 simp only[ab] at hs
 split at hs
 ·rename_i c1 c2 hc1 hc2
  obtain⟨rfl,rfl⟩:=aQ hs
  exact Good.op he (Good.same hH (.c _ _ (CRel.mkFunc (C8 hc1 r1) (C8 hc2 r2))) hu)
 ·obtain⟨rfl,rfl⟩:=aI hs
  exact Good.op he (Good.same hH (VRel.mkFunc r1 r2) hu)
theorem Gr {b:ByteArray} {s:List UInt8} (h:b.data.toList=s):(⟨s.toArray⟩ : ByteArray)=b:=by
 subst h
 cases b
 simp
theorem Oe {x:Operand} {y:LO} (hop:o.op=.next x true) (h1:aE x=some y) (hT:TRel DS F J ts a) (hH:HRel F J h w) (hs:ab pos ts h (.next y)=some (v,h')):aG P F J a w o h' v:=by
 have e1:=an hT h1
 simp only[ab] at hs
 split at hs
 ·rename_i b hx
  rw[hx] at e1
  split at hs
  ·rename_i s p hb
   obtain⟨i,ad,hi,_,hu,hptr⟩:=e1.ptr_inv
   obtain⟨i2,hi2,hfix,hv,hgen,hbase,bs,hbs,hheap⟩:=hH.live b _ hb (by simp)
   rw[hi] at hi2
   simp only[Option.some.injEq] at hi2
   subst hi2
   obtain⟨_,had⟩:=hptr hgen.symm
   subst had
   have hbl:b<J.length:=(List.getElem?_eq_some_iff.1 hi).1
   have hsize:bs.size=s.length:=by rw[← hbs,Array.length_toList]; rfl
   have he:execOp a.eval o=(do pure (.value (← Instr.next (a.eval x) true o.type))):=by simp only[execOp,hop]
   have hcb:i.base+0=0:=by omega
   split at hs
   ·rename_i hlt
    obtain⟨rfl,rfl⟩:=aQ hs
    have hbs':=Gr hbs
    rw[hbs']
    let w' : World:={ w with heap:=w.heap.setIfInBounds i.cb (.stringIter bs (p+(Utf8.decode bs p).2)) }
    have hcbl:i.cb<w.heap.size:=hH.bound b i hi hv
    have hother:∀ k,k≠i.cb→w'.heap[k]? = w.heap[k]?:=fun k hk=>by simp only[w']; rw[Array.getElem?_setIfInBounds_ne (fun e=>hk e.symm)]
    have hJs:J.set b (some i)=J:=by
     apply List.ext_getElem?
     intro k
     by_cases e:b=k
     ·subst e; rw[List.getElem?_set_self hbl,hi]
     ·rw[List.getElem?_set_ne e]
    have hfz:FzOk F w':=by
     refine⟨fun b' o' u' hF=>?_,fun r es2 hr=>?_⟩
     ·have:=hH.fz.cell _ _ _ hF
      by_cases e:b'=i.cb
      ·subst e
       simp[World.cell?,hheap] at this
      ·rw[← this]
       exact World.cell?_of_block (w:=w) (a:=⟨b',o',none⟩) (hother b' e)
     ·obtain⟨clk2,hc⟩:=hH.fz.map r es2 hr
      refine⟨clk2,?_⟩
      rw[hother r (by rintro rfl; rw[hheap] at hc; cases hc)]
      exact hc
    have hB:BRel F (J.set b (some i)) i w' (.iter s (p+(Utf8.decode bs p).2)):=⟨hfix,hv,hgen,hbase,bs,hbs,by simp[w',hcbl]⟩
    have:=hH.change (b:=b) (i':=i) (blk':=.iter s (p+(Utf8.decode bs p).2)) (w':=w') hbl (by simp) (fun i2 h2=>by rw[hi] at h2; simp only[Option.some.injEq] at h2; subst h2; exact⟨Nat.le_refl _,fun _=>rfl,fun _=>rfl⟩)
     rfl rfl rfl (by simp[w']) (fun c hc hne=>hother c (fun e=>hne i hi hv e.symm)) (fun _=>⟨by simp[w']; exact hcbl,.inr ⟨i,hi,hv,rfl⟩⟩) hB hfz
    rw[hJs] at this
    refine Good.op he ⟨.tuple #[.bool true,goInt p,.int .i32 (Utf8.decode bs p).1],w',F,J,?_,.c _ _ ?_,this.1,this.2⟩
    ·rw[hu]
     simp only[Instr.next,hcb,Sem.run_bind,eE hheap rfl,Result.andThen_ok]
     rw[if_pos (by omega)]
     have hset:(setObj i.cb (.stringIter bs (p+(Utf8.decode bs p).2))).run P w=.ok () w':=by
      simp only[setObj,Sem.run,hheap]
      rfl
     simp only[Sem.run_bind,hset,Result.andThen_ok,Sem.run_pure]
    ·refine .tuple [.bool true,.int .i64 p,.int .i32 (Utf8.decode bs p).1] #[.bool true,goInt p,.int .i32 (Utf8.decode bs p).1] (fun k=>match k with | 0=>.bool true | 1=>goInt p | _=>.int .i32 (Utf8.decode bs p).1) rfl (fun k z hz=>?_) (fun k z hz=>?_)
     ·match k,hz with
      | 0,_=>rfl
      | 1,_=>rfl
      | 2,_=>rfl
      | k+3,hz=>simp at hz
     ·match k,hz with
      | 0,hz=>simp only[List.getElem?_cons_zero,Option.some.injEq] at hz; subst hz; exact .bool _
      | 1,hz=>simp only[List.getElem?_cons_succ,List.getElem?_cons_zero,Option.some.injEq] at hz; subst hz; exact .int _ _
      | 2,hz=>simp only[List.getElem?_cons_succ,List.getElem?_cons_zero,Option.some.injEq] at hz; subst hz; exact .int _ _
      | k+3,hz=>simp at hz
   ·rename_i hlt
    obtain⟨rfl,rfl⟩:=aQ hs
    refine Good.op he (Good.same (u:=.tuple #[.bool false]) hH (.c _ _ ?_) ?_)
    ·refine .tuple [.bool false] #[.bool false] (fun _=>.bool false) rfl (fun k z hz=>?_) (fun k z hz=>?_)
     ·match k,hz with
      | 0,_=>rfl
      | k+1,hz=>simp at hz
     ·match k,hz with
      | 0,hz=>simp only[List.getElem?_cons_zero,Option.some.injEq] at hz; subst hz; exact .bool _
      | k+1,hz=>simp at hz
    ·rw[hu]
     simp only[Instr.next,hcb,Sem.run_bind,eE hheap rfl,Result.andThen_ok]
     rw[if_neg (by omega)]
     rfl
  ·cases hs
 ·cases hs
end
end LM
namespace LM
open Go Go.RowKit
variable {DS:List Deferred}
section
variable {P:Program} {F:Fz} {J:JMap} {a:Act} {w:World} {o:Oper} {ts:List LV} {h h' : Heap} {v:LV} {pos:Option Nat}
theorem qw {esz:Option Nat} {x:LV} {u:Value} {n:Nat} {new:List LV} (hr:VRel F J x u) (hH:HRel F J h w)
  (hs:aO esz h x=some (n,new)) (hl:new.length=n*ae esz):∃ ws,VL F J new ws∧(∀ w' : World,(Builtin.lenOf u).run P w'=.ok n w')∧(ae esz≠0→∀ k,k≤n→(Builtin.firstCells (ae esz) k u).run P w=.ok (ws.take (k*ae esz)).toArray w):=by
 have bare:∀ (ad:Option Addr) (c:Nat),(∀ w' : World,(Builtin.lenOf (.slice ad 0 c)).run P w'=.ok 0 w')∧(ae esz≠0→∀ k,k≤0→(Builtin.firstCells (ae esz) k (.slice ad 0 c)).run P w=.ok (([]:List Value).take (k*ae esz)).toArray w):=fun ad c =>
  ⟨fun _=>rfl,fun _ k hk=>by
   have:k=0:=by omega
   subst this
   rw[dL]
   simp⟩
 -- cells of a row
 have row:∀ (g off n c:Nat) (ws:List Value),ws.length=n*ae esz→(∀ (j:Nat) (v:Value),ws[j]? = some v→w.cell? ⟨g,off+j,none⟩=some v)→∀ k,k≤n→(Builtin.firstCells (ae esz) k (.slice (some ⟨g,off,none⟩) n c)).run P w=.ok (ws.take (k*ae esz)).toArray w:=by
  intro g off n c ws hwl hcells k hk
  have hm:k*ae esz≤n*ae esz:=Nat.mul_le_mul_right _ hk
  refine run_firstCells_some w _ _ _ _ _ _ (by rw[List.length_take,hwl]; omega) fun j v hv=>?_
  rw[bK]
  have hj:j<k*ae esz:=by have:=(List.getElem?_eq_some_iff.1 hv).1; rw[List.length_take] at this; omega
  rw[List.getElem?_take,if_pos hj] at hv
  exact hcells j v hv
 unfold aO at hs
 split at hs
 ·simp only[Option.some.injEq,Prod.mk.injEq] at hs
  obtain⟨rfl,rfl⟩:=hs
  cases hr
  exact⟨[],.nil,bare _ _⟩
 ·simp only[Option.some.injEq,Prod.mk.injEq] at hs
  obtain⟨rfl,rfl⟩:=hs
  cases hr
  exact⟨[],.nil,bare _ _⟩
 ·rename_i xs
  simp only[Option.some.injEq,Prod.mk.injEq] at hs
  obtain⟨rfl,rfl⟩:=hs
  obtain⟨ad,cap,rfl,hle,hc⟩:=hr.of_c.slice_inv
  by_cases h0:xs.length=0
  ·have:xs=[]:=List.eq_nil_of_length_eq_zero h0
   subst this
   exact⟨[],.nil,bare _ _⟩
  ·obtain⟨b,c,sz,rfl,hx⟩:=hc (by omega)
   obtain⟨ws,hw,hwl,hwf⟩:=mg hx
   have hsz:xs.length*sz=xs.length*ae esz:=by rw[← hwl,hw.1,← hl,List.length_map]
   exact⟨ws,hw.toVL,fun _=>rfl,fun _=>row _ _ _ _ ws (by rw[hwl,hsz]) fun j v hv=>hH.fz.cell _ _ _ (hwf j v hv)⟩
 ·rename_i s
  simp only[Option.some.injEq,Prod.mk.injEq] at hs
  obtain⟨rfl,rfl⟩:=hs
  obtain⟨b,rfl,hb⟩:=hr.of_c.str_inv
  have hbs:b.size=s.length:=by rw[← hb,Array.length_toList]; rfl
  have hlen:∀ w' : World,(Builtin.lenOf (.string b)).run P w'=.ok s.length w':=fun w'=>by show (pure b.size:Sem Nat).run P w'=_; rw[hbs]; rfl
  refine⟨byteCells b,⟨by rw[byteCells_length,hbs,List.length_map],fun i x hx=>?_⟩,hlen,fun hz k hk=>?_⟩
  ·simp only[List.getElem?_map,Option.map_eq_some_iff] at hx
   obtain⟨c,hc,rfl⟩:=hx
   rw[← hb] at hc
   exact⟨.int .u8 c.toNat,by unfold byteCells; rw[List.getElem?_map,hc]; rfl,.c _ _ (.int _ _),rfl⟩
  ·by_cases h0:s.length=0
   ·have:k=0:=by omega
    subst this
    simp[Builtin.firstCells]
   ·have hz1:ae esz=1:=by
     simp only[List.length_map] at hl
     have:s.length*1=s.length*ae esz:=by omega
     exact (Nat.eq_of_mul_eq_mul_left (by omega) this).symm
    rw[hz1,Nat.mul_one]
    simp only[Builtin.firstCells,Sem.run_pure]
    congr 1
    apply Array.ext'
    simp[byteCells]
 ·rename_i b g off len e1 c1
  split at hs
  ·rename_i g' cs fz hb
   split at hs
   ·rename_i hc
    obtain⟨hg,hle⟩:=hc
    subst hg
    simp only[Option.some.injEq,Prod.mk.injEq] at hs
    obtain⟨rfl,rfl⟩:=hs
    obtain⟨i,ad,c,hi,_,rfl,hlc,hnone,_,hcur⟩:=hr.slice_inv
    obtain⟨i2,hi2,hgen,_,hvirt,hlive⟩:=hH.cellsAt hb
    rw[hi] at hi2
    simp only[Option.some.injEq] at hi2
    subst hi2
    cases hv:i.virt with
    | true =>
     have h0:=((hcur hgen.symm).1 hv).1
     have:len=0:=by omega
     subst this
     have:=hvirt hv
     subst this
     exact⟨[],by simpa using VL.nil,bare _ _⟩
    | false =>
     obtain⟨arr,el,harr,hsz,hbase,hun,us,hus,huarr⟩:=hlive hv
     have had:=((hcur hgen.symm).2 hv).1
     have hul:=hus.1
     subst had
     have hval:=(hus.drop off).take (len*ae esz)
     have hlw:((us.drop off).take (len*ae esz)).length=len*ae esz:=by rw[hval.1]; exact hl
     have hcells:∀ (j:Nat) (v:Value),((us.drop off).take (len*ae esz))[j]? = some v→w.cell? ⟨i.cb,i.base+off+j,none⟩=some v:=by
      intro j v hv
      have hj:j<len*ae esz:=by rw[← hlw]; exact (List.getElem?_eq_some_iff.1 hv).1
      rw[List.getElem?_take,if_pos hj,List.getElem?_drop] at hv
      have:=huarr _ v hv
      exact dC harr (by rw[← this]; congr 1; omega)
     exact⟨_,hval,fun _=>rfl,fun _=>row _ _ _ _ _ hlw hcells⟩
   ·cases hs
  ·cases hs
 ·cases hs
theorem On {t t2 e:TypeId} {s x:Operand} {ys yx:LO} {z:Option Nat} {c:Call} (hop:o.op=.call c) (hc:c.callee=.builtin .copy) (h0:c.argTypes=#[t,t2]) (ha:c.args=#[s,x])
  (h1:aE s=some ys) (h2:aE x=some yx) (ht:P.underlying t=some (.slice e)) (hz:bX P e=some z) (hz0:ae z≠0)
  (hT:TRel DS F J ts a) (hH:HRel F J h w) (hs:ab pos ts h (.copy (ae z) ys yx)=some (v,h')):aG P F J a w o h' v:=by
 have e1:=an hT h1
 have e2:=an hT h2
 suffices hg:Good F J w h' v ((Builtin.copy_ #[t,t2] o.type #[a.eval s,a.eval x]).run P w) by
  obtain⟨cs,he⟩:=dY (a:=a) hop hc
  refine Good.op (s:=Builtin.copy_ #[t,t2] o.type #[a.eval s,a.eval x]) ?_ hg
  rw[he,ha,h0,List.map_toArray]
  rfl
 simp only[ab] at hs
 split at hs
 ·rename_i b g off len esz cap hx
  rw[hx] at e1
  split at hs
  ·rename_i g' cs fz n src hb hsc
   split at hs
   ·rename_i hcond
    obtain⟨hg,hez,hfz,hsl,hle,hflat⟩:=hcond
    subst hg
    obtain⟨rfl,rfl⟩:=aQ hs
    rw[← hez] at hsl hle hz0 ⊢
    obtain⟨ws,hws,hlen,htake⟩:=qw (P:=P) e2 hH hsc hsl
    have htk:=htake hz0
    have hsz:∀ w' : World,(Go.sizeOf e).run P w'=.ok (ae esz) w':=fun w'=>by rw[hez]; exact b8 (cm hz).2
    obtain⟨i,ad,c',hi,_,hu,hlc,hnone,_,hcur⟩:=e1.slice_inv
    obtain⟨i2,hi2,hgen,_,hvirt,hlive⟩:=hH.cellsAt hb
    rw[hi] at hi2
    simp only[Option.some.injEq] at hi2
    subst hi2
    have hnat:Nat.min len n=min len n:=rfl
    have hmin:Nat.min n len=Nat.min len n:=Nat.min_comm _ _
    have hkn:Nat.min len n≤n:=Nat.min_le_right _ _
    have hkl:Nat.min len n≤len:=Nat.min_le_left _ _
    generalize Nat.min len n=k at *
    have hkm:k*ae esz≤n*ae esz:=Nat.mul_le_mul_right _ hkn
    have hkm2:k*ae esz≤len*ae esz:=Nat.mul_le_mul_right _ hkl
    have hwl:=hws.1
    -- the run,given the storing
    have pre:∀ w2:World,(∀ b:Addr,ad=some b→(storeCells b (ws.take (k*ae esz))).run P w=.ok () w2)→(ad=none→w2=w) →
      (Builtin.copy_ #[t,t2] o.type #[a.eval s,a.eval x]).run P w=.ok (goInt k) w2:=by
     intro w2 hst hno
     rw[hu]
     have g1:(#[t,t2]:Array TypeId)[0]? = some t:=rfl
     have g2:(#[Value.slice ad len c',a.eval x]:Array Value)[0]? = some (.slice ad len c'):=rfl
     have g3:(#[Value.slice ad len c',a.eval x]:Array Value)[1]? = some (a.eval x):=rfl
     simp only[Builtin.copy_,g1,g2,g3,Sem.run_bind,run_underlying ht,Result.andThen_ok,hlen,hsz,hmin,htk k hkn]
     cases ad with
     | none=>simp only[Sem.run_pure]; rw[hno rfl]
     | some b=>simp only[Sem.run_bind,hst b rfl,Result.andThen_ok,Sem.run_pure]
    cases hv:i.virt with
    | true =>
     have h00:=((hcur hgen.symm).1 hv).1
     have hk0:k=0:=by omega
     subst hk0
     have hset:h.set b (.cells g (setCells cs off (src.take (0*ae esz))) fz)=h:=by
      apply List.ext_getElem?
      intro q
      by_cases ek:b=q
      ·subst ek
       rw[List.getElem?_set_self (List.getElem?_eq_some_iff.1 hb).1,hb]
       simp[setCells]
      ·rw[List.getElem?_set_ne ek]
     rw[hset]
     exact Good.same (u:=goInt 0) hH (.c _ _ (.int _ _)) (pre w (fun b hb=>by simp; rfl) (fun _=>rfl))
    | false =>
     obtain⟨arr,el,harr,hsize,hbase,hun,us,hus,huarr⟩:=hlive hv
     have had:=((hcur hgen.symm).2 hv).1
     have hvs:=hws.take (k*ae esz)
     have hvl:=hvs.1
     have hsk:(src.take (k*ae esz)).length=k*ae esz:=by rw[List.length_take]; omega
     obtain⟨hH',hE⟩:=hH.write (off:=off) hb hi hv harr hvs hfz (by omega)
     refine⟨goInt k,_,F,J,pre _ (fun b hb=>?_) (fun e=>by rw[had] at e; cases e),.c _ _ (.int _ _),hH',hE⟩
     rw[had] at hb
     simp only[Option.some.injEq] at hb
     subst hb
     exact fG harr (by omega) hvs.cellsOk
   ·cases hs
  ·cases hs
 ·cases hs
theorem NL (cells:Array Value) (n:Nat):(Builtin.zeroCells cells n).toList=aP n cells.toList:=by
 by_cases h0:cells.size=0
 ·have e:cells=#[]:=Array.eq_empty_of_size_eq_zero h0
  subst e
  simp[Builtin.zeroCells,aP]
 ·exact DB cells rfl h0 n
theorem II {t e:TypeId} {x:Operand} {y:LO} {zs:List LV} {c:Call} (hop:o.op=.call c) (hc:c.callee=.builtin .clear) (h0:c.argTypes[0]? = some t) (ha:c.args=#[x])
  (h1:aE x=some y) (ht:P.underlying t=some (.slice e)) (hz:cd P e=some zs) (hT:TRel DS F J ts a) (hH:HRel F J h w) (hs:ab pos ts h (.clear zs y)=some (v,h')):aG P F J a w o h' v:=by
 have e1:=an hT h1
 obtain⟨it,zu,hit,hzu,hlit⟩:=ed hz
 have hzv:VL F J zs zu.cells.toList:=fV hlit
 suffices hg:Good F J w h' v ((Builtin.clear_ c.argTypes o.type #[a.eval x]).run P w) by
  obtain⟨cs,he⟩:=dY (a:=a) hop hc
  refine Good.op (s:=Builtin.clear_ c.argTypes o.type #[a.eval x]) ?_ hg
  rw[he,ha,List.map_toArray]
  rfl
 have bare:∀ (ad:Option Addr) (cap:Nat),a.eval x=.slice ad 0 cap→(Builtin.clear_ c.argTypes o.type #[a.eval x]).run P w=.ok (.tuple #[]) w:=by
  intro ad cap hu
  rw[hu]
  have g2:(#[Value.slice ad 0 cap]:Array Value)[0]? = some (.slice ad 0 cap):=rfl
  simp only[Builtin.clear_,h0,g2,Sem.run_bind,run_underlying ht,Result.andThen_ok]
  cases ad<;>rfl
 simp only[ab] at hs
 split at hs
 ·rename_i hx
  rw[hx] at e1
  obtain⟨rfl,rfl⟩:=aI hs
  have hu:a.eval x=.slice none 0 0:=by cases hu:a.eval x<;>rw[hu] at e1<;>cases e1<;>rfl
  exact Good.same hH (.undef _) (bare _ _ hu)
 ·rename_i hx
  rw[hx] at e1
  obtain⟨rfl,rfl⟩:=aI hs
  obtain⟨ad,hu⟩ : ∃ ad,a.eval x=.slice ad 0 0:=by cases hu:a.eval x<;>rw[hu] at e1<;>cases e1; exact⟨_,rfl⟩
  exact Good.same hH (.undef _) (bare _ _ hu)
 ·rename_i hx
  rw[hx] at e1
  obtain⟨rfl,rfl⟩:=aI hs
  obtain⟨ad,cap,hu,_⟩:=e1.of_c.slice_inv
  exact Good.same hH (.undef _) (bare _ _ hu)
 ·rename_i b g off len esz cap hx
  rw[hx] at e1
  obtain⟨i,ad,c',hi,_,hu,hlc,hnone,_,hcur⟩:=e1.slice_inv
  split at hs
  ·rename_i hl0
   subst hl0
   obtain⟨rfl,rfl⟩:=aI hs
   exact Good.same hH (.undef _) (bare _ _ hu)
  ·rename_i hl0
   split at hs
   ·rename_i g' cs fz hb
    split at hs
    ·rename_i hcond
     obtain⟨hg,hfz,hle,hflat⟩:=hcond
     subst hg
     obtain⟨rfl,rfl⟩:=aI hs
     obtain⟨i2,hi2,hgen,_,hvirt,hlive⟩:=hH.cellsAt hb
     rw[hi] at hi2
     simp only[Option.some.injEq] at hi2
     subst hi2
     cases hv:i.virt with
     | true =>
      have h00:=((hcur hgen.symm).1 hv).1
      omega
     | false =>
      obtain⟨arr,el,harr,hsize,hbase,hun,us,hus,huarr⟩:=hlive hv
      have had:=((hcur hgen.symm).2 hv).1
      have hvs:=VL.flatten len hzv
      have hvl:=hvs.1
      have hrl:(aP len zs).length=len*zs.length:=by simp[aP]
      obtain⟨hH',hE⟩:=hH.write (off:=off) hb hi hv harr hvs hfz (by omega)
      refine⟨.tuple #[],_,F,J,?_,.undef _,hH',hE⟩
      rw[hu,had]
      have g2:(#[Value.slice (some ⟨i.cb,i.base+off,none⟩) len c']:Array Value)[0]? = some (.slice (some ⟨i.cb,i.base+off,none⟩) len c'):=rfl
      have hzv:(zeroValue e).run P w=.ok zu w:=by simp only[zeroValue,typeInfo,Sem.run_bind,run_program,Result.andThen_ok,hit,hzu,Sem.run_pure]
      have hst:=fG (P:=P) (o:=i.base+off) harr (by omega) hvs.cellsOk
      obtain⟨l',rfl⟩ : ∃ l',len=l'+1:=⟨len-1,by omega⟩
      simp only[Builtin.clear_,h0,g2,Sem.run_bind,run_underlying ht,Result.andThen_ok,hzv,NL,hst,Sem.run_pure]
    ·cases hs
   ·cases hs
 ·cases hs
end
end LM
