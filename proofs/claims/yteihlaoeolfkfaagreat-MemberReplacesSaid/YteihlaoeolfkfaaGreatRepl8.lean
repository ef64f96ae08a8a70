/- Part 11 of what YteihlaoeolfkfaaGreatRepl leans on. -/
import Derived.Test.YteihlaoeolfkfaaGreatRows
import Derived.WalkKit
import Derived.ProofKit
import Derived.SizedLaws
import Derived.Test.YteihlaoeolfkfaaGreatReplL1
import Derived.Test.YteihlaoeolfkfaaGreatReplL2
import Derived.Test.YteihlaoeolfkfaaGreatReplL3
import Derived.Test.YteihlaoeolfkfaaGreatRepl1
import Derived.Test.YteihlaoeolfkfaaGreatRepl2
import Derived.Test.YteihlaoeolfkfaaGreatRepl3
import Derived.Test.YteihlaoeolfkfaaGreatRepl4
import Derived.Test.YteihlaoeolfkfaaGreatRepl5
import Derived.Test.YteihlaoeolfkfaaGreatRepl6
import Derived.Test.YteihlaoeolfkfaaGreatRepl7
set_option linter.all false
namespace Go.Proofs.YteihlaoeolfkfaaGreat
open Go.ChangeShapes Go.WideShapes Go.ChangeAt Go.RowKit
theorem own_knob : ownKnob Tryz.prog.godebug = none := by kernel_rfl
theorem laid_out : laidOutB Tryz.prog = true := by kernel_rfl
theorem maps_rowed : mapsRowed Tryz.prog = true := by kernel_rfl
theorem slices_full : LM.slicesFullB Tryz.prog = true := by kernel_rfl
theorem typed_map {α : Type} {enc : α → LM.CV} {p : α → Prop} {e : LM.CTy} (h : ∀ x, LM.Typed e x → ∃ a, x = enc a ∧ p a) : ∀ {xs : List LM.CV}, (∀ x ∈ xs, LM.Typed e x) → ∃ l : List α, xs = l.map enc ∧ ∀ a ∈ l, p a
 | [], _ => ⟨[], rfl, by simp⟩
 | x :: xs, hx => by
  obtain ⟨a, ha, hp⟩ := h x (hx x (by simp))
  obtain ⟨l, hl, hq⟩ := typed_map h (xs := xs) fun y hy => hx y (by simp [hy])
  exact ⟨a :: l, by rw [ha, hl]; rfl, fun b hb => by rcases List.mem_cons.1 hb with rfl | hb; exact hp; exact hq b hb⟩
theorem typed_slice {α : Type} {enc : α → LM.CV} {p : α → Prop} {e : LM.CTy} {b : Nat} (h : ∀ x, LM.Typed e x → ∃ a, x = enc a ∧ p a) {v : LM.CV} (hv : LM.Typed (.slice b e) v) : ∃ l : List α, v = .slice (l.map enc) ∧ (∀ a ∈ l, p a) ∧ l.length * b ≤ 2 ^ 47 := by
 simp only [LM.Typed] at hv
 obtain ⟨xs, rfl, _, hb, hx⟩ := hv
 obtain ⟨l, rfl, hp⟩ := typed_map h hx
 refine ⟨l, rfl, hp, ?_⟩
 rw [List.length_map] at hb
 exact Nat.le_trans hb (by decide)
theorem typed_str {v : LM.CV} (hv : LM.Typed .str v) : ∃ s : LM.Str, v = .str s ∧ s.length < 9223372036854775807 := by
 simp only [LM.Typed] at hv
 obtain ⟨s, rfl, h⟩ := hv
 exact ⟨s, rfl, Nat.lt_of_le_of_lt h (by decide)⟩
theorem typed_int {v : LM.CV} (hv : LM.Typed (.int .i64) v) : ∃ n, v = LM.ci n ∧ -9223372036854775808 ≤ n ∧ n ≤ 9223372036854775807 := by
 simp only [LM.Typed] at hv
 obtain ⟨n, rfl, h⟩ := hv
 refine ⟨n, rfl, ?_⟩
 simp [Lit.wf, IntKind.min, IntKind.max, IntKind.bits, IntKind.signed] at h
 omega
end Go.Proofs.YteihlaoeolfkfaaGreat
namespace LM.G9
open Go LM
variable {P : Nat → Option SFunc} [Has P]
@[simp] theorem S54 (n a b : Int) : fn P 54 [ci n, ci a, ci b] = some (.bool (outside n a b)) := by
 rw [u54]; simp [c54, outside]
@[simp] theorem S105 (n a b : Int) : fn P 105 [ci n, ci a, ci b] = some (.bool (outside n a b)) := by
 rw [u105]; simp [c105, outside]
@[simp] theorem S82 (b : Bool) (e : Int) : fn P 82 [.bool b, ci e] = some (ci (whenE b e)) := by
 rw [u82]; cases b <;> simp [c82, whenE]
@[simp] theorem S81 (d : Int) : fn P 81 [ci d] = some (ci (dated d)) := by
 rw [u81]; simp [c81, dated]
@[simp] theorem S150 (c : Nat) : fn P 150 [.int .i32 c] = some (.bool (letterN c)) := by
 rw [u150]; simp [c150, letterN]
 rw [show decide ((97 : Int) ≤ c) = decide (97 ≤ c) from decide_eq_decide.2 (by omega), show decide ((c : Int) ≤ 122) = decide (c ≤ 122) from decide_eq_decide.2 (by omega),
  show decide ((65 : Int) ≤ c) = decide (65 ≤ c) from decide_eq_decide.2 (by omega), show decide ((c : Int) ≤ 90) = decide (c ≤ 90) from decide_eq_decide.2 (by omega)]
theorem L79 : ∀ (l pre : List Int), (l.length : Int) + pre.length < 9223372036854775807 → execS P (limS P) c79_l0 ⟨[.c (.slice ((pre ++ l).map ci)), .c (ci (pre ++ l).length), .c (ci pre.length)], []⟩ = if firstE l = 0 then some (.exit 0, ⟨[], []⟩) else some (.ret, ⟨[.c (ci (firstE l))], []⟩) := by
 intro l
 induction l with
 | nil =>
  intro pre h
  rw [r79_l0]
  simp [c79_l0b, firstE]
 | cons c r ih =>
  intro pre h
  have ih := ih (pre ++ [c]) (by simp at h ⊢; omega)
  simp at ih h
  have hw : IntKind.i64.wrap (↑pre.length + 1) = ↑pre.length + 1 := wrap64 (by omega) (by omega)
  have hlt : (pre.length : Int) < pre.length + (r.length + 1) := by omega
  rw [r79_l0]
  by_cases hc : c = 0
  ·subst hc
   simp [c79_l0b, firstE, hw, hlt, ih]
  ·simp [c79_l0b, firstE, hw, hlt, hc]
@[simp] theorem S79 (l : List Int) (h : l.length < 9223372036854775807) : fn P 79 [.slice (l.map ci)] = some (ci (firstE l)) := by
 have := L79 (P := P) l [] (by simp; omega)
 rw [u79]
 simp at this
 simp [c79, this]
 by_cases hc : firstE l = 0 <;> simp [hc]
@[simp] theorem S79_1 (a : Int) : fn P 79 [.slice [ci a]] = some (ci (firstE [a])) := S79 [a] (by simp)
@[simp] theorem S79_2 (a b : Int) : fn P 79 [.slice [ci a, ci b]] = some (ci (firstE [a, b])) := S79 [a, b] (by simp)
@[simp] theorem S79_3 (a b c : Int) : fn P 79 [.slice [ci a, ci b, ci c]] = some (ci (firstE [a, b, c])) := S79 [a, b, c] (by simp)
@[simp] theorem S79_4 (a b c d : Int) : fn P 79 [.slice [ci a, ci b, ci c, ci d]] = some (ci (firstE [a, b, c, d])) := S79 [a, b, c, d] (by simp)
@[simp] theorem S79_5 (a b c d e : Int) : fn P 79 [.slice [ci a, ci b, ci c, ci d, ci e]] = some (ci (firstE [a, b, c, d, e])) := S79 [a, b, c, d, e] (by simp)
theorem L20 : ∀ (l pre : List Int), (l.length : Int) + pre.length < 9223372036854775807 → execS P (limS P) c20_l0 ⟨[.c (.slice ((pre ++ l).map ci)), .c (ci pre.length)], []⟩ = if firstE l = 0 then some (.exit 0, ⟨[], []⟩) else some (.ret, ⟨[.c (ci (firstE l))], []⟩) := by
 intro l
 induction l with
 | nil =>
  intro pre h
  rw [r20_l0]
  simp [c20_l0b, firstE]
 | cons c r ih =>
  intro pre h
  have ih := ih (pre ++ [c]) (by simp at h ⊢; omega)
  simp at ih h
  have hw : IntKind.i64.wrap (↑pre.length + 1) = ↑pre.length + 1 := wrap64 (by omega) (by omega)
  have hlt : (pre.length : Int) < pre.length + (r.length + 1) := by omega
  rw [r20_l0]
  by_cases hc : c = 0
  ·subst hc
   simp [c20_l0b, firstE, hw, hlt, ih]
  ·simp [c20_l0b, firstE, hw, hlt, hc]
@[simp] theorem S20 (l : List Int) (h : l.length < 9223372036854775807) : fn P 20 [.slice (l.map ci)] = some (ci (firstE l)) := by
 have := L20 (P := P) l [] (by simp; omega)
 rw [u20]
 simp at this
 simp [c20, this]
 by_cases hc : firstE l = 0 <;> simp [hc]
@[simp] theorem S20_2 (a b : Int) : fn P 20 [.slice [ci a, ci b]] = some (ci (firstE [a, b])) := S20 [a, b] (by simp)
@[simp] theorem S20_3 (a b c : Int) : fn P 20 [.slice [ci a, ci b, ci c]] = some (ci (firstE [a, b, c])) := S20 [a, b, c] (by simp)
@[simp] theorem S20_4 (a b c d : Int) : fn P 20 [.slice [ci a, ci b, ci c, ci d]] = some (ci (firstE [a, b, c, d])) := S20 [a, b, c, d] (by simp)
theorem L22 (s : Str) (hs : s.length ≤ 24) : ∀ (l pre : Str), s = pre ++ l → execS P (limS P) c22_l0 ⟨[.c (.str s), .c (ci pre.length)], []⟩ = if nameFrom pre.length l then some (.exit 0, ⟨[], []⟩) else some (.ret, ⟨[.c (.bool false)], []⟩) := by
 intro l
 induction l with
 | nil =>
  intro pre h
  rw [r22_l0]
  simp [c22_l0b, h, nameFrom]
 | cons c r ih =>
  intro pre h
  have ih := ih (pre ++ [c]) (by simp [h])
  simp at ih
  rw [h] at hs
  simp at hs
  have hw : IntKind.i64.wrap (↑pre.length + 1) = ↑pre.length + 1 := wrap64 (by omega) (by omega)
  have hlt : (pre.length : Int) < pre.length + (r.length + 1) := by omega
  have hn : (((↑c.toNat : Int) < 97 ∨ 122 < (↑c.toNat : Int)) ∧ ((↑c.toNat : Int) < 65 ∨ 90 < (↑c.toNat : Int))) ∧ (pre = [] ∨ ((↑c.toNat : Int) < 48 ∨ 57 < (↑c.toNat : Int)) ∧ ¬(↑c.toNat : Int) = 95) ↔ nameN pre.length c.toNat = false := by
   have hp : pre = [] ↔ pre.length = 0 := by simp
   unfold nameN letterN digitN
   cases pre with
   | nil => simp; omega
   | cons x y => simp; omega
  rw [r22_l0]
  simp [c22_l0b, h, nameFrom, hw, hlt, hn]
  rw [← h, ih]
  cases nameN pre.length c.toNat <;> simp
@[simp] theorem S22 (s : Str) : fn P 22 [.str s] = some (.bool (isName s)) := by
 rw [u22]
 by_cases h1 : s.length < 1
 ·have : s = [] := List.eq_nil_of_length_eq_zero (by omega)
  subst this
  simp [c22, isName]
 ·by_cases h2 : s.length > 24
  ·have h3 : ¬ (s.length : Int) < 1 := by omega
   have h4 : (24 : Int) < (s.length : Int) := by omega
   have h5 : ¬ s.length ≤ 24 := by omega
   simp [c22, isName, h3, h4, h5]
  ·have := L22 (P := P) s (by omega) s [] rfl
   simp at this
   have h3 : ¬ (s.length : Int) < 1 := by omega
   have h4 : ¬ (24 : Int) < (s.length : Int) := by omega
   have h5 : s.length ≤ 24 := by omega
   have h6 : 1 ≤ s.length := by omega
   simp [c22, isName, h3, h4, h5, h6, this]
   cases nameFrom 0 s <;> simp
theorem L132 (s : Str) (hs : s.length < 9223372036854775807) : ∀ (l pre : Str), s = pre ++ l → ∃ q, execS P (limS P) c132_l0 ⟨[.c (.str s), .ptr 0 0 0], [.iter s pre.length]⟩ = if nameFrom pre.length l then some (.exit 0, ⟨[.c (.str s)], [.iter s s.length]⟩) else some (.ret, ⟨[.c (.bool false)], [.iter s q]⟩) := by
 intro l
 induction l with
 | nil =>
  intro pre h
  refine ⟨0, ?_⟩
  rw [r132_l0]
  simp [c132_l0b, h, nameFrom]
 | cons c r ih =>
  intro pre h
  obtain ⟨q, ih⟩ := ih (pre ++ [c]) (by simp [h])
  simp at ih
  have hc : s[pre.length]? = some c := by simp [h]
  rw [r132_l0]
  rcases Nat.lt_or_ge c.toNat 128 with hlo | hhi
  ·have hd := decode_lo hc hlo
   rw [h] at hd
   have hn : (letterN c.toNat = false ∧ (pre = [] ∨ ¬(↑c.toNat : Int) = 95 ∧ ((↑c.toNat : Int) < 48 ∨ 57 < (↑c.toNat : Int)))) ↔ nameN pre.length c.toNat = false := by
    unfold nameN digitN
    cases pre with
    | nil => simp
    | cons x y => simp; cases letterN c.toNat <;> simp; omega
   refine ⟨if nameN pre.length c.toNat = false then pre.length + 1 else q, ?_⟩
   simp [c132_l0b, h, nameFrom, hd, hn]
   rw [h] at ih
   simp at ih
   cases nameN pre.length c.toNat <;> simp [ih]
  ·have hd := decode_hi hc hhi
   rw [h] at hd
   have hl : letterN (Utf8.decode { data := List.toArray (pre ++ c :: r) } pre.length).fst = false := by
    have := nameN_hi (i := 0) hd
    simpa [nameN] using this
   have h1 : ¬ (↑(Utf8.decode { data := List.toArray (pre ++ c :: r) } pre.length).fst : Int) = 95 := by omega
   have h2 : (57 : Int) < (↑(Utf8.decode { data := List.toArray (pre ++ c :: r) } pre.length).fst : Int) := by omega
   refine ⟨pre.length + (Utf8.decode { data := List.toArray (pre ++ c :: r) } pre.length).snd, ?_⟩
   simp [c132_l0b, h, nameFrom, hl, h1, h2, nameN_hi hhi]
@[simp] theorem S132 (s : Str) (hs : s.length < 9223372036854775807) : fn P 132 [.str s] = some (.bool (isName s)) := by
 rw [u132]
 obtain ⟨q, this⟩ := L132 (P := P) s hs s [] rfl
 simp at this
 simp [c132, this]
 cases hn : nameFrom 0 s
 ·simp [isName, hn]
 ·cases s with
  | nil => simp [isName]
  | cons c r =>
   simp [isName, hn]
   omega
@[simp] theorem S80 (s : Str) (hs : s.length < 9223372036854775807) : fn P 80 [.str s] = some (ci (named s)) := by
 rw [u80]; simp [c80, hs, named]
structure Lic where
 name : Str
 frm : Int
 to : Int
def Lic.enc (x : Lic) : CV := .agg [.str x.name, ci x.frm, ci x.to]
def Lic.ok (x : Lic) : Prop := x.name.length < 9223372036854775807
def eachE {α : Type} (chk : List α → α → Int) : List α → List α → Int
 | _, [] => 0
 | pre, x :: r => if chk pre x ≠ 0 then chk pre x else eachE chk (pre ++ [x]) r
end LM.G9
namespace LM.G9
open Go LM
def idxF {α : Type} (p : α → Bool) : Nat → List α → Int
 | _, [] => -1
 | n, x :: r => if p x then n else idxF p (n + 1) r
theorem idxF_lt {α : Type} (p : α → Bool) : ∀ (l : List α) (n : Nat), (idxF p n l < 0) ↔ l.any p = false
 | [], n => by simp [idxF]
 | x :: r, n => by
  unfold idxF
  cases h : p x
  ·simp [h, idxF_lt p r (n + 1)]
  ·simp [h]
theorem idxF_none {α : Type} {p : α → Bool} : ∀ {l : List α} {n : Nat}, l.any p = false → idxF p n l = -1
 | [], n, _ => rfl
 | x :: r, n, h => by
  simp only [List.any_cons, Bool.or_eq_false_iff] at h
  rw [idxF, if_neg (by simp [h.1]), idxF_none h.2]
theorem idxF_dec {α : Type} (p : α → Bool) (l : List α) (n : Nat) : decide (0 ≤ idxF p n l) = l.any p := by
 have := idxF_lt p l n
 cases h : l.any p
 ·have := this.2 h
  simp; omega
 ·have : ¬ idxF p n l < 0 := fun q => by rw [this.1 q] at h; cases h
  simp; omega
end LM.G9
namespace LM.G9
open Go LM
variable {P : Nat → Option SFunc} [Has P]
def Str.is (s : Str) (x : Str) : Bool := x == s
theorem Str.is_eq (s x : Str) : Str.is s x = decide (x = s) := by unfold Str.is; by_cases h : x = s <;> simp [h]
theorem Str.is_eq' (s x : Str) : Str.is s x = decide (s = x) := by rw [Str.is_eq]; exact decide_eq_decide.2 eq_comm
theorem L154 (s : Str) : ∀ (l pre : List Str), ((pre ++ l).length : Int) < 9223372036854775807 →
  execS P (limS P) c154_l0 ⟨[.c (.slice ((pre ++ l).map CV.str)), .c (.str s), .c (ci (pre ++ l).length), .c (ci pre.length)], []⟩ = if l.any (Str.is s) then some (.ret, ⟨[.c (ci (idxF (Str.is s) pre.length l))], []⟩) else some (.exit 0, ⟨[], []⟩) := by
 intro l
 induction l with
 | nil =>
  intro pre h
  rw [r154_l0]
  simp [c154_l0b]
 | cons x r ih =>
  intro pre h
  have ih := ih (pre ++ [x]) (by simpa using h)
  simp at ih h
  have hw : IntKind.i64.wrap (↑pre.length + 1) = ↑pre.length + 1 := wrap64 (by omega) (by omega)
  have hlt : (pre.length : Int) < pre.length + (r.length + 1) := by omega
  have e := Str.is_eq' s x
  rw [r154_l0]
  by_cases h0 : s = x
  ·simp only [h0, decide_true] at e
   simp [c154_l0b, hw, hlt, idxF, h0, e]
  ·simp only [h0, decide_false] at e
   simp [c154_l0b, hw, hlt, idxF, h0, e, ih]
theorem S139 (s : Str) (l : List Str) (h : (l.length : Int) < 9223372036854775807) : fn P 139 [.slice (l.map CV.str), .str s] = some (.bool (l.any (Str.is s))) := by
 have hl := L154 (P := P) s l [] (by simpa using h)
 have h2 : fn P 154 [.slice (l.map CV.str), .str s] = some (ci (idxF (Str.is s) 0 l)) := by
  rw [u154]
  simp at hl
  simp [c154, hl]
  exact fun hx => (idxF_none (by simpa using hx)).symm
 rw [u139]
 simp [c139, h2, idxF_dec]
def once (pre : List Str) (s : Str) : Int := firstE [named s, whenE (pre.any (Str.is s)) 9]
theorem S104 (s : Str) (hs : s.length < 9223372036854775807) (pre : List Str) (h : (pre.length : Int) < 9223372036854775807) : fn P 104 [.str s, .slice (pre.map CV.str)] = some (ci (once pre s)) := by
 have h1 := S139 (P := P) s pre h
 rw [u104]
 simp [c104, hs, h1, once]
theorem L103 : ∀ (l pre : List Str), (∀ x ∈ l, x.length < 9223372036854775807) → ((pre ++ l).length : Int) < 9223372036854775807 →
  execS P (limS P) c103_l0 ⟨[.c (.slice ((pre ++ l).map CV.str)), .c (.func 104 [] []), .c (.slice ((pre ++ l).map CV.str)), .c (ci (pre ++ l).length), .c (ci pre.length)], []⟩ = if eachE once pre l = 0 then some (.exit 0, ⟨[], []⟩) else some (.ret, ⟨[.c (ci (eachE once pre l))], []⟩) := by
 intro l
 induction l with
 | nil =>
  intro pre hl h
  rw [r103_l0]
  simp [c103_l0b, eachE]
 | cons c r ih =>
  intro pre hl h
  have ih := ih (pre ++ [c]) (fun x hx => hl x (by simp [hx])) (by simpa using h)
  have hc := S104 (P := P) c (hl c (by simp)) pre (by simp at h; omega)
  have ht : List.take pre.length (List.map CV.str pre ++ CV.str c :: List.map CV.str r) = pre.map CV.str := by simp
  simp at ih h
  have hw : IntKind.i64.wrap (↑pre.length + 1) = ↑pre.length + 1 := wrap64 (by omega) (by omega)
  have hlt : (pre.length : Int) < pre.length + (r.length + 1) := by omega
  have hz : szFits 1 (List.map CV.str pre ++ CV.str c :: List.map CV.str r) = true := by cases pre <;> rfl
  have hb : (pre.length : Int) ≤ pre.length + (r.length + 1) := by omega
  rw [r103_l0]
  by_cases h0 : once pre c = 0
  ·simp [c103_l0b, eachE, hw, hlt, hc, hz, hb, ht, h0, ih]
  ·simp [c103_l0b, eachE, hw, hlt, hc, hz, hb, ht, h0]
def onceL (m : Int) (l : List Str) : Int := if (l.length : Int) > m then 5 else eachE once [] l
theorem S103 (l : List Str) (m : Int) (hl : ∀ x ∈ l, x.length < 9223372036854775807) (h : (l.length : Int) < 9223372036854775807) : fn P 103 [.slice (l.map CV.str), ci m, .func 104 [] []] = some (ci (onceL m l)) := by
 rw [u103]
 have this := L103 (P := P) l [] hl (by simpa using h)
 simp at this
 unfold onceL
 by_cases hm : (l.length : Int) > m
 ·have hm' : m < (l.length : Int) := hm
  simp [c103, hm']
 ·have hm' : ¬ m < (l.length : Int) := hm
  simp [c103, hm', this]
  by_cases h0 : eachE once [] l = 0 <;> simp [h0]
theorem L58 (s : Str) : ∀ (l pre : List Str), ((pre ++ l).length : Int) < 9223372036854775807 →
  execS P (limS P) c58_l0 ⟨[.c (.slice ((pre ++ l).map CV.str)), .c (.str s), .c (ci pre.length)], []⟩ = if l.any (Str.is s) then some (.ret, ⟨[.c (.bool true)], []⟩) else some (.exit 0, ⟨[], []⟩) := by
 intro l
 induction l with
 | nil =>
  intro pre h
  rw [r58_l0]
  simp [c58_l0b]
 | cons x r ih =>
  intro pre h
  have ih := ih (pre ++ [x]) (by simpa using h)
  simp at ih h
  have hw : IntKind.i64.wrap (↑pre.length + 1) = ↑pre.length + 1 := wrap64 (by omega) (by omega)
  have hlt : (pre.length : Int) < pre.length + (r.length + 1) := by omega
  have e := Str.is_eq s x
  rw [r58_l0]
  by_cases h0 : x = s
  ·simp only [h0, decide_true] at e
   simp [c58_l0b, hw, hlt, h0, e]
  ·simp only [h0, decide_false] at e
   simp [c58_l0b, hw, hlt, h0, e, ih]
theorem S58 (s : Str) (l : List Str) (h : (l.length : Int) < 9223372036854775807) : fn P 58 [.slice (l.map CV.str), .str s] = some (.bool (l.any (Str.is s))) := by
 have hl := L58 (P := P) s l [] (by simpa using h)
 simp [-List.any_eq_true] at hl
 rw [u58]
 cases h0 : l.any (Str.is s) <;> rw [h0] at hl <;> simp [c58, hl]
theorem once_eq (pre : List Str) (s : Str) : once pre s = if isName s = false then 8 else if pre.any (Str.is s) then 9 else 0 := by
 unfold once named whenE
 cases isName s <;> cases pre.any (Str.is s) <;> simp [firstE]
theorem L87 : ∀ (l pre : List Str), ((pre ++ l).length : Int) < 9223372036854775807 →
  execS P (limS P) c87_l0 ⟨[.c (.slice ((pre ++ l).map CV.str)), .c (ci pre.length)], []⟩ = if eachE once pre l = 0 then some (.exit 0, ⟨[], []⟩) else some (.ret, ⟨[.c (ci (eachE once pre l))], []⟩) := by
 intro l
 induction l with
 | nil =>
  intro pre h
  rw [r87_l0]
  simp [c87_l0b, eachE]
 | cons c r ih =>
  intro pre h
  have ih := ih (pre ++ [c]) (by simpa using h)
  have hc := S58 (P := P) c pre (by simp at h; omega)
  have ht : List.take pre.length (List.map CV.str pre ++ CV.str c :: List.map CV.str r) = pre.map CV.str := by simp
  have he := once_eq pre c
  simp at ih h
  have hw : IntKind.i64.wrap (↑pre.length + 1) = ↑pre.length + 1 := wrap64 (by omega) (by omega)
  have hlt : (pre.length : Int) < pre.length + (r.length + 1) := by omega
  have hz : szFits 1 (List.map CV.str pre ++ CV.str c :: List.map CV.str r) = true := by cases pre <;> rfl
  have hb : (pre.length : Int) ≤ pre.length + (r.length + 1) := by omega
  rw [r87_l0]
  cases h1 : isName c
  ·rw [h1] at he
   simp [c87_l0b, eachE, hw, hlt, hz, hb, ht, h1, he]
  ·cases h2 : pre.any (Str.is c)
   ·rw [h1, h2] at he
    rw [h2] at hc
    simp at he
    simp [c87_l0b, eachE, hw, hlt, hz, hb, ht, h1, he, hc, ih]
   ·rw [h1, h2] at he
    rw [h2] at hc
    simp at he
    simp [c87_l0b, eachE, hw, hlt, hz, hb, ht, h1, he, hc]
theorem S87 (l : List Str) (h : (l.length : Int) < 9223372036854775807) : fn P 87 [.slice (l.map CV.str)] = some (ci (eachE once [] l)) := by
 have this := L87 (P := P) l [] (by simpa using h)
 simp at this
 rw [u87]
 by_cases h0 : eachE once [] l = 0 <;> simp [c87, this, h0]
def shortS (s : Str) : Bool := decide (s.length ≤ 40)
theorem L84 (n : Int) : ∀ (l pre : List Str), ((pre ++ l).length : Int) < 9223372036854775807 →
  execS P (limS P) c84_l0 ⟨[.c (.slice ((pre ++ l).map CV.str)), .c (ci n), .c (ci pre.length)], []⟩ = if l.all shortS then some (.exit 0, ⟨[.c (.slice ((pre ++ l).map CV.str)), .c (ci n)], []⟩) else some (.ret, ⟨[.c (.bool false)], []⟩) := by
 intro l
 induction l with
 | nil =>
  intro pre h
  rw [r84_l0]
  simp [c84_l0b]
 | cons c r ih =>
  intro pre h
  have ih := ih (pre ++ [c]) (by simpa using h)
  simp [-List.all_eq_true] at ih h
  have hw : IntKind.i64.wrap (↑pre.length + 1) = ↑pre.length + 1 := wrap64 (by omega) (by omega)
  have hlt : (pre.length : Int) < pre.length + (r.length + 1) := by omega
  have e : shortS c = decide (c.length ≤ 40) := rfl
  have q : (40 : Int) < c.length ↔ ¬ c.length ≤ 40 := by omega
  rw [r84_l0]
  by_cases h0 : c.length ≤ 40 <;> simp [c84_l0b, hw, hlt, q, h0, e, ih, -List.all_eq_true, -Nat.not_le]
def shortL (l : List Str) (n : Int) : Bool := l.all shortS && decide ((l.length : Int) ≤ n)
theorem S84 (l : List Str) (n : Int) (h : (l.length : Int) < 9223372036854775807) : fn P 84 [.slice (l.map CV.str), ci n] = some (.bool (shortL l n)) := by
 have this := L84 (P := P) n l [] (by simpa using h)
 simp [-List.all_eq_true] at this
 rw [u84]
 unfold shortL
 cases h0 : l.all shortS <;> rw [h0] at this <;> simp [c84, this]
structure Ofc where
 name : Str
 nation : Str
 roles : List Str
 load : Int
def Ofc.enc (x : Ofc) : CV := .agg [.str x.name, .str x.nation, .slice (x.roles.map CV.str), ci x.load]
def Ofc.ptr (x : Ofc) : CV := .ptr [.str x.name, .str x.nation, .slice (x.roles.map CV.str), ci x.load] 0
def Ofc.ok (x : Ofc) : Prop := x.name.length < 9223372036854775807 ∧ x.nation.length < 9223372036854775807 ∧ (x.roles.length : Int) < 9223372036854775807 ∧ (∀ y ∈ x.roles, y.length < 9223372036854775807)
theorem Ofc.elem (x : Ofc) : Elem (some 4) x.enc := ⟨_, rfl, rfl, by simp [CV.flat]⟩
theorem Ofc.elems (l : List Ofc) : ∀ x ∈ l.map Ofc.enc, Elem (some 4) x := by
 intro x hx
 obtain ⟨y, _, rfl⟩ := List.mem_map.1 hx
 exact y.elem
def Ofc.is (n : Str) (x : Ofc) : Bool := x.name == n
theorem S102 (x c : Ofc) : fn P 102 [x.enc, c.ptr] = some (.bool (Ofc.is c.name x)) := by
 rw [u102]
 simp [c102, Ofc.enc, Ofc.ptr, Ofc.is]
theorem L138 (c : Ofc) : ∀ (l pre : List Ofc), ((pre ++ l).length : Int) < 9223372036854775807 →
  execS P (limS P) c138_l0 ⟨[.c (.slice ((pre ++ l).map Ofc.enc)), .c (.func 102 [] [c.ptr]), .c (ci (pre ++ l).length), .c (ci pre.length)], []⟩ = if l.any (Ofc.is c.name) then some (.ret, ⟨[.c (ci (idxF (Ofc.is c.name) pre.length l))], []⟩) else some (.exit 0, ⟨[], []⟩) := by
 intro l
 induction l with
 | nil =>
  intro pre h
  rw [r138_l0]
  simp [c138_l0b]
 | cons x r ih =>
  intro pre h
  have ih := ih (pre ++ [x]) (by simpa using h)
  have hc := S102 (P := P) x c
  simp [Ofc.enc] at ih h hc
  have hw : IntKind.i64.wrap (↑pre.length + 1) = ↑pre.length + 1 := wrap64 (by omega) (by omega)
  have hlt : (pre.length : Int) < pre.length + (r.length + 1) := by omega
  rw [r138_l0]
  cases h0 : Ofc.is c.name x
  ·simp [c138_l0b, hw, hlt, Ofc.enc, hc, idxF, h0, ih]
  ·simp [c138_l0b, hw, hlt, Ofc.enc, hc, idxF, h0]
theorem S101 (c : Ofc) (l : List Ofc) (h : (l.length : Int) < 9223372036854775807) : fn P 101 [.slice (l.map Ofc.enc), .func 102 [] [c.ptr]] = some (.bool (l.any (Ofc.is c.name))) := by
 have hl := L138 (P := P) c l [] (by simpa using h)
 have h2 : fn P 138 [.slice (l.map Ofc.enc), .func 102 [] [c.ptr]] = some (ci (idxF (Ofc.is c.name) 0 l)) := by
  rw [u138]
  simp at hl
  simp [c138, hl]
  exact fun hx => (idxF_none (by simpa using hx)).symm
 rw [u101]
 simp [c101, h2, idxF_dec]
def checkOfc (pre : List Ofc) (x : Ofc) : Int := firstE [named x.name, named x.nation, whenE (pre.any (Ofc.is x.name)) 9, onceL 16 x.roles, whenE (outside x.load 0 24) 3]
theorem S100 (x : Ofc) (hx : x.ok) (pre : List Ofc) (h : (pre.length : Int) < 9223372036854775807) : fn P 100 [x.enc, .slice (pre.map Ofc.enc)] = some (ci (checkOfc pre x)) := by
 have hs := S101 (P := P) x pre h
 obtain ⟨h1, h2, h3, h4⟩ := hx
 have hr := S103 (P := P) x.roles 16 h4 h3
 rw [u100]
 simp [Ofc.ptr] at hs
 simp [c100, Ofc.enc, hs, h1, h2, hr, checkOfc]
theorem L99 : ∀ (l pre : List Ofc), (∀ x ∈ l, x.ok) → ((pre ++ l).length : Int) < 9223372036854775807 →
  ∃ h', execS P (limS P) c99_l0 ⟨[.c (.slice ((pre ++ l).map Ofc.enc)), .c (.func 100 [] []), .c (.slice ((pre ++ l).map Ofc.enc)), .c (ci (pre ++ l).length), .c (ci pre.length)], []⟩ = if eachE checkOfc pre l = 0 then some (.exit 0, ⟨[], []⟩) else some (.ret, ⟨[.c (ci (eachE checkOfc pre l))], h'⟩) := by
 intro l
 induction l with
 | nil =>
  intro pre hl h
  rw [r99_l0]
  exact ⟨[], by simp [c99_l0b, eachE]⟩
 | cons c r ih =>
  intro pre hl h
  obtain ⟨h', ih⟩ := ih (pre ++ [c]) (fun x hx => hl x (by simp [hx])) (by simpa using h)
  have hc := S100 (P := P) c (hl c (by simp)) pre (by simp at h; omega)
  have ht : List.take pre.length (List.map Ofc.enc pre ++ c.enc :: List.map Ofc.enc r) = pre.map Ofc.enc := by simp
  simp [Ofc.enc] at ih h hc ht
  have hw : IntKind.i64.wrap (↑pre.length + 1) = ↑pre.length + 1 := wrap64 (by omega) (by omega)
  have hlt : (pre.length : Int) < pre.length + (r.length + 1) := by omega
  have hz : szFits 4 (List.map Ofc.enc pre ++ CV.agg [CV.str c.name, CV.str c.nation, CV.slice (List.map CV.str c.roles), ci c.load] :: List.map Ofc.enc r) = true := by cases pre <;> rfl
  have hb : (pre.length : Int) ≤ pre.length + (r.length + 1) := by omega
  rw [r99_l0]
  by_cases h0 : checkOfc pre c = 0
  ·refine ⟨h', ?_⟩
   simp [c99_l0b, eachE, hw, hlt, Ofc.enc, hc, hz, hb, ht, h0, ih]
  ·refine ⟨[LB.cells 0 [LV.c (CV.str c.name), LV.c (CV.str c.nation), LV.c (CV.slice (List.map CV.str c.roles)), LV.c (ci c.load)] 0], ?_⟩
   simp [c99_l0b, eachE, hw, hlt, Ofc.enc, hc, hz, hb, ht, h0]
theorem S99 (l : List Ofc) (m : Int) (hl : ∀ x ∈ l, x.ok) (h : (l.length : Int) < 9223372036854775807) : fn P 99 [.slice (l.map Ofc.enc), ci m, .func 100 [] []] = some (ci (if (l.length : Int) > m then 5 else eachE checkOfc [] l)) := by
 rw [u99]
 obtain ⟨h', this⟩ := L99 (P := P) l [] hl (by simpa using h)
 simp at this
 by_cases hm : (l.length : Int) > m
 ·have hm' : m < (l.length : Int) := hm
  simp [c99, hm']
 ·have hm' : ¬ m < (l.length : Int) := hm
  simp [c99, hm', this]
  by_cases h0 : eachE checkOfc [] l = 0 <;> simp [h0]
structure Pst where
 name : Str
 role : Str
 hour : Int
 nations : List Str
def Pst.enc (x : Pst) : CV := .agg [.str x.name, .str x.role, ci x.hour, .slice (x.nations.map CV.str)]
def Pst.ptr (x : Pst) : CV := .ptr [.str x.name, .str x.role, ci x.hour, .slice (x.nations.map CV.str)] 0
def Pst.ok (x : Pst) : Prop := x.name.length < 9223372036854775807 ∧ x.role.length < 9223372036854775807 ∧ (x.nations.length : Int) < 9223372036854775807 ∧ (∀ y ∈ x.nations, y.length < 9223372036854775807)
theorem Pst.elem (x : Pst) : Elem (some 4) x.enc := ⟨_, rfl, rfl, by simp [CV.flat]⟩
theorem Pst.elems (l : List Pst) : ∀ x ∈ l.map Pst.enc, Elem (some 4) x := by
 intro x hx
 obtain ⟨y, _, rfl⟩ := List.mem_map.1 hx
 exact y.elem
def Pst.is (n : Str) (x : Pst) : Bool := x.name == n
theorem S109 (x c : Pst) : fn P 109 [x.enc, c.ptr] = some (.bool (Pst.is c.name x)) := by
 rw [u109]
 simp [c109, Pst.enc, Pst.ptr, Pst.is]
theorem L140 (c : Pst) : ∀ (l pre : List Pst), ((pre ++ l).length : Int) < 9223372036854775807 →
  execS P (limS P) c140_l0 ⟨[.c (.slice ((pre ++ l).map Pst.enc)), .c (.func 109 [] [c.ptr]), .c (ci (pre ++ l).length), .c (ci pre.length)], []⟩ = if l.any (Pst.is c.name) then some (.ret, ⟨[.c (ci (idxF (Pst.is c.name) pre.length l))], []⟩) else some (.exit 0, ⟨[], []⟩) := by
 intro l
 induction l with
 | nil =>
  intro pre h
  rw [r140_l0]
  simp [c140_l0b]
 | cons x r ih =>
  intro pre h
  have ih := ih (pre ++ [x]) (by simpa using h)
  have hc := S109 (P := P) x c
  simp [Pst.enc] at ih h hc
  have hw : IntKind.i64.wrap (↑pre.length + 1) = ↑pre.length + 1 := wrap64 (by omega) (by omega)
  have hlt : (pre.length : Int) < pre.length + (r.length + 1) := by omega
  rw [r140_l0]
  cases h0 : Pst.is c.name x
  ·simp [c140_l0b, hw, hlt, Pst.enc, hc, idxF, h0, ih]
  ·simp [c140_l0b, hw, hlt, Pst.enc, hc, idxF, h0]
theorem S108 (c : Pst) (l : List Pst) (h : (l.length : Int) < 9223372036854775807) : fn P 108 [.slice (l.map Pst.enc), .func 109 [] [c.ptr]] = some (.bool (l.any (Pst.is c.name))) := by
 have hl := L140 (P := P) c l [] (by simpa using h)
 have h2 : fn P 140 [.slice (l.map Pst.enc), .func 109 [] [c.ptr]] = some (ci (idxF (Pst.is c.name) 0 l)) := by
  rw [u140]
  simp at hl
  simp [c140, hl]
  exact fun hx => (idxF_none (by simpa using hx)).symm
 rw [u108]
 simp [c108, h2, idxF_dec]
def checkPst (pre : List Pst) (x : Pst) : Int := firstE [named x.name, named x.role, whenE (pre.any (Pst.is x.name)) 9, dated x.hour, onceL 160 x.nations]
theorem S107 (x : Pst) (hx : x.ok) (pre : List Pst) (h : (pre.length : Int) < 9223372036854775807) : fn P 107 [x.enc, .slice (pre.map Pst.enc)] = some (ci (checkPst pre x)) := by
 have hs := S108 (P := P) x pre h
 obtain ⟨h1, h2, h3, h4⟩ := hx
 have hr := S103 (P := P) x.nations 160 h4 h3
 rw [u107]
 simp [Pst.ptr] at hs
 simp [c107, Pst.enc, hs, h1, h2, hr, checkPst]
theorem L106 : ∀ (l pre : List Pst), (∀ x ∈ l, x.ok) → ((pre ++ l).length : Int) < 9223372036854775807 →
  ∃ h', execS P (limS P) c106_l0 ⟨[.c (.slice ((pre ++ l).map Pst.enc)), .c (.func 107 [] []), .c (.slice ((pre ++ l).map Pst.enc)), .c (ci (pre ++ l).length), .c (ci pre.length)], []⟩ = if eachE checkPst pre l = 0 then some (.exit 0, ⟨[], []⟩) else some (.ret, ⟨[.c (ci (eachE checkPst pre l))], h'⟩) := by
 intro l
 induction l with
 | nil =>
  intro pre hl h
  rw [r106_l0]
  exact ⟨[], by simp [c106_l0b, eachE]⟩
 | cons c r ih =>
  intro pre hl h
  obtain ⟨h', ih⟩ := ih (pre ++ [c]) (fun x hx => hl x (by simp [hx])) (by simpa using h)
  have hc := S107 (P := P) c (hl c (by simp)) pre (by simp at h; omega)
  have ht : List.take pre.length (List.map Pst.enc pre ++ c.enc :: List.map Pst.enc r) = pre.map Pst.enc := by simp
  simp [Pst.enc] at ih h hc ht
  have hw : IntKind.i64.wrap (↑pre.length + 1) = ↑pre.length + 1 := wrap64 (by omega) (by omega)
  have hlt : (pre.length : Int) < pre.length + (r.length + 1) := by omega
  have hz : szFits 4 (List.map Pst.enc pre ++ CV.agg [CV.str c.name, CV.str c.role, ci c.hour, CV.slice (List.map CV.str c.nations)] :: List.map Pst.enc r) = true := by cases pre <;> rfl
  have hb : (pre.length : Int) ≤ pre.length + (r.length + 1) := by omega
  rw [r106_l0]
  by_cases h0 : checkPst pre c = 0
  ·refine ⟨h', ?_⟩
   simp [c106_l0b, eachE, hw, hlt, Pst.enc, hc, hz, hb, ht, h0, ih]
  ·refine ⟨[LB.cells 0 [LV.c (CV.str c.name), LV.c (CV.str c.role), LV.c (ci c.hour), LV.c (CV.slice (List.map CV.str c.nations))] 0], ?_⟩
   simp [c106_l0b, eachE, hw, hlt, Pst.enc, hc, hz, hb, ht, h0]
theorem S106 (l : List Pst) (m : Int) (hl : ∀ x ∈ l, x.ok) (h : (l.length : Int) < 9223372036854775807) : fn P 106 [.slice (l.map Pst.enc), ci m, .func 107 [] []] = some (ci (if (l.length : Int) > m then 5 else eachE checkPst [] l)) := by
 rw [u106]
 obtain ⟨h', this⟩ := L106 (P := P) l [] hl (by simpa using h)
 simp at this
 by_cases hm : (l.length : Int) > m
 ·have hm' : m < (l.length : Int) := hm
  simp [c106, hm']
 ·have hm' : ¬ m < (l.length : Int) := hm
  simp [c106, hm', this]
  by_cases h0 : eachE checkPst [] l = 0 <;> simp [h0]
structure Jur where
 ofs : List Ofc
 pts : List Pst
def Jur.enc (j : Jur) : CV := .agg [.slice (j.ofs.map Ofc.enc), .slice (j.pts.map Pst.enc)]
structure Jur.ok (j : Jur) : Prop where
 o : ∀ x ∈ j.ofs, x.ok
 p : ∀ x ∈ j.pts, x.ok
 so : j.ofs.length * 64 ≤ 2 ^ 47
 sp : j.pts.length * 64 ≤ 2 ^ 47
def checkJur (j : Jur) : Int := firstE [if (j.ofs.length : Int) > 24 then 5 else eachE checkOfc [] j.ofs, if (j.pts.length : Int) > 24 then 5 else eachE checkPst [] j.pts]
theorem S42 (j : Jur) (h : j.ok) : fn P 42 [j.enc] = some (ci (checkJur j)) := by
 have h1 := S99 (P := P) j.ofs 24 h.o (by have := h.so; omega)
 have h2 := S106 (P := P) j.pts 24 h.p (by have := h.sp; omega)
 rw [u42]
 simp [c42, Jur.enc, h1, h2, checkJur]
def Ofc.short (x : Ofc) : Bool := shortS x.name && shortS x.nation && shortL x.roles 19
theorem L40_Ofc (o : CV) : ∀ (l pre : List Ofc), (∀ x ∈ l, x.ok) → ((pre ++ l).length : Int) < 9223372036854775807 →
  execS P (limS P) c40_l0 ⟨[.ptr 0 0 0, .c (ci pre.length)], [.cells 0 [.c (.slice ((pre ++ l).map Ofc.enc)), .c o] 0]⟩ = if l.all Ofc.short then some (.exit 0, ⟨[.ptr 0 0 0], [.cells 0 [.c (.slice ((pre ++ l).map Ofc.enc)), .c o] 0]⟩) else some (.ret, ⟨[.c (.bool false)], [.cells 0 [.c (.slice ((pre ++ l).map Ofc.enc)), .c o] 0]⟩) := by
 intro l
 induction l with
 | nil =>
  intro pre hl h
  rw [r40_l0]
  simp [c40_l0b]
 | cons c r ih =>
  intro pre hl h
  have ih := ih (pre ++ [c]) (fun x hx => hl x (by simp [hx])) (by simpa using h)
  obtain ⟨k1, k2, k3, k4⟩ := hl c (by simp)
  have hs := S84 (P := P) c.roles 19 k3
  simp [Ofc.enc, -List.all_eq_true] at ih h
  have hw : IntKind.i64.wrap (↑pre.length + 1) = ↑pre.length + 1 := wrap64 (by omega) (by omega)
  have hlt : (pre.length : Int) < pre.length + (r.length + 1) := by omega
  have e : Ofc.short c = (decide (c.name.length ≤ 40) && decide (c.nation.length ≤ 40) && shortL c.roles 19) := rfl
  have q1 : (40 : Int) < c.name.length ↔ ¬ c.name.length ≤ 40 := by omega
  have q2 : (40 : Int) < c.nation.length ↔ ¬ c.nation.length ≤ 40 := by omega
  rw [r40_l0]
  by_cases h1 : c.name.length ≤ 40 <;> by_cases h2 : c.nation.length ≤ 40 <;> cases h3 : shortL c.roles 19 <;> rw [h3] at hs <;>
   simp [c40_l0b, hw, hlt, Ofc.enc, q1, q2, h1, h2, h3, hs, e, ih, -List.all_eq_true, -Nat.not_le]
def Pst.short (x : Pst) : Bool := shortS x.name && shortS x.role && shortL x.nations 163
theorem L40_Pst (o : CV) : ∀ (l pre : List Pst), (∀ x ∈ l, x.ok) → ((pre ++ l).length : Int) < 9223372036854775807 →
  execS P (limS P) c40_l1 ⟨[.ptr 0 0 0, .c (ci pre.length)], [.cells 0 [.c o, .c (.slice ((pre ++ l).map Pst.enc))] 0]⟩ = if l.all Pst.short then some (.exit 2, ⟨[.ptr 0 0 0], [.cells 0 [.c o, .c (.slice ((pre ++ l).map Pst.enc))] 0]⟩) else some (.ret, ⟨[.c (.bool false)], [.cells 0 [.c o, .c (.slice ((pre ++ l).map Pst.enc))] 0]⟩) := by
 intro l
 induction l with
 | nil =>
  intro pre hl h
  rw [r40_l1]
  simp [c40_l1b]
 | cons c r ih =>
  intro pre hl h
  have ih := ih (pre ++ [c]) (fun x hx => hl x (by simp [hx])) (by simpa using h)
  obtain ⟨k1, k2, k3, k4⟩ := hl c (by simp)
  have hs := S84 (P := P) c.nations 163 k3
  simp [Pst.enc, -List.all_eq_true] at ih h
  have hw : IntKind.i64.wrap (↑pre.length + 1) = ↑pre.length + 1 := wrap64 (by omega) (by omega)
  have hlt : (pre.length : Int) < pre.length + (r.length + 1) := by omega
  have e : Pst.short c = (decide (c.name.length ≤ 40) && decide (c.role.length ≤ 40) && shortL c.nations 163) := rfl
  have q1 : (40 : Int) < c.name.length ↔ ¬ c.name.length ≤ 40 := by omega
  have q2 : (40 : Int) < c.role.length ↔ ¬ c.role.length ≤ 40 := by omega
  rw [r40_l1]
  by_cases h1 : c.name.length ≤ 40 <;> by_cases h2 : c.role.length ≤ 40 <;> cases h3 : shortL c.nations 163 <;> rw [h3] at hs <;>
   simp [c40_l1b, hw, hlt, Pst.enc, q1, q2, h1, h2, h3, hs, e, ih, -List.all_eq_true, -Nat.not_le]
def shortJur (j : Jur) : Bool := j.ofs.all Ofc.short && j.pts.all Pst.short && (decide (j.ofs.length ≤ 27) && decide (j.pts.length ≤ 27))
theorem S40 (j : Jur) (h : j.ok) : fn P 40 [j.enc] = some (.bool (shortJur j)) := by
 have h1 := L40_Ofc (P := P) (.slice (j.pts.map Pst.enc)) j.ofs [] h.o (by have := h.so; simp; omega)
 have h2 := L40_Pst (P := P) (.slice (j.ofs.map Ofc.enc)) j.pts [] h.p (by have := h.sp; simp; omega)
 simp [-List.all_eq_true] at h1 h2
 have q1 : decide ((j.ofs.length : Int) ≤ 27) = decide (j.ofs.length ≤ 27) := decide_eq_decide.2 (by omega)
 have q2 : decide ((j.pts.length : Int) ≤ 27) = decide (j.pts.length ≤ 27) := decide_eq_decide.2 (by omega)
 rw [u40]
 unfold shortJur
 cases e1 : j.ofs.all Ofc.short <;> rw [e1] at h1
 ·simp [c40, Jur.enc, h1]
 ·cases e2 : j.pts.all Pst.short <;> rw [e2] at h2 <;> simp [c40, Jur.enc, h1, h2, q1, q2]
theorem L41a_Ofc (o : CV) (A : List CV) (x : Ofc) (i : Nat) (hi : i < A.length) (hA : (A.length : Int) < 9223372036854775807) : ∀ (l : List Ofc) (k : Nat), k + l.length = i → (∀ j c, l[j]? = some c → A[k + j]? = some c.enc) →
  execS P (limS P) c41_l0 ⟨[.ptr 0 0 0, .c (ci i), .ptr 1 0 0, .c (ci k)], [.cells 0 [.c (.slice A), .c o] 0, .cells 0 [.c (.str x.name), .c (.str x.nation), .c (.slice (x.roles.map CV.str)), .c (ci x.load)] 0]⟩ = if l.any (Ofc.is x.name) then some (.ret, ⟨[.c (ci 9)], [.cells 0 [.c (.slice A), .c o] 0, .cells 0 [.c (.str x.name), .c (.str x.nation), .c (.slice (x.roles.map CV.str)), .c (ci x.load)] 0]⟩) else some (.exit 2, ⟨[.ptr 0 0 0, .c (ci i), .ptr 1 0 0], [.cells 0 [.c (.slice A), .c o] 0, .cells 0 [.c (.str x.name), .c (.str x.nation), .c (.slice (x.roles.map CV.str)), .c (ci x.load)] 0]⟩) := by
 intro l
 induction l with
 | nil =>
  intro k hk h
  simp at hk
  subst hk
  rw [r41_l0]
  simp [c41_l0b]
 | cons c r ih =>
  intro k hk h
  have hc : A[k]? = some c.enc := h 0 c rfl
  have ih := ih (k + 1) (by simp at hk; omega) (fun j c hj => by have := h (j + 1) c hj; rw [← this]; congr 1; omega)
  simp [-List.any_eq_true] at hk ih
  have hlt : (k : Int) < i := by omega
  have hw : IntKind.i64.wrap (↑k + 1) = ↑k + 1 := wrap64 (by omega) (by omega)
  obtain ⟨h1, hc⟩ := List.getElem?_eq_some_iff.1 hc
  simp only [Ofc.enc] at hc
  have e : Ofc.is x.name c = decide (c.name = x.name) := by unfold Ofc.is; by_cases h : c.name = x.name <;> simp [h]
  rw [r41_l0]
  by_cases h0 : c.name = x.name
  ·simp [c41_l0b, hlt, hc, h0, e, hi, h1]
  ·simp [c41_l0b, hlt, hc, h0, e, hi, h1, hw, ih, -List.any_eq_true]
theorem L41a_Pst (o : CV) (A : List CV) (x : Pst) (i : Nat) (hi : i < A.length) (hA : (A.length : Int) < 9223372036854775807) : ∀ (l : List Pst) (k : Nat), k + l.length = i → (∀ j c, l[j]? = some c → A[k + j]? = some c.enc) →
  execS P (limS P) c41_l2 ⟨[.ptr 0 0 0, .c (ci i), .ptr 1 0 0, .c (ci k)], [.cells 0 [.c o, .c (.slice A)] 0, .cells 0 [.c (.str x.name), .c (.str x.role), .c (ci x.hour), .c (.slice (x.nations.map CV.str))] 0]⟩ = if l.any (Pst.is x.name) then some (.ret, ⟨[.c (ci 9)], [.cells 0 [.c o, .c (.slice A)] 0, .cells 0 [.c (.str x.name), .c (.str x.role), .c (ci x.hour), .c (.slice (x.nations.map CV.str))] 0]⟩) else some (.exit 6, ⟨[.ptr 0 0 0, .c (ci i), .ptr 1 0 0], [.cells 0 [.c o, .c (.slice A)] 0, .cells 0 [.c (.str x.name), .c (.str x.role), .c (ci x.hour), .c (.slice (x.nations.map CV.str))] 0]⟩) := by
 intro l
 induction l with
 | nil =>
  intro k hk h
  simp at hk
  subst hk
  rw [r41_l2]
  simp [c41_l2b]
 | cons c r ih =>
  intro k hk h
  have hc : A[k]? = some c.enc := h 0 c rfl
  have ih := ih (k + 1) (by simp at hk; omega) (fun j c hj => by have := h (j + 1) c hj; rw [← this]; congr 1; omega)
  simp [-List.any_eq_true] at hk ih
  have hlt : (k : Int) < i := by omega
  have hw : IntKind.i64.wrap (↑k + 1) = ↑k + 1 := wrap64 (by omega) (by omega)
  obtain ⟨h1, hc⟩ := List.getElem?_eq_some_iff.1 hc
  simp only [Pst.enc] at hc
  have e : Pst.is x.name c = decide (c.name = x.name) := by unfold Pst.is; by_cases h : c.name = x.name <;> simp [h]
  rw [r41_l2]
  by_cases h0 : c.name = x.name
  ·simp [c41_l2b, hlt, hc, h0, e, hi, h1]
  ·simp [c41_l2b, hlt, hc, h0, e, hi, h1, hw, ih, -List.any_eq_true]
theorem checkOfc_eq (pre : List Ofc) (x : Ofc) : checkOfc pre x = if (isName x.name && isName x.nation) = false then 8 else if pre.any (Ofc.is x.name) then 9 else if (16 : Int) < x.roles.length then 5 else if eachE once [] x.roles ≠ 0 then eachE once [] x.roles else if outside x.load 0 24 then 3 else 0 := by
 unfold checkOfc named whenE onceL
 cases isName x.name <;> cases isName x.nation <;> cases pre.any (Ofc.is x.name) <;> by_cases h : (16 : Int) < x.roles.length <;> by_cases h2 : eachE once [] x.roles = 0 <;> cases outside x.load 0 24 <;> simp [firstE, h, h2]
theorem checkPst_eq (pre : List Pst) (x : Pst) : checkPst pre x = if (isName x.name && isName x.role) = false then 8 else if pre.any (Pst.is x.name) then 9 else if outside x.hour 0 99999 then 3 else if (160 : Int) < x.nations.length then 5 else eachE once [] x.nations := by
 unfold checkPst named dated whenE onceL
 cases isName x.name <;> cases isName x.role <;> cases pre.any (Pst.is x.name) <;> by_cases h : (160 : Int) < x.nations.length <;> by_cases h2 : eachE once [] x.nations = 0 <;> cases outside x.hour 0 99999 <;> simp [firstE, h, h2]
theorem L41_Ofc (o : CV) : ∀ (l pre : List Ofc), (∀ x ∈ l, x.ok) → ((pre ++ l).length : Int) < 9223372036854775807 →
  ∃ h', execS P (limS P) c41_l1 ⟨[.ptr 0 0 0, .c (ci pre.length)], [.cells 0 [.c (.slice ((pre ++ l).map Ofc.enc)), .c o] 0]⟩ = if eachE checkOfc pre l = 0 then some (.exit 0, ⟨[.ptr 0 0 0], [.cells 0 [.c (.slice ((pre ++ l).map Ofc.enc)), .c o] 0]⟩) else some (.ret, ⟨[.c (ci (eachE checkOfc pre l))], h'⟩) := by
 intro l
 induction l with
 | nil =>
  intro pre hl h
  refine ⟨[], ?_⟩
  rw [r41_l1]
  simp [c41_l1b, eachE]
 | cons c r ih =>
  intro pre hl h
  obtain ⟨h', ih⟩ := ih (pre ++ [c]) (fun x hx => hl x (by simp [hx])) (by simpa using h)
  have hin := L41a_Ofc (P := P) o ((pre ++ c :: r).map Ofc.enc) c pre.length (by simp) (by simpa using h) pre 0 (by simp) (fun j x hj => by
   have hj' : j < pre.length := (List.getElem?_eq_some_iff.1 hj).1
   rw [Nat.zero_add, List.getElem?_map, List.getElem?_append_left hj', hj]; rfl)
  obtain ⟨k1, k2, k3, k4⟩ := hl c (by simp)
  simp [Ofc.enc, -List.any_eq_true] at ih h hin
  have hw : IntKind.i64.wrap (↑pre.length + 1) = ↑pre.length + 1 := wrap64 (by omega) (by omega)
  have hlt : (pre.length : Int) < pre.length + (r.length + 1) := by omega
  have he := checkOfc_eq pre c
  rw [r41_l1]
  have hn := S87 (P := P) c.roles k3
  cases h1 : isName c.name
  ·rw [h1] at he
   simp at he
   refine ⟨[.cells 0 [.c (.slice ((pre ++ c :: r).map Ofc.enc)), .c o] 0, .cells 0 [.c (.str c.name), .c (.str c.nation), .c (.slice (c.roles.map CV.str)), .c (ci c.load)] 0], ?_⟩
   simp [c41_l1b, hw, hlt, Ofc.enc, eachE, he, h1]
  ·cases h2 : isName c.nation
   ·rw [h1, h2] at he
    simp at he
    refine ⟨[.cells 0 [.c (.slice ((pre ++ c :: r).map Ofc.enc)), .c o] 0, .cells 0 [.c (.str c.name), .c (.str c.nation), .c (.slice (c.roles.map CV.str)), .c (ci c.load)] 0], ?_⟩
    simp [c41_l1b, hw, hlt, Ofc.enc, eachE, he, h1, h2]
   ·rw [h1, h2] at he
    cases h3 : pre.any (Ofc.is c.name)
    ·rw [h3] at he hin
     simp at he hin
     by_cases h4 : (16 : Int) < c.roles.length
     ·simp [h4] at he
      refine ⟨[.cells 0 [.c (.slice ((pre ++ c :: r).map Ofc.enc)), .c o] 0, .cells 0 [.c (.str c.name), .c (.str c.nation), .c (.slice (c.roles.map CV.str)), .c (ci c.load)] 0], ?_⟩
      simp [c41_l1b, hw, hlt, Ofc.enc, eachE, he, h1, h2, hin, h4]
     ·simp [h4] at he
      by_cases h5 : eachE once [] c.roles = 0
      ·rw [h5] at hn he
       simp at he
       cases h6 : outside c.load 0 24
       ·rw [h6] at he
        simp at he
        refine ⟨h', ?_⟩
        simp [c41_l1b, hw, hlt, Ofc.enc, eachE, he, h1, h2, hin, h4, hn, h6, ih]
       ·rw [h6] at he
        simp at he
        refine ⟨[.cells 0 [.c (.slice ((pre ++ c :: r).map Ofc.enc)), .c o] 0, .cells 0 [.c (.str c.name), .c (.str c.nation), .c (.slice (c.roles.map CV.str)), .c (ci c.load)] 0], ?_⟩
        simp [c41_l1b, hw, hlt, Ofc.enc, eachE, he, h1, h2, hin, h4, hn, h6]
      ·simp [h5] at he
       refine ⟨[.cells 0 [.c (.slice ((pre ++ c :: r).map Ofc.enc)), .c o] 0, .cells 0 [.c (.str c.name), .c (.str c.nation), .c (.slice (c.roles.map CV.str)), .c (ci c.load)] 0], ?_⟩
       simp [c41_l1b, hw, hlt, Ofc.enc, eachE, he, h1, h2, hin, h4, hn, h5]
    ·rw [h3] at he hin
     simp at he hin
     refine ⟨[.cells 0 [.c (.slice ((pre ++ c :: r).map Ofc.enc)), .c o] 0, .cells 0 [.c (.str c.name), .c (.str c.nation), .c (.slice (c.roles.map CV.str)), .c (ci c.load)] 0], ?_⟩
     simp [c41_l1b, hw, hlt, Ofc.enc, eachE, he, h1, h2, hin]
theorem L41_Pst (o : CV) : ∀ (l pre : List Pst), (∀ x ∈ l, x.ok) → ((pre ++ l).length : Int) < 9223372036854775807 →
  ∃ h', execS P (limS P) c41_l3 ⟨[.ptr 0 0 0, .c (ci pre.length)], [.cells 0 [.c o, .c (.slice ((pre ++ l).map Pst.enc))] 0]⟩ = if eachE checkPst pre l = 0 then some (.exit 4, ⟨[], [.cells 0 [.c o, .c (.slice ((pre ++ l).map Pst.enc))] 0]⟩) else some (.ret, ⟨[.c (ci (eachE checkPst pre l))], h'⟩) := by
 intro l
 induction l with
 | nil =>
  intro pre hl h
  refine ⟨[], ?_⟩
  rw [r41_l3]
  simp [c41_l3b, eachE]
 | cons c r ih =>
  intro pre hl h
  obtain ⟨h', ih⟩ := ih (pre ++ [c]) (fun x hx => hl x (by simp [hx])) (by simpa using h)
  have hin := L41a_Pst (P := P) o ((pre ++ c :: r).map Pst.enc) c pre.length (by simp) (by simpa using h) pre 0 (by simp) (fun j x hj => by
   have hj' : j < pre.length := (List.getElem?_eq_some_iff.1 hj).1
   rw [Nat.zero_add, List.getElem?_map, List.getElem?_append_left hj', hj]; rfl)
  obtain ⟨k1, k2, k3, k4⟩ := hl c (by simp)
  simp [Pst.enc, -List.any_eq_true] at ih h hin
  have hw : IntKind.i64.wrap (↑pre.length + 1) = ↑pre.length + 1 := wrap64 (by omega) (by omega)
  have hlt : (pre.length : Int) < pre.length + (r.length + 1) := by omega
  have he := checkPst_eq pre c
  rw [r41_l3]
  have hn := S87 (P := P) c.nations k3
  cases h1 : isName c.name
  ·rw [h1] at he
   simp at he
   refine ⟨[.cells 0 [.c o, .c (.slice ((pre ++ c :: r).map Pst.enc))] 0, .cells 0 [.c (.str c.name), .c (.str c.role), .c (ci c.hour), .c (.slice (c.nations.map CV.str))] 0], ?_⟩
   simp [c41_l3b, hw, hlt, Pst.enc, eachE, he, h1]
  ·cases h2 : isName c.role
   ·rw [h1, h2] at he
    simp at he
    refine ⟨[.cells 0 [.c o, .c (.slice ((pre ++ c :: r).map Pst.enc))] 0, .cells 0 [.c (.str c.name), .c (.str c.role), .c (ci c.hour), .c (.slice (c.nations.map CV.str))] 0], ?_⟩
    simp [c41_l3b, hw, hlt, Pst.enc, eachE, he, h1, h2]
   ·rw [h1, h2] at he
    cases h3 : pre.any (Pst.is c.name)
    ·rw [h3] at he hin
     simp at he hin
     cases h6 : outside c.hour 0 99999
     ·rw [h6] at he
      simp at he
      by_cases h4 : (160 : Int) < c.nations.length
      ·simp [h4] at he
       refine ⟨[.cells 0 [.c o, .c (.slice ((pre ++ c :: r).map Pst.enc))] 0, .cells 0 [.c (.str c.name), .c (.str c.role), .c (ci c.hour), .c (.slice (c.nations.map CV.str))] 0], ?_⟩
       simp [c41_l3b, hw, hlt, Pst.enc, eachE, he, h1, h2, hin, h4, h6]
      ·simp [h4] at he
       by_cases h5 : eachE once [] c.nations = 0
       ·rw [h5] at hn he
        refine ⟨h', ?_⟩
        simp [c41_l3b, hw, hlt, Pst.enc, eachE, he, h1, h2, hin, h4, hn, h6, ih]
       ·refine ⟨[.cells 0 [.c o, .c (.slice ((pre ++ c :: r).map Pst.enc))] 0, .cells 0 [.c (.str c.name), .c (.str c.role), .c (ci c.hour), .c (.slice (c.nations.map CV.str))] 0], ?_⟩
        simp [c41_l3b, hw, hlt, Pst.enc, eachE, he, h1, h2, hin, h4, hn, h5, h6]
     ·rw [h6] at he
      simp at he
      refine ⟨[.cells 0 [.c o, .c (.slice ((pre ++ c :: r).map Pst.enc))] 0, .cells 0 [.c (.str c.name), .c (.str c.role), .c (ci c.hour), .c (.slice (c.nations.map CV.str))] 0], ?_⟩
      simp [c41_l3b, hw, hlt, Pst.enc, eachE, he, h1, h2, hin, h6]
    ·rw [h3] at he hin
     simp at he hin
     refine ⟨[.cells 0 [.c o, .c (.slice ((pre ++ c :: r).map Pst.enc))] 0, .cells 0 [.c (.str c.name), .c (.str c.role), .c (ci c.hour), .c (.slice (c.nations.map CV.str))] 0], ?_⟩
     simp [c41_l3b, hw, hlt, Pst.enc, eachE, he, h1, h2, hin]
theorem S41 (j : Jur) (h : j.ok) : fn P 41 [j.enc] = some (ci (checkJur j)) := by
 obtain ⟨h1', h1⟩ := L41_Ofc (P := P) (.slice (j.pts.map Pst.enc)) j.ofs [] h.o (by have := h.so; simp; omega)
 obtain ⟨h2', h2⟩ := L41_Pst (P := P) (.slice (j.ofs.map Ofc.enc)) j.pts [] h.p (by have := h.sp; simp; omega)
 simp at h1 h2
 rw [u41]
 unfold checkJur
 by_cases g1 : (24 : Int) < j.ofs.length
 ·simp [c41, Jur.enc, g1, firstE]
 ·by_cases e1 : eachE checkOfc [] j.ofs = 0
  ·rw [if_pos e1] at h1
   by_cases g2 : (24 : Int) < j.pts.length
   ·simp [c41, Jur.enc, g1, h1, e1, g2, firstE]
   ·by_cases e2 : eachE checkPst [] j.pts = 0
    ·rw [if_pos e2] at h2
     simp [c41, Jur.enc, g1, h1, e1, g2, h2, e2, firstE]
    ·rw [if_neg e2] at h2
     simp [c41, Jur.enc, g1, h1, e1, g2, h2, e2, firstE]
  ·rw [if_neg e1] at h1
   simp [c41, Jur.enc, g1, h1, e1, firstE]
def servesB (o : Ofc) (p : Pst) : Bool := o.roles.any (Str.is p.role) && !p.nations.any (Str.is o.nation)
theorem S44 (j : Jur) (h : j.ok) (a b : Nat) (o : Ofc) (p : Pst) (ho : j.ofs[a]? = some o) (hp : j.pts[b]? = some p) : fn P 44 [j.enc, ci a, ci b] = some (.bool (servesB o p)) := by
 obtain ⟨i1, ho⟩ := List.getElem?_eq_some_iff.1 ho
 obtain ⟨i2, hp⟩ := List.getElem?_eq_some_iff.1 hp
 obtain ⟨_, _, o3, _⟩ := h.o o (by rw [← ho]; exact List.getElem_mem i1)
 obtain ⟨_, _, p3, _⟩ := h.p p (by rw [← hp]; exact List.getElem_mem i2)
 have e1 := S58 (P := P) p.role o.roles o3
 have e2 := S58 (P := P) o.nation p.nations p3
 have ho : j.ofs[a] = o := ho
 have hp : j.pts[b] = p := hp
 rw [u44]
 unfold servesB
 cases h1 : o.roles.any (Str.is p.role) <;> rw [h1] at e1 <;> simp [c44, Jur.enc, Ofc.enc, Pst.enc, i1, i2, ho, hp, e1, e2]
theorem S111 (j : Jur) (h : j.ok) (a b : Nat) (o : Ofc) (p : Pst) (ho : j.ofs[a]? = some o) (hp : j.pts[b]? = some p) : fn P 111 [j.enc, ci a, ci b] = some (.bool (servesB o p)) := by
 obtain ⟨i1, ho⟩ := List.getElem?_eq_some_iff.1 ho
 obtain ⟨i2, hp⟩ := List.getElem?_eq_some_iff.1 hp
 obtain ⟨_, _, o3, _⟩ := h.o o (by rw [← ho]; exact List.getElem_mem i1)
 obtain ⟨_, _, p3, _⟩ := h.p p (by rw [← hp]; exact List.getElem_mem i2)
 have e1 := S139 (P := P) p.role o.roles o3
 have e2 := S139 (P := P) o.nation p.nations p3
 have ho : j.ofs[a] = o := ho
 have hp : j.pts[b] = p := hp
 rw [u111]
 unfold servesB
 cases h1 : o.roles.any (Str.is p.role) <;> rw [h1] at e1 <;> simp [c111, Jur.enc, Ofc.enc, Pst.enc, i1, i2, ho, hp, e1, e2]
def ofcE (j : Jur) (a : Int) : Int := whenE (outside a 0 ((j.ofs.length : Int) - 1)) 10
theorem S110 (j : Jur) (h : j.ok) (a : Int) : fn P 110 [j.enc, ci a] = some (ci (ofcE j a)) := by
 have hw : IntKind.i64.wrap ((j.ofs.length : Int) - 1) = (j.ofs.length : Int) - 1 := wrap64 (by omega) (by have := h.so; omega)
 rw [u110]
 simp [c110, Jur.enc, hw, ofcE]
def servesV (j : Jur) (a b : Int) : Bool :=
 match j.ofs[a.toNat]?, j.pts[b.toNat]? with
 | some o, some p => servesB o p
 | _, _ => false
set_option maxHeartbeats 2000000 in
theorem L39o (pv : CV) : ∀ (l pre : List Ofc) (g : Nat), g ≠ 0 → (pre ++ l).length * 64 ≤ 2 ^ 47 →
  execS P (limS P) c39_l0 ⟨[.ptr 0 0 0, .ptr 1 0 0, .ptr 2 0 0, .c (ci pre.length)], [.cells 0 [.c (.slice ((pre ++ l).map Ofc.enc)), .c pv] 0, .cells 0 [.nil, .nil] 0, .cells 0 [.slice 4 g 0 pre.length (some 4) none, .nil] 0, .dead, .cells g (cellsOf (pre.map Ofc.enc)) 0]⟩ =
   some (.exit 0, ⟨[.ptr 0 0 0, .ptr 1 0 0, .ptr 2 0 0], [.cells 0 [.c (.slice ((pre ++ l).map Ofc.enc)), .c pv] 0, .cells 0 [.nil, .nil] 0, .cells 0 [.slice 4 (g + l.length) 0 (pre ++ l).length (some 4) none, .nil] 0, .dead, .cells (g + l.length) (cellsOf ((pre ++ l).map Ofc.enc)) 0]⟩) := by
 intro l
 induction l with
 | nil =>
  intro pre g hg h
  rw [r39_l0]
  simp [c39_l0b]
 | cons c r ih =>
  intro pre g hg h
  have ih := ih (pre ++ [c]) (g + 1) (by omega) (by simpa using h)
  have ha := append_ownP (some 6) (b := 4) (g := g) (bytes := 64) (e := some 4) (ys := pre.map Ofc.enc) (xs := [c.enc]) (h := [.cells 0 [.c (.slice ((pre ++ c :: r).map Ofc.enc)), .c pv] 0, .cells 0 [.nil, .nil] 0, .cells 0 [.slice 4 g 0 pre.length (some 4) none, .nil] 0, .dead, .cells g (cellsOf (pre.map Ofc.enc)) 0, .dead, .dead]) (len := pre.length) (fz := 0) rfl (Ofc.elems _) (by simpa using c.elem) (by simp) (Nat.zero_le _) (by simp) (by simp at h ⊢; omega) (by simp at h ⊢; omega)
  simp at h
  have e1 : g + 1 + r.length = g + (r.length + 1) := by omega
  simp [Ofc.enc, e1] at ih ha
  have hw : IntKind.i64.wrap (↑pre.length + 1) = ↑pre.length + 1 := wrap64 (by omega) (by omega)
  have hlt : (pre.length : Int) < pre.length + (r.length + 1) := by omega
  rw [r39_l0]
  simp [c39_l0b, Ofc.enc, hg, hw, hlt, ha, ih]
set_option maxHeartbeats 2000000 in
theorem L39p (pv : CV) : ∀ (l pre : List Pst) (g : Nat), g ≠ 0 → (pre ++ l).length * 64 ≤ 2 ^ 47 →
  execS P (limS P) c39_l1 ⟨[.ptr 0 0 0, .ptr 1 0 0, .ptr 2 0 0, .c (ci pre.length)], [.cells 0 [.c pv, .c (.slice ((pre ++ l).map Pst.enc))] 0, .cells 0 [.nil, .nil] 0, .cells 0 [.nil, .slice 4 g 0 pre.length (some 4) none] 0, .dead, .cells g (cellsOf (pre.map Pst.enc)) 0]⟩ =
   some (.exit 2, ⟨[.ptr 1 0 0, .ptr 2 0 0], [.cells 0 [.c pv, .c (.slice ((pre ++ l).map Pst.enc))] 0, .cells 0 [.nil, .nil] 0, .cells 0 [.nil, .slice 4 (g + l.length) 0 (pre ++ l).length (some 4) none] 0, .dead, .cells (g + l.length) (cellsOf ((pre ++ l).map Pst.enc)) 0]⟩) := by
 intro l
 induction l with
 | nil =>
  intro pre g hg h
  rw [r39_l1]
  simp [c39_l1b]
 | cons c r ih =>
  intro pre g hg h
  have ih := ih (pre ++ [c]) (g + 1) (by omega) (by simpa using h)
  have ha := append_ownP (some 6) (b := 4) (g := g) (bytes := 64) (e := some 4) (ys := pre.map Pst.enc) (xs := [c.enc]) (h := [.cells 0 [.c pv, .c (.slice ((pre ++ c :: r).map Pst.enc))] 0, .cells 0 [.nil, .nil] 0, .cells 0 [.nil, .slice 4 g 0 pre.length (some 4) none] 0, .dead, .cells g (cellsOf (pre.map Pst.enc)) 0, .dead, .dead]) (len := pre.length) (fz := 0) rfl (Pst.elems _) (by simpa using c.elem) (by simp) (Nat.zero_le _) (by simp) (by simp at h ⊢; omega) (by simp at h ⊢; omega)
  simp at h
  have e1 : g + 1 + r.length = g + (r.length + 1) := by omega
  simp [Pst.enc, e1] at ih ha
  have hw : IntKind.i64.wrap (↑pre.length + 1) = ↑pre.length + 1 := wrap64 (by omega) (by omega)
  have hlt : (pre.length : Int) < pre.length + (r.length + 1) := by omega
  rw [r39_l1]
  simp [c39_l1b, Pst.enc, hg, hw, hlt, ha, ih]
set_option maxHeartbeats 2000000 in
theorem L39q (pv : CV) (go no : Nat) (O : List CV) : ∀ (l pre : List Pst) (g : Nat), g ≠ 0 → (pre ++ l).length * 64 ≤ 2 ^ 47 →
  execS P (limS P) c39_l1 ⟨[.ptr 0 0 0, .ptr 1 0 0, .ptr 2 0 0, .c (ci pre.length)], [.cells 0 [.c pv, .c (.slice ((pre ++ l).map Pst.enc))] 0, .cells 0 [.nil, .nil] 0, .cells 0 [.slice 4 go 0 no (some 4) none, .slice 6 g 0 pre.length (some 4) none] 0, .dead, .cells go (cellsOf O) 0, .dead, .cells g (cellsOf (pre.map Pst.enc)) 0]⟩ =
   some (.exit 2, ⟨[.ptr 1 0 0, .ptr 2 0 0], [.cells 0 [.c pv, .c (.slice ((pre ++ l).map Pst.enc))] 0, .cells 0 [.nil, .nil] 0, .cells 0 [.slice 4 go 0 no (some 4) none, .slice 6 (g + l.length) 0 (pre ++ l).length (some 4) none] 0, .dead, .cells go (cellsOf O) 0, .dead, .cells (g + l.length) (cellsOf ((pre ++ l).map Pst.enc)) 0]⟩) := by
 intro l
 induction l with
 | nil =>
  intro pre g hg h
  rw [r39_l1]
  simp [c39_l1b]
 | cons c r ih =>
  intro pre g hg h
  have ih := ih (pre ++ [c]) (g + 1) (by omega) (by simpa using h)
  have ha := append_ownP (some 8) (b := 6) (g := g) (bytes := 64) (e := some 4) (ys := pre.map Pst.enc) (xs := [c.enc]) (h := [.cells 0 [.c pv, .c (.slice ((pre ++ c :: r).map Pst.enc))] 0, .cells 0 [.nil, .nil] 0, .cells 0 [.slice 4 go 0 no (some 4) none, .slice 6 g 0 pre.length (some 4) none] 0, .dead, .cells go (cellsOf O) 0, .dead, .cells g (cellsOf (pre.map Pst.enc)) 0, .dead, .dead]) (len := pre.length) (fz := 0) rfl (Pst.elems _) (by simpa using c.elem) (by simp) (Nat.zero_le _) (by simp) (by simp at h ⊢; omega) (by simp at h ⊢; omega)
  simp at h
  have e1 : g + 1 + r.length = g + (r.length + 1) := by omega
  simp [Pst.enc, e1] at ih ha
  have hw : IntKind.i64.wrap (↑pre.length + 1) = ↑pre.length + 1 := wrap64 (by omega) (by omega)
  have hlt : (pre.length : Int) < pre.length + (r.length + 1) := by omega
  rw [r39_l1]
  simp [c39_l1b, Pst.enc, hg, hw, hlt, ha, ih]
theorem T39o_nil (pv : CV) :
  execS P (limS P) c39_l0 ⟨[.ptr 0 0 0, .ptr 1 0 0, .ptr 2 0 0, .c (ci 0)], [.cells 0 [.c (.slice []), .c pv] 0, .cells 0 [.nil, .nil] 0, .cells 0 [.nil, .nil] 0]⟩ = some (.exit 0, ⟨[.ptr 0 0 0, .ptr 1 0 0, .ptr 2 0 0], [.cells 0 [.c (.slice []), .c pv] 0, .cells 0 [.nil, .nil] 0, .cells 0 [.nil, .nil] 0]⟩) := by
 rw [r39_l0]
 simp [c39_l0b]
theorem T39o_cons (pv : CV) (c : Ofc) (r : List Ofc) (h : (c :: r).length * 64 ≤ 2 ^ 47) :
  execS P (limS P) c39_l0 ⟨[.ptr 0 0 0, .ptr 1 0 0, .ptr 2 0 0, .c (ci 0)], [.cells 0 [.c (.slice ((c :: r).map Ofc.enc)), .c pv] 0, .cells 0 [.nil, .nil] 0, .cells 0 [.nil, .nil] 0]⟩ = some (.exit 0, ⟨[.ptr 0 0 0, .ptr 1 0 0, .ptr 2 0 0], [.cells 0 [.c (.slice ((c :: r).map Ofc.enc)), .c pv] 0, .cells 0 [.nil, .nil] 0, .cells 0 [.slice 4 (1 + r.length) 0 (r.length + 1) (some 4) none, .nil] 0, .dead, .cells (1 + r.length) (cellsOf ((c :: r).map Ofc.enc)) 0]⟩) := by
 have hr := L39o (P := P) pv r [c] 1 (by omega) (by simpa using h)
 have ha : appendOp (some 4) (some 4) 64 .nil (.c (.slice [c.enc])) [.cells 0 [.c (.slice ((c :: r).map Ofc.enc)), .c pv] 0, .cells 0 [.nil, .nil] 0, .cells 0 [.nil, .nil] 0, .dead, .dead] = some (.slice 4 1 0 1 (some 4) none, [.cells 0 [.c (.slice ((c :: r).map Ofc.enc)), .c pv] 0, .cells 0 [.nil, .nil] 0, .cells 0 [.nil, .nil] 0, .dead, .cells 1 (cellsOf [c.enc]) 0]) := rfl
 simp [Ofc.enc] at hr ha
 have hw : IntKind.i64.wrap 1 = 1 := wrap64 (by omega) (by omega)
 have hlt : (0 : Int) < (r.length : Int) + 1 := by omega
 rw [r39_l0]
 simp [c39_l0b, Ofc.enc, hw, hlt, ha, hr]
theorem T39p_nil (pv : CV) :
  execS P (limS P) c39_l1 ⟨[.ptr 0 0 0, .ptr 1 0 0, .ptr 2 0 0, .c (ci 0)], [.cells 0 [.c pv, .c (.slice [])] 0, .cells 0 [.nil, .nil] 0, .cells 0 [.nil, .nil] 0]⟩ = some (.exit 2, ⟨[.ptr 1 0 0, .ptr 2 0 0], [.cells 0 [.c pv, .c (.slice [])] 0, .cells 0 [.nil, .nil] 0, .cells 0 [.nil, .nil] 0]⟩) := by
 rw [r39_l1]
 simp [c39_l1b]
theorem T39p_cons (pv : CV) (c : Pst) (r : List Pst) (h : (c :: r).length * 64 ≤ 2 ^ 47) :
  execS P (limS P) c39_l1 ⟨[.ptr 0 0 0, .ptr 1 0 0, .ptr 2 0 0, .c (ci 0)], [.cells 0 [.c pv, .c (.slice ((c :: r).map Pst.enc))] 0, .cells 0 [.nil, .nil] 0, .cells 0 [.nil, .nil] 0]⟩ = some (.exit 2, ⟨[.ptr 1 0 0, .ptr 2 0 0], [.cells 0 [.c pv, .c (.slice ((c :: r).map Pst.enc))] 0, .cells 0 [.nil, .nil] 0, .cells 0 [.nil, .slice 4 (1 + r.length) 0 (r.length + 1) (some 4) none] 0, .dead, .cells (1 + r.length) (cellsOf ((c :: r).map Pst.enc)) 0]⟩) := by
 have hr := L39p (P := P) pv r [c] 1 (by omega) (by simpa using h)
 have ha : appendOp (some 4) (some 4) 64 .nil (.c (.slice [c.enc])) [.cells 0 [.c pv, .c (.slice ((c :: r).map Pst.enc))] 0, .cells 0 [.nil, .nil] 0, .cells 0 [.nil, .nil] 0, .dead, .dead] = some (.slice 4 1 0 1 (some 4) none, [.cells 0 [.c pv, .c (.slice ((c :: r).map Pst.enc))] 0, .cells 0 [.nil, .nil] 0, .cells 0 [.nil, .nil] 0, .dead, .cells 1 (cellsOf [c.enc]) 0]) := rfl
 simp [Pst.enc] at hr ha
 have hw : IntKind.i64.wrap 1 = 1 := wrap64 (by omega) (by omega)
 have hlt : (0 : Int) < (r.length : Int) + 1 := by omega
 rw [r39_l1]
 simp [c39_l1b, Pst.enc, hw, hlt, ha, hr]
theorem T39q_nil (pv : CV) (go no : Nat) (O : List CV) :
  execS P (limS P) c39_l1 ⟨[.ptr 0 0 0, .ptr 1 0 0, .ptr 2 0 0, .c (ci 0)], [.cells 0 [.c pv, .c (.slice [])] 0, .cells 0 [.nil, .nil] 0, .cells 0 [.slice 4 go 0 no (some 4) none, .nil] 0, .dead, .cells go (cellsOf O) 0]⟩ = some (.exit 2, ⟨[.ptr 1 0 0, .ptr 2 0 0], [.cells 0 [.c pv, .c (.slice [])] 0, .cells 0 [.nil, .nil] 0, .cells 0 [.slice 4 go 0 no (some 4) none, .nil] 0, .dead, .cells go (cellsOf O) 0]⟩) := by
 rw [r39_l1]
 simp [c39_l1b]
theorem T39q_cons (pv : CV) (go no : Nat) (O : List CV) (c : Pst) (r : List Pst) (h : (c :: r).length * 64 ≤ 2 ^ 47) :
  execS P (limS P) c39_l1 ⟨[.ptr 0 0 0, .ptr 1 0 0, .ptr 2 0 0, .c (ci 0)], [.cells 0 [.c pv, .c (.slice ((c :: r).map Pst.enc))] 0, .cells 0 [.nil, .nil] 0, .cells 0 [.slice 4 go 0 no (some 4) none, .nil] 0, .dead, .cells go (cellsOf O) 0]⟩ = some (.exit 2, ⟨[.ptr 1 0 0, .ptr 2 0 0], [.cells 0 [.c pv, .c (.slice ((c :: r).map Pst.enc))] 0, .cells 0 [.nil, .nil] 0, .cells 0 [.slice 4 go 0 no (some 4) none, .slice 6 (1 + r.length) 0 (r.length + 1) (some 4) none] 0, .dead, .cells go (cellsOf O) 0, .dead, .cells (1 + r.length) (cellsOf ((c :: r).map Pst.enc)) 0]⟩) := by
 have hr := L39q (P := P) pv go no O r [c] 1 (by omega) (by simpa using h)
 have ha : appendOp (some 6) (some 4) 64 .nil (.c (.slice [c.enc])) [.cells 0 [.c pv, .c (.slice ((c :: r).map Pst.enc))] 0, .cells 0 [.nil, .nil] 0, .cells 0 [.slice 4 go 0 no (some 4) none, .nil] 0, .dead, .cells go (cellsOf O) 0, .dead, .dead] = some (.slice 6 1 0 1 (some 4) none, [.cells 0 [.c pv, .c (.slice ((c :: r).map Pst.enc))] 0, .cells 0 [.nil, .nil] 0, .cells 0 [.slice 4 go 0 no (some 4) none, .nil] 0, .dead, .cells go (cellsOf O) 0, .dead, .cells 1 (cellsOf [c.enc]) 0]) := rfl
 simp [Pst.enc] at hr ha
 have hw : IntKind.i64.wrap 1 = 1 := wrap64 (by omega) (by omega)
 have hlt : (0 : Int) < (r.length : Int) + 1 := by omega
 rw [r39_l1]
 simp [c39_l1b, Pst.enc, hw, hlt, ha, hr]
theorem resV_agg {a b : LV} {x y : CV} {h h1 h2 : Heap} (ha : frz 39 a h = some (x, h1)) (hb : frz 39 b h1 = some (y, h2)) : resV (some (.agg [a, b])) h = some (.agg [x, y]) := by
 unfold resV
 simp only [bnd_some, frz_agg, mapH_cons, mapH_nil, ha, hb]
theorem S39 (j : Jur) (h : j.ok) : fn P 39 [j.enc] = some j.enc := by
 have so := h.so
 have sp := h.sp
 rw [u39]
 cases ho : j.ofs with
 | nil =>
  have h1 := T39o_nil (P := P) (.slice (j.pts.map Pst.enc))
  cases hp : j.pts with
  | nil =>
   have h2 := T39p_nil (P := P) (.slice [])
   rw [hp] at h1
   simp at h1
   simp [c39, Jur.enc, ho, hp, h1, h2, resultV, resultsAll, resultOne, resV]
  | cons p r =>
   have h2 := T39p_cons (P := P) (.slice []) p r (by rw [← hp]; exact sp)
   rw [hp] at h1
   simp at h1 h2
   simp [c39, Jur.enc, ho, hp, h1, h2, resultV, resultsAll, resultOne]
   exact resV_agg rfl (frz_own39 (ys := (p :: r).map Pst.enc) rfl (Pst.elems _) (by simp) none)
 | cons o r' =>
  have h1 := T39o_cons (P := P) (.slice (j.pts.map Pst.enc)) o r' (by rw [← ho]; exact so)
  cases hp : j.pts with
  | nil =>
   have h2 := T39q_nil (P := P) (.slice ((o :: r').map Ofc.enc)) (1 + r'.length) (r'.length + 1) ((o :: r').map Ofc.enc)
   rw [hp] at h1
   simp at h1 h2
   simp [c39, Jur.enc, ho, hp, h1, h2, resultV, resultsAll, resultOne]
   exact resV_agg (frz_own39 (ys := (o :: r').map Ofc.enc) rfl (Ofc.elems _) (by simp) none) rfl
  | cons p r =>
   have h2 := T39q_cons (P := P) (.slice ((o :: r').map Ofc.enc)) (1 + r'.length) (r'.length + 1) ((o :: r').map Ofc.enc) p r (by rw [← hp]; exact sp)
   rw [hp] at h1
   simp at h1 h2
   simp [c39, Jur.enc, ho, hp, h1, h2, resultV, resultsAll, resultOne]
   exact resV_agg (frz_own39 (ys := (o :: r').map Ofc.enc) rfl (Ofc.elems _) (by simp) none) (frz_own39 (ys := (p :: r).map Pst.enc) rfl (Pst.elems _) (by simp) none)
def hourAt (j : Jur) (k : Nat) : Int := match j.pts[k]? with
 | some p => p.hour
 | none => 0
def clashF (j : Jur) (v h : Int) : Nat → List Int → Bool
 | _, [] => false
 | k, x :: r => (decide (x = v) && decide (hourAt j k = h)) || clashF j v h (k + 1) r
def countV (v : Int) (l : List Int) : Int := ((l.filter (fun x => decide (x = v))).length : Int)
theorem countV_cons (v x : Int) (l : List Int) : countV v (x :: l) = (if x = v then 1 else 0) + countV v l := by
 unfold countV
 rw [List.filter_cons]
 by_cases h : x = v
 ·simp [h]; omega
 ·simp [h]
theorem countV_nonneg (v : Int) (l : List Int) : 0 ≤ countV v l := by unfold countV; omega
theorem countV_le (v : Int) (l : List Int) : countV v l ≤ l.length := by unfold countV; have := List.length_filter_le (fun x => decide (x = v)) l; omega
def loadOf (j : Jur) (v : Int) : Int := match j.ofs[v.toNat]? with
 | some o => o.load
 | none => 0
def fitE (j : Jur) (pre : List Int) (v : Int) : Int :=
 if v < 0 then 0 else if clashF j v (hourAt j pre.length) 0 pre then 9 else if countV v pre + 1 > loadOf j v then 5 else 0
theorem hour_get {j : Jur} {k : Nat} (h : k < j.pts.length) : (j.pts[k]).hour = hourAt j k := by
 unfold hourAt
 rw [List.getElem?_eq_getElem h]
theorem L112n (j : Jur) (v : Int) (hv : v < 0) (A : List Int) (i : Nat) (hi : i < A.length) (hA : (A.length : Int) < 9223372036854775807) (hAi : A[i]? = some v) (B : List LB) (hB : B = [.cells 0 [.c (.slice (j.ofs.map Ofc.enc)), .c (.slice (j.pts.map Pst.enc))] 0]) : ∀ (m k : Nat), k + m = i + 1 →
  execS P (limS P) c112_l0 ⟨[.c (.slice (A.map ci)), .ptr 0 0 0, .c (ci i), .c (ci 0), .c (ci k)], B⟩ = some (.exit 0, ⟨[.c (.slice (A.map ci)), .ptr 0 0 0, .c (ci i), .c (ci 0)], B⟩) := by
 obtain ⟨_, hAi⟩ := List.getElem?_eq_some_iff.1 hAi
 subst hB
 intro m
 induction m with
 | zero =>
  intro k hk
  have h1 : ¬ (k : Int) ≤ i := by omega
  rw [r112_l0]
  simp [c112_l0b, h1]
 | succ m ih =>
  intro k hk
  have ih := ih (k + 1) (by omega)
  have h1 : (k : Int) ≤ i := by omega
  have hk' : k < A.length := by omega
  have hw : IntKind.i64.wrap (↑k + 1) = ↑k + 1 := wrap64 (by omega) (by omega)
  simp at ih
  rw [r112_l0]
  by_cases h2 : A[k] = v
  ·simp [c112_l0b, h1, hi, hk', hAi, h2, hv, hw, ih]
  ·simp [c112_l0b, h1, hi, hk', hAi, h2, hv, hw, ih]
theorem L112v (j : Jur) (v : Int) (hv : 0 ≤ v) (A : List Int) (i : Nat) (hi : i < A.length) (hA : (A.length : Int) < 9223372036854775807) (hAi : A[i]? = some v) (hip : i < j.pts.length) (B : List LB) (hB : B = [.cells 0 [.c (.slice (j.ofs.map Ofc.enc)), .c (.slice (j.pts.map Pst.enc))] 0]) : ∀ (l : List Int) (k : Nat) (n : Int), k + l.length = i → (∀ q c, l[q]? = some c → A[k + q]? = some c) → 0 ≤ n → n + l.length < 9223372036854775806 →
  execS P (limS P) c112_l0 ⟨[.c (.slice (A.map ci)), .ptr 0 0 0, .c (ci i), .c (ci n), .c (ci k)], B⟩ = if clashF j v (hourAt j i) k l then some (.ret, ⟨[.c (ci 9)], B⟩) else some (.exit 0, ⟨[.c (.slice (A.map ci)), .ptr 0 0 0, .c (ci i), .c (ci (n + countV v l + 1))], B⟩) := by
 obtain ⟨_, hAi⟩ := List.getElem?_eq_some_iff.1 hAi
 have hv' : ¬ v < 0 := by omega
 subst hB
 intro l
 induction l with
 | nil =>
  intro k n hk h hn hn2
  simp at hk
  subst hk
  have hw : IntKind.i64.wrap (↑k + 1) = ↑k + 1 := wrap64 (by omega) (by omega)
  have hw2 : IntKind.i64.wrap (n + 1) = n + 1 := wrap64 (by omega) (by simp at hn2; omega)
  have h1 : ¬ (k : Int) + 1 ≤ k := by omega
  have hlast : execS P (limS P) c112_l0 ⟨[.c (.slice (A.map ci)), .ptr 0 0 0, .c (ci k), .c (ci (n + 1)), .c (ci ((k : Int) + 1))], [.cells 0 [.c (.slice (j.ofs.map Ofc.enc)), .c (.slice (j.pts.map Pst.enc))] 0]⟩ = some (.exit 0, ⟨[.c (.slice (A.map ci)), .ptr 0 0 0, .c (ci k), .c (ci (n + 1))], [.cells 0 [.c (.slice (j.ofs.map Ofc.enc)), .c (.slice (j.pts.map Pst.enc))] 0]⟩) := by
   rw [r112_l0]
   simp [c112_l0b, h1]
  have hc0 : countV v [] = 0 := rfl
  rw [r112_l0]
  simp [c112_l0b, hi, hAi, hv', hw, hw2, clashF, hlast, hc0]
 | cons x r ih =>
  intro k n hk h hn hn2
  have hx : A[k]? = some x := h 0 x rfl
  have hk' : k < A.length := (List.getElem?_eq_some_iff.1 hx).1
  obtain ⟨_, hx⟩ := List.getElem?_eq_some_iff.1 hx
  simp at hk hn2
  have ih := fun n => ih (k + 1) n (by omega) (fun q c hq => by have := h (q + 1) c hq; rw [← this]; congr 1; omega)
  simp at ih
  have h1 : (k : Int) ≤ i := by omega
  have h1' : (k : Int) < i := by omega
  have hkp : k < j.pts.length := by omega
  have g1 : (j.pts[k]'hkp).hour = hourAt j k := hour_get hkp
  have g2 : (j.pts[i]'hip).hour = hourAt j i := hour_get hip
  have hw : IntKind.i64.wrap (↑k + 1) = ↑k + 1 := wrap64 (by omega) (by omega)
  have hw2 : IntKind.i64.wrap (n + 1) = n + 1 := wrap64 (by omega) (by omega)
  rw [clashF, countV_cons]
  rw [r112_l0]
  by_cases h2 : x = v
  ·by_cases h3 : hourAt j k = hourAt j i
   ·simp [c112_l0b, h1, h1', hi, hk', hAi, hx, h2, hv', hkp, hip, Pst.enc, g1, g2, h3]
   ·have ih := ih (n + 1) (by omega) (by omega)
    have e : n + (1 + countV v r) + 1 = n + 1 + countV v r + 1 := by omega
    simp [c112_l0b, h1, h1', hi, hk', hAi, hx, h2, hv', hkp, hip, Pst.enc, g1, g2, h3, hw, hw2, ih, e]
  ·have ih := ih n hn (by omega)
   simp [c112_l0b, h1, hi, hk', hAi, hx, h2, hw, ih]
theorem S112 (j : Jur) (h : j.ok) (pre : List Int) (v : Int) (hp : pre.length < j.pts.length) (hA : (pre.length : Int) < 9223372036854775) (hv : v < 0 ∨ (v.toNat < j.ofs.length)) : fn P 112 [j.enc, .slice ((pre ++ [v]).map ci)] = some (ci (fitE j pre v)) := by
 have hw : IntKind.i64.wrap ((pre.length : Int) + 1 - 1) = pre.length := by rw [Int.add_sub_cancel]; exact wrap64 (by omega) (by omega)
 have hw' : IntKind.i64.wrap (pre.length : Int) = pre.length := wrap64 (by omega) (by omega)
 rw [u112]
 by_cases h0 : v < 0
 ·have hl := L112n (P := P) j v h0 (pre ++ [v]) pre.length (by simp) (by simp; omega) (by simp) _ rfl (pre.length + 1) 0 (by omega)
  have e : fitE j pre v = 0 := by unfold fitE; rw [if_pos h0]
  have h0' : ¬ 0 ≤ v := by omega
  simp at hl
  simp [c112, Jur.enc, hw, hw', hl, e, h0']
 ·have hv2 : v.toNat < j.ofs.length := by omega
  have hl := L112v (P := P) j v (by omega) (pre ++ [v]) pre.length (by simp) (by simp; omega) (by simp) hp _ rfl pre 0 0 (by simp) (fun q c hq => by
   have hj' : q < pre.length := (List.getElem?_eq_some_iff.1 hq).1
   rw [Nat.zero_add, List.getElem?_append_left hj', hq]) (by omega) (by omega)
  have h0' : 0 ≤ v := by omega
  have hlt : v < j.ofs.length := by omega
  have hload : (j.ofs[v.toNat]'hv2).load = loadOf j v := by unfold loadOf; rw [List.getElem?_eq_getElem hv2]
  have e : fitE j pre v = if clashF j v (hourAt j pre.length) 0 pre then 9 else if loadOf j v < countV v pre + 1 then 5 else 0 := by unfold fitE; rw [if_neg h0]
  simp at hl
  rw [e]
  cases h1 : clashF j v (hourAt j pre.length) 0 pre <;> rw [h1] at hl
  ·by_cases h2 : loadOf j v < countV v pre + 1
   ·simp [c112, Jur.enc, hw, hw', hl, h0', hlt, hv2, Ofc.enc, hload, h2]
   ·simp [c112, Jur.enc, hw, hw', hl, h0', hlt, hv2, Ofc.enc, hload, h2]
  ·simp [c112, Jur.enc, hw, hw', hl]
def numE (j : Jur) (p : Nat) (v : Int) : Int := if outside v (-1) ((j.ofs.length : Int) - 1) then 10 else if decide (0 ≤ v) && !servesV j v p then 18 else 0
def JB (j : Jur) : LB := .cells 0 [.c (.slice (j.ofs.map Ofc.enc)), .c (.slice (j.pts.map Pst.enc))] 0
theorem servesV_eq {j : Jur} {v : Int} {p : Nat} (h0 : 0 ≤ v) (h1 : v < j.ofs.length) (h2 : p < j.pts.length) : ∃ (a : Nat) (o : Ofc) (q : Pst), v = a ∧ j.ofs[a]? = some o ∧ j.pts[p]? = some q ∧ servesV j v p = servesB o q := by
 refine ⟨v.toNat, j.ofs[v.toNat]'(by omega), j.pts[p]'h2, by omega, List.getElem?_eq_getElem _, List.getElem?_eq_getElem _, ?_⟩
 unfold servesV
 have e : ((p : Int)).toNat = p := rfl
 rw [e, List.getElem?_eq_getElem (by omega), List.getElem?_eq_getElem h2]
theorem L45_0 (j : Jur) (hj : j.ok) : ∀ (l pre : List Int), (pre ++ l).length = j.pts.length → ((pre ++ l).length : Int) < 9223372036854775 →
  execS P (limS P) c45_l0 ⟨[.c (.slice ((pre ++ l).map ci)), .ptr 0 0 0, .c (ci pre.length)], [JB j]⟩ = if eachE (fun pre v => numE j pre.length v) pre l = 0 then some (.exit 0, ⟨[.c (.slice ((pre ++ l).map ci)), .ptr 0 0 0], [JB j]⟩) else some (.ret, ⟨[.c (ci (eachE (fun pre v => numE j pre.length v) pre l))], [JB j]⟩) := by
 intro l
 induction l with
 | nil =>
  intro pre hp h
  rw [r45_l0]
  simp [c45_l0b, eachE, JB]
 | cons c r ih =>
  intro pre hp h
  have ih := ih (pre ++ [c]) (by simpa using hp) (by simpa using h)
  have so := hj.so
  have hpl : pre.length < j.pts.length := by rw [← hp]; simp
  simp at ih h hp
  have hw : IntKind.i64.wrap (↑pre.length + 1) = ↑pre.length + 1 := wrap64 (by omega) (by omega)
  have hw2 : IntKind.i64.wrap ((j.ofs.length : Int) - 1) = (j.ofs.length : Int) - 1 := wrap64 (by omega) (by omega)
  have hlt : (pre.length : Int) < pre.length + (r.length + 1) := by omega
  have e : numE j pre.length c = if outside c (-1) ((j.ofs.length : Int) - 1) then 10 else if decide (0 ≤ c) && !servesV j c pre.length then 18 else 0 := rfl
  rw [r45_l0]
  cases h1 : outside c (-1) ((j.ofs.length : Int) - 1)
  ·rw [h1] at e
   have q := h1
   unfold outside at q
   simp at q
   by_cases h2 : 0 ≤ c
   ·obtain ⟨a, o, p, ea, ho, hp', hs⟩ := servesV_eq h2 (by omega) hpl
    have e44 := S44 (P := P) j hj a pre.length o p ho hp'
    rw [← hs, ← ea] at e44
    simp [Jur.enc] at e44
    cases h3 : servesV j c pre.length
    ·rw [h3] at e44 e
     simp [h2] at e
     simp [c45_l0b, eachE, JB, hw, hw2, hlt, h1, h2, e44, e]
    ·rw [h3] at e44 e
     simp [h2] at e
     simp [JB] at ih
     simp [c45_l0b, eachE, JB, hw, hw2, hlt, h1, h2, e44, e, ih]
   ·simp [h2] at e
    simp [JB] at ih
    simp [c45_l0b, eachE, JB, hw, hw2, hlt, h1, h2, e, ih]
  ·rw [h1] at e
   simp at e
   simp [c45_l0b, eachE, JB, hw, hw2, hlt, h1, e]
theorem L45_1 (j : Jur) (hj : j.ok) : ∀ (l pre : List Int), (pre ++ l).length = j.pts.length → (∀ v ∈ l, v < 0 ∨ v.toNat < j.ofs.length) → ((pre ++ l).length : Int) < 9223372036854775 →
  execS P (limS P) c45_l1 ⟨[.c (.slice ((pre ++ l).map ci)), .ptr 0 0 0, .c (ci pre.length)], [JB j]⟩ = if eachE (fitE j) pre l = 0 then some (.exit 2, ⟨[], [JB j]⟩) else some (.ret, ⟨[.c (ci (eachE (fitE j) pre l))], [JB j]⟩) := by
 intro l
 induction l with
 | nil =>
  intro pre hp hv h
  rw [r45_l1]
  simp [c45_l1b, eachE, JB]
 | cons c r ih =>
  intro pre hp hv h
  have ih := ih (pre ++ [c]) (by simpa using hp) (fun v hv' => hv v (by simp [hv'])) (by simpa using h)
  have hpl : pre.length < j.pts.length := by rw [← hp]; simp
  have e := S112 (P := P) j hj pre c hpl (by simp at h; omega) (hv c (by simp))
  have ht : List.take (pre.length + 1) (List.map ci pre ++ ci c :: List.map ci r) = List.map ci pre ++ [ci c] := by
   rw [List.take_append]
   simp
   exact List.take_of_length_le (by simp)
  simp [Jur.enc] at e
  simp [JB] at ih
  simp at h
  have hw : IntKind.i64.wrap (↑pre.length + 1) = ↑pre.length + 1 := wrap64 (by omega) (by omega)
  have hlt : (pre.length : Int) < pre.length + (r.length + 1) := by omega
  have hz : szFits 1 (List.map ci pre ++ ci c :: List.map ci r) = true := by cases pre <;> rfl
  have hb : (pre.length : Int) + 1 ≤ pre.length + (r.length + 1) := by omega
  have hb2 : 0 ≤ (pre.length : Int) + 1 := by omega
  have hb3 : ((pre.length : Int) + 1).toNat = pre.length + 1 := by omega
  rw [r45_l1]
  by_cases h0 : fitE j pre c = 0
  ·rw [h0] at e
   simp [c45_l1b, eachE, JB, hw, hlt, hz, hb, hb2, hb3, ht, e, h0, ih]
  ·simp [c45_l1b, eachE, JB, hw, hlt, hz, hb, hb2, hb3, ht, e, h0]
def appE (j : Jur) (a : List Int) : Int := if a.length ≠ j.pts.length then 2 else if eachE (fun pre v => numE j pre.length v) [] a ≠ 0 then eachE (fun pre v => numE j pre.length v) [] a else eachE (fitE j) [] a
theorem num_range {j : Jur} : ∀ {l pre : List Int}, eachE (fun pre v => numE j pre.length v) pre l = 0 → ∀ v ∈ l, v = -1 ∨ (0 ≤ v ∧ v < j.ofs.length)
 | [], _, _ => by simp
 | c :: r, pre, h => by
  rw [eachE] at h
  split at h
  ·rename_i h1; exact absurd h h1
  ·rename_i h1
   intro v hv
   rcases List.mem_cons.1 hv with rfl | hv
   ·simp at h1
    unfold numE at h1
    split at h1
    ·cases h1
    ·rename_i hx
     unfold outside at hx
     simp at hx
     omega
   ·exact num_range h v hv
theorem S45 (j : Jur) (hj : j.ok) (a : List Int) (ha : (a.length : Int) < 9223372036854775) : fn P 45 [j.enc, .slice (a.map ci)] = some (ci (appE j a)) := by
 rw [u45]
 by_cases h0 : a.length = j.pts.length
 ·have l0 := L45_0 (P := P) j hj a [] (by simpa using h0) (by simpa using ha)
  simp [JB] at l0
  have e : appE j a = if eachE (fun pre v => numE j pre.length v) [] a ≠ 0 then eachE (fun pre v => numE j pre.length v) [] a else eachE (fitE j) [] a := by unfold appE; rw [if_neg (by simp [h0])]
  have h0' : (a.length : Int) = j.pts.length := by omega
  rw [e]
  by_cases h1 : eachE (fun pre v => numE j pre.length v) [] a = 0
  ·have l1 := L45_1 (P := P) j hj a [] (by simpa using h0) (fun v hv => by rcases num_range h1 v hv with h | h <;> omega) (by simpa using ha)
   simp [JB] at l1
   rw [if_pos h1] at l0
   by_cases h2 : eachE (fitE j) [] a = 0
   ·rw [if_pos h2] at l1
    simp [c45, Jur.enc, h0', l0, l1, h1, h2]
   ·rw [if_neg h2] at l1
    simp [c45, Jur.enc, h0', l0, l1, h1, h2]
  ·rw [if_neg h1] at l0
   simp [c45, Jur.enc, h0', l0, h1]
 ·have h0' : ¬ (a.length : Int) = j.pts.length := by omega
  have e : appE j a = 2 := by unfold appE; rw [if_pos h0]
  simp [c45, Jur.enc, h0', e]
theorem ofcE_num {j : Jur} {v : Int} (h : v ≠ -1) : ofcE j v = if outside v (-1) ((j.ofs.length : Int) - 1) then 10 else 0 := by
 unfold ofcE whenE outside
 by_cases h1 : v < 0 <;> by_cases h2 : v > (j.ofs.length : Int) - 1 <;> by_cases h3 : v < -1 <;> simp [h1, h2, h3] <;> omega
theorem L46_0 (j : Jur) (hj : j.ok) : ∀ (l pre : List Int), (pre ++ l).length = j.pts.length → ((pre ++ l).length : Int) < 9223372036854775 →
  execS P (limS P) c46_l0 ⟨[.c (.slice ((pre ++ l).map ci)), .ptr 0 0 0, .c (.slice ((pre ++ l).map ci)), .c (ci (pre ++ l).length), .c (ci pre.length)], [JB j, .dead]⟩ = if eachE (fun pre v => numE j pre.length v) pre l = 0 then some (.exit 0, ⟨[.c (.slice ((pre ++ l).map ci)), .ptr 0 0 0], [JB j, .dead]⟩) else some (.ret, ⟨[.c (ci (eachE (fun pre v => numE j pre.length v) pre l))], [JB j, .dead]⟩) := by
 intro l
 induction l with
 | nil =>
  intro pre hp h
  rw [r46_l0]
  simp [c46_l0b, eachE, JB]
 | cons c r ih =>
  intro pre hp h
  have ih := ih (pre ++ [c]) (by simpa using hp) (by simpa using h)
  have hpl : pre.length < j.pts.length := by rw [← hp]; simp
  have e110 := S110 (P := P) j hj c
  simp [Jur.enc] at e110
  simp at ih h hp
  simp [JB] at ih
  have hw : IntKind.i64.wrap (↑pre.length + 1) = ↑pre.length + 1 := wrap64 (by omega) (by omega)
  have hlt : (pre.length : Int) < pre.length + (r.length + 1) := by omega
  have e : numE j pre.length c = if outside c (-1) ((j.ofs.length : Int) - 1) then 10 else if decide (0 ≤ c) && !servesV j c pre.length then 18 else 0 := rfl
  rw [r46_l0]
  by_cases hm : c = -1
  ·have e0 : numE j pre.length c = 0 := by
    rw [e, hm]
    have : outside (-1) (-1) ((j.ofs.length : Int) - 1) = false := by unfold outside; simp; omega
    simp [this]
   simp [c46_l0b, eachE, JB, hw, hlt, hm]
   rw [hm] at ih e0
   simp [e0, ih]
  ·rw [ofcE_num hm] at e110
   cases h1 : outside c (-1) ((j.ofs.length : Int) - 1)
   ·rw [h1] at e e110
    have q := h1
    unfold outside at q
    simp at q
    have h2 : 0 ≤ c := by omega
    obtain ⟨a, o, p, ea, ho, hp', hs⟩ := servesV_eq h2 (by omega) hpl
    have e111 := S111 (P := P) j hj a pre.length o p ho hp'
    rw [← hs, ← ea] at e111
    simp [Jur.enc] at e111 e110
    cases h3 : servesV j c pre.length
    ·rw [h3] at e111 e
     simp [h2] at e
     simp [c46_l0b, eachE, JB, hw, hlt, hm, e110, e111, e]
    ·rw [h3] at e111 e
     simp [h2] at e
     simp [c46_l0b, eachE, JB, hw, hlt, hm, e110, e111, e, ih]
   ·rw [h1] at e e110
    simp at e e110
    simp [c46_l0b, eachE, JB, hw, hlt, hm, e110, e]
def hasC (n : Nat) (pre : List Int) : List LV := (List.range n).map fun (k : Nat) => .c (ci (countV (k : Int) pre))
theorem hasC_length (n : Nat) (pre : List Int) : (hasC n pre).length = n := by simp [hasC]
theorem hasC_get {n k : Nat} (pre : List Int) (h : k < n) : (hasC n pre)[k]? = some (.c (ci (countV k pre))) := by simp [hasC, h]
theorem hasC_getE {n k : Nat} (pre : List Int) (h : k < n) : (hasC n pre)[k]'(by rw [hasC_length]; exact h) = .c (ci (countV k pre)) := (List.getElem?_eq_some_iff.1 (hasC_get pre h)).2
theorem hasC_nil (n : Nat) : hasC n [] = List.replicate n (.c (ci 0)) := by
 unfold hasC
 apply List.ext_getElem
 ·simp
 ·intro i h1 h2
  simp [countV]
theorem hasC_set {n k : Nat} (pre : List Int) (h : k < n) : (hasC n pre).set k (.c (ci (countV k pre + 1))) = hasC n (pre ++ [(k : Int)]) := by
 unfold hasC
 apply List.ext_getElem
 ·simp
 ·intro i h1 h2
  simp only [List.getElem_set, List.getElem_map, List.getElem_range]
  have e : countV (i : Int) (pre ++ [(k : Int)]) = countV i pre + (if k = i then 1 else 0) := by
   unfold countV
   rw [List.filter_append, List.length_append]
   by_cases hk : k = i
   ·subst hk; simp
   ·have : ¬ ((k : Int) = i) := by omega
    simp [hk, this]
  rw [e]
  by_cases hk : k = i
  ·subst hk; simp
  ·simp [hk]
theorem hasC_skip (n : Nat) (pre : List Int) (v : Int) (h : v < 0) : hasC n (pre ++ [v]) = hasC n pre := by
 unfold hasC
 apply List.map_congr_left
 intro k _
 have e : countV (k : Int) (pre ++ [v]) = countV k pre := by
  unfold countV
  rw [List.filter_append, List.length_append]
  have : ¬ (v = (k : Int)) := by omega
  simp [this]
 rw [e]
theorem under_hasC (n m : Nat) (pre : List Int) : underL m (hasC n pre) = true := by
 have : hasC n pre = ((List.range n).map fun (k : Nat) => ci (countV (k : Int) pre)).map LV.c := by unfold hasC; rw [List.map_map]; rfl
 rw [this]
 exact underL_map_c m _
theorem L46_1 (j : Jur) (v : Int) (A : CV) (L : Int) (n p : Nat) (hp : p < j.pts.length) (C : List LV) (hC : underL 3 C = true) (R : List Int) (hR : (R.length : Int) < 9223372036854775) (hRp : R.length ≤ p) : ∀ (l : List Int) (k : Nat), k + l.length = R.length → (∀ q c, l[q]? = some c → R[k + q]? = some c) →
  execS P (limS P) c46_l1 ⟨[.c A, .ptr 0 0 0, .slice 2 1 0 n none (some n), .c (ci p), .c (ci v), .c A, .c (ci L), .c (ci p), .c (.slice (R.map ci)), .c (ci R.length), .c (ci k)], [JB j, .dead, .cells 1 C 0]⟩ = if clashF j v (hourAt j p) k l then some (.ret, ⟨[.c (ci 9)], [JB j, .dead, .cells 1 C 0]⟩) else some (.exit 4, ⟨[.c A, .ptr 0 0 0, .slice 2 1 0 n none (some n), .c (ci v), .c A, .c (ci L), .c (ci p)], [JB j, .dead, .cells 1 C 0]⟩) := by
 intro l
 induction l with
 | nil =>
  intro k hk h
  simp at hk
  subst hk
  rw [r46_l1]
  simp [c46_l1b, clashF]
 | cons x r ih =>
  intro k hk h
  have hx : R[k]? = some x := h 0 x rfl
  have hk' : k < R.length := (List.getElem?_eq_some_iff.1 hx).1
  obtain ⟨_, hx⟩ := List.getElem?_eq_some_iff.1 hx
  simp at hk
  have ih := ih (k + 1) (by omega) (fun q c hq => by have := h (q + 1) c hq; rw [← this]; congr 1; omega)
  simp [JB] at ih
  have h1 : (k : Int) < R.length := by omega
  have hkp : k < j.pts.length := by omega
  have g1 : (j.pts[k]'hkp).hour = hourAt j k := hour_get hkp
  have g2 : (j.pts[p]'hp).hour = hourAt j p := hour_get hp
  have hw : IntKind.i64.wrap (↑k + 1) = ↑k + 1 := wrap64 (by omega) (by omega)
  rw [clashF]
  rw [r46_l1]
  by_cases h2 : x = v
  ·by_cases h3 : hourAt j k = hourAt j p
   ·simp [c46_l1b, JB, h1, hk', hx, h2, hkp, hp, Pst.enc, g1, g2, h3, hC]
   ·simp [c46_l1b, JB, h1, hk', hx, h2, hkp, hp, Pst.enc, g1, g2, h3, hw, hC, ih]
  ·simp [c46_l1b, JB, h1, hk', hx, h2, hw, hC, ih]
theorem L46_2 (j : Jur) (hj : j.ok) : ∀ (l pre : List Int), (pre ++ l).length = j.pts.length → (∀ v ∈ l, v = -1 ∨ (0 ≤ v ∧ v < j.ofs.length)) → ((pre ++ l).length : Int) < 9223372036854775 →
  ∃ C, execS P (limS P) c46_l2 ⟨[.c (.slice ((pre ++ l).map ci)), .ptr 0 0 0, .slice 2 1 0 j.ofs.length none (some j.ofs.length), .c (.slice ((pre ++ l).map ci)), .c (ci (pre ++ l).length), .c (ci pre.length)], [JB j, .dead, .cells 1 (hasC j.ofs.length pre) 0]⟩ = if eachE (fitE j) pre l = 0 then some (.exit 2, ⟨[], [JB j, .dead, .cells 1 C 0]⟩) else some (.ret, ⟨[.c (ci (eachE (fitE j) pre l))], [JB j, .dead, .cells 1 C 0]⟩) := by
 intro l
 induction l with
 | nil =>
  intro pre hp hv h
  refine ⟨hasC j.ofs.length pre, ?_⟩
  rw [r46_l2]
  simp [c46_l2b, eachE, JB]
 | cons c r ih =>
  intro pre hp hv h
  obtain ⟨C, ih⟩ := ih (pre ++ [c]) (by simpa using hp) (fun v hv' => hv v (by simp [hv'])) (by simpa using h)
  have hpl : pre.length < j.pts.length := by rw [← hp]; simp
  have ht : List.take pre.length (List.map ci pre ++ ci c :: List.map ci r) = List.map ci pre := by simp
  simp [JB] at ih
  simp at h
  have hw : IntKind.i64.wrap (↑pre.length + 1) = ↑pre.length + 1 := wrap64 (by omega) (by omega)
  have hlt : (pre.length : Int) < pre.length + (r.length + 1) := by omega
  have hz : szFits 1 (List.map ci pre ++ ci c :: List.map ci r) = true := by cases pre <;> rfl
  have hb : (pre.length : Int) ≤ pre.length + (r.length + 1) := by omega
  rw [r46_l2]
  rcases hv c (by simp) with hc | ⟨hc0, hc1⟩
  ·have e : fitE j pre c = 0 := by unfold fitE; rw [if_pos (by omega)]
   rw [hasC_skip _ _ _ (by omega)] at ih
   refine ⟨C, ?_⟩
   have hneg : c < 0 := by omega
   simp [c46_l2b, eachE, JB, hw, hlt, hneg, e, under_hasC, ih]
  ·have hneg : ¬ c < 0 := by omega
   obtain ⟨k, rfl⟩ : ∃ k : Nat, c = (k : Int) := ⟨c.toNat, by omega⟩
   have hk : k < j.ofs.length := by omega
   have hin := L46_1 (P := P) j k (.slice ((pre ++ (k : Int) :: r).map ci)) (pre ++ (k : Int) :: r).length j.ofs.length pre.length hpl (hasC j.ofs.length pre) (under_hasC _ _ _) pre (by omega) (Nat.le_refl _) pre 0 (by simp) (fun q c hq => by rw [Nat.zero_add]; exact hq)
   simp [JB] at hin
   have hg := hasC_getE pre hk
   have hs := hasC_set pre hk
   have hk1 : k + 1 ≤ j.ofs.length := hk
   have hcl := countV_le k pre
   have hcn := countV_nonneg k pre
   have hw2 : IntKind.i64.wrap (countV k pre + 1) = countV k pre + 1 := wrap64 (by omega) (by omega)
   have hg2 := hasC_getE (pre ++ [(k : Int)]) hk
   have ec : countV (k : Int) (pre ++ [(k : Int)]) = countV k pre + 1 := by
    unfold countV
    rw [List.filter_append, List.length_append]
    simp
   rw [ec] at hg2
   have hload : (j.ofs[k]'hk).load = loadOf j k := by unfold loadOf; rw [show ((k : Int)).toNat = k from rfl, List.getElem?_eq_getElem hk]
   have e : fitE j pre k = if clashF j k (hourAt j pre.length) 0 pre then 9 else if loadOf j k < countV k pre + 1 then 5 else 0 := by unfold fitE; rw [if_neg hneg]
   cases h1 : clashF j k (hourAt j pre.length) 0 pre <;> rw [h1] at hin e
   ·by_cases h2 : loadOf j k < countV k pre + 1
    ·simp [h2] at e
     refine ⟨hasC j.ofs.length (pre ++ [(k : Int)]), ?_⟩
     simp [c46_l2b, eachE, JB, hw, hlt, hz, hb, ht, hneg, hin, hc1, hk, hk1, hg, hs, hw2, hg2, hasC_length, Ofc.enc, hload, h2, e]
    ·simp [h2] at e
     refine ⟨C, ?_⟩
     simp [c46_l2b, eachE, JB, hw, hlt, hz, hb, ht, hneg, hin, hc1, hk, hk1, hg, hs, hw2, hg2, hasC_length, Ofc.enc, hload, h2, e, under_hasC, ih]
   ·simp at e
    refine ⟨hasC j.ofs.length pre, ?_⟩
    simp [c46_l2b, eachE, JB, hw, hlt, hz, hb, ht, hneg, hin, e]
def appJ (j : Jur) (a : List Int) : Int := if checkJur j ≠ 0 then checkJur j else appE j a
theorem S46 (j : Jur) (hj : j.ok) (a : List Int) (ha : (a.length : Int) < 9223372036854775) : fn P 46 [j.enc, .slice (a.map ci)] = some (ci (appJ j a)) := by
 have e42 := S42 (P := P) j hj
 simp [Jur.enc] at e42
 have so := hj.so
 rw [u46]
 unfold appJ
 by_cases hc : checkJur j = 0
 ·rw [hc] at e42
  by_cases h0 : a.length = j.pts.length
  ·have l0 := L46_0 (P := P) j hj a [] (by simpa using h0) (by simpa using ha)
   simp [JB] at l0
   have h0' : (a.length : Int) = j.pts.length := by omega
   rw [h0'] at l0
   have e : appE j a = if eachE (fun pre v => numE j pre.length v) [] a ≠ 0 then eachE (fun pre v => numE j pre.length v) [] a else eachE (fitE j) [] a := by unfold appE; rw [if_neg (by simp [h0])]
   rw [e]
   by_cases h1 : eachE (fun pre v => numE j pre.length v) [] a = 0
   ·obtain ⟨C, l2⟩ := L46_2 (P := P) j hj a [] (by simpa using h0) (num_range h1) (by simpa using ha)
    rw [if_pos h1] at l0
    rw [hasC_nil] at l2
    simp [JB] at l2
    rw [h0'] at l2
    have q1 : (j.ofs.length : Int) * 8 ≤ 140737488355328 := by omega
    have q2 : (j.ofs.length : Int) ≤ 9223372036854775807 := by omega
    by_cases h2 : eachE (fitE j) [] a = 0
    ·rw [if_pos h2] at l2
     simp [c46, Jur.enc, h0', l0, e42, whenE, firstE, q1, q2, l2, h1, h2, hc]
    ·rw [if_neg h2] at l2
     simp [c46, Jur.enc, h0', l0, e42, whenE, firstE, q1, q2, l2, h1, h2, hc]
   ·rw [if_neg h1] at l0
    simp [c46, Jur.enc, h0', l0, e42, whenE, firstE, h1, hc]
  ·have h0' : ¬ (a.length : Int) = j.pts.length := by omega
   have e : appE j a = 2 := by unfold appE; rw [if_pos h0]
   simp [c46, Jur.enc, h0', e42, whenE, firstE, e, hc]
 ·simp [c46, Jur.enc, e42, firstE, hc]
def cI (xs : List Int) : List LV := xs.map fun v => LV.c (ci v)
theorem cellsOf_ints (xs : List Int) : cellsOf (xs.map ci) = cI xs := by
 induction xs with
 | nil => rfl
 | cons x r ih =>
  have : cellsOf ((x :: r).map ci) = .c (ci x) :: cellsOf (r.map ci) := rfl
  rw [this, ih]
  rfl
theorem intElems (l : List Int) : ∀ x ∈ l.map ci, Elem none x := by
 intro x hx
 obtain ⟨y, _, rfl⟩ := List.mem_map.1 hx
 exact ⟨rfl, rfl⟩
theorem under_cI (n : Nat) (xs : List Int) : underL n (cI xs) = true := by rw [← cellsOf_ints]; exact underL_cellsOf _ _
theorem shift_cI (n : Nat) : ∀ xs : List Int, shiftL n (cI xs) = cI xs
 | [] => rfl
 | x :: r => by
  have : cI (x :: r) = .c (ci x) :: cI r := rfl
  rw [this, shiftL, shift_cI n r]
  rfl
structure Pck where
 count : Int
 spare : Int
 key : Int
def Pck.enc (p : Pck) : CV := .agg [ci p.count, ci p.spare, ci p.key]
structure Clm where
 name : Str
 nation : Str
 born : Int
 cat : Str
def Clm.enc (x : Clm) : CV := .agg [.str x.name, .str x.nation, ci x.born, .str x.cat]
def Clm.ptr (x : Clm) : CV := .ptr [.str x.name, .str x.nation, ci x.born, .str x.cat] 0
def Clm.ok (x : Clm) : Prop := x.name.length < 9223372036854775807 ∧ x.nation.length < 9223372036854775807 ∧ x.cat.length < 9223372036854775807
def Clm.is (n : Str) (x : Clm) : Bool := x.name == n
structure Tst where
 name : Str
 day : Int
def Tst.enc (x : Tst) : CV := .agg [.str x.name, ci x.day]
def Tst.ptr (x : Tst) : CV := .ptr [.str x.name, ci x.day] 0
def Tst.ok (x : Tst) : Prop := x.name.length < 9223372036854775807
theorem Tst.elem (x : Tst) : Elem (some 2) x.enc := ⟨_, rfl, rfl, by simp⟩
theorem Tst.elems (l : List Tst) : ∀ x ∈ l.map Tst.enc, Elem (some 2) x := by
 intro x hx
 obtain ⟨y, _, rfl⟩ := List.mem_map.1 hx
 exact y.elem
def Tst.short (x : Tst) : Bool := decide (x.name.length ≤ 40)
theorem frzFuncs_nil (h : Heap) : frzFuncs [] h = some ([], h) := by rw [frzFuncs]
theorem frzFuncs_c (v : CV) (l : List LV) (h : Heap) : frzFuncs (.c v :: l) h = bnd (frzFuncs l h) fun a => some (.c v :: a.1, a.2) := by
 rw [frzFuncs]
 rcases frzFuncs l h with _ | ⟨x, y⟩ <;> rfl
 all_goals simp
theorem frzFuncs_slice (b g o n : Nat) (e c : Option Nat) (l : List LV) (h : Heap) : frzFuncs (.slice b g o n e c :: l) h = bnd (frzFuncs l h) fun a => some (.slice b g o n e c :: a.1, a.2) := by
 rw [frzFuncs]
 rcases frzFuncs l h with _ | ⟨x, y⟩ <;> rfl
 all_goals simp
variable {F : CV} {key : Str → Int} {H : Heap} {b g : Nat}
end LM.G9
namespace LM.G9
structure Jy where
 m : Nat
 n : Nat
 sv : Nat → Nat → Bool
 hr : Nat → Int
 ld : Nat → Int
structure Fs where
 pl : Nat → Option Nat
 has : Nat → Int
 tried : Nat → Bool
 slots : List (Nat × Int)
 offs : Nat → Bool
def up {α : Type} (f : Nat → α) (k : Nat) (v : α) : Nat → α := fun x => if x = k then v else f x
theorem up_same {α : Type} (f : Nat → α) (k : Nat) (v : α) : up f k v k = v := if_pos rfl
theorem up_ne {α : Type} {f : Nat → α} {k : Nat} {v : α} {x : Nat} (h : x ≠ k) : up f k v x = f x := if_neg h
def putS (l : List (Nat × Int)) (x : Nat × Int) : List (Nat × Int) := if x ∈ l then l else l ++ [x]
theorem putS_mem {l : List (Nat × Int)} {x y : Nat × Int} : y ∈ putS l x ↔ y ∈ l ∨ y = x := by
 unfold putS
 split
 ·rename_i h
  constructor
  ·exact .inl
  ·rintro (h1 | rfl)
   ·exact h1
   ·exact h
 ·simp
def holdF (J : Jy) (pl : Nat → Option Nat) (i : Nat) (h : Int) : Option Nat := (List.range J.m).find? fun p => decide (J.hr p = h) && decide (pl p = some i)
def freeL (J : Jy) (rec : Nat → Fs → Bool × Fs) (i : Nat) : List Nat → Fs → Bool × Fs
 | [], s => (false, s)
 | p :: ps, s => if s.pl p ≠ some i then freeL J rec i ps s else
   if (rec p { s with slots := putS s.slots (i, J.hr p) }).1 = true then (true, { (rec p { s with slots := putS s.slots (i, J.hr p) }).2 with has := up (rec p { s with slots := putS s.slots (i, J.hr p) }).2.has i ((rec p { s with slots := putS s.slots (i, J.hr p) }).2.has i - 1) })
   else freeL J rec i ps (rec p { s with slots := putS s.slots (i, J.hr p) }).2
def freeF (J : Jy) (rec : Nat → Fs → Bool × Fs) (i : Nat) (s : Fs) : Bool × Fs :=
 if s.has i < J.ld i then (true, s) else if s.offs i = true then (false, s) else freeL J rec i (List.range J.m) { s with offs := up s.offs i true }
def tryL (J : Jy) (rec : Nat → Fs → Bool × Fs) (p : Nat) : List Nat → Fs → Bool × Fs
 | [], s => (false, s)
 | i :: is, s => if J.sv i p = false ∨ (i, J.hr p) ∈ s.slots then tryL J rec p is s else
   match holdF J s.pl i (J.hr p) with
   | some o => if (rec o { s with slots := putS s.slots (i, J.hr p) }).1 = true then (true, { (rec o { s with slots := putS s.slots (i, J.hr p) }).2 with pl := up (rec o { s with slots := putS s.slots (i, J.hr p) }).2.pl p (some i) })
     else tryL J rec p is (rec o { s with slots := putS s.slots (i, J.hr p) }).2
   | none => if (freeF J rec i { s with slots := putS s.slots (i, J.hr p) }).1 = true then (true, { (freeF J rec i { s with slots := putS s.slots (i, J.hr p) }).2 with pl := up (freeF J rec i { s with slots := putS s.slots (i, J.hr p) }).2.pl p (some i), has := up (freeF J rec i { s with slots := putS s.slots (i, J.hr p) }).2.has i ((freeF J rec i { s with slots := putS s.slots (i, J.hr p) }).2.has i + 1) })
     else tryL J rec p is (freeF J rec i { s with slots := putS s.slots (i, J.hr p) }).2
def placeF (J : Jy) : Nat → Nat → Fs → Bool × Fs
 | 0, _, s => (false, s)
 | f + 1, p, s => if s.tried p = true then (false, s) else tryL J (placeF J f) p (List.range J.n) { s with tried := up s.tried p true }
def cntA (J : Jy) (B : Nat → Option Nat) (i : Nat) : Nat := (List.range J.m).countP fun p => decide (B p = some i)
def Apart (J : Jy) (B : Nat → Option Nat) : Prop := ∀ p q, p < J.m → q < J.m → p ≠ q → ∀ i, B p = some i → B q = some i → J.hr p ≠ J.hr q
def Fit (J : Jy) (B : Nat → Option Nat) : Prop := ∀ p, p < J.m → ∀ i, B p = some i → i < J.n ∧ J.sv i p = true
structure Inv (J : Jy) (s : Fs) : Prop where
 fit : Fit J s.pl
 apart : Apart J s.pl
 cnt : ∀ i, i < J.n → s.has i = (cntA J s.pl i : Int)
 ld : ∀ i, i < J.n → s.has i ≤ J.ld i
structure Vain (J : Jy) (s t : Fs) : Prop where
 pl : t.pl = s.pl
 has : t.has = s.has
 tried : ∀ p, s.tried p = true → t.tried p = true
 slots : ∀ x, x ∈ s.slots → x ∈ t.slots
 offs : ∀ i, s.offs i = true → t.offs i = true
 q : ∀ p, p < J.m → t.tried p = true → s.tried p = false → ∀ i, i < J.n → J.sv i p = true → (i, J.hr p) ∈ t.slots
 sl : ∀ i h, (i, h) ∈ t.slots → (i, h) ∉ s.slots → (∃ p, p < J.m ∧ t.pl p = some i ∧ J.hr p = h ∧ t.tried p = true) ∨ (t.offs i = true ∧ J.ld i ≤ t.has i)
 of : ∀ i, t.offs i = true → s.offs i = false → J.ld i ≤ t.has i ∧ ∀ p, p < J.m → t.pl p = some i → t.tried p = true
theorem Vain.rfl' {J : Jy} (s : Fs) : Vain J s s :=
 ⟨rfl, rfl, fun _ h => h, fun _ h => h, fun _ h => h, fun p _ h1 h2 => absurd (h1.symm.trans h2) (by decide), fun i h h1 h2 => absurd h1 h2, fun i h1 h2 => absurd (h1.symm.trans h2) (by decide)⟩
theorem Vain.trans {J : Jy} {s t u : Fs} (h1 : Vain J s t) (h2 : Vain J t u) : Vain J s u := by
 refine ⟨h2.pl.trans h1.pl, h2.has.trans h1.has, fun p h => h2.tried p (h1.tried p h), fun x h => h2.slots x (h1.slots x h), fun i h => h2.offs i (h1.offs i h), ?_, ?_, ?_⟩
 ·intro p hp hu hs i hi hv
  cases ht : t.tried p
  ·exact h2.q p hp hu ht i hi hv
  ·exact h2.slots _ (h1.q p hp ht hs i hi hv)
 ·intro i h hu hs
  by_cases ht : (i, h) ∈ t.slots
  ·rcases h1.sl i h ht hs with ⟨p, hp, e1, e2, e3⟩ | ⟨e1, e2⟩
   ·exact .inl ⟨p, hp, by rw [h2.pl]; exact e1, e2, h2.tried p e3⟩
   ·exact .inr ⟨h2.offs i e1, by rw [h2.has]; exact e2⟩
  ·exact h2.sl i h hu ht
 ·intro i hu hs
  cases ht : t.offs i
  ·exact h2.of i hu ht
  ·obtain ⟨e1, e2⟩ := h1.of i ht hs
   exact ⟨by rw [h2.has]; exact e1, fun p hp e => h2.tried p (e2 p hp (by rw [← h2.pl]; exact e))⟩
structure Found (J : Jy) (s t : Fs) : Prop where
 fit : ∀ p, p < J.m → t.pl p ≠ s.pl p → ∃ i, t.pl p = some i ∧ i < J.n ∧ J.sv i p = true ∧ (i, J.hr p) ∉ s.slots
 apart : Apart J t.pl
 ld : ∀ i, i < J.n → t.has i ≤ J.ld i
 keep : ∀ p, p < J.m → s.pl p ≠ none → t.pl p ≠ none
structure Placed (J : Jy) (q : Nat) (s t : Fs) : Prop extends Found J s t where
 old : ∀ p, p ≠ q → s.tried p = true → t.pl p = s.pl p
 zero : ∀ p, p ≠ q → s.pl p = none → t.pl p = none
 new : ∃ i, t.pl q = some i ∧ i < J.n ∧ J.sv i q = true ∧ (i, J.hr q) ∉ s.slots
 cnt : ∀ i, i < J.n → t.has i = (cntA J t.pl i : Int) + if s.pl q = some i then 1 else 0
structure Freed (J : Jy) (i : Nat) (s t : Fs) : Prop extends Found J s t where
 old : ∀ p, s.tried p = true → t.pl p = s.pl p
 zero : ∀ p, s.pl p = none → t.pl p = none
 cnt : ∀ k, k < J.n → t.has k = (cntA J t.pl k : Int)
 room : t.has i < J.ld i
def untried (J : Jy) (s : Fs) : Nat := (List.range J.m).countP fun p => !s.tried p
def Own (J : Jy) (s : Fs) (p : Nat) : Prop := ∀ i, s.pl p = some i → (i, J.hr p) ∈ s.slots
def GoodR (J : Jy) (rec : Nat → Fs → Bool × Fs) (k : Nat) : Prop := ∀ p s, p < J.m → Inv J s → Own J s p → untried J s ≤ k →
 ((rec p s).1 = false → Vain J s (rec p s).2 ∧ (rec p s).2.tried p = true) ∧ ((rec p s).1 = true → s.tried p = false ∧ Placed J p s (rec p s).2)
theorem cnt_up {J : Jy} {B : Nat → Option Nat} {p : Nat} (hp : p < J.m) (i j : Nat) : (cntA J (up B p (some i)) j : Int) = cntA J B j - (if B p = some j then 1 else 0) + (if i = j then 1 else 0) := by
 have key : ∀ l : List Nat, l.Nodup → ((l.countP fun q => decide (up B p (some i) q = some j) : Nat) : Int) = (l.countP fun q => decide (B q = some j) : Nat) + if p ∈ l then (if i = j then 1 else 0) - (if B p = some j then 1 else 0) else 0 := by
  intro l
  induction l with
  | nil => intro _; simp
  | cons a l ih =>
   intro hd
   rw [List.nodup_cons] at hd
   have ih := ih hd.2
   rw [List.countP_cons, List.countP_cons]
   by_cases ha : a = p
   ·subst ha
    rw [if_neg hd.1] at ih
    rw [up_same]
    simp only [List.mem_cons, true_or, if_true]
    by_cases h1 : i = j <;> by_cases h2 : B a = some j <;> simp [h1, h2] at * <;> omega
   ·rw [up_ne ha]
    have : (p ∈ a :: l) ↔ p ∈ l := by simp [Ne.symm ha]
    simp only [this]
    by_cases h2 : B a = some j <;> simp [h2] <;> omega
 have := key (List.range J.m) List.nodup_range
 rw [if_pos (List.mem_range.2 hp)] at this
 unfold cntA
 omega
theorem hold_some {J : Jy} {pl : Nat → Option Nat} {i : Nat} {h : Int} {o : Nat} (e : holdF J pl i h = some o) : o < J.m ∧ J.hr o = h ∧ pl o = some i := by
 unfold holdF at e
 have h1 := List.mem_of_find?_eq_some e
 have h2 := List.find?_some e
 simp at h1 h2
 exact ⟨h1, h2.1, h2.2⟩
theorem hold_none {J : Jy} {pl : Nat → Option Nat} {i : Nat} {h : Int} (e : holdF J pl i h = none) : ∀ p, p < J.m → J.hr p = h → pl p ≠ some i := by
 unfold holdF at e
 rw [List.find?_eq_none] at e
 intro p hp h1 h2
 exact e p (List.mem_range.2 hp) (by simp [h1, h2])
end LM.G9
namespace LM.G9
variable {J : Jy} {rec : Nat → Fs → Bool × Fs} {k : Nat}
theorem Inv.same {s t : Fs} (h : Inv J s) (h1 : t.pl = s.pl) (h2 : t.has = s.has) : Inv J t := by
 refine ⟨?_, ?_, ?_, ?_⟩
 ·rw [h1]; exact h.fit
 ·rw [h1]; exact h.apart
 ·rw [h1, h2]; exact h.cnt
 ·rw [h2]; exact h.ld
theorem untried_le {s t : Fs} (h : ∀ p, s.tried p = true → t.tried p = true) : untried J t ≤ untried J s := by
 refine List.countP_mono_left fun p _ hp => ?_
 cases hs : s.tried p
 ·rfl
 ·rw [h p hs] at hp; cases hp
theorem untried_up {s : Fs} {p : Nat} (hp : p < J.m) (hs : s.tried p = false) : untried J { s with tried := up s.tried p true } + 1 = untried J s := by
 have key : ∀ l : List Nat, l.Nodup → (l.countP fun q => !up s.tried p true q) + (if p ∈ l then 1 else 0) = l.countP fun q => !s.tried q := by
  intro l
  induction l with
  | nil => intro _; rfl
  | cons a l ih =>
   intro hd
   rw [List.nodup_cons] at hd
   have ih := ih hd.2
   rw [List.countP_cons, List.countP_cons]
   by_cases ha : a = p
   ·subst ha
    rw [if_neg hd.1] at ih
    rw [up_same, hs]
    simp
    omega
   ·rw [up_ne ha]
    have : (p ∈ a :: l) ↔ p ∈ l := by simp [Ne.symm ha]
    simp only [this]
    omega
 have := key (List.range J.m) List.nodup_range
 rw [if_pos (List.mem_range.2 hp)] at this
 exact this
theorem Vain.add {s t : Fs} {i : Nat} {h : Int} (hv : Vain J { s with slots := putS s.slots (i, h) } t) (hc : (∃ p, p < J.m ∧ t.pl p = some i ∧ J.hr p = h ∧ t.tried p = true) ∨ (t.offs i = true ∧ J.ld i ≤ t.has i)) : Vain J s t := by
 refine ⟨hv.pl, hv.has, hv.tried, fun x hx => hv.slots x (putS_mem.2 (.inl hx)), hv.offs, hv.q, ?_, hv.of⟩
 intro i' h' ht hs
 by_cases e : (i', h') = (i, h)
 ·cases e
  exact hc
 ·exact hv.sl i' h' ht (fun hm => (putS_mem.1 hm).elim hs e)
theorem freeL_good (hrec : GoodR J rec k) {i : Nat} (hi : i < J.n) : ∀ (ps : List Nat) (s : Fs), (∀ p ∈ ps, p < J.m) → Inv J s → untried J s ≤ k → J.ld i ≤ s.has i → s.offs i = true →
  ((freeL J rec i ps s).1 = false → Vain J s (freeL J rec i ps s).2 ∧ ∀ p ∈ ps, s.pl p = some i → (freeL J rec i ps s).2.tried p = true) ∧ ((freeL J rec i ps s).1 = true → Freed J i s (freeL J rec i ps s).2) := by
 intro ps
 induction ps with
 | nil => intro s _ _ _ _ _; exact ⟨fun _ => ⟨Vain.rfl' s, fun p hp => by cases hp⟩, fun h => by cases h⟩
 | cons p ps ih =>
  intro s hps hI hk hld ho
  rw [freeL]
  by_cases hp : s.pl p ≠ some i
  ·rw [if_pos hp]
   obtain ⟨h1, h2⟩ := ih s (fun q hq => hps q (by simp [hq])) hI hk hld ho
   refine ⟨fun h => ⟨(h1 h).1, fun q hq e => ?_⟩, h2⟩
   rcases List.mem_cons.1 hq with rfl | hq
   ·exact absurd e hp
   ·exact (h1 h).2 q hq e
  ·rw [if_neg hp]
   have hp : s.pl p = some i := Classical.not_not.1 hp
   have hpm := hps p (by simp)
   obtain ⟨g1, g2⟩ := hrec p { s with slots := putS s.slots (i, J.hr p) } hpm (hI.same rfl rfl) (fun j hj => putS_mem.2 (.inr (by have : some i = some j := hp.symm.trans hj; cases this; rfl))) hk
   generalize rec p { s with slots := putS s.slots (i, J.hr p) } = r at *
   cases hr : r.1
   ·rw [if_neg (by simp)]
    obtain ⟨v1, v2⟩ := g1 hr
    have v3 := v1.add (.inl ⟨p, hpm, by rw [v1.pl]; exact hp, rfl, v2⟩)
    obtain ⟨h1, h2⟩ := ih r.2 (fun q hq => hps q (by simp [hq])) (hI.same v1.pl v1.has) (Nat.le_trans (untried_le v3.tried) hk) (by rw [v1.has]; exact hld) (v1.offs i ho)
    constructor
    ·intro h
     obtain ⟨w1, w2⟩ := h1 h
     refine ⟨v3.trans w1, fun q hq e => ?_⟩
     rcases List.mem_cons.1 hq with rfl | hq
     ·exact w1.tried q v2
     ·exact w2 q hq (by rw [v1.pl]; exact e)
    ·intro h
     have w := h2 h
     refine ⟨⟨?_, w.apart, w.ld, ?_⟩, ?_, fun q hq => w.zero q (by rw [v1.pl]; exact hq), w.cnt, w.room⟩
     ·intro q hq hne
      obtain ⟨j, a1, a2, a3, a4⟩ := w.fit q hq (by rw [v1.pl]; exact hne)
      exact ⟨j, a1, a2, a3, fun hm => a4 (v3.slots _ hm)⟩
     ·intro q hq hne
      exact w.keep q hq (by rw [v1.pl]; exact hne)
     ·intro q hq
      rw [w.old q (v3.tried q hq), v1.pl]
   ·rw [if_pos rfl]
    obtain ⟨u, w⟩ := g2 hr
    refine ⟨fun h => (nomatch h), fun _ => ?_⟩
    refine ⟨⟨?_, w.apart, ?_, w.keep⟩, ?_, fun q hq => w.zero q (fun e => by subst e; have := hp.symm.trans hq; cases this) hq, ?_, ?_⟩
    ·intro q hq hne
     obtain ⟨j, a1, a2, a3, a4⟩ := w.fit q hq hne
     exact ⟨j, a1, a2, a3, fun hm => a4 (putS_mem.2 (.inl hm))⟩
    ·intro j hj
     have := w.ld j hj
     simp only [up]
     split
     ·rename_i e; subst e; omega
     ·exact this
    ·intro q hq
     refine w.old q ?_ hq
     rintro rfl
     have u : s.tried q = false := u
     rw [u] at hq
     cases hq
    ·intro j hj
     have := w.cnt j hj
     simp only [hp] at this
     simp only [up]
     split
     ·rename_i e; subst e; simp at this; omega
     ·rename_i e
      rw [if_neg (fun h => e (by cases h; rfl))] at this
      omega
    ·have := w.ld i hi
     simp only [up_same]
     omega
theorem freeF_good (hrec : GoodR J rec k) {i : Nat} (hi : i < J.n) (s : Fs) (hI : Inv J s) (hk : untried J s ≤ k) :
  ((freeF J rec i s).1 = false → Vain J s (freeF J rec i s).2 ∧ (freeF J rec i s).2.offs i = true ∧ J.ld i ≤ (freeF J rec i s).2.has i) ∧ ((freeF J rec i s).1 = true → Freed J i s (freeF J rec i s).2) := by
 unfold freeF
 by_cases h1 : s.has i < J.ld i
 ·rw [if_pos h1]
  refine ⟨fun h => (nomatch h), fun _ => ⟨⟨fun p _ hne => absurd rfl hne, hI.apart, hI.ld, fun p _ h => h⟩, fun p _ => rfl, fun p h => h, hI.cnt, h1⟩⟩
 ·rw [if_neg h1]
  by_cases h2 : s.offs i = true
  ·rw [if_pos h2]
   exact ⟨fun _ => ⟨Vain.rfl' s, h2, Int.not_lt.1 h1⟩, fun h => by cases h⟩
  ·rw [if_neg h2]
   obtain ⟨g1, g2⟩ := freeL_good hrec hi (List.range J.m) { s with offs := up s.offs i true } (fun p hp => List.mem_range.1 hp) (hI.same rfl rfl) hk (Int.not_lt.1 h1) (up_same _ _ _)
   generalize freeL J rec i (List.range J.m) { s with offs := up s.offs i true } = r at *
   constructor
   ·intro h
    obtain ⟨v, w⟩ := g1 h
    have ho : r.2.offs i = true := v.offs i (up_same _ _ _)
    have hl : J.ld i ≤ r.2.has i := by rw [v.has]; exact Int.not_lt.1 h1
    refine ⟨⟨v.pl, v.has, v.tried, v.slots, fun j hj => v.offs j ?_, v.q, v.sl, ?_⟩, ho, hl⟩
    ·simp only [up]; split
     ·rfl
     ·exact hj
    ·intro j hj hs
     by_cases e : j = i
     ·subst e
      exact ⟨hl, fun p hp e => w p (List.mem_range.2 hp) (by rw [v.pl] at e; exact e)⟩
     ·exact v.of j hj (by simp only [up_ne e]; exact hs)
   ·intro h
    have w := g2 h
    exact ⟨⟨w.fit, w.apart, w.ld, w.keep⟩, w.old, w.zero, w.cnt, w.room⟩
theorem tryL_good (hrec : GoodR J rec k) {p : Nat} (hp : p < J.m) : ∀ (is : List Nat) (s : Fs), (∀ i ∈ is, i < J.n) → Inv J s → Own J s p → s.tried p = true → untried J s ≤ k →
  ((tryL J rec p is s).1 = false → Vain J s (tryL J rec p is s).2 ∧ ∀ i ∈ is, J.sv i p = true → (i, J.hr p) ∈ (tryL J rec p is s).2.slots) ∧ ((tryL J rec p is s).1 = true → Placed J p s (tryL J rec p is s).2) := by
 intro is
 induction is with
 | nil => intro s _ _ _ _ _; exact ⟨fun _ => ⟨Vain.rfl' s, fun p hp => by cases hp⟩, fun h => by cases h⟩
 | cons i is ih =>
  intro s his hI hO ht hk
  have hi := his i (by simp)
  rw [tryL]
  by_cases hc : J.sv i p = false ∨ (i, J.hr p) ∈ s.slots
  ·rw [if_pos hc]
   obtain ⟨h1, h2⟩ := ih s (fun q hq => his q (by simp [hq])) hI hO ht hk
   refine ⟨fun h => ⟨(h1 h).1, fun j hj e => ?_⟩, h2⟩
   rcases List.mem_cons.1 hj with rfl | hj
   ·rcases hc with hc | hc
    ·rw [hc] at e; cases e
    ·exact (h1 h).1.slots _ hc
   ·exact (h1 h).2 j hj e
  ·rw [if_neg hc]
   obtain ⟨hsv, hsl⟩ := not_or.1 hc
   have hsv : J.sv i p = true := by simpa using hsv
   have hpi : s.pl p ≠ some i := fun e => hsl (hO i e)
   -- after a search in vain
   have vain : ∀ t : Fs, Vain J s t → (i, J.hr p) ∈ t.slots → ((tryL J rec p is t).1 = false → Vain J s (tryL J rec p is t).2 ∧ ∀ j ∈ i :: is, J.sv j p = true → (j, J.hr p) ∈ (tryL J rec p is t).2.slots) ∧ ((tryL J rec p is t).1 = true → Placed J p s (tryL J rec p is t).2) := by
    intro t v hm
    obtain ⟨h1, h2⟩ := ih t (fun q hq => his q (by simp [hq])) (hI.same v.pl v.has) (fun j hj => v.slots _ (hO j (by rw [← v.pl]; exact hj))) (v.tried p ht) (Nat.le_trans (untried_le v.tried) hk)
    constructor
    ·intro h
     obtain ⟨w1, w2⟩ := h1 h
     refine ⟨v.trans w1, fun j hj e => ?_⟩
     rcases List.mem_cons.1 hj with rfl | hj
     ·exact w1.slots _ hm
     ·exact w2 j hj e
    ·intro h
     have w := h2 h
     refine ⟨⟨?_, w.apart, w.ld, ?_⟩, ?_, fun q hq h0 => w.zero q hq (by rw [v.pl]; exact h0), ?_, ?_⟩
     ·intro q hq hne
      obtain ⟨j, a1, a2, a3, a4⟩ := w.fit q hq (by rw [v.pl]; exact hne)
      exact ⟨j, a1, a2, a3, fun hm => a4 (v.slots _ hm)⟩
     ·intro q hq hne
      exact w.keep q hq (by rw [v.pl]; exact hne)
     ·intro q hq htq
      rw [w.old q hq (v.tried q htq), v.pl]
     ·obtain ⟨j, a1, a2, a3, a4⟩ := w.new
      exact ⟨j, a1, a2, a3, fun hm => a4 (v.slots _ hm)⟩
     ·intro j hj
      have := w.cnt j hj
      rw [v.pl] at this
      exact this
   split
   ·rename_i o ho
    obtain ⟨o1, o2, o3⟩ := hold_some ho
    have hop : o ≠ p := by
     rintro rfl
     exact hpi o3
    obtain ⟨g1, g2⟩ := hrec o { s with slots := putS s.slots (i, J.hr p) } o1 (hI.same rfl rfl) (fun j hj => putS_mem.2 (.inr (by have : some i = some j := o3.symm.trans hj; cases this; rw [o2]))) hk
    generalize rec o { s with slots := putS s.slots (i, J.hr p) } = r at *
    cases hr : r.1
    ·rw [if_neg (by simp)]
     obtain ⟨v1, v2⟩ := g1 hr
     exact vain r.2 (v1.add (.inl ⟨o, o1, by rw [v1.pl]; exact o3, o2, v2⟩)) (v1.slots _ (putS_mem.2 (.inr rfl)))
    ·rw [if_pos rfl]
     obtain ⟨u, w⟩ := g2 hr
     refine ⟨fun h => (nomatch h), fun _ => ?_⟩
     have hpp : r.2.pl p = s.pl p := w.old p (Ne.symm hop) ht
     have hno : ∀ q, q < J.m → q ≠ p → r.2.pl q = some i → J.hr q ≠ J.hr p := by
      intro q hq hqp e eh
      by_cases hc2 : r.2.pl q = s.pl q
      ·have hqo : q = o := by
        apply Classical.byContradiction
        intro hne
        exact hI.apart q o hq o1 hne i (by rw [← hc2]; exact e) o3 (by rw [eh, o2])
       subst hqo
       obtain ⟨j, a1, _, _, a4⟩ := w.new
       rw [e] at a1
       cases a1
       exact a4 (putS_mem.2 (.inr (by rw [o2])))
      ·obtain ⟨j, a1, _, _, a4⟩ := w.fit q hq hc2
       rw [e] at a1
       cases a1
       exact a4 (putS_mem.2 (.inr (by rw [eh])))
     refine ⟨⟨?_, ?_, w.ld, ?_⟩, ?_, fun q hq h0 => by simp only [up_ne hq]; exact w.zero q (fun e => by subst e; have := o3.symm.trans h0; cases this) h0, ?_, ?_⟩
     ·intro q hq hne
      by_cases e : q = p
      ·subst e
       exact ⟨i, up_same _ _ _, hi, hsv, hsl⟩
      ·simp only [up_ne e] at hne ⊢
       obtain ⟨j, a1, a2, a3, a4⟩ := w.fit q hq hne
       exact ⟨j, a1, a2, a3, fun hm => a4 (putS_mem.2 (.inl hm))⟩
     ·intro q1 q2 h1 h2 hne j e1 e2
      simp only [up] at e1 e2
      by_cases c1 : q1 = p
      ·rw [if_pos c1] at e1
       have c2 : q2 ≠ p := fun e => hne (c1.trans e.symm)
       rw [if_neg c2] at e2
       cases e1
       rw [c1]
       exact fun e => hno q2 h2 c2 e2 e.symm
      ·rw [if_neg c1] at e1
       by_cases c2 : q2 = p
       ·rw [if_pos c2] at e2
        cases e2
        rw [c2]
        exact hno q1 h1 c1 e1
       ·rw [if_neg c2] at e2
        exact w.apart q1 q2 h1 h2 hne j e1 e2
     ·intro q hq hne
      simp only [up]
      split
      ·simp
      ·exact w.keep q hq hne
     ·intro q hq htq
      simp only [up_ne hq]
      by_cases e : q = o
      ·subst e
       have u : s.tried q = false := u
       rw [u] at htq
       cases htq
      ·exact w.old q e htq
     ·exact ⟨i, up_same _ _ _, hi, hsv, hsl⟩
     ·intro j hj
      have a := w.cnt j hj
      have b := cnt_up (J := J) (B := r.2.pl) hp i j
      rw [hpp] at b
      simp only [o3] at a
      simp only
      rw [b, a]
      have : (some i = some j) = (i = j) := by simp
      simp only [this]
      omega
   ·rename_i ho
    have hno0 := hold_none ho
    obtain ⟨g1, g2⟩ := freeF_good hrec hi { s with slots := putS s.slots (i, J.hr p) } (hI.same rfl rfl) hk
    generalize freeF J rec i { s with slots := putS s.slots (i, J.hr p) } = r at *
    cases hr : r.1
    ·rw [if_neg (by simp)]
     obtain ⟨v1, v2, v3⟩ := g1 hr
     exact vain r.2 (v1.add (.inr ⟨v2, v3⟩)) (v1.slots _ (putS_mem.2 (.inr rfl)))
    ·rw [if_pos rfl]
     have w := g2 hr
     refine ⟨fun h => (nomatch h), fun _ => ?_⟩
     have hpp : r.2.pl p = s.pl p := w.old p ht
     have hno : ∀ q, q < J.m → q ≠ p → r.2.pl q = some i → J.hr q ≠ J.hr p := by
      intro q hq hqp e eh
      by_cases hc2 : r.2.pl q = s.pl q
      ·exact hno0 q hq eh (by rw [← hc2]; exact e)
      ·obtain ⟨j, a1, _, _, a4⟩ := w.fit q hq hc2
       rw [e] at a1
       cases a1
       exact a4 (putS_mem.2 (.inr (by rw [eh])))
     refine ⟨⟨?_, ?_, ?_, ?_⟩, ?_, fun q hq h0 => by simp only [up_ne hq]; exact w.zero q h0, ?_, ?_⟩
     ·intro q hq hne
      by_cases e : q = p
      ·subst e
       exact ⟨i, up_same _ _ _, hi, hsv, hsl⟩
      ·simp only [up_ne e] at hne ⊢
       obtain ⟨j, a1, a2, a3, a4⟩ := w.fit q hq hne
       exact ⟨j, a1, a2, a3, fun hm => a4 (putS_mem.2 (.inl hm))⟩
     ·intro q1 q2 h1 h2 hne j e1 e2
      simp only [up] at e1 e2
      by_cases c1 : q1 = p
      ·rw [if_pos c1] at e1
       have c2 : q2 ≠ p := fun e => hne (c1.trans e.symm)
       rw [if_neg c2] at e2
       cases e1
       rw [c1]
       exact fun e => hno q2 h2 c2 e2 e.symm
      ·rw [if_neg c1] at e1
       by_cases c2 : q2 = p
       ·rw [if_pos c2] at e2
        cases e2
        rw [c2]
        exact hno q1 h1 c1 e1
       ·rw [if_neg c2] at e2
        exact w.apart q1 q2 h1 h2 hne j e1 e2
     ·intro j hj
      have := w.ld j hj
      have hroom := w.room
      simp only [up]
      split
      ·rename_i e; subst e; omega
      ·exact this
     ·intro q hq hne
      simp only [up]
      split
      ·simp
      ·exact w.keep q hq hne
     ·intro q hq htq
      simp only [up_ne hq]
      exact w.old q htq
     ·exact ⟨i, up_same _ _ _, hi, hsv, hsl⟩
     ·intro j hj
      have a := w.cnt j hj
      have b := cnt_up (J := J) (B := r.2.pl) hp i j
      rw [hpp] at b
      simp only
      rw [b]
      by_cases e : j = i
      ·subst e
       rw [up_same, a]
       simp
       omega
      ·rw [up_ne e, a]
       have : ¬ i = j := fun h => e h.symm
       simp only [this, if_false]
       omega
theorem placeF_good : ∀ f : Nat, GoodR J (placeF J (f + 1)) f := by
 intro f
 induction f with
 | zero =>
  intro p s hp hI hO hk
  have hs : s.tried p = true := by
   cases h : s.tried p
   ·have := untried_up (J := J) hp h
    omega
   ·rfl
  rw [placeF, if_pos hs]
  exact ⟨fun _ => ⟨Vain.rfl' s, hs⟩, fun h => by cases h⟩
 | succ f ih =>
  intro p s hp hI hO hk
  rw [placeF]
  by_cases hs : s.tried p = true
  ·rw [if_pos hs]
   exact ⟨fun _ => ⟨Vain.rfl' s, hs⟩, fun h => by cases h⟩
  ·rw [if_neg hs]
   have hs : s.tried p = false := by simpa using hs
   have hu := untried_up (J := J) hp hs
   obtain ⟨g1, g2⟩ := tryL_good ih hp (List.range J.n) { s with tried := up s.tried p true } (fun i hi => List.mem_range.1 hi) (hI.same rfl rfl) hO (up_same _ _ _) (by omega)
   generalize tryL J (placeF J (f + 1)) p (List.range J.n) { s with tried := up s.tried p true } = r at *
   have ht : ∀ q, s.tried q = true → up s.tried p true q = true := by
    intro q hq
    simp only [up]
    split
    ·rfl
    ·exact hq
   constructor
   ·intro h
    obtain ⟨v, w⟩ := g1 h
    refine ⟨⟨v.pl, v.has, fun q hq => v.tried q (ht q hq), v.slots, v.offs, ?_, v.sl, v.of⟩, v.tried p (up_same _ _ _)⟩
    intro q hq h1 h2 i hi hv
    by_cases e : q = p
    ·subst e
     exact w i (List.mem_range.2 hi) hv
    ·exact v.q q hq h1 (by simp only [up_ne e]; exact h2) i hi hv
   ·intro h
    have w := g2 h
    exact ⟨hs, ⟨w.fit, w.apart, w.ld, w.keep⟩, fun q hq htq => w.old q hq (ht q htq), w.zero, w.new, w.cnt⟩
end LM.G9
namespace LM.G9
variable {J : Jy}
structure Valid (J : Jy) (B : Nat → Option Nat) : Prop where
 fit : Fit J B
 apart : Apart J B
 ld : ∀ i, i < J.n → (cntA J B i : Int) ≤ J.ld i
theorem Inv.valid {s : Fs} (h : Inv J s) : Valid J s.pl := ⟨h.fit, h.apart, fun i hi => by have := h.cnt i hi; have := h.ld i hi; omega⟩
theorem Placed.fits {p : Nat} {s t : Fs} (hI : Inv J s) (h : Placed J p s t) : Fit J t.pl := by
 intro q hq i hi
 by_cases e : t.pl q = s.pl q
 ·exact hI.fit q hq i (by rw [← e]; exact hi)
 ·obtain ⟨j, a1, a2, a3, _⟩ := h.fit q hq e
  rw [hi] at a1
  cases a1
  exact ⟨a2, a3⟩
theorem Placed.valid {p : Nat} {s t : Fs} (hI : Inv J s) (h : Placed J p s t) : Valid J t.pl := by
 refine ⟨h.fits hI, h.apart, fun i hi => ?_⟩
 have h1 := h.cnt i hi
 have h2 := h.ld i hi
 split at h1 <;> omega
theorem Placed.inv {p : Nat} {s t : Fs} (hI : Inv J s) (h0 : s.pl p = none) (h : Placed J p s t) : Inv J t := by
 refine ⟨h.fits hI, h.apart, fun i hi => ?_, h.ld⟩
 have h1 := h.cnt i hi
 rw [h0] at h1
 simpa using h1
theorem nodup_sub_len {α : Type} [DecidableEq α] : ∀ (A B : List α), A.Nodup → (∀ x ∈ A, x ∈ B) → A.length ≤ B.length
 | [], _, _, _ => Nat.zero_le _
 | a :: A, B, hd, hs => by
  rw [List.nodup_cons] at hd
  have ha := hs a (by simp)
  have ih := nodup_sub_len A (B.erase a) hd.2 (fun x hx => (List.mem_erase_of_ne (fun e => hd.1 (by rw [← e]; exact hx))).2 (hs x (by simp [hx])))
  have hl := List.length_erase_of_mem ha
  have hp : 0 < B.length := List.length_pos_of_mem ha
  simp only [List.length_cons]
  omega
def sumN : Nat → (Nat → Nat) → Nat
 | 0, _ => 0
 | n + 1, f => sumN n f + f n
theorem sumN_add (f g : Nat → Nat) : ∀ n, sumN n (fun i => f i + g i) = sumN n f + sumN n g
 | 0 => rfl
 | n + 1 => by rw [sumN, sumN, sumN, sumN_add f g n]; omega
theorem sumN_le {f g : Nat → Nat} : ∀ n, (∀ i, i < n → f i ≤ g i) → sumN n f ≤ sumN n g
 | 0, _ => Nat.le_refl _
 | n + 1, h => by
  have := sumN_le n fun i hi => h i (by omega)
  have := h n (by omega)
  rw [sumN, sumN]
  omega
theorem sumN_zero : ∀ n, sumN n (fun _ => 0) = 0
 | 0 => rfl
 | n + 1 => by rw [sumN, sumN_zero n]
theorem sumN_one (i0 : Nat) : ∀ n, sumN n (fun i => if i0 = i then 1 else 0) = if i0 < n then 1 else 0
 | 0 => rfl
 | n + 1 => by
  rw [sumN, sumN_one i0 n]
  by_cases h1 : i0 < n
  ·rw [if_pos h1, if_neg (by omega), if_pos (by omega)]
  ·rw [if_neg h1]
   by_cases h2 : i0 = n
   ·rw [if_pos h2, if_pos (by omega)]
   ·rw [if_neg h2, if_neg (by omega)]
theorem sum_count (R : Nat → Bool) (B : Nat → Option Nat) (n : Nat) : ∀ l : List Nat, (∀ q ∈ l, ∀ i, B q = some i → i < n) → sumN n (fun i => l.countP fun q => R q && decide (B q = some i)) = l.countP fun q => R q && decide (B q ≠ none)
 | [], _ => by simpa using sumN_zero n
 | a :: l, h => by
  have ih := sum_count R B n l (fun q hq => h q (by simp [hq]))
  have e : (fun i => (a :: l).countP fun q => R q && decide (B q = some i)) = fun i => (l.countP fun q => R q && decide (B q = some i)) + if (R a && decide (B a = some i)) = true then 1 else 0 := by
   funext i
   rw [List.countP_cons]
  rw [e, sumN_add, ih, List.countP_cons]
  congr 1
  cases hR : R a
  ·simpa using sumN_zero n
  ·cases hB : B a with
   | none => simpa using sumN_zero n
   | some i0 =>
    have := sumN_one i0 n
    rw [if_pos (h a (by simp) i0 hB)] at this
    simpa using this
def Tight (J : Jy) (pl : Nat → Option Nat) (R : Nat → Bool) : Prop := ∀ B, Valid J B → ((List.range J.m).countP fun q => R q && decide (B q ≠ none)) ≤ (List.range J.m).countP fun q => R q && decide (pl q ≠ none)
def clean (s : Fs) : Fs := { s with tried := fun _ => false, slots := [], offs := fun _ => false }
theorem filter_hours {f : Nat → Bool} {h : Nat → Int} : ∀ l : List Nat, l.Nodup → (∀ p ∈ l, ∀ q ∈ l, p ≠ q → f p = true → f q = true → h p ≠ h q) → ((l.filter f).map h).Nodup
 | [], _, _ => by simp
 | a :: l, hd, hf => by
  rw [List.nodup_cons] at hd
  have ih := filter_hours (f := f) (h := h) l hd.2 (fun p hp q hq => hf p (by simp [hp]) q (by simp [hq]))
  by_cases ha : f a = true
  ·rw [List.filter_cons_of_pos ha, List.map_cons, List.nodup_cons]
   refine ⟨fun hm => ?_, ih⟩
   obtain ⟨q, hq, e⟩ := List.mem_map.1 hm
   obtain ⟨hq1, hq2⟩ := List.mem_filter.1 hq
   exact hf a (by simp) q (by simp [hq1]) (fun e2 => hd.1 (by rw [e2]; exact hq1)) ha hq2 e.symm
  ·rw [List.filter_cons_of_neg ha]
   exact ih
theorem vain_tight {s t : Fs} (hI : Inv J s) (hv : Vain J (clean s) t) : Tight J s.pl t.tried := by
 intro B hB
 rw [← sum_count t.tried B J.n (List.range J.m) (fun q hq i e => (hB.fit q (List.mem_range.1 hq) i e).1)]
 rw [← sum_count t.tried s.pl J.n (List.range J.m) (fun q hq i e => (hI.fit q (List.mem_range.1 hq) i e).1)]
 have hpl : t.pl = s.pl := hv.pl
 refine sumN_le _ fun i hi => ?_
 cases ho : t.offs i
 ·-- each slot has a holder
  rw [List.countP_eq_length_filter, List.countP_eq_length_filter]
  have n1 : (((List.range J.m).filter fun q => t.tried q && decide (B q = some i)).map J.hr).Nodup := by
   refine filter_hours _ List.nodup_range ?_
   intro p hp q hq hne h1 h2
   simp only [Bool.and_eq_true, decide_eq_true_eq] at h1 h2
   exact hB.apart p q (List.mem_range.1 hp) (List.mem_range.1 hq) hne i h1.2 h2.2
  have := nodup_sub_len _ (((List.range J.m).filter fun q => t.tried q && decide (s.pl q = some i)).map J.hr) n1 (by
   intro x hx
   obtain ⟨q, hq, rfl⟩ := List.mem_map.1 hx
   obtain ⟨hq1, hq2⟩ := List.mem_filter.1 hq
   simp only [Bool.and_eq_true, decide_eq_true_eq] at hq2
   have hqm := List.mem_range.1 hq1
   have hsl := hv.q q hqm hq2.1 rfl i hi (hB.fit q hqm i hq2.2).2
   rcases hv.sl i _ hsl (by simp [clean]) with ⟨p, p1, p2, p3, p4⟩ | ⟨e1, _⟩
   ·refine List.mem_map.2 ⟨p, List.mem_filter.2 ⟨List.mem_range.2 p1, ?_⟩, p3⟩
    rw [p4, ← hpl, p2]
    simp
   ·rw [ho] at e1
    cases e1)
  simpa using this
 ·obtain ⟨e1, e2⟩ := hv.of i ho rfl
  have h1 := hB.ld i hi
  have h2 := hI.cnt i hi
  have hh : t.has = s.has := hv.has
  rw [hh] at e1
  have h3 : ((List.range J.m).countP fun q => t.tried q && decide (B q = some i)) ≤ cntA J B i := by
   refine List.countP_mono_left fun q _ hq => ?_
   simp only [Bool.and_eq_true] at hq
   exact hq.2
  have h4 : cntA J s.pl i ≤ (List.range J.m).countP fun q => t.tried q && decide (s.pl q = some i) := by
   refine List.countP_mono_left fun q hq hq2 => ?_
   simp only [decide_eq_true_eq] at hq2
   rw [e2 q (List.mem_range.1 hq) (by rw [hpl]; exact hq2), hq2]
   simp
  omega
theorem clean_inv {s : Fs} (h : Inv J s) : Inv J (clean s) := h.same rfl rfl
theorem untried_m (s : Fs) : untried J s ≤ J.m := by
 have := List.countP_le_length (p := fun p => !s.tried p) (l := List.range J.m)
 rw [List.length_range] at this
 exact this
theorem place_one {s : Fs} {p : Nat} (hp : p < J.m) (hI : Inv J s) (h0 : s.pl p = none) :
  ((placeF J (J.m + 1) p (clean s)).1 = true → Placed J p (clean s) (placeF J (J.m + 1) p (clean s)).2) ∧
  ((placeF J (J.m + 1) p (clean s)).1 = false → (placeF J (J.m + 1) p (clean s)).2.pl = s.pl ∧ (placeF J (J.m + 1) p (clean s)).2.has = s.has ∧ ∀ B, Valid J B → ¬ (B p ≠ none ∧ ∀ q, q < J.m → s.pl q ≠ none → B q ≠ none)) := by
 obtain ⟨g1, g2⟩ := placeF_good J.m p (clean s) hp (clean_inv hI) (fun i hi => by have : s.pl p = some i := hi; rw [h0] at this; cases this) (untried_m _)
 generalize placeF J (J.m + 1) p (clean s) = r at *
 refine ⟨fun h => (g2 h).2, fun h => ?_⟩
 obtain ⟨v, w⟩ := g1 h
 refine ⟨v.pl, v.has, ?_⟩
 rintro B hB ⟨b1, b2⟩
 have ht := vain_tight hI v B hB
 have key : ∀ l : List Nat, (∀ q ∈ l, q < J.m) → (l.countP fun q => r.2.tried q && decide (s.pl q ≠ none)) + (if p ∈ l then 1 else 0) ≤ l.countP fun q => r.2.tried q && decide (B q ≠ none) := by
  intro l
  induction l with
  | nil => intro _; simp
  | cons a l ih =>
   intro hl
   have ih := ih (fun q hq => hl q (by simp [hq]))
   rw [List.countP_cons, List.countP_cons]
   by_cases e : a = p
   ·subst e
    have x1 : (r.2.tried a && decide (s.pl a ≠ none)) = false := by simp [h0]
    have x2 : (r.2.tried a && decide (B a ≠ none)) = true := by simp [w, b1]
    rw [x1, x2]
    simp only [List.mem_cons, true_or, if_true, Bool.false_eq_true, if_false]
    split at ih <;> omega
   ·have x3 : (p ∈ a :: l) ↔ p ∈ l := by simp [Ne.symm e]
    simp only [x3]
    have x4 : (r.2.tried a && decide (s.pl a ≠ none)) = true → (r.2.tried a && decide (B a ≠ none)) = true := by
     simp only [Bool.and_eq_true, decide_eq_true_eq]
     exact fun h => ⟨h.1, b2 a (hl a (by simp)) h.2⟩
    by_cases x5 : (r.2.tried a && decide (s.pl a ≠ none)) = true
    ·rw [if_pos x5, if_pos (x4 x5)]
     omega
    ·rw [if_neg x5]
     omega
 have hk := key (List.range J.m) (fun q hq => List.mem_range.1 hq)
 rw [if_pos (List.mem_range.2 hp)] at hk
 omega
def fillL (J : Jy) : List Nat → Fs → Nat × Fs
 | [], s => (0, s)
 | p :: ps, s => ((fillL J ps (placeF J (J.m + 1) p (clean s)).2).1 + (if (placeF J (J.m + 1) p (clean s)).1 = true then 1 else 0), (fillL J ps (placeF J (J.m + 1) p (clean s)).2).2)
def start : Fs := ⟨fun _ => none, fun _ => 0, fun _ => false, [], fun _ => false⟩
def placed (J : Jy) (B : Nat → Option Nat) : Nat := (List.range J.m).countP fun q => decide (B q ≠ none)
theorem fill_le : ∀ (ps : List Nat) (s : Fs), (fillL J ps s).1 ≤ ps.length
 | [], _ => Nat.le_refl _
 | p :: ps, s => by
  have := fill_le ps (placeF J (J.m + 1) p (clean s)).2
  rw [fillL, List.length_cons]
  simp only
  split <;> omega
theorem placed_one {p : Nat} (hp : p < J.m) {B C : Nat → Option Nat} (h0 : B p = none) (h1 : C p ≠ none) (hz : ∀ q, q ≠ p → B q = none → C q = none) (hk : ∀ q, q < J.m → B q ≠ none → C q ≠ none) : placed J C = placed J B + 1 := by
 have key : ∀ l : List Nat, l.Nodup → (∀ q ∈ l, q < J.m) → (l.countP fun q => decide (C q ≠ none)) = (l.countP fun q => decide (B q ≠ none)) + if p ∈ l then 1 else 0 := by
  intro l
  induction l with
  | nil => intro _ _; simp
  | cons a l ih =>
   intro hd hl
   rw [List.nodup_cons] at hd
   have ih := ih hd.2 (fun q hq => hl q (by simp [hq]))
   rw [List.countP_cons, List.countP_cons]
   by_cases e : a = p
   ·subst e
    rw [if_neg hd.1] at ih
    have x1 : decide (C a ≠ none) = true := by simp [h1]
    have x2 : decide (B a ≠ none) = false := by simp [h0]
    rw [x1, x2]
    simp only [List.mem_cons, true_or, if_true, Bool.false_eq_true, if_false]
    omega
   ·have x3 : (p ∈ a :: l) ↔ p ∈ l := by simp [Ne.symm e]
    simp only [x3]
    have : (C a ≠ none) ↔ (B a ≠ none) := ⟨fun h hb => h (hz a e hb), hk a (hl a (by simp))⟩
    simp only [this]
    omega
 have := key (List.range J.m) List.nodup_range (fun q hq => List.mem_range.1 hq)
 rw [if_pos (List.mem_range.2 hp)] at this
 exact this
theorem fill_spec : ∀ (ps : List Nat) (s : Fs), ps.Nodup → (∀ p ∈ ps, p < J.m ∧ s.pl p = none) → Inv J s →
  Inv J (fillL J ps s).2 ∧ placed J (fillL J ps s).2.pl = placed J s.pl + (fillL J ps s).1 ∧ (∀ q, q < J.m → s.pl q ≠ none → (fillL J ps s).2.pl q ≠ none) ∧ (∀ q, q ∉ ps → s.pl q = none → (fillL J ps s).2.pl q = none) ∧
  (∀ p ∈ ps, (fillL J ps s).2.pl p = none → ∀ B, Valid J B → ¬ (B p ≠ none ∧ ∀ q, q < J.m → (fillL J ps s).2.pl q ≠ none → B q ≠ none)) ∧
  ((fillL J ps s).1 = ps.length → ∀ p ∈ ps, (fillL J ps s).2.pl p ≠ none) ∧
  ((∃ B, Valid J B ∧ (∀ p ∈ ps, B p ≠ none) ∧ ∀ q, q < J.m → s.pl q ≠ none → B q ≠ none) → (fillL J ps s).1 = ps.length)
 | [], s, _, _, hI => ⟨hI, rfl, fun _ _ h => h, fun _ _ h => h, fun p hp => absurd hp (by simp), fun _ p hp => absurd hp (by simp), fun _ => rfl⟩
 | p :: ps, s, hd, hps, hI => by
  rw [List.nodup_cons] at hd
  obtain ⟨hp, h0⟩ := hps p (by simp)
  obtain ⟨g1, g2⟩ := place_one hp hI h0
  rw [fillL]
  generalize placeF J (J.m + 1) p (clean s) = r at *
  cases hr : r.1
  ·obtain ⟨e1, e2, e3⟩ := g2 hr
   obtain ⟨a1, a2, a3, a4, a5, a6, a7⟩ := fill_spec ps r.2 hd.2 (fun q hq => by rw [e1]; exact hps q (by simp [hq])) (hI.same e1 e2)
   have hle := fill_le (J := J) ps r.2
   simp only [Bool.false_eq_true, if_false, Nat.add_zero]
   rw [e1] at a2 a3 a4
   refine ⟨a1, a2, a3, fun q hq h => a4 q (fun hm => hq (by simp [hm])) h, ?_, ?_, ?_⟩
   ·intro q hq hn B hB hb
    rcases List.mem_cons.1 hq with rfl | hq
    ·exact e3 B hB ⟨hb.1, fun x hx hne => hb.2 x hx (a3 x hx hne)⟩
    ·exact a5 q hq hn B hB hb
   ·intro h
    rw [List.length_cons] at h
    omega
   ·rintro ⟨B, hB, b1, b2⟩
    exact absurd ⟨b1 p (by simp), b2⟩ (e3 B hB)
  ·have w := g1 hr
   have hI' := w.inv (clean_inv hI) h0
   have hnew : r.2.pl p ≠ none := by obtain ⟨i, e, _⟩ := w.new; rw [e]; simp
   obtain ⟨a1, a2, a3, a4, a5, a6, a7⟩ := fill_spec ps r.2 hd.2 (fun q hq => ⟨(hps q (by simp [hq])).1, w.zero q (fun e => hd.1 (by rw [← e]; exact hq)) (hps q (by simp [hq])).2⟩) hI'
   have hpl := placed_one (J := J) hp h0 hnew w.zero w.keep
   simp only [if_true]
   refine ⟨a1, by rw [a2, hpl]; show _ = placed J s.pl + _; omega, fun q hq h => a3 q hq (w.keep q hq h), ?_, ?_, ?_, ?_⟩
   ·intro q hq h
    exact a4 q (fun hm => hq (by simp [hm])) (w.zero q (fun e => hq (by simp [e])) h)
   ·intro q hq hn B hB hb
    rcases List.mem_cons.1 hq with rfl | hq
    ·exact absurd hn (a3 q hp hnew)
    ·exact a5 q hq hn B hB hb
   ·intro h q hq
    rw [List.length_cons] at h
    rcases List.mem_cons.1 hq with rfl | hq
    ·exact a3 q hp hnew
    ·exact a6 (by omega) q hq
   ·rintro ⟨B, hB, b1, b2⟩
    rw [List.length_cons, a7 ⟨B, hB, fun q hq => b1 q (by simp [hq]), fun q hq hne => ?_⟩]
    by_cases e : q = p
    ·subst e
     exact b1 q (by simp)
    ·exact b2 q hq (fun hn => hne (w.zero q e hn))
theorem start_inv (hl : ∀ i, i < J.n → 0 ≤ J.ld i) : Inv J start := by
 refine ⟨fun p _ i h => (nomatch h), fun p q _ _ _ i h => (nomatch h), fun i _ => ?_, fun i hi => hl i hi⟩
 have : cntA J start.pl i = 0 := by
  unfold cntA
  rw [List.countP_eq_zero]
  intro q _
  simp [start]
 rw [this]
 rfl
theorem fills_iff (hl : ∀ i, i < J.n → 0 ≤ J.ld i) {ps : List Nat} (hd : ps.Nodup) (hps : ∀ p ∈ ps, p < J.m) : (fillL J ps start).1 = ps.length ↔ ∃ B, Valid J B ∧ ∀ p ∈ ps, B p ≠ none := by
 obtain ⟨a1, a2, a3, a4, a5, a6, a7⟩ := fill_spec ps start hd (fun p hp => ⟨hps p hp, rfl⟩) (start_inv hl)
 constructor
 ·intro h
  exact ⟨_, a1.valid, a6 h⟩
 ·rintro ⟨B, hB, hb⟩
  exact a7 ⟨B, hB, hb, fun q _ h => absurd rfl h⟩
end LM.G9
namespace LM.G9
open Go LM
variable {P : Nat → Option SFunc} [Has P]
theorem frzFuncs_ptr (b g o : Nat) (l : List LV) (h : Heap) : frzFuncs (.ptr b g o :: l) h = bnd (frzFuncs l h) fun a => some (.ptr b g o :: a.1, a.2) := by
 rw [frzFuncs]
 rcases frzFuncs l h with _ | ⟨x, y⟩ <;> rfl
 all_goals simp
theorem frzFuncs_map (b : Nat) (l : List LV) (h : Heap) : frzFuncs (.map b :: l) h = bnd (frzFuncs l h) fun a => some (.map b :: a.1, a.2) := by
 rw [frzFuncs]
 rcases frzFuncs l h with _ | ⟨x, y⟩ <;> rfl
 all_goals simp
def Same (n : Nat) (h h' : Heap) : Prop := n ≤ h'.length ∧ ∀ i, i < n → h'[i]? = h[i]?
theorem Same.rfl' {n : Nat} {h : Heap} (hn : n ≤ h.length) : Same n h h := ⟨hn, fun _ _ => rfl⟩
theorem Same.trans {n : Nat} {h k l : Heap} (h1 : Same n h k) (h2 : Same n k l) : Same n h l := ⟨h2.1, fun i hi => (h2.2 i hi).trans (h1.2 i hi)⟩
theorem Same.app {n : Nat} {h k : Heap} (h1 : Same n h k) (X : Heap) : Same n h (k ++ X) := ⟨by have := h1.1; rw [List.length_append]; omega, fun i hi => by rw [List.getElem?_append_left (by have := h1.1; omega)]; exact h1.2 i hi⟩
theorem Same.less {n m : Nat} {h k : Heap} (h1 : Same n h k) (hm : m ≤ n) : Same m h k := ⟨Nat.le_trans hm h1.1, fun i hi => h1.2 i (by omega)⟩
theorem gc_any {n : Nat} {ts : List LV} {h : Heap} (hn : n ≤ h.length) (hu : ∀ v ∈ ts, v.under n = true) : ∃ h', gc n ⟨ts, h⟩ = ⟨ts, h'⟩ ∧ Same n h h' := by
 have hs : ∀ ts : List LV, (∀ v ∈ ts, v.under n = true) → scrub n ts = ts := by
  intro ts
  induction ts with
  | nil => intro _; rfl
  | cons v r ih =>
   intro hu
   rw [scrub, hu v (by simp), ih (fun w hw => hu w (by simp [hw]))]
   rfl
 unfold gc
 by_cases h1 : underB n (h.take n) = true
 ·refine ⟨h.take n, by simp [h1, hs ts hu], by simp; omega, fun i hi => ?_⟩
  rw [List.getElem?_take_of_lt hi]
 ·exact ⟨h, by simp [h1], Same.rfl' hn⟩
def optI : Option Nat → Int
 | none => -1
 | some i => i
def atC (m : Nat) (pl : Nat → Option Nat) : List LV := (List.range m).map fun p => .c (ci (optI (pl p)))
def hasF (n : Nat) (has : Nat → Int) : List LV := (List.range n).map fun i => .c (ci (has i))
def boolC (m : Nat) (f : Nat → Bool) : List LV := (List.range m).map fun p => .c (.bool (f p))
theorem atC_len (m : Nat) (pl : Nat → Option Nat) : (atC m pl).length = m := by simp [atC]
theorem hasF_len (m : Nat) (pl : Nat → Int) : (hasF m pl).length = m := by simp [hasF]
theorem boolC_len (m : Nat) (pl : Nat → Bool) : (boolC m pl).length = m := by simp [boolC]
theorem atC_get {m p : Nat} (pl : Nat → Option Nat) (h : p < m) : (atC m pl)[p]? = some (.c (ci (optI (pl p)))) := by simp [atC, h]
theorem hasF_get {m p : Nat} (pl : Nat → Int) (h : p < m) : (hasF m pl)[p]? = some (.c (ci (pl p))) := by simp [hasF, h]
theorem boolC_get {m p : Nat} (pl : Nat → Bool) (h : p < m) : (boolC m pl)[p]? = some (.c (.bool (pl p))) := by simp [boolC, h]
theorem up_row {α β : Type} (m : Nat) (f : Nat → α) (g : α → β) (p : Nat) (v : α) : ((List.range m).map fun q => g (f q)).set p (g v) = (List.range m).map fun q => g (up f p v q) := by
 apply List.ext_getElem
 ·simp
 ·intro i h1 h2
  simp only [List.length_set, List.length_map, List.length_range] at h1
  rw [List.getElem_set]
  simp only [List.getElem_map, List.getElem_range]
  by_cases e : p = i
  ·subst e
   rw [if_pos rfl, up_same]
  ·rw [if_neg e, up_ne (Ne.symm e)]
theorem atC_set (m : Nat) (pl : Nat → Option Nat) (p i : Nat) : (atC m pl).set p (.c (ci i)) = atC m (up pl p (some i)) := up_row m pl (fun o => LV.c (ci (optI o))) p (some i)
theorem hasF_set (m : Nat) (f : Nat → Int) (p : Nat) (v : Int) : (hasF m f).set p (.c (ci v)) = hasF m (up f p v) := up_row m f (fun o => LV.c (ci o)) p v
theorem boolC_set (m : Nat) (f : Nat → Bool) (p : Nat) (v : Bool) : (boolC m f).set p (.c (.bool v)) = boolC m (up f p v) := up_row m f (fun o => LV.c (.bool o)) p v
structure Loc where
 bf : Nat
 ba : Nat
 ga : Nat
 ca : Option Nat
 bh : Nat
 bt : Nat
 bs : Nat
 bo : Nat
def jy (j : Jur) (lds : List Int) : Jy := ⟨j.pts.length, j.ofs.length, fun i p => servesV j i p, hourAt j, fun i => lds.getD i 0⟩
def slotC (x : Nat × Int) : CV := .agg [ci x.1, ci x.2]
def fB (j : Jur) (lds : List Int) (L : Loc) (z : Nat) : LB := .cells 0 [.c (.slice (j.ofs.map Ofc.enc)), .c (.slice (j.pts.map Pst.enc)), .c (.slice (lds.map ci)), .slice L.ba L.ga 0 j.pts.length none L.ca, .slice L.bh 1 0 j.ofs.length none (some j.ofs.length), .slice L.bt 1 0 j.pts.length none (some j.pts.length)] z
structure HpF (j : Jur) (lds : List Int) (L : Loc) (s : Fs) (h : Heap) : Prop where
 f : h[L.bf]? = some (fB j lds L 0)
 a : h[L.ba]? = some (.cells L.ga (atC j.pts.length s.pl) 0)
 hs : h[L.bh]? = some (.cells 1 (hasF j.ofs.length s.has) 0)
 t : h[L.bt]? = some (.cells 1 (boolC j.pts.length s.tried) 0)
 sl : h[L.bs]? = some (.map (s.slots.map slotC) (s.slots.map fun _ => .c (.bool true)) false)
 o : h[L.bo]? = some (.cells 1 (boolC j.ofs.length s.offs) 0)
structure Loc.ok (L : Loc) : Prop where
 ga : L.ga ≠ 0
 fa : L.bf ≠ L.ba
 fh : L.bf ≠ L.bh
 ft : L.bf ≠ L.bt
 fs : L.bf ≠ L.bs
 fo : L.bf ≠ L.bo
 ah : L.ba ≠ L.bh
 at' : L.ba ≠ L.bt
 asl : L.ba ≠ L.bs
 ao : L.ba ≠ L.bo
 ht : L.bh ≠ L.bt
 hs : L.bh ≠ L.bs
 ho : L.bh ≠ L.bo
 ts : L.bt ≠ L.bs
 to : L.bt ≠ L.bo
 so : L.bs ≠ L.bo
theorem lt_get {h : Heap} {i : Nat} {B : LB} (e : h[i]? = some B) : i < h.length := (List.getElem?_eq_some_iff.1 e).1
theorem HpF.same {j : Jur} {lds : List Int} {L : Loc} {s : Fs} {h h' : Heap} (H : HpF j lds L s h) {n : Nat} (hn : h.length ≤ n) (hs : Same n h h') : HpF j lds L s h' := by
 have key : ∀ {i : Nat} {B : LB}, h[i]? = some B → h'[i]? = some B := fun e => (hs.2 _ (by have := lt_get e; omega)).trans e
 exact ⟨key H.f, key H.a, key H.hs, key H.t, key H.sl, key H.o⟩
theorem L158 (j : Jur) (lds : List Int) (hj : j.pts.length < 1000) (L : Loc) (hL : L.ok) (s : Fs) (hh : Heap) (N : Nat) (hN : N = hh.length) (i : Nat) (hr : Int) (H : HpF j lds L s hh) : ∀ (m k : Nat) (hx : Heap), k + m = j.pts.length → Same (N + 1) (hh ++ [.cells 0 [.c (ci i), .c (ci hr)] 0]) hx →
  ∃ hy, Same (N + 1) (hh ++ [.cells 0 [.c (ci i), .c (ci hr)] 0]) hy ∧ execS P (limS P) c158_l0 ⟨[.ptr L.bf 0 0, .ptr N 0 0, .c (.slice (j.pts.map Pst.enc)), .c (ci j.pts.length), .c (ci k)], hx⟩ =
   match (List.range' k m).find? (fun p => decide (hourAt j p = hr) && decide (s.pl p = some i)) with
   | some p => some (.ret, ⟨[.c (ci p)], hy⟩)
   | none => some (.exit 0, ⟨[], hy⟩) := by
 intro m
 induction m with
 | zero =>
  intro k hx hk hs
  refine ⟨hx, hs, ?_⟩
  have hk' : k = j.pts.length := by omega
  rw [r158_l0]
  simp [c158_l0b, hk']
 | succ m ih =>
  intro k hx hk hs
  have hkl : k < j.pts.length := by omega
  have hbf := lt_get H.f
  have hba := lt_get H.a
  have gS : hx[N]? = some (.cells 0 [.c (ci i), .c (ci hr)] 0) := by rw [hs.2 N (by omega), hN]; simp
  have gF : hx[L.bf]? = some (fB j lds L 0) := by rw [hs.2 _ (by omega), List.getElem?_append_left hbf]; exact H.f
  have gA : hx[L.ba]? = some (.cells L.ga (atC j.pts.length s.pl) 0) := by rw [hs.2 _ (by omega), List.getElem?_append_left hba]; exact H.a
  have gk : j.pts[k]? = some j.pts[k] := List.getElem?_eq_getElem hkl
  have hh' : hourAt j k = j.pts[k].hour := by unfold hourAt; rw [gk]
  generalize hpk : j.pts[k] = p at *
  have gP := atC_get (m := j.pts.length) s.pl hkl
  have q1 := lt_get gS
  have q2 := lt_get gF
  have q3 := lt_get gA
  have q1' := (List.getElem?_eq_some_iff.1 gS).2
  have q2' := (List.getElem?_eq_some_iff.1 gF).2
  have q3' := (List.getElem?_eq_some_iff.1 gA).2
  have gP' := (List.getElem?_eq_some_iff.1 gP).2
  have hal := atC_len j.pts.length s.pl
  have hw : IntKind.i64.wrap ((k : Int) + 1) = (k : Int) + 1 := wrap64 (by omega) (by omega)
  have hopt : optI (s.pl k) = (i : Int) ↔ s.pl k = some i := by
   cases s.pl k with
   | none => simp [optI]
   | some a => simp [optI]; omega
  have hn1 : N + 1 ≤ hx.length := hs.1
  have a1 : ∀ X : LB, (hx ++ [X])[N]? = some (.cells 0 [.c (ci i), .c (ci hr)] 0) := fun X => by rw [List.getElem?_append_left q1]; exact gS
  have a2 : ∀ X : LB, (hx ++ [X])[L.bf]? = some (fB j lds L 0) := fun X => by rw [List.getElem?_append_left q2]; exact gF
  have a3 : ∀ X : LB, (hx ++ [X])[L.ba]? = some (.cells L.ga (atC j.pts.length s.pl) 0) := fun X => by rw [List.getElem?_append_left q3]; exact gA
  have a1' := fun X => (List.getElem?_eq_some_iff.1 (a1 X)).2
  have a2' := fun X => (List.getElem?_eq_some_iff.1 (a2 X)).2
  have a3' := fun X => (List.getElem?_eq_some_iff.1 (a3 X)).2
  have l1 : N < hx.length + 1 := by omega
  have l2 : L.bf < hx.length + 1 := by omega
  have l3 : L.ba < hx.length + 1 := by omega
  rw [List.range'_succ, List.find?_cons]
  obtain ⟨hg, hg1, hg2⟩ := gc_any (n := hx.length) (ts := [.ptr L.bf 0 0, .ptr N 0 0, .c (.slice (j.pts.map Pst.enc)), .c (ci j.pts.length), .c (ci (k + 1))]) (h := hx ++ [.cells 0 [.c (.str p.name), .c (.str p.role), .c (ci p.hour), .c (.slice (p.nations.map CV.str))] 0]) (by simp) (by
   intro v hv
   simp only [List.mem_cons, List.not_mem_nil, or_false] at hv
   rcases hv with rfl | rfl | rfl | rfl | rfl <;> simp [LV.under] <;> omega)
  obtain ⟨hy, i1, i2⟩ := ih (k + 1) hg (by omega) (hs.trans (((Same.rfl' (Nat.le_refl hx.length)).app _).less hn1 |>.trans (hg2.less hn1)))
  have ek : ((k + 1 : Nat) : Int) = (k : Int) + 1 := by omega
  rw [ek] at i2
  by_cases c1 : p.hour = hr
  ·by_cases c2 : s.pl k = some i
   ·have e1 : (decide (hourAt j k = hr) && decide (s.pl k = some i)) = true := by simp [hh', c1, c2]
    rw [e1]
    have c2' := hopt.2 c2
    refine ⟨hx ++ [.cells 0 [.c (.str p.name), .c (.str p.role), .c (ci p.hour), .c (.slice (p.nations.map CV.str))] 0], hs.app _, ?_⟩
    rw [r158_l0]
    simp [c158_l0b, hkl, gk, hpk, Pst.enc, a1, a2, a3, a1', a2', a3', l1, l2, l3, fB, gP, gP', hal, c1, c2']
   ·have e1 : (decide (hourAt j k = hr) && decide (s.pl k = some i)) = false := by simp [c2]
    rw [e1]
    have c2' : ¬ optI (s.pl k) = (i : Int) := fun h => c2 (hopt.1 h)
    refine ⟨hy, i1, ?_⟩
    rw [c1] at hg1
    rw [r158_l0]
    simp [c158_l0b, hkl, gk, hpk, Pst.enc, a1, a2, a3, a1', a2', a3', l1, l2, l3, fB, gP, gP', hal, c1, c2', hw, hg1, i2, -gc]
  ·have e1 : (decide (hourAt j k = hr) && decide (s.pl k = some i)) = false := by simp [hh', c1]
   rw [e1]
   refine ⟨hy, i1, ?_⟩
   rw [r158_l0]
   simp [c158_l0b, hkl, gk, hpk, Pst.enc, a1, a2, a3, a1', a2', a3', l1, l2, l3, fB, gP, gP', hal, c1, hw, hg1, i2, -gc]
theorem S158 (j : Jur) (lds : List Int) (hj : j.pts.length < 1000) (L : Loc) (hL : L.ok) (s : Fs) (hh : Heap) (i : Nat) (hr : Int) (H : HpF j lds L s hh) :
  ∃ hy, Same hh.length hh hy ∧ sfn P 158 [.ptr L.bf 0 0, .c (.agg [ci i, ci hr])] hh = some (.c (ci (optI (holdF (jy j lds) s.pl i hr))), hy) := by
 obtain ⟨hy, k1, k2⟩ := L158 (P := P) j lds hj L hL s hh hh.length rfl i hr H j.pts.length 0 (hh ++ [.cells 0 [.c (ci i), .c (ci hr)] 0]) (by omega) (Same.rfl' (by simp))
 have hr0 : List.range' 0 j.pts.length = List.range j.pts.length := (List.range_eq_range').symm
 rw [hr0] at k2
 have hbf := lt_get H.f
 have gF := (List.getElem?_eq_some_iff.1 H.f).2
 have hS : Same hh.length hh hy := ⟨by have := k1.1; omega, fun x hx => by rw [k1.2 x (by omega), List.getElem?_append_left hx]⟩
 refine ⟨hy, hS, ?_⟩
 have e : holdF (jy j lds) s.pl i hr = (List.range j.pts.length).find? fun p => decide (hourAt j p = hr) && decide (s.pl p = some i) := rfl
 rw [e]
 have l1 : L.bf < hh.length + 1 := by omega
 have a1 : ∀ X : LB, (hh ++ [X])[L.bf]? = some (fB j lds L 0) := fun X => by rw [List.getElem?_append_left hbf]; exact H.f
 have a1' := fun X => (List.getElem?_eq_some_iff.1 (a1 X)).2
 rw [u158]
 cases hf : (List.range j.pts.length).find? fun p => decide (hourAt j p = hr) && decide (s.pl p = some i) with
 | none =>
  rw [hf] at k2
  simp at k2
  simp [c158, a1, a1', l1, fB, k2, optI]
 | some p =>
  rw [hf] at k2
  simp at k2
  simp [c158, a1, a1', l1, fB, k2, optI]
def sIdx (x : Nat × Int) : List (Nat × Int) → Option Nat
 | [] => none
 | y :: r => if x = y then some 0 else (sIdx x r).map (· + 1)
theorem find_slot (x : Nat × Int) : ∀ l : List (Nat × Int), findK (.many [0, 0]) (slotC x) (l.map slotC) = some (sIdx x l)
 | [] => rfl
 | y :: l => by
  have ih := find_slot x l
  rw [List.map_cons, findK, ih, sIdx]
  have e : eqK (.many [0, 0]) (slotC x) (slotC y) = some (decide (x = y)) := by
   obtain ⟨a, b⟩ := x
   obtain ⟨c, d⟩ := y
   by_cases h1 : a = c
   ·subst h1
    by_cases h2 : b = d <;> simp [eqK, keyOk, kindsOk, kindOf, slotC, eqCells, eqS, h2]
   ·have : ¬ ((a : Int) = c) := by omega
    simp [eqK, keyOk, kindsOk, kindOf, slotC, eqCells, eqS, h1, this]
  rw [e]
  by_cases h : x = y
  ·simp [h]
  ·simp only [h, decide_false, if_false]
   cases sIdx x l <;> rfl
theorem sIdx_none {x : Nat × Int} : ∀ {l : List (Nat × Int)}, sIdx x l = none ↔ x ∉ l
 | [] => by simp [sIdx]
 | y :: l => by
  rw [sIdx]
  by_cases h : x = y
  ·simp [h]
  ·simp [h, sIdx_none (l := l)]
theorem sIdx_some {x : Nat × Int} : ∀ {l : List (Nat × Int)} {k : Nat}, sIdx x l = some k → k < l.length
 | [], _, h => by simp [sIdx] at h
 | y :: l, k, h => by
  rw [sIdx] at h
  by_cases e : x = y
  ·rw [if_pos e] at h
   cases h
   simp
  ·rw [if_neg e] at h
   cases h2 : sIdx x l with
   | none => rw [h2] at h; simp at h
   | some q =>
    rw [h2] at h
    simp at h
    have := sIdx_some h2
    simp
    omega
def tv (l : List (Nat × Int)) : List LV := l.map fun _ => .c (.bool true)
theorem tv_get {l : List (Nat × Int)} {k : Nat} (h : k < l.length) : (tv l)[k]? = some (.c (.bool true)) := by simp [tv, h]
theorem tv_set (l : List (Nat × Int)) (k : Nat) : (tv l).set k (.c (.bool true)) = tv l := by
 apply List.ext_getElem
 ·simp
 ·intro i h1 h2
  rw [List.getElem_set]
  simp [tv]
structure Loc.lt (L : Loc) (n : Nat) : Prop where
 f : L.bf < n
 a : L.ba < n
 h : L.bh < n
 t : L.bt < n
 s : L.bs < n
 o : L.bo < n
theorem HpF.lt {j : Jur} {lds : List Int} {L : Loc} {s : Fs} {h : Heap} (H : HpF j lds L s h) : L.lt h.length := ⟨lt_get H.f, lt_get H.a, lt_get H.hs, lt_get H.t, lt_get H.sl, lt_get H.o⟩
theorem HpF.near {j : Jur} {lds : List Int} {L : Loc} {s : Fs} {h h' : Heap} (H : HpF j lds L s h) {n : Nat} (hn : L.lt n) (hs : Same n h h') : HpF j lds L s h' :=
 ⟨(hs.2 _ hn.f).trans H.f, (hs.2 _ hn.a).trans H.a, (hs.2 _ hn.h).trans H.hs, (hs.2 _ hn.t).trans H.t, (hs.2 _ hn.s).trans H.sl, (hs.2 _ hn.o).trans H.o⟩
def Fr (L : Loc) (h h' : Heap) : Prop := h.length ≤ h'.length ∧ ∀ i, i < h.length → i ≠ L.ba → i ≠ L.bh → i ≠ L.bt → i ≠ L.bs → i ≠ L.bo → h'[i]? = h[i]?
theorem Fr.rfl' (L : Loc) (h : Heap) : Fr L h h := ⟨Nat.le_refl _, fun _ _ _ _ _ _ _ => rfl⟩
theorem Fr.trans {L : Loc} {h k l : Heap} (h1 : Fr L h k) (h2 : Fr L k l) : Fr L h l := ⟨Nat.le_trans h1.1 h2.1, fun i hi a b c d e => (h2.2 i (Nat.lt_of_lt_of_le hi h1.1) a b c d e).trans (h1.2 i hi a b c d e)⟩
theorem Same.fr {L : Loc} {h k : Heap} (h1 : Same h.length h k) : Fr L h k := ⟨h1.1, fun i hi _ _ _ _ _ => h1.2 i hi⟩
theorem Fr.set {L : Loc} {h k : Heap} (h1 : Fr L h k) {b : Nat} (hb : b = L.ba ∨ b = L.bh ∨ b = L.bt ∨ b = L.bs ∨ b = L.bo) (X : LB) : Fr L h (k.set b X) := by
 refine ⟨by simpa using h1.1, fun i hi x1 x2 x3 x4 x5 => ?_⟩
 rw [List.getElem?_set_ne (by rintro rfl; rcases hb with e | e | e | e | e <;> contradiction)]
 exact h1.2 i hi x1 x2 x3 x4 x5
theorem HpF.slots {j : Jur} {lds : List Int} {L : Loc} {s : Fs} {h : Heap} (H : HpF j lds L s h) (ok : L.ok) (l : List (Nat × Int)) : HpF j lds L { s with slots := l } (h.set L.bs (.map (l.map slotC) (tv l) false)) := by
 refine ⟨?_, ?_, ?_, ?_, ?_, ?_⟩
 ·rw [List.getElem?_set_ne ok.fs.symm]; exact H.f
 ·rw [List.getElem?_set_ne ok.asl.symm]; exact H.a
 ·rw [List.getElem?_set_ne ok.hs.symm]; exact H.hs
 ·rw [List.getElem?_set_ne ok.ts.symm]; exact H.t
 ·rw [List.getElem?_set_self H.lt.s]; rfl
 ·rw [List.getElem?_set_ne ok.so]; exact H.o
theorem HpF.at' {j : Jur} {lds : List Int} {L : Loc} {s : Fs} {h : Heap} (H : HpF j lds L s h) (ok : L.ok) (f : Nat → Option Nat) : HpF j lds L { s with pl := f } (h.set L.ba (.cells L.ga (atC j.pts.length f) 0)) := by
 refine ⟨?_, ?_, ?_, ?_, ?_, ?_⟩
 ·rw [List.getElem?_set_ne ok.fa.symm]; exact H.f
 ·rw [List.getElem?_set_self H.lt.a]
 ·rw [List.getElem?_set_ne ok.ah]; exact H.hs
 ·rw [List.getElem?_set_ne ok.at']; exact H.t
 ·rw [List.getElem?_set_ne ok.asl]; exact H.sl
 ·rw [List.getElem?_set_ne ok.ao]; exact H.o
theorem HpF.has' {j : Jur} {lds : List Int} {L : Loc} {s : Fs} {h : Heap} (H : HpF j lds L s h) (ok : L.ok) (f : Nat → Int) : HpF j lds L { s with has := f } (h.set L.bh (.cells 1 (hasF j.ofs.length f) 0)) := by
 refine ⟨?_, ?_, ?_, ?_, ?_, ?_⟩
 ·rw [List.getElem?_set_ne ok.fh.symm]; exact H.f
 ·rw [List.getElem?_set_ne ok.ah.symm]; exact H.a
 ·rw [List.getElem?_set_self H.lt.h]
 ·rw [List.getElem?_set_ne ok.ht]; exact H.t
 ·rw [List.getElem?_set_ne ok.hs]; exact H.sl
 ·rw [List.getElem?_set_ne ok.ho]; exact H.o
theorem HpF.tried' {j : Jur} {lds : List Int} {L : Loc} {s : Fs} {h : Heap} (H : HpF j lds L s h) (ok : L.ok) (f : Nat → Bool) : HpF j lds L { s with tried := f } (h.set L.bt (.cells 1 (boolC j.pts.length f) 0)) := by
 refine ⟨?_, ?_, ?_, ?_, ?_, ?_⟩
 ·rw [List.getElem?_set_ne ok.ft.symm]; exact H.f
 ·rw [List.getElem?_set_ne ok.at'.symm]; exact H.a
 ·rw [List.getElem?_set_ne ok.ht.symm]; exact H.hs
 ·rw [List.getElem?_set_self H.lt.t]
 ·rw [List.getElem?_set_ne ok.ts]; exact H.sl
 ·rw [List.getElem?_set_ne ok.to]; exact H.o
theorem HpF.offs' {j : Jur} {lds : List Int} {L : Loc} {s : Fs} {h : Heap} (H : HpF j lds L s h) (ok : L.ok) (f : Nat → Bool) : HpF j lds L { s with offs := f } (h.set L.bo (.cells 1 (boolC j.ofs.length f) 0)) := by
 refine ⟨?_, ?_, ?_, ?_, ?_, ?_⟩
 ·rw [List.getElem?_set_ne ok.fo.symm]; exact H.f
 ·rw [List.getElem?_set_ne ok.ao.symm]; exact H.a
 ·rw [List.getElem?_set_ne ok.ho.symm]; exact H.hs
 ·rw [List.getElem?_set_ne ok.to.symm]; exact H.t
 ·rw [List.getElem?_set_ne ok.so.symm]; exact H.sl
 ·rw [List.getElem?_set_self H.lt.o]
def TP (j : Jur) (L : Loc) (p : Nat) (i : Int) : List LV := [.ptr L.bf 0 0, .c (ci p), .map L.bs, .slice L.bo 1 0 j.ofs.length none (some j.ofs.length), .c (ci j.ofs.length), .c (ci i)]
def slB (i : Nat) (h : Int) : LB := .cells 0 [.c (ci i), .c (ci h)] 0
theorem B143_skip (j : Jur) (hj : j.ok) (lds : List Int) (hjl : j.ofs.length < 1000) (L : Loc) (s : Fs) (hx : Heap) (H : HpF j lds L s hx) (p i : Nat) (hp : p < j.pts.length) (hi : i < j.ofs.length) (hc : (jy j lds).sv i p = false ∨ (i, (jy j lds).hr p) ∈ s.slots) :
  execS P (limS P) c143_l0b ⟨TP j L p i, hx⟩ = some (.normal, ⟨TP j L p (i + 1), hx ++ [slB i (hourAt j p)]⟩) := by
 have hw : IntKind.i64.wrap ((i : Int) + 1) = (i : Int) + 1 := wrap64 (by omega) (by omega)
 obtain ⟨gp, gpe⟩ : ∃ q, j.pts[p]? = some q := ⟨_, List.getElem?_eq_getElem hp⟩
 obtain ⟨go, goe⟩ : ∃ q, j.ofs[i]? = some q := ⟨_, List.getElem?_eq_getElem hi⟩
 have e111 := S111 (P := P) j hj i p go gp goe gpe
 have hsv : (jy j lds).sv i p = servesB go gp := by simp [jy, servesV, goe, gpe]
 have hh : hourAt j p = gp.hour := by unfold hourAt; rw [gpe]
 have hjh : (jy j lds).hr p = gp.hour := hh
 rw [hsv, hjh] at hc
 have gpe' := (List.getElem?_eq_some_iff.1 gpe).2
 have q1 := H.lt.f
 have q5 := H.lt.s
 have a1 : ∀ X : LB, (hx ++ [X])[L.bf]? = some (fB j lds L 0) := fun X => by rw [List.getElem?_append_left q1]; exact H.f
 have a1' := fun X => (List.getElem?_eq_some_iff.1 (a1 X)).2
 have f1' := (List.getElem?_eq_some_iff.1 H.f).2
 have a5 : ∀ X : LB, (hx ++ [X])[L.bs]? = some (.map (s.slots.map slotC) (tv s.slots) false) := fun X => by rw [List.getElem?_append_left q5]; exact H.sl
 have a5' := fun X => (List.getElem?_eq_some_iff.1 (a5 X)).2
 have l1 : L.bf < hx.length + 1 := by omega
 have l5 : L.bs < hx.length + 1 := by omega
 have hf := find_slot (i, gp.hour) s.slots
 have hko : keyOk (.many [0, 0]) (.agg [ci i, ci gp.hour]) = true := rfl
 simp only [slotC] at hf
 simp [Jur.enc] at e111
 rw [hh]
 cases hs : servesB go gp
 ·rw [hs] at e111
  simp [TP, c143_l0b, hi, hw, H.f, f1', q1, fB, hp, gpe, gpe', Pst.enc, a1, a1', l1, e111, slB]
 ·rw [hs] at e111 hc
  simp at hc
  cases hx2 : sIdx (i, gp.hour) s.slots with
  | none => exact absurd hc (sIdx_none.1 hx2)
  | some k =>
   rw [hx2] at hf
   have ht := tv_get (sIdx_some hx2)
   simp [TP, c143_l0b, hi, hw, H.f, f1', q1, fB, hp, gpe, gpe', Pst.enc, a1, a1', l1, e111, slB, hf, hko, a5, a5', l5, ht]
def slH (L : Loc) (s : Fs) (hx : Heap) (i : Nat) (h : Int) : Heap := hx.set L.bs (.map ((s.slots ++ [(i, h)]).map slotC) (tv (s.slots ++ [(i, h)])) false) ++ [slB i h]
theorem B143_hold (j : Jur) (hj : j.ok) (lds : List Int) (hjl : j.ofs.length < 1000) (L : Loc) (hL : L.ok) (s : Fs) (hx : Heap) (H : HpF j lds L s hx) (p i : Nat) (hp : p < j.pts.length) (hi : i < j.ofs.length) (hsv : (jy j lds).sv i p = true) (hsl : (i, (jy j lds).hr p) ∉ s.slots)
  (o : Nat) (hy hz : Heap) (t : Fs) (e158 : sfn P 158 [.ptr L.bf 0 0, .c (.agg [ci i, ci (hourAt j p)])] (slH L s hx i (hourAt j p)) = some (.c (ci o), hy)) (b : Bool)
  (e143 : sfn P 143 [.ptr L.bf 0 0, .c (ci o), .map L.bs, .slice L.bo 1 0 j.ofs.length none (some j.ofs.length)] hy = some (.c (.bool b), hz)) (Ht : HpF j lds L t hz) :
  execS P (limS P) c143_l0b ⟨TP j L p i, hx⟩ = if b then some (.ret, ⟨[.c (.bool true)], hz.set L.ba (.cells L.ga (atC j.pts.length (up t.pl p (some i))) 0)⟩) else some (.normal, ⟨TP j L p (i + 1), hz⟩) := by
 have hw : IntKind.i64.wrap ((i : Int) + 1) = (i : Int) + 1 := wrap64 (by omega) (by omega)
 obtain ⟨gp, gpe⟩ : ∃ q, j.pts[p]? = some q := ⟨_, List.getElem?_eq_getElem hp⟩
 obtain ⟨go, goe⟩ : ∃ q, j.ofs[i]? = some q := ⟨_, List.getElem?_eq_getElem hi⟩
 have e111 := S111 (P := P) j hj i p go gp goe gpe
 have hsv' : (jy j lds).sv i p = servesB go gp := by simp [jy, servesV, goe, gpe]
 have hh : hourAt j p = gp.hour := by unfold hourAt; rw [gpe]
 have hjh : (jy j lds).hr p = gp.hour := hh
 rw [hsv'] at hsv
 rw [hjh] at hsl
 rw [hsv] at e111
 have gpe' := (List.getElem?_eq_some_iff.1 gpe).2
 have q1 := H.lt.f
 have q5 := H.lt.s
 have a1 : ∀ X : LB, (hx ++ [X])[L.bf]? = some (fB j lds L 0) := fun X => by rw [List.getElem?_append_left q1]; exact H.f
 have a1' := fun X => (List.getElem?_eq_some_iff.1 (a1 X)).2
 have f1' := (List.getElem?_eq_some_iff.1 H.f).2
 have a5 : ∀ X : LB, (hx ++ [X])[L.bs]? = some (.map (s.slots.map slotC) (tv s.slots) false) := fun X => by rw [List.getElem?_append_left q5]; exact H.sl
 have a5' := fun X => (List.getElem?_eq_some_iff.1 (a5 X)).2
 have l1 : L.bf < hx.length + 1 := by omega
 have l5 : L.bs < hx.length + 1 := by omega
 have hf := find_slot (i, gp.hour) s.slots
 rw [sIdx_none.2 hsl] at hf
 have hko : keyOk (.many [0, 0]) (.agg [ci i, ci gp.hour]) = true := rfl
 simp only [slotC] at hf
 simp [Jur.enc] at e111
 have hset : (hx ++ [slB i gp.hour]).set L.bs (.map (s.slots.map slotC ++ [.agg [ci i, ci gp.hour]]) (tv s.slots ++ [.c (.bool true)]) false) = slH L s hx i gp.hour := by
  rw [List.set_append_left _ _ q5]
  unfold slH
  simp [tv, slotC]
 have g7 : (slH L s hx i gp.hour)[hx.length]? = some (.cells 0 [.c (ci i), .c (ci gp.hour)] 0) := by
  unfold slH
  rw [List.getElem?_append_right (by simp)]
  simp [slB]
 have z1 := Ht.lt.f
 have z2 := Ht.lt.a
 have z1' := (List.getElem?_eq_some_iff.1 Ht.f).2
 have z2' := (List.getElem?_eq_some_iff.1 Ht.a).2
 have hal := atC_len j.pts.length t.pl
 have hpl : p + 1 ≤ j.pts.length := hp
 have hset2 := atC_set j.pts.length t.pl p i
 rw [hh] at e158
 simp only [slB] at hset
 have ho : (0 : Int) ≤ (o : Int) := by omega
 cases b
 ·simp [TP, c143_l0b, hi, hw, H.f, f1', q1, fB, hp, gpe, gpe', Pst.enc, a1, a1', l1, e111, hf, hko, a5, a5', l5, hset, frzFuncs_nil, frzFuncs_c, frzFuncs_slice, frzFuncs_ptr, frzFuncs_map, g7, e158, ho, e143]
 ·simp [TP, c143_l0b, hi, hw, H.f, f1', q1, fB, hp, gpe, gpe', Pst.enc, a1, a1', l1, e111, hf, hko, a5, a5', l5, hset, frzFuncs_nil, frzFuncs_c, frzFuncs_slice, frzFuncs_ptr, frzFuncs_map, g7, e158, ho, e143, Ht.f, Ht.a, z1, z2, z1', z2', hal, hpl, hset2]
theorem B143_free (j : Jur) (hj : j.ok) (lds : List Int) (hjl : j.ofs.length < 1000) (L : Loc) (hL : L.ok) (s : Fs) (hx : Heap) (H : HpF j lds L s hx) (p i : Nat) (hp : p < j.pts.length) (hi : i < j.ofs.length) (hsv : (jy j lds).sv i p = true) (hsl : (i, (jy j lds).hr p) ∉ s.slots)
  (hy hz : Heap) (t : Fs) (e158 : sfn P 158 [.ptr L.bf 0 0, .c (.agg [ci i, ci (hourAt j p)])] (slH L s hx i (hourAt j p)) = some (.c (ci (-1)), hy)) (b : Bool)
  (e143 : sfn P 159 [.ptr L.bf 0 0, .c (ci i), .map L.bs, .slice L.bo 1 0 j.ofs.length none (some j.ofs.length)] hy = some (.c (.bool b), hz)) (Ht : HpF j lds L t hz) (hb : -1000 ≤ t.has i ∧ t.has i ≤ 1000) :
  execS P (limS P) c143_l0b ⟨TP j L p i, hx⟩ = if b then some (.ret, ⟨[.c (.bool true)], (hz.set L.ba (.cells L.ga (atC j.pts.length (up t.pl p (some i))) 0)).set L.bh (.cells 1 (hasF j.ofs.length (up t.has i (t.has i + 1))) 0)⟩) else some (.normal, ⟨TP j L p (i + 1), hz⟩) := by
 have hw : IntKind.i64.wrap ((i : Int) + 1) = (i : Int) + 1 := wrap64 (by omega) (by omega)
 obtain ⟨gp, gpe⟩ : ∃ q, j.pts[p]? = some q := ⟨_, List.getElem?_eq_getElem hp⟩
 obtain ⟨go, goe⟩ : ∃ q, j.ofs[i]? = some q := ⟨_, List.getElem?_eq_getElem hi⟩
 have e111 := S111 (P := P) j hj i p go gp goe gpe
 have hsv' : (jy j lds).sv i p = servesB go gp := by simp [jy, servesV, goe, gpe]
 have hh : hourAt j p = gp.hour := by unfold hourAt; rw [gpe]
 have hjh : (jy j lds).hr p = gp.hour := hh
 rw [hsv'] at hsv
 rw [hjh] at hsl
 rw [hsv] at e111
 have gpe' := (List.getElem?_eq_some_iff.1 gpe).2
 have q1 := H.lt.f
 have q5 := H.lt.s
 have a1 : ∀ X : LB, (hx ++ [X])[L.bf]? = some (fB j lds L 0) := fun X => by rw [List.getElem?_append_left q1]; exact H.f
 have a1' := fun X => (List.getElem?_eq_some_iff.1 (a1 X)).2
 have f1' := (List.getElem?_eq_some_iff.1 H.f).2
 have a5 : ∀ X : LB, (hx ++ [X])[L.bs]? = some (.map (s.slots.map slotC) (tv s.slots) false) := fun X => by rw [List.getElem?_append_left q5]; exact H.sl
 have a5' := fun X => (List.getElem?_eq_some_iff.1 (a5 X)).2
 have l1 : L.bf < hx.length + 1 := by omega
 have l5 : L.bs < hx.length + 1 := by omega
 have hf := find_slot (i, gp.hour) s.slots
 rw [sIdx_none.2 hsl] at hf
 have hko : keyOk (.many [0, 0]) (.agg [ci i, ci gp.hour]) = true := rfl
 simp only [slotC] at hf
 simp [Jur.enc] at e111
 have hset : (hx ++ [slB i gp.hour]).set L.bs (.map (s.slots.map slotC ++ [.agg [ci i, ci gp.hour]]) (tv s.slots ++ [.c (.bool true)]) false) = slH L s hx i gp.hour := by
  rw [List.set_append_left _ _ q5]
  unfold slH
  simp [tv, slotC]
 have g7 : (slH L s hx i gp.hour)[hx.length]? = some (.cells 0 [.c (ci i), .c (ci gp.hour)] 0) := by
  unfold slH
  rw [List.getElem?_append_right (by simp)]
  simp [slB]
 have z1 := Ht.lt.f
 have z2 := Ht.lt.a
 have z1' := (List.getElem?_eq_some_iff.1 Ht.f).2
 have z2' := (List.getElem?_eq_some_iff.1 Ht.a).2
 have hal := atC_len j.pts.length t.pl
 have hpl : p + 1 ≤ j.pts.length := hp
 have hset2 := atC_set j.pts.length t.pl p i
 rw [hh] at e158
 simp only [slB] at hset
 have Ht2 := Ht.at' hL (up t.pl p (some i))
 have y1 := Ht2.lt.f
 have y3 := Ht2.lt.h
 have y1' := (List.getElem?_eq_some_iff.1 Ht2.f).2
 have y3' := (List.getElem?_eq_some_iff.1 Ht2.hs).2
 have z3 := Ht.lt.h
 have hhl := hasF_len j.ofs.length t.has
 have hge := hasF_get t.has hi
 have hge' := (List.getElem?_eq_some_iff.1 hge).2
 have hil : i + 1 ≤ j.ofs.length := hi
 have hset3 := hasF_set j.ofs.length t.has i (t.has i + 1)
 have hwh : IntKind.i64.wrap (t.has i + 1) = t.has i + 1 := wrap64 (by omega) (by omega)
 cases b
 ·simp [TP, c143_l0b, hi, hw, H.f, f1', q1, fB, hp, gpe, gpe', Pst.enc, a1, a1', l1, e111, hf, hko, a5, a5', l5, hset, frzFuncs_nil, frzFuncs_c, frzFuncs_slice, frzFuncs_ptr, frzFuncs_map, g7, e158, e143]
 ·simp [TP, c143_l0b, hi, hw, H.f, f1', q1, fB, hp, gpe, gpe', Pst.enc, a1, a1', l1, e111, hf, hko, a5, a5', l5, hset, frzFuncs_nil, frzFuncs_c, frzFuncs_slice, frzFuncs_ptr, frzFuncs_map, g7, e158, e143, Ht.f, Ht.a, Ht2.f, Ht2.hs, y1, y3, y1', y3', z3, hhl, hge, hge', hil, hset3, hwh, z1, z2, z1', z2', hal, hpl, hset2]
def TR (j : Jur) (L : Loc) (i : Nat) (p : Int) : List LV := [.ptr L.bf 0 0, .c (ci i), .map L.bs, .slice L.bo 1 0 j.ofs.length none (some j.ofs.length), .slice L.ba L.ga 0 j.pts.length none L.ca, .c (ci j.pts.length), .c (ci p)]
theorem optI_eq {o : Option Nat} {i : Nat} : optI o = (i : Int) ↔ o = some i := by
 cases o with
 | none => simp [optI]
 | some a => simp [optI]; omega
theorem B159_skip (j : Jur) (lds : List Int) (hjl : j.pts.length < 1000) (L : Loc) (s : Fs) (hx : Heap) (H : HpF j lds L s hx) (p i : Nat) (hp : p < j.pts.length) (hc : s.pl p ≠ some i) :
  execS P (limS P) c159_l0b ⟨TR j L i p, hx⟩ = some (.normal, ⟨TR j L i (p + 1), hx⟩) := by
 have hw : IntKind.i64.wrap ((p : Int) + 1) = (p : Int) + 1 := wrap64 (by omega) (by omega)
 have z2 := H.lt.a
 have z2' := (List.getElem?_eq_some_iff.1 H.a).2
 have hal := atC_len j.pts.length s.pl
 have gP := atC_get s.pl hp
 have gP' := (List.getElem?_eq_some_iff.1 gP).2
 have hc' : ¬ optI (s.pl p) = (i : Int) := fun h => hc (optI_eq.1 h)
 simp [TR, c159_l0b, hp, hw, H.a, z2, z2', hal, gP, gP', hc']
theorem B159_go (j : Jur) (lds : List Int) (hjl : j.pts.length < 1000) (L : Loc) (hL : L.ok) (s : Fs) (hx : Heap) (H : HpF j lds L s hx) (p i : Nat) (hp : p < j.pts.length) (hi : i < j.ofs.length) (hc : s.pl p = some i) (hz : Heap) (t : Fs) (b : Bool)
  (e143 : sfn P 143 [.ptr L.bf 0 0, .c (ci p), .map L.bs, .slice L.bo 1 0 j.ofs.length none (some j.ofs.length)] (hx.set L.bs (.map ((putS s.slots (i, hourAt j p)).map slotC) (tv (putS s.slots (i, hourAt j p))) false)) = some (.c (.bool b), hz)) (Ht : HpF j lds L t hz) (hb : -1000 ≤ t.has i ∧ t.has i ≤ 1000) :
  execS P (limS P) c159_l0b ⟨TR j L i p, hx⟩ = if b then some (.ret, ⟨[.c (.bool true)], hz.set L.bh (.cells 1 (hasF j.ofs.length (up t.has i (t.has i - 1))) 0)⟩) else some (.normal, ⟨TR j L i (p + 1), hz⟩) := by
 have hw : IntKind.i64.wrap ((p : Int) + 1) = (p : Int) + 1 := wrap64 (by omega) (by omega)
 obtain ⟨gp, gpe⟩ : ∃ q, j.pts[p]? = some q := ⟨_, List.getElem?_eq_getElem hp⟩
 have hh : hourAt j p = gp.hour := by unfold hourAt; rw [gpe]
 have gpe' := (List.getElem?_eq_some_iff.1 gpe).2
 have z2 := H.lt.a
 have z2' := (List.getElem?_eq_some_iff.1 H.a).2
 have hal := atC_len j.pts.length s.pl
 have gP := atC_get s.pl hp
 have gP' := (List.getElem?_eq_some_iff.1 gP).2
 have hc' : optI (s.pl p) = (i : Int) := optI_eq.2 hc
 have q1 := H.lt.f
 have q5 := H.lt.s
 have f1' := (List.getElem?_eq_some_iff.1 H.f).2
 have s1' := (List.getElem?_eq_some_iff.1 H.sl).2
 have hsl : hx[L.bs]? = some (.map (s.slots.map slotC) (tv s.slots) false) := H.sl
 have hsl' := (List.getElem?_eq_some_iff.1 hsl).2
 have hf := find_slot (i, gp.hour) s.slots
 have hko : keyOk (.many [0, 0]) (.agg [ci i, ci gp.hour]) = true := rfl
 simp only [slotC] at hf
 rw [hh] at e143
 have z1 := Ht.lt.f
 have z3 := Ht.lt.h
 have z1' := (List.getElem?_eq_some_iff.1 Ht.f).2
 have z3' := (List.getElem?_eq_some_iff.1 Ht.hs).2
 have hhl := hasF_len j.ofs.length t.has
 have hge := hasF_get t.has hi
 have hge' := (List.getElem?_eq_some_iff.1 hge).2
 have hil : i + 1 ≤ j.ofs.length := hi
 have hset3 := hasF_set j.ofs.length t.has i (t.has i - 1)
 have hwh : IntKind.i64.wrap (t.has i - 1) = t.has i - 1 := wrap64 (by omega) (by omega)
 cases hx2 : sIdx (i, gp.hour) s.slots with
 | none =>
  have hnm := sIdx_none.1 hx2
  rw [hx2] at hf
  have hput : putS s.slots (i, gp.hour) = s.slots ++ [(i, gp.hour)] := if_neg hnm
  rw [hput] at e143
  simp [tv, slotC] at e143
  cases b
  ·simp [TR, c159_l0b, hp, hw, H.a, z2, z2', hal, gP, gP', hc', H.f, f1', q1, fB, gpe, gpe', Pst.enc, q5, hsl, hsl', hko, hf, tv, frzFuncs_nil, frzFuncs_c, frzFuncs_slice, frzFuncs_ptr, frzFuncs_map, e143]
  ·simp [TR, c159_l0b, hp, hw, H.a, z2, z2', hal, gP, gP', hc', H.f, f1', q1, fB, gpe, gpe', Pst.enc, q5, hsl, hsl', hko, hf, tv, frzFuncs_nil, frzFuncs_c, frzFuncs_slice, frzFuncs_ptr, frzFuncs_map, e143, Ht.f, Ht.hs, z1, z3, z1', z3', hhl, hge, hge', hil, hset3, hwh, hi]
 | some k =>
  have hk := sIdx_some hx2
  have hnm : (i, gp.hour) ∈ s.slots := by
   apply Classical.byContradiction
   intro h
   rw [sIdx_none.2 h] at hx2
   cases hx2
  rw [hx2] at hf
  have hput : putS s.slots (i, gp.hour) = s.slots := if_pos hnm
  have hts := tv_set s.slots k
  rw [hput] at e143
  cases b
  ·simp [TR, c159_l0b, hp, hw, H.a, z2, z2', hal, gP, gP', hc', H.f, f1', q1, fB, gpe, gpe', Pst.enc, q5, hsl, hsl', hko, hf, hts, frzFuncs_nil, frzFuncs_c, frzFuncs_slice, frzFuncs_ptr, frzFuncs_map, e143]
  ·simp [TR, c159_l0b, hp, hw, H.a, z2, z2', hal, gP, gP', hc', H.f, f1', q1, fB, gpe, gpe', Pst.enc, q5, hsl, hsl', hko, hf, hts, frzFuncs_nil, frzFuncs_c, frzFuncs_slice, frzFuncs_ptr, frzFuncs_map, e143, Ht.f, Ht.hs, z1, z3, z1', z3', hhl, hge, hge', hil, hset3, hwh, hi]
abbrev loS (j : Jur) (L : Loc) : LV := .slice L.bo 1 0 j.ofs.length none (some j.ofs.length)
def PlaceW (P : Nat → Option SFunc) (j : Jur) (lds : List Int) (L : Loc) (f : Nat) : Prop := ∀ (p : Nat) (s : Fs) (hx : Heap), p < j.pts.length → HpF j lds L s hx → Inv (jy j lds) s → Own (jy j lds) s p → untried (jy j lds) s ≤ f →
 ∃ h', sfn P 143 [.ptr L.bf 0 0, .c (ci p), .map L.bs, loS j L] hx = some (.c (.bool (placeF (jy j lds) (f + 1) p s).1), h') ∧ HpF j lds L (placeF (jy j lds) (f + 1) p s).2 h' ∧ Fr L hx h'
def FreeW (P : Nat → Option SFunc) (j : Jur) (lds : List Int) (L : Loc) (f : Nat) : Prop := ∀ (i : Nat) (s : Fs) (hx : Heap), i < j.ofs.length → HpF j lds L s hx → Inv (jy j lds) s → untried (jy j lds) s ≤ f →
 ∃ h', sfn P 159 [.ptr L.bf 0 0, .c (ci i), .map L.bs, loS j L] hx = some (.c (.bool (freeF (jy j lds) (placeF (jy j lds) (f + 1)) i s).1), h') ∧ HpF j lds L (freeF (jy j lds) (placeF (jy j lds) (f + 1)) i s).2 h' ∧ Fr L hx h'
theorem cnt_m (J : Jy) (B : Nat → Option Nat) (i : Nat) : cntA J B i ≤ J.m := by
 have := List.countP_le_length (p := fun p => decide (B p = some i)) (l := List.range J.m)
 rw [List.length_range] at this
 exact this
theorem under_TP {j : Jur} {L : Loc} {p : Nat} {i : Int} {n : Nat} (h : L.lt n) : ∀ v ∈ TP j L p i, v.under n = true := by
 intro v hv
 simp only [TP, List.mem_cons, List.not_mem_nil, or_false] at hv
 have := h.f
 have := h.s
 have := h.o
 rcases hv with rfl | rfl | rfl | rfl | rfl | rfl <;> simp [LV.under] <;> omega
theorem under_TR {j : Jur} {L : Loc} {i : Nat} {p : Int} {n : Nat} (h : L.lt n) : ∀ v ∈ TR j L i p, v.under n = true := by
 intro v hv
 simp only [TR, List.mem_cons, List.not_mem_nil, or_false] at hv
 have := h.f
 have := h.s
 have := h.o
 have := h.a
 rcases hv with rfl | rfl | rfl | rfl | rfl | rfl | rfl <;> simp [LV.under] <;> omega
theorem L159 (j : Jur) (lds : List Int) (hjl : j.pts.length < 1000) (L : Loc) (hL : L.ok) (f : Nat) (hW : PlaceW P j lds L f) (i : Nat) (hi : i < j.ofs.length) : ∀ (m k : Nat) (s : Fs) (hx : Heap), k + m = j.pts.length → HpF j lds L s hx → Inv (jy j lds) s → untried (jy j lds) s ≤ f → (jy j lds).ld i ≤ s.has i → s.offs i = true →
  ∃ h', execS P (limS P) c159_l0 ⟨TR j L i k, hx⟩ = (if (freeL (jy j lds) (placeF (jy j lds) (f + 1)) i (List.range' k m) s).1 = true then some (.ret, ⟨[.c (.bool true)], h'⟩) else some (.exit 0, ⟨[], h'⟩)) ∧ HpF j lds L (freeL (jy j lds) (placeF (jy j lds) (f + 1)) i (List.range' k m) s).2 h' ∧ Fr L hx h' := by
 intro m
 induction m with
 | zero =>
  intro k s hx hk H _ _ _ _
  refine ⟨hx, ?_, H, Fr.rfl' L hx⟩
  have hk' : k = j.pts.length := by omega
  rw [r159_l0]
  simp [TR, c159_l0b, hk', freeL]
 | succ m ih =>
  intro k s hx hk H hI hu hld ho
  have hkl : k < j.pts.length := by omega
  rw [List.range'_succ, freeL, r159_l0]
  by_cases hc : s.pl k ≠ some i
  ·rw [if_pos hc, B159_skip j lds hjl L s hx H k i hkl hc, seqK_normal]
   obtain ⟨hg, hg1, hg2⟩ := gc_any (n := hx.length) (ts := TR j L i (k + 1)) (h := hx) (Nat.le_refl _) (under_TR H.lt)
   show ∃ h', execS P (limS P) c159_l0 (gc hx.length _) = _ ∧ _
   rw [hg1]
   obtain ⟨h', i1, i2, i3⟩ := ih (k + 1) s hg (by omega) (H.near H.lt hg2) hI hu hld ho
   have ek : ((k + 1 : Nat) : Int) = (k : Int) + 1 := by omega
   rw [ek] at i1
   exact ⟨h', i1, i2, hg2.fr.trans i3⟩
  ·have hc : s.pl k = some i := Classical.not_not.1 hc
   rw [if_neg (by simp [hc])]
   have H1 := H.slots hL (putS s.slots (i, hourAt j k))
   have hO : Own (jy j lds) { s with slots := putS s.slots (i, hourAt j k) } k := fun a ha => putS_mem.2 (.inr (by have : some i = some a := hc.symm.trans ha; cases this; rfl))
   obtain ⟨hz, e1, e2, e3⟩ := hW k { s with slots := putS s.slots (i, hourAt j k) } _ hkl H1 (hI.same rfl rfl) hO hu
   obtain ⟨g1, g2⟩ := placeF_good (J := jy j lds) f k { s with slots := putS s.slots (i, hourAt j k) } hkl (hI.same rfl rfl) hO hu
   have hfr : Fr L hx hz := ((Fr.rfl' L hx).set (.inr (.inr (.inr (.inl rfl)))) _).trans e3
   have ehr : (jy j lds).hr k = hourAt j k := rfl
   rw [ehr]
   generalize placeF (jy j lds) (f + 1) k { s with slots := putS s.slots (i, hourAt j k) } = r at *
   have hcnt := hI.cnt i hi
   have hcm := cnt_m (jy j lds) s.pl i
   have hjm : (jy j lds).m = j.pts.length := rfl
   cases hr : r.1
   ·obtain ⟨v1, v2⟩ := g1 hr
    have v3 := v1.add (.inl ⟨k, hkl, by rw [v1.pl]; exact hc, rfl, v2⟩)
    rw [hr] at e1
    have hb : -1000 ≤ r.2.has i ∧ r.2.has i ≤ 1000 := by rw [v1.has]; simp only; omega
    rw [B159_go j lds hjl L hL s hx H k i hkl hi hc hz r.2 false e1 e2 hb]
    simp only [Bool.false_eq_true, if_false, seqK_normal]
    obtain ⟨hg, hg1, hg2⟩ := gc_any (n := hx.length) (ts := TR j L i (k + 1)) (h := hz) hfr.1 (under_TR H.lt)
    rw [hg1]
    obtain ⟨h', i1, i2, i3⟩ := ih (k + 1) r.2 hg (by omega) (e2.near H.lt hg2) (hI.same v1.pl v1.has) (Nat.le_trans (untried_le v3.tried) hu) (by rw [v1.has]; exact hld) (v1.offs i ho)
    have ek : ((k + 1 : Nat) : Int) = (k : Int) + 1 := by omega
    rw [ek] at i1
    refine ⟨h', i1, i2, ?_⟩
    exact Fr.trans ⟨hg2.1, fun x hx1 a b c d e => (hg2.2 x hx1).trans (hfr.2 x hx1 a b c d e)⟩ i3
   ·obtain ⟨_, w⟩ := g2 hr
    rw [hr] at e1
    have hw := w.cnt i hi
    have hwm := cnt_m (jy j lds) r.2.pl i
    have hb : -1000 ≤ r.2.has i ∧ r.2.has i ≤ 1000 := by split at hw <;> omega
    rw [B159_go j lds hjl L hL s hx H k i hkl hi hc hz r.2 true e1 e2 hb]
    simp only [if_true, seqK_ret]
    exact ⟨_, rfl, e2.has' hL _, hfr.set (.inr (.inl rfl)) _⟩
theorem W159 (j : Jur) (lds : List Int) (hlds : lds.length = j.ofs.length) (hjl : j.pts.length < 1000) (L : Loc) (hL : L.ok) (f : Nat) (hW : PlaceW P j lds L f) : FreeW P j lds L f := by
 intro i s hx hi H hI hu
 have q1 := H.lt.f
 have q3 := H.lt.h
 have q6 := H.lt.o
 have f1' := (List.getElem?_eq_some_iff.1 H.f).2
 have h1' := (List.getElem?_eq_some_iff.1 H.hs).2
 have o1' := (List.getElem?_eq_some_iff.1 H.o).2
 have hhl := hasF_len j.ofs.length s.has
 have hge := hasF_get s.has hi
 have hge' := (List.getElem?_eq_some_iff.1 hge).2
 have hbl := boolC_len j.ofs.length s.offs
 have hbe := boolC_get s.offs hi
 have hbe' := (List.getElem?_eq_some_iff.1 hbe).2
 have hbs := boolC_set j.ofs.length s.offs i true
 have hil : i < lds.length := by omega
 have hld : (jy j lds).ld i = lds[i] := by simp [jy, List.getD_eq_getElem?_getD, List.getElem?_eq_getElem hil]
 have hil2 : i + 1 ≤ j.ofs.length := hi
 have hil3 : (i : Int) < lds.length := by omega
 have hi3 : (i : Int) < j.ofs.length := by omega
 rw [u159]
 unfold freeF
 rw [hld]
 by_cases h1 : s.has i < lds[i]
 ·rw [if_pos h1]
  refine ⟨hx, ?_, H, Fr.rfl' L hx⟩
  simp [c159, H.f, f1', q1, fB, H.hs, h1', q3, hi, hi3, hhl, hge, hge', hil, hil3, h1]
 ·rw [if_neg h1]
  by_cases h2 : s.offs i = true
  ·rw [if_pos h2]
   refine ⟨hx, ?_, H, Fr.rfl' L hx⟩
   simp [c159, H.f, f1', q1, fB, H.hs, h1', q3, hi, hi3, hhl, hge, hge', hil, hil3, h1, H.o, o1', q6, hbl, hbe, hbe', h2]
  ·rw [if_neg h2]
   have h2 : s.offs i = false := by simpa using h2
   have H1 := H.offs' hL (up s.offs i true)
   obtain ⟨h', k1, k2, k3⟩ := L159 (P := P) j lds hjl L hL f hW i hi j.pts.length 0 { s with offs := up s.offs i true } _ (by omega) H1 (hI.same rfl rfl) hu (by rw [hld]; exact Int.not_lt.1 h1) (up_same _ _ _)
   have er : List.range' 0 j.pts.length = List.range (jy j lds).m := (List.range_eq_range').symm
   rw [er] at k1 k2
   have p1 := H1.lt.f
   have p1' := (List.getElem?_eq_some_iff.1 H1.f).2
   refine ⟨h', ?_, k2, Fr.trans ((Fr.rfl' L hx).set (.inr (.inr (.inr (.inr rfl)))) _) k3⟩
   generalize freeL (jy j lds) (placeF (jy j lds) (f + 1)) i (List.range (jy j lds).m) { s with offs := up s.offs i true } = r at *
   have p2 := H1.f
   simp only [TR] at k1
   cases hr : r.1
   ·rw [hr] at k1
    simp at k1
    simp [c159, H.f, f1', q1, fB, H.hs, h1', q3, hi, hi3, hhl, hge, hge', hil, hil3, h1, H.o, o1', q6, hbl, hbe, hbe', h2, hbs, hil2, p2, p1, p1', k1]
   ·rw [hr] at k1
    simp at k1
    simp [c159, H.f, f1', q1, fB, H.hs, h1', q3, hi, hi3, hhl, hge, hge', hil, hil3, h1, H.o, o1', q6, hbl, hbe, hbe', h2, hbs, hil2, p2, p1, p1', k1]
theorem HpF.app {j : Jur} {lds : List Int} {L : Loc} {s : Fs} {h : Heap} (H : HpF j lds L s h) (X : Heap) : HpF j lds L s (h ++ X) := H.near H.lt ((Same.rfl' (Nat.le_refl _)).app X)
theorem Fr.gc {L : Loc} {h k l : Heap} (h1 : Fr L h k) (h2 : Same h.length k l) : Fr L h l := ⟨h2.1, fun x hx a b c d e => (h2.2 x hx).trans (h1.2 x hx a b c d e)⟩
theorem L143 (j : Jur) (hj : j.ok) (lds : List Int) (hjl : j.ofs.length < 1000) (hjp : j.pts.length < 1000) (L : Loc) (hL : L.ok) (f : Nat) (hW : PlaceW P j lds L f) (hV : FreeW P j lds L f) (p : Nat) (hp : p < j.pts.length) : ∀ (m k : Nat) (s : Fs) (hx : Heap), k + m = j.ofs.length → HpF j lds L s hx → Inv (jy j lds) s → Own (jy j lds) s p → s.tried p = true → untried (jy j lds) s ≤ f →
  ∃ h', execS P (limS P) c143_l0 ⟨TP j L p k, hx⟩ = (if (tryL (jy j lds) (placeF (jy j lds) (f + 1)) p (List.range' k m) s).1 = true then some (.ret, ⟨[.c (.bool true)], h'⟩) else some (.exit 0, ⟨[], h'⟩)) ∧ HpF j lds L (tryL (jy j lds) (placeF (jy j lds) (f + 1)) p (List.range' k m) s).2 h' ∧ Fr L hx h' := by
 intro m
 induction m with
 | zero =>
  intro k s hx hk H _ _ _ _
  refine ⟨hx, ?_, H, Fr.rfl' L hx⟩
  have hk' : k = j.ofs.length := by omega
  rw [r143_l0]
  simp [TP, c143_l0b, hk', tryL]
 | succ m ih =>
  intro k s hx hk H hI hO ht hu
  have hkl : k < j.ofs.length := by omega
  have ek : ((k + 1 : Nat) : Int) = (k : Int) + 1 := by omega
  have ehr : (jy j lds).hr p = hourAt j p := rfl
  rw [List.range'_succ, tryL, r143_l0]
  -- behind a search in vain
  have vain : ∀ (t : Fs) (hz : Heap), HpF j lds L t hz → Fr L hx hz → Vain (jy j lds) s t → ∃ h', execS P (limS P) c143_l0 (gc hx.length ⟨TP j L p (k + 1), hz⟩) = (if (tryL (jy j lds) (placeF (jy j lds) (f + 1)) p (List.range' (k + 1) m) t).1 = true then some (.ret, ⟨[.c (.bool true)], h'⟩) else some (.exit 0, ⟨[], h'⟩)) ∧ HpF j lds L (tryL (jy j lds) (placeF (jy j lds) (f + 1)) p (List.range' (k + 1) m) t).2 h' ∧ Fr L hx h' := by
   intro t hz Ht hfr v
   obtain ⟨hg, hg1, hg2⟩ := gc_any (n := hx.length) (ts := TP j L p (k + 1)) (h := hz) hfr.1 (under_TP H.lt)
   rw [hg1]
   obtain ⟨h', i1, i2, i3⟩ := ih (k + 1) t hg (by omega) (Ht.near H.lt hg2) (hI.same v.pl v.has) (fun a ha => v.slots _ (hO a (by rw [← v.pl]; exact ha))) (v.tried p ht) (Nat.le_trans (untried_le v.tried) hu)
   rw [ek] at i1
   exact ⟨h', i1, i2, (hfr.gc hg2).trans i3⟩
  by_cases hc : (jy j lds).sv k p = false ∨ (k, (jy j lds).hr p) ∈ s.slots
  ·rw [if_pos hc, B143_skip j hj lds hjl L s hx H p k hp hkl hc, seqK_normal]
   exact vain s _ (H.app _) ((Fr.rfl' L hx).trans ((Same.rfl' (Nat.le_refl _)).app _).fr) (Vain.rfl' s)
  ·rw [if_neg hc]
   obtain ⟨hsv, hsl⟩ := not_or.1 hc
   have hsv : (jy j lds).sv k p = true := by simpa using hsv
   have hput : putS s.slots (k, hourAt j p) = s.slots ++ [(k, hourAt j p)] := if_neg hsl
   have hpk : s.pl p ≠ some k := fun e => hsl (hO k e)
   have H1 : HpF j lds L { s with slots := putS s.slots (k, hourAt j p) } (slH L s hx k (hourAt j p)) := by
    rw [hput]
    unfold slH
    exact (H.slots hL _).app _
   have hfr1 : Fr L hx (slH L s hx k (hourAt j p)) := by
    unfold slH
    exact ((Fr.rfl' L hx).set (.inr (.inr (.inr (.inl rfl)))) _).trans ((Same.rfl' (Nat.le_refl _)).app _).fr
   obtain ⟨hy, y1, y2⟩ := S158 (P := P) j lds hjp L hL { s with slots := putS s.slots (k, hourAt j p) } (slH L s hx k (hourAt j p)) k (hourAt j p) H1
   have Hy := H1.near H1.lt y1
   have hfry := hfr1.trans y1.fr
   rw [ehr]
   have hcm := cnt_m (jy j lds) s.pl k
   have hcnt := hI.cnt k hkl
   have hjm : (jy j lds).m = j.pts.length := rfl
   cases ho : holdF (jy j lds) s.pl k (hourAt j p) with
   | some o =>
    simp only
    obtain ⟨o1, o2, o3⟩ := hold_some ho
    have o1' : o < j.pts.length := o1
    rw [show (({ s with slots := putS s.slots (k, hourAt j p) } : Fs).pl) = s.pl from rfl, ho] at y2
    have hO1 : Own (jy j lds) { s with slots := putS s.slots (k, hourAt j p) } o := fun a ha => putS_mem.2 (.inr (by have : some k = some a := o3.symm.trans ha; cases this; rw [o2]))
    obtain ⟨hz, e1, e2, e3⟩ := hW o { s with slots := putS s.slots (k, hourAt j p) } hy o1' Hy (hI.same rfl rfl) hO1 hu
    obtain ⟨g1, g2⟩ := placeF_good (J := jy j lds) f o { s with slots := putS s.slots (k, hourAt j p) } o1 (hI.same rfl rfl) hO1 hu
    generalize placeF (jy j lds) (f + 1) o { s with slots := putS s.slots (k, hourAt j p) } = r at *
    rw [B143_hold j hj lds hjl L hL s hx H p k hp hkl hsv hsl o hy hz r.2 y2 r.1 e1 e2]
    cases hr : r.1
    ·obtain ⟨v1, v2⟩ := g1 hr
     simp only [Bool.false_eq_true, if_false, seqK_normal]
     exact vain r.2 hz e2 (hfry.trans e3) (v1.add (.inl ⟨o, o1, by rw [v1.pl]; exact o3, o2, v2⟩))
    ·simp only [if_true, seqK_ret]
     exact ⟨_, rfl, e2.at' hL _, (hfry.trans e3).set (.inl rfl) _⟩
   | none =>
    simp only
    rw [show (({ s with slots := putS s.slots (k, hourAt j p) } : Fs).pl) = s.pl from rfl, ho] at y2
    obtain ⟨hz, e1, e2, e3⟩ := hV k { s with slots := putS s.slots (k, hourAt j p) } hy hkl Hy (hI.same rfl rfl) hu
    obtain ⟨g1, g2⟩ := freeF_good (placeF_good (J := jy j lds) f) hkl { s with slots := putS s.slots (k, hourAt j p) } (hI.same rfl rfl) hu
    generalize freeF (jy j lds) (placeF (jy j lds) (f + 1)) k { s with slots := putS s.slots (k, hourAt j p) } = r at *
    cases hr : r.1
    ·obtain ⟨v1, v2, v3⟩ := g1 hr
     have hb : -1000 ≤ r.2.has k ∧ r.2.has k ≤ 1000 := by rw [v1.has]; simp only; omega
     rw [hr] at e1
     rw [B143_free j hj lds hjl L hL s hx H p k hp hkl hsv hsl hy hz r.2 y2 false e1 e2 hb]
     simp only [Bool.false_eq_true, if_false, seqK_normal]
     exact vain r.2 hz e2 (hfry.trans e3) (v1.add (.inr ⟨v2, v3⟩))
    ·have w := g2 hr
     have hw := w.cnt k hkl
     have hwm := cnt_m (jy j lds) r.2.pl k
     have hb : -1000 ≤ r.2.has k ∧ r.2.has k ≤ 1000 := by omega
     rw [hr] at e1
     rw [B143_free j hj lds hjl L hL s hx H p k hp hkl hsv hsl hy hz r.2 y2 true e1 e2 hb]
     simp only [if_true, seqK_ret]
     exact ⟨_, rfl, (e2.at' hL _).has' hL _, ((hfry.trans e3).set (.inl rfl) _).set (.inr (.inl rfl)) _⟩
theorem W143 (j : Jur) (hj : j.ok) (lds : List Int) (hlds : lds.length = j.ofs.length) (hjl : j.ofs.length < 1000) (hjp : j.pts.length < 1000) (L : Loc) (hL : L.ok) : ∀ f : Nat, PlaceW P j lds L f := by
 have base : ∀ (p : Nat) (s : Fs) (hx : Heap) (g : Nat), p < j.pts.length → HpF j lds L s hx → s.tried p = true → ∃ h', sfn P 143 [.ptr L.bf 0 0, .c (ci p), .map L.bs, loS j L] hx = some (.c (.bool (placeF (jy j lds) (g + 1) p s).1), h') ∧ HpF j lds L (placeF (jy j lds) (g + 1) p s).2 h' ∧ Fr L hx h' := by
  intro p s hx g hp H ht
  have q1 := H.lt.f
  have q4 := H.lt.t
  have f1' := (List.getElem?_eq_some_iff.1 H.f).2
  have t1' := (List.getElem?_eq_some_iff.1 H.t).2
  have hbl := boolC_len j.pts.length s.tried
  have hbe := boolC_get s.tried hp
  have hbe' := (List.getElem?_eq_some_iff.1 hbe).2
  rw [placeF, if_pos ht]
  refine ⟨hx, ?_, H, Fr.rfl' L hx⟩
  rw [u143]
  simp [c143, H.f, f1', q1, fB, H.t, t1', q4, hp, hbl, hbe, hbe', ht]
 intro f
 induction f with
 | zero =>
  intro p s hx hp H hI hO hu
  refine base p s hx 0 hp H ?_
  cases h : s.tried p
  ·have := untried_up (J := jy j lds) hp h
   omega
  ·rfl
 | succ f ih =>
  intro p s hx hp H hI hO hu
  by_cases ht : s.tried p = true
  ·exact base p s hx (f + 1) hp H ht
  ·have ht : s.tried p = false := by simpa using ht
   rw [placeF, if_neg (by simp [ht])]
   have q1 := H.lt.f
   have q4 := H.lt.t
   have f1' := (List.getElem?_eq_some_iff.1 H.f).2
   have t1' := (List.getElem?_eq_some_iff.1 H.t).2
   have hbl := boolC_len j.pts.length s.tried
   have hbe := boolC_get s.tried hp
   have hbe' := (List.getElem?_eq_some_iff.1 hbe).2
   have hbs := boolC_set j.pts.length s.tried p true
   have hpl : p + 1 ≤ j.pts.length := hp
   have hup := untried_up (J := jy j lds) hp ht
   have H1 := H.tried' hL (up s.tried p true)
   obtain ⟨h', k1, k2, k3⟩ := L143 (P := P) j hj lds hjl hjp L hL f ih (W159 j lds hlds hjp L hL f ih) p hp j.ofs.length 0 { s with tried := up s.tried p true } _ (by omega) H1 (hI.same rfl rfl) hO (up_same _ _ _) (by omega)
   have er : List.range' 0 j.ofs.length = List.range (jy j lds).n := (List.range_eq_range').symm
   rw [er] at k1 k2
   have p1 := H1.lt.f
   have p1' := (List.getElem?_eq_some_iff.1 H1.f).2
   have p2 := H1.f
   refine ⟨h', ?_, k2, Fr.trans ((Fr.rfl' L hx).set (.inr (.inr (.inl rfl))) _) k3⟩
   generalize tryL (jy j lds) (placeF (jy j lds) (f + 1)) p (List.range (jy j lds).n) { s with tried := up s.tried p true } = r at *
   simp only [TP] at k1
   rw [u143]
   cases hr : r.1
   ·rw [hr] at k1
    simp at k1
    simp [c143, H.f, f1', q1, fB, H.t, t1', q4, hp, hbl, hbe, hbe', ht, hbs, hpl, p2, p1, p1', k1]
   ·rw [hr] at k1
    simp at k1
    simp [c143, H.f, f1', q1, fB, H.t, t1', q4, hp, hbl, hbe, hbe', ht, hbs, hpl, p2, p1, p1', k1]
def bitB (set p : Nat) : Bool := decide (set / 2 ^ p % 2 = 1)
def popN : Nat → Nat → Nat
 | 0, _ => 0
 | n + 1, x => x % 2 + popN n (x / 2)
def repM (m : Nat) : List LV := List.replicate m (.c (ci (-1)))
structure Tabs9 (P : Nat → Option SFunc) : Prop where
 rep : ∀ m : Nat, m ≤ 5 → ffn P 131 [.slice [ci (-1)], ci m] = some (.slice 1 1 0 m none (some m), [.cells 1 [] 0, .cells 1 (repM m) 0])
 pop : ∀ x : Nat, x < 32 → fn P 144 [.int .u64 x] = some (ci (popN 5 x))
theorem and1_all : (List.range 32).all (fun v => IntKind.u64.wrap (((((v : Nat) : Int) % 2 ^ IntKind.u64.bits).toNat &&& 1 % 2 ^ IntKind.u64.bits : Nat) : Int) == ((v % 2 : Nat) : Int)) = true := by decide +kernel
theorem and1 {set p : Nat} (h : set / 2 ^ p < 32) : IntKind.u64.wrap ((((set : Int) / 2 ^ p % 2 ^ IntKind.u64.bits).toNat &&& 1 % 2 ^ IntKind.u64.bits : Nat) : Int) = ((set / 2 ^ p % 2 : Nat) : Int) := by
 have := eq_of_beq (List.all_eq_true.1 and1_all (set / 2 ^ p) (List.mem_range.2 h))
 have e : (((set / 2 ^ p : Nat)) : Int) = (set : Int) / 2 ^ p := by norm_cast
 rw [e] at this
 exact this
theorem shrU {v p : Nat} (hp : p < 64) : shiftInt .shr .u64 ((v : Nat) : Int) ((p : Nat) : Int) = some (.int .u64 ((v / 2 ^ p : Nat) : Int)) := by
 unfold shiftInt
 rw [if_neg (by omega)]
 have e1 : Nat.min (p : Int).toNat IntKind.u64.bits = p := by
  have : (p : Int).toNat = p := by omega
  rw [this]
  show Nat.min p 64 = p
  exact Nat.min_eq_left (by omega)
 simp only [e1]
 congr 2
 rw [Int.fdiv_eq_ediv_of_nonneg _ (by exact_mod_cast Nat.zero_le _)]
 norm_cast
structure LI (j : Jur) (lds : List Int) (s : Fs) (h : Heap) : Prop where
 z : h[0]? = some (JB j)
 f : ∃ X, h[7]? = some (.cells 0 [.c (.slice (j.ofs.map Ofc.enc)), .c (.slice (j.pts.map Pst.enc)), .c (.slice (lds.map ci)), .slice 3 1 0 j.pts.length none (some j.pts.length), .slice 6 1 0 j.ofs.length none (some j.ofs.length), X] 0)
 a : h[3]? = some (.cells 1 (atC j.pts.length s.pl) 0)
 hs : h[6]? = some (.cells 1 (hasF j.ofs.length s.has) 0)
def TF (j : Jur) (set n : Nat) (i : Int) : List LV := [.c (.int .u64 set), .ptr 0 0 0, .ptr 7 0 0, .c (ci n), .c (ci j.pts.length), .c (ci i)]
theorem rep_bool (n : Nat) : List.replicate n (LV.c (.bool false)) = boolC n fun _ => false := by
 unfold boolC
 apply List.ext_getElem
 ·simp
 ·intro i h1 h2
  simp
def locF (m n : Nat) : Loc := ⟨7, 3, 1, some m, 6, n, n + 1, n + 2⟩
theorem locF_ok {m n : Nat} (h : 8 ≤ n) : (locF m n).ok := by
 constructor <;> simp only [locF] <;> omega
theorem LI.len {j : Jur} {lds : List Int} {s : Fs} {h : Heap} (H : LI j lds s h) : 8 ≤ h.length := by
 obtain ⟨X, hX⟩ := H.f
 have := lt_get hX
 omega
def hF (j : Jur) (lds : List Int) (hx : Heap) : Heap := (hx ++ [LB.cells 1 (boolC j.pts.length fun _ => false) 0]).set 7 (fB j lds (locF j.pts.length hx.length) 0)
theorem B118_no (j : Jur) (lds : List Int) (hm : j.pts.length ≤ 5) (set n : Nat) (s : Fs) (hx : Heap) (H : LI j lds s hx) (p : Nat) (hp : p < j.pts.length) (hset : set < 32) (hb : bitB set p = false) :
  execS P (limS P) c118_l0b ⟨TF j set n p, hx⟩ = some (.normal, ⟨TF j set n (p + 1), hF j lds hx⟩) := by
 have hw : IntKind.i64.wrap ((p : Int) + 1) = (p : Int) + 1 := wrap64 (by omega) (by omega)
 have h8 := H.len
 obtain ⟨X, hX⟩ := H.f
 have hX' := (List.getElem?_eq_some_iff.1 hX).2
 have hz := H.z
 have hz' := (List.getElem?_eq_some_iff.1 hz).2
 have l0 : 0 < hx.length := by omega
 have l7 : 7 < hx.length := by omega
 have l0' : 0 < hx.length + 1 := by omega
 have l7' : 7 < hx.length + 1 := by omega
 have a0 : ∀ X : LB, (hx ++ [X])[0]? = some (JB j) := fun X => by rw [List.getElem?_append_left l0]; exact hz
 have a0' := fun X => (List.getElem?_eq_some_iff.1 (a0 X)).2
 have a7 : ∀ X' : LB, (hx ++ [X'])[7]? = some (.cells 0 [.c (.slice (j.ofs.map Ofc.enc)), .c (.slice (j.pts.map Pst.enc)), .c (.slice (lds.map ci)), .slice 3 1 0 j.pts.length none (some j.pts.length), .slice 6 1 0 j.ofs.length none (some j.ofs.length), X] 0) := fun X' => by rw [List.getElem?_append_left l7]; exact hX
 have a7' := fun X => (List.getElem?_eq_some_iff.1 (a7 X)).2
 have hsh := shrU (v := set) (p := p) (by omega)
 have hle : set / 2 ^ p < 32 := Nat.lt_of_le_of_lt (Nat.div_le_self _ _) hset
 have han := and1 hle
 have hbb : set / 2 ^ p % 2 = 0 := by
  unfold bitB at hb
  simp at hb
  omega
 rw [hbb] at han
 have hrb := rep_bool j.pts.length
 unfold JB at *
 have s1 : (j.pts.length : Int) ≤ 140737488355328 := by omega
 have s2 : (j.pts.length : Int) ≤ 9223372036854775807 := by omega
 simp [TF, c118_l0b, hp, hw, hz, hz', l0, l0', l7', a0, a0', a7, a7', hsh, han, hrb, s1, s2, hF, fB, locF]
theorem B118_yes (j : Jur) (lds : List Int) (hm : j.pts.length ≤ 5) (set n : Nat) (s : Fs) (hx : Heap) (H : LI j lds s hx) (p : Nat) (hp : p < j.pts.length) (hset : set < 32) (hb : bitB set p = true) (hjl : j.ofs.length < 1000) (hn : n < 1000) (b : Bool) (hz2 : Heap)
  (e143 : sfn P 143 [.ptr 7 0 0, .c (ci p), .map (hx.length + 1), .slice (hx.length + 1 + 1) 1 0 j.ofs.length none (some j.ofs.length)] (hF j lds hx ++ [.map [] [] false, .cells 1 (boolC j.ofs.length fun _ => false) 0]) = some (.c (.bool b), hz2)) :
  execS P (limS P) c118_l0b ⟨TF j set n p, hx⟩ = some (.normal, ⟨TF j set (n + if b then 1 else 0) (p + 1), hz2⟩) := by
 have hw : IntKind.i64.wrap ((p : Int) + 1) = (p : Int) + 1 := wrap64 (by omega) (by omega)
 have h8 := H.len
 obtain ⟨X, hX⟩ := H.f
 have hX' := (List.getElem?_eq_some_iff.1 hX).2
 have hz := H.z
 have hz' := (List.getElem?_eq_some_iff.1 hz).2
 have l0 : 0 < hx.length := by omega
 have l7 : 7 < hx.length := by omega
 have l0' : 0 < hx.length + 1 := by omega
 have l7' : 7 < hx.length + 1 := by omega
 have a0 : ∀ X : LB, (hx ++ [X])[0]? = some (JB j) := fun X => by rw [List.getElem?_append_left l0]; exact hz
 have a0' := fun X => (List.getElem?_eq_some_iff.1 (a0 X)).2
 have a7 : ∀ X' : LB, (hx ++ [X'])[7]? = some (.cells 0 [.c (.slice (j.ofs.map Ofc.enc)), .c (.slice (j.pts.map Pst.enc)), .c (.slice (lds.map ci)), .slice 3 1 0 j.pts.length none (some j.pts.length), .slice 6 1 0 j.ofs.length none (some j.ofs.length), X] 0) := fun X' => by rw [List.getElem?_append_left l7]; exact hX
 have a7' := fun X => (List.getElem?_eq_some_iff.1 (a7 X)).2
 have hsh := shrU (v := set) (p := p) (by omega)
 have hle : set / 2 ^ p < 32 := Nat.lt_of_le_of_lt (Nat.div_le_self _ _) hset
 have han := and1 hle
 have hbb : set / 2 ^ p % 2 = 1 := by
  unfold bitB at hb
  simp at hb
  omega
 rw [hbb] at han
 have hrb := rep_bool j.pts.length
 unfold JB at *
 have s1 : (j.pts.length : Int) ≤ 140737488355328 := by omega
 have s3 : (j.ofs.length : Int) ≤ 140737488355328 := by omega
 have s4 : (j.ofs.length : Int) ≤ 9223372036854775807 := by omega
 have hrb2 := rep_bool j.ofs.length
 have hwn : IntKind.i64.wrap ((n : Int) + 1) = (n : Int) + 1 := wrap64 (by omega) (by omega)
 have hlF : (hF j lds hx).length = hx.length + 1 := by simp [hF]
 have hF0 : (hF j lds hx)[0]? = some (.cells 0 [.c (.slice (j.ofs.map Ofc.enc)), .c (.slice (j.pts.map Pst.enc))] 0) := by unfold hF; rw [List.getElem?_set_ne (by omega)]; exact a0 _
 have hFe : (hx ++ [LB.cells 1 (boolC j.pts.length fun _ => false) 0]).set 7 (.cells 0 [.c (.slice (j.ofs.map Ofc.enc)), .c (.slice (j.pts.map Pst.enc)), .c (.slice (lds.map ci)), .slice 3 1 0 j.pts.length none (some j.pts.length), .slice 6 1 0 j.ofs.length none (some j.ofs.length), .slice hx.length 1 0 j.pts.length none (some j.pts.length)] 0) = hF j lds hx := rfl
 have hG0 : ∀ X : LB, (hF j lds hx ++ [X])[0]? = some (.cells 0 [.c (.slice (j.ofs.map Ofc.enc)), .c (.slice (j.pts.map Pst.enc))] 0) := fun X => by rw [List.getElem?_append_left (by omega)]; exact hF0
 have hG0' := fun X => (List.getElem?_eq_some_iff.1 (hG0 X)).2
 have l00 : 0 < hx.length + 1 + 1 := by omega
 have s2 : (j.pts.length : Int) ≤ 9223372036854775807 := by omega
 cases b
 ·simp [TF, c118_l0b, hp, hw, hz, hz', l0, l0', l7', a0, a0', a7, a7', hsh, han, hrb, s1, s2, s3, s4, hrb2, hFe, hlF, hG0, hG0', l00, frzFuncs_nil, frzFuncs_c, frzFuncs_slice, frzFuncs_ptr, frzFuncs_map, e143]
 ·simp [TF, c118_l0b, hp, hw, hz, hz', l0, l0', l7', a0, a0', a7, a7', hsh, han, hrb, s1, s2, s3, s4, hrb2, hFe, hlF, hG0, hG0', l00, frzFuncs_nil, frzFuncs_c, frzFuncs_slice, frzFuncs_ptr, frzFuncs_map, e143, hwn]
theorem LI.near {j : Jur} {lds : List Int} {s t : Fs} {h h' : Heap} (H : LI j lds s h) {n : Nat} (hn : 8 ≤ n) (hs : Same n h h') (e1 : t.pl = s.pl) (e2 : t.has = s.has) : LI j lds t h' := by
 obtain ⟨X, hX⟩ := H.f
 refine ⟨(hs.2 _ (by omega)).trans H.z, ⟨X, (hs.2 _ (by omega)).trans hX⟩, ?_, ?_⟩
 ·rw [e1]; exact (hs.2 _ (by omega)).trans H.a
 ·rw [e2]; exact (hs.2 _ (by omega)).trans H.hs
theorem LI.hF {j : Jur} {lds : List Int} {s : Fs} {h : Heap} (H : LI j lds s h) : LI j lds s (hF j lds h) ∧ (hF j lds h)[7]? = some (fB j lds (locF j.pts.length h.length) 0) ∧ (hF j lds h).length = h.length + 1 ∧ (hF j lds h)[h.length]? = some (.cells 1 (boolC j.pts.length fun _ => false) 0) := by
 have h8 := H.len
 have e7 : (LM.G9.hF j lds h)[7]? = some (fB j lds (locF j.pts.length h.length) 0) := by
  unfold LM.G9.hF
  rw [List.getElem?_set_self (by simp; omega)]
 refine ⟨⟨?_, ⟨_, e7⟩, ?_, ?_⟩, e7, by simp [LM.G9.hF], ?_⟩
 ·unfold LM.G9.hF
  rw [List.getElem?_set_ne (by omega), List.getElem?_append_left (by omega)]; exact H.z
 ·unfold LM.G9.hF
  rw [List.getElem?_set_ne (by omega), List.getElem?_append_left (by omega)]; exact H.a
 ·unfold LM.G9.hF
  rw [List.getElem?_set_ne (by omega), List.getElem?_append_left (by omega)]; exact H.hs
 ·unfold LM.G9.hF
  rw [List.getElem?_set_ne (by omega)]
  simp
theorem under_TF {j : Jur} {set n : Nat} {i : Int} {N : Nat} (h : 8 ≤ N) : ∀ v ∈ TF j set n i, v.under N = true := by
 intro v hv
 simp only [TF, List.mem_cons, List.not_mem_nil, or_false] at hv
 rcases hv with rfl | rfl | rfl | rfl | rfl | rfl <;> simp [LV.under] <;> omega
theorem L118 (j : Jur) (hj : j.ok) (lds : List Int) (hlds : lds.length = j.ofs.length) (hjl : j.ofs.length < 900) (hm : j.pts.length ≤ 5) (set : Nat) (hset : set < 32) : ∀ (m k : Nat) (s : Fs) (hx : Heap) (n : Nat), k + m = j.pts.length → LI j lds s hx → Inv (jy j lds) s → (∀ q, k ≤ q → q < j.pts.length → s.pl q = none) → n + m < 900 →
  ∃ h', execS P (limS P) c118_l0 ⟨TF j set n k, hx⟩ = some (.exit 0, ⟨[.ptr 7 0 0, .c (ci (n + (fillL (jy j lds) ((List.range' k m).filter (bitB set)) s).1 : Nat))], h'⟩) ∧ LI j lds (fillL (jy j lds) ((List.range' k m).filter (bitB set)) s).2 h' := by
 intro m
 induction m with
 | zero =>
  intro k s hx n hk H _ _ _
  refine ⟨hx, ?_, H⟩
  have hk' : k = j.pts.length := by omega
  rw [r118_l0]
  simp [TF, c118_l0b, hk', fillL]
 | succ m ih =>
  intro k s hx n hk H hI h0 hn
  have hkl : k < j.pts.length := by omega
  have h8 := H.len
  have ek : ((k + 1 : Nat) : Int) = (k : Int) + 1 := by omega
  obtain ⟨F1, F2, F3, F4⟩ := H.hF
  rw [List.range'_succ, r118_l0]
  cases hb : bitB set k
  ·rw [List.filter_cons_of_neg (by simp [hb]), B118_no j lds hm set n s hx H k hkl hset hb, seqK_normal]
   obtain ⟨hg, hg1, hg2⟩ := gc_any (n := hx.length) (ts := TF j set n (k + 1)) (h := hF j lds hx) (by omega) (under_TF h8)
   show ∃ h', execS P (limS P) c118_l0 (gc hx.length _) = _ ∧ _
   rw [hg1]
   obtain ⟨h', i1, i2⟩ := ih (k + 1) s hg n (by omega) (F1.near h8 hg2 rfl rfl) hI (fun q hq => h0 q (by omega)) (by omega)
   rw [ek] at i1
   exact ⟨h', i1, i2⟩
  ·rw [List.filter_cons_of_pos (by simp [hb]), fillL]
   have HL : HpF j lds (locF j.pts.length hx.length) (clean s) (hF j lds hx ++ [.map [] [] false, .cells 1 (boolC j.ofs.length fun _ => false) 0]) := by
    refine ⟨?_, ?_, ?_, ?_, ?_, ?_⟩
    ·show (hF j lds hx ++ _)[7]? = _
     rw [List.getElem?_append_left (by omega)]; exact F2
    ·show (hF j lds hx ++ _)[3]? = _
     rw [List.getElem?_append_left (by omega)]; exact F1.a
    ·show (hF j lds hx ++ _)[6]? = _
     rw [List.getElem?_append_left (by omega)]; exact F1.hs
    ·show (hF j lds hx ++ _)[hx.length]? = _
     rw [List.getElem?_append_left (by omega)]; exact F4
    ·show (hF j lds hx ++ _)[hx.length + 1]? = _
     rw [List.getElem?_append_right (by omega), F3]
     simp [clean]
    ·show (hF j lds hx ++ _)[hx.length + 2]? = _
     rw [List.getElem?_append_right (by omega), F3, show hx.length + 2 - (hx.length + 1) = 1 by omega]
     rfl
   have hpk := h0 k (Nat.le_refl _) hkl
   obtain ⟨hz, e1, e2, e3⟩ := W143 (P := P) j hj lds hlds (by omega) (by omega) (locF j.pts.length hx.length) (locF_ok h8) j.pts.length k (clean s) _ hkl HL (clean_inv hI) (fun i hi => by have : s.pl k = some i := hi; rw [hpk] at this; cases this) (untried_m _)
   have hjm : (jy j lds).m = j.pts.length := rfl
   rw [hjm]
   obtain ⟨g1, g2⟩ := place_one (J := jy j lds) hkl hI hpk
   rw [hjm] at g1 g2
   generalize placeF (jy j lds) (j.pts.length + 1) k (clean s) = r at *
   have hz1 : LI j lds r.2 hz := by
    refine ⟨?_, ⟨_, e2.f⟩, e2.a, e2.hs⟩
    rw [e3.2 0 (by simp) (by simp [locF]) (by simp [locF]) (by simp [locF]; omega) (by simp [locF]) (by simp [locF])]
    rw [List.getElem?_append_left (by omega)]
    exact F1.z
   have hzl : hx.length ≤ hz.length := by have := e3.1; simp at this; omega
   have hInv : Inv (jy j lds) r.2 ∧ ∀ q, k + 1 ≤ q → q < j.pts.length → r.2.pl q = none := by
    cases hr : r.1
    ·obtain ⟨v1, v2, _⟩ := g2 hr
     exact ⟨hI.same v1 v2, fun q hq hq2 => by rw [v1]; exact h0 q (by omega) hq2⟩
    ·have w := g1 hr
     exact ⟨w.inv (clean_inv hI) hpk, fun q hq hq2 => w.zero q (by omega) (h0 q (by omega) hq2)⟩
   rw [B118_yes j lds hm set n s hx H k hkl hset hb (by omega) (by omega) r.1 hz e1, seqK_normal]
   obtain ⟨hg, hg1, hg2⟩ := gc_any (n := hx.length) (ts := TF j set (n + if r.1 = true then 1 else 0) (k + 1)) (h := hz) hzl (under_TF h8)
   show ∃ h', execS P (limS P) c118_l0 (gc hx.length _) = _ ∧ _
   rw [hg1]
   obtain ⟨h', i1, i2⟩ := ih (k + 1) r.2 hg (n + if r.1 = true then 1 else 0) (by omega) (hz1.near h8 hg2 rfl rfl) hInv.1 hInv.2 (by split <;> omega)
   rw [ek] at i1
   refine ⟨h', ?_, i2⟩
   rw [i1]
   congr 7
   omega
theorem atC_rep (m : Nat) : repM m = atC m fun _ => none := by
 unfold repM atC
 apply List.ext_getElem
 ·simp
 ·intro i h1 h2
  simp [optI]
theorem shift_rep (k m : Nat) : shiftL k (repM m) = repM m := by
 unfold repM
 induction m with
 | zero => rfl
 | succ m ih => rw [List.replicate_succ, shiftL, ih]; rfl
theorem hasF_rep (n : Nat) : List.replicate n (LV.c (ci 0)) = hasF n fun _ => 0 := by
 unfold hasF
 apply List.ext_getElem
 ·simp
 ·intro i h1 h2
  simp
def atL (j : Jur) (s : Fs) : List CV := (List.range j.pts.length).map fun p => ci (optI (s.pl p))
theorem resV_own2 {b g fz : Nat} {e : Option Nat} {ys : List CV} {h : Heap} {len : Nat} (hb : h[b]? = some (.cells g (cellsOf ys) fz)) (hy : ∀ x ∈ ys, Elem e x) (hlen : len = ys.length) (cap : Option Nat) (v : CV) :
  resV (some (mkTuple [.c v, .slice b g 0 len e cap])) h = some (.tuple [v, .slice ys]) := by
 have h1 : mkTuple [.c v, .slice b g 0 len e cap] = .tuple [.c v, .slice b g 0 len e cap] := rfl
 unfold resV
 rw [bnd_some, h1, frz_tuple]
 simp only [mapH_cons, frz_succ_c, bnd_some, frz_own39 hb hy hlen cap, mapH_nil]
theorem S118 (T : Tabs9 P) (j : Jur) (hj : j.ok) (lds : List Int) (hlds : lds.length = j.ofs.length) (hl0 : ∀ i, i < j.ofs.length → 0 ≤ (jy j lds).ld i) (hjl : j.ofs.length < 800) (hm : j.pts.length ≤ 5) (set : Nat) (hset : set < 32) :
  fn P 118 [j.enc, .int .u64 set, .slice (lds.map ci)] = some (.tuple [ci (fillL (jy j lds) ((List.range j.pts.length).filter (bitB set)) start).1, .slice (atL j (fillL (jy j lds) ((List.range j.pts.length).filter (bitB set)) start).2)]) := by
 have e131 := T.rep j.pts.length hm
 have H0 : LI j lds start ([JB j, .cells 1 [] 0, .cells 1 [] 0, .cells 1 (repM j.pts.length) 0, .dead, .dead, .cells 1 (List.replicate j.ofs.length (.c (ci 0))) 0, .cells 0 [.c (.slice (j.ofs.map Ofc.enc)), .c (.slice (j.pts.map Pst.enc)), .c (.slice (lds.map ci)), .slice 3 1 0 j.pts.length none (some j.pts.length), .slice 6 1 0 j.ofs.length none (some j.ofs.length), .nil] 0]) := by
  refine ⟨rfl, ⟨_, rfl⟩, ?_, ?_⟩
  ·rw [atC_rep]; rfl
  ·rw [hasF_rep]; rfl
 obtain ⟨h', k1, k2⟩ := L118 (P := P) j hj lds hlds (by omega) hm set hset j.pts.length 0 start _ 0 (by omega) H0 (start_inv hl0) (fun q _ _ => rfl) (by omega)
 have er : List.range' 0 j.pts.length = List.range j.pts.length := (List.range_eq_range').symm
 rw [er] at k1 k2
 have s1 : (j.ofs.length : Int) ≤ 17592186044416 := by omega
 obtain ⟨X, kf⟩ := k2.f
 have kf' := (List.getElem?_eq_some_iff.1 kf).2
 have l7 := lt_get kf
 have ka := k2.a
 generalize fillL (jy j lds) ((List.range j.pts.length).filter (bitB set)) start = r at *
 simp only [TF, Nat.zero_add, JB] at k1
 rw [u118]
 simp [JB] at k1
 simp [c118, Jur.enc, e131, LV.shift, shiftL, shiftB, LB.shift, shift_rep, allDead, setFrom, s1, k1, kf, kf', l7]
 refine ⟨⟨by omega, by omega⟩, ?_⟩
 have hc : cellsOf (atL j r.2) = atC j.pts.length r.2.pl := by
  unfold atL atC cellsOf
  rw [List.flatMap_map]
  induction (List.range j.pts.length) with
  | nil => rfl
  | cons a l ih => rw [List.flatMap_cons, List.map_append, ih]; rfl
 exact resV_own2 (b := 3) (g := 1) (fz := 0) (e := none) (ys := atL j r.2) (by rw [hc]; exact ka) (by
  intro x hx
  obtain ⟨q, _, rfl⟩ := List.mem_map.1 hx
  exact ⟨rfl, rfl⟩) (by simp [atL]) _ _
def ldsL (most : Int) (l : List Ofc) : List Int := l.map fun o => if most < o.load then most else o.load
def H120 (j : Jur) (xs : List Int) : Heap := [JB j, .cells 1 [] 0, .cells (1 + xs.length) (cI xs) 0]
theorem L120 (j : Jur) (most : Int) (hjl : j.ofs.length < 1000) : ∀ (r pre : List Ofc), j.ofs = pre ++ r →
  execS P (limS P) c120_l0 ⟨[.c (ci most), .slice 2 (1 + pre.length) 0 pre.length none none, .c (.slice (j.ofs.map Ofc.enc)), .c (ci j.ofs.length), .c (ci pre.length)], H120 j (ldsL most pre)⟩ =
   some (.exit 0, ⟨[.slice 2 (1 + j.ofs.length) 0 j.ofs.length none none], H120 j (ldsL most j.ofs)⟩) := by
 intro r
 induction r with
 | nil =>
  intro pre hp
  have hp : j.ofs = pre := by simpa using hp
  rw [hp, r120_l0]
  simp [c120_l0b, H120]
 | cons x r ih =>
  intro pre hp
  have ih := ih (pre ++ [x]) (by simpa using hp)
  have hx : j.ofs[pre.length]? = some x := by rw [hp]; simp
  obtain ⟨hxl, hx'⟩ := List.getElem?_eq_some_iff.1 hx
  have hw : IntKind.i64.wrap ((pre.length : Int) + 1) = (pre.length : Int) + 1 := wrap64 (by omega) (by omega)
  have hll : (ldsL most pre).length = pre.length := by simp [ldsL]
  have ha := append_own (b := 2) (g := 1 + (ldsL most pre).length) (bytes := 8) (e := none) (ys := (ldsL most pre).map ci) (xs := [ci (if most < x.load then most else x.load)]) (h := [JB j, .cells 1 [] 0, .cells (1 + (ldsL most pre).length) (cI (ldsL most pre)) 0, .cells 0 [.c (.str x.name), .c (.str x.nation), .c (.slice (x.roles.map CV.str)), .c (ci x.load)] 0]) (len := pre.length) (fz := 0) (by rw [cellsOf_ints]; rfl) (intElems _) (by intro y hy; simp at hy; subst hy; exact ⟨rfl, rfl⟩) (by simp [hll]) (Nat.zero_le _) (by simp) (by simp [hll]; omega) (by simp [hll]; omega)
  have e1 : (ldsL most pre).map ci ++ [ci (if most < x.load then most else x.load)] = (ldsL most (pre ++ [x])).map ci := by simp [ldsL]
  rw [e1, cellsOf_ints] at ha
  have hu := fun n xs => under_cI n xs
  have hl2 : (ldsL most (pre ++ [x])).length = pre.length + 1 := by simp [ldsL]
  simp [H120, hl2] at ih
  simp [hll] at ha
  have e9 : 1 + (pre.length + 1) = 1 + pre.length + 1 := by omega
  rw [e9] at ih
  rw [r120_l0]
  by_cases h : most < x.load
  ·simp [h] at ha
   simp [c120_l0b, hxl, hx, hx', hw, H120, JB, Ofc.enc, foldInt, h, hll] at ha ih ⊢
   simp [hxl, hx, hx', hw, h, ha, hu, ih]
  ·simp [h] at ha
   simp [c120_l0b, hxl, hx, hx', hw, H120, JB, Ofc.enc, foldInt, h, hll] at ha ih ⊢
   simp [hxl, hx, hx', hw, h, ha, hu, ih]
theorem S120 (j : Jur) (most : Int) (hjl : j.ofs.length < 1000) : ffn P 120 [j.enc, ci most] = some (.slice 2 (1 + j.ofs.length) 0 j.ofs.length none none, H120 j (ldsL most j.ofs)) := by
 have k := L120 (P := P) j most hjl j.ofs [] rfl
 have e0 : ldsL most [] = [] := rfl
 have e1 : cI [] = [] := rfl
 simp [H120, e0, e1] at k
 rw [u120]
 simp [JB] at k
 simp [c120, Jur.enc, k, H120, JB]
theorem pop_all : (List.range 6).all (fun m => (List.range (2 ^ m)).all fun set => popN 5 set == ((List.range m).filter (bitB set)).length) = true := by decide +kernel
theorem pop_len {m set : Nat} (hm : m ≤ 5) (hs : set < 2 ^ m) : popN 5 set = ((List.range m).filter (bitB set)).length := by
 have := List.all_eq_true.1 pop_all m (List.mem_range.2 (by omega))
 exact eq_of_beq (List.all_eq_true.1 this set (List.mem_range.2 hs))
theorem pow32 {m : Nat} (hm : m ≤ 5) : 2 ^ m ≤ 32 := Nat.pow_le_pow_right (n := 2) (by omega) hm
def nFill (j : Jur) (lds : List Int) (set : Nat) : Nat := (fillL (jy j lds) ((List.range j.pts.length).filter (bitB set)) start).1
theorem S121 (T : Tabs9 P) (j : Jur) (hj : j.ok) (lds : List Int) (hlds : lds.length = j.ofs.length) (hl0 : ∀ i, i < j.ofs.length → 0 ≤ (jy j lds).ld i) (hjl : j.ofs.length < 800) (hm : j.pts.length ≤ 5) (set : Nat) (hset : set < 2 ^ j.pts.length) :
  fn P 121 [j.enc, .int .u64 set, .slice (lds.map ci)] = some (.bool (decide (nFill j lds set = ((List.range j.pts.length).filter (bitB set)).length))) := by
 have h32 := pow32 hm
 have e118 := S118 (P := P) T j hj lds hlds hl0 hjl hm set (by omega)
 have e144 := T.pop set (by omega)
 rw [pop_len hm hset] at e144
 have hn : (fillL (jy j lds) ((List.range j.pts.length).filter (bitB set)) start).1 = nFill j lds set := rfl
 rw [hn] at e118
 generalize nFill j lds set = n at *
 generalize ((List.range j.pts.length).filter (bitB set)).length = k at *
 simp only [Jur.enc] at e118
 rw [u121]
 simp [c121, Jur.enc, e118, e144]
 rw [Bool.eq_iff_iff]
 simp
 omega
def ofcOk (x : Ofc) : Prop := named x.name = 0 ∧ named x.nation = 0 ∧ onceL 16 x.roles = 0 ∧ 0 ≤ x.load ∧ x.load ≤ 24
theorem whenE_zD {b : Bool} {e : Int} (h : e ≠ 0) : whenE b e = 0 ↔ b = false := by cases b <;> simp [whenE, h]
theorem firstE_zD (e : Int) (r : List Int) : firstE (e :: r) = 0 ↔ e = 0 ∧ firstE r = 0 := by
 rw [firstE]
 by_cases h : e = 0 <;> simp [h]
theorem firstE_nil : firstE [] = 0 := rfl
theorem checkOfc_zero {pre : List Ofc} {x : Ofc} : checkOfc pre x = 0 ↔ ofcOk x ∧ x.name ∉ pre.map (·.name) := by
 unfold checkOfc ofcOk
 simp only [firstE_zD, firstE_nil, and_true]
 rw [whenE_zD (by decide), whenE_zD (by decide)]
 have h1 : pre.any (Ofc.is x.name) = false ↔ x.name ∉ pre.map (·.name) := by
  rw [List.any_eq_false]
  simp only [List.mem_map, not_exists, not_and]
  constructor
  ·intro h y hy e
   exact h y hy (by simp [Ofc.is, e])
  ·intro h y hy e
   exact h y hy (by simpa [Ofc.is] using e)
 have h2 : outside x.load 0 24 = false ↔ 0 ≤ x.load ∧ x.load ≤ 24 := by
  unfold outside
  simp
 rw [h1, h2]
 constructor
 ·rintro ⟨a, b, c, d, e⟩
  exact ⟨⟨a, b, d, e.1, e.2⟩, c⟩
 ·rintro ⟨⟨a, b, d, e1, e2⟩, c⟩
  exact ⟨a, b, c, d, e1, e2⟩
theorem eachOfc_zero : ∀ (l pre : List Ofc), eachE checkOfc pre l = 0 ↔ (∀ x ∈ l, ofcOk x ∧ x.name ∉ pre.map (·.name)) ∧ (l.map (·.name)).Nodup
 | [], pre => by simp [eachE]
 | x :: l, pre => by
  have ih := eachOfc_zero l (pre ++ [x])
  rw [eachE]
  by_cases h : checkOfc pre x = 0
  ·rw [if_neg (by simp [h]), ih]
   rw [checkOfc_zero] at h
   simp only [List.map_cons, List.nodup_cons, List.mem_cons, List.map_append, List.mem_append, List.map_nil, not_or, List.not_mem_nil, not_false_eq_true, and_true]
   constructor
   ·rintro ⟨h1, h2⟩
    refine ⟨fun y hy => ?_, fun hm => ?_, h2⟩
    ·rcases hy with rfl | hy
     ·exact h
     ·exact ⟨(h1 y hy).1, (h1 y hy).2.1⟩
    ·obtain ⟨y, hy, e⟩ := List.mem_map.1 hm
     exact (h1 y hy).2.2 e
   ·rintro ⟨h1, h2, h3⟩
    refine ⟨fun y hy => ⟨(h1 y (.inr hy)).1, (h1 y (.inr hy)).2, fun e => ?_⟩, h3⟩
    exact h2 (by rw [← e]; exact List.mem_map.2 ⟨y, hy, rfl⟩)
  ·rw [if_pos (by simpa using h)]
   constructor
   ·intro e; exact absurd e h
   ·rintro ⟨h1, _⟩
    exact absurd (checkOfc_zero.2 (h1 x (by simp))) h
def ptsE (l : List Pst) : Int := if (l.length : Int) > 24 then 5 else eachE checkPst [] l
theorem checkJur_zero {j : Jur} : checkJur j = 0 ↔ j.ofs.length ≤ 24 ∧ (∀ x ∈ j.ofs, ofcOk x) ∧ (j.ofs.map (·.name)).Nodup ∧ ptsE j.pts = 0 := by
 unfold checkJur
 simp only [firstE_zD, firstE_nil, and_true]
 have h := eachOfc_zero j.ofs []
 simp only [List.map_nil, List.not_mem_nil, not_false_eq_true, and_true] at h
 by_cases h1 : (j.ofs.length : Int) > 24
 ·rw [if_pos h1]
  simp
  omega
 ·rw [if_neg h1, h]
  have : j.ofs.length ≤ 24 := by omega
  simp only [this, true_and, and_assoc]
  rfl
def jyJ (j : Jur) : Jy := jy j (ldsL 24 j.ofs)
theorem lds_at {l : List Ofc} {q : Int} {i : Nat} (hi : i < l.length) : (ldsL q l).getD i 0 = if q < l[i].load then q else l[i].load := by
 simp [ldsL, List.getD_eq_getElem?_getD, List.getElem?_eq_getElem hi]
def fewB (j : Jur) (a b : Int) : Bool := shortJur j && (decide ((j.ofs.length : Int) ≤ a) && (decide ((j.pts.length : Int) ≤ b) && decide (checkJur j = 0)))
theorem S47 (j : Jur) (hj : j.ok) (a b : Int) : fn P 47 [j.enc, ci a, ci b] = some (.bool (fewB j a b)) := by
 have e40 := S40 (P := P) j hj
 have e41 := S41 (P := P) j hj
 simp only [Jur.enc] at e40 e41
 rw [u47]
 unfold fewB
 by_cases h0 : checkJur j = 0
 ·rw [h0] at e41
  cases h1 : shortJur j <;> rw [h1] at e40 <;> by_cases h2 : (j.ofs.length : Int) ≤ a <;> by_cases h3 : (j.pts.length : Int) ≤ b <;> simp [c47, Jur.enc, e40, e41, h2, h3, h0]
 ·cases h1 : shortJur j <;> rw [h1] at e40 <;> by_cases h2 : (j.ofs.length : Int) ≤ a <;> by_cases h3 : (j.pts.length : Int) ≤ b <;> simp [c47, Jur.enc, e40, e41, h2, h3, h0]
theorem few_iff {j : Jur} {a b : Int} (h : fewB j a b = true) : (j.ofs.length : Int) ≤ a ∧ (j.pts.length : Int) ≤ b ∧ checkJur j = 0 := by
 unfold fewB at h
 simp only [Bool.and_eq_true, decide_eq_true_eq] at h
 exact h.2
def RoleRef (h : Heap) (v : LV) (l : List Str) : Prop :=
 (v = .emp ∧ l = []) ∨ ∃ b g, v = .slice b g 0 l.length none none ∧ 4 ≤ b ∧ g ≠ 0 ∧ l ≠ [] ∧ h[b]? = some (.cells g (cellsOf (l.map CV.str)) 0)
def blkOf : LV → Nat
 | .slice b _ _ _ _ _ => b
 | _ => 0
def rowsO : List Ofc → (Nat → LV) → List LV
 | [], _ => []
 | o :: r, V => .c (.str o.name) :: .c (.str o.nation) :: V 0 :: .c (ci o.load) :: rowsO r fun i => V (i + 1)
theorem rowsO_len : ∀ (l : List Ofc) (V : Nat → LV), (rowsO l V).length = l.length * 4
 | [], _ => rfl
 | o :: r, V => by simp only [rowsO, List.length_cons, rowsO_len r]; omega
theorem rowsO_get : ∀ (l : List Ofc) (V : Nat → LV) (i : Nat), i < l.length → (rowsO l V)[i * 4 + 2]? = some (V i)
 | [], _, i, h => absurd h (by simp)
 | o :: r, V, 0, _ => rfl
 | o :: r, V, i + 1, h => by
  have := rowsO_get r (fun i => V (i + 1)) i (by simpa using h)
  rw [show (i + 1) * 4 + 2 = i * 4 + 2 + 1 + 1 + 1 + 1 from by omega]
  simpa only [rowsO, List.getElem?_cons_succ] using this
theorem rowsO_set : ∀ (l : List Ofc) (V : Nat → LV) (i : Nat) (v : LV), i < l.length → (rowsO l V).set (i * 4 + 2) v = rowsO l (up V i v)
 | [], _, i, _, h => absurd h (by simp)
 | o :: r, V, 0, v, _ => by
  have : ∀ i, up V 0 v (i + 1) = V (i + 1) := fun i => up_ne (by omega)
  simp only [rowsO, this]
  rfl
 | o :: r, V, i + 1, v, h => by
  have ih := rowsO_set r (fun i => V (i + 1)) i v (by simpa using h)
  have e0 : up V (i + 1) v 0 = V 0 := up_ne (by omega)
  have e1 : ∀ k, up V (i + 1) v (k + 1) = up (fun i => V (i + 1)) i v k := fun k => by
   unfold up
   by_cases h : k = i <;> simp [h]
  rw [show (i + 1) * 4 + 2 = i * 4 + 2 + 1 + 1 + 1 + 1 from by omega]
  simp only [rowsO, List.set_cons_succ, ih, e0, e1]
theorem clone157_nil : ffn P 157 [.slice []] = some (.emp, []) := by
 rw [u157]; rfl
theorem strs_elems (l : List Str) : ∀ x ∈ l.map CV.str, Elem none x := by
 intro x hx
 obtain ⟨y, _, rfl⟩ := List.mem_map.1 hx
 exact ⟨rfl, rfl⟩
theorem clone157 (l : List Str) (hn : l ≠ []) (hl : l.length < 1000) : ffn P 157 [.slice (l.map CV.str)] = some (.slice 0 1 0 l.length none none, [.cells 1 (cellsOf (l.map CV.str)) 0]) := by
 have h1 := cellsOf_length (strs_elems l)
 have h2 := flatAll_cellsOf (strs_elems l)
 have h0 : l.length ≠ 0 := fun e => hn (List.eq_nil_of_length_eq_zero e)
 unfold cellsOf at h1 h2 ⊢
 rw [u157, cloneP, if_neg (by simpa using h0), if_neg]
 ·simp
 ·rw [h2, h1]
  simp [szOf]
  omega
theorem dead_end (h : Heap) : isDead (h ++ [LB.dead]) h.length = true := by simp [isDead]
theorem set_end (h : Heap) (X Y : LB) : (h ++ [X]).set h.length Y = h ++ [Y] := by simp
theorem shift_strs (n : Nat) (l : List Str) : shiftL n (cellsOf (l.map CV.str)) = cellsOf (l.map CV.str) := by
 unfold cellsOf
 generalize (l.map CV.str).flatMap CV.cells = k
 induction k with
 | nil => rfl
 | cons x k ih => rw [List.map_cons, shiftL, ih]; rfl
def OSv (b n : Nat) : LV := if n = 0 then .emp else .slice b 1 0 n (some 4) none
def FXB (n m : Nat) : LB := .cells 0 [OSv 1 n, OSv 2 m] 0
def T142a (a : List Int) (opn set : Nat) (wo : Int) (n i : Nat) : List LV := [.c (.slice (a.map ci)), .c (.int .u64 opn), .c (ci wo), .ptr 0 0 0, .ptr 3 0 0, .c (.int .u64 set), .c (ci n), .c (ci i)]
structure HpA (j : Jur) (V : Nat → LV) (X2 : LB) (h : Heap) : Prop where
 z : h[0]? = some (JB j)
 o : h[1]? = some (.cells 1 (rowsO j.ofs V) 0)
 p : h[2]? = some X2
 f : h[3]? = some (FXB j.ofs.length j.pts.length)
set_option maxHeartbeats 4000000 in
theorem B142a (j : Jur) (V : Nat → LV) (X2 : LB) (a : List Int) (opn set : Nat) (wo : Int) (i : Nat) (hi : i < j.ofs.length) (hjl : j.ofs.length < 1000) (h : Heap) (H : HpA j V X2 h) (l : List Str) (hl : V i = .c (.slice (l.map CV.str))) (hls : l.length < 1000) :
  execS P (limS P) c142_l0b ⟨T142a a opn set wo j.ofs.length i, h⟩ = some (.normal, ⟨T142a a opn set wo j.ofs.length (i + 1),
   if l = [] then (h ++ [LB.dead]).set 1 (LB.cells 1 (rowsO j.ofs (up V i .emp)) 0) else (h ++ [LB.cells 1 (cellsOf (l.map CV.str)) 0]).set 1 (LB.cells 1 (rowsO j.ofs (up V i (.slice h.length 1 0 l.length none none))) 0)⟩) := by
 obtain ⟨h0, h1, h2, h3⟩ := H
 have l1 : 1 < h.length := by exact lt_get h1
 have l3' : 3 < h.length := by exact lt_get h3
 have hrl : i * 4 + 2 + 1 ≤ (rowsO j.ofs V).length := by rw [rowsO_len]; omega
 have n0 : j.ofs.length ≠ 0 := by omega
 have l3 : 3 < h.length := by exact lt_get h3
 have hw : IntKind.i64.wrap ((i : Int) + 1) = (i : Int) + 1 := wrap64 (by omega) (by omega)
 have a1 : ∀ X : LB, (h ++ [X])[1]? = some (.cells 1 (rowsO j.ofs V) 0) := fun X => by rw [List.getElem?_append_left (by omega)]; exact h1
 have a3 : ∀ X : LB, (h ++ [X])[3]? = some (.cells 0 [.slice 1 1 0 j.ofs.length (some 4) none, OSv 2 j.pts.length] 0) := fun X => by rw [List.getElem?_append_left (by omega), h3, FXB, OSv, if_neg n0]
 have hg := rowsO_get j.ofs V i hi
 have hs := fun v => rowsO_set j.ofs V i v hi
 by_cases hle : l = []
 ·subst hle
  simp [T142a, c142_l0b, hi, hw, a1, a3, hg, hl, hs, l1, l3', hrl, clone157_nil, LV.shift, shiftB, allDead, setFrom]
 ·simp [T142a, c142_l0b, hi, hw, a1, a3, hg, hl, hs, hle, l1, l3', hrl, clone157 l hle hls, LV.shift, shiftB, LB.shift, shift_strs, allDead, setFrom, dead_end, set_end]
theorem rowP_name : ∀ (qs : List Pst) (p : Nat) (q : Pst), qs[p]? = some q → (cellsOf (qs.map Pst.enc))[p * 4]? = some (.c (.str q.name))
 | [], p, q, h => by simp at h
 | x :: r, 0, q, h => by simp at h; subst h; rfl
 | x :: r, p + 1, q, h => by
  have ih := rowP_name r p q (by simpa using h)
  rw [show (p + 1) * 4 = p * 4 + 1 + 1 + 1 + 1 from by omega]
  exact ih
theorem rowP_role : ∀ (qs : List Pst) (p : Nat) (q : Pst), qs[p]? = some q → (cellsOf (qs.map Pst.enc))[p * 4 + 1]? = some (.c (.str q.role))
 | [], p, q, h => by simp at h
 | x :: r, 0, q, h => by simp at h; subst h; rfl
 | x :: r, p + 1, q, h => by
  have ih := rowP_role r p q (by simpa using h)
  rw [show (p + 1) * 4 + 1 = p * 4 + 1 + 1 + 1 + 1 + 1 from by omega]
  exact ih
def reRole (r : Str) (q : Pst) : Pst := ⟨q.name, r, q.hour, q.nations⟩
theorem rowP_set : ∀ (qs : List Pst) (p : Nat) (q : Pst) (r : Str), qs[p]? = some q → (cellsOf (qs.map Pst.enc)).set (p * 4 + 1) (.c (.str r)) = cellsOf ((qs.set p (reRole r q)).map Pst.enc)
 | [], p, q, r, h => by simp at h
 | x :: k, 0, q, r, h => by simp at h; subst h; rfl
 | x :: k, p + 1, q, r, h => by
  have ih := rowP_set k p q r (by simpa using h)
  rw [show (p + 1) * 4 + 1 = p * 4 + 1 + 1 + 1 + 1 + 1 from by omega]
  have e : ∀ l : List Pst, cellsOf ((x :: l).map Pst.enc) = .c (.str x.name) :: .c (.str x.role) :: .c (ci x.hour) :: .c (.slice (x.nations.map CV.str)) :: cellsOf (l.map Pst.enc) := fun _ => rfl
  rw [List.set_cons_succ, e, e]
  simp only [List.set_cons_succ, ih]
theorem rowP_len (qs : List Pst) : (cellsOf (qs.map Pst.enc)).length = qs.length * 4 := by
 rw [cellsOf_length (Pst.elems qs)]
 simp [szOf]
def postS : Str := [112, 111, 115, 116, 32]
def T142b (a : List Int) (opn set : Nat) (wo : Int) (p : Nat) : List LV := [.c (.int .u64 opn), .c (ci wo), .ptr 0 0 0, .ptr 3 0 0, .c (.int .u64 set), .c (.slice (a.map ci)), .c (ci a.length), .c (ci p)]
theorem B142b_skip (a : List Int) (opn set : Nat) (wo : Int) (p : Nat) (x : Int) (hx : a[p]? = some x) (hal : a.length < 1000) (ho : opn < 32) (hs : bitB opn p = true ∨ x < 0) (hp : p < 64) (h : Heap) :
  execS P (limS P) c142_l1b ⟨T142b a opn set wo p, h⟩ = some (.normal, ⟨T142b a opn set wo (p + 1), h⟩) := by
 obtain ⟨hpl, hx'⟩ := List.getElem?_eq_some_iff.1 hx
 have hw : IntKind.i64.wrap ((p : Int) + 1) = (p : Int) + 1 := wrap64 (by omega) (by omega)
 have hsh := shrU (v := opn) (p := p) hp
 have hle : opn / 2 ^ p < 32 := Nat.lt_of_le_of_lt (Nat.div_le_self _ _) ho
 have han := and1 hle
 rcases Bool.eq_false_or_eq_true (bitB opn p) with hb | hb
 ·have hbb : opn / 2 ^ p % 2 = 1 := by unfold bitB at hb; simpa using hb
  rw [hbb] at han
  simp [T142b, c142_l1b, hpl, hx, hx', hw, hsh, han]
 ·have hbb : opn / 2 ^ p % 2 = 0 := by unfold bitB at hb; simp at hb; omega
  rw [hbb] at han
  have hx0 : x < 0 := by
   rcases hs with hs | hs
   ·rw [hb] at hs; cases hs
   ·exact hs
  simp [T142b, c142_l1b, hpl, hx, hx', hw, hsh, han, hx0]
theorem or1_all : (List.range 32).all (fun v => (List.range 5).all fun p => IntKind.u64.wrap ((v % 2 ^ IntKind.u64.bits ||| ((2 : Int) ^ p % 2 ^ IntKind.u64.bits).toNat : Nat) : Int) == ((v ||| 2 ^ p : Nat) : Int)) = true := by decide +kernel
theorem shl_all : (List.range 5).all (fun p => match shiftInt .shl .u64 1 ((p : Nat) : Int) with | some (.int .u64 v) => v == ((2 ^ p : Nat) : Int) | _ => false) = true := by decide +kernel
theorem shl1 {p : Nat} (hp : p < 5) : shiftInt .shl .u64 1 (p : Int) = some (.int .u64 ((2 ^ p : Nat) : Int)) := by
 have := List.all_eq_true.1 shl_all p (List.mem_range.2 hp)
 split at this
 ·rename_i v e
  rw [e, eq_of_beq this]
 ·cases this
structure HpB (j : Jur) (qs : List Pst) (V : Nat → LV) (h : Heap) : Prop extends HpA j V (.cells 1 (cellsOf (qs.map Pst.enc)) 0) h where
 q : qs.length = j.pts.length
def Ts (a : List Int) (opn set : Nat) (wo : Int) (p i : Nat) : List LV := [.c (.int .u64 opn), .c (ci wo), .ptr 0 0 0, .ptr 3 0 0, .c (.int .u64 set), .c (ci p), .c (ci i), .c (.slice (a.map ci)), .c (ci a.length), .c (ci p)]
theorem n18 (j : Jur) (qs : List Pst) (V : Nat → LV) (a : List Int) (opn set : Nat) (wo : Int) (p i : Nat) (q : Pst) (hq : qs[p]? = some q) (hqn : q.name.length < 1000) (h : Heap) (H : HpB j qs V h) :
  execS P (limS P) c142_n18 ⟨Ts a opn set wo p i, h⟩ = some (.normal, ⟨Ts a opn set wo p i, h.set 2 (LB.cells 1 (cellsOf ((qs.set p (reRole (postS ++ q.name) q)).map Pst.enc)) 0)⟩) := by
 obtain ⟨⟨h0, h1, h2, h3⟩, hql⟩ := H
 have hpq : p < qs.length := (List.getElem?_eq_some_iff.1 hq).1
 have m0 : j.pts.length ≠ 0 := by omega
 have hpm : p < j.pts.length := by omega
 rw [FXB, OSv, OSv, if_neg m0] at h3
 have p1 := rowP_name qs p q hq
 have p2 := rowP_set qs p q (postS ++ q.name) hq
 have hrl : p * 4 + 1 + 1 ≤ (cellsOf (qs.map Pst.enc)).length := by rw [rowP_len]; omega
 obtain ⟨l2, h2'⟩ := List.getElem?_eq_some_iff.1 h2
 obtain ⟨l3, h3'⟩ := List.getElem?_eq_some_iff.1 h3
 have hqs : ¬ (9223372036854775807 < 5 + (q.name.length : Int)) := by omega
 rw [← p2]
 simp [Ts, h3, h2, h3', h2', l2, l3, p1, hrl, hpm, postS, hqs]
theorem set_get {h : Heap} {i k : Nat} {X Y : LB} (hk : h[k]? = some Y) (e : i ≠ k) : (h.set i X)[k]? = some Y := by rw [List.getElem?_set_ne e]; exact hk
theorem app_get {h t : Heap} {k : Nat} {Y : LB} (hk : h[k]? = some Y) : (h ++ t)[k]? = some Y := by rw [List.getElem?_append_left (List.getElem?_eq_some_iff.1 hk).1]; exact hk
def newH (j : Jur) (V : Nat → LV) (i : Nat) (r : Str) (h : Heap) : Heap := (h ++ [LB.dead, LB.cells 1 [.c (.str r)] 0]).set 1 (LB.cells 1 (rowsO j.ofs (up V i (.slice (h.length + 1) 1 0 1 none none))) 0)
theorem n19_new (j : Jur) (qs : List Pst) (V : Nat → LV) (a : List Int) (opn set : Nat) (wo : Int) (p i : Nat) (q : Pst) (hq : qs[p]? = some q) (hi : i < j.ofs.length) (h : Heap) (H : HpB j qs V h) (he : V i = .emp) :
  execS P (limS P) c142_n19 ⟨Ts a opn set wo p i, h⟩ = some (.normal, ⟨T142b a opn set wo p, newH j V i q.role h⟩) := by
 obtain ⟨⟨h0, h1, h2, h3⟩, hql⟩ := H
 have hpq : p < qs.length := (List.getElem?_eq_some_iff.1 hq).1
 have m0 : j.pts.length ≠ 0 := by omega
 have n0 : j.ofs.length ≠ 0 := by omega
 have hpm : p < j.pts.length := by omega
 rw [FXB, OSv, OSv, if_neg m0, if_neg n0] at h3
 have p1 := rowP_role qs p q hq
 have hg := rowsO_get j.ofs V i hi
 have hs := fun v => rowsO_set j.ofs V i v hi
 rw [he] at hg
 have hrl : i * 4 + 2 + 1 ≤ (rowsO j.ofs V).length := by rw [rowsO_len]; omega
 have b1 : ∀ t : Heap, (h ++ t)[1]? = some (.cells 1 (rowsO j.ofs V) 0) := fun t => app_get h1
 have b2 : ∀ t : Heap, (h ++ t)[2]? = some (.cells 1 (cellsOf (qs.map Pst.enc)) 0) := fun t => app_get h2
 have b3 : ∀ t : Heap, (h ++ t)[3]? = some (.cells 0 [.slice 1 1 0 j.ofs.length (some 4) none, .slice 2 1 0 j.pts.length (some 4) none] 0) := fun t => app_get h3
 have b1' := fun t => (List.getElem?_eq_some_iff.1 (b1 t)).2
 have b2' := fun t => (List.getElem?_eq_some_iff.1 (b2 t)).2
 have b3' := fun t => (List.getElem?_eq_some_iff.1 (b3 t)).2
 have l1 := lt_get h1
 have l2 := lt_get h2
 have l3 := lt_get h3
 unfold newH
 simp [Ts, T142b, b1, b2, b3, b1', b2', b3', l1, l2, l3, p1, hg, hs, hrl, hpm, hi, appendOp, sliceCells, flatAll, ok, newId, newAt, szOf]
def oldH (j : Jur) (V : Nat → LV) (i b g : Nat) (l : List Str) (r : Str) (h : Heap) : Heap := ((h ++ [LB.dead, LB.dead]).set b (LB.cells (g + 1) (cellsOf ((l ++ [r]).map CV.str)) 0)).set 1 (LB.cells 1 (rowsO j.ofs (up V i (.slice b (g + 1) 0 (l.length + 1) none none))) 0)
theorem n19_old (j : Jur) (qs : List Pst) (V : Nat → LV) (a : List Int) (opn set : Nat) (wo : Int) (p i : Nat) (q : Pst) (hq : qs[p]? = some q) (hi : i < j.ofs.length) (h : Heap) (H : HpB j qs V h) (b g : Nat) (l : List Str) (hb4 : 4 ≤ b) (hg0 : g ≠ 0) (hb : h[b]? = some (.cells g (cellsOf (l.map CV.str)) 0)) (hll : l.length < 1100) (he : V i = .slice b g 0 l.length none none) :
  execS P (limS P) c142_n19 ⟨Ts a opn set wo p i, h⟩ = some (.normal, ⟨T142b a opn set wo p, oldH j V i b g l q.role h⟩) := by
 obtain ⟨⟨h0, h1, h2, h3⟩, hql⟩ := H
 have hpq : p < qs.length := (List.getElem?_eq_some_iff.1 hq).1
 have m0 : j.pts.length ≠ 0 := by omega
 have n0 : j.ofs.length ≠ 0 := by omega
 have hpm : p < j.pts.length := by omega
 rw [FXB, OSv, OSv, if_neg m0, if_neg n0] at h3
 have p1 := rowP_role qs p q hq
 have hg := rowsO_get j.ofs V i hi
 have hs := fun v => rowsO_set j.ofs V i v hi
 rw [he] at hg
 have hrl : i * 4 + 2 + 1 ≤ (rowsO j.ofs V).length := by rw [rowsO_len]; omega
 have b1 : ∀ t : Heap, (h ++ t)[1]? = some (.cells 1 (rowsO j.ofs V) 0) := fun t => app_get h1
 have b2 : ∀ t : Heap, (h ++ t)[2]? = some (.cells 1 (cellsOf (qs.map Pst.enc)) 0) := fun t => app_get h2
 have b3 : ∀ t : Heap, (h ++ t)[3]? = some (.cells 0 [.slice 1 1 0 j.ofs.length (some 4) none, .slice 2 1 0 j.pts.length (some 4) none] 0) := fun t => app_get h3
 have b1' := fun t => (List.getElem?_eq_some_iff.1 (b1 t)).2
 have b2' := fun t => (List.getElem?_eq_some_iff.1 (b2 t)).2
 have b3' := fun t => (List.getElem?_eq_some_iff.1 (b3 t)).2
 have l1 := lt_get h1
 have l2 := lt_get h2
 have l3 := lt_get h3
 have ha := append_ownP (some (h.length + 1)) (b := b) (g := g) (bytes := 16) (e := none) (ys := l.map CV.str) (xs := [.str q.role]) (h := h ++ [.dead, .dead]) (len := l.length) (fz := 0) (app_get hb) (strs_elems l) (strs_elems [q.role]) (by simp) (Nat.zero_le _) (by simp) (by simp; omega) (by simp; omega)
 have e1 : l.map CV.str ++ [.str q.role] = (l ++ [q.role]).map CV.str := by simp
 rw [e1] at ha
 generalize hHH : (h ++ [LB.dead, LB.dead]).set b (.cells (g + 1) (cellsOf ((l ++ [q.role]).map CV.str)) 0) = HH at ha
 have c1 : HH[1]? = some (.cells 1 (rowsO j.ofs V) 0) := by rw [← hHH]; exact set_get (b1 _) (by omega)
 have c1' := (List.getElem?_eq_some_iff.1 c1).2
 have c3 : HH[3]? = some (.cells 0 [.slice 1 1 0 j.ofs.length (some 4) none, .slice 2 1 0 j.pts.length (some 4) none] 0) := by rw [← hHH]; exact set_get (b3 _) (by omega)
 have c3' := (List.getElem?_eq_some_iff.1 c3).2
 have k1 := lt_get c1
 have k3 := lt_get c3
 unfold oldH
 rw [hHH]
 simp at ha
 simp [Ts, T142b, b1, b2, b3, b1', b2', b3', l1, l2, l3, c1, c1', c3, c3', k1, k3, p1, hg, hs, hrl, hpm, hi, ha, hg0]
theorem RoleRef.lt {h : Heap} {v : LV} {l : List Str} (H : RoleRef h v l) : blkOf v < h.length ∨ blkOf v = 0 := by
 rcases H with ⟨rfl, _⟩ | ⟨b, g, rfl, _, _, _, hb⟩
 ·exact .inr rfl
 ·exact .inl (lt_get hb)
theorem RoleRef.mono {h h' : Heap} {v : LV} {l : List Str} (H : RoleRef h v l) (e : ∀ b, 4 ≤ b → b = blkOf v → b < h.length → h'[b]? = h[b]?) : RoleRef h' v l := by
 rcases H with ⟨rfl, h1⟩ | ⟨b, g, rfl, h1, h2, h3, hb⟩
 ·exact .inl ⟨rfl, h1⟩
 ·exact .inr ⟨b, g, rfl, h1, h2, h3, by rw [e b h1 rfl (lt_get hb)]; exact hb⟩
theorem RoleRef.blk {h : Heap} {v : LV} {l : List Str} (H : RoleRef h v l) : blkOf v = 0 ∨ 4 ≤ blkOf v := by
 rcases H with ⟨rfl, _⟩ | ⟨b, g, rfl, h1, _⟩
 ·exact .inl rfl
 ·exact .inr h1
structure HpC (j : Jur) (k : Nat) (X2 : LB) (V : Nat → LV) (R : Nat → List Str) (h : Heap) : Prop extends HpA j V X2 h where
 ref : ∀ i, i < k → RoleRef h (V i) (R i)
 dis : ∀ i i', i < k → i' < k → i ≠ i' → blkOf (V i) = blkOf (V i') → blkOf (V i) = 0
theorem L142a (j : Jur) (X2 : LB) (a : List Int) (opn set : Nat) (wo : Int) (hjl : j.ofs.length < 1000) (R : Nat → List Str) (hR : ∀ i, i < j.ofs.length → (R i).length < 1000) : ∀ (d i : Nat) (V : Nat → LV) (h : Heap), i + d = j.ofs.length → HpC j i X2 V R h → (∀ i', i ≤ i' → i' < j.ofs.length → V i' = .c (.slice ((R i').map CV.str))) →
  ∃ V' h', HpC j j.ofs.length X2 V' R h' ∧ execS P (limS P) c142_l0 ⟨T142a a opn set wo j.ofs.length i, h⟩ = some (.exit 0, ⟨[.c (.slice (a.map ci)), .c (.int .u64 opn), .c (ci wo), .ptr 0 0 0, .ptr 3 0 0, .c (.int .u64 set)], h'⟩) := by
 intro d
 induction d with
 | zero =>
  intro i V h hd H hV
  have hi : i = j.ofs.length := by omega
  subst hi
  refine ⟨V, h, H, ?_⟩
  rw [r142_l0]
  simp [T142a, c142_l0b]
 | succ d ih =>
  intro i V h hd H hV
  have hi : i < j.ofs.length := by omega
  have hs := B142a (P := P) j V X2 a opn set wo i hi hjl h H.toHpA (R i) (hV i (Nat.le_refl _) hi) (hR i hi)
  have l1 := lt_get H.o
  have l3 := lt_get H.f
  by_cases hl : R i = []
  ·rw [if_pos hl] at hs
   have hk : ∀ b, 4 ≤ b → b < h.length → ((h ++ [LB.dead]).set 1 (.cells 1 (rowsO j.ofs (up V i .emp)) 0))[b]? = h[b]? := fun b h4 hb => by
    rw [List.getElem?_set_ne (by omega), List.getElem?_append_left hb]
   have HH : HpC j (i + 1) X2 (up V i .emp) R ((h ++ [LB.dead]).set 1 (.cells 1 (rowsO j.ofs (up V i .emp)) 0)) := by
    refine ⟨⟨set_get (app_get H.z) (by omega), ?_, set_get (app_get H.p) (by omega), set_get (app_get H.f) (by omega)⟩, ?_, ?_⟩
    ·rw [List.getElem?_set_self (by rw [List.length_append]; omega)]
    ·intro i' hi'
     by_cases e : i' = i
     ·subst e
      rw [up_same, hl]
      exact .inl ⟨rfl, rfl⟩
     ·rw [up_ne e]
      exact (H.ref i' (by omega)).mono fun b h4 _ hb => hk b h4 hb
    ·intro x y hx hy hne hxy
     by_cases e : x = i
     ·subst e; rw [up_same]; rfl
     ·rw [up_ne e] at hxy ⊢
      by_cases e' : y = i
      ·subst e'; rw [up_same] at hxy; exact hxy
      ·rw [up_ne e'] at hxy
       exact H.dis x y (by omega) (by omega) hne hxy
   obtain ⟨V', h', q1, q2⟩ := ih (i + 1) _ _ (by omega) HH fun i' h1 h2 => by
    rw [up_ne (by omega)]
    exact hV i' (by omega) h2
   refine ⟨V', h', q1, ?_⟩
   rw [r142_l0, hs]
   exact q2
  ·rw [if_neg hl] at hs
   have hk : ∀ b, 4 ≤ b → b < h.length → ((h ++ [LB.cells 1 (cellsOf ((R i).map CV.str)) 0]).set 1 (.cells 1 (rowsO j.ofs (up V i (.slice h.length 1 0 (R i).length none none))) 0))[b]? = h[b]? := fun b h4 hb => by
    rw [List.getElem?_set_ne (by omega), List.getElem?_append_left hb]
   have hbi : blkOf (.slice h.length 1 0 (R i).length none none) = h.length := rfl
   have HH : HpC j (i + 1) X2 (up V i (.slice h.length 1 0 (R i).length none none)) R ((h ++ [LB.cells 1 (cellsOf ((R i).map CV.str)) 0]).set 1 (.cells 1 (rowsO j.ofs (up V i (.slice h.length 1 0 (R i).length none none))) 0)) := by
    refine ⟨⟨set_get (app_get H.z) (by omega), ?_, set_get (app_get H.p) (by omega), set_get (app_get H.f) (by omega)⟩, ?_, ?_⟩
    ·rw [List.getElem?_set_self (by rw [List.length_append]; omega)]
    ·intro i' hi'
     by_cases e : i' = i
     ·subst e
      rw [up_same]
      exact .inr ⟨h.length, 1, rfl, by omega, by omega, hl, by rw [List.getElem?_set_ne (by omega), List.getElem?_append_right (Nat.le_refl _)]; simp⟩
     ·rw [up_ne e]
      exact (H.ref i' (by omega)).mono fun b h4 _ hb => hk b h4 hb
    ·intro x y hx hy hne hxy
     by_cases e : x = i
     ·subst e
      rw [up_same, up_ne (Ne.symm hne), hbi] at hxy
      rcases (H.ref y (by omega)).lt with hlt | hlt <;> omega
     ·rw [up_ne e] at hxy ⊢
      by_cases e' : y = i
      ·subst e'
       rw [up_same, hbi] at hxy
       rcases (H.ref x (by omega)).lt with hlt | hlt <;> omega
      ·rw [up_ne e'] at hxy
       exact H.dis x y (by omega) (by omega) hne hxy
   obtain ⟨V', h', q1, q2⟩ := ih (i + 1) _ _ (by omega) HH fun i' h1 h2 => by
    rw [up_ne (by omega)]
    exact hV i' (by omega) h2
   refine ⟨V', h', q1, ?_⟩
   rw [r142_l0, hs]
   exact q2
def postR (q : Pst) : Pst := reRole (postS ++ q.name) q
theorem n18c (j : Jur) (qs : List Pst) (V : Nat → LV) (R : Nat → List Str) (q : Pst) (p : Nat) (h : Heap) (H : HpC j j.ofs.length (.cells 1 (cellsOf (qs.map Pst.enc)) 0) V R h) : HpC j j.ofs.length (.cells 1 (cellsOf ((qs.set p (postR q)).map Pst.enc)) 0) V R (h.set 2 (.cells 1 (cellsOf ((qs.set p (postR q)).map Pst.enc)) 0)) := by
 refine ⟨⟨set_get H.z (by omega), set_get H.o (by omega), ?_, set_get H.f (by omega)⟩, fun i hi => (H.ref i hi).mono fun b h4 _ _ => List.getElem?_set_ne (by omega), H.dis⟩
 rw [List.getElem?_set_self (lt_get H.p)]
theorem B142b_fix (j : Jur) (qs : List Pst) (hql : qs.length = j.pts.length) (V : Nat → LV) (R : Nat → List Str) (a : List Int) (opn set : Nat) (wo : Int) (p i : Nat) (hx : a[p]? = some (i : Int)) (hi : i < j.ofs.length) (hRi : (R i).length < 1100) (hjl : j.ofs.length < 1000) (hal : a.length = j.pts.length) (hm : j.pts.length ≤ 5) (ho : opn < 32) (hset : set < 32) (hb : bitB opn p = false) (q : Pst) (hq : qs[p]? = some q) (hqn : q.name.length < 1000) (h : Heap) (H : HpC j j.ofs.length (.cells 1 (cellsOf (qs.map Pst.enc)) 0) V R h) :
  ∃ V' h', HpC j j.ofs.length (.cells 1 (cellsOf ((qs.set p (postR q)).map Pst.enc)) 0) V' (up R i (R i ++ [postS ++ q.name])) h' ∧ execS P (limS P) c142_l1b ⟨T142b a opn set wo p, h⟩ = some (.normal, ⟨T142b a opn (set ||| 2 ^ p) wo (p + 1), h'⟩) := by
 obtain ⟨hpl, hx'⟩ := List.getElem?_eq_some_iff.1 hx
 have hpm : p < j.pts.length := by omega
 have hw : IntKind.i64.wrap ((p : Int) + 1) = (p : Int) + 1 := wrap64 (by omega) (by omega)
 have hsh := shrU (v := opn) (p := p) (by omega)
 have hle : opn / 2 ^ p < 32 := Nat.lt_of_le_of_lt (Nat.div_le_self _ _) ho
 have han := and1 hle
 have hbb : opn / 2 ^ p % 2 = 0 := by unfold bitB at hb; simp at hb; omega
 rw [hbb] at han
 have hor := eq_of_beq (List.all_eq_true.1 (List.all_eq_true.1 or1_all set (List.mem_range.2 hset)) p (List.mem_range.2 (by omega)))
 have hi0 : ¬ (i : Int) < 0 := by omega
 have hsl := shl1 (p := p) (by omega)
 have hHB : HpB j qs V h := ⟨H.toHpA, hql⟩
 have e18 := n18 (P := P) j qs V a opn (set ||| 2 ^ p) wo p i q hq hqn h hHB
 have H2 := n18c j qs V R q p h H
 have hql2 : (qs.set p (postR q)).length = j.pts.length := by simp [hql]
 have hq2 : (qs.set p (postR q))[p]? = some (postR q) := by rw [List.getElem?_set_self (by omega)]
 obtain ⟨V', h', H3, e19⟩ : ∃ V' h', HpC j j.ofs.length (.cells 1 (cellsOf ((qs.set p (postR q)).map Pst.enc)) 0) V' (up R i (R i ++ [postS ++ q.name])) h' ∧ execS P (limS P) c142_n19 ⟨Ts a opn (set ||| 2 ^ p) wo p i, h.set 2 (.cells 1 (cellsOf ((qs.set p (postR q)).map Pst.enc)) 0)⟩ = some (.normal, ⟨T142b a opn (set ||| 2 ^ p) wo p, h'⟩) := by
  generalize h.set 2 (.cells 1 (cellsOf ((qs.set p (postR q)).map Pst.enc)) 0) = g2 at *
  have l1 := lt_get H2.o
  have l3 := lt_get H2.f
  rcases H2.ref i hi with ⟨he, hR⟩ | ⟨b, g, he, h4, hg0, hne, hbk⟩
  ·refine ⟨up V i (.slice (g2.length + 1) 1 0 1 none none), newH j V i (postR q).role g2, ?_, n19_new (P := P) j _ V a opn _ wo p i (postR q) hq2 hi g2 ⟨H2.toHpA, hql2⟩ he⟩
   unfold newH
   refine ⟨⟨set_get (app_get H2.z) (by omega), by rw [List.getElem?_set_self (by rw [List.length_append]; omega)], set_get (app_get H2.p) (by omega), set_get (app_get H2.f) (by omega)⟩, ?_, ?_⟩
   ·intro i' hi'
    by_cases e : i' = i
    ·subst e
     rw [up_same, up_same, hR]
     refine .inr ⟨g2.length + 1, 1, rfl, by omega, by omega, by simp, ?_⟩
     rw [List.getElem?_set_ne (by omega), List.getElem?_append_right (by omega)]
     simp [cellsOf, postR, reRole, CV.cells]
    ·rw [up_ne e, up_ne e]
     exact (H2.ref i' hi').mono fun b h4 _ hb => by rw [List.getElem?_set_ne (by omega), List.getElem?_append_left hb]
   ·intro u w hu hw' hnuw huw
    have hbi : blkOf (.slice (g2.length + 1) 1 0 1 none none) = g2.length + 1 := rfl
    by_cases e : u = i
    ·subst e
     rw [up_same, up_ne (Ne.symm hnuw), hbi] at huw
     rcases (H2.ref w hw').lt with hlt | hlt <;> omega
    ·rw [up_ne e] at huw ⊢
     by_cases e' : w = i
     ·subst e'
      rw [up_same, hbi] at huw
      rcases (H2.ref u hu).lt with hlt | hlt <;> omega
     ·rw [up_ne e'] at huw
      exact H2.dis u w hu hw' hnuw huw
  ·refine ⟨up V i (.slice b (g + 1) 0 ((R i).length + 1) none none), oldH j V i b g (R i) (postR q).role g2, ?_, n19_old (P := P) j _ V a opn _ wo p i (postR q) hq2 hi g2 ⟨H2.toHpA, hql2⟩ b g (R i) h4 hg0 hbk hRi he⟩
   unfold oldH
   have hbl := lt_get hbk
   have hvb : blkOf (V i) = b := by rw [he]; rfl
   refine ⟨⟨set_get (set_get (app_get H2.z) (by omega)) (by omega), by rw [List.getElem?_set_self (by rw [List.length_set, List.length_append]; omega)], set_get (set_get (app_get H2.p) (by omega)) (by omega), set_get (set_get (app_get H2.f) (by omega)) (by omega)⟩, ?_, ?_⟩
   ·intro i' hi'
    by_cases e : i' = i
    ·subst e
     rw [up_same, up_same]
     refine .inr ⟨b, g + 1, by simp, h4, by omega, by simp, ?_⟩
     rw [List.getElem?_set_ne (by omega), List.getElem?_set_self (by rw [List.length_append]; omega)]
     rfl
    ·rw [up_ne e, up_ne e]
     refine (H2.ref i' hi').mono fun b' h4' hb' hbl' => ?_
     have : b ≠ b' := fun eb => by
      have := H2.dis i' i hi' hi e (by omega)
      omega
     rw [List.getElem?_set_ne (by omega), List.getElem?_set_ne this, List.getElem?_append_left hbl']
   ·intro u w hu hw' hnuw huw
    have hbi : blkOf (.slice b (g + 1) 0 ((R i).length + 1) none none) = blkOf (V i) := by rw [hvb]; rfl
    by_cases e : u = i
    ·subst e
     rw [up_same, up_ne (Ne.symm hnuw), hbi] at huw
     have := H2.dis u w hu hw' hnuw huw
     omega
    ·rw [up_ne e] at huw ⊢
     by_cases e' : w = i
     ·subst e'
      rw [up_same, hbi] at huw
      exact H2.dis u w hu hw' hnuw huw
     ·rw [up_ne e'] at huw
      exact H2.dis u w hu hw' hnuw huw
 refine ⟨V', h', H3, ?_⟩
 simp only [Ts, T142b] at e18 e19 ⊢
 have e18' : reRole (postS ++ q.name) q = postR q := rfl
 rw [e18'] at e18
 generalize h.set 2 (.cells 1 (cellsOf ((qs.set p (postR q)).map Pst.enc)) 0) = g2 at *
 simp [c142_l1b, hpl, hx, hx', hw, hsh, han, hi0, hsl, hor, e18, e19, -c142_n18, -c142_n19]
def fixd (a : List Int) (opn p : Nat) : Option Nat := match a[p]? with
 | some x => if bitB opn p = true ∨ x < 0 then none else some x.toNat
 | none => none
def setK (a : List Int) (opn : Nat) : Nat → Nat
 | 0 => opn
 | k + 1 => match fixd a opn k with
  | none => setK a opn k
  | some _ => setK a opn k ||| 2 ^ k
def qsK (a : List Int) (opn : Nat) (qs : List Pst) : Nat → List Pst
 | 0 => qs
 | k + 1 => match fixd a opn k with
  | none => qsK a opn qs k
  | some _ => match (qsK a opn qs k)[k]? with
   | some q => (qsK a opn qs k).set k (postR q)
   | none => qsK a opn qs k
def nameP (qs : List Pst) (k : Nat) : Str := match qs[k]? with
 | some q => q.name
 | none => []
def RK (a : List Int) (opn : Nat) (qs : List Pst) (R : Nat → List Str) : Nat → Nat → List Str
 | 0 => R
 | k + 1 => match fixd a opn k with
  | none => RK a opn qs R k
  | some i => up (RK a opn qs R k) i (RK a opn qs R k i ++ [postS ++ nameP qs k])
theorem qsK_len (a : List Int) (opn : Nat) (qs : List Pst) : ∀ k, (qsK a opn qs k).length = qs.length
 | 0 => rfl
 | k + 1 => by
  have ih := qsK_len a opn qs k
  unfold qsK
  split
  ·exact ih
  ·split
   ·rw [List.length_set]; exact ih
   ·exact ih
theorem qsK_get (a : List Int) (opn : Nat) (qs : List Pst) : ∀ k p, (qsK a opn qs k)[p]? = (qs[p]?).map fun q => if p < k ∧ fixd a opn p ≠ none then postR q else q
 | 0, p => by simp [qsK]
 | k + 1, p => by
  have ih := qsK_get a opn qs k
  unfold qsK
  cases hf : fixd a opn k with
  | none =>
   simp only []
   rw [ih p]
   congr 1
   funext q
   by_cases e : p = k
   ·subst e; simp [hf]
   ·by_cases h : p < k
    ·simp [h, show p < k + 1 from by omega]
    ·simp [h, show ¬ p < k + 1 from by omega]
  | some i =>
   simp only []
   cases hq : (qsK a opn qs k)[k]? with
   | none =>
    simp only []
    rw [ih k] at hq
    simp only [Option.map_eq_none_iff] at hq
    rw [ih p]
    by_cases e : p = k
    ·subst e; rw [hq]; rfl
    ·congr 1
     funext q
     by_cases h : p < k
     ·simp [h, show p < k + 1 from by omega]
     ·simp [h, show ¬ p < k + 1 from by omega]
   | some q =>
    simp only []
    have hk : k < (qsK a opn qs k).length := (List.getElem?_eq_some_iff.1 hq).1
    by_cases e : p = k
    ·subst e
     rw [List.getElem?_set_self hk]
     rw [ih p] at hq
     simp only [Option.map_eq_some_iff] at hq
     obtain ⟨q', h1, h2⟩ := hq
     rw [h1]
     simp at h2
     simp [hf, h2]
    ·rw [List.getElem?_set_ne (by omega), ih p]
     congr 1
     funext q
     by_cases h : p < k
     ·simp [h, show p < k + 1 from by omega]
     ·simp [h, show ¬ p < k + 1 from by omega]
theorem RK_none {a : List Int} {opn k : Nat} {qs : List Pst} {R : Nat → List Str} (h : fixd a opn k = none) : RK a opn qs R (k + 1) = RK a opn qs R k := by rw [RK, h]
theorem RK_some {a : List Int} {opn k i : Nat} {qs : List Pst} {R : Nat → List Str} (h : fixd a opn k = some i) : RK a opn qs R (k + 1) = up (RK a opn qs R k) i (RK a opn qs R k i ++ [postS ++ nameP qs k]) := by rw [RK, h]
theorem RK_len (a : List Int) (opn : Nat) (qs : List Pst) (R : Nat → List Str) (i : Nat) : ∀ k, (RK a opn qs R k i).length ≤ (R i).length + k
 | 0 => Nat.le_refl _
 | k + 1 => by
  have ih := RK_len a opn qs R i k
  cases hf : fixd a opn k with
  | none => rw [RK_none hf]; omega
  | some i' =>
   rw [RK_some hf]
   by_cases e : i = i'
   ·subst e
    rw [up_same, List.length_append]
    simp
    omega
   ·rw [up_ne e]
    omega
theorem RK_mem (a : List Int) (opn : Nat) (qs : List Pst) (R : Nat → List Str) (i : Nat) (s : Str) : ∀ k, s ∈ RK a opn qs R k i ↔ s ∈ R i ∨ ∃ p, p < k ∧ fixd a opn p = some i ∧ s = postS ++ nameP qs p
 | 0 => by simp [RK]
 | k + 1 => by
  have ih := RK_mem a opn qs R i s k
  have hx : (∃ p, p < k + 1 ∧ fixd a opn p = some i ∧ s = postS ++ nameP qs p) ↔ (∃ p, p < k ∧ fixd a opn p = some i ∧ s = postS ++ nameP qs p) ∨ (fixd a opn k = some i ∧ s = postS ++ nameP qs k) := by
   constructor
   ·rintro ⟨p, h1, h2, h3⟩
    by_cases e : p = k
    ·subst e; exact .inr ⟨h2, h3⟩
    ·exact .inl ⟨p, by omega, h2, h3⟩
   ·rintro (⟨p, h1, h2, h3⟩ | ⟨h2, h3⟩)
    ·exact ⟨p, by omega, h2, h3⟩
    ·exact ⟨k, by omega, h2, h3⟩
  rw [hx, ← or_assoc, ← ih]
  cases hf : fixd a opn k with
  | none => rw [RK_none hf]; simp
  | some i' =>
   rw [RK_some hf]
   by_cases e : i = i'
   ·subst e
    rw [up_same]
    simp
   ·rw [up_ne e]
    have : ¬ i' = i := fun h => e h.symm
    simp [this]
theorem setK_lt {m : Nat} (a : List Int) {opn : Nat} (ho : opn < 2 ^ m) : ∀ k, k ≤ m → setK a opn k < 2 ^ m
 | 0, _ => ho
 | k + 1, h => by
  have ih := setK_lt a ho k (by omega)
  unfold setK
  split
  ·exact ih
  ·exact Nat.or_lt_two_pow ih (Nat.pow_lt_pow_right (by omega) (by omega))
theorem L142b (j : Jur) (a : List Int) (opn : Nat) (wo : Int) (hjl : j.ofs.length < 1000) (hal : a.length = j.pts.length) (hm : j.pts.length ≤ 5) (ho : opn < 2 ^ j.pts.length) (R : Nat → List Str) (hR : ∀ i, i < j.ofs.length → (R i).length < 1000) (hn : ∀ q ∈ j.pts, q.name.length < 1000) (hfx : ∀ p i, fixd a opn p = some i → i < j.ofs.length) : ∀ (d k : Nat) (V : Nat → LV) (h : Heap), k + d = j.pts.length → HpC j j.ofs.length (.cells 1 (cellsOf ((qsK a opn j.pts k).map Pst.enc)) 0) V (RK a opn j.pts R k) h →
  ∃ V' h', HpC j j.ofs.length (.cells 1 (cellsOf ((qsK a opn j.pts j.pts.length).map Pst.enc)) 0) V' (RK a opn j.pts R j.pts.length) h' ∧
   execS P (limS P) c142_l1 ⟨T142b a opn (setK a opn k) wo k, h⟩ = some (.exit 2, ⟨[.c (ci wo), .ptr 0 0 0, .ptr 3 0 0, .c (.int .u64 (setK a opn j.pts.length))], h'⟩) := by
 have h32 := pow32 hm
 intro d
 induction d with
 | zero =>
  intro k V h hd H
  have hk : k = j.pts.length := by omega
  subst hk
  refine ⟨V, h, H, ?_⟩
  rw [r142_l1]
  simp [T142b, c142_l1b, hal]
 | succ d ih =>
  intro k V h hd H
  have hk : k < j.pts.length := by omega
  have hset := setK_lt a ho k (by omega)
  obtain ⟨x, hx⟩ : ∃ x, a[k]? = some x := ⟨_, List.getElem?_eq_getElem (by omega)⟩
  have hq0 : j.pts[k]? = some j.pts[k] := List.getElem?_eq_getElem hk
  have hqk : (qsK a opn j.pts k)[k]? = some j.pts[k] := by rw [qsK_get, hq0]; simp
  cases hf : fixd a opn k with
  | none =>
   have hs : bitB opn k = true ∨ x < 0 := by
    unfold fixd at hf
    rw [hx] at hf
    simp only [] at hf
    by_cases hs : bitB opn k = true ∨ x < 0
    ·exact hs
    ·rw [if_neg hs] at hf; cases hf
   have e1 := B142b_skip (P := P) a opn (setK a opn k) wo k x hx (by omega) (by omega) hs (by omega) h
   have e2 : qsK a opn j.pts (k + 1) = qsK a opn j.pts k := by rw [qsK, hf]
   have e3 : setK a opn (k + 1) = setK a opn k := by rw [setK, hf]
   have e4 : RK a opn j.pts R (k + 1) = RK a opn j.pts R k := by rw [RK, hf]
   obtain ⟨V', h', q1, q2⟩ := ih (k + 1) V h (by omega) (by rw [e2, e4]; exact H)
   rw [e3] at q2
   refine ⟨V', h', q1, ?_⟩
   rw [r142_l1, e1]
   exact q2
  | some i =>
   have hi := hfx k i hf
   have hs : bitB opn k = false ∧ x = (i : Int) := by
    unfold fixd at hf
    rw [hx] at hf
    simp only [] at hf
    by_cases hs : bitB opn k = true ∨ x < 0
    ·rw [if_pos hs] at hf; cases hf
    ·rw [if_neg hs] at hf
     cases hf
     refine ⟨by simpa using fun h => hs (.inl h), ?_⟩
     have : ¬ x < 0 := fun h => hs (.inr h)
     omega
   obtain ⟨hb, rfl⟩ := hs
   have hRl := RK_len a opn j.pts R i k
   have := hR i hi
   obtain ⟨V1, h1, H1, e1⟩ := B142b_fix (P := P) j (qsK a opn j.pts k) (qsK_len _ _ _ _) V (RK a opn j.pts R k) a opn (setK a opn k) wo k i hx hi (by omega) hjl hal hm (by omega) (by omega) hb j.pts[k] hqk (hn _ (List.getElem_mem hk)) h H
   have e2 : qsK a opn j.pts (k + 1) = (qsK a opn j.pts k).set k (postR j.pts[k]) := by rw [qsK, hf]; simp only []; rw [hqk]
   have e3 : setK a opn (k + 1) = setK a opn k ||| 2 ^ k := by rw [setK, hf]
   have e5 : nameP j.pts k = j.pts[k].name := by unfold nameP; rw [hq0]
   have e4 : RK a opn j.pts R (k + 1) = up (RK a opn j.pts R k) i (RK a opn j.pts R k i ++ [postS ++ j.pts[k].name]) := by rw [RK, hf]; simp only []; rw [e5]
   obtain ⟨V', h', q1, q2⟩ := ih (k + 1) V1 h1 (by omega) (by rw [e2, e4]; exact H1)
   rw [e3] at q2
   refine ⟨V', h', q1, ?_⟩
   rw [r142_l1, e1]
   exact q2
def RoleF (h : Heap) (v : LV) (l : List Str) : Prop :=
 (v = .emp ∧ l = []) ∨ ∃ b g fz, v = .slice b g 0 l.length none none ∧ h[b]? = some (.cells g (cellsOf (l.map CV.str)) fz)
def AsH (h h' : Heap) : Prop := ∀ (b g : Nat) (cs : List LV) (fz : Nat), h[b]? = some (LB.cells g cs fz) → ∃ fz', h'[b]? = some (LB.cells g cs fz')
theorem AsH.refl (h : Heap) : AsH h h := fun _ _ _ fz e => ⟨fz, e⟩
theorem AsH.trans {h k l : Heap} (h1 : AsH h k) (h2 : AsH k l) : AsH h l := fun b g cs fz e => by
 obtain ⟨fz', e'⟩ := h1 b g cs fz e
 exact h2 b g cs fz' e'
theorem AsH.role {h h' : Heap} (H : AsH h h') {v : LV} {l : List Str} (hr : RoleF h v l) : RoleF h' v l := by
 rcases hr with hr | ⟨b, g, fz, e, hb⟩
 ·exact .inl hr
 ·obtain ⟨fz', hb'⟩ := H b g _ fz hb
  exact .inr ⟨b, g, fz', e, hb'⟩
theorem bump_same (b k : Nat) (h : Heap) : AsH h (bump b k h) := by
 intro b' g cs fz e
 unfold bump
 split
 ·rename_i g0 cs0 fz0 h0
  by_cases eb : b = b'
  ·subst eb
   rw [e] at h0
   cases h0
   refine ⟨_, by rw [List.getElem?_set_self (lt_get e)]⟩
  ·exact ⟨fz, by rw [List.getElem?_set_ne eb]; exact e⟩
 ·exact ⟨fz, e⟩
theorem frz38_role {h : Heap} {v : LV} {l : List Str} (hr : RoleF h v l) : ∃ h', frz 38 v h = some (.slice (l.map CV.str), h') ∧ AsH h h' := by
 rcases hr with ⟨rfl, rfl⟩ | ⟨b, g, fz, rfl, hb⟩
 ·exact ⟨h, rfl, AsH.refl h⟩
 ·refine ⟨_, ?_, bump_same b (l.length * szOf none) h⟩
  have h3 := cellsOf_length (strs_elems l)
  rw [List.length_map] at h3
  rw [frz_38_slice, hb]
  simp only [Nat.zero_add, List.drop_zero]
  rw [if_pos ⟨trivial, by omega⟩]
  have : (cellsOf (l.map CV.str)).take (l.length * szOf none) = cellsOf (l.map CV.str) := by rw [← h3]; exact List.take_length
  rw [this]
  have hc := chunk_cellsOf (strs_elems l)
  rw [List.length_map] at hc
  unfold cellsOf
  rw [mapH_map_c 36]
  simp only [bnd_some, hc]
def fxO : List Ofc → (Nat → List Str) → List Ofc
 | [], _ => []
 | o :: r, R => ⟨o.name, o.nation, R 0, o.load⟩ :: fxO r fun i => R (i + 1)
theorem fxO_len : ∀ (l : List Ofc) (R : Nat → List Str), (fxO l R).length = l.length
 | [], _ => rfl
 | o :: r, R => by simp only [fxO, List.length_cons, fxO_len r]
theorem fxO_get : ∀ (l : List Ofc) (R : Nat → List Str) (i : Nat), (fxO l R)[i]? = (l[i]?).map fun o => ⟨o.name, o.nation, R i, o.load⟩
 | [], _, _ => by simp [fxO]
 | o :: r, R, 0 => rfl
 | o :: r, R, i + 1 => by
  simp only [fxO, List.getElem?_cons_succ]
  exact fxO_get r _ i
theorem rowsO_c : ∀ (l : List Ofc) (R : Nat → List Str), rowsO l (fun i => .c (.slice ((R i).map CV.str))) = cellsOf ((fxO l R).map Ofc.enc)
 | [], _ => rfl
 | o :: r, R => by
  simp only [rowsO, fxO]
  rw [rowsO_c r fun i => R (i + 1)]
  rfl
theorem frzRows : ∀ (l : List Ofc) (V : Nat → LV) (R : Nat → List Str) (h : Heap), (∀ i, i < l.length → RoleF h (V i) (R i)) →
  ∃ h', mapH (frz 38) (rowsO l V) h = some (((fxO l R).map Ofc.enc).flatMap CV.cells, h') ∧ AsH h h'
 | [], _, _, h, _ => ⟨h, rfl, AsH.refl h⟩
 | o :: r, V, R, h, H => by
  obtain ⟨h1, e1, s1⟩ := frz38_role (H 0 (by simp))
  obtain ⟨h2, e2, s2⟩ := frzRows r (fun i => V (i + 1)) (fun i => R (i + 1)) h1 fun i hi => s1.role (H (i + 1) (by simpa using hi))
  refine ⟨h2, ?_, s1.trans s2⟩
  simp only [rowsO, mapH_cons, frz_succ_c, bnd_some, e1, e2]
  rfl
theorem frzOfs {h : Heap} (l : List Ofc) (V : Nat → LV) (R : Nat → List Str) {fz : Nat} (ho : h[1]? = some (.cells 1 (rowsO l V) fz)) (H : ∀ i, i < l.length → RoleF h (V i) (R i)) :
  ∃ h', frz 39 (.slice 1 1 0 l.length (some 4) none) h = some (.slice ((fxO l R).map Ofc.enc), h') ∧ AsH h h' := by
 have hs := bump_same 1 (l.length * 4) h
 obtain ⟨h', e, s⟩ := frzRows l V R (bump 1 (l.length * 4) h) fun i hi => hs.role (H i hi)
 refine ⟨h', ?_, hs.trans s⟩
 have hl := rowsO_len l V
 rw [frz_39_slice, ho]
 simp only [Nat.zero_add, List.drop_zero, szOf]
 rw [if_pos ⟨trivial, by omega⟩]
 have : (rowsO l V).take (l.length * 4) = rowsO l V := by rw [← hl]; exact List.take_length
 rw [this, e]
 have hc := chunk_cellsOf (Ofc.elems (fxO l R))
 rw [List.length_map, fxO_len] at hc
 simp only [bnd_some, hc]
theorem HpC.roles {j : Jur} {X2 : LB} {V : Nat → LV} {R : Nat → List Str} {h h' : Heap} (H : HpC j j.ofs.length X2 V R h) (s : AsH h h') : ∀ i, i < j.ofs.length → RoleF h' (V i) (R i) := by
 intro i hi
 refine s.role ?_
 rcases H.ref i hi with hr | ⟨b, g, e, _, _, _, hb⟩
 ·exact .inl hr
 ·exact .inr ⟨b, g, 0, e, hb⟩
def ldsW (wo : Int) (l : List Ofc) : List Int := if 0 ≤ wo then (ldsL 24 l).set wo.toNat 0 else ldsL 24 l
set_option maxHeartbeats 4000000 in
theorem B142_tail (j : Jur) (qs : List Pst) (hql : qs.length = j.pts.length) (V : Nat → LV) (R : Nat → List Str) (set : Nat) (wo : Int) (hwo : wo < j.ofs.length) (h : Heap) (H : HpC j j.ofs.length (.cells 1 (cellsOf (qs.map Pst.enc)) 0) V R h) (n0 : 0 < j.ofs.length) (m0 : 0 < j.pts.length) (hjl : j.ofs.length < 800) (r : Bool)
  (e121 : fn P 121 [Jur.enc ⟨fxO j.ofs R, qs⟩, .int .u64 set, .slice ((ldsW wo j.ofs).map ci)] = some (.bool r)) :
  ∃ h', execS P (limS P) c142_n28 ⟨[.c (ci wo), .ptr 0 0 0, .ptr 3 0 0, .c (.int .u64 set)], h⟩ = some (.ret, ⟨[.c (.bool r)], h'⟩) := by
 have hll : (ldsL 24 j.ofs).length = j.ofs.length := by simp [ldsL]
 have e120 := S120 (P := P) j 24 (by omega)
 have hz := H.z
 have hz' := (List.getElem?_eq_some_iff.1 hz).2
 have l0 := lt_get hz
 have hf := H.f
 rw [FXB, OSv, OSv, if_neg (by omega), if_neg (by omega)] at hf
 have hagg : ∀ (cs l : List LV) (h : Heap), frzArgs false (.agg cs :: l) h = bnd (frz frzDepth (.agg cs) h) fun y => bnd (frzArgs false l y.2) fun z => some (y.1 :: z.1, z.2) := fun cs l h => frzArgs_cons _ l h
 -- from the loads on
 have key : ∀ (lds : List Int), lds.length = j.ofs.length → fn P 121 [Jur.enc ⟨fxO j.ofs R, qs⟩, .int .u64 set, .slice (lds.map ci)] = some (.bool r) →
   ∃ h1 h2 h3, frz 39 (.slice 1 1 0 j.ofs.length (some 4) none) (h ++ [.cells 0 [.c (.slice (j.ofs.map Ofc.enc)), .c (.slice (j.pts.map Pst.enc))] 0, .cells 1 [] 0, .cells (1 + j.ofs.length) (cI lds) 0, .dead]) = some (.slice ((fxO j.ofs R).map Ofc.enc), h1) ∧
    frz 39 (.slice 2 1 0 j.pts.length (some 4) none) h1 = some (.slice (qs.map Pst.enc), h2) ∧
    frz frzDepth (.slice (2 + h.length) (1 + j.ofs.length) 0 j.ofs.length none none) h2 = some (.slice (lds.map ci), h3) := by
  intro lds hlds e121
  have hs : AsH h (h ++ [.cells 0 [.c (.slice (j.ofs.map Ofc.enc)), .c (.slice (j.pts.map Pst.enc))] 0, .cells 1 [] 0, .cells (1 + j.ofs.length) (cI lds) 0, .dead]) := fun b g cs fz e => ⟨fz, app_get e⟩
  have hb : (h ++ [.cells 0 [.c (.slice (j.ofs.map Ofc.enc)), .c (.slice (j.pts.map Pst.enc))] 0, .cells 1 [] 0, .cells (1 + j.ofs.length) (cI lds) 0, .dead])[2 + h.length]? = some (.cells (1 + j.ofs.length) (cI lds) 0) := by
   rw [Nat.add_comm, List.getElem?_append_right (by omega)]
   simp
  generalize (h ++ [.cells 0 [.c (.slice (j.ofs.map Ofc.enc)), .c (.slice (j.pts.map Pst.enc))] 0, .cells 1 [] 0, .cells (1 + j.ofs.length) (cI lds) 0, .dead]) = hL at *
  obtain ⟨fz1, ho⟩ := hs 1 1 _ 0 H.o
  obtain ⟨h1, f1, s1⟩ := frzOfs j.ofs V R ho (H.roles hs)
  obtain ⟨fz2, hp⟩ := (hs.trans s1) 2 1 _ 0 H.p
  have f2 := frz_own39 (b := 2) (g := 1) (fz := fz2) (e := some 4) (ys := qs.map Pst.enc) (h := h1) (len := j.pts.length) hp (Pst.elems _) (by simp [hql]) none
  have s2 := bump_same 2 (j.pts.length * szOf (some 4)) h1
  generalize bump 2 (j.pts.length * szOf (some 4)) h1 = h2 at *
  obtain ⟨fz3, hb3⟩ := (s1.trans s2) _ _ _ 0 hb
  have f3 := frz_own (b := 2 + h.length) (g := 1 + j.ofs.length) (fz := fz3) (e := none) (ys := lds.map ci) (h := h2) (len := j.ofs.length) (by rw [cellsOf_ints]; exact hb3) (intElems _) (by simp [hlds]) none
  exact ⟨_, _, _, f1, f2, f3⟩
 have hf' := fun t : Heap => (List.getElem?_eq_some_iff.1 (app_get (t := t) hf)).2
 have hf2 := fun t : Heap => app_get (t := t) hf
 have l3 := lt_get hf
 have hb2 : ∀ A B C D : LB, (h ++ [A, B, C, D])[2 + h.length]? = some C := fun A B C D => by
  rw [Nat.add_comm, List.getElem?_append_right (by omega)]
  simp
 have hcl : (cI (ldsL 24 j.ofs)).length = j.ofs.length := by simp [cI, hll]
 simp only [Jur.enc] at e121 e120
 simp only [H120, JB, hll] at e120
 unfold JB at hz hz'
 by_cases h0 : 0 ≤ wo
 ·have hew : ldsW wo j.ofs = (ldsL 24 j.ofs).set wo.toNat 0 := if_pos h0
  obtain ⟨w, rfl⟩ : ∃ w : Nat, wo = w := ⟨wo.toNat, by omega⟩
  obtain ⟨h1, h2, h3, f1, f2, f3⟩ := key (ldsW w j.ofs) (by rw [hew]; simp [hll]) e121
  have hwl : w < j.ofs.length := by omega
  have hw1 : w + 1 ≤ j.ofs.length := by omega
  have hset : (cI (ldsL 24 j.ofs)).set w (.c (ci 0)) = cI (ldsW w j.ofs) := by
   rw [hew]
   simp [cI]
  generalize ldsW w j.ofs = lw at *
  refine ⟨h ++ [.cells 0 [.c (.slice (j.ofs.map Ofc.enc)), .c (.slice (j.pts.map Pst.enc))] 0, .cells 1 [] 0, .cells (1 + j.ofs.length) (cI lw) 0, .dead], ?_⟩
  simp [c142_n28, hz, hz', l0, e120, LV.shift, shiftL, shiftB, LB.shift, shift_cI, hset, hwl, hll, hb2, hcl, hw1, hf', hf2, l3, hagg, f1, f2, f3, e121, -frz_39_slice, -frz_slice]
 ·have hew : ldsW wo j.ofs = ldsL 24 j.ofs := if_neg h0
  obtain ⟨h1, h2, h3, f1, f2, f3⟩ := key (ldsW wo j.ofs) (by rw [hew]; simp [hll]) e121
  rw [hew] at f1 f3 e121
  have h0' : ¬ 0 ≤ wo := h0
  refine ⟨h ++ [.cells 0 [.c (.slice (j.ofs.map Ofc.enc)), .c (.slice (j.pts.map Pst.enc))] 0, .cells 1 [] 0, .cells (1 + j.ofs.length) (cI (ldsL 24 j.ofs)) 0, .dead], ?_⟩
  simp [c142_n28, hz, hz', l0, e120, LV.shift, shiftL, shiftB, LB.shift, shift_cI, h0', hll, hf', hf2, l3, hagg, f1, f2, f3, e121, -frz_39_slice, -frz_slice]
def rolesA (l : List Ofc) (i : Nat) : List Str := match l[i]? with
 | some o => o.roles
 | none => []
theorem fxO_self : ∀ l : List Ofc, fxO l (rolesA l) = l
 | [] => rfl
 | o :: r => by
  have : (fun i => rolesA (o :: r) (i + 1)) = rolesA r := by funext i; rfl
  simp only [fxO]
  rw [this, fxO_self r]
  rfl
def fxJ (j : Jur) (a : List Int) (opn : Nat) : Jur := ⟨fxO j.ofs (RK a opn j.pts (rolesA j.ofs) j.pts.length), qsK a opn j.pts j.pts.length⟩
theorem clone155 (l : List Ofc) (hn : l ≠ []) (hl : l.length < 1000) : ffn P 155 [.slice (l.map Ofc.enc)] = some (.slice 0 1 0 l.length (some 4) none, [.cells 1 (cellsOf (l.map Ofc.enc)) 0]) := by
 have h1 := cellsOf_length (Ofc.elems l)
 have h2 := flatAll_cellsOf (Ofc.elems l)
 have h0 : l.length ≠ 0 := fun e => hn (List.eq_nil_of_length_eq_zero e)
 unfold cellsOf at h1 h2 ⊢
 rw [u155, cloneP, if_neg (by simpa using h0), if_neg]
 ·simp
 ·rw [h2, h1]
  simp
  omega
theorem clone156 (l : List Pst) (hn : l ≠ []) (hl : l.length < 1000) : ffn P 156 [.slice (l.map Pst.enc)] = some (.slice 0 1 0 l.length (some 4) none, [.cells 1 (cellsOf (l.map Pst.enc)) 0]) := by
 have h1 := cellsOf_length (Pst.elems l)
 have h2 := flatAll_cellsOf (Pst.elems l)
 have h0 : l.length ≠ 0 := fun e => hn (List.eq_nil_of_length_eq_zero e)
 unfold cellsOf at h1 h2 ⊢
 rw [u156, cloneP, if_neg (by simpa using h0), if_neg]
 ·simp
 ·rw [h2, h1]
  simp
  omega
theorem shift_cs (n : Nat) (l : List CV) : shiftL n (cellsOf l) = cellsOf l := by
 unfold cellsOf
 generalize l.flatMap CV.cells = k
 induction k with
 | nil => rfl
 | cons x k ih => rw [List.map_cons, shiftL, ih]; rfl
set_option maxHeartbeats 4000000 in
theorem S142 (j : Jur) (a : List Int) (opn : Nat) (wo : Int) (n0 : 0 < j.ofs.length) (m0 : 0 < j.pts.length) (hjl : j.ofs.length < 800) (hal : a.length = j.pts.length) (hm : j.pts.length ≤ 5) (ho : opn < 2 ^ j.pts.length) (hwo : wo < j.ofs.length) (hR : ∀ o ∈ j.ofs, o.roles.length < 1000) (hn : ∀ q ∈ j.pts, q.name.length < 1000) (hfx : ∀ p i, fixd a opn p = some i → i < j.ofs.length) (r : Bool)
  (e121 : fn P 121 [(fxJ j a opn).enc, .int .u64 (setK a opn j.pts.length), .slice ((ldsW wo j.ofs).map ci)] = some (.bool r)) :
  fn P 142 [j.enc, .slice (a.map ci), .int .u64 opn, ci wo] = some (.bool r) := by
 have hofs : j.ofs ≠ [] := fun e => by rw [e] at n0; simp at n0
 have hpts : j.pts ≠ [] := fun e => by rw [e] at m0; simp at m0
 have e155 := clone155 (P := P) j.ofs hofs (by omega)
 have e156 := clone156 (P := P) j.pts hpts (by omega)
 have hRA : ∀ i, i < j.ofs.length → (rolesA j.ofs i).length < 1000 := fun i hi => by
  unfold rolesA
  rw [List.getElem?_eq_getElem hi]
  exact hR _ (List.getElem_mem hi)
 have hrow : cellsOf (j.ofs.map Ofc.enc) = rowsO j.ofs (fun i => .c (.slice ((rolesA j.ofs i).map CV.str))) := by rw [rowsO_c, fxO_self]
 have hHpA : HpC j 0 (.cells 1 (cellsOf (j.pts.map Pst.enc)) 0) (fun i => .c (.slice ((rolesA j.ofs i).map CV.str))) (rolesA j.ofs) [JB j, .cells 1 (cellsOf (j.ofs.map Ofc.enc)) 0, .cells 1 (cellsOf (j.pts.map Pst.enc)) 0, FXB j.ofs.length j.pts.length] :=
  ⟨⟨rfl, by rw [hrow]; rfl, rfl, rfl⟩, fun i hi => absurd hi (by omega), fun i i' hi => absurd hi (by omega)⟩
 obtain ⟨V1, h1, H1, x1⟩ := L142a (P := P) j _ a opn opn wo (by omega) (rolesA j.ofs) hRA j.ofs.length 0 _ _ (by omega) hHpA fun i' _ _ => rfl
 obtain ⟨V2, h2, H2, x2⟩ := L142b (P := P) j a opn wo (by omega) hal hm ho (rolesA j.ofs) hRA hn hfx j.pts.length 0 V1 h1 (by omega) H1
 obtain ⟨h3, x3⟩ := B142_tail (P := P) j _ (qsK_len a opn j.pts _) V2 _ _ wo hwo h2 H2 n0 m0 hjl r e121
 simp only [FXB, OSv, if_neg (show ¬ j.ofs.length = 0 from by omega), if_neg (show ¬ j.pts.length = 0 from by omega), T142a, T142b, setK] at x1 x2
 simp [JB, hal] at x1 x2
 simp at x3
 rw [u142]
 generalize setK a opn j.pts.length = sk at *
 simp [c142, Jur.enc, e155, e156, LV.shift, shiftL, shiftB, LB.shift, shift_cs, allDead, setFrom, isDead, x1, x2, x3, JB, hal]
def clr (opn p : Nat) : Nat := if bitB opn p = true then opn - 2 ^ p else opn
def servF (j : Jur) (i p : Nat) : Bool := servesV j i p
def tryO (C : List Int → Nat → Bool) (j : Jur) (wo : Int) (p opn : Nat) (out : List Int) : List Nat → Option (List Int)
 | [] => none
 | i :: r => if ((i : Int) ≠ wo ∧ servF j i p = true) ∧ C (out.set p i) (clr opn p) = true then some (out.set p i) else tryO C j wo p opn out r
def leadL (C : List Int → Nat → Bool) (j : Jur) (wo : Int) : List Nat → List Int → Nat → Option (List Int)
 | [], out, _ => some out
 | p :: ps, out, opn => if bitB opn p = true then match tryO C j wo p opn out (List.range j.ofs.length) with
   | some out' => leadL C j wo ps out' (clr opn p)
   | none => none
  else leadL C j wo ps out opn
theorem tryO_set (C : List Int → Nat → Bool) (j : Jur) (wo : Int) (p opn : Nat) (out : List Int) (x : Int) : ∀ l, tryO C j wo p opn (out.set p x) l = tryO C j wo p opn out l
 | [] => rfl
 | i :: r => by
  have ih := tryO_set C j wo p opn out x r
  simp only [tryO, List.set_set, ih]
theorem clr_all : (List.range 32).all (fun v => (List.range 5).all fun p => IntKind.u64.wrap ((v % 2 ^ IntKind.u64.bits &&& 2 ^ IntKind.u64.bits - 1 - ((2 : Int) ^ p % 2 ^ IntKind.u64.bits).toNat : Nat) : Int) == ((clr v p : Nat) : Int) && (!bitB v p || IntKind.u64.wrap ((clr v p % 2 ^ IntKind.u64.bits ||| ((2 : Int) ^ p % 2 ^ IntKind.u64.bits).toNat : Nat) : Int) == ((v : Nat) : Int))) = true := by decide +kernel
theorem clr1 {v p : Nat} (hv : v < 32) (hp : p < 5) : IntKind.u64.wrap ((v % 2 ^ IntKind.u64.bits &&& 2 ^ IntKind.u64.bits - 1 - ((2 : Int) ^ p % 2 ^ IntKind.u64.bits).toNat : Nat) : Int) = ((clr v p : Nat) : Int) := by
 have := List.all_eq_true.1 (List.all_eq_true.1 clr_all v (List.mem_range.2 hv)) p (List.mem_range.2 hp)
 rw [Bool.and_eq_true] at this
 exact eq_of_beq this.1
theorem clr2 {v p : Nat} (hv : v < 32) (hp : p < 5) (hb : bitB v p = true) : IntKind.u64.wrap ((clr v p % 2 ^ IntKind.u64.bits ||| ((2 : Int) ^ p % 2 ^ IntKind.u64.bits).toNat : Nat) : Int) = ((v : Nat) : Int) := by
 have := List.all_eq_true.1 (List.all_eq_true.1 clr_all v (List.mem_range.2 hv)) p (List.mem_range.2 hp)
 rw [Bool.and_eq_true, hb] at this
 exact eq_of_beq (by simpa using this.2)
theorem clr_le (v p : Nat) : clr v p ≤ v := by unfold clr; split; exact Nat.sub_le _ _; exact Nat.le_refl _
def T113a (m : Nat) (opn : Nat) (wo : Int) (p n i : Nat) : List LV := [.c (.int .u64 opn), .c (ci wo), .ptr 0 0 0, .slice 2 1 0 m none none, .c (ci p), .c (.bool false), .c (ci m), .c (ci p), .c (ci n), .c (ci i)]
def H113 (j : Jur) (out : List Int) : Heap := [JB j, .cells 1 [] 0, .cells 1 (cI out) 0]
theorem cI_len (l : List Int) : (cI l).length = l.length := by simp [cI]
theorem cI_put (l : List Int) (p : Nat) (x : Int) : (cI l).set p (.c (ci x)) = cI (l.set p x) := by simp [cI]
set_option maxHeartbeats 4000000 in
theorem L113a (j : Jur) (hj : j.ok) (C : List Int → Nat → Bool) (wo : Int) (hjl : j.ofs.length < 1000) (hm : j.pts.length ≤ 5) (p : Nat) (hp : p < j.pts.length) (opn : Nat) (ho : opn < 2 ^ j.pts.length) (hb : bitB opn p = true)
  (E : ∀ (out : List Int) (o : Nat), out.length = j.pts.length → (∀ x ∈ out, x < (j.ofs.length : Int)) → o < 2 ^ j.pts.length → 0 < j.pts.length → fn P 142 [j.enc, .slice (out.map ci), .int .u64 o, ci wo] = some (.bool (C out o))) :
  ∀ (d i : Nat) (out : List Int), i + d = j.ofs.length → out.length = j.pts.length → (∀ x ∈ out, x < (j.ofs.length : Int)) →
   ∃ out2 : List Int, out2.length = j.pts.length ∧ (∀ x ∈ out2, x < (j.ofs.length : Int)) ∧
    ((tryO C j wo p opn out (List.range' i d) = some out2 ∧ execS P (limS P) c113_l0 ⟨T113a j.pts.length opn wo p j.ofs.length i, H113 j out⟩ = some (.exit 2, ⟨[.c (.int .u64 (clr opn p)), .c (ci wo), .ptr 0 0 0, .slice 2 1 0 j.pts.length none none, .c (.bool true), .c (ci j.pts.length), .c (ci p)], H113 j out2⟩)) ∨
    (tryO C j wo p opn out (List.range' i d) = none ∧ execS P (limS P) c113_l0 ⟨T113a j.pts.length opn wo p j.ofs.length i, H113 j out⟩ = some (.exit 2, ⟨[.c (.int .u64 opn), .c (ci wo), .ptr 0 0 0, .slice 2 1 0 j.pts.length none none, .c (.bool false), .c (ci j.pts.length), .c (ci p)], H113 j out2⟩))) := by
 have h32 := pow32 hm
 intro d
 induction d with
 | zero =>
  intro i out hd hl hx
  have hi : i = j.ofs.length := by omega
  subst hi
  refine ⟨out, hl, hx, .inr ⟨rfl, ?_⟩⟩
  rw [r113_l0]
  simp [T113a, c113_l0b]
 | succ d ih =>
  intro i out hd hl hx
  have hi : i < j.ofs.length := by omega
  have hw : IntKind.i64.wrap ((i : Int) + 1) = (i : Int) + 1 := wrap64 (by omega) (by omega)
  have hsl := shl1 (p := p) (by omega)
  have hc1 := clr1 (v := opn) (p := p) (by omega) (by omega)
  have hc2 := clr2 (v := opn) (p := p) (by omega) (by omega) hb
  have hcl := clr_le opn p
  have hsv := S111 (P := P) j hj i p j.ofs[i] j.pts[p] (List.getElem?_eq_getElem hi) (List.getElem?_eq_getElem hp)
  have hsF : servF j i p = servesB j.ofs[i] j.pts[p] := by
   unfold servF servesV
   simp [List.getElem?_eq_getElem hi, List.getElem?_eq_getElem hp]
  have hsl' : (out.set p (i : Int)).length = j.pts.length := by rw [List.length_set]; exact hl
  have hx' : ∀ x ∈ out.set p (i : Int), x < (j.ofs.length : Int) := fun x hm => by
   rcases List.mem_or_eq_of_mem_set hm with h | h
   ·exact hx x h
   ·rw [h]; omega
  have e142 := E (out.set p i) (clr opn p) hsl' hx' (by omega) (by omega)
  have hpl : p + 1 ≤ j.pts.length := hp
  have hci := cI_put out p i
  have hfz := fun (h : Heap) (hb : h[2]? = some (.cells 1 (cI (out.set p i)) 0)) => frz_own (b := 2) (g := 1) (fz := 0) (e := none) (ys := (out.set p (i : Int)).map ci) (h := h) (len := j.pts.length) (by rw [cellsOf_ints]; exact hb) (intElems _) (by rw [List.length_map, hsl']) none
  have hcIl := cI_len out
  rw [hl] at hcIl
  have hi0 : (i : Int) + 1 = ((i + 1 : Nat) : Int) := by omega
  simp only [Jur.enc, List.map_set] at hsv e142
  simp only [List.map_set] at hfz
  rw [List.range'_succ]
  by_cases h1 : (i : Int) ≠ wo ∧ servF j i p = true
  ·have hs1 : servesB j.ofs[i] j.pts[p] = true := by rw [← hsF]; exact h1.2
   have hw1 : ¬ (i : Int) = wo := h1.1
   rw [hs1] at hsv
   cases hC : C (out.set p i) (clr opn p)
   ·obtain ⟨out2, q1, q2, q3⟩ := ih (i + 1) (out.set p i) (by omega) hsl' hx'
    rw [tryO_set] at q3
    refine ⟨out2, q1, q2, ?_⟩
    have et : tryO C j wo p opn out (i :: List.range' (i + 1) d) = tryO C j wo p opn out (List.range' (i + 1) d) := by
     rw [tryO, if_neg (by rw [hC]; simp)]
    rw [et]
    have ex : execS P (limS P) c113_l0 ⟨T113a j.pts.length opn wo p j.ofs.length i, H113 j out⟩ = execS P (limS P) c113_l0 ⟨T113a j.pts.length opn wo p j.ofs.length (i + 1), H113 j (out.set p i)⟩ := by
     rw [hC] at e142
     rw [r113_l0]
     simp [T113a, H113, JB, c113_l0b, hi, hp, hw1, hw, hsv, hpl, hci, hcIl, hsl, hc1, hc2, hfz, e142, -frz_slice]
    rw [ex]
    exact q3
   ·refine ⟨out.set p i, hsl', hx', .inl ⟨by rw [tryO, if_pos ⟨h1, hC⟩], ?_⟩⟩
    rw [hC] at e142
    rw [r113_l0]
    simp [T113a, H113, JB, c113_l0b, hi, hp, hw1, hw, hsv, hpl, hci, hcIl, hsl, hc1, hc2, hfz, e142, -frz_slice]
  ·obtain ⟨out2, q1, q2, q3⟩ := ih (i + 1) out (by omega) hl hx
   refine ⟨out2, q1, q2, ?_⟩
   have et : tryO C j wo p opn out (i :: List.range' (i + 1) d) = tryO C j wo p opn out (List.range' (i + 1) d) := by
    rw [tryO, if_neg fun h => h1 h.1]
   rw [et]
   have ex : execS P (limS P) c113_l0 ⟨T113a j.pts.length opn wo p j.ofs.length i, H113 j out⟩ = execS P (limS P) c113_l0 ⟨T113a j.pts.length opn wo p j.ofs.length (i + 1), H113 j out⟩ := by
    rw [r113_l0]
    by_cases hwo : (i : Int) = wo
    ·rw [← hwo]
     simp [T113a, H113, JB, c113_l0b, hi, hw]
    ·have hs1 : servesB j.ofs[i] j.pts[p] = false := by
      cases hs : servesB j.ofs[i] j.pts[p]
      ·rfl
      ·exact absurd ⟨hwo, by rw [hsF]; exact hs⟩ h1
     rw [hs1] at hsv
     simp [T113a, H113, JB, c113_l0b, hi, hwo, hw, hsv]
   rw [ex]
   exact q3
def T113b (m : Nat) (opn : Nat) (wo : Int) (p : Nat) : List LV := [.c (.int .u64 opn), .c (ci wo), .ptr 0 0 0, .slice 2 1 0 m none none, .c (ci m), .c (ci p)]
def leadV : Option (List Int) → CV
 | some l => .tuple [.slice (l.map ci), .bool true]
 | none => .tuple [.slice [], .bool false]
set_option maxHeartbeats 4000000 in
theorem L113b (j : Jur) (hj : j.ok) (C : List Int → Nat → Bool) (wo : Int) (hjl : j.ofs.length < 1000) (hm : j.pts.length ≤ 5)
  (E : ∀ (out : List Int) (o : Nat), out.length = j.pts.length → (∀ x ∈ out, x < (j.ofs.length : Int)) → o < 2 ^ j.pts.length → 0 < j.pts.length → fn P 142 [j.enc, .slice (out.map ci), .int .u64 o, ci wo] = some (.bool (C out o))) :
  ∀ (d p : Nat) (out : List Int) (opn : Nat), p + d = j.pts.length → opn < 2 ^ j.pts.length → out.length = j.pts.length → (∀ x ∈ out, x < (j.ofs.length : Int)) →
   (∃ out2 : List Int, out2.length = j.pts.length ∧ leadL C j wo (List.range' p d) out opn = some out2 ∧ execS P (limS P) c113_l1 ⟨T113b j.pts.length opn wo p, H113 j out⟩ = some (.exit 0, ⟨[.slice 2 1 0 j.pts.length none none], H113 j out2⟩)) ∨
   (leadL C j wo (List.range' p d) out opn = none ∧ ∃ out2 : List Int, execS P (limS P) c113_l1 ⟨T113b j.pts.length opn wo p, H113 j out⟩ = some (.ret, ⟨[.slice 3 1 0 0 none none, .c (.bool false)], H113 j out2 ++ [.cells 1 [] 0]⟩)) := by
 have h32 := pow32 hm
 intro d
 induction d with
 | zero =>
  intro p out opn hd ho hl hx
  have hp : p = j.pts.length := by omega
  subst hp
  refine .inl ⟨out, hl, rfl, ?_⟩
  rw [r113_l1]
  simp [T113b, c113_l1b]
 | succ d ih =>
  intro p out opn hd ho hl hx
  have hp : p < j.pts.length := by omega
  have hw : IntKind.i64.wrap ((p : Int) + 1) = (p : Int) + 1 := wrap64 (by omega) (by omega)
  have hsh := shrU (v := opn) (p := p) (by omega)
  have hle : opn / 2 ^ p < 32 := Nat.lt_of_le_of_lt (Nat.div_le_self _ _) (by omega)
  have han := and1 hle
  have hcl := clr_le opn p
  rw [List.range'_succ, leadL]
  cases hb : bitB opn p
  ·have hbb : opn / 2 ^ p % 2 = 0 := by unfold bitB at hb; simp at hb; omega
   rw [hbb] at han
   rw [if_neg (by simp)]
   have ex : execS P (limS P) c113_l1 ⟨T113b j.pts.length opn wo p, H113 j out⟩ = execS P (limS P) c113_l1 ⟨T113b j.pts.length opn wo (p + 1), H113 j out⟩ := by
    rw [r113_l1]
    simp [T113b, H113, JB, c113_l1b, hp, hw, hsh, han]
   rw [ex]
   exact ih (p + 1) out opn (by omega) ho hl hx
  ·have hbb : opn / 2 ^ p % 2 = 1 := by unfold bitB at hb; simpa using hb
   rw [hbb] at han
   rw [if_pos rfl]
   obtain ⟨out2, q1, q2, q3⟩ := L113a (P := P) j hj C wo hjl hm p hp opn ho hb E j.ofs.length 0 out (by omega) hl hx
   rw [← List.range_eq_range'] at q3
   rcases q3 with ⟨e1, e2⟩ | ⟨e1, e2⟩
   ·rw [e1]
    simp only []
    have ex : execS P (limS P) c113_l1 ⟨T113b j.pts.length opn wo p, H113 j out⟩ = execS P (limS P) c113_l1 ⟨T113b j.pts.length (clr opn p) wo (p + 1), H113 j out2⟩ := by
     simp [T113a, H113, JB] at e2
     rw [r113_l1]
     simp [T113b, H113, JB, c113_l1b, hp, hw, hsh, han, e2]
    rw [ex]
    exact ih (p + 1) out2 (clr opn p) (by omega) (by omega) q1 q2
   ·rw [e1]
    simp only []
    refine .inr ⟨trivial, out2, ?_⟩
    simp [T113a, H113, JB] at e2
    rw [r113_l1]
    simp [T113b, H113, JB, c113_l1b, hp, hw, hsh, han, e2]
set_option maxHeartbeats 4000000 in
theorem S113 (j : Jur) (hj : j.ok) (C : List Int → Nat → Bool) (wo : Int) (hjl : j.ofs.length < 1000) (hm : j.pts.length ≤ 5)
  (E : ∀ (out : List Int) (o : Nat), out.length = j.pts.length → (∀ x ∈ out, x < (j.ofs.length : Int)) → o < 2 ^ j.pts.length → 0 < j.pts.length → fn P 142 [j.enc, .slice (out.map ci), .int .u64 o, ci wo] = some (.bool (C out o)))
  (a : List Int) (opn : Nat) (ho : opn < 2 ^ j.pts.length) (hl : a.length = j.pts.length) (hx : ∀ x ∈ a, x < (j.ofs.length : Int)) :
  fn P 113 [j.enc, .slice (a.map ci), .int .u64 opn, ci wo] = some (leadV (leadL C j wo (List.range j.pts.length) a opn)) := by
 have k := L113b (P := P) j hj C wo hjl hm E j.pts.length 0 a opn (by omega) ho hl hx
 rw [← List.range_eq_range'] at k
 rw [u113]
 by_cases m0 : j.pts.length = 0
 ·have hpts : j.pts = [] := List.eq_nil_of_length_eq_zero m0
  have ha : a = [] := List.eq_nil_of_length_eq_zero (by omega)
  subst ha
  rw [m0]
  have e141 : ffn P 141 [.slice []] = some (.emp, []) := by rw [u141]; rfl
  have k0 : ∀ H, execS P (limS P) c113_l1 ⟨[.c (.int .u64 opn), .c (ci wo), .ptr 0 0 0, .emp, .c (ci 0), .c (ci 0)], H⟩ = some (.exit 0, ⟨[.emp], H⟩) := by
   intro H
   rw [r113_l1]
   simp [c113_l1b]
  have hres : ∀ h : Heap, resV (some (mkTuple [LV.emp, LV.c (CV.bool true)])) h = some (CV.tuple [CV.slice [], CV.bool true]) := by
   intro h
   have h1 : mkTuple [LV.emp, LV.c (CV.bool true)] = .tuple [LV.emp, LV.c (CV.bool true)] := rfl
   unfold resV
   rw [bnd_some, h1, frz_tuple]
   simp [mapH_cons]
  simp [c113, Jur.enc, hpts, e141, LV.shift, shiftB, k0, leadL, leadV, hres]
 ·have hane : a ≠ [] := fun e => by rw [e] at hl; simp at hl; omega
  have e141 : ffn P 141 [.slice (a.map ci)] = some (.slice 0 1 0 j.pts.length none none, [.cells 1 (cI a) 0]) := by
   have h1 := cellsOf_length (e := none) (intElems a)
   have h2 := flatAll_cellsOf (e := none) (intElems a)
   rw [← hl, ← cellsOf_ints]
   have h0 : a.length ≠ 0 := by omega
   unfold cellsOf at h1 h2 ⊢
   rw [u141, cloneP, if_neg (by simpa using h0), if_neg]
   ·simp
   ·rw [h2, h1]
    simp [szOf]
    omega
  rcases k with ⟨out2, q0, q1, q2⟩ | ⟨q1, out2, q2⟩
  ·rw [q1]
   have hfz := fun (h : Heap) (hb : h[2]? = some (.cells 1 (cI out2) 0)) => resV_own (b := 2) (g := 1) (fz := 0) (e := none) (ys := out2.map ci) (h := h) (len := j.pts.length) (by rw [cellsOf_ints]; exact hb) (intElems _) (by rw [List.length_map, q0]) none (.bool true)
   simp [T113b, H113, JB] at q2
   simp [c113, Jur.enc, e141, LV.shift, shiftL, shiftB, LB.shift, shift_cI, q2, leadV, hfz]
  ·rw [q1]
   simp [T113b, H113, JB] at q2
   simp [c113, Jur.enc, e141, LV.shift, shiftL, shiftB, LB.shift, shift_cI, q2, leadV]
def cplB (j : Jur) (wo : Int) (out : List Int) (opn : Nat) : Bool :=
 decide (nFill (fxJ j out opn) (ldsW wo j.ofs) (setK out opn j.pts.length) = ((List.range j.pts.length).filter (bitB (setK out opn j.pts.length))).length)
theorem fxd_mem {a : List Int} {opn p i : Nat} (h : fixd a opn p = some i) : (i : Int) ∈ a := by
 unfold fixd at h
 cases hx : a[p]? with
 | none => rw [hx] at h; cases h
 | some x =>
  rw [hx] at h
  simp only [] at h
  split at h
  ·cases h
  ·rename_i hn
   cases h
   have : ¬ x < 0 := fun h => hn (.inr h)
   rw [show ((x.toNat : Nat) : Int) = x from by omega]
   exact List.mem_of_getElem? hx
theorem fxJ_ok {j : Jur} (hj : j.ok) (a : List Int) (opn : Nat) (hm : j.pts.length ≤ 5) (hR : ∀ o ∈ j.ofs, o.roles.length < 1000) (hn : ∀ q ∈ j.pts, q.name.length < 1000) : (fxJ j a opn).ok := by
 have hq : ∀ q ∈ qsK a opn j.pts j.pts.length, q.ok := by
  intro q hq
  obtain ⟨p, hp, e⟩ := List.getElem_of_mem hq
  have e' : (qsK a opn j.pts j.pts.length)[p]? = some q := by rw [List.getElem?_eq_getElem hp, e]
  rw [qsK_get] at e'
  obtain ⟨q', h1, h2⟩ := Option.map_eq_some_iff.1 e'
  have hm' := List.mem_of_getElem? h1
  have ok' := hj.p q' hm'
  have := hn q' hm'
  split at h2
  ·subst h2
   obtain ⟨k1, k2, k3, k4⟩ := ok'
   exact ⟨k1, by simp [postR, reRole, postS]; omega, k3, k4⟩
  ·subst h2; exact ok'
 refine ⟨?_, hq, ?_, ?_⟩
 ·intro o ho
  obtain ⟨i, hi, e⟩ := List.getElem_of_mem ho
  have e' : (fxO j.ofs (RK a opn j.pts (rolesA j.ofs) j.pts.length))[i]? = some o := by rw [← e]; exact List.getElem?_eq_getElem hi
  rw [fxO_get] at e'
  obtain ⟨o', h1, h2⟩ := Option.map_eq_some_iff.1 e'
  have hm' := List.mem_of_getElem? h1
  obtain ⟨k1, k2, k3, k4⟩ := hj.o o' hm'
  have hr := hR o' hm'
  have hrA : rolesA j.ofs i = o'.roles := by unfold rolesA; rw [h1]
  have hl := RK_len a opn j.pts (rolesA j.ofs) i j.pts.length
  rw [hrA] at hl
  subst h2
  refine ⟨k1, k2, ?_, ?_⟩
  ·show ((RK a opn j.pts (rolesA j.ofs) j.pts.length i).length : Int) < _
   omega
  ·intro y hy
   rcases (RK_mem a opn j.pts (rolesA j.ofs) i y j.pts.length).1 hy with h | ⟨p, hp, _, rfl⟩
   ·rw [hrA] at h; exact k4 y h
   ·have : (nameP j.pts p).length < 1000 := by
     unfold nameP
     rw [List.getElem?_eq_getElem hp]
     exact hn _ (List.getElem_mem hp)
    simp [postS]
    omega
 ·show (fxO j.ofs _).length * 64 ≤ _
  rw [fxO_len]; exact hj.so
 ·show (qsK a opn j.pts j.pts.length).length * 64 ≤ _
  rw [qsK_len]; exact hj.sp
theorem ldsW_len (wo : Int) (l : List Ofc) : (ldsW wo l).length = l.length := by
 unfold ldsW
 split <;> simp [ldsL]
theorem ldsW_pos {j : Jur} (wo : Int) (hpos : ∀ o ∈ j.ofs, 0 ≤ o.load) : ∀ x ∈ ldsW wo j.ofs, 0 ≤ x := by
 have h0 : ∀ x ∈ ldsL 24 j.ofs, 0 ≤ x := by
  intro x hx
  obtain ⟨o, ho, rfl⟩ := List.mem_map.1 hx
  have := hpos o ho
  show (0 : Int) ≤ if (24 : Int) < o.load then 24 else o.load
  split <;> omega
 intro x hx
 unfold ldsW at hx
 split at hx
 ·rcases List.mem_or_eq_of_mem_set hx with h | h
  ·exact h0 x h
  ·omega
 ·exact h0 x hx
theorem E142 (T : Tabs9 P) (j : Jur) (hj : j.ok) (wo : Int) (hwo : wo < j.ofs.length) (n0 : 0 < j.ofs.length) (hjl : j.ofs.length < 800) (hm : j.pts.length ≤ 5) (hR : ∀ o ∈ j.ofs, o.roles.length < 1000) (hn : ∀ q ∈ j.pts, q.name.length < 1000) (hpos : ∀ o ∈ j.ofs, 0 ≤ o.load)
  (out : List Int) (o : Nat) (hl : out.length = j.pts.length) (hx : ∀ x ∈ out, x < (j.ofs.length : Int)) (ho : o < 2 ^ j.pts.length) (m0 : 0 < j.pts.length) :
  fn P 142 [j.enc, .slice (out.map ci), .int .u64 o, ci wo] = some (.bool (cplB j wo out o)) := by
 refine S142 (P := P) j out o wo n0 m0 hjl hl hm ho hwo hR hn (fun p i h => by have := hx _ (fxd_mem h); omega) _ ?_
 have hfl : (fxJ j out o).ofs.length = j.ofs.length := fxO_len _ _
 have hfp : (fxJ j out o).pts.length = j.pts.length := qsK_len _ _ _ _
 have e := S121 (P := P) T (fxJ j out o) (fxJ_ok hj out o hm hR hn) (ldsW wo j.ofs) (by rw [ldsW_len, hfl]) (fun i hi => ?_) (by omega) (by omega) (setK out o j.pts.length) (by rw [hfp]; exact setK_lt out ho _ (Nat.le_refl _))
 ·rw [hfp] at e
  exact e
 ·show 0 ≤ (ldsW wo j.ofs).getD i 0
  have hi' : i < (ldsW wo j.ofs).length := by rw [ldsW_len]; omega
  rw [List.getD_eq_getElem?_getD, List.getElem?_eq_getElem hi']
  exact ldsW_pos wo hpos _ (List.getElem_mem hi')
def opnA (a : List Int) (off : Int) : Nat → Nat
 | 0 => 0
 | k + 1 => if a[k]? = some off then opnA a off k ||| 2 ^ k else opnA a off k
theorem opnA_lt (a : List Int) (off : Int) {m : Nat} : ∀ k, k ≤ m → opnA a off k < 2 ^ m
 | 0, _ => Nat.two_pow_pos _
 | k + 1, h => by
  have ih := opnA_lt a off k (m := m) (by omega)
  unfold opnA
  split
  ·exact Nat.or_lt_two_pow ih (Nat.pow_lt_pow_right (by omega) (by omega))
  ·exact ih
theorem L48 (j : Jur) (a : List Int) (off : Int) (hm : a.length ≤ 5) : ∀ (d k : Nat), k + d = a.length →
  execS P (limS P) c48_l0 ⟨[.c (.slice (a.map ci)), .c (ci off), .ptr 0 0 0, .c (.int .u64 (opnA a off k)), .c (.slice (a.map ci)), .c (ci a.length), .c (ci k)], [JB j, .cells 1 [] 0, .dead]⟩ = some (.exit 0, ⟨[.c (.slice (a.map ci)), .c (ci off), .ptr 0 0 0, .c (.int .u64 (opnA a off a.length))], [JB j, .cells 1 [] 0, .dead]⟩) := by
 have h32 := pow32 hm
 intro d
 induction d with
 | zero =>
  intro k hd
  have hk : k = a.length := by omega
  subst hk
  rw [r48_l0]
  simp [c48_l0b]
 | succ d ih =>
  intro k hd
  have hk : k < a.length := by omega
  have ih := ih (k + 1) (by omega)
  have hw : IntKind.i64.wrap ((k : Int) + 1) = (k : Int) + 1 := wrap64 (by omega) (by omega)
  have hsl := shl1 (p := k) (by omega)
  have hlt := opnA_lt a off k (m := a.length) (by omega)
  have hor := eq_of_beq (List.all_eq_true.1 (List.all_eq_true.1 or1_all (opnA a off k) (List.mem_range.2 (by omega))) k (List.mem_range.2 (by omega)))
  have hx : a[k]? = some a[k] := List.getElem?_eq_getElem hk
  have e0 : opnA a off (k + 1) = if a[k]? = some off then opnA a off k ||| 2 ^ k else opnA a off k := rfl
  rw [e0] at ih
  rw [r48_l0]
  unfold JB at *
  by_cases h : a[k] = off
  ·rw [hx, if_pos (by rw [h])] at ih
   simp at ih
   simp [c48_l0b, hk, hx, h, hw, hsl, hor, ih]
  ·rw [hx, if_neg (by simpa using h)] at ih
   simp at ih
   simp [c48_l0b, hk, hx, h, hw, ih]
def replE (j : Jur) (a : List Int) (off : Int) : Int := firstE [appJ j a, ofcE j off, whenE (decide ((12 : Int) < j.pts.length)) 22]
def replV : Option (List Int) → CV
 | some l => .tuple [.slice (l.map ci), ci 0]
 | none => .tuple [.slice [], ci 23]
theorem S48_bad (j : Jur) (hj : j.ok) (a : List Int) (ha : a.length ≤ 30) (off : Int) (he : replE j a off ≠ 0) : fn P 48 [j.enc, .slice (a.map ci), ci off] = some (.tuple [.slice [], ci (replE j a off)]) := by
 have e46 := S46 (P := P) j hj a (by omega)
 have e110 := S110 (P := P) j hj off
 simp only [Jur.enc] at e46 e110
 have hg : decide ((12 : Int) < j.pts.length) = decide ((j.pts.length : Int) > 12) := rfl
 unfold replE at *
 rw [u48]
 simp [c48, Jur.enc, e46, e110, he]
theorem S48 (T : Tabs9 P) (j : Jur) (hj : j.ok) (a : List Int) (off : Int) (he : replE j a off = 0) (hjl : j.ofs.length < 800) (hm : j.pts.length ≤ 5) (hl : a.length = j.pts.length) (hx : ∀ x ∈ a, x < (j.ofs.length : Int)) (hoff : 0 ≤ off ∧ off < j.ofs.length) (hR : ∀ o ∈ j.ofs, o.roles.length < 1000) (hn : ∀ q ∈ j.pts, q.name.length < 1000) (hpos : ∀ o ∈ j.ofs, 0 ≤ o.load) :
  fn P 48 [j.enc, .slice (a.map ci), ci off] = some (replV (leadL (cplB j off) j off (List.range j.pts.length) a (opnA a off j.pts.length))) := by
 have e46 := S46 (P := P) j hj a (by omega)
 have e110 := S110 (P := P) j hj off
 have e113 := S113 (P := P) j hj (cplB j off) off (by omega) hm (fun out o h1 h2 h3 h4 => E142 (P := P) T j hj off hoff.2 (by omega) hjl hm hR hn hpos out o h1 h2 h3 h4) a (opnA a off j.pts.length) (opnA_lt a off _ (Nat.le_refl _)) hl hx
 have k := L48 (P := P) j a off (by omega) a.length 0 (by omega)
 rw [hl] at k
 simp only [Jur.enc] at e46 e110 e113
 unfold replE at he
 generalize leadL (cplB j off) j off (List.range j.pts.length) a (opnA a off j.pts.length) = r at *
 simp [JB, hl, opnA] at k
 rw [u48]
 cases r with
 | none =>
  simp only [leadV] at e113
  simp [c48, Jur.enc, e46, e110, he, hl, k, e113, replV]
 | some l =>
  simp only [leadV] at e113
  simp [c48, Jur.enc, e46, e110, he, hl, k, e113, replV]
end LM.G9
