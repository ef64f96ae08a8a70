/- Part 10 of what YteihlaoeolfkfaaGreatOff leans on. -/
import Derived.Test.YteihlaoeolfkfaaGreatRows
import Derived.WalkKit
import Derived.ProofKit
import Derived.SizedLaws
import Derived.Test.YteihlaoeolfkfaaGreatOffL1
import Derived.Test.YteihlaoeolfkfaaGreatOffL2
import Derived.Test.YteihlaoeolfkfaaGreatOffL3
import Derived.Test.YteihlaoeolfkfaaGreatOff1
import Derived.Test.YteihlaoeolfkfaaGreatOff2
import Derived.Test.YteihlaoeolfkfaaGreatOff3
import Derived.Test.YteihlaoeolfkfaaGreatOff4
import Derived.Test.YteihlaoeolfkfaaGreatOff5
import Derived.Test.YteihlaoeolfkfaaGreatOff6
set_option linter.all false
namespace Go.Proofs.YteihlaoeolfkfaaGreat
open Go.ChangeShapes Go.WideShapes Go.ChangeAt Go.RowKit
theorem own_knob : ownKnob Tryz.prog.godebug = none := by kernel_rfl
theorem laid_out : laidOutB Tryz.prog = true := by kernel_rfl
theorem maps_rowed : mapsRowed Tryz.prog = true := by kernel_rfl
theorem slices_full : LM.slicesFullB Tryz.prog = true := by kernel_rfl
theorem typed_map {α : Type} {enc : α → LM.CV} {p : α → Prop} {e : LM.CTy} (h : ∀ x, LM.Typed e x → ∃ a, x = enc a ∧ p a) : ∀ {xs : List LM.CV}, (∀ x ∈ xs, LM.Typed e x) → ∃ l : List α, xs = l.map enc ∧ ∀ a ∈ l, p a
  | [], _ => ⟨[], rfl, by simp⟩
  | x :: xs, hx => by
    obtain ⟨a, ha, hp⟩ := h x (hx x (by simp))
    obtain ⟨l, hl, hq⟩ := typed_map h (xs := xs) fun y hy => hx y (by simp [hy])
    exact ⟨a :: l, by rw [ha, hl]; rfl, fun b hb => by rcases List.mem_cons.1 hb with rfl | hb; exact hp; exact hq b hb⟩
theorem typed_slice {α : Type} {enc : α → LM.CV} {p : α → Prop} {e : LM.CTy} {b : Nat} (h : ∀ x, LM.Typed e x → ∃ a, x = enc a ∧ p a) {v : LM.CV} (hv : LM.Typed (.slice b e) v) : ∃ l : List α, v = .slice (l.map enc) ∧ (∀ a ∈ l, p a) ∧ l.length * b ≤ 2 ^ 47 := by
  simp only [LM.Typed] at hv
  obtain ⟨xs, rfl, _, hb, hx⟩ := hv
  obtain ⟨l, rfl, hp⟩ := typed_map h hx
  refine ⟨l, rfl, hp, ?_⟩
  rw [List.length_map] at hb
  exact Nat.le_trans hb (by decide)
theorem typed_str {v : LM.CV} (hv : LM.Typed .str v) : ∃ s : LM.Str, v = .str s ∧ s.length < 9223372036854775807 := by
  simp only [LM.Typed] at hv
  obtain ⟨s, rfl, h⟩ := hv
  exact ⟨s, rfl, Nat.lt_of_le_of_lt h (by decide)⟩
theorem typed_int {v : LM.CV} (hv : LM.Typed (.int .i64) v) : ∃ n, v = LM.ci n ∧ -9223372036854775808 ≤ n ∧ n ≤ 9223372036854775807 := by
  simp only [LM.Typed] at hv
  obtain ⟨n, rfl, h⟩ := hv
  refine ⟨n, rfl, ?_⟩
  simp [Lit.wf, IntKind.min, IntKind.max, IntKind.bits, IntKind.signed] at h
  omega
end Go.Proofs.YteihlaoeolfkfaaGreat
namespace LM.G9
open Go LM
variable {P : Nat → Option SFunc} [Has P]
@[simp] theorem S54 (n a b : Int) : fn P 54 [ci n, ci a, ci b] = some (.bool (outside n a b)) := by
  rw [u54]; simp [c54, outside]
@[simp] theorem S105 (n a b : Int) : fn P 105 [ci n, ci a, ci b] = some (.bool (outside n a b)) := by
  rw [u105]; simp [c105, outside]
@[simp] theorem S82 (b : Bool) (e : Int) : fn P 82 [.bool b, ci e] = some (ci (whenE b e)) := by
  rw [u82]; cases b <;> simp [c82, whenE]
@[simp] theorem S81 (d : Int) : fn P 81 [ci d] = some (ci (dated d)) := by
  rw [u81]; simp [c81, dated]
@[simp] theorem S150 (c : Nat) : fn P 150 [.int .i32 c] = some (.bool (letterN c)) := by
  rw [u150]; simp [c150, letterN]
  rw [show decide ((97 : Int) ≤ c) = decide (97 ≤ c) from decide_eq_decide.2 (by omega), show decide ((c : Int) ≤ 122) = decide (c ≤ 122) from decide_eq_decide.2 (by omega),
    show decide ((65 : Int) ≤ c) = decide (65 ≤ c) from decide_eq_decide.2 (by omega), show decide ((c : Int) ≤ 90) = decide (c ≤ 90) from decide_eq_decide.2 (by omega)]
theorem L79 : ∀ (l pre : List Int), (l.length : Int) + pre.length < 9223372036854775807 → execS P (limS P) c79_l0 ⟨[.c (.slice ((pre ++ l).map ci)), .c (ci (pre ++ l).length), .c (ci pre.length)], []⟩ = if firstE l = 0 then some (.exit 0, ⟨[], []⟩) else some (.ret, ⟨[.c (ci (firstE l))], []⟩) := by
  intro l
  induction l with
  | nil =>
    intro pre h
    rw [r79_l0]
    simp [c79_l0b, firstE]
  | cons c r ih =>
    intro pre h
    have ih := ih (pre ++ [c]) (by simp at h ⊢; omega)
    simp at ih h
    have hw : IntKind.i64.wrap (↑pre.length + 1) = ↑pre.length + 1 := wrap64 (by omega) (by omega)
    have hlt : (pre.length : Int) < pre.length + (r.length + 1) := by omega
    rw [r79_l0]
    by_cases hc : c = 0
    · subst hc
      simp [c79_l0b, firstE, hw, hlt, ih]
    · simp [c79_l0b, firstE, hw, hlt, hc]
@[simp] theorem S79 (l : List Int) (h : l.length < 9223372036854775807) : fn P 79 [.slice (l.map ci)] = some (ci (firstE l)) := by
  have := L79 (P := P) l [] (by simp; omega)
  rw [u79]
  simp at this
  simp [c79, this]
  by_cases hc : firstE l = 0 <;> simp [hc]
@[simp] theorem S79_1 (a : Int) : fn P 79 [.slice [ci a]] = some (ci (firstE [a])) := S79 [a] (by simp)
@[simp] theorem S79_2 (a b : Int) : fn P 79 [.slice [ci a, ci b]] = some (ci (firstE [a, b])) := S79 [a, b] (by simp)
@[simp] theorem S79_3 (a b c : Int) : fn P 79 [.slice [ci a, ci b, ci c]] = some (ci (firstE [a, b, c])) := S79 [a, b, c] (by simp)
@[simp] theorem S79_4 (a b c d : Int) : fn P 79 [.slice [ci a, ci b, ci c, ci d]] = some (ci (firstE [a, b, c, d])) := S79 [a, b, c, d] (by simp)
@[simp] theorem S79_5 (a b c d e : Int) : fn P 79 [.slice [ci a, ci b, ci c, ci d, ci e]] = some (ci (firstE [a, b, c, d, e])) := S79 [a, b, c, d, e] (by simp)
theorem L22 (s : Str) (hs : s.length ≤ 24) : ∀ (l pre : Str), s = pre ++ l → execS P (limS P) c22_l0 ⟨[.c (.str s), .c (ci pre.length)], []⟩ = if nameFrom pre.length l then some (.exit 0, ⟨[], []⟩) else some (.ret, ⟨[.c (.bool false)], []⟩) := by
  intro l
  induction l with
  | nil =>
    intro pre h
    rw [r22_l0]
    simp [c22_l0b, h, nameFrom]
  | cons c r ih =>
    intro pre h
    have ih := ih (pre ++ [c]) (by simp [h])
    simp at ih
    rw [h] at hs
    simp at hs
    have hw : IntKind.i64.wrap (↑pre.length + 1) = ↑pre.length + 1 := wrap64 (by omega) (by omega)
    have hlt : (pre.length : Int) < pre.length + (r.length + 1) := by omega
    have hn : (((↑c.toNat : Int) < 97 ∨ 122 < (↑c.toNat : Int)) ∧ ((↑c.toNat : Int) < 65 ∨ 90 < (↑c.toNat : Int))) ∧ (pre = [] ∨ ((↑c.toNat : Int) < 48 ∨ 57 < (↑c.toNat : Int)) ∧ ¬(↑c.toNat : Int) = 95) ↔ nameN pre.length c.toNat = false := by
      have hp : pre = [] ↔ pre.length = 0 := by simp
      unfold nameN letterN digitN
      cases pre with
      | nil => simp; omega
      | cons x y => simp; omega
    rw [r22_l0]
    simp [c22_l0b, h, nameFrom, hw, hlt, hn]
    rw [← h, ih]
    cases nameN pre.length c.toNat <;> simp
@[simp] theorem S22 (s : Str) : fn P 22 [.str s] = some (.bool (isName s)) := by
  rw [u22]
  by_cases h1 : s.length < 1
  · have : s = [] := List.eq_nil_of_length_eq_zero (by omega)
    subst this
    simp [c22, isName]
  · by_cases h2 : s.length > 24
    · have h3 : ¬ (s.length : Int) < 1 := by omega
      have h4 : (24 : Int) < (s.length : Int) := by omega
      have h5 : ¬ s.length ≤ 24 := by omega
      simp [c22, isName, h3, h4, h5]
    · have := L22 (P := P) s (by omega) s [] rfl
      simp at this
      have h3 : ¬ (s.length : Int) < 1 := by omega
      have h4 : ¬ (24 : Int) < (s.length : Int) := by omega
      have h5 : s.length ≤ 24 := by omega
      have h6 : 1 ≤ s.length := by omega
      simp [c22, isName, h3, h4, h5, h6, this]
      cases nameFrom 0 s <;> simp
theorem L132 (s : Str) (hs : s.length < 9223372036854775807) : ∀ (l pre : Str), s = pre ++ l → ∃ q, execS P (limS P) c132_l0 ⟨[.c (.str s), .ptr 0 0 0], [.iter s pre.length]⟩ = if nameFrom pre.length l then some (.exit 0, ⟨[.c (.str s)], [.iter s s.length]⟩) else some (.ret, ⟨[.c (.bool false)], [.iter s q]⟩) := by
  intro l
  induction l with
  | nil =>
    intro pre h
    refine ⟨0, ?_⟩
    rw [r132_l0]
    simp [c132_l0b, h, nameFrom]
  | cons c r ih =>
    intro pre h
    obtain ⟨q, ih⟩ := ih (pre ++ [c]) (by simp [h])
    simp at ih
    have hc : s[pre.length]? = some c := by simp [h]
    rw [r132_l0]
    rcases Nat.lt_or_ge c.toNat 128 with hlo | hhi
    · have hd := decode_lo hc hlo
      rw [h] at hd
      have hn : (letterN c.toNat = false ∧ (pre = [] ∨ ¬(↑c.toNat : Int) = 95 ∧ ((↑c.toNat : Int) < 48 ∨ 57 < (↑c.toNat : Int)))) ↔ nameN pre.length c.toNat = false := by
        unfold nameN digitN
        cases pre with
        | nil => simp
        | cons x y => simp; cases letterN c.toNat <;> simp; omega
      refine ⟨if nameN pre.length c.toNat = false then pre.length + 1 else q, ?_⟩
      simp [c132_l0b, h, nameFrom, hd, hn]
      rw [h] at ih
      simp at ih
      cases nameN pre.length c.toNat <;> simp [ih]
    · have hd := decode_hi hc hhi
      rw [h] at hd
      have hl : letterN (Utf8.decode { data := List.toArray (pre ++ c :: r) } pre.length).fst = false := by
        have := nameN_hi (i := 0) hd
        simpa [nameN] using this
      have h1 : ¬ (↑(Utf8.decode { data := List.toArray (pre ++ c :: r) } pre.length).fst : Int) = 95 := by omega
      have h2 : (57 : Int) < (↑(Utf8.decode { data := List.toArray (pre ++ c :: r) } pre.length).fst : Int) := by omega
      refine ⟨pre.length + (Utf8.decode { data := List.toArray (pre ++ c :: r) } pre.length).snd, ?_⟩
      simp [c132_l0b, h, nameFrom, hl, h1, h2, nameN_hi hhi]
@[simp] theorem S132 (s : Str) (hs : s.length < 9223372036854775807) : fn P 132 [.str s] = some (.bool (isName s)) := by
  rw [u132]
  obtain ⟨q, this⟩ := L132 (P := P) s hs s [] rfl
  simp at this
  simp [c132, this]
  cases hn : nameFrom 0 s
  · simp [isName, hn]
  · cases s with
    | nil => simp [isName]
    | cons c r =>
      simp [isName, hn]
      omega
@[simp] theorem S80 (s : Str) (hs : s.length < 9223372036854775807) : fn P 80 [.str s] = some (ci (named s)) := by
  rw [u80]; simp [c80, hs, named]
end LM.G9
namespace LM.G9
open Go LM
variable {P : Nat → Option SFunc} [Has P]
structure Lic where
  name : Str
  frm : Int
  to : Int
def Lic.enc (x : Lic) : CV := .agg [.str x.name, ci x.frm, ci x.to]
def Lic.ok (x : Lic) : Prop := x.name.length < 9223372036854775807
/-- The first error of a list's elements. -/
def eachE {α : Type} (chk : List α → α → Int) : List α → List α → Int
  | _, [] => 0
  | pre, x :: r => if chk pre x ≠ 0 then chk pre x else eachE chk (pre ++ [x]) r
end LM.G9
namespace LM.G9
open Go LM
/-- The number of the first element of a kind, or -1. -/
def idxF {α : Type} (p : α → Bool) : Nat → List α → Int
  | _, [] => -1
  | n, x :: r => if p x then n else idxF p (n + 1) r
theorem idxF_lt {α : Type} (p : α → Bool) : ∀ (l : List α) (n : Nat), (idxF p n l < 0) ↔ l.any p = false
  | [], n => by simp [idxF]
  | x :: r, n => by
    unfold idxF
    cases h : p x
    · simp [h, idxF_lt p r (n + 1)]
    · simp [h]
theorem idxF_none {α : Type} {p : α → Bool} : ∀ {l : List α} {n : Nat}, l.any p = false → idxF p n l = -1
  | [], n, _ => rfl
  | x :: r, n, h => by
    simp only [List.any_cons, Bool.or_eq_false_iff] at h
    rw [idxF, if_neg (by simp [h.1]), idxF_none h.2]
theorem idxF_dec {α : Type} (p : α → Bool) (l : List α) (n : Nat) : decide (0 ≤ idxF p n l) = l.any p := by
  have := idxF_lt p l n
  cases h : l.any p
  · have := this.2 h
    simp; omega
  · have : ¬ idxF p n l < 0 := fun q => by rw [this.1 q] at h; cases h
    simp; omega
end LM.G9
namespace LM.G9
open Go LM
variable {P : Nat → Option SFunc} [Has P]
def Str.is (s : Str) (x : Str) : Bool := x == s
theorem Str.is_eq (s x : Str) : Str.is s x = decide (x = s) := by unfold Str.is; by_cases h : x = s <;> simp [h]
theorem Str.is_eq' (s x : Str) : Str.is s x = decide (s = x) := by rw [Str.is_eq]; exact decide_eq_decide.2 eq_comm
theorem L154 (s : Str) : ∀ (l pre : List Str), ((pre ++ l).length : Int) < 9223372036854775807 →
    execS P (limS P) c154_l0 ⟨[.c (.slice ((pre ++ l).map CV.str)), .c (.str s), .c (ci (pre ++ l).length), .c (ci pre.length)], []⟩ = if l.any (Str.is s) then some (.ret, ⟨[.c (ci (idxF (Str.is s) pre.length l))], []⟩) else some (.exit 0, ⟨[], []⟩) := by
  intro l
  induction l with
  | nil =>
    intro pre h
    rw [r154_l0]
    simp [c154_l0b]
  | cons x r ih =>
    intro pre h
    have ih := ih (pre ++ [x]) (by simpa using h)
    simp at ih h
    have hw : IntKind.i64.wrap (↑pre.length + 1) = ↑pre.length + 1 := wrap64 (by omega) (by omega)
    have hlt : (pre.length : Int) < pre.length + (r.length + 1) := by omega
    have e := Str.is_eq' s x
    rw [r154_l0]
    by_cases h0 : s = x
    · simp only [h0, decide_true] at e
      simp [c154_l0b, hw, hlt, idxF, h0, e]
    · simp only [h0, decide_false] at e
      simp [c154_l0b, hw, hlt, idxF, h0, e, ih]
theorem S139 (s : Str) (l : List Str) (h : (l.length : Int) < 9223372036854775807) : fn P 139 [.slice (l.map CV.str), .str s] = some (.bool (l.any (Str.is s))) := by
  have hl := L154 (P := P) s l [] (by simpa using h)
  have h2 : fn P 154 [.slice (l.map CV.str), .str s] = some (ci (idxF (Str.is s) 0 l)) := by
    rw [u154]
    simp at hl
    simp [c154, hl]
    exact fun hx => (idxF_none (by simpa using hx)).symm
  rw [u139]
  simp [c139, h2, idxF_dec]
def once (pre : List Str) (s : Str) : Int := firstE [named s, whenE (pre.any (Str.is s)) 9]
theorem S104 (s : Str) (hs : s.length < 9223372036854775807) (pre : List Str) (h : (pre.length : Int) < 9223372036854775807) : fn P 104 [.str s, .slice (pre.map CV.str)] = some (ci (once pre s)) := by
  have h1 := S139 (P := P) s pre h
  rw [u104]
  simp [c104, hs, h1, once]
theorem L103 : ∀ (l pre : List Str), (∀ x ∈ l, x.length < 9223372036854775807) → ((pre ++ l).length : Int) < 9223372036854775807 →
    execS P (limS P) c103_l0 ⟨[.c (.slice ((pre ++ l).map CV.str)), .c (.func 104 [] []), .c (.slice ((pre ++ l).map CV.str)), .c (ci (pre ++ l).length), .c (ci pre.length)], []⟩ = if eachE once pre l = 0 then some (.exit 0, ⟨[], []⟩) else some (.ret, ⟨[.c (ci (eachE once pre l))], []⟩) := by
  intro l
  induction l with
  | nil =>
    intro pre hl h
    rw [r103_l0]
    simp [c103_l0b, eachE]
  | cons c r ih =>
    intro pre hl h
    have ih := ih (pre ++ [c]) (fun x hx => hl x (by simp [hx])) (by simpa using h)
    have hc := S104 (P := P) c (hl c (by simp)) pre (by simp at h; omega)
    have ht : List.take pre.length (List.map CV.str pre ++ CV.str c :: List.map CV.str r) = pre.map CV.str := by simp
    simp at ih h
    have hw : IntKind.i64.wrap (↑pre.length + 1) = ↑pre.length + 1 := wrap64 (by omega) (by omega)
    have hlt : (pre.length : Int) < pre.length + (r.length + 1) := by omega
    have hz : szFits 1 (List.map CV.str pre ++ CV.str c :: List.map CV.str r) = true := by cases pre <;> rfl
    have hb : (pre.length : Int) ≤ pre.length + (r.length + 1) := by omega
    rw [r103_l0]
    by_cases h0 : once pre c = 0
    · simp [c103_l0b, eachE, hw, hlt, hc, hz, hb, ht, h0, ih]
    · simp [c103_l0b, eachE, hw, hlt, hc, hz, hb, ht, h0]
def onceL (m : Int) (l : List Str) : Int := if (l.length : Int) > m then 5 else eachE once [] l
theorem S103 (l : List Str) (m : Int) (hl : ∀ x ∈ l, x.length < 9223372036854775807) (h : (l.length : Int) < 9223372036854775807) : fn P 103 [.slice (l.map CV.str), ci m, .func 104 [] []] = some (ci (onceL m l)) := by
  rw [u103]
  have this := L103 (P := P) l [] hl (by simpa using h)
  simp at this
  unfold onceL
  by_cases hm : (l.length : Int) > m
  · have hm' : m < (l.length : Int) := hm
    simp [c103, hm']
  · have hm' : ¬ m < (l.length : Int) := hm
    simp [c103, hm', this]
    by_cases h0 : eachE once [] l = 0 <;> simp [h0]
theorem L58 (s : Str) : ∀ (l pre : List Str), ((pre ++ l).length : Int) < 9223372036854775807 →
    execS P (limS P) c58_l0 ⟨[.c (.slice ((pre ++ l).map CV.str)), .c (.str s), .c (ci pre.length)], []⟩ = if l.any (Str.is s) then some (.ret, ⟨[.c (.bool true)], []⟩) else some (.exit 0, ⟨[], []⟩) := by
  intro l
  induction l with
  | nil =>
    intro pre h
    rw [r58_l0]
    simp [c58_l0b]
  | cons x r ih =>
    intro pre h
    have ih := ih (pre ++ [x]) (by simpa using h)
    simp at ih h
    have hw : IntKind.i64.wrap (↑pre.length + 1) = ↑pre.length + 1 := wrap64 (by omega) (by omega)
    have hlt : (pre.length : Int) < pre.length + (r.length + 1) := by omega
    have e := Str.is_eq s x
    rw [r58_l0]
    by_cases h0 : x = s
    · simp only [h0, decide_true] at e
      simp [c58_l0b, hw, hlt, h0, e]
    · simp only [h0, decide_false] at e
      simp [c58_l0b, hw, hlt, h0, e, ih]
theorem S58 (s : Str) (l : List Str) (h : (l.length : Int) < 9223372036854775807) : fn P 58 [.slice (l.map CV.str), .str s] = some (.bool (l.any (Str.is s))) := by
  have hl := L58 (P := P) s l [] (by simpa using h)
  simp [-List.any_eq_true] at hl
  rw [u58]
  cases h0 : l.any (Str.is s) <;> rw [h0] at hl <;> simp [c58, hl]
theorem once_eq (pre : List Str) (s : Str) : once pre s = if isName s = false then 8 else if pre.any (Str.is s) then 9 else 0 := by
  unfold once named whenE
  cases isName s <;> cases pre.any (Str.is s) <;> simp [firstE]
theorem L87 : ∀ (l pre : List Str), ((pre ++ l).length : Int) < 9223372036854775807 →
    execS P (limS P) c87_l0 ⟨[.c (.slice ((pre ++ l).map CV.str)), .c (ci pre.length)], []⟩ = if eachE once pre l = 0 then some (.exit 0, ⟨[], []⟩) else some (.ret, ⟨[.c (ci (eachE once pre l))], []⟩) := by
  intro l
  induction l with
  | nil =>
    intro pre h
    rw [r87_l0]
    simp [c87_l0b, eachE]
  | cons c r ih =>
    intro pre h
    have ih := ih (pre ++ [c]) (by simpa using h)
    have hc := S58 (P := P) c pre (by simp at h; omega)
    have ht : List.take pre.length (List.map CV.str pre ++ CV.str c :: List.map CV.str r) = pre.map CV.str := by simp
    have he := once_eq pre c
    simp at ih h
    have hw : IntKind.i64.wrap (↑pre.length + 1) = ↑pre.length + 1 := wrap64 (by omega) (by omega)
    have hlt : (pre.length : Int) < pre.length + (r.length + 1) := by omega
    have hz : szFits 1 (List.map CV.str pre ++ CV.str c :: List.map CV.str r) = true := by cases pre <;> rfl
    have hb : (pre.length : Int) ≤ pre.length + (r.length + 1) := by omega
    rw [r87_l0]
    cases h1 : isName c
    · rw [h1] at he
      simp [c87_l0b, eachE, hw, hlt, hz, hb, ht, h1, he]
    · cases h2 : pre.any (Str.is c)
      · rw [h1, h2] at he
        rw [h2] at hc
        simp at he
        simp [c87_l0b, eachE, hw, hlt, hz, hb, ht, h1, he, hc, ih]
      · rw [h1, h2] at he
        rw [h2] at hc
        simp at he
        simp [c87_l0b, eachE, hw, hlt, hz, hb, ht, h1, he, hc]
theorem S87 (l : List Str) (h : (l.length : Int) < 9223372036854775807) : fn P 87 [.slice (l.map CV.str)] = some (ci (eachE once [] l)) := by
  have this := L87 (P := P) l [] (by simpa using h)
  simp at this
  rw [u87]
  by_cases h0 : eachE once [] l = 0 <;> simp [c87, this, h0]
def shortS (s : Str) : Bool := decide (s.length ≤ 40)
theorem L84 (n : Int) : ∀ (l pre : List Str), ((pre ++ l).length : Int) < 9223372036854775807 →
    execS P (limS P) c84_l0 ⟨[.c (.slice ((pre ++ l).map CV.str)), .c (ci n), .c (ci pre.length)], []⟩ = if l.all shortS then some (.exit 0, ⟨[.c (.slice ((pre ++ l).map CV.str)), .c (ci n)], []⟩) else some (.ret, ⟨[.c (.bool false)], []⟩) := by
  intro l
  induction l with
  | nil =>
    intro pre h
    rw [r84_l0]
    simp [c84_l0b]
  | cons c r ih =>
    intro pre h
    have ih := ih (pre ++ [c]) (by simpa using h)
    simp [-List.all_eq_true] at ih h
    have hw : IntKind.i64.wrap (↑pre.length + 1) = ↑pre.length + 1 := wrap64 (by omega) (by omega)
    have hlt : (pre.length : Int) < pre.length + (r.length + 1) := by omega
    have e : shortS c = decide (c.length ≤ 40) := rfl
    have q : (40 : Int) < c.length ↔ ¬ c.length ≤ 40 := by omega
    rw [r84_l0]
    by_cases h0 : c.length ≤ 40 <;> simp [c84_l0b, hw, hlt, q, h0, e, ih, -List.all_eq_true, -Nat.not_le]
def shortL (l : List Str) (n : Int) : Bool := l.all shortS && decide ((l.length : Int) ≤ n)
theorem S84 (l : List Str) (n : Int) (h : (l.length : Int) < 9223372036854775807) : fn P 84 [.slice (l.map CV.str), ci n] = some (.bool (shortL l n)) := by
  have this := L84 (P := P) n l [] (by simpa using h)
  simp [-List.all_eq_true] at this
  rw [u84]
  unfold shortL
  cases h0 : l.all shortS <;> rw [h0] at this <;> simp [c84, this]
end LM.G9
namespace LM.G9
open Go LM
variable {P : Nat → Option SFunc} [Has P]
structure Ofc where
  name : Str
  nation : Str
  roles : List Str
  load : Int
def Ofc.enc (x : Ofc) : CV := .agg [.str x.name, .str x.nation, .slice (x.roles.map CV.str), ci x.load]
def Ofc.ptr (x : Ofc) : CV := .ptr [.str x.name, .str x.nation, .slice (x.roles.map CV.str), ci x.load] 0
def Ofc.ok (x : Ofc) : Prop := x.name.length < 9223372036854775807 ∧ x.nation.length < 9223372036854775807 ∧ (x.roles.length : Int) < 9223372036854775807 ∧ (∀ y ∈ x.roles, y.length < 9223372036854775807)
theorem Ofc.elem (x : Ofc) : Elem (some 4) x.enc := ⟨_, rfl, rfl, by simp [CV.flat]⟩
theorem Ofc.elems (l : List Ofc) : ∀ x ∈ l.map Ofc.enc, Elem (some 4) x := by
  intro x hx
  obtain ⟨y, _, rfl⟩ := List.mem_map.1 hx
  exact y.elem
def Ofc.is (n : Str) (x : Ofc) : Bool := x.name == n
theorem S102 (x c : Ofc) : fn P 102 [x.enc, c.ptr] = some (.bool (Ofc.is c.name x)) := by
  rw [u102]
  simp [c102, Ofc.enc, Ofc.ptr, Ofc.is]
theorem L138 (c : Ofc) : ∀ (l pre : List Ofc), ((pre ++ l).length : Int) < 9223372036854775807 →
    execS P (limS P) c138_l0 ⟨[.c (.slice ((pre ++ l).map Ofc.enc)), .c (.func 102 [] [c.ptr]), .c (ci (pre ++ l).length), .c (ci pre.length)], []⟩ = if l.any (Ofc.is c.name) then some (.ret, ⟨[.c (ci (idxF (Ofc.is c.name) pre.length l))], []⟩) else some (.exit 0, ⟨[], []⟩) := by
  intro l
  induction l with
  | nil =>
    intro pre h
    rw [r138_l0]
    simp [c138_l0b]
  | cons x r ih =>
    intro pre h
    have ih := ih (pre ++ [x]) (by simpa using h)
    have hc := S102 (P := P) x c
    simp [Ofc.enc] at ih h hc
    have hw : IntKind.i64.wrap (↑pre.length + 1) = ↑pre.length + 1 := wrap64 (by omega) (by omega)
    have hlt : (pre.length : Int) < pre.length + (r.length + 1) := by omega
    rw [r138_l0]
    cases h0 : Ofc.is c.name x
    · simp [c138_l0b, hw, hlt, Ofc.enc, hc, idxF, h0, ih]
    · simp [c138_l0b, hw, hlt, Ofc.enc, hc, idxF, h0]
theorem S101 (c : Ofc) (l : List Ofc) (h : (l.length : Int) < 9223372036854775807) : fn P 101 [.slice (l.map Ofc.enc), .func 102 [] [c.ptr]] = some (.bool (l.any (Ofc.is c.name))) := by
  have hl := L138 (P := P) c l [] (by simpa using h)
  have h2 : fn P 138 [.slice (l.map Ofc.enc), .func 102 [] [c.ptr]] = some (ci (idxF (Ofc.is c.name) 0 l)) := by
    rw [u138]
    simp at hl
    simp [c138, hl]
    exact fun hx => (idxF_none (by simpa using hx)).symm
  rw [u101]
  simp [c101, h2, idxF_dec]
def checkOfc (pre : List Ofc) (x : Ofc) : Int := firstE [named x.name, named x.nation, whenE (pre.any (Ofc.is x.name)) 9, onceL 16 x.roles, whenE (outside x.load 0 24) 3]
theorem S100 (x : Ofc) (hx : x.ok) (pre : List Ofc) (h : (pre.length : Int) < 9223372036854775807) : fn P 100 [x.enc, .slice (pre.map Ofc.enc)] = some (ci (checkOfc pre x)) := by
  have hs := S101 (P := P) x pre h
  obtain ⟨h1, h2, h3, h4⟩ := hx
  have hr := S103 (P := P) x.roles 16 h4 h3
  rw [u100]
  simp [Ofc.ptr] at hs
  simp [c100, Ofc.enc, hs, h1, h2, hr, checkOfc]
theorem L99 : ∀ (l pre : List Ofc), (∀ x ∈ l, x.ok) → ((pre ++ l).length : Int) < 9223372036854775807 →
    ∃ h', execS P (limS P) c99_l0 ⟨[.c (.slice ((pre ++ l).map Ofc.enc)), .c (.func 100 [] []), .c (.slice ((pre ++ l).map Ofc.enc)), .c (ci (pre ++ l).length), .c (ci pre.length)], []⟩ = if eachE checkOfc pre l = 0 then some (.exit 0, ⟨[], []⟩) else some (.ret, ⟨[.c (ci (eachE checkOfc pre l))], h'⟩) := by
  intro l
  induction l with
  | nil =>
    intro pre hl h
    rw [r99_l0]
    exact ⟨[], by simp [c99_l0b, eachE]⟩
  | cons c r ih =>
    intro pre hl h
    obtain ⟨h', ih⟩ := ih (pre ++ [c]) (fun x hx => hl x (by simp [hx])) (by simpa using h)
    have hc := S100 (P := P) c (hl c (by simp)) pre (by simp at h; omega)
    have ht : List.take pre.length (List.map Ofc.enc pre ++ c.enc :: List.map Ofc.enc r) = pre.map Ofc.enc := by simp
    simp [Ofc.enc] at ih h hc ht
    have hw : IntKind.i64.wrap (↑pre.length + 1) = ↑pre.length + 1 := wrap64 (by omega) (by omega)
    have hlt : (pre.length : Int) < pre.length + (r.length + 1) := by omega
    have hz : szFits 4 (List.map Ofc.enc pre ++ CV.agg [CV.str c.name, CV.str c.nation, CV.slice (List.map CV.str c.roles), ci c.load] :: List.map Ofc.enc r) = true := by cases pre <;> rfl
    have hb : (pre.length : Int) ≤ pre.length + (r.length + 1) := by omega
    rw [r99_l0]
    by_cases h0 : checkOfc pre c = 0
    · refine ⟨h', ?_⟩
      simp [c99_l0b, eachE, hw, hlt, Ofc.enc, hc, hz, hb, ht, h0, ih]
    · refine ⟨[LB.cells 0 [LV.c (CV.str c.name), LV.c (CV.str c.nation), LV.c (CV.slice (List.map CV.str c.roles)), LV.c (ci c.load)] 0], ?_⟩
      simp [c99_l0b, eachE, hw, hlt, Ofc.enc, hc, hz, hb, ht, h0]
theorem S99 (l : List Ofc) (m : Int) (hl : ∀ x ∈ l, x.ok) (h : (l.length : Int) < 9223372036854775807) : fn P 99 [.slice (l.map Ofc.enc), ci m, .func 100 [] []] = some (ci (if (l.length : Int) > m then 5 else eachE checkOfc [] l)) := by
  rw [u99]
  obtain ⟨h', this⟩ := L99 (P := P) l [] hl (by simpa using h)
  simp at this
  by_cases hm : (l.length : Int) > m
  · have hm' : m < (l.length : Int) := hm
    simp [c99, hm']
  · have hm' : ¬ m < (l.length : Int) := hm
    simp [c99, hm', this]
    by_cases h0 : eachE checkOfc [] l = 0 <;> simp [h0]
structure Pst where
  name : Str
  role : Str
  hour : Int
  nations : List Str
def Pst.enc (x : Pst) : CV := .agg [.str x.name, .str x.role, ci x.hour, .slice (x.nations.map CV.str)]
def Pst.ptr (x : Pst) : CV := .ptr [.str x.name, .str x.role, ci x.hour, .slice (x.nations.map CV.str)] 0
def Pst.ok (x : Pst) : Prop := x.name.length < 9223372036854775807 ∧ x.role.length < 9223372036854775807 ∧ (x.nations.length : Int) < 9223372036854775807 ∧ (∀ y ∈ x.nations, y.length < 9223372036854775807)
theorem Pst.elem (x : Pst) : Elem (some 4) x.enc := ⟨_, rfl, rfl, by simp [CV.flat]⟩
theorem Pst.elems (l : List Pst) : ∀ x ∈ l.map Pst.enc, Elem (some 4) x := by
  intro x hx
  obtain ⟨y, _, rfl⟩ := List.mem_map.1 hx
  exact y.elem
def Pst.is (n : Str) (x : Pst) : Bool := x.name == n
theorem S109 (x c : Pst) : fn P 109 [x.enc, c.ptr] = some (.bool (Pst.is c.name x)) := by
  rw [u109]
  simp [c109, Pst.enc, Pst.ptr, Pst.is]
theorem L140 (c : Pst) : ∀ (l pre : List Pst), ((pre ++ l).length : Int) < 9223372036854775807 →
    execS P (limS P) c140_l0 ⟨[.c (.slice ((pre ++ l).map Pst.enc)), .c (.func 109 [] [c.ptr]), .c (ci (pre ++ l).length), .c (ci pre.length)], []⟩ = if l.any (Pst.is c.name) then some (.ret, ⟨[.c (ci (idxF (Pst.is c.name) pre.length l))], []⟩) else some (.exit 0, ⟨[], []⟩) := by
  intro l
  induction l with
  | nil =>
    intro pre h
    rw [r140_l0]
    simp [c140_l0b]
  | cons x r ih =>
    intro pre h
    have ih := ih (pre ++ [x]) (by simpa using h)
    have hc := S109 (P := P) x c
    simp [Pst.enc] at ih h hc
    have hw : IntKind.i64.wrap (↑pre.length + 1) = ↑pre.length + 1 := wrap64 (by omega) (by omega)
    have hlt : (pre.length : Int) < pre.length + (r.length + 1) := by omega
    rw [r140_l0]
    cases h0 : Pst.is c.name x
    · simp [c140_l0b, hw, hlt, Pst.enc, hc, idxF, h0, ih]
    · simp [c140_l0b, hw, hlt, Pst.enc, hc, idxF, h0]
theorem S108 (c : Pst) (l : List Pst) (h : (l.length : Int) < 9223372036854775807) : fn P 108 [.slice (l.map Pst.enc), .func 109 [] [c.ptr]] = some (.bool (l.any (Pst.is c.name))) := by
  have hl := L140 (P := P) c l [] (by simpa using h)
  have h2 : fn P 140 [.slice (l.map Pst.enc), .func 109 [] [c.ptr]] = some (ci (idxF (Pst.is c.name) 0 l)) := by
    rw [u140]
    simp at hl
    simp [c140, hl]
    exact fun hx => (idxF_none (by simpa using hx)).symm
  rw [u108]
  simp [c108, h2, idxF_dec]
def checkPst (pre : List Pst) (x : Pst) : Int := firstE [named x.name, named x.role, whenE (pre.any (Pst.is x.name)) 9, dated x.hour, onceL 160 x.nations]
theorem S107 (x : Pst) (hx : x.ok) (pre : List Pst) (h : (pre.length : Int) < 9223372036854775807) : fn P 107 [x.enc, .slice (pre.map Pst.enc)] = some (ci (checkPst pre x)) := by
  have hs := S108 (P := P) x pre h
  obtain ⟨h1, h2, h3, h4⟩ := hx
  have hr := S103 (P := P) x.nations 160 h4 h3
  rw [u107]
  simp [Pst.ptr] at hs
  simp [c107, Pst.enc, hs, h1, h2, hr, checkPst]
theorem L106 : ∀ (l pre : List Pst), (∀ x ∈ l, x.ok) → ((pre ++ l).length : Int) < 9223372036854775807 →
    ∃ h', execS P (limS P) c106_l0 ⟨[.c (.slice ((pre ++ l).map Pst.enc)), .c (.func 107 [] []), .c (.slice ((pre ++ l).map Pst.enc)), .c (ci (pre ++ l).length), .c (ci pre.length)], []⟩ = if eachE checkPst pre l = 0 then some (.exit 0, ⟨[], []⟩) else some (.ret, ⟨[.c (ci (eachE checkPst pre l))], h'⟩) := by
  intro l
  induction l with
  | nil =>
    intro pre hl h
    rw [r106_l0]
    exact ⟨[], by simp [c106_l0b, eachE]⟩
  | cons c r ih =>
    intro pre hl h
    obtain ⟨h', ih⟩ := ih (pre ++ [c]) (fun x hx => hl x (by simp [hx])) (by simpa using h)
    have hc := S107 (P := P) c (hl c (by simp)) pre (by simp at h; omega)
    have ht : List.take pre.length (List.map Pst.enc pre ++ c.enc :: List.map Pst.enc r) = pre.map Pst.enc := by simp
    simp [Pst.enc] at ih h hc ht
    have hw : IntKind.i64.wrap (↑pre.length + 1) = ↑pre.length + 1 := wrap64 (by omega) (by omega)
    have hlt : (pre.length : Int) < pre.length + (r.length + 1) := by omega
    have hz : szFits 4 (List.map Pst.enc pre ++ CV.agg [CV.str c.name, CV.str c.role, ci c.hour, CV.slice (List.map CV.str c.nations)] :: List.map Pst.enc r) = true := by cases pre <;> rfl
    have hb : (pre.length : Int) ≤ pre.length + (r.length + 1) := by omega
    rw [r106_l0]
    by_cases h0 : checkPst pre c = 0
    · refine ⟨h', ?_⟩
      simp [c106_l0b, eachE, hw, hlt, Pst.enc, hc, hz, hb, ht, h0, ih]
    · refine ⟨[LB.cells 0 [LV.c (CV.str c.name), LV.c (CV.str c.role), LV.c (ci c.hour), LV.c (CV.slice (List.map CV.str c.nations))] 0], ?_⟩
      simp [c106_l0b, eachE, hw, hlt, Pst.enc, hc, hz, hb, ht, h0]
theorem S106 (l : List Pst) (m : Int) (hl : ∀ x ∈ l, x.ok) (h : (l.length : Int) < 9223372036854775807) : fn P 106 [.slice (l.map Pst.enc), ci m, .func 107 [] []] = some (ci (if (l.length : Int) > m then 5 else eachE checkPst [] l)) := by
  rw [u106]
  obtain ⟨h', this⟩ := L106 (P := P) l [] hl (by simpa using h)
  simp at this
  by_cases hm : (l.length : Int) > m
  · have hm' : m < (l.length : Int) := hm
    simp [c106, hm']
  · have hm' : ¬ m < (l.length : Int) := hm
    simp [c106, hm', this]
    by_cases h0 : eachE checkPst [] l = 0 <;> simp [h0]
structure Jur where
  ofs : List Ofc
  pts : List Pst
def Jur.enc (j : Jur) : CV := .agg [.slice (j.ofs.map Ofc.enc), .slice (j.pts.map Pst.enc)]
structure Jur.ok (j : Jur) : Prop where
  o : ∀ x ∈ j.ofs, x.ok
  p : ∀ x ∈ j.pts, x.ok
  so : j.ofs.length * 64 ≤ 2 ^ 47
  sp : j.pts.length * 64 ≤ 2 ^ 47
def checkJur (j : Jur) : Int := firstE [if (j.ofs.length : Int) > 24 then 5 else eachE checkOfc [] j.ofs, if (j.pts.length : Int) > 24 then 5 else eachE checkPst [] j.pts]
theorem S42 (j : Jur) (h : j.ok) : fn P 42 [j.enc] = some (ci (checkJur j)) := by
  have h1 := S99 (P := P) j.ofs 24 h.o (by have := h.so; omega)
  have h2 := S106 (P := P) j.pts 24 h.p (by have := h.sp; omega)
  rw [u42]
  simp [c42, Jur.enc, h1, h2, checkJur]
end LM.G9
namespace LM.G9
open Go LM
variable {P : Nat → Option SFunc} [Has P]
def Ofc.short (x : Ofc) : Bool := shortS x.name && shortS x.nation && shortL x.roles 19
theorem L40_Ofc (o : CV) : ∀ (l pre : List Ofc), (∀ x ∈ l, x.ok) → ((pre ++ l).length : Int) < 9223372036854775807 →
    execS P (limS P) c40_l0 ⟨[.ptr 0 0 0, .c (ci pre.length)], [.cells 0 [.c (.slice ((pre ++ l).map Ofc.enc)), .c o] 0]⟩ = if l.all Ofc.short then some (.exit 0, ⟨[.ptr 0 0 0], [.cells 0 [.c (.slice ((pre ++ l).map Ofc.enc)), .c o] 0]⟩) else some (.ret, ⟨[.c (.bool false)], [.cells 0 [.c (.slice ((pre ++ l).map Ofc.enc)), .c o] 0]⟩) := by
  intro l
  induction l with
  | nil =>
    intro pre hl h
    rw [r40_l0]
    simp [c40_l0b]
  | cons c r ih =>
    intro pre hl h
    have ih := ih (pre ++ [c]) (fun x hx => hl x (by simp [hx])) (by simpa using h)
    obtain ⟨k1, k2, k3, k4⟩ := hl c (by simp)
    have hs := S84 (P := P) c.roles 19 k3
    simp [Ofc.enc, -List.all_eq_true] at ih h
    have hw : IntKind.i64.wrap (↑pre.length + 1) = ↑pre.length + 1 := wrap64 (by omega) (by omega)
    have hlt : (pre.length : Int) < pre.length + (r.length + 1) := by omega
    have e : Ofc.short c = (decide (c.name.length ≤ 40) && decide (c.nation.length ≤ 40) && shortL c.roles 19) := rfl
    have q1 : (40 : Int) < c.name.length ↔ ¬ c.name.length ≤ 40 := by omega
    have q2 : (40 : Int) < c.nation.length ↔ ¬ c.nation.length ≤ 40 := by omega
    rw [r40_l0]
    by_cases h1 : c.name.length ≤ 40 <;> by_cases h2 : c.nation.length ≤ 40 <;> cases h3 : shortL c.roles 19 <;> rw [h3] at hs <;>
      simp [c40_l0b, hw, hlt, Ofc.enc, q1, q2, h1, h2, h3, hs, e, ih, -List.all_eq_true, -Nat.not_le]
def Pst.short (x : Pst) : Bool := shortS x.name && shortS x.role && shortL x.nations 163
theorem L40_Pst (o : CV) : ∀ (l pre : List Pst), (∀ x ∈ l, x.ok) → ((pre ++ l).length : Int) < 9223372036854775807 →
    execS P (limS P) c40_l1 ⟨[.ptr 0 0 0, .c (ci pre.length)], [.cells 0 [.c o, .c (.slice ((pre ++ l).map Pst.enc))] 0]⟩ = if l.all Pst.short then some (.exit 2, ⟨[.ptr 0 0 0], [.cells 0 [.c o, .c (.slice ((pre ++ l).map Pst.enc))] 0]⟩) else some (.ret, ⟨[.c (.bool false)], [.cells 0 [.c o, .c (.slice ((pre ++ l).map Pst.enc))] 0]⟩) := by
  intro l
  induction l with
  | nil =>
    intro pre hl h
    rw [r40_l1]
    simp [c40_l1b]
  | cons c r ih =>
    intro pre hl h
    have ih := ih (pre ++ [c]) (fun x hx => hl x (by simp [hx])) (by simpa using h)
    obtain ⟨k1, k2, k3, k4⟩ := hl c (by simp)
    have hs := S84 (P := P) c.nations 163 k3
    simp [Pst.enc, -List.all_eq_true] at ih h
    have hw : IntKind.i64.wrap (↑pre.length + 1) = ↑pre.length + 1 := wrap64 (by omega) (by omega)
    have hlt : (pre.length : Int) < pre.length + (r.length + 1) := by omega
    have e : Pst.short c = (decide (c.name.length ≤ 40) && decide (c.role.length ≤ 40) && shortL c.nations 163) := rfl
    have q1 : (40 : Int) < c.name.length ↔ ¬ c.name.length ≤ 40 := by omega
    have q2 : (40 : Int) < c.role.length ↔ ¬ c.role.length ≤ 40 := by omega
    rw [r40_l1]
    by_cases h1 : c.name.length ≤ 40 <;> by_cases h2 : c.role.length ≤ 40 <;> cases h3 : shortL c.nations 163 <;> rw [h3] at hs <;>
      simp [c40_l1b, hw, hlt, Pst.enc, q1, q2, h1, h2, h3, hs, e, ih, -List.all_eq_true, -Nat.not_le]
def shortJur (j : Jur) : Bool := j.ofs.all Ofc.short && j.pts.all Pst.short && (decide (j.ofs.length ≤ 27) && decide (j.pts.length ≤ 27))
theorem S40 (j : Jur) (h : j.ok) : fn P 40 [j.enc] = some (.bool (shortJur j)) := by
  have h1 := L40_Ofc (P := P) (.slice (j.pts.map Pst.enc)) j.ofs [] h.o (by have := h.so; simp; omega)
  have h2 := L40_Pst (P := P) (.slice (j.ofs.map Ofc.enc)) j.pts [] h.p (by have := h.sp; simp; omega)
  simp [-List.all_eq_true] at h1 h2
  have q1 : decide ((j.ofs.length : Int) ≤ 27) = decide (j.ofs.length ≤ 27) := decide_eq_decide.2 (by omega)
  have q2 : decide ((j.pts.length : Int) ≤ 27) = decide (j.pts.length ≤ 27) := decide_eq_decide.2 (by omega)
  rw [u40]
  unfold shortJur
  cases e1 : j.ofs.all Ofc.short <;> rw [e1] at h1
  · simp [c40, Jur.enc, h1]
  · cases e2 : j.pts.all Pst.short <;> rw [e2] at h2 <;> simp [c40, Jur.enc, h1, h2, q1, q2]
theorem L41a_Ofc (o : CV) (A : List CV) (x : Ofc) (i : Nat) (hi : i < A.length) (hA : (A.length : Int) < 9223372036854775807) : ∀ (l : List Ofc) (k : Nat), k + l.length = i → (∀ j c, l[j]? = some c → A[k + j]? = some c.enc) →
    execS P (limS P) c41_l0 ⟨[.ptr 0 0 0, .c (ci i), .ptr 1 0 0, .c (ci k)], [.cells 0 [.c (.slice A), .c o] 0, .cells 0 [.c (.str x.name), .c (.str x.nation), .c (.slice (x.roles.map CV.str)), .c (ci x.load)] 0]⟩ = if l.any (Ofc.is x.name) then some (.ret, ⟨[.c (ci 9)], [.cells 0 [.c (.slice A), .c o] 0, .cells 0 [.c (.str x.name), .c (.str x.nation), .c (.slice (x.roles.map CV.str)), .c (ci x.load)] 0]⟩) else some (.exit 2, ⟨[.ptr 0 0 0, .c (ci i), .ptr 1 0 0], [.cells 0 [.c (.slice A), .c o] 0, .cells 0 [.c (.str x.name), .c (.str x.nation), .c (.slice (x.roles.map CV.str)), .c (ci x.load)] 0]⟩) := by
  intro l
  induction l with
  | nil =>
    intro k hk h
    simp at hk
    subst hk
    rw [r41_l0]
    simp [c41_l0b]
  | cons c r ih =>
    intro k hk h
    have hc : A[k]? = some c.enc := h 0 c rfl
    have ih := ih (k + 1) (by simp at hk; omega) (fun j c hj => by have := h (j + 1) c hj; rw [← this]; congr 1; omega)
    simp [-List.any_eq_true] at hk ih
    have hlt : (k : Int) < i := by omega
    have hw : IntKind.i64.wrap (↑k + 1) = ↑k + 1 := wrap64 (by omega) (by omega)
    obtain ⟨h1, hc⟩ := List.getElem?_eq_some_iff.1 hc
    simp only [Ofc.enc] at hc
    have e : Ofc.is x.name c = decide (c.name = x.name) := by unfold Ofc.is; by_cases h : c.name = x.name <;> simp [h]
    rw [r41_l0]
    by_cases h0 : c.name = x.name
    · simp [c41_l0b, hlt, hc, h0, e, hi, h1]
    · simp [c41_l0b, hlt, hc, h0, e, hi, h1, hw, ih, -List.any_eq_true]
theorem L41a_Pst (o : CV) (A : List CV) (x : Pst) (i : Nat) (hi : i < A.length) (hA : (A.length : Int) < 9223372036854775807) : ∀ (l : List Pst) (k : Nat), k + l.length = i → (∀ j c, l[j]? = some c → A[k + j]? = some c.enc) →
    execS P (limS P) c41_l2 ⟨[.ptr 0 0 0, .c (ci i), .ptr 1 0 0, .c (ci k)], [.cells 0 [.c o, .c (.slice A)] 0, .cells 0 [.c (.str x.name), .c (.str x.role), .c (ci x.hour), .c (.slice (x.nations.map CV.str))] 0]⟩ = if l.any (Pst.is x.name) then some (.ret, ⟨[.c (ci 9)], [.cells 0 [.c o, .c (.slice A)] 0, .cells 0 [.c (.str x.name), .c (.str x.role), .c (ci x.hour), .c (.slice (x.nations.map CV.str))] 0]⟩) else some (.exit 6, ⟨[.ptr 0 0 0, .c (ci i), .ptr 1 0 0], [.cells 0 [.c o, .c (.slice A)] 0, .cells 0 [.c (.str x.name), .c (.str x.role), .c (ci x.hour), .c (.slice (x.nations.map CV.str))] 0]⟩) := by
  intro l
  induction l with
  | nil =>
    intro k hk h
    simp at hk
    subst hk
    rw [r41_l2]
    simp [c41_l2b]
  | cons c r ih =>
    intro k hk h
    have hc : A[k]? = some c.enc := h 0 c rfl
    have ih := ih (k + 1) (by simp at hk; omega) (fun j c hj => by have := h (j + 1) c hj; rw [← this]; congr 1; omega)
    simp [-List.any_eq_true] at hk ih
    have hlt : (k : Int) < i := by omega
    have hw : IntKind.i64.wrap (↑k + 1) = ↑k + 1 := wrap64 (by omega) (by omega)
    obtain ⟨h1, hc⟩ := List.getElem?_eq_some_iff.1 hc
    simp only [Pst.enc] at hc
    have e : Pst.is x.name c = decide (c.name = x.name) := by unfold Pst.is; by_cases h : c.name = x.name <;> simp [h]
    rw [r41_l2]
    by_cases h0 : c.name = x.name
    · simp [c41_l2b, hlt, hc, h0, e, hi, h1]
    · simp [c41_l2b, hlt, hc, h0, e, hi, h1, hw, ih, -List.any_eq_true]
theorem checkOfc_eq (pre : List Ofc) (x : Ofc) : checkOfc pre x = if (isName x.name && isName x.nation) = false then 8 else if pre.any (Ofc.is x.name) then 9 else if (16 : Int) < x.roles.length then 5 else if eachE once [] x.roles ≠ 0 then eachE once [] x.roles else if outside x.load 0 24 then 3 else 0 := by
  unfold checkOfc named whenE onceL
  cases isName x.name <;> cases isName x.nation <;> cases pre.any (Ofc.is x.name) <;> by_cases h : (16 : Int) < x.roles.length <;> by_cases h2 : eachE once [] x.roles = 0 <;> cases outside x.load 0 24 <;> simp [firstE, h, h2]
theorem checkPst_eq (pre : List Pst) (x : Pst) : checkPst pre x = if (isName x.name && isName x.role) = false then 8 else if pre.any (Pst.is x.name) then 9 else if outside x.hour 0 99999 then 3 else if (160 : Int) < x.nations.length then 5 else eachE once [] x.nations := by
  unfold checkPst named dated whenE onceL
  cases isName x.name <;> cases isName x.role <;> cases pre.any (Pst.is x.name) <;> by_cases h : (160 : Int) < x.nations.length <;> by_cases h2 : eachE once [] x.nations = 0 <;> cases outside x.hour 0 99999 <;> simp [firstE, h, h2]
theorem L41_Ofc (o : CV) : ∀ (l pre : List Ofc), (∀ x ∈ l, x.ok) → ((pre ++ l).length : Int) < 9223372036854775807 →
    ∃ h', execS P (limS P) c41_l1 ⟨[.ptr 0 0 0, .c (ci pre.length)], [.cells 0 [.c (.slice ((pre ++ l).map Ofc.enc)), .c o] 0]⟩ = if eachE checkOfc pre l = 0 then some (.exit 0, ⟨[.ptr 0 0 0], [.cells 0 [.c (.slice ((pre ++ l).map Ofc.enc)), .c o] 0]⟩) else some (.ret, ⟨[.c (ci (eachE checkOfc pre l))], h'⟩) := by
  intro l
  induction l with
  | nil =>
    intro pre hl h
    refine ⟨[], ?_⟩
    rw [r41_l1]
    simp [c41_l1b, eachE]
  | cons c r ih =>
    intro pre hl h
    obtain ⟨h', ih⟩ := ih (pre ++ [c]) (fun x hx => hl x (by simp [hx])) (by simpa using h)
    have hin := L41a_Ofc (P := P) o ((pre ++ c :: r).map Ofc.enc) c pre.length (by simp) (by simpa using h) pre 0 (by simp) (fun j x hj => by
      have hj' : j < pre.length := (List.getElem?_eq_some_iff.1 hj).1
      rw [Nat.zero_add, List.getElem?_map, List.getElem?_append_left hj', hj]; rfl)
    obtain ⟨k1, k2, k3, k4⟩ := hl c (by simp)
    simp [Ofc.enc, -List.any_eq_true] at ih h hin
    have hw : IntKind.i64.wrap (↑pre.length + 1) = ↑pre.length + 1 := wrap64 (by omega) (by omega)
    have hlt : (pre.length : Int) < pre.length + (r.length + 1) := by omega
    have he := checkOfc_eq pre c
    rw [r41_l1]
    have hn := S87 (P := P) c.roles k3
    cases h1 : isName c.name
    · rw [h1] at he
      simp at he
      refine ⟨[.cells 0 [.c (.slice ((pre ++ c :: r).map Ofc.enc)), .c o] 0, .cells 0 [.c (.str c.name), .c (.str c.nation), .c (.slice (c.roles.map CV.str)), .c (ci c.load)] 0], ?_⟩
      simp [c41_l1b, hw, hlt, Ofc.enc, eachE, he, h1]
    · cases h2 : isName c.nation
      · rw [h1, h2] at he
        simp at he
        refine ⟨[.cells 0 [.c (.slice ((pre ++ c :: r).map Ofc.enc)), .c o] 0, .cells 0 [.c (.str c.name), .c (.str c.nation), .c (.slice (c.roles.map CV.str)), .c (ci c.load)] 0], ?_⟩
        simp [c41_l1b, hw, hlt, Ofc.enc, eachE, he, h1, h2]
      · rw [h1, h2] at he
        cases h3 : pre.any (Ofc.is c.name)
        · rw [h3] at he hin
          simp at he hin
          by_cases h4 : (16 : Int) < c.roles.length
          · simp [h4] at he
            refine ⟨[.cells 0 [.c (.slice ((pre ++ c :: r).map Ofc.enc)), .c o] 0, .cells 0 [.c (.str c.name), .c (.str c.nation), .c (.slice (c.roles.map CV.str)), .c (ci c.load)] 0], ?_⟩
            simp [c41_l1b, hw, hlt, Ofc.enc, eachE, he, h1, h2, hin, h4]
          · simp [h4] at he
            by_cases h5 : eachE once [] c.roles = 0
            · rw [h5] at hn he
              simp at he
              cases h6 : outside c.load 0 24
              · rw [h6] at he
                simp at he
                refine ⟨h', ?_⟩
                simp [c41_l1b, hw, hlt, Ofc.enc, eachE, he, h1, h2, hin, h4, hn, h6, ih]
              · rw [h6] at he
                simp at he
                refine ⟨[.cells 0 [.c (.slice ((pre ++ c :: r).map Ofc.enc)), .c o] 0, .cells 0 [.c (.str c.name), .c (.str c.nation), .c (.slice (c.roles.map CV.str)), .c (ci c.load)] 0], ?_⟩
                simp [c41_l1b, hw, hlt, Ofc.enc, eachE, he, h1, h2, hin, h4, hn, h6]
            · simp [h5] at he
              refine ⟨[.cells 0 [.c (.slice ((pre ++ c :: r).map Ofc.enc)), .c o] 0, .cells 0 [.c (.str c.name), .c (.str c.nation), .c (.slice (c.roles.map CV.str)), .c (ci c.load)] 0], ?_⟩
              simp [c41_l1b, hw, hlt, Ofc.enc, eachE, he, h1, h2, hin, h4, hn, h5]
        · rw [h3] at he hin
          simp at he hin
          refine ⟨[.cells 0 [.c (.slice ((pre ++ c :: r).map Ofc.enc)), .c o] 0, .cells 0 [.c (.str c.name), .c (.str c.nation), .c (.slice (c.roles.map CV.str)), .c (ci c.load)] 0], ?_⟩
          simp [c41_l1b, hw, hlt, Ofc.enc, eachE, he, h1, h2, hin]
theorem L41_Pst (o : CV) : ∀ (l pre : List Pst), (∀ x ∈ l, x.ok) → ((pre ++ l).length : Int) < 9223372036854775807 →
    ∃ h', execS P (limS P) c41_l3 ⟨[.ptr 0 0 0, .c (ci pre.length)], [.cells 0 [.c o, .c (.slice ((pre ++ l).map Pst.enc))] 0]⟩ = if eachE checkPst pre l = 0 then some (.exit 4, ⟨[], [.cells 0 [.c o, .c (.slice ((pre ++ l).map Pst.enc))] 0]⟩) else some (.ret, ⟨[.c (ci (eachE checkPst pre l))], h'⟩) := by
  intro l
  induction l with
  | nil =>
    intro pre hl h
    refine ⟨[], ?_⟩
    rw [r41_l3]
    simp [c41_l3b, eachE]
  | cons c r ih =>
    intro pre hl h
    obtain ⟨h', ih⟩ := ih (pre ++ [c]) (fun x hx => hl x (by simp [hx])) (by simpa using h)
    have hin := L41a_Pst (P := P) o ((pre ++ c :: r).map Pst.enc) c pre.length (by simp) (by simpa using h) pre 0 (by simp) (fun j x hj => by
      have hj' : j < pre.length := (List.getElem?_eq_some_iff.1 hj).1
      rw [Nat.zero_add, List.getElem?_map, List.getElem?_append_left hj', hj]; rfl)
    obtain ⟨k1, k2, k3, k4⟩ := hl c (by simp)
    simp [Pst.enc, -List.any_eq_true] at ih h hin
    have hw : IntKind.i64.wrap (↑pre.length + 1) = ↑pre.length + 1 := wrap64 (by omega) (by omega)
    have hlt : (pre.length : Int) < pre.length + (r.length + 1) := by omega
    have he := checkPst_eq pre c
    rw [r41_l3]
    have hn := S87 (P := P) c.nations k3
    cases h1 : isName c.name
    · rw [h1] at he
      simp at he
      refine ⟨[.cells 0 [.c o, .c (.slice ((pre ++ c :: r).map Pst.enc))] 0, .cells 0 [.c (.str c.name), .c (.str c.role), .c (ci c.hour), .c (.slice (c.nations.map CV.str))] 0], ?_⟩
      simp [c41_l3b, hw, hlt, Pst.enc, eachE, he, h1]
    · cases h2 : isName c.role
      · rw [h1, h2] at he
        simp at he
        refine ⟨[.cells 0 [.c o, .c (.slice ((pre ++ c :: r).map Pst.enc))] 0, .cells 0 [.c (.str c.name), .c (.str c.role), .c (ci c.hour), .c (.slice (c.nations.map CV.str))] 0], ?_⟩
        simp [c41_l3b, hw, hlt, Pst.enc, eachE, he, h1, h2]
      · rw [h1, h2] at he
        cases h3 : pre.any (Pst.is c.name)
        · rw [h3] at he hin
          simp at he hin
          cases h6 : outside c.hour 0 99999
          · rw [h6] at he
            simp at he
            by_cases h4 : (160 : Int) < c.nations.length
            · simp [h4] at he
              refine ⟨[.cells 0 [.c o, .c (.slice ((pre ++ c :: r).map Pst.enc))] 0, .cells 0 [.c (.str c.name), .c (.str c.role), .c (ci c.hour), .c (.slice (c.nations.map CV.str))] 0], ?_⟩
              simp [c41_l3b, hw, hlt, Pst.enc, eachE, he, h1, h2, hin, h4, h6]
            · simp [h4] at he
              by_cases h5 : eachE once [] c.nations = 0
              · rw [h5] at hn he
                refine ⟨h', ?_⟩
                simp [c41_l3b, hw, hlt, Pst.enc, eachE, he, h1, h2, hin, h4, hn, h6, ih]
              · refine ⟨[.cells 0 [.c o, .c (.slice ((pre ++ c :: r).map Pst.enc))] 0, .cells 0 [.c (.str c.name), .c (.str c.role), .c (ci c.hour), .c (.slice (c.nations.map CV.str))] 0], ?_⟩
                simp [c41_l3b, hw, hlt, Pst.enc, eachE, he, h1, h2, hin, h4, hn, h5, h6]
          · rw [h6] at he
            simp at he
            refine ⟨[.cells 0 [.c o, .c (.slice ((pre ++ c :: r).map Pst.enc))] 0, .cells 0 [.c (.str c.name), .c (.str c.role), .c (ci c.hour), .c (.slice (c.nations.map CV.str))] 0], ?_⟩
            simp [c41_l3b, hw, hlt, Pst.enc, eachE, he, h1, h2, hin, h6]
        · rw [h3] at he hin
          simp at he hin
          refine ⟨[.cells 0 [.c o, .c (.slice ((pre ++ c :: r).map Pst.enc))] 0, .cells 0 [.c (.str c.name), .c (.str c.role), .c (ci c.hour), .c (.slice (c.nations.map CV.str))] 0], ?_⟩
          simp [c41_l3b, hw, hlt, Pst.enc, eachE, he, h1, h2, hin]
theorem S41 (j : Jur) (h : j.ok) : fn P 41 [j.enc] = some (ci (checkJur j)) := by
  obtain ⟨h1', h1⟩ := L41_Ofc (P := P) (.slice (j.pts.map Pst.enc)) j.ofs [] h.o (by have := h.so; simp; omega)
  obtain ⟨h2', h2⟩ := L41_Pst (P := P) (.slice (j.ofs.map Ofc.enc)) j.pts [] h.p (by have := h.sp; simp; omega)
  simp at h1 h2
  rw [u41]
  unfold checkJur
  by_cases g1 : (24 : Int) < j.ofs.length
  · simp [c41, Jur.enc, g1, firstE]
  · by_cases e1 : eachE checkOfc [] j.ofs = 0
    · rw [if_pos e1] at h1
      by_cases g2 : (24 : Int) < j.pts.length
      · simp [c41, Jur.enc, g1, h1, e1, g2, firstE]
      · by_cases e2 : eachE checkPst [] j.pts = 0
        · rw [if_pos e2] at h2
          simp [c41, Jur.enc, g1, h1, e1, g2, h2, e2, firstE]
        · rw [if_neg e2] at h2
          simp [c41, Jur.enc, g1, h1, e1, g2, h2, e2, firstE]
    · rw [if_neg e1] at h1
      simp [c41, Jur.enc, g1, h1, e1, firstE]
end LM.G9
namespace LM.G9
open Go LM
variable {P : Nat → Option SFunc} [Has P]
/-- May an official have a post? -/
def servesB (o : Ofc) (p : Pst) : Bool := o.roles.any (Str.is p.role) && !p.nations.any (Str.is o.nation)
theorem S111 (j : Jur) (h : j.ok) (a b : Nat) (o : Ofc) (p : Pst) (ho : j.ofs[a]? = some o) (hp : j.pts[b]? = some p) : fn P 111 [j.enc, ci a, ci b] = some (.bool (servesB o p)) := by
  obtain ⟨i1, ho⟩ := List.getElem?_eq_some_iff.1 ho
  obtain ⟨i2, hp⟩ := List.getElem?_eq_some_iff.1 hp
  obtain ⟨_, _, o3, _⟩ := h.o o (by rw [← ho]; exact List.getElem_mem i1)
  obtain ⟨_, _, p3, _⟩ := h.p p (by rw [← hp]; exact List.getElem_mem i2)
  have e1 := S139 (P := P) p.role o.roles o3
  have e2 := S139 (P := P) o.nation p.nations p3
  have ho : j.ofs[a] = o := ho
  have hp : j.pts[b] = p := hp
  rw [u111]
  unfold servesB
  cases h1 : o.roles.any (Str.is p.role) <;> rw [h1] at e1 <;> simp [c111, Jur.enc, Ofc.enc, Pst.enc, i1, i2, ho, hp, e1, e2]
/-- The answer of Serves. -/
def servesV (j : Jur) (a b : Int) : Bool :=
  match j.ofs[a.toNat]?, j.pts[b.toNat]? with
  | some o, some p => servesB o p
  | _, _ => false
end LM.G9
namespace LM.G9
open Go LM
variable {P : Nat → Option SFunc} [Has P]
set_option maxHeartbeats 2000000 in
theorem L39o (pv : CV) : ∀ (l pre : List Ofc) (g : Nat), g ≠ 0 → (pre ++ l).length * 64 ≤ 2 ^ 47 →
    execS P (limS P) c39_l0 ⟨[.ptr 0 0 0, .ptr 1 0 0, .ptr 2 0 0, .c (ci pre.length)], [.cells 0 [.c (.slice ((pre ++ l).map Ofc.enc)), .c pv] 0, .cells 0 [.nil, .nil] 0, .cells 0 [.slice 4 g 0 pre.length (some 4) none, .nil] 0, .dead, .cells g (cellsOf (pre.map Ofc.enc)) 0]⟩ =
      some (.exit 0, ⟨[.ptr 0 0 0, .ptr 1 0 0, .ptr 2 0 0], [.cells 0 [.c (.slice ((pre ++ l).map Ofc.enc)), .c pv] 0, .cells 0 [.nil, .nil] 0, .cells 0 [.slice 4 (g + l.length) 0 (pre ++ l).length (some 4) none, .nil] 0, .dead, .cells (g + l.length) (cellsOf ((pre ++ l).map Ofc.enc)) 0]⟩) := by
  intro l
  induction l with
  | nil =>
    intro pre g hg h
    rw [r39_l0]
    simp [c39_l0b]
  | cons c r ih =>
    intro pre g hg h
    have ih := ih (pre ++ [c]) (g + 1) (by omega) (by simpa using h)
    have ha := append_ownP (some 6) (b := 4) (g := g) (bytes := 64) (e := some 4) (ys := pre.map Ofc.enc) (xs := [c.enc]) (h := [.cells 0 [.c (.slice ((pre ++ c :: r).map Ofc.enc)), .c pv] 0, .cells 0 [.nil, .nil] 0, .cells 0 [.slice 4 g 0 pre.length (some 4) none, .nil] 0, .dead, .cells g (cellsOf (pre.map Ofc.enc)) 0, .dead, .dead]) (len := pre.length) (fz := 0) rfl (Ofc.elems _) (by simpa using c.elem) (by simp) (Nat.zero_le _) (by simp) (by simp at h ⊢; omega) (by simp at h ⊢; omega)
    simp at h
    have e1 : g + 1 + r.length = g + (r.length + 1) := by omega
    simp [Ofc.enc, e1] at ih ha
    have hw : IntKind.i64.wrap (↑pre.length + 1) = ↑pre.length + 1 := wrap64 (by omega) (by omega)
    have hlt : (pre.length : Int) < pre.length + (r.length + 1) := by omega
    rw [r39_l0]
    simp [c39_l0b, Ofc.enc, hg, hw, hlt, ha, ih]
set_option maxHeartbeats 2000000 in
theorem L39p (pv : CV) : ∀ (l pre : List Pst) (g : Nat), g ≠ 0 → (pre ++ l).length * 64 ≤ 2 ^ 47 →
    execS P (limS P) c39_l1 ⟨[.ptr 0 0 0, .ptr 1 0 0, .ptr 2 0 0, .c (ci pre.length)], [.cells 0 [.c pv, .c (.slice ((pre ++ l).map Pst.enc))] 0, .cells 0 [.nil, .nil] 0, .cells 0 [.nil, .slice 4 g 0 pre.length (some 4) none] 0, .dead, .cells g (cellsOf (pre.map Pst.enc)) 0]⟩ =
      some (.exit 2, ⟨[.ptr 1 0 0, .ptr 2 0 0], [.cells 0 [.c pv, .c (.slice ((pre ++ l).map Pst.enc))] 0, .cells 0 [.nil, .nil] 0, .cells 0 [.nil, .slice 4 (g + l.length) 0 (pre ++ l).length (some 4) none] 0, .dead, .cells (g + l.length) (cellsOf ((pre ++ l).map Pst.enc)) 0]⟩) := by
  intro l
  induction l with
  | nil =>
    intro pre g hg h
    rw [r39_l1]
    simp [c39_l1b]
  | cons c r ih =>
    intro pre g hg h
    have ih := ih (pre ++ [c]) (g + 1) (by omega) (by simpa using h)
    have ha := append_ownP (some 6) (b := 4) (g := g) (bytes := 64) (e := some 4) (ys := pre.map Pst.enc) (xs := [c.enc]) (h := [.cells 0 [.c pv, .c (.slice ((pre ++ c :: r).map Pst.enc))] 0, .cells 0 [.nil, .nil] 0, .cells 0 [.nil, .slice 4 g 0 pre.length (some 4) none] 0, .dead, .cells g (cellsOf (pre.map Pst.enc)) 0, .dead, .dead]) (len := pre.length) (fz := 0) rfl (Pst.elems _) (by simpa using c.elem) (by simp) (Nat.zero_le _) (by simp) (by simp at h ⊢; omega) (by simp at h ⊢; omega)
    simp at h
    have e1 : g + 1 + r.length = g + (r.length + 1) := by omega
    simp [Pst.enc, e1] at ih ha
    have hw : IntKind.i64.wrap (↑pre.length + 1) = ↑pre.length + 1 := wrap64 (by omega) (by omega)
    have hlt : (pre.length : Int) < pre.length + (r.length + 1) := by omega
    rw [r39_l1]
    simp [c39_l1b, Pst.enc, hg, hw, hlt, ha, ih]
set_option maxHeartbeats 2000000 in
theorem L39q (pv : CV) (go no : Nat) (O : List CV) : ∀ (l pre : List Pst) (g : Nat), g ≠ 0 → (pre ++ l).length * 64 ≤ 2 ^ 47 →
    execS P (limS P) c39_l1 ⟨[.ptr 0 0 0, .ptr 1 0 0, .ptr 2 0 0, .c (ci pre.length)], [.cells 0 [.c pv, .c (.slice ((pre ++ l).map Pst.enc))] 0, .cells 0 [.nil, .nil] 0, .cells 0 [.slice 4 go 0 no (some 4) none, .slice 6 g 0 pre.length (some 4) none] 0, .dead, .cells go (cellsOf O) 0, .dead, .cells g (cellsOf (pre.map Pst.enc)) 0]⟩ =
      some (.exit 2, ⟨[.ptr 1 0 0, .ptr 2 0 0], [.cells 0 [.c pv, .c (.slice ((pre ++ l).map Pst.enc))] 0, .cells 0 [.nil, .nil] 0, .cells 0 [.slice 4 go 0 no (some 4) none, .slice 6 (g + l.length) 0 (pre ++ l).length (some 4) none] 0, .dead, .cells go (cellsOf O) 0, .dead, .cells (g + l.length) (cellsOf ((pre ++ l).map Pst.enc)) 0]⟩) := by
  intro l
  induction l with
  | nil =>
    intro pre g hg h
    rw [r39_l1]
    simp [c39_l1b]
  | cons c r ih =>
    intro pre g hg h
    have ih := ih (pre ++ [c]) (g + 1) (by omega) (by simpa using h)
    have ha := append_ownP (some 8) (b := 6) (g := g) (bytes := 64) (e := some 4) (ys := pre.map Pst.enc) (xs := [c.enc]) (h := [.cells 0 [.c pv, .c (.slice ((pre ++ c :: r).map Pst.enc))] 0, .cells 0 [.nil, .nil] 0, .cells 0 [.slice 4 go 0 no (some 4) none, .slice 6 g 0 pre.length (some 4) none] 0, .dead, .cells go (cellsOf O) 0, .dead, .cells g (cellsOf (pre.map Pst.enc)) 0, .dead, .dead]) (len := pre.length) (fz := 0) rfl (Pst.elems _) (by simpa using c.elem) (by simp) (Nat.zero_le _) (by simp) (by simp at h ⊢; omega) (by simp at h ⊢; omega)
    simp at h
    have e1 : g + 1 + r.length = g + (r.length + 1) := by omega
    simp [Pst.enc, e1] at ih ha
    have hw : IntKind.i64.wrap (↑pre.length + 1) = ↑pre.length + 1 := wrap64 (by omega) (by omega)
    have hlt : (pre.length : Int) < pre.length + (r.length + 1) := by omega
    rw [r39_l1]
    simp [c39_l1b, Pst.enc, hg, hw, hlt, ha, ih]
theorem T39o_nil (pv : CV) :
    execS P (limS P) c39_l0 ⟨[.ptr 0 0 0, .ptr 1 0 0, .ptr 2 0 0, .c (ci 0)], [.cells 0 [.c (.slice []), .c pv] 0, .cells 0 [.nil, .nil] 0, .cells 0 [.nil, .nil] 0]⟩ = some (.exit 0, ⟨[.ptr 0 0 0, .ptr 1 0 0, .ptr 2 0 0], [.cells 0 [.c (.slice []), .c pv] 0, .cells 0 [.nil, .nil] 0, .cells 0 [.nil, .nil] 0]⟩) := by
  rw [r39_l0]
  simp [c39_l0b]
theorem T39o_cons (pv : CV) (c : Ofc) (r : List Ofc) (h : (c :: r).length * 64 ≤ 2 ^ 47) :
    execS P (limS P) c39_l0 ⟨[.ptr 0 0 0, .ptr 1 0 0, .ptr 2 0 0, .c (ci 0)], [.cells 0 [.c (.slice ((c :: r).map Ofc.enc)), .c pv] 0, .cells 0 [.nil, .nil] 0, .cells 0 [.nil, .nil] 0]⟩ = some (.exit 0, ⟨[.ptr 0 0 0, .ptr 1 0 0, .ptr 2 0 0], [.cells 0 [.c (.slice ((c :: r).map Ofc.enc)), .c pv] 0, .cells 0 [.nil, .nil] 0, .cells 0 [.slice 4 (1 + r.length) 0 (r.length + 1) (some 4) none, .nil] 0, .dead, .cells (1 + r.length) (cellsOf ((c :: r).map Ofc.enc)) 0]⟩) := by
  have hr := L39o (P := P) pv r [c] 1 (by omega) (by simpa using h)
  have ha : appendOp (some 4) (some 4) 64 .nil (.c (.slice [c.enc])) [.cells 0 [.c (.slice ((c :: r).map Ofc.enc)), .c pv] 0, .cells 0 [.nil, .nil] 0, .cells 0 [.nil, .nil] 0, .dead, .dead] = some (.slice 4 1 0 1 (some 4) none, [.cells 0 [.c (.slice ((c :: r).map Ofc.enc)), .c pv] 0, .cells 0 [.nil, .nil] 0, .cells 0 [.nil, .nil] 0, .dead, .cells 1 (cellsOf [c.enc]) 0]) := rfl
  simp [Ofc.enc] at hr ha
  have hw : IntKind.i64.wrap 1 = 1 := wrap64 (by omega) (by omega)
  have hlt : (0 : Int) < (r.length : Int) + 1 := by omega
  rw [r39_l0]
  simp [c39_l0b, Ofc.enc, hw, hlt, ha, hr]
theorem T39p_nil (pv : CV) :
    execS P (limS P) c39_l1 ⟨[.ptr 0 0 0, .ptr 1 0 0, .ptr 2 0 0, .c (ci 0)], [.cells 0 [.c pv, .c (.slice [])] 0, .cells 0 [.nil, .nil] 0, .cells 0 [.nil, .nil] 0]⟩ = some (.exit 2, ⟨[.ptr 1 0 0, .ptr 2 0 0], [.cells 0 [.c pv, .c (.slice [])] 0, .cells 0 [.nil, .nil] 0, .cells 0 [.nil, .nil] 0]⟩) := by
  rw [r39_l1]
  simp [c39_l1b]
theorem T39p_cons (pv : CV) (c : Pst) (r : List Pst) (h : (c :: r).length * 64 ≤ 2 ^ 47) :
    execS P (limS P) c39_l1 ⟨[.ptr 0 0 0, .ptr 1 0 0, .ptr 2 0 0, .c (ci 0)], [.cells 0 [.c pv, .c (.slice ((c :: r).map Pst.enc))] 0, .cells 0 [.nil, .nil] 0, .cells 0 [.nil, .nil] 0]⟩ = some (.exit 2, ⟨[.ptr 1 0 0, .ptr 2 0 0], [.cells 0 [.c pv, .c (.slice ((c :: r).map Pst.enc))] 0, .cells 0 [.nil, .nil] 0, .cells 0 [.nil, .slice 4 (1 + r.length) 0 (r.length + 1) (some 4) none] 0, .dead, .cells (1 + r.length) (cellsOf ((c :: r).map Pst.enc)) 0]⟩) := by
  have hr := L39p (P := P) pv r [c] 1 (by omega) (by simpa using h)
  have ha : appendOp (some 4) (some 4) 64 .nil (.c (.slice [c.enc])) [.cells 0 [.c pv, .c (.slice ((c :: r).map Pst.enc))] 0, .cells 0 [.nil, .nil] 0, .cells 0 [.nil, .nil] 0, .dead, .dead] = some (.slice 4 1 0 1 (some 4) none, [.cells 0 [.c pv, .c (.slice ((c :: r).map Pst.enc))] 0, .cells 0 [.nil, .nil] 0, .cells 0 [.nil, .nil] 0, .dead, .cells 1 (cellsOf [c.enc]) 0]) := rfl
  simp [Pst.enc] at hr ha
  have hw : IntKind.i64.wrap 1 = 1 := wrap64 (by omega) (by omega)
  have hlt : (0 : Int) < (r.length : Int) + 1 := by omega
  rw [r39_l1]
  simp [c39_l1b, Pst.enc, hw, hlt, ha, hr]
theorem T39q_nil (pv : CV) (go no : Nat) (O : List CV) :
    execS P (limS P) c39_l1 ⟨[.ptr 0 0 0, .ptr 1 0 0, .ptr 2 0 0, .c (ci 0)], [.cells 0 [.c pv, .c (.slice [])] 0, .cells 0 [.nil, .nil] 0, .cells 0 [.slice 4 go 0 no (some 4) none, .nil] 0, .dead, .cells go (cellsOf O) 0]⟩ = some (.exit 2, ⟨[.ptr 1 0 0, .ptr 2 0 0], [.cells 0 [.c pv, .c (.slice [])] 0, .cells 0 [.nil, .nil] 0, .cells 0 [.slice 4 go 0 no (some 4) none, .nil] 0, .dead, .cells go (cellsOf O) 0]⟩) := by
  rw [r39_l1]
  simp [c39_l1b]
theorem T39q_cons (pv : CV) (go no : Nat) (O : List CV) (c : Pst) (r : List Pst) (h : (c :: r).length * 64 ≤ 2 ^ 47) :
    execS P (limS P) c39_l1 ⟨[.ptr 0 0 0, .ptr 1 0 0, .ptr 2 0 0, .c (ci 0)], [.cells 0 [.c pv, .c (.slice ((c :: r).map Pst.enc))] 0, .cells 0 [.nil, .nil] 0, .cells 0 [.slice 4 go 0 no (some 4) none, .nil] 0, .dead, .cells go (cellsOf O) 0]⟩ = some (.exit 2, ⟨[.ptr 1 0 0, .ptr 2 0 0], [.cells 0 [.c pv, .c (.slice ((c :: r).map Pst.enc))] 0, .cells 0 [.nil, .nil] 0, .cells 0 [.slice 4 go 0 no (some 4) none, .slice 6 (1 + r.length) 0 (r.length + 1) (some 4) none] 0, .dead, .cells go (cellsOf O) 0, .dead, .cells (1 + r.length) (cellsOf ((c :: r).map Pst.enc)) 0]⟩) := by
  have hr := L39q (P := P) pv go no O r [c] 1 (by omega) (by simpa using h)
  have ha : appendOp (some 6) (some 4) 64 .nil (.c (.slice [c.enc])) [.cells 0 [.c pv, .c (.slice ((c :: r).map Pst.enc))] 0, .cells 0 [.nil, .nil] 0, .cells 0 [.slice 4 go 0 no (some 4) none, .nil] 0, .dead, .cells go (cellsOf O) 0, .dead, .dead] = some (.slice 6 1 0 1 (some 4) none, [.cells 0 [.c pv, .c (.slice ((c :: r).map Pst.enc))] 0, .cells 0 [.nil, .nil] 0, .cells 0 [.slice 4 go 0 no (some 4) none, .nil] 0, .dead, .cells go (cellsOf O) 0, .dead, .cells 1 (cellsOf [c.enc]) 0]) := rfl
  simp [Pst.enc] at hr ha
  have hw : IntKind.i64.wrap 1 = 1 := wrap64 (by omega) (by omega)
  have hlt : (0 : Int) < (r.length : Int) + 1 := by omega
  rw [r39_l1]
  simp [c39_l1b, Pst.enc, hw, hlt, ha, hr]
theorem resV_agg {a b : LV} {x y : CV} {h h1 h2 : Heap} (ha : frz 39 a h = some (x, h1)) (hb : frz 39 b h1 = some (y, h2)) : resV (some (.agg [a, b])) h = some (.agg [x, y]) := by
  unfold resV
  simp only [bnd_some, frz_agg, mapH_cons, mapH_nil, ha, hb]
theorem S39 (j : Jur) (h : j.ok) : fn P 39 [j.enc] = some j.enc := by
  have so := h.so
  have sp := h.sp
  rw [u39]
  cases ho : j.ofs with
  | nil =>
    have h1 := T39o_nil (P := P) (.slice (j.pts.map Pst.enc))
    cases hp : j.pts with
    | nil =>
      have h2 := T39p_nil (P := P) (.slice [])
      rw [hp] at h1
      simp at h1
      simp [c39, Jur.enc, ho, hp, h1, h2, resultV, resultsAll, resultOne, resV]
    | cons p r =>
      have h2 := T39p_cons (P := P) (.slice []) p r (by rw [← hp]; exact sp)
      rw [hp] at h1
      simp at h1 h2
      simp [c39, Jur.enc, ho, hp, h1, h2, resultV, resultsAll, resultOne]
      exact resV_agg rfl (frz_own39 (ys := (p :: r).map Pst.enc) rfl (Pst.elems _) (by simp) none)
  | cons o r' =>
    have h1 := T39o_cons (P := P) (.slice (j.pts.map Pst.enc)) o r' (by rw [← ho]; exact so)
    cases hp : j.pts with
    | nil =>
      have h2 := T39q_nil (P := P) (.slice ((o :: r').map Ofc.enc)) (1 + r'.length) (r'.length + 1) ((o :: r').map Ofc.enc)
      rw [hp] at h1
      simp at h1 h2
      simp [c39, Jur.enc, ho, hp, h1, h2, resultV, resultsAll, resultOne]
      exact resV_agg (frz_own39 (ys := (o :: r').map Ofc.enc) rfl (Ofc.elems _) (by simp) none) rfl
    | cons p r =>
      have h2 := T39q_cons (P := P) (.slice ((o :: r').map Ofc.enc)) (1 + r'.length) (r'.length + 1) ((o :: r').map Ofc.enc) p r (by rw [← hp]; exact sp)
      rw [hp] at h1
      simp at h1 h2
      simp [c39, Jur.enc, ho, hp, h1, h2, resultV, resultsAll, resultOne]
      exact resV_agg (frz_own39 (ys := (o :: r').map Ofc.enc) rfl (Ofc.elems _) (by simp) none) (frz_own39 (ys := (p :: r).map Pst.enc) rfl (Pst.elems _) (by simp) none)
end LM.G9
namespace LM.G9
open Go LM
variable {P : Nat → Option SFunc} [Has P]
/-- The hour of a post. -/
def hourAt (j : Jur) (k : Nat) : Int := match j.pts[k]? with
  | some p => p.hour
  | none => 0
end LM.G9
namespace LM.G9
open Go LM
variable {P : Nat → Option SFunc} [Has P]
def JB (j : Jur) : LB := .cells 0 [.c (.slice (j.ofs.map Ofc.enc)), .c (.slice (j.pts.map Pst.enc))] 0
end LM.G9
namespace LM.G9
open Go LM
variable {P : Nat → Option SFunc} [Has P]
def cI (xs : List Int) : List LV := xs.map fun v => LV.c (ci v)
theorem cellsOf_ints (xs : List Int) : cellsOf (xs.map ci) = cI xs := by
  induction xs with
  | nil => rfl
  | cons x r ih =>
    have : cellsOf ((x :: r).map ci) = .c (ci x) :: cellsOf (r.map ci) := rfl
    rw [this, ih]
    rfl
theorem intElems (l : List Int) : ∀ x ∈ l.map ci, Elem none x := by
  intro x hx
  obtain ⟨y, _, rfl⟩ := List.mem_map.1 hx
  exact ⟨rfl, rfl⟩
theorem under_cI (n : Nat) (xs : List Int) : underL n (cI xs) = true := by rw [← cellsOf_ints]; exact underL_cellsOf _ _
theorem shift_cI (n : Nat) : ∀ xs : List Int, shiftL n (cI xs) = cI xs
  | [] => rfl
  | x :: r => by
    have : cI (x :: r) = .c (ci x) :: cI r := rfl
    rw [this, shiftL, shift_cI n r]
    rfl
end LM.G9
namespace LM.G9
open Go LM
variable {P : Nat → Option SFunc} [Has P]
structure Pck where
  count : Int
  spare : Int
  key : Int
def Pck.enc (p : Pck) : CV := .agg [ci p.count, ci p.spare, ci p.key]
end LM.G9
namespace LM.G9
open Go LM
variable {P : Nat → Option SFunc} [Has P]
structure Clm where
  name : Str
  nation : Str
  born : Int
  cat : Str
def Clm.enc (x : Clm) : CV := .agg [.str x.name, .str x.nation, ci x.born, .str x.cat]
def Clm.ptr (x : Clm) : CV := .ptr [.str x.name, .str x.nation, ci x.born, .str x.cat] 0
def Clm.ok (x : Clm) : Prop := x.name.length < 9223372036854775807 ∧ x.nation.length < 9223372036854775807 ∧ x.cat.length < 9223372036854775807
def Clm.is (n : Str) (x : Clm) : Bool := x.name == n
end LM.G9
namespace LM.G9
open Go LM
variable {P : Nat → Option SFunc} [Has P]
structure Tst where
  name : Str
  day : Int
def Tst.enc (x : Tst) : CV := .agg [.str x.name, ci x.day]
def Tst.ptr (x : Tst) : CV := .ptr [.str x.name, ci x.day] 0
def Tst.ok (x : Tst) : Prop := x.name.length < 9223372036854775807
theorem Tst.elem (x : Tst) : Elem (some 2) x.enc := ⟨_, rfl, rfl, by simp⟩
theorem Tst.elems (l : List Tst) : ∀ x ∈ l.map Tst.enc, Elem (some 2) x := by
  intro x hx
  obtain ⟨y, _, rfl⟩ := List.mem_map.1 hx
  exact y.elem
end LM.G9
namespace LM.G9
open Go LM
variable {P : Nat → Option SFunc} [Has P]
def Tst.short (x : Tst) : Bool := decide (x.name.length ≤ 40)
end LM.G9
namespace LM.G9
open Go LM
variable {P : Nat → Option SFunc} [Has P]
theorem frzFuncs_nil (h : Heap) : frzFuncs [] h = some ([], h) := by rw [frzFuncs]
theorem frzFuncs_c (v : CV) (l : List LV) (h : Heap) : frzFuncs (.c v :: l) h = bnd (frzFuncs l h) fun a => some (.c v :: a.1, a.2) := by
  rw [frzFuncs]
  rcases frzFuncs l h with _ | ⟨x, y⟩ <;> rfl
  all_goals simp
theorem frzFuncs_slice (b g o n : Nat) (e c : Option Nat) (l : List LV) (h : Heap) : frzFuncs (.slice b g o n e c :: l) h = bnd (frzFuncs l h) fun a => some (.slice b g o n e c :: a.1, a.2) := by
  rw [frzFuncs]
  rcases frzFuncs l h with _ | ⟨x, y⟩ <;> rfl
  all_goals simp
variable {F : CV} {key : Str → Int} {H : Heap} {b g : Nat}
end LM.G9
namespace LM.G9
/-- Posts, officials, who serves where, hours, loads. -/
structure Jy where
  m : Nat
  n : Nat
  sv : Nat → Nat → Bool
  hr : Nat → Int
  ld : Nat → Int
structure Fs where
  pl : Nat → Option Nat
  has : Nat → Int
  tried : Nat → Bool
  slots : List (Nat × Int)
  offs : Nat → Bool
def up {α : Type} (f : Nat → α) (k : Nat) (v : α) : Nat → α := fun x => if x = k then v else f x
theorem up_same {α : Type} (f : Nat → α) (k : Nat) (v : α) : up f k v k = v := if_pos rfl
theorem up_ne {α : Type} {f : Nat → α} {k : Nat} {v : α} {x : Nat} (h : x ≠ k) : up f k v x = f x := if_neg h
def putS (l : List (Nat × Int)) (x : Nat × Int) : List (Nat × Int) := if x ∈ l then l else l ++ [x]
theorem putS_mem {l : List (Nat × Int)} {x y : Nat × Int} : y ∈ putS l x ↔ y ∈ l ∨ y = x := by
  unfold putS
  split
  · rename_i h
    constructor
    · exact .inl
    · rintro (h1 | rfl)
      · exact h1
      · exact h
  · simp
/-- The post that has an official at an hour. -/
def holdF (J : Jy) (pl : Nat → Option Nat) (i : Nat) (h : Int) : Option Nat := (List.range J.m).find? fun p => decide (J.hr p = h) && decide (pl p = some i)
/-- Room for one more post. -/
def freeL (J : Jy) (rec : Nat → Fs → Bool × Fs) (i : Nat) : List Nat → Fs → Bool × Fs
  | [], s => (false, s)
  | p :: ps, s => if s.pl p ≠ some i then freeL J rec i ps s else
      if (rec p { s with slots := putS s.slots (i, J.hr p) }).1 = true then (true, { (rec p { s with slots := putS s.slots (i, J.hr p) }).2 with has := up (rec p { s with slots := putS s.slots (i, J.hr p) }).2.has i ((rec p { s with slots := putS s.slots (i, J.hr p) }).2.has i - 1) })
      else freeL J rec i ps (rec p { s with slots := putS s.slots (i, J.hr p) }).2
def freeF (J : Jy) (rec : Nat → Fs → Bool × Fs) (i : Nat) (s : Fs) : Bool × Fs :=
  if s.has i < J.ld i then (true, s) else if s.offs i = true then (false, s) else freeL J rec i (List.range J.m) { s with offs := up s.offs i true }
/-- The officials for a post, one after another. -/
def tryL (J : Jy) (rec : Nat → Fs → Bool × Fs) (p : Nat) : List Nat → Fs → Bool × Fs
  | [], s => (false, s)
  | i :: is, s => if J.sv i p = false ∨ (i, J.hr p) ∈ s.slots then tryL J rec p is s else
      match holdF J s.pl i (J.hr p) with
      | some o => if (rec o { s with slots := putS s.slots (i, J.hr p) }).1 = true then (true, { (rec o { s with slots := putS s.slots (i, J.hr p) }).2 with pl := up (rec o { s with slots := putS s.slots (i, J.hr p) }).2.pl p (some i) })
          else tryL J rec p is (rec o { s with slots := putS s.slots (i, J.hr p) }).2
      | none => if (freeF J rec i { s with slots := putS s.slots (i, J.hr p) }).1 = true then (true, { (freeF J rec i { s with slots := putS s.slots (i, J.hr p) }).2 with pl := up (freeF J rec i { s with slots := putS s.slots (i, J.hr p) }).2.pl p (some i), has := up (freeF J rec i { s with slots := putS s.slots (i, J.hr p) }).2.has i ((freeF J rec i { s with slots := putS s.slots (i, J.hr p) }).2.has i + 1) })
          else tryL J rec p is (freeF J rec i { s with slots := putS s.slots (i, J.hr p) }).2
def placeF (J : Jy) : Nat → Nat → Fs → Bool × Fs
  | 0, _, s => (false, s)
  | f + 1, p, s => if s.tried p = true then (false, s) else tryL J (placeF J f) p (List.range J.n) { s with tried := up s.tried p true }
def cntA (J : Jy) (B : Nat → Option Nat) (i : Nat) : Nat := (List.range J.m).countP fun p => decide (B p = some i)
def Apart (J : Jy) (B : Nat → Option Nat) : Prop := ∀ p q, p < J.m → q < J.m → p ≠ q → ∀ i, B p = some i → B q = some i → J.hr p ≠ J.hr q
def Fit (J : Jy) (B : Nat → Option Nat) : Prop := ∀ p, p < J.m → ∀ i, B p = some i → i < J.n ∧ J.sv i p = true
structure Inv (J : Jy) (s : Fs) : Prop where
  fit : Fit J s.pl
  apart : Apart J s.pl
  cnt : ∀ i, i < J.n → s.has i = (cntA J s.pl i : Int)
  ld : ∀ i, i < J.n → s.has i ≤ J.ld i
/-- What a search in vain leaves. -/
structure Vain (J : Jy) (s t : Fs) : Prop where
  pl : t.pl = s.pl
  has : t.has = s.has
  tried : ∀ p, s.tried p = true → t.tried p = true
  slots : ∀ x, x ∈ s.slots → x ∈ t.slots
  offs : ∀ i, s.offs i = true → t.offs i = true
  q : ∀ p, p < J.m → t.tried p = true → s.tried p = false → ∀ i, i < J.n → J.sv i p = true → (i, J.hr p) ∈ t.slots
  sl : ∀ i h, (i, h) ∈ t.slots → (i, h) ∉ s.slots → (∃ p, p < J.m ∧ t.pl p = some i ∧ J.hr p = h ∧ t.tried p = true) ∨ (t.offs i = true ∧ J.ld i ≤ t.has i)
  of : ∀ i, t.offs i = true → s.offs i = false → J.ld i ≤ t.has i ∧ ∀ p, p < J.m → t.pl p = some i → t.tried p = true
theorem Vain.rfl' {J : Jy} (s : Fs) : Vain J s s :=
  ⟨rfl, rfl, fun _ h => h, fun _ h => h, fun _ h => h, fun p _ h1 h2 => absurd (h1.symm.trans h2) (by decide), fun i h h1 h2 => absurd h1 h2, fun i h1 h2 => absurd (h1.symm.trans h2) (by decide)⟩
theorem Vain.trans {J : Jy} {s t u : Fs} (h1 : Vain J s t) (h2 : Vain J t u) : Vain J s u := by
  refine ⟨h2.pl.trans h1.pl, h2.has.trans h1.has, fun p h => h2.tried p (h1.tried p h), fun x h => h2.slots x (h1.slots x h), fun i h => h2.offs i (h1.offs i h), ?_, ?_, ?_⟩
  · intro p hp hu hs i hi hv
    cases ht : t.tried p
    · exact h2.q p hp hu ht i hi hv
    · exact h2.slots _ (h1.q p hp ht hs i hi hv)
  · intro i h hu hs
    by_cases ht : (i, h) ∈ t.slots
    · rcases h1.sl i h ht hs with ⟨p, hp, e1, e2, e3⟩ | ⟨e1, e2⟩
      · exact .inl ⟨p, hp, by rw [h2.pl]; exact e1, e2, h2.tried p e3⟩
      · exact .inr ⟨h2.offs i e1, by rw [h2.has]; exact e2⟩
    · exact h2.sl i h hu ht
  · intro i hu hs
    cases ht : t.offs i
    · exact h2.of i hu ht
    · obtain ⟨e1, e2⟩ := h1.of i ht hs
      exact ⟨by rw [h2.has]; exact e1, fun p hp e => h2.tried p (e2 p hp (by rw [← h2.pl]; exact e))⟩
/-- What a search that finds a way leaves. -/
structure Found (J : Jy) (s t : Fs) : Prop where
  fit : ∀ p, p < J.m → t.pl p ≠ s.pl p → ∃ i, t.pl p = some i ∧ i < J.n ∧ J.sv i p = true ∧ (i, J.hr p) ∉ s.slots
  apart : Apart J t.pl
  ld : ∀ i, i < J.n → t.has i ≤ J.ld i
  keep : ∀ p, p < J.m → s.pl p ≠ none → t.pl p ≠ none
structure Placed (J : Jy) (q : Nat) (s t : Fs) : Prop extends Found J s t where
  old : ∀ p, p ≠ q → s.tried p = true → t.pl p = s.pl p
  zero : ∀ p, p ≠ q → s.pl p = none → t.pl p = none
  new : ∃ i, t.pl q = some i ∧ i < J.n ∧ J.sv i q = true ∧ (i, J.hr q) ∉ s.slots
  cnt : ∀ i, i < J.n → t.has i = (cntA J t.pl i : Int) + if s.pl q = some i then 1 else 0
structure Freed (J : Jy) (i : Nat) (s t : Fs) : Prop extends Found J s t where
  old : ∀ p, s.tried p = true → t.pl p = s.pl p
  zero : ∀ p, s.pl p = none → t.pl p = none
  cnt : ∀ k, k < J.n → t.has k = (cntA J t.pl k : Int)
  room : t.has i < J.ld i
def untried (J : Jy) (s : Fs) : Nat := (List.range J.m).countP fun p => !s.tried p
/-- A post's own slot is known. -/
def Own (J : Jy) (s : Fs) (p : Nat) : Prop := ∀ i, s.pl p = some i → (i, J.hr p) ∈ s.slots
def GoodR (J : Jy) (rec : Nat → Fs → Bool × Fs) (k : Nat) : Prop := ∀ p s, p < J.m → Inv J s → Own J s p → untried J s ≤ k →
  ((rec p s).1 = false → Vain J s (rec p s).2 ∧ (rec p s).2.tried p = true) ∧ ((rec p s).1 = true → s.tried p = false ∧ Placed J p s (rec p s).2)
theorem cnt_up {J : Jy} {B : Nat → Option Nat} {p : Nat} (hp : p < J.m) (i j : Nat) : (cntA J (up B p (some i)) j : Int) = cntA J B j - (if B p = some j then 1 else 0) + (if i = j then 1 else 0) := by
  have key : ∀ l : List Nat, l.Nodup → ((l.countP fun q => decide (up B p (some i) q = some j) : Nat) : Int) = (l.countP fun q => decide (B q = some j) : Nat) + if p ∈ l then (if i = j then 1 else 0) - (if B p = some j then 1 else 0) else 0 := by
    intro l
    induction l with
    | nil => intro _; simp
    | cons a l ih =>
      intro hd
      rw [List.nodup_cons] at hd
      have ih := ih hd.2
      rw [List.countP_cons, List.countP_cons]
      by_cases ha : a = p
      · subst ha
        rw [if_neg hd.1] at ih
        rw [up_same]
        simp only [List.mem_cons, true_or, if_true]
        by_cases h1 : i = j <;> by_cases h2 : B a = some j <;> simp [h1, h2] at * <;> omega
      · rw [up_ne ha]
        have : (p ∈ a :: l) ↔ p ∈ l := by simp [Ne.symm ha]
        simp only [this]
        by_cases h2 : B a = some j <;> simp [h2] <;> omega
  have := key (List.range J.m) List.nodup_range
  rw [if_pos (List.mem_range.2 hp)] at this
  unfold cntA
  omega
theorem hold_some {J : Jy} {pl : Nat → Option Nat} {i : Nat} {h : Int} {o : Nat} (e : holdF J pl i h = some o) : o < J.m ∧ J.hr o = h ∧ pl o = some i := by
  unfold holdF at e
  have h1 := List.mem_of_find?_eq_some e
  have h2 := List.find?_some e
  simp at h1 h2
  exact ⟨h1, h2.1, h2.2⟩
theorem hold_none {J : Jy} {pl : Nat → Option Nat} {i : Nat} {h : Int} (e : holdF J pl i h = none) : ∀ p, p < J.m → J.hr p = h → pl p ≠ some i := by
  unfold holdF at e
  rw [List.find?_eq_none] at e
  intro p hp h1 h2
  exact e p (List.mem_range.2 hp) (by simp [h1, h2])
end LM.G9
namespace LM.G9
variable {J : Jy} {rec : Nat → Fs → Bool × Fs} {k : Nat}
theorem Inv.same {s t : Fs} (h : Inv J s) (h1 : t.pl = s.pl) (h2 : t.has = s.has) : Inv J t := by
  refine ⟨?_, ?_, ?_, ?_⟩
  · rw [h1]; exact h.fit
  · rw [h1]; exact h.apart
  · rw [h1, h2]; exact h.cnt
  · rw [h2]; exact h.ld
theorem untried_le {s t : Fs} (h : ∀ p, s.tried p = true → t.tried p = true) : untried J t ≤ untried J s := by
  refine List.countP_mono_left fun p _ hp => ?_
  cases hs : s.tried p
  · rfl
  · rw [h p hs] at hp; cases hp
theorem untried_up {s : Fs} {p : Nat} (hp : p < J.m) (hs : s.tried p = false) : untried J { s with tried := up s.tried p true } + 1 = untried J s := by
  have key : ∀ l : List Nat, l.Nodup → (l.countP fun q => !up s.tried p true q) + (if p ∈ l then 1 else 0) = l.countP fun q => !s.tried q := by
    intro l
    induction l with
    | nil => intro _; rfl
    | cons a l ih =>
      intro hd
      rw [List.nodup_cons] at hd
      have ih := ih hd.2
      rw [List.countP_cons, List.countP_cons]
      by_cases ha : a = p
      · subst ha
        rw [if_neg hd.1] at ih
        rw [up_same, hs]
        simp
        omega
      · rw [up_ne ha]
        have : (p ∈ a :: l) ↔ p ∈ l := by simp [Ne.symm ha]
        simp only [this]
        omega
  have := key (List.range J.m) List.nodup_range
  rw [if_pos (List.mem_range.2 hp)] at this
  exact this
theorem Vain.add {s t : Fs} {i : Nat} {h : Int} (hv : Vain J { s with slots := putS s.slots (i, h) } t) (hc : (∃ p, p < J.m ∧ t.pl p = some i ∧ J.hr p = h ∧ t.tried p = true) ∨ (t.offs i = true ∧ J.ld i ≤ t.has i)) : Vain J s t := by
  refine ⟨hv.pl, hv.has, hv.tried, fun x hx => hv.slots x (putS_mem.2 (.inl hx)), hv.offs, hv.q, ?_, hv.of⟩
  intro i' h' ht hs
  by_cases e : (i', h') = (i, h)
  · cases e
    exact hc
  · exact hv.sl i' h' ht (fun hm => (putS_mem.1 hm).elim hs e)
theorem freeL_good (hrec : GoodR J rec k) {i : Nat} (hi : i < J.n) : ∀ (ps : List Nat) (s : Fs), (∀ p ∈ ps, p < J.m) → Inv J s → untried J s ≤ k → J.ld i ≤ s.has i → s.offs i = true →
    ((freeL J rec i ps s).1 = false → Vain J s (freeL J rec i ps s).2 ∧ ∀ p ∈ ps, s.pl p = some i → (freeL J rec i ps s).2.tried p = true) ∧ ((freeL J rec i ps s).1 = true → Freed J i s (freeL J rec i ps s).2) := by
  intro ps
  induction ps with
  | nil => intro s _ _ _ _ _; exact ⟨fun _ => ⟨Vain.rfl' s, fun p hp => by cases hp⟩, fun h => by cases h⟩
  | cons p ps ih =>
    intro s hps hI hk hld ho
    rw [freeL]
    by_cases hp : s.pl p ≠ some i
    · rw [if_pos hp]
      obtain ⟨h1, h2⟩ := ih s (fun q hq => hps q (by simp [hq])) hI hk hld ho
      refine ⟨fun h => ⟨(h1 h).1, fun q hq e => ?_⟩, h2⟩
      rcases List.mem_cons.1 hq with rfl | hq
      · exact absurd e hp
      · exact (h1 h).2 q hq e
    · rw [if_neg hp]
      have hp : s.pl p = some i := Classical.not_not.1 hp
      have hpm := hps p (by simp)
      obtain ⟨g1, g2⟩ := hrec p { s with slots := putS s.slots (i, J.hr p) } hpm (hI.same rfl rfl) (fun j hj => putS_mem.2 (.inr (by have : some i = some j := hp.symm.trans hj; cases this; rfl))) hk
      generalize rec p { s with slots := putS s.slots (i, J.hr p) } = r at *
      cases hr : r.1
      · rw [if_neg (by simp)]
        obtain ⟨v1, v2⟩ := g1 hr
        have v3 := v1.add (.inl ⟨p, hpm, by rw [v1.pl]; exact hp, rfl, v2⟩)
        obtain ⟨h1, h2⟩ := ih r.2 (fun q hq => hps q (by simp [hq])) (hI.same v1.pl v1.has) (Nat.le_trans (untried_le v3.tried) hk) (by rw [v1.has]; exact hld) (v1.offs i ho)
        constructor
        · intro h
          obtain ⟨w1, w2⟩ := h1 h
          refine ⟨v3.trans w1, fun q hq e => ?_⟩
          rcases List.mem_cons.1 hq with rfl | hq
          · exact w1.tried q v2
          · exact w2 q hq (by rw [v1.pl]; exact e)
        · intro h
          have w := h2 h
          refine ⟨⟨?_, w.apart, w.ld, ?_⟩, ?_, fun q hq => w.zero q (by rw [v1.pl]; exact hq), w.cnt, w.room⟩
          · intro q hq hne
            obtain ⟨j, a1, a2, a3, a4⟩ := w.fit q hq (by rw [v1.pl]; exact hne)
            exact ⟨j, a1, a2, a3, fun hm => a4 (v3.slots _ hm)⟩
          · intro q hq hne
            exact w.keep q hq (by rw [v1.pl]; exact hne)
          · intro q hq
            rw [w.old q (v3.tried q hq), v1.pl]
      · rw [if_pos rfl]
        obtain ⟨u, w⟩ := g2 hr
        refine ⟨fun h => (nomatch h), fun _ => ?_⟩
        refine ⟨⟨?_, w.apart, ?_, w.keep⟩, ?_, fun q hq => w.zero q (fun e => by subst e; have := hp.symm.trans hq; cases this) hq, ?_, ?_⟩
        · intro q hq hne
          obtain ⟨j, a1, a2, a3, a4⟩ := w.fit q hq hne
          exact ⟨j, a1, a2, a3, fun hm => a4 (putS_mem.2 (.inl hm))⟩
        · intro j hj
          have := w.ld j hj
          simp only [up]
          split
          · rename_i e; subst e; omega
          · exact this
        · intro q hq
          refine w.old q ?_ hq
          rintro rfl
          have u : s.tried q = false := u
          rw [u] at hq
          cases hq
        · intro j hj
          have := w.cnt j hj
          simp only [hp] at this
          simp only [up]
          split
          · rename_i e; subst e; simp at this; omega
          · rename_i e
            rw [if_neg (fun h => e (by cases h; rfl))] at this
            omega
        · have := w.ld i hi
          simp only [up_same]
          omega
theorem freeF_good (hrec : GoodR J rec k) {i : Nat} (hi : i < J.n) (s : Fs) (hI : Inv J s) (hk : untried J s ≤ k) :
    ((freeF J rec i s).1 = false → Vain J s (freeF J rec i s).2 ∧ (freeF J rec i s).2.offs i = true ∧ J.ld i ≤ (freeF J rec i s).2.has i) ∧ ((freeF J rec i s).1 = true → Freed J i s (freeF J rec i s).2) := by
  unfold freeF
  by_cases h1 : s.has i < J.ld i
  · rw [if_pos h1]
    refine ⟨fun h => (nomatch h), fun _ => ⟨⟨fun p _ hne => absurd rfl hne, hI.apart, hI.ld, fun p _ h => h⟩, fun p _ => rfl, fun p h => h, hI.cnt, h1⟩⟩
  · rw [if_neg h1]
    by_cases h2 : s.offs i = true
    · rw [if_pos h2]
      exact ⟨fun _ => ⟨Vain.rfl' s, h2, Int.not_lt.1 h1⟩, fun h => by cases h⟩
    · rw [if_neg h2]
      obtain ⟨g1, g2⟩ := freeL_good hrec hi (List.range J.m) { s with offs := up s.offs i true } (fun p hp => List.mem_range.1 hp) (hI.same rfl rfl) hk (Int.not_lt.1 h1) (up_same _ _ _)
      generalize freeL J rec i (List.range J.m) { s with offs := up s.offs i true } = r at *
      constructor
      · intro h
        obtain ⟨v, w⟩ := g1 h
        have ho : r.2.offs i = true := v.offs i (up_same _ _ _)
        have hl : J.ld i ≤ r.2.has i := by rw [v.has]; exact Int.not_lt.1 h1
        refine ⟨⟨v.pl, v.has, v.tried, v.slots, fun j hj => v.offs j ?_, v.q, v.sl, ?_⟩, ho, hl⟩
        · simp only [up]; split
          · rfl
          · exact hj
        · intro j hj hs
          by_cases e : j = i
          · subst e
            exact ⟨hl, fun p hp e => w p (List.mem_range.2 hp) (by rw [v.pl] at e; exact e)⟩
          · exact v.of j hj (by simp only [up_ne e]; exact hs)
      · intro h
        have w := g2 h
        exact ⟨⟨w.fit, w.apart, w.ld, w.keep⟩, w.old, w.zero, w.cnt, w.room⟩
theorem tryL_good (hrec : GoodR J rec k) {p : Nat} (hp : p < J.m) : ∀ (is : List Nat) (s : Fs), (∀ i ∈ is, i < J.n) → Inv J s → Own J s p → s.tried p = true → untried J s ≤ k →
    ((tryL J rec p is s).1 = false → Vain J s (tryL J rec p is s).2 ∧ ∀ i ∈ is, J.sv i p = true → (i, J.hr p) ∈ (tryL J rec p is s).2.slots) ∧ ((tryL J rec p is s).1 = true → Placed J p s (tryL J rec p is s).2) := by
  intro is
  induction is with
  | nil => intro s _ _ _ _ _; exact ⟨fun _ => ⟨Vain.rfl' s, fun p hp => by cases hp⟩, fun h => by cases h⟩
  | cons i is ih =>
    intro s his hI hO ht hk
    have hi := his i (by simp)
    rw [tryL]
    by_cases hc : J.sv i p = false ∨ (i, J.hr p) ∈ s.slots
    · rw [if_pos hc]
      obtain ⟨h1, h2⟩ := ih s (fun q hq => his q (by simp [hq])) hI hO ht hk
      refine ⟨fun h => ⟨(h1 h).1, fun j hj e => ?_⟩, h2⟩
      rcases List.mem_cons.1 hj with rfl | hj
      · rcases hc with hc | hc
        · rw [hc] at e; cases e
        · exact (h1 h).1.slots _ hc
      · exact (h1 h).2 j hj e
    · rw [if_neg hc]
      obtain ⟨hsv, hsl⟩ := not_or.1 hc
      have hsv : J.sv i p = true := by simpa using hsv
      have hpi : s.pl p ≠ some i := fun e => hsl (hO i e)
      -- after a search in vain
      have vain : ∀ t : Fs, Vain J s t → (i, J.hr p) ∈ t.slots → ((tryL J rec p is t).1 = false → Vain J s (tryL J rec p is t).2 ∧ ∀ j ∈ i :: is, J.sv j p = true → (j, J.hr p) ∈ (tryL J rec p is t).2.slots) ∧ ((tryL J rec p is t).1 = true → Placed J p s (tryL J rec p is t).2) := by
        intro t v hm
        obtain ⟨h1, h2⟩ := ih t (fun q hq => his q (by simp [hq])) (hI.same v.pl v.has) (fun j hj => v.slots _ (hO j (by rw [← v.pl]; exact hj))) (v.tried p ht) (Nat.le_trans (untried_le v.tried) hk)
        constructor
        · intro h
          obtain ⟨w1, w2⟩ := h1 h
          refine ⟨v.trans w1, fun j hj e => ?_⟩
          rcases List.mem_cons.1 hj with rfl | hj
          · exact w1.slots _ hm
          · exact w2 j hj e
        · intro h
          have w := h2 h
          refine ⟨⟨?_, w.apart, w.ld, ?_⟩, ?_, fun q hq h0 => w.zero q hq (by rw [v.pl]; exact h0), ?_, ?_⟩
          · intro q hq hne
            obtain ⟨j, a1, a2, a3, a4⟩ := w.fit q hq (by rw [v.pl]; exact hne)
            exact ⟨j, a1, a2, a3, fun hm => a4 (v.slots _ hm)⟩
          · intro q hq hne
            exact w.keep q hq (by rw [v.pl]; exact hne)
          · intro q hq htq
            rw [w.old q hq (v.tried q htq), v.pl]
          · obtain ⟨j, a1, a2, a3, a4⟩ := w.new
            exact ⟨j, a1, a2, a3, fun hm => a4 (v.slots _ hm)⟩
          · intro j hj
            have := w.cnt j hj
            rw [v.pl] at this
            exact this
      split
      · rename_i o ho
        obtain ⟨o1, o2, o3⟩ := hold_some ho
        have hop : o ≠ p := by
          rintro rfl
          exact hpi o3
        obtain ⟨g1, g2⟩ := hrec o { s with slots := putS s.slots (i, J.hr p) } o1 (hI.same rfl rfl) (fun j hj => putS_mem.2 (.inr (by have : some i = some j := o3.symm.trans hj; cases this; rw [o2]))) hk
        generalize rec o { s with slots := putS s.slots (i, J.hr p) } = r at *
        cases hr : r.1
        · rw [if_neg (by simp)]
          obtain ⟨v1, v2⟩ := g1 hr
          exact vain r.2 (v1.add (.inl ⟨o, o1, by rw [v1.pl]; exact o3, o2, v2⟩)) (v1.slots _ (putS_mem.2 (.inr rfl)))
        · rw [if_pos rfl]
          obtain ⟨u, w⟩ := g2 hr
          refine ⟨fun h => (nomatch h), fun _ => ?_⟩
          have hpp : r.2.pl p = s.pl p := w.old p (Ne.symm hop) ht
          have hno : ∀ q, q < J.m → q ≠ p → r.2.pl q = some i → J.hr q ≠ J.hr p := by
            intro q hq hqp e eh
            by_cases hc2 : r.2.pl q = s.pl q
            · have hqo : q = o := by
                apply Classical.byContradiction
                intro hne
                exact hI.apart q o hq o1 hne i (by rw [← hc2]; exact e) o3 (by rw [eh, o2])
              subst hqo
              obtain ⟨j, a1, _, _, a4⟩ := w.new
              rw [e] at a1
              cases a1
              exact a4 (putS_mem.2 (.inr (by rw [o2])))
            · obtain ⟨j, a1, _, _, a4⟩ := w.fit q hq hc2
              rw [e] at a1
              cases a1
              exact a4 (putS_mem.2 (.inr (by rw [eh])))
          refine ⟨⟨?_, ?_, w.ld, ?_⟩, ?_, fun q hq h0 => by simp only [up_ne hq]; exact w.zero q (fun e => by subst e; have := o3.symm.trans h0; cases this) h0, ?_, ?_⟩
          · intro q hq hne
            by_cases e : q = p
            · subst e
              exact ⟨i, up_same _ _ _, hi, hsv, hsl⟩
            · simp only [up_ne e] at hne ⊢
              obtain ⟨j, a1, a2, a3, a4⟩ := w.fit q hq hne
              exact ⟨j, a1, a2, a3, fun hm => a4 (putS_mem.2 (.inl hm))⟩
          · intro q1 q2 h1 h2 hne j e1 e2
            simp only [up] at e1 e2
            by_cases c1 : q1 = p
            · rw [if_pos c1] at e1
              have c2 : q2 ≠ p := fun e => hne (c1.trans e.symm)
              rw [if_neg c2] at e2
              cases e1
              rw [c1]
              exact fun e => hno q2 h2 c2 e2 e.symm
            · rw [if_neg c1] at e1
              by_cases c2 : q2 = p
              · rw [if_pos c2] at e2
                cases e2
                rw [c2]
                exact hno q1 h1 c1 e1
              · rw [if_neg c2] at e2
                exact w.apart q1 q2 h1 h2 hne j e1 e2
          · intro q hq hne
            simp only [up]
            split
            · simp
            · exact w.keep q hq hne
          · intro q hq htq
            simp only [up_ne hq]
            by_cases e : q = o
            · subst e
              have u : s.tried q = false := u
              rw [u] at htq
              cases htq
            · exact w.old q e htq
          · exact ⟨i, up_same _ _ _, hi, hsv, hsl⟩
          · intro j hj
            have a := w.cnt j hj
            have b := cnt_up (J := J) (B := r.2.pl) hp i j
            rw [hpp] at b
            simp only [o3] at a
            simp only
            rw [b, a]
            have : (some i = some j) = (i = j) := by simp
            simp only [this]
            omega
      · rename_i ho
        have hno0 := hold_none ho
        obtain ⟨g1, g2⟩ := freeF_good hrec hi { s with slots := putS s.slots (i, J.hr p) } (hI.same rfl rfl) hk
        generalize freeF J rec i { s with slots := putS s.slots (i, J.hr p) } = r at *
        cases hr : r.1
        · rw [if_neg (by simp)]
          obtain ⟨v1, v2, v3⟩ := g1 hr
          exact vain r.2 (v1.add (.inr ⟨v2, v3⟩)) (v1.slots _ (putS_mem.2 (.inr rfl)))
        · rw [if_pos rfl]
          have w := g2 hr
          refine ⟨fun h => (nomatch h), fun _ => ?_⟩
          have hpp : r.2.pl p = s.pl p := w.old p ht
          have hno : ∀ q, q < J.m → q ≠ p → r.2.pl q = some i → J.hr q ≠ J.hr p := by
            intro q hq hqp e eh
            by_cases hc2 : r.2.pl q = s.pl q
            · exact hno0 q hq eh (by rw [← hc2]; exact e)
            · obtain ⟨j, a1, _, _, a4⟩ := w.fit q hq hc2
              rw [e] at a1
              cases a1
              exact a4 (putS_mem.2 (.inr (by rw [eh])))
          refine ⟨⟨?_, ?_, ?_, ?_⟩, ?_, fun q hq h0 => by simp only [up_ne hq]; exact w.zero q h0, ?_, ?_⟩
          · intro q hq hne
            by_cases e : q = p
            · subst e
              exact ⟨i, up_same _ _ _, hi, hsv, hsl⟩
            · simp only [up_ne e] at hne ⊢
              obtain ⟨j, a1, a2, a3, a4⟩ := w.fit q hq hne
              exact ⟨j, a1, a2, a3, fun hm => a4 (putS_mem.2 (.inl hm))⟩
          · intro q1 q2 h1 h2 hne j e1 e2
            simp only [up] at e1 e2
            by_cases c1 : q1 = p
            · rw [if_pos c1] at e1
              have c2 : q2 ≠ p := fun e => hne (c1.trans e.symm)
              rw [if_neg c2] at e2
              cases e1
              rw [c1]
              exact fun e => hno q2 h2 c2 e2 e.symm
            · rw [if_neg c1] at e1
              by_cases c2 : q2 = p
              · rw [if_pos c2] at e2
                cases e2
                rw [c2]
                exact hno q1 h1 c1 e1
              · rw [if_neg c2] at e2
                exact w.apart q1 q2 h1 h2 hne j e1 e2
          · intro j hj
            have := w.ld j hj
            have hroom := w.room
            simp only [up]
            split
            · rename_i e; subst e; omega
            · exact this
          · intro q hq hne
            simp only [up]
            split
            · simp
            · exact w.keep q hq hne
          · intro q hq htq
            simp only [up_ne hq]
            exact w.old q htq
          · exact ⟨i, up_same _ _ _, hi, hsv, hsl⟩
          · intro j hj
            have a := w.cnt j hj
            have b := cnt_up (J := J) (B := r.2.pl) hp i j
            rw [hpp] at b
            simp only
            rw [b]
            by_cases e : j = i
            · subst e
              rw [up_same, a]
              simp
              omega
            · rw [up_ne e, a]
              have : ¬ i = j := fun h => e h.symm
              simp only [this, if_false]
              omega
theorem placeF_good : ∀ f : Nat, GoodR J (placeF J (f + 1)) f := by
  intro f
  induction f with
  | zero =>
    intro p s hp hI hO hk
    have hs : s.tried p = true := by
      cases h : s.tried p
      · have := untried_up (J := J) hp h
        omega
      · rfl
    rw [placeF, if_pos hs]
    exact ⟨fun _ => ⟨Vain.rfl' s, hs⟩, fun h => by cases h⟩
  | succ f ih =>
    intro p s hp hI hO hk
    rw [placeF]
    by_cases hs : s.tried p = true
    · rw [if_pos hs]
      exact ⟨fun _ => ⟨Vain.rfl' s, hs⟩, fun h => by cases h⟩
    · rw [if_neg hs]
      have hs : s.tried p = false := by simpa using hs
      have hu := untried_up (J := J) hp hs
      obtain ⟨g1, g2⟩ := tryL_good ih hp (List.range J.n) { s with tried := up s.tried p true } (fun i hi => List.mem_range.1 hi) (hI.same rfl rfl) hO (up_same _ _ _) (by omega)
      generalize tryL J (placeF J (f + 1)) p (List.range J.n) { s with tried := up s.tried p true } = r at *
      have ht : ∀ q, s.tried q = true → up s.tried p true q = true := by
        intro q hq
        simp only [up]
        split
        · rfl
        · exact hq
      constructor
      · intro h
        obtain ⟨v, w⟩ := g1 h
        refine ⟨⟨v.pl, v.has, fun q hq => v.tried q (ht q hq), v.slots, v.offs, ?_, v.sl, v.of⟩, v.tried p (up_same _ _ _)⟩
        intro q hq h1 h2 i hi hv
        by_cases e : q = p
        · subst e
          exact w i (List.mem_range.2 hi) hv
        · exact v.q q hq h1 (by simp only [up_ne e]; exact h2) i hi hv
      · intro h
        have w := g2 h
        exact ⟨hs, ⟨w.fit, w.apart, w.ld, w.keep⟩, fun q hq htq => w.old q hq (ht q htq), w.zero, w.new, w.cnt⟩
end LM.G9
namespace LM.G9
variable {J : Jy}
structure Valid (J : Jy) (B : Nat → Option Nat) : Prop where
  fit : Fit J B
  apart : Apart J B
  ld : ∀ i, i < J.n → (cntA J B i : Int) ≤ J.ld i
theorem Inv.valid {s : Fs} (h : Inv J s) : Valid J s.pl := ⟨h.fit, h.apart, fun i hi => by have := h.cnt i hi; have := h.ld i hi; omega⟩
theorem Placed.fits {p : Nat} {s t : Fs} (hI : Inv J s) (h : Placed J p s t) : Fit J t.pl := by
  intro q hq i hi
  by_cases e : t.pl q = s.pl q
  · exact hI.fit q hq i (by rw [← e]; exact hi)
  · obtain ⟨j, a1, a2, a3, _⟩ := h.fit q hq e
    rw [hi] at a1
    cases a1
    exact ⟨a2, a3⟩
theorem Placed.valid {p : Nat} {s t : Fs} (hI : Inv J s) (h : Placed J p s t) : Valid J t.pl := by
  refine ⟨h.fits hI, h.apart, fun i hi => ?_⟩
  have h1 := h.cnt i hi
  have h2 := h.ld i hi
  split at h1 <;> omega
theorem Placed.inv {p : Nat} {s t : Fs} (hI : Inv J s) (h0 : s.pl p = none) (h : Placed J p s t) : Inv J t := by
  refine ⟨h.fits hI, h.apart, fun i hi => ?_, h.ld⟩
  have h1 := h.cnt i hi
  rw [h0] at h1
  simpa using h1
theorem nodup_sub_len {α : Type} [DecidableEq α] : ∀ (A B : List α), A.Nodup → (∀ x ∈ A, x ∈ B) → A.length ≤ B.length
  | [], _, _, _ => Nat.zero_le _
  | a :: A, B, hd, hs => by
    rw [List.nodup_cons] at hd
    have ha := hs a (by simp)
    have ih := nodup_sub_len A (B.erase a) hd.2 (fun x hx => (List.mem_erase_of_ne (fun e => hd.1 (by rw [← e]; exact hx))).2 (hs x (by simp [hx])))
    have hl := List.length_erase_of_mem ha
    have hp : 0 < B.length := List.length_pos_of_mem ha
    simp only [List.length_cons]
    omega
def sumN : Nat → (Nat → Nat) → Nat
  | 0, _ => 0
  | n + 1, f => sumN n f + f n
theorem sumN_add (f g : Nat → Nat) : ∀ n, sumN n (fun i => f i + g i) = sumN n f + sumN n g
  | 0 => rfl
  | n + 1 => by rw [sumN, sumN, sumN, sumN_add f g n]; omega
theorem sumN_le {f g : Nat → Nat} : ∀ n, (∀ i, i < n → f i ≤ g i) → sumN n f ≤ sumN n g
  | 0, _ => Nat.le_refl _
  | n + 1, h => by
    have := sumN_le n fun i hi => h i (by omega)
    have := h n (by omega)
    rw [sumN, sumN]
    omega
theorem sumN_zero : ∀ n, sumN n (fun _ => 0) = 0
  | 0 => rfl
  | n + 1 => by rw [sumN, sumN_zero n]
theorem sumN_one (i0 : Nat) : ∀ n, sumN n (fun i => if i0 = i then 1 else 0) = if i0 < n then 1 else 0
  | 0 => rfl
  | n + 1 => by
    rw [sumN, sumN_one i0 n]
    by_cases h1 : i0 < n
    · rw [if_pos h1, if_neg (by omega), if_pos (by omega)]
    · rw [if_neg h1]
      by_cases h2 : i0 = n
      · rw [if_pos h2, if_pos (by omega)]
      · rw [if_neg h2, if_neg (by omega)]
/-- Counted official by official. -/
theorem sum_count (R : Nat → Bool) (B : Nat → Option Nat) (n : Nat) : ∀ l : List Nat, (∀ q ∈ l, ∀ i, B q = some i → i < n) → sumN n (fun i => l.countP fun q => R q && decide (B q = some i)) = l.countP fun q => R q && decide (B q ≠ none)
  | [], _ => by simpa using sumN_zero n
  | a :: l, h => by
    have ih := sum_count R B n l (fun q hq => h q (by simp [hq]))
    have e : (fun i => (a :: l).countP fun q => R q && decide (B q = some i)) = fun i => (l.countP fun q => R q && decide (B q = some i)) + if (R a && decide (B a = some i)) = true then 1 else 0 := by
      funext i
      rw [List.countP_cons]
    rw [e, sumN_add, ih, List.countP_cons]
    congr 1
    cases hR : R a
    · simpa using sumN_zero n
    · cases hB : B a with
      | none => simpa using sumN_zero n
      | some i0 =>
        have := sumN_one i0 n
        rw [if_pos (h a (by simp) i0 hB)] at this
        simpa using this
/-- No appointment fills more of the posts R than this one. -/
def Tight (J : Jy) (pl : Nat → Option Nat) (R : Nat → Bool) : Prop := ∀ B, Valid J B → ((List.range J.m).countP fun q => R q && decide (B q ≠ none)) ≤ (List.range J.m).countP fun q => R q && decide (pl q ≠ none)
def clean (s : Fs) : Fs := { s with tried := fun _ => false, slots := [], offs := fun _ => false }
theorem filter_hours {f : Nat → Bool} {h : Nat → Int} : ∀ l : List Nat, l.Nodup → (∀ p ∈ l, ∀ q ∈ l, p ≠ q → f p = true → f q = true → h p ≠ h q) → ((l.filter f).map h).Nodup
  | [], _, _ => by simp
  | a :: l, hd, hf => by
    rw [List.nodup_cons] at hd
    have ih := filter_hours (f := f) (h := h) l hd.2 (fun p hp q hq => hf p (by simp [hp]) q (by simp [hq]))
    by_cases ha : f a = true
    · rw [List.filter_cons_of_pos ha, List.map_cons, List.nodup_cons]
      refine ⟨fun hm => ?_, ih⟩
      obtain ⟨q, hq, e⟩ := List.mem_map.1 hm
      obtain ⟨hq1, hq2⟩ := List.mem_filter.1 hq
      exact hf a (by simp) q (by simp [hq1]) (fun e2 => hd.1 (by rw [e2]; exact hq1)) ha hq2 e.symm
    · rw [List.filter_cons_of_neg ha]
      exact ih
theorem vain_tight {s t : Fs} (hI : Inv J s) (hv : Vain J (clean s) t) : Tight J s.pl t.tried := by
  intro B hB
  rw [← sum_count t.tried B J.n (List.range J.m) (fun q hq i e => (hB.fit q (List.mem_range.1 hq) i e).1)]
  rw [← sum_count t.tried s.pl J.n (List.range J.m) (fun q hq i e => (hI.fit q (List.mem_range.1 hq) i e).1)]
  have hpl : t.pl = s.pl := hv.pl
  refine sumN_le _ fun i hi => ?_
  cases ho : t.offs i
  · -- each slot has a holder
    rw [List.countP_eq_length_filter, List.countP_eq_length_filter]
    have n1 : (((List.range J.m).filter fun q => t.tried q && decide (B q = some i)).map J.hr).Nodup := by
      refine filter_hours _ List.nodup_range ?_
      intro p hp q hq hne h1 h2
      simp only [Bool.and_eq_true, decide_eq_true_eq] at h1 h2
      exact hB.apart p q (List.mem_range.1 hp) (List.mem_range.1 hq) hne i h1.2 h2.2
    have := nodup_sub_len _ (((List.range J.m).filter fun q => t.tried q && decide (s.pl q = some i)).map J.hr) n1 (by
      intro x hx
      obtain ⟨q, hq, rfl⟩ := List.mem_map.1 hx
      obtain ⟨hq1, hq2⟩ := List.mem_filter.1 hq
      simp only [Bool.and_eq_true, decide_eq_true_eq] at hq2
      have hqm := List.mem_range.1 hq1
      have hsl := hv.q q hqm hq2.1 rfl i hi (hB.fit q hqm i hq2.2).2
      rcases hv.sl i _ hsl (by simp [clean]) with ⟨p, p1, p2, p3, p4⟩ | ⟨e1, _⟩
      · refine List.mem_map.2 ⟨p, List.mem_filter.2 ⟨List.mem_range.2 p1, ?_⟩, p3⟩
        rw [p4, ← hpl, p2]
        simp
      · rw [ho] at e1
        cases e1)
    simpa using this
  · obtain ⟨e1, e2⟩ := hv.of i ho rfl
    have h1 := hB.ld i hi
    have h2 := hI.cnt i hi
    have hh : t.has = s.has := hv.has
    rw [hh] at e1
    have h3 : ((List.range J.m).countP fun q => t.tried q && decide (B q = some i)) ≤ cntA J B i := by
      refine List.countP_mono_left fun q _ hq => ?_
      simp only [Bool.and_eq_true] at hq
      exact hq.2
    have h4 : cntA J s.pl i ≤ (List.range J.m).countP fun q => t.tried q && decide (s.pl q = some i) := by
      refine List.countP_mono_left fun q hq hq2 => ?_
      simp only [decide_eq_true_eq] at hq2
      rw [e2 q (List.mem_range.1 hq) (by rw [hpl]; exact hq2), hq2]
      simp
    omega
theorem clean_inv {s : Fs} (h : Inv J s) : Inv J (clean s) := h.same rfl rfl
theorem untried_m (s : Fs) : untried J s ≤ J.m := by
  have := List.countP_le_length (p := fun p => !s.tried p) (l := List.range J.m)
  rw [List.length_range] at this
  exact this
/-- What one search does. -/
theorem place_one {s : Fs} {p : Nat} (hp : p < J.m) (hI : Inv J s) (h0 : s.pl p = none) :
    ((placeF J (J.m + 1) p (clean s)).1 = true → Placed J p (clean s) (placeF J (J.m + 1) p (clean s)).2) ∧
    ((placeF J (J.m + 1) p (clean s)).1 = false → (placeF J (J.m + 1) p (clean s)).2.pl = s.pl ∧ (placeF J (J.m + 1) p (clean s)).2.has = s.has ∧ ∀ B, Valid J B → ¬ (B p ≠ none ∧ ∀ q, q < J.m → s.pl q ≠ none → B q ≠ none)) := by
  obtain ⟨g1, g2⟩ := placeF_good J.m p (clean s) hp (clean_inv hI) (fun i hi => by have : s.pl p = some i := hi; rw [h0] at this; cases this) (untried_m _)
  generalize placeF J (J.m + 1) p (clean s) = r at *
  refine ⟨fun h => (g2 h).2, fun h => ?_⟩
  obtain ⟨v, w⟩ := g1 h
  refine ⟨v.pl, v.has, ?_⟩
  rintro B hB ⟨b1, b2⟩
  have ht := vain_tight hI v B hB
  have key : ∀ l : List Nat, (∀ q ∈ l, q < J.m) → (l.countP fun q => r.2.tried q && decide (s.pl q ≠ none)) + (if p ∈ l then 1 else 0) ≤ l.countP fun q => r.2.tried q && decide (B q ≠ none) := by
    intro l
    induction l with
    | nil => intro _; simp
    | cons a l ih =>
      intro hl
      have ih := ih (fun q hq => hl q (by simp [hq]))
      rw [List.countP_cons, List.countP_cons]
      by_cases e : a = p
      · subst e
        have x1 : (r.2.tried a && decide (s.pl a ≠ none)) = false := by simp [h0]
        have x2 : (r.2.tried a && decide (B a ≠ none)) = true := by simp [w, b1]
        rw [x1, x2]
        simp only [List.mem_cons, true_or, if_true, Bool.false_eq_true, if_false]
        split at ih <;> omega
      · have x3 : (p ∈ a :: l) ↔ p ∈ l := by simp [Ne.symm e]
        simp only [x3]
        have x4 : (r.2.tried a && decide (s.pl a ≠ none)) = true → (r.2.tried a && decide (B a ≠ none)) = true := by
          simp only [Bool.and_eq_true, decide_eq_true_eq]
          exact fun h => ⟨h.1, b2 a (hl a (by simp)) h.2⟩
        by_cases x5 : (r.2.tried a && decide (s.pl a ≠ none)) = true
        · rw [if_pos x5, if_pos (x4 x5)]
          omega
        · rw [if_neg x5]
          omega
  have hk := key (List.range J.m) (fun q hq => List.mem_range.1 hq)
  rw [if_pos (List.mem_range.2 hp)] at hk
  omega
def fillL (J : Jy) : List Nat → Fs → Nat × Fs
  | [], s => (0, s)
  | p :: ps, s => ((fillL J ps (placeF J (J.m + 1) p (clean s)).2).1 + (if (placeF J (J.m + 1) p (clean s)).1 = true then 1 else 0), (fillL J ps (placeF J (J.m + 1) p (clean s)).2).2)
def start : Fs := ⟨fun _ => none, fun _ => 0, fun _ => false, [], fun _ => false⟩
def placed (J : Jy) (B : Nat → Option Nat) : Nat := (List.range J.m).countP fun q => decide (B q ≠ none)
theorem fill_le : ∀ (ps : List Nat) (s : Fs), (fillL J ps s).1 ≤ ps.length
  | [], _ => Nat.le_refl _
  | p :: ps, s => by
    have := fill_le ps (placeF J (J.m + 1) p (clean s)).2
    rw [fillL, List.length_cons]
    simp only
    split <;> omega
theorem placed_one {p : Nat} (hp : p < J.m) {B C : Nat → Option Nat} (h0 : B p = none) (h1 : C p ≠ none) (hz : ∀ q, q ≠ p → B q = none → C q = none) (hk : ∀ q, q < J.m → B q ≠ none → C q ≠ none) : placed J C = placed J B + 1 := by
  have key : ∀ l : List Nat, l.Nodup → (∀ q ∈ l, q < J.m) → (l.countP fun q => decide (C q ≠ none)) = (l.countP fun q => decide (B q ≠ none)) + if p ∈ l then 1 else 0 := by
    intro l
    induction l with
    | nil => intro _ _; simp
    | cons a l ih =>
      intro hd hl
      rw [List.nodup_cons] at hd
      have ih := ih hd.2 (fun q hq => hl q (by simp [hq]))
      rw [List.countP_cons, List.countP_cons]
      by_cases e : a = p
      · subst e
        rw [if_neg hd.1] at ih
        have x1 : decide (C a ≠ none) = true := by simp [h1]
        have x2 : decide (B a ≠ none) = false := by simp [h0]
        rw [x1, x2]
        simp only [List.mem_cons, true_or, if_true, Bool.false_eq_true, if_false]
        omega
      · have x3 : (p ∈ a :: l) ↔ p ∈ l := by simp [Ne.symm e]
        simp only [x3]
        have : (C a ≠ none) ↔ (B a ≠ none) := ⟨fun h hb => h (hz a e hb), hk a (hl a (by simp))⟩
        simp only [this]
        omega
  have := key (List.range J.m) List.nodup_range (fun q hq => List.mem_range.1 hq)
  rw [if_pos (List.mem_range.2 hp)] at this
  exact this
/-- What the search for all posts leaves. -/
theorem fill_spec : ∀ (ps : List Nat) (s : Fs), ps.Nodup → (∀ p ∈ ps, p < J.m ∧ s.pl p = none) → Inv J s →
    Inv J (fillL J ps s).2 ∧ placed J (fillL J ps s).2.pl = placed J s.pl + (fillL J ps s).1 ∧ (∀ q, q < J.m → s.pl q ≠ none → (fillL J ps s).2.pl q ≠ none) ∧ (∀ q, q ∉ ps → s.pl q = none → (fillL J ps s).2.pl q = none) ∧
    (∀ p ∈ ps, (fillL J ps s).2.pl p = none → ∀ B, Valid J B → ¬ (B p ≠ none ∧ ∀ q, q < J.m → (fillL J ps s).2.pl q ≠ none → B q ≠ none)) ∧
    ((fillL J ps s).1 = ps.length → ∀ p ∈ ps, (fillL J ps s).2.pl p ≠ none) ∧
    ((∃ B, Valid J B ∧ (∀ p ∈ ps, B p ≠ none) ∧ ∀ q, q < J.m → s.pl q ≠ none → B q ≠ none) → (fillL J ps s).1 = ps.length)
  | [], s, _, _, hI => ⟨hI, rfl, fun _ _ h => h, fun _ _ h => h, fun p hp => absurd hp (by simp), fun _ p hp => absurd hp (by simp), fun _ => rfl⟩
  | p :: ps, s, hd, hps, hI => by
    rw [List.nodup_cons] at hd
    obtain ⟨hp, h0⟩ := hps p (by simp)
    obtain ⟨g1, g2⟩ := place_one hp hI h0
    rw [fillL]
    generalize placeF J (J.m + 1) p (clean s) = r at *
    cases hr : r.1
    · obtain ⟨e1, e2, e3⟩ := g2 hr
      obtain ⟨a1, a2, a3, a4, a5, a6, a7⟩ := fill_spec ps r.2 hd.2 (fun q hq => by rw [e1]; exact hps q (by simp [hq])) (hI.same e1 e2)
      have hle := fill_le (J := J) ps r.2
      simp only [Bool.false_eq_true, if_false, Nat.add_zero]
      rw [e1] at a2 a3 a4
      refine ⟨a1, a2, a3, fun q hq h => a4 q (fun hm => hq (by simp [hm])) h, ?_, ?_, ?_⟩
      · intro q hq hn B hB hb
        rcases List.mem_cons.1 hq with rfl | hq
        · exact e3 B hB ⟨hb.1, fun x hx hne => hb.2 x hx (a3 x hx hne)⟩
        · exact a5 q hq hn B hB hb
      · intro h
        rw [List.length_cons] at h
        omega
      · rintro ⟨B, hB, b1, b2⟩
        exact absurd ⟨b1 p (by simp), b2⟩ (e3 B hB)
    · have w := g1 hr
      have hI' := w.inv (clean_inv hI) h0
      have hnew : r.2.pl p ≠ none := by obtain ⟨i, e, _⟩ := w.new; rw [e]; simp
      obtain ⟨a1, a2, a3, a4, a5, a6, a7⟩ := fill_spec ps r.2 hd.2 (fun q hq => ⟨(hps q (by simp [hq])).1, w.zero q (fun e => hd.1 (by rw [← e]; exact hq)) (hps q (by simp [hq])).2⟩) hI'
      have hpl := placed_one (J := J) hp h0 hnew w.zero w.keep
      simp only [if_true]
      refine ⟨a1, by rw [a2, hpl]; show _ = placed J s.pl + _; omega, fun q hq h => a3 q hq (w.keep q hq h), ?_, ?_, ?_, ?_⟩
      · intro q hq h
        exact a4 q (fun hm => hq (by simp [hm])) (w.zero q (fun e => hq (by simp [e])) h)
      · intro q hq hn B hB hb
        rcases List.mem_cons.1 hq with rfl | hq
        · exact absurd hn (a3 q hp hnew)
        · exact a5 q hq hn B hB hb
      · intro h q hq
        rw [List.length_cons] at h
        rcases List.mem_cons.1 hq with rfl | hq
        · exact a3 q hp hnew
        · exact a6 (by omega) q hq
      · rintro ⟨B, hB, b1, b2⟩
        rw [List.length_cons, a7 ⟨B, hB, fun q hq => b1 q (by simp [hq]), fun q hq hne => ?_⟩]
        by_cases e : q = p
        · subst e
          exact b1 q (by simp)
        · exact b2 q hq (fun hn => hne (w.zero q e hn))
theorem start_inv (hl : ∀ i, i < J.n → 0 ≤ J.ld i) : Inv J start := by
  refine ⟨fun p _ i h => (nomatch h), fun p q _ _ _ i h => (nomatch h), fun i _ => ?_, fun i hi => hl i hi⟩
  have : cntA J start.pl i = 0 := by
    unfold cntA
    rw [List.countP_eq_zero]
    intro q _
    simp [start]
  rw [this]
  rfl
/-- A set of posts can be filled just if the search fills it. -/
theorem fills_iff (hl : ∀ i, i < J.n → 0 ≤ J.ld i) {ps : List Nat} (hd : ps.Nodup) (hps : ∀ p ∈ ps, p < J.m) : (fillL J ps start).1 = ps.length ↔ ∃ B, Valid J B ∧ ∀ p ∈ ps, B p ≠ none := by
  obtain ⟨a1, a2, a3, a4, a5, a6, a7⟩ := fill_spec ps start hd (fun p hp => ⟨hps p hp, rfl⟩) (start_inv hl)
  constructor
  · intro h
    exact ⟨_, a1.valid, a6 h⟩
  · rintro ⟨B, hB, hb⟩
    exact a7 ⟨B, hB, hb, fun q _ h => absurd rfl h⟩
theorem vain_all {s : Fs} (hI : Inv J s) (hf : ∀ p, p < J.m → s.pl p = none → ∀ B, Valid J B → ¬ (B p ≠ none ∧ ∀ q, q < J.m → s.pl q ≠ none → B q ≠ none)) : ∀ qs : List Nat, (∀ p ∈ qs, p < J.m ∧ s.pl p = none) → ∃ t, Vain J (clean s) t ∧ ∀ p ∈ qs, t.tried p = true
  | [], _ => ⟨clean s, Vain.rfl' _, fun p hp => by cases hp⟩
  | p :: qs, h => by
    obtain ⟨t, v, w⟩ := vain_all hI hf qs (fun q hq => h q (by simp [hq]))
    obtain ⟨hp, h0⟩ := h p (by simp)
    have hIt : Inv J t := hI.same v.pl v.has
    have htp : t.pl p = none := by rw [v.pl]; exact h0
    obtain ⟨g1, g2⟩ := placeF_good J.m p t hp hIt (fun i hi => by rw [htp] at hi; cases hi) (untried_m _)
    generalize placeF J (J.m + 1) p t = r at *
    cases hr : r.1
    · obtain ⟨v2, w2⟩ := g1 hr
      refine ⟨r.2, v.trans v2, fun q hq => ?_⟩
      rcases List.mem_cons.1 hq with rfl | hq
      · exact w2
      · exact v2.tried q (w q hq)
    · obtain ⟨_, pl⟩ := g2 hr
      exfalso
      refine hf p hp h0 r.2.pl (pl.valid hIt) ⟨?_, fun q hq hne => pl.keep q hq (by rw [v.pl]; exact hne)⟩
      obtain ⟨i, e, _⟩ := pl.new
      rw [e]
      simp
/-- No appointment fills more posts than the search. -/
theorem most_max (hl : ∀ i, i < J.n → 0 ≤ J.ld i) : (∃ B, Valid J B ∧ placed J B = (fillL J (List.range J.m) start).1) ∧ ∀ B, Valid J B → placed J B ≤ (fillL J (List.range J.m) start).1 := by
  obtain ⟨a1, a2, a3, a4, a5, a6, a7⟩ := fill_spec (List.range J.m) start List.nodup_range (fun p hp => ⟨List.mem_range.1 hp, rfl⟩) (start_inv hl)
  have hz : placed J start.pl = 0 := by
    unfold placed
    rw [List.countP_eq_zero]
    intro q _
    simp [start]
  rw [hz, Nat.zero_add] at a2
  refine ⟨⟨_, a1.valid, a2⟩, fun B hB => ?_⟩
  rw [← a2]
  generalize (fillL J (List.range J.m) start).2 = s at *
  obtain ⟨t, v, w⟩ := vain_all a1 (fun p hp h0 => a5 p (List.mem_range.2 hp) h0) ((List.range J.m).filter fun p => decide (s.pl p = none)) (fun p hp => by
    obtain ⟨h1, h2⟩ := List.mem_filter.1 hp
    exact ⟨List.mem_range.1 h1, by simpa using h2⟩)
  have ht := vain_tight a1 v B hB
  have split : ∀ (C : Nat → Option Nat) (l : List Nat), (l.countP fun q => decide (C q ≠ none)) = (l.countP fun q => t.tried q && decide (C q ≠ none)) + l.countP fun q => !t.tried q && decide (C q ≠ none) := by
    intro C l
    induction l with
    | nil => rfl
    | cons a l ih =>
      rw [List.countP_cons, List.countP_cons, List.countP_cons, ih]
      cases t.tried a <;> simp <;> omega
  have rest : ((List.range J.m).countP fun q => !t.tried q && decide (B q ≠ none)) ≤ (List.range J.m).countP fun q => !t.tried q && decide (s.pl q ≠ none) := by
    refine List.countP_mono_left fun q hq h => ?_
    simp only [Bool.and_eq_true, Bool.not_eq_true'] at h
    have hne : s.pl q ≠ none := by
      intro e
      have := w q (List.mem_filter.2 ⟨hq, by simp [e]⟩)
      rw [h.1] at this
      cases this
    rw [h.1]
    simp [hne]
  unfold placed
  rw [split B, split s.pl]
  omega
end LM.G9
namespace LM.G9
open Go LM
variable {P : Nat → Option SFunc} [Has P]
theorem frzFuncs_ptr (b g o : Nat) (l : List LV) (h : Heap) : frzFuncs (.ptr b g o :: l) h = bnd (frzFuncs l h) fun a => some (.ptr b g o :: a.1, a.2) := by
  rw [frzFuncs]
  rcases frzFuncs l h with _ | ⟨x, y⟩ <;> rfl
  all_goals simp
theorem frzFuncs_map (b : Nat) (l : List LV) (h : Heap) : frzFuncs (.map b :: l) h = bnd (frzFuncs l h) fun a => some (.map b :: a.1, a.2) := by
  rw [frzFuncs]
  rcases frzFuncs l h with _ | ⟨x, y⟩ <;> rfl
  all_goals simp
/-- Heaps that agree below n. -/
def Same (n : Nat) (h h' : Heap) : Prop := n ≤ h'.length ∧ ∀ i, i < n → h'[i]? = h[i]?
theorem Same.rfl' {n : Nat} {h : Heap} (hn : n ≤ h.length) : Same n h h := ⟨hn, fun _ _ => rfl⟩
theorem Same.trans {n : Nat} {h k l : Heap} (h1 : Same n h k) (h2 : Same n k l) : Same n h l := ⟨h2.1, fun i hi => (h2.2 i hi).trans (h1.2 i hi)⟩
theorem Same.app {n : Nat} {h k : Heap} (h1 : Same n h k) (X : Heap) : Same n h (k ++ X) := ⟨by have := h1.1; rw [List.length_append]; omega, fun i hi => by rw [List.getElem?_append_left (by have := h1.1; omega)]; exact h1.2 i hi⟩
theorem Same.less {n m : Nat} {h k : Heap} (h1 : Same n h k) (hm : m ≤ n) : Same m h k := ⟨Nat.le_trans hm h1.1, fun i hi => h1.2 i (by omega)⟩
theorem gc_any {n : Nat} {ts : List LV} {h : Heap} (hn : n ≤ h.length) (hu : ∀ v ∈ ts, v.under n = true) : ∃ h', gc n ⟨ts, h⟩ = ⟨ts, h'⟩ ∧ Same n h h' := by
  have hs : ∀ ts : List LV, (∀ v ∈ ts, v.under n = true) → scrub n ts = ts := by
    intro ts
    induction ts with
    | nil => intro _; rfl
    | cons v r ih =>
      intro hu
      rw [scrub, hu v (by simp), ih (fun w hw => hu w (by simp [hw]))]
      rfl
  unfold gc
  by_cases h1 : underB n (h.take n) = true
  · refine ⟨h.take n, by simp [h1, hs ts hu], by simp; omega, fun i hi => ?_⟩
    rw [List.getElem?_take_of_lt hi]
  · exact ⟨h, by simp [h1], Same.rfl' hn⟩
def optI : Option Nat → Int
  | none => -1
  | some i => i
def atC (m : Nat) (pl : Nat → Option Nat) : List LV := (List.range m).map fun p => .c (ci (optI (pl p)))
def hasF (n : Nat) (has : Nat → Int) : List LV := (List.range n).map fun i => .c (ci (has i))
def boolC (m : Nat) (f : Nat → Bool) : List LV := (List.range m).map fun p => .c (.bool (f p))
theorem atC_len (m : Nat) (pl : Nat → Option Nat) : (atC m pl).length = m := by simp [atC]
theorem hasF_len (m : Nat) (pl : Nat → Int) : (hasF m pl).length = m := by simp [hasF]
theorem boolC_len (m : Nat) (pl : Nat → Bool) : (boolC m pl).length = m := by simp [boolC]
theorem atC_get {m p : Nat} (pl : Nat → Option Nat) (h : p < m) : (atC m pl)[p]? = some (.c (ci (optI (pl p)))) := by simp [atC, h]
theorem hasF_get {m p : Nat} (pl : Nat → Int) (h : p < m) : (hasF m pl)[p]? = some (.c (ci (pl p))) := by simp [hasF, h]
theorem boolC_get {m p : Nat} (pl : Nat → Bool) (h : p < m) : (boolC m pl)[p]? = some (.c (.bool (pl p))) := by simp [boolC, h]
theorem up_row {α β : Type} (m : Nat) (f : Nat → α) (g : α → β) (p : Nat) (v : α) : ((List.range m).map fun q => g (f q)).set p (g v) = (List.range m).map fun q => g (up f p v q) := by
  apply List.ext_getElem
  · simp
  · intro i h1 h2
    simp only [List.length_set, List.length_map, List.length_range] at h1
    rw [List.getElem_set]
    simp only [List.getElem_map, List.getElem_range]
    by_cases e : p = i
    · subst e
      rw [if_pos rfl, up_same]
    · rw [if_neg e, up_ne (Ne.symm e)]
theorem atC_set (m : Nat) (pl : Nat → Option Nat) (p i : Nat) : (atC m pl).set p (.c (ci i)) = atC m (up pl p (some i)) := up_row m pl (fun o => LV.c (ci (optI o))) p (some i)
theorem hasF_set (m : Nat) (f : Nat → Int) (p : Nat) (v : Int) : (hasF m f).set p (.c (ci v)) = hasF m (up f p v) := up_row m f (fun o => LV.c (ci o)) p v
theorem boolC_set (m : Nat) (f : Nat → Bool) (p : Nat) (v : Bool) : (boolC m f).set p (.c (.bool v)) = boolC m (up f p v) := up_row m f (fun o => LV.c (.bool o)) p v
/-- Where the parts of a filling lie. -/
structure Loc where
  bf : Nat
  ba : Nat
  ga : Nat
  ca : Option Nat
  bh : Nat
  bt : Nat
  bs : Nat
  bo : Nat
def jy (j : Jur) (lds : List Int) : Jy := ⟨j.pts.length, j.ofs.length, fun i p => servesV j i p, hourAt j, fun i => lds.getD i 0⟩
def slotC (x : Nat × Int) : CV := .agg [ci x.1, ci x.2]
def fB (j : Jur) (lds : List Int) (L : Loc) (z : Nat) : LB := .cells 0 [.c (.slice (j.ofs.map Ofc.enc)), .c (.slice (j.pts.map Pst.enc)), .c (.slice (lds.map ci)), .slice L.ba L.ga 0 j.pts.length none L.ca, .slice L.bh 1 0 j.ofs.length none (some j.ofs.length), .slice L.bt 1 0 j.pts.length none (some j.pts.length)] z
structure HpF (j : Jur) (lds : List Int) (L : Loc) (s : Fs) (h : Heap) : Prop where
  f : h[L.bf]? = some (fB j lds L 0)
  a : h[L.ba]? = some (.cells L.ga (atC j.pts.length s.pl) 0)
  hs : h[L.bh]? = some (.cells 1 (hasF j.ofs.length s.has) 0)
  t : h[L.bt]? = some (.cells 1 (boolC j.pts.length s.tried) 0)
  sl : h[L.bs]? = some (.map (s.slots.map slotC) (s.slots.map fun _ => .c (.bool true)) false)
  o : h[L.bo]? = some (.cells 1 (boolC j.ofs.length s.offs) 0)
structure Loc.ok (L : Loc) : Prop where
  ga : L.ga ≠ 0
  fa : L.bf ≠ L.ba
  fh : L.bf ≠ L.bh
  ft : L.bf ≠ L.bt
  fs : L.bf ≠ L.bs
  fo : L.bf ≠ L.bo
  ah : L.ba ≠ L.bh
  at' : L.ba ≠ L.bt
  asl : L.ba ≠ L.bs
  ao : L.ba ≠ L.bo
  ht : L.bh ≠ L.bt
  hs : L.bh ≠ L.bs
  ho : L.bh ≠ L.bo
  ts : L.bt ≠ L.bs
  to : L.bt ≠ L.bo
  so : L.bs ≠ L.bo
theorem lt_get {h : Heap} {i : Nat} {B : LB} (e : h[i]? = some B) : i < h.length := (List.getElem?_eq_some_iff.1 e).1
theorem HpF.same {j : Jur} {lds : List Int} {L : Loc} {s : Fs} {h h' : Heap} (H : HpF j lds L s h) {n : Nat} (hn : h.length ≤ n) (hs : Same n h h') : HpF j lds L s h' := by
  have key : ∀ {i : Nat} {B : LB}, h[i]? = some B → h'[i]? = some B := fun e => (hs.2 _ (by have := lt_get e; omega)).trans e
  exact ⟨key H.f, key H.a, key H.hs, key H.t, key H.sl, key H.o⟩
/-- The holder, post by post. -/
theorem L158 (j : Jur) (lds : List Int) (hj : j.pts.length < 1000) (L : Loc) (hL : L.ok) (s : Fs) (hh : Heap) (N : Nat) (hN : N = hh.length) (i : Nat) (hr : Int) (H : HpF j lds L s hh) : ∀ (m k : Nat) (hx : Heap), k + m = j.pts.length → Same (N + 1) (hh ++ [.cells 0 [.c (ci i), .c (ci hr)] 0]) hx →
    ∃ hy, Same (N + 1) (hh ++ [.cells 0 [.c (ci i), .c (ci hr)] 0]) hy ∧ execS P (limS P) c158_l0 ⟨[.ptr L.bf 0 0, .ptr N 0 0, .c (.slice (j.pts.map Pst.enc)), .c (ci j.pts.length), .c (ci k)], hx⟩ =
      match (List.range' k m).find? (fun p => decide (hourAt j p = hr) && decide (s.pl p = some i)) with
      | some p => some (.ret, ⟨[.c (ci p)], hy⟩)
      | none => some (.exit 0, ⟨[], hy⟩) := by
  intro m
  induction m with
  | zero =>
    intro k hx hk hs
    refine ⟨hx, hs, ?_⟩
    have hk' : k = j.pts.length := by omega
    rw [r158_l0]
    simp [c158_l0b, hk']
  | succ m ih =>
    intro k hx hk hs
    have hkl : k < j.pts.length := by omega
    have hbf := lt_get H.f
    have hba := lt_get H.a
    have gS : hx[N]? = some (.cells 0 [.c (ci i), .c (ci hr)] 0) := by rw [hs.2 N (by omega), hN]; simp
    have gF : hx[L.bf]? = some (fB j lds L 0) := by rw [hs.2 _ (by omega), List.getElem?_append_left hbf]; exact H.f
    have gA : hx[L.ba]? = some (.cells L.ga (atC j.pts.length s.pl) 0) := by rw [hs.2 _ (by omega), List.getElem?_append_left hba]; exact H.a
    have gk : j.pts[k]? = some j.pts[k] := List.getElem?_eq_getElem hkl
    have hh' : hourAt j k = j.pts[k].hour := by unfold hourAt; rw [gk]
    generalize hpk : j.pts[k] = p at *
    have gP := atC_get (m := j.pts.length) s.pl hkl
    have q1 := lt_get gS
    have q2 := lt_get gF
    have q3 := lt_get gA
    have q1' := (List.getElem?_eq_some_iff.1 gS).2
    have q2' := (List.getElem?_eq_some_iff.1 gF).2
    have q3' := (List.getElem?_eq_some_iff.1 gA).2
    have gP' := (List.getElem?_eq_some_iff.1 gP).2
    have hal := atC_len j.pts.length s.pl
    have hw : IntKind.i64.wrap ((k : Int) + 1) = (k : Int) + 1 := wrap64 (by omega) (by omega)
    have hopt : optI (s.pl k) = (i : Int) ↔ s.pl k = some i := by
      cases s.pl k with
      | none => simp [optI]
      | some a => simp [optI]; omega
    have hn1 : N + 1 ≤ hx.length := hs.1
    have a1 : ∀ X : LB, (hx ++ [X])[N]? = some (.cells 0 [.c (ci i), .c (ci hr)] 0) := fun X => by rw [List.getElem?_append_left q1]; exact gS
    have a2 : ∀ X : LB, (hx ++ [X])[L.bf]? = some (fB j lds L 0) := fun X => by rw [List.getElem?_append_left q2]; exact gF
    have a3 : ∀ X : LB, (hx ++ [X])[L.ba]? = some (.cells L.ga (atC j.pts.length s.pl) 0) := fun X => by rw [List.getElem?_append_left q3]; exact gA
    have a1' := fun X => (List.getElem?_eq_some_iff.1 (a1 X)).2
    have a2' := fun X => (List.getElem?_eq_some_iff.1 (a2 X)).2
    have a3' := fun X => (List.getElem?_eq_some_iff.1 (a3 X)).2
    have l1 : N < hx.length + 1 := by omega
    have l2 : L.bf < hx.length + 1 := by omega
    have l3 : L.ba < hx.length + 1 := by omega
    rw [List.range'_succ, List.find?_cons]
    obtain ⟨hg, hg1, hg2⟩ := gc_any (n := hx.length) (ts := [.ptr L.bf 0 0, .ptr N 0 0, .c (.slice (j.pts.map Pst.enc)), .c (ci j.pts.length), .c (ci (k + 1))]) (h := hx ++ [.cells 0 [.c (.str p.name), .c (.str p.role), .c (ci p.hour), .c (.slice (p.nations.map CV.str))] 0]) (by simp) (by
      intro v hv
      simp only [List.mem_cons, List.not_mem_nil, or_false] at hv
      rcases hv with rfl | rfl | rfl | rfl | rfl <;> simp [LV.under] <;> omega)
    obtain ⟨hy, i1, i2⟩ := ih (k + 1) hg (by omega) (hs.trans (((Same.rfl' (Nat.le_refl hx.length)).app _).less hn1 |>.trans (hg2.less hn1)))
    have ek : ((k + 1 : Nat) : Int) = (k : Int) + 1 := by omega
    rw [ek] at i2
    by_cases c1 : p.hour = hr
    · by_cases c2 : s.pl k = some i
      · have e1 : (decide (hourAt j k = hr) && decide (s.pl k = some i)) = true := by simp [hh', c1, c2]
        rw [e1]
        have c2' := hopt.2 c2
        refine ⟨hx ++ [.cells 0 [.c (.str p.name), .c (.str p.role), .c (ci p.hour), .c (.slice (p.nations.map CV.str))] 0], hs.app _, ?_⟩
        rw [r158_l0]
        simp [c158_l0b, hkl, gk, hpk, Pst.enc, a1, a2, a3, a1', a2', a3', l1, l2, l3, fB, gP, gP', hal, c1, c2']
      · have e1 : (decide (hourAt j k = hr) && decide (s.pl k = some i)) = false := by simp [c2]
        rw [e1]
        have c2' : ¬ optI (s.pl k) = (i : Int) := fun h => c2 (hopt.1 h)
        refine ⟨hy, i1, ?_⟩
        rw [c1] at hg1
        rw [r158_l0]
        simp [c158_l0b, hkl, gk, hpk, Pst.enc, a1, a2, a3, a1', a2', a3', l1, l2, l3, fB, gP, gP', hal, c1, c2', hw, hg1, i2, -gc]
    · have e1 : (decide (hourAt j k = hr) && decide (s.pl k = some i)) = false := by simp [hh', c1]
      rw [e1]
      refine ⟨hy, i1, ?_⟩
      rw [r158_l0]
      simp [c158_l0b, hkl, gk, hpk, Pst.enc, a1, a2, a3, a1', a2', a3', l1, l2, l3, fB, gP, gP', hal, c1, hw, hg1, i2, -gc]
theorem S158 (j : Jur) (lds : List Int) (hj : j.pts.length < 1000) (L : Loc) (hL : L.ok) (s : Fs) (hh : Heap) (i : Nat) (hr : Int) (H : HpF j lds L s hh) :
    ∃ hy, Same hh.length hh hy ∧ sfn P 158 [.ptr L.bf 0 0, .c (.agg [ci i, ci hr])] hh = some (.c (ci (optI (holdF (jy j lds) s.pl i hr))), hy) := by
  obtain ⟨hy, k1, k2⟩ := L158 (P := P) j lds hj L hL s hh hh.length rfl i hr H j.pts.length 0 (hh ++ [.cells 0 [.c (ci i), .c (ci hr)] 0]) (by omega) (Same.rfl' (by simp))
  have hr0 : List.range' 0 j.pts.length = List.range j.pts.length := (List.range_eq_range').symm
  rw [hr0] at k2
  have hbf := lt_get H.f
  have gF := (List.getElem?_eq_some_iff.1 H.f).2
  have hS : Same hh.length hh hy := ⟨by have := k1.1; omega, fun x hx => by rw [k1.2 x (by omega), List.getElem?_append_left hx]⟩
  refine ⟨hy, hS, ?_⟩
  have e : holdF (jy j lds) s.pl i hr = (List.range j.pts.length).find? fun p => decide (hourAt j p = hr) && decide (s.pl p = some i) := rfl
  rw [e]
  have l1 : L.bf < hh.length + 1 := by omega
  have a1 : ∀ X : LB, (hh ++ [X])[L.bf]? = some (fB j lds L 0) := fun X => by rw [List.getElem?_append_left hbf]; exact H.f
  have a1' := fun X => (List.getElem?_eq_some_iff.1 (a1 X)).2
  rw [u158]
  cases hf : (List.range j.pts.length).find? fun p => decide (hourAt j p = hr) && decide (s.pl p = some i) with
  | none =>
    rw [hf] at k2
    simp at k2
    simp [c158, a1, a1', l1, fB, k2, optI]
    done
  | some p =>
    rw [hf] at k2
    simp at k2
    simp [c158, a1, a1', l1, fB, k2, optI]
    done
end LM.G9
namespace LM.G9
open Go LM
variable {P : Nat → Option SFunc} [Has P]
def sIdx (x : Nat × Int) : List (Nat × Int) → Option Nat
  | [] => none
  | y :: r => if x = y then some 0 else (sIdx x r).map (· + 1)
theorem find_slot (x : Nat × Int) : ∀ l : List (Nat × Int), findK (.many [0, 0]) (slotC x) (l.map slotC) = some (sIdx x l)
  | [] => rfl
  | y :: l => by
    have ih := find_slot x l
    rw [List.map_cons, findK, ih, sIdx]
    have e : eqK (.many [0, 0]) (slotC x) (slotC y) = some (decide (x = y)) := by
      obtain ⟨a, b⟩ := x
      obtain ⟨c, d⟩ := y
      by_cases h1 : a = c
      · subst h1
        by_cases h2 : b = d <;> simp [eqK, keyOk, kindsOk, kindOf, slotC, eqCells, eqS, h2]
      · have : ¬ ((a : Int) = c) := by omega
        simp [eqK, keyOk, kindsOk, kindOf, slotC, eqCells, eqS, h1, this]
    rw [e]
    by_cases h : x = y
    · simp [h]
    · simp only [h, decide_false, if_false]
      cases sIdx x l <;> rfl
theorem sIdx_none {x : Nat × Int} : ∀ {l : List (Nat × Int)}, sIdx x l = none ↔ x ∉ l
  | [] => by simp [sIdx]
  | y :: l => by
    rw [sIdx]
    by_cases h : x = y
    · simp [h]
    · simp [h, sIdx_none (l := l)]
theorem sIdx_some {x : Nat × Int} : ∀ {l : List (Nat × Int)} {k : Nat}, sIdx x l = some k → k < l.length
  | [], _, h => by simp [sIdx] at h
  | y :: l, k, h => by
    rw [sIdx] at h
    by_cases e : x = y
    · rw [if_pos e] at h
      cases h
      simp
    · rw [if_neg e] at h
      cases h2 : sIdx x l with
      | none => rw [h2] at h; simp at h
      | some q =>
        rw [h2] at h
        simp at h
        have := sIdx_some h2
        simp
        omega
def tv (l : List (Nat × Int)) : List LV := l.map fun _ => .c (.bool true)
theorem tv_get {l : List (Nat × Int)} {k : Nat} (h : k < l.length) : (tv l)[k]? = some (.c (.bool true)) := by simp [tv, h]
theorem tv_set (l : List (Nat × Int)) (k : Nat) : (tv l).set k (.c (.bool true)) = tv l := by
  apply List.ext_getElem
  · simp
  · intro i h1 h2
    rw [List.getElem_set]
    simp [tv]
structure Loc.lt (L : Loc) (n : Nat) : Prop where
  f : L.bf < n
  a : L.ba < n
  h : L.bh < n
  t : L.bt < n
  s : L.bs < n
  o : L.bo < n
theorem HpF.lt {j : Jur} {lds : List Int} {L : Loc} {s : Fs} {h : Heap} (H : HpF j lds L s h) : L.lt h.length := ⟨lt_get H.f, lt_get H.a, lt_get H.hs, lt_get H.t, lt_get H.sl, lt_get H.o⟩
theorem HpF.near {j : Jur} {lds : List Int} {L : Loc} {s : Fs} {h h' : Heap} (H : HpF j lds L s h) {n : Nat} (hn : L.lt n) (hs : Same n h h') : HpF j lds L s h' :=
  ⟨(hs.2 _ hn.f).trans H.f, (hs.2 _ hn.a).trans H.a, (hs.2 _ hn.h).trans H.hs, (hs.2 _ hn.t).trans H.t, (hs.2 _ hn.s).trans H.sl, (hs.2 _ hn.o).trans H.o⟩
/-- What a call leaves alone. -/
def Fr (L : Loc) (h h' : Heap) : Prop := h.length ≤ h'.length ∧ ∀ i, i < h.length → i ≠ L.ba → i ≠ L.bh → i ≠ L.bt → i ≠ L.bs → i ≠ L.bo → h'[i]? = h[i]?
theorem Fr.rfl' (L : Loc) (h : Heap) : Fr L h h := ⟨Nat.le_refl _, fun _ _ _ _ _ _ _ => rfl⟩
theorem Fr.trans {L : Loc} {h k l : Heap} (h1 : Fr L h k) (h2 : Fr L k l) : Fr L h l := ⟨Nat.le_trans h1.1 h2.1, fun i hi a b c d e => (h2.2 i (Nat.lt_of_lt_of_le hi h1.1) a b c d e).trans (h1.2 i hi a b c d e)⟩
theorem Same.fr {L : Loc} {h k : Heap} (h1 : Same h.length h k) : Fr L h k := ⟨h1.1, fun i hi _ _ _ _ _ => h1.2 i hi⟩
theorem Fr.set {L : Loc} {h k : Heap} (h1 : Fr L h k) {b : Nat} (hb : b = L.ba ∨ b = L.bh ∨ b = L.bt ∨ b = L.bs ∨ b = L.bo) (X : LB) : Fr L h (k.set b X) := by
  refine ⟨by simpa using h1.1, fun i hi x1 x2 x3 x4 x5 => ?_⟩
  rw [List.getElem?_set_ne (by rintro rfl; rcases hb with e | e | e | e | e <;> contradiction)]
  exact h1.2 i hi x1 x2 x3 x4 x5
theorem HpF.slots {j : Jur} {lds : List Int} {L : Loc} {s : Fs} {h : Heap} (H : HpF j lds L s h) (ok : L.ok) (l : List (Nat × Int)) : HpF j lds L { s with slots := l } (h.set L.bs (.map (l.map slotC) (tv l) false)) := by
  refine ⟨?_, ?_, ?_, ?_, ?_, ?_⟩
  · rw [List.getElem?_set_ne ok.fs.symm]; exact H.f
  · rw [List.getElem?_set_ne ok.asl.symm]; exact H.a
  · rw [List.getElem?_set_ne ok.hs.symm]; exact H.hs
  · rw [List.getElem?_set_ne ok.ts.symm]; exact H.t
  · rw [List.getElem?_set_self H.lt.s]; rfl
  · rw [List.getElem?_set_ne ok.so]; exact H.o
theorem HpF.at' {j : Jur} {lds : List Int} {L : Loc} {s : Fs} {h : Heap} (H : HpF j lds L s h) (ok : L.ok) (f : Nat → Option Nat) : HpF j lds L { s with pl := f } (h.set L.ba (.cells L.ga (atC j.pts.length f) 0)) := by
  refine ⟨?_, ?_, ?_, ?_, ?_, ?_⟩
  · rw [List.getElem?_set_ne ok.fa.symm]; exact H.f
  · rw [List.getElem?_set_self H.lt.a]
  · rw [List.getElem?_set_ne ok.ah]; exact H.hs
  · rw [List.getElem?_set_ne ok.at']; exact H.t
  · rw [List.getElem?_set_ne ok.asl]; exact H.sl
  · rw [List.getElem?_set_ne ok.ao]; exact H.o
theorem HpF.has' {j : Jur} {lds : List Int} {L : Loc} {s : Fs} {h : Heap} (H : HpF j lds L s h) (ok : L.ok) (f : Nat → Int) : HpF j lds L { s with has := f } (h.set L.bh (.cells 1 (hasF j.ofs.length f) 0)) := by
  refine ⟨?_, ?_, ?_, ?_, ?_, ?_⟩
  · rw [List.getElem?_set_ne ok.fh.symm]; exact H.f
  · rw [List.getElem?_set_ne ok.ah.symm]; exact H.a
  · rw [List.getElem?_set_self H.lt.h]
  · rw [List.getElem?_set_ne ok.ht]; exact H.t
  · rw [List.getElem?_set_ne ok.hs]; exact H.sl
  · rw [List.getElem?_set_ne ok.ho]; exact H.o
theorem HpF.tried' {j : Jur} {lds : List Int} {L : Loc} {s : Fs} {h : Heap} (H : HpF j lds L s h) (ok : L.ok) (f : Nat → Bool) : HpF j lds L { s with tried := f } (h.set L.bt (.cells 1 (boolC j.pts.length f) 0)) := by
  refine ⟨?_, ?_, ?_, ?_, ?_, ?_⟩
  · rw [List.getElem?_set_ne ok.ft.symm]; exact H.f
  · rw [List.getElem?_set_ne ok.at'.symm]; exact H.a
  · rw [List.getElem?_set_ne ok.ht.symm]; exact H.hs
  · rw [List.getElem?_set_self H.lt.t]
  · rw [List.getElem?_set_ne ok.ts]; exact H.sl
  · rw [List.getElem?_set_ne ok.to]; exact H.o
theorem HpF.offs' {j : Jur} {lds : List Int} {L : Loc} {s : Fs} {h : Heap} (H : HpF j lds L s h) (ok : L.ok) (f : Nat → Bool) : HpF j lds L { s with offs := f } (h.set L.bo (.cells 1 (boolC j.ofs.length f) 0)) := by
  refine ⟨?_, ?_, ?_, ?_, ?_, ?_⟩
  · rw [List.getElem?_set_ne ok.fo.symm]; exact H.f
  · rw [List.getElem?_set_ne ok.ao.symm]; exact H.a
  · rw [List.getElem?_set_ne ok.ho.symm]; exact H.hs
  · rw [List.getElem?_set_ne ok.to.symm]; exact H.t
  · rw [List.getElem?_set_ne ok.so.symm]; exact H.sl
  · rw [List.getElem?_set_self H.lt.o]
/-- The state of the loop over the officials. -/
def TP (j : Jur) (L : Loc) (p : Nat) (i : Int) : List LV := [.ptr L.bf 0 0, .c (ci p), .map L.bs, .slice L.bo 1 0 j.ofs.length none (some j.ofs.length), .c (ci j.ofs.length), .c (ci i)]
def slB (i : Nat) (h : Int) : LB := .cells 0 [.c (ci i), .c (ci h)] 0
theorem B143_skip (j : Jur) (hj : j.ok) (lds : List Int) (hjl : j.ofs.length < 1000) (L : Loc) (s : Fs) (hx : Heap) (H : HpF j lds L s hx) (p i : Nat) (hp : p < j.pts.length) (hi : i < j.ofs.length) (hc : (jy j lds).sv i p = false ∨ (i, (jy j lds).hr p) ∈ s.slots) :
    execS P (limS P) c143_l0b ⟨TP j L p i, hx⟩ = some (.normal, ⟨TP j L p (i + 1), hx ++ [slB i (hourAt j p)]⟩) := by
  have hw : IntKind.i64.wrap ((i : Int) + 1) = (i : Int) + 1 := wrap64 (by omega) (by omega)
  obtain ⟨gp, gpe⟩ : ∃ q, j.pts[p]? = some q := ⟨_, List.getElem?_eq_getElem hp⟩
  obtain ⟨go, goe⟩ : ∃ q, j.ofs[i]? = some q := ⟨_, List.getElem?_eq_getElem hi⟩
  have e111 := S111 (P := P) j hj i p go gp goe gpe
  have hsv : (jy j lds).sv i p = servesB go gp := by simp [jy, servesV, goe, gpe]
  have hh : hourAt j p = gp.hour := by unfold hourAt; rw [gpe]
  have hjh : (jy j lds).hr p = gp.hour := hh
  rw [hsv, hjh] at hc
  have gpe' := (List.getElem?_eq_some_iff.1 gpe).2
  have q1 := H.lt.f
  have q5 := H.lt.s
  have a1 : ∀ X : LB, (hx ++ [X])[L.bf]? = some (fB j lds L 0) := fun X => by rw [List.getElem?_append_left q1]; exact H.f
  have a1' := fun X => (List.getElem?_eq_some_iff.1 (a1 X)).2
  have f1' := (List.getElem?_eq_some_iff.1 H.f).2
  have a5 : ∀ X : LB, (hx ++ [X])[L.bs]? = some (.map (s.slots.map slotC) (tv s.slots) false) := fun X => by rw [List.getElem?_append_left q5]; exact H.sl
  have a5' := fun X => (List.getElem?_eq_some_iff.1 (a5 X)).2
  have l1 : L.bf < hx.length + 1 := by omega
  have l5 : L.bs < hx.length + 1 := by omega
  have hf := find_slot (i, gp.hour) s.slots
  have hko : keyOk (.many [0, 0]) (.agg [ci i, ci gp.hour]) = true := rfl
  simp only [slotC] at hf
  simp [Jur.enc] at e111
  rw [hh]
  cases hs : servesB go gp
  · rw [hs] at e111
    simp [TP, c143_l0b, hi, hw, H.f, f1', q1, fB, hp, gpe, gpe', Pst.enc, a1, a1', l1, e111, slB]
  · rw [hs] at e111 hc
    simp at hc
    cases hx2 : sIdx (i, gp.hour) s.slots with
    | none => exact absurd hc (sIdx_none.1 hx2)
    | some k =>
      rw [hx2] at hf
      have ht := tv_get (sIdx_some hx2)
      simp [TP, c143_l0b, hi, hw, H.f, f1', q1, fB, hp, gpe, gpe', Pst.enc, a1, a1', l1, e111, slB, hf, hko, a5, a5', l5, ht]
      done
end LM.G9
namespace LM.G9
open Go LM
variable {P : Nat → Option SFunc} [Has P]
/-- The heap behind a new slot. -/
def slH (L : Loc) (s : Fs) (hx : Heap) (i : Nat) (h : Int) : Heap := hx.set L.bs (.map ((s.slots ++ [(i, h)]).map slotC) (tv (s.slots ++ [(i, h)])) false) ++ [slB i h]
theorem B143_hold (j : Jur) (hj : j.ok) (lds : List Int) (hjl : j.ofs.length < 1000) (L : Loc) (hL : L.ok) (s : Fs) (hx : Heap) (H : HpF j lds L s hx) (p i : Nat) (hp : p < j.pts.length) (hi : i < j.ofs.length) (hsv : (jy j lds).sv i p = true) (hsl : (i, (jy j lds).hr p) ∉ s.slots)
    (o : Nat) (hy hz : Heap) (t : Fs) (e158 : sfn P 158 [.ptr L.bf 0 0, .c (.agg [ci i, ci (hourAt j p)])] (slH L s hx i (hourAt j p)) = some (.c (ci o), hy)) (b : Bool)
    (e143 : sfn P 143 [.ptr L.bf 0 0, .c (ci o), .map L.bs, .slice L.bo 1 0 j.ofs.length none (some j.ofs.length)] hy = some (.c (.bool b), hz)) (Ht : HpF j lds L t hz) :
    execS P (limS P) c143_l0b ⟨TP j L p i, hx⟩ = if b then some (.ret, ⟨[.c (.bool true)], hz.set L.ba (.cells L.ga (atC j.pts.length (up t.pl p (some i))) 0)⟩) else some (.normal, ⟨TP j L p (i + 1), hz⟩) := by
  have hw : IntKind.i64.wrap ((i : Int) + 1) = (i : Int) + 1 := wrap64 (by omega) (by omega)
  obtain ⟨gp, gpe⟩ : ∃ q, j.pts[p]? = some q := ⟨_, List.getElem?_eq_getElem hp⟩
  obtain ⟨go, goe⟩ : ∃ q, j.ofs[i]? = some q := ⟨_, List.getElem?_eq_getElem hi⟩
  have e111 := S111 (P := P) j hj i p go gp goe gpe
  have hsv' : (jy j lds).sv i p = servesB go gp := by simp [jy, servesV, goe, gpe]
  have hh : hourAt j p = gp.hour := by unfold hourAt; rw [gpe]
  have hjh : (jy j lds).hr p = gp.hour := hh
  rw [hsv'] at hsv
  rw [hjh] at hsl
  rw [hsv] at e111
  have gpe' := (List.getElem?_eq_some_iff.1 gpe).2
  have q1 := H.lt.f
  have q5 := H.lt.s
  have a1 : ∀ X : LB, (hx ++ [X])[L.bf]? = some (fB j lds L 0) := fun X => by rw [List.getElem?_append_left q1]; exact H.f
  have a1' := fun X => (List.getElem?_eq_some_iff.1 (a1 X)).2
  have f1' := (List.getElem?_eq_some_iff.1 H.f).2
  have a5 : ∀ X : LB, (hx ++ [X])[L.bs]? = some (.map (s.slots.map slotC) (tv s.slots) false) := fun X => by rw [List.getElem?_append_left q5]; exact H.sl
  have a5' := fun X => (List.getElem?_eq_some_iff.1 (a5 X)).2
  have l1 : L.bf < hx.length + 1 := by omega
  have l5 : L.bs < hx.length + 1 := by omega
  have hf := find_slot (i, gp.hour) s.slots
  rw [sIdx_none.2 hsl] at hf
  have hko : keyOk (.many [0, 0]) (.agg [ci i, ci gp.hour]) = true := rfl
  simp only [slotC] at hf
  simp [Jur.enc] at e111
  have hset : (hx ++ [slB i gp.hour]).set L.bs (.map (s.slots.map slotC ++ [.agg [ci i, ci gp.hour]]) (tv s.slots ++ [.c (.bool true)]) false) = slH L s hx i gp.hour := by
    rw [List.set_append_left _ _ q5]
    unfold slH
    simp [tv, slotC]
  have g7 : (slH L s hx i gp.hour)[hx.length]? = some (.cells 0 [.c (ci i), .c (ci gp.hour)] 0) := by
    unfold slH
    rw [List.getElem?_append_right (by simp)]
    simp [slB]
  have z1 := Ht.lt.f
  have z2 := Ht.lt.a
  have z1' := (List.getElem?_eq_some_iff.1 Ht.f).2
  have z2' := (List.getElem?_eq_some_iff.1 Ht.a).2
  have hal := atC_len j.pts.length t.pl
  have hpl : p + 1 ≤ j.pts.length := hp
  have hset2 := atC_set j.pts.length t.pl p i
  rw [hh] at e158
  simp only [slB] at hset
  have ho : (0 : Int) ≤ (o : Int) := by omega
  cases b
  · simp [TP, c143_l0b, hi, hw, H.f, f1', q1, fB, hp, gpe, gpe', Pst.enc, a1, a1', l1, e111, hf, hko, a5, a5', l5, hset, frzFuncs_nil, frzFuncs_c, frzFuncs_slice, frzFuncs_ptr, frzFuncs_map, g7, e158, ho, e143]
    done
  · simp [TP, c143_l0b, hi, hw, H.f, f1', q1, fB, hp, gpe, gpe', Pst.enc, a1, a1', l1, e111, hf, hko, a5, a5', l5, hset, frzFuncs_nil, frzFuncs_c, frzFuncs_slice, frzFuncs_ptr, frzFuncs_map, g7, e158, ho, e143, Ht.f, Ht.a, z1, z2, z1', z2', hal, hpl, hset2]
    done
theorem B143_free (j : Jur) (hj : j.ok) (lds : List Int) (hjl : j.ofs.length < 1000) (L : Loc) (hL : L.ok) (s : Fs) (hx : Heap) (H : HpF j lds L s hx) (p i : Nat) (hp : p < j.pts.length) (hi : i < j.ofs.length) (hsv : (jy j lds).sv i p = true) (hsl : (i, (jy j lds).hr p) ∉ s.slots)
    (hy hz : Heap) (t : Fs) (e158 : sfn P 158 [.ptr L.bf 0 0, .c (.agg [ci i, ci (hourAt j p)])] (slH L s hx i (hourAt j p)) = some (.c (ci (-1)), hy)) (b : Bool)
    (e143 : sfn P 159 [.ptr L.bf 0 0, .c (ci i), .map L.bs, .slice L.bo 1 0 j.ofs.length none (some j.ofs.length)] hy = some (.c (.bool b), hz)) (Ht : HpF j lds L t hz) (hb : -1000 ≤ t.has i ∧ t.has i ≤ 1000) :
    execS P (limS P) c143_l0b ⟨TP j L p i, hx⟩ = if b then some (.ret, ⟨[.c (.bool true)], (hz.set L.ba (.cells L.ga (atC j.pts.length (up t.pl p (some i))) 0)).set L.bh (.cells 1 (hasF j.ofs.length (up t.has i (t.has i + 1))) 0)⟩) else some (.normal, ⟨TP j L p (i + 1), hz⟩) := by
  have hw : IntKind.i64.wrap ((i : Int) + 1) = (i : Int) + 1 := wrap64 (by omega) (by omega)
  obtain ⟨gp, gpe⟩ : ∃ q, j.pts[p]? = some q := ⟨_, List.getElem?_eq_getElem hp⟩
  obtain ⟨go, goe⟩ : ∃ q, j.ofs[i]? = some q := ⟨_, List.getElem?_eq_getElem hi⟩
  have e111 := S111 (P := P) j hj i p go gp goe gpe
  have hsv' : (jy j lds).sv i p = servesB go gp := by simp [jy, servesV, goe, gpe]
  have hh : hourAt j p = gp.hour := by unfold hourAt; rw [gpe]
  have hjh : (jy j lds).hr p = gp.hour := hh
  rw [hsv'] at hsv
  rw [hjh] at hsl
  rw [hsv] at e111
  have gpe' := (List.getElem?_eq_some_iff.1 gpe).2
  have q1 := H.lt.f
  have q5 := H.lt.s
  have a1 : ∀ X : LB, (hx ++ [X])[L.bf]? = some (fB j lds L 0) := fun X => by rw [List.getElem?_append_left q1]; exact H.f
  have a1' := fun X => (List.getElem?_eq_some_iff.1 (a1 X)).2
  have f1' := (List.getElem?_eq_some_iff.1 H.f).2
  have a5 : ∀ X : LB, (hx ++ [X])[L.bs]? = some (.map (s.slots.map slotC) (tv s.slots) false) := fun X => by rw [List.getElem?_append_left q5]; exact H.sl
  have a5' := fun X => (List.getElem?_eq_some_iff.1 (a5 X)).2
  have l1 : L.bf < hx.length + 1 := by omega
  have l5 : L.bs < hx.length + 1 := by omega
  have hf := find_slot (i, gp.hour) s.slots
  rw [sIdx_none.2 hsl] at hf
  have hko : keyOk (.many [0, 0]) (.agg [ci i, ci gp.hour]) = true := rfl
  simp only [slotC] at hf
  simp [Jur.enc] at e111
  have hset : (hx ++ [slB i gp.hour]).set L.bs (.map (s.slots.map slotC ++ [.agg [ci i, ci gp.hour]]) (tv s.slots ++ [.c (.bool true)]) false) = slH L s hx i gp.hour := by
    rw [List.set_append_left _ _ q5]
    unfold slH
    simp [tv, slotC]
  have g7 : (slH L s hx i gp.hour)[hx.length]? = some (.cells 0 [.c (ci i), .c (ci gp.hour)] 0) := by
    unfold slH
    rw [List.getElem?_append_right (by simp)]
    simp [slB]
  have z1 := Ht.lt.f
  have z2 := Ht.lt.a
  have z1' := (List.getElem?_eq_some_iff.1 Ht.f).2
  have z2' := (List.getElem?_eq_some_iff.1 Ht.a).2
  have hal := atC_len j.pts.length t.pl
  have hpl : p + 1 ≤ j.pts.length := hp
  have hset2 := atC_set j.pts.length t.pl p i
  rw [hh] at e158
  simp only [slB] at hset
  have Ht2 := Ht.at' hL (up t.pl p (some i))
  have y1 := Ht2.lt.f
  have y3 := Ht2.lt.h
  have y1' := (List.getElem?_eq_some_iff.1 Ht2.f).2
  have y3' := (List.getElem?_eq_some_iff.1 Ht2.hs).2
  have z3 := Ht.lt.h
  have hhl := hasF_len j.ofs.length t.has
  have hge := hasF_get t.has hi
  have hge' := (List.getElem?_eq_some_iff.1 hge).2
  have hil : i + 1 ≤ j.ofs.length := hi
  have hset3 := hasF_set j.ofs.length t.has i (t.has i + 1)
  have hwh : IntKind.i64.wrap (t.has i + 1) = t.has i + 1 := wrap64 (by omega) (by omega)
  cases b
  · simp [TP, c143_l0b, hi, hw, H.f, f1', q1, fB, hp, gpe, gpe', Pst.enc, a1, a1', l1, e111, hf, hko, a5, a5', l5, hset, frzFuncs_nil, frzFuncs_c, frzFuncs_slice, frzFuncs_ptr, frzFuncs_map, g7, e158, e143]
    done
  · simp [TP, c143_l0b, hi, hw, H.f, f1', q1, fB, hp, gpe, gpe', Pst.enc, a1, a1', l1, e111, hf, hko, a5, a5', l5, hset, frzFuncs_nil, frzFuncs_c, frzFuncs_slice, frzFuncs_ptr, frzFuncs_map, g7, e158, e143, Ht.f, Ht.a, Ht2.f, Ht2.hs, y1, y3, y1', y3', z3, hhl, hge, hge', hil, hset3, hwh, z1, z2, z1', z2', hal, hpl, hset2]
    done
end LM.G9
namespace LM.G9
open Go LM
variable {P : Nat → Option SFunc} [Has P]
def TR (j : Jur) (L : Loc) (i : Nat) (p : Int) : List LV := [.ptr L.bf 0 0, .c (ci i), .map L.bs, .slice L.bo 1 0 j.ofs.length none (some j.ofs.length), .slice L.ba L.ga 0 j.pts.length none L.ca, .c (ci j.pts.length), .c (ci p)]
theorem optI_eq {o : Option Nat} {i : Nat} : optI o = (i : Int) ↔ o = some i := by
  cases o with
  | none => simp [optI]
  | some a => simp [optI]; omega
theorem B159_skip (j : Jur) (lds : List Int) (hjl : j.pts.length < 1000) (L : Loc) (s : Fs) (hx : Heap) (H : HpF j lds L s hx) (p i : Nat) (hp : p < j.pts.length) (hc : s.pl p ≠ some i) :
    execS P (limS P) c159_l0b ⟨TR j L i p, hx⟩ = some (.normal, ⟨TR j L i (p + 1), hx⟩) := by
  have hw : IntKind.i64.wrap ((p : Int) + 1) = (p : Int) + 1 := wrap64 (by omega) (by omega)
  have z2 := H.lt.a
  have z2' := (List.getElem?_eq_some_iff.1 H.a).2
  have hal := atC_len j.pts.length s.pl
  have gP := atC_get s.pl hp
  have gP' := (List.getElem?_eq_some_iff.1 gP).2
  have hc' : ¬ optI (s.pl p) = (i : Int) := fun h => hc (optI_eq.1 h)
  simp [TR, c159_l0b, hp, hw, H.a, z2, z2', hal, gP, gP', hc']
theorem B159_go (j : Jur) (lds : List Int) (hjl : j.pts.length < 1000) (L : Loc) (hL : L.ok) (s : Fs) (hx : Heap) (H : HpF j lds L s hx) (p i : Nat) (hp : p < j.pts.length) (hi : i < j.ofs.length) (hc : s.pl p = some i) (hz : Heap) (t : Fs) (b : Bool)
    (e143 : sfn P 143 [.ptr L.bf 0 0, .c (ci p), .map L.bs, .slice L.bo 1 0 j.ofs.length none (some j.ofs.length)] (hx.set L.bs (.map ((putS s.slots (i, hourAt j p)).map slotC) (tv (putS s.slots (i, hourAt j p))) false)) = some (.c (.bool b), hz)) (Ht : HpF j lds L t hz) (hb : -1000 ≤ t.has i ∧ t.has i ≤ 1000) :
    execS P (limS P) c159_l0b ⟨TR j L i p, hx⟩ = if b then some (.ret, ⟨[.c (.bool true)], hz.set L.bh (.cells 1 (hasF j.ofs.length (up t.has i (t.has i - 1))) 0)⟩) else some (.normal, ⟨TR j L i (p + 1), hz⟩) := by
  have hw : IntKind.i64.wrap ((p : Int) + 1) = (p : Int) + 1 := wrap64 (by omega) (by omega)
  obtain ⟨gp, gpe⟩ : ∃ q, j.pts[p]? = some q := ⟨_, List.getElem?_eq_getElem hp⟩
  have hh : hourAt j p = gp.hour := by unfold hourAt; rw [gpe]
  have gpe' := (List.getElem?_eq_some_iff.1 gpe).2
  have z2 := H.lt.a
  have z2' := (List.getElem?_eq_some_iff.1 H.a).2
  have hal := atC_len j.pts.length s.pl
  have gP := atC_get s.pl hp
  have gP' := (List.getElem?_eq_some_iff.1 gP).2
  have hc' : optI (s.pl p) = (i : Int) := optI_eq.2 hc
  have q1 := H.lt.f
  have q5 := H.lt.s
  have f1' := (List.getElem?_eq_some_iff.1 H.f).2
  have s1' := (List.getElem?_eq_some_iff.1 H.sl).2
  have hsl : hx[L.bs]? = some (.map (s.slots.map slotC) (tv s.slots) false) := H.sl
  have hsl' := (List.getElem?_eq_some_iff.1 hsl).2
  have hf := find_slot (i, gp.hour) s.slots
  have hko : keyOk (.many [0, 0]) (.agg [ci i, ci gp.hour]) = true := rfl
  simp only [slotC] at hf
  rw [hh] at e143
  have z1 := Ht.lt.f
  have z3 := Ht.lt.h
  have z1' := (List.getElem?_eq_some_iff.1 Ht.f).2
  have z3' := (List.getElem?_eq_some_iff.1 Ht.hs).2
  have hhl := hasF_len j.ofs.length t.has
  have hge := hasF_get t.has hi
  have hge' := (List.getElem?_eq_some_iff.1 hge).2
  have hil : i + 1 ≤ j.ofs.length := hi
  have hset3 := hasF_set j.ofs.length t.has i (t.has i - 1)
  have hwh : IntKind.i64.wrap (t.has i - 1) = t.has i - 1 := wrap64 (by omega) (by omega)
  cases hx2 : sIdx (i, gp.hour) s.slots with
  | none =>
    have hnm := sIdx_none.1 hx2
    rw [hx2] at hf
    have hput : putS s.slots (i, gp.hour) = s.slots ++ [(i, gp.hour)] := if_neg hnm
    rw [hput] at e143
    simp [tv, slotC] at e143
    cases b
    · simp [TR, c159_l0b, hp, hw, H.a, z2, z2', hal, gP, gP', hc', H.f, f1', q1, fB, gpe, gpe', Pst.enc, q5, hsl, hsl', hko, hf, tv, frzFuncs_nil, frzFuncs_c, frzFuncs_slice, frzFuncs_ptr, frzFuncs_map, e143]
    · simp [TR, c159_l0b, hp, hw, H.a, z2, z2', hal, gP, gP', hc', H.f, f1', q1, fB, gpe, gpe', Pst.enc, q5, hsl, hsl', hko, hf, tv, frzFuncs_nil, frzFuncs_c, frzFuncs_slice, frzFuncs_ptr, frzFuncs_map, e143, Ht.f, Ht.hs, z1, z3, z1', z3', hhl, hge, hge', hil, hset3, hwh, hi]
  | some k =>
    have hk := sIdx_some hx2
    have hnm : (i, gp.hour) ∈ s.slots := by
      apply Classical.byContradiction
      intro h
      rw [sIdx_none.2 h] at hx2
      cases hx2
    rw [hx2] at hf
    have hput : putS s.slots (i, gp.hour) = s.slots := if_pos hnm
    have hts := tv_set s.slots k
    rw [hput] at e143
    cases b
    · simp [TR, c159_l0b, hp, hw, H.a, z2, z2', hal, gP, gP', hc', H.f, f1', q1, fB, gpe, gpe', Pst.enc, q5, hsl, hsl', hko, hf, hts, frzFuncs_nil, frzFuncs_c, frzFuncs_slice, frzFuncs_ptr, frzFuncs_map, e143]
    · simp [TR, c159_l0b, hp, hw, H.a, z2, z2', hal, gP, gP', hc', H.f, f1', q1, fB, gpe, gpe', Pst.enc, q5, hsl, hsl', hko, hf, hts, frzFuncs_nil, frzFuncs_c, frzFuncs_slice, frzFuncs_ptr, frzFuncs_map, e143, Ht.f, Ht.hs, z1, z3, z1', z3', hhl, hge, hge', hil, hset3, hwh, hi]
end LM.G9
namespace LM.G9
open Go LM
variable {P : Nat → Option SFunc} [Has P]
abbrev loS (j : Jur) (L : Loc) : LV := .slice L.bo 1 0 j.ofs.length none (some j.ofs.length)
def PlaceW (P : Nat → Option SFunc) (j : Jur) (lds : List Int) (L : Loc) (f : Nat) : Prop := ∀ (p : Nat) (s : Fs) (hx : Heap), p < j.pts.length → HpF j lds L s hx → Inv (jy j lds) s → Own (jy j lds) s p → untried (jy j lds) s ≤ f →
  ∃ h', sfn P 143 [.ptr L.bf 0 0, .c (ci p), .map L.bs, loS j L] hx = some (.c (.bool (placeF (jy j lds) (f + 1) p s).1), h') ∧ HpF j lds L (placeF (jy j lds) (f + 1) p s).2 h' ∧ Fr L hx h'
def FreeW (P : Nat → Option SFunc) (j : Jur) (lds : List Int) (L : Loc) (f : Nat) : Prop := ∀ (i : Nat) (s : Fs) (hx : Heap), i < j.ofs.length → HpF j lds L s hx → Inv (jy j lds) s → untried (jy j lds) s ≤ f →
  ∃ h', sfn P 159 [.ptr L.bf 0 0, .c (ci i), .map L.bs, loS j L] hx = some (.c (.bool (freeF (jy j lds) (placeF (jy j lds) (f + 1)) i s).1), h') ∧ HpF j lds L (freeF (jy j lds) (placeF (jy j lds) (f + 1)) i s).2 h' ∧ Fr L hx h'
theorem cnt_m (J : Jy) (B : Nat → Option Nat) (i : Nat) : cntA J B i ≤ J.m := by
  have := List.countP_le_length (p := fun p => decide (B p = some i)) (l := List.range J.m)
  rw [List.length_range] at this
  exact this
theorem under_TP {j : Jur} {L : Loc} {p : Nat} {i : Int} {n : Nat} (h : L.lt n) : ∀ v ∈ TP j L p i, v.under n = true := by
  intro v hv
  simp only [TP, List.mem_cons, List.not_mem_nil, or_false] at hv
  have := h.f
  have := h.s
  have := h.o
  rcases hv with rfl | rfl | rfl | rfl | rfl | rfl <;> simp [LV.under] <;> omega
theorem under_TR {j : Jur} {L : Loc} {i : Nat} {p : Int} {n : Nat} (h : L.lt n) : ∀ v ∈ TR j L i p, v.under n = true := by
  intro v hv
  simp only [TR, List.mem_cons, List.not_mem_nil, or_false] at hv
  have := h.f
  have := h.s
  have := h.o
  have := h.a
  rcases hv with rfl | rfl | rfl | rfl | rfl | rfl | rfl <;> simp [LV.under] <;> omega
theorem L159 (j : Jur) (lds : List Int) (hjl : j.pts.length < 1000) (L : Loc) (hL : L.ok) (f : Nat) (hW : PlaceW P j lds L f) (i : Nat) (hi : i < j.ofs.length) : ∀ (m k : Nat) (s : Fs) (hx : Heap), k + m = j.pts.length → HpF j lds L s hx → Inv (jy j lds) s → untried (jy j lds) s ≤ f → (jy j lds).ld i ≤ s.has i → s.offs i = true →
    ∃ h', execS P (limS P) c159_l0 ⟨TR j L i k, hx⟩ = (if (freeL (jy j lds) (placeF (jy j lds) (f + 1)) i (List.range' k m) s).1 = true then some (.ret, ⟨[.c (.bool true)], h'⟩) else some (.exit 0, ⟨[], h'⟩)) ∧ HpF j lds L (freeL (jy j lds) (placeF (jy j lds) (f + 1)) i (List.range' k m) s).2 h' ∧ Fr L hx h' := by
  intro m
  induction m with
  | zero =>
    intro k s hx hk H _ _ _ _
    refine ⟨hx, ?_, H, Fr.rfl' L hx⟩
    have hk' : k = j.pts.length := by omega
    rw [r159_l0]
    simp [TR, c159_l0b, hk', freeL]
  | succ m ih =>
    intro k s hx hk H hI hu hld ho
    have hkl : k < j.pts.length := by omega
    rw [List.range'_succ, freeL, r159_l0]
    by_cases hc : s.pl k ≠ some i
    · rw [if_pos hc, B159_skip j lds hjl L s hx H k i hkl hc, seqK_normal]
      obtain ⟨hg, hg1, hg2⟩ := gc_any (n := hx.length) (ts := TR j L i (k + 1)) (h := hx) (Nat.le_refl _) (under_TR H.lt)
      show ∃ h', execS P (limS P) c159_l0 (gc hx.length _) = _ ∧ _
      rw [hg1]
      obtain ⟨h', i1, i2, i3⟩ := ih (k + 1) s hg (by omega) (H.near H.lt hg2) hI hu hld ho
      have ek : ((k + 1 : Nat) : Int) = (k : Int) + 1 := by omega
      rw [ek] at i1
      exact ⟨h', i1, i2, hg2.fr.trans i3⟩
    · have hc : s.pl k = some i := Classical.not_not.1 hc
      rw [if_neg (by simp [hc])]
      have H1 := H.slots hL (putS s.slots (i, hourAt j k))
      have hO : Own (jy j lds) { s with slots := putS s.slots (i, hourAt j k) } k := fun a ha => putS_mem.2 (.inr (by have : some i = some a := hc.symm.trans ha; cases this; rfl))
      obtain ⟨hz, e1, e2, e3⟩ := hW k { s with slots := putS s.slots (i, hourAt j k) } _ hkl H1 (hI.same rfl rfl) hO hu
      obtain ⟨g1, g2⟩ := placeF_good (J := jy j lds) f k { s with slots := putS s.slots (i, hourAt j k) } hkl (hI.same rfl rfl) hO hu
      have hfr : Fr L hx hz := ((Fr.rfl' L hx).set (.inr (.inr (.inr (.inl rfl)))) _).trans e3
      have ehr : (jy j lds).hr k = hourAt j k := rfl
      rw [ehr]
      generalize placeF (jy j lds) (f + 1) k { s with slots := putS s.slots (i, hourAt j k) } = r at *
      have hcnt := hI.cnt i hi
      have hcm := cnt_m (jy j lds) s.pl i
      have hjm : (jy j lds).m = j.pts.length := rfl
      cases hr : r.1
      · obtain ⟨v1, v2⟩ := g1 hr
        have v3 := v1.add (.inl ⟨k, hkl, by rw [v1.pl]; exact hc, rfl, v2⟩)
        rw [hr] at e1
        have hb : -1000 ≤ r.2.has i ∧ r.2.has i ≤ 1000 := by rw [v1.has]; simp only; omega
        rw [B159_go j lds hjl L hL s hx H k i hkl hi hc hz r.2 false e1 e2 hb]
        simp only [Bool.false_eq_true, if_false, seqK_normal]
        obtain ⟨hg, hg1, hg2⟩ := gc_any (n := hx.length) (ts := TR j L i (k + 1)) (h := hz) hfr.1 (under_TR H.lt)
        rw [hg1]
        obtain ⟨h', i1, i2, i3⟩ := ih (k + 1) r.2 hg (by omega) (e2.near H.lt hg2) (hI.same v1.pl v1.has) (Nat.le_trans (untried_le v3.tried) hu) (by rw [v1.has]; exact hld) (v1.offs i ho)
        have ek : ((k + 1 : Nat) : Int) = (k : Int) + 1 := by omega
        rw [ek] at i1
        refine ⟨h', i1, i2, ?_⟩
        exact Fr.trans ⟨hg2.1, fun x hx1 a b c d e => (hg2.2 x hx1).trans (hfr.2 x hx1 a b c d e)⟩ i3
      · obtain ⟨_, w⟩ := g2 hr
        rw [hr] at e1
        have hw := w.cnt i hi
        have hwm := cnt_m (jy j lds) r.2.pl i
        have hb : -1000 ≤ r.2.has i ∧ r.2.has i ≤ 1000 := by split at hw <;> omega
        rw [B159_go j lds hjl L hL s hx H k i hkl hi hc hz r.2 true e1 e2 hb]
        simp only [if_true, seqK_ret]
        exact ⟨_, rfl, e2.has' hL _, hfr.set (.inr (.inl rfl)) _⟩
end LM.G9
namespace LM.G9
open Go LM
variable {P : Nat → Option SFunc} [Has P]
theorem W159 (j : Jur) (lds : List Int) (hlds : lds.length = j.ofs.length) (hjl : j.pts.length < 1000) (L : Loc) (hL : L.ok) (f : Nat) (hW : PlaceW P j lds L f) : FreeW P j lds L f := by
  intro i s hx hi H hI hu
  have q1 := H.lt.f
  have q3 := H.lt.h
  have q6 := H.lt.o
  have f1' := (List.getElem?_eq_some_iff.1 H.f).2
  have h1' := (List.getElem?_eq_some_iff.1 H.hs).2
  have o1' := (List.getElem?_eq_some_iff.1 H.o).2
  have hhl := hasF_len j.ofs.length s.has
  have hge := hasF_get s.has hi
  have hge' := (List.getElem?_eq_some_iff.1 hge).2
  have hbl := boolC_len j.ofs.length s.offs
  have hbe := boolC_get s.offs hi
  have hbe' := (List.getElem?_eq_some_iff.1 hbe).2
  have hbs := boolC_set j.ofs.length s.offs i true
  have hil : i < lds.length := by omega
  have hld : (jy j lds).ld i = lds[i] := by simp [jy, List.getD_eq_getElem?_getD, List.getElem?_eq_getElem hil]
  have hil2 : i + 1 ≤ j.ofs.length := hi
  have hil3 : (i : Int) < lds.length := by omega
  have hi3 : (i : Int) < j.ofs.length := by omega
  rw [u159]
  unfold freeF
  rw [hld]
  by_cases h1 : s.has i < lds[i]
  · rw [if_pos h1]
    refine ⟨hx, ?_, H, Fr.rfl' L hx⟩
    simp [c159, H.f, f1', q1, fB, H.hs, h1', q3, hi, hi3, hhl, hge, hge', hil, hil3, h1]
  · rw [if_neg h1]
    by_cases h2 : s.offs i = true
    · rw [if_pos h2]
      refine ⟨hx, ?_, H, Fr.rfl' L hx⟩
      simp [c159, H.f, f1', q1, fB, H.hs, h1', q3, hi, hi3, hhl, hge, hge', hil, hil3, h1, H.o, o1', q6, hbl, hbe, hbe', h2]
    · rw [if_neg h2]
      have h2 : s.offs i = false := by simpa using h2
      have H1 := H.offs' hL (up s.offs i true)
      obtain ⟨h', k1, k2, k3⟩ := L159 (P := P) j lds hjl L hL f hW i hi j.pts.length 0 { s with offs := up s.offs i true } _ (by omega) H1 (hI.same rfl rfl) hu (by rw [hld]; exact Int.not_lt.1 h1) (up_same _ _ _)
      have er : List.range' 0 j.pts.length = List.range (jy j lds).m := (List.range_eq_range').symm
      rw [er] at k1 k2
      have p1 := H1.lt.f
      have p1' := (List.getElem?_eq_some_iff.1 H1.f).2
      refine ⟨h', ?_, k2, Fr.trans ((Fr.rfl' L hx).set (.inr (.inr (.inr (.inr rfl)))) _) k3⟩
      generalize freeL (jy j lds) (placeF (jy j lds) (f + 1)) i (List.range (jy j lds).m) { s with offs := up s.offs i true } = r at *
      have p2 := H1.f
      simp only [TR] at k1
      cases hr : r.1
      · rw [hr] at k1
        simp at k1
        simp [c159, H.f, f1', q1, fB, H.hs, h1', q3, hi, hi3, hhl, hge, hge', hil, hil3, h1, H.o, o1', q6, hbl, hbe, hbe', h2, hbs, hil2, p2, p1, p1', k1]
        done
      · rw [hr] at k1
        simp at k1
        simp [c159, H.f, f1', q1, fB, H.hs, h1', q3, hi, hi3, hhl, hge, hge', hil, hil3, h1, H.o, o1', q6, hbl, hbe, hbe', h2, hbs, hil2, p2, p1, p1', k1]
        done
theorem HpF.app {j : Jur} {lds : List Int} {L : Loc} {s : Fs} {h : Heap} (H : HpF j lds L s h) (X : Heap) : HpF j lds L s (h ++ X) := H.near H.lt ((Same.rfl' (Nat.le_refl _)).app X)
theorem Fr.gc {L : Loc} {h k l : Heap} (h1 : Fr L h k) (h2 : Same h.length k l) : Fr L h l := ⟨h2.1, fun x hx a b c d e => (h2.2 x hx).trans (h1.2 x hx a b c d e)⟩
theorem L143 (j : Jur) (hj : j.ok) (lds : List Int) (hjl : j.ofs.length < 1000) (hjp : j.pts.length < 1000) (L : Loc) (hL : L.ok) (f : Nat) (hW : PlaceW P j lds L f) (hV : FreeW P j lds L f) (p : Nat) (hp : p < j.pts.length) : ∀ (m k : Nat) (s : Fs) (hx : Heap), k + m = j.ofs.length → HpF j lds L s hx → Inv (jy j lds) s → Own (jy j lds) s p → s.tried p = true → untried (jy j lds) s ≤ f →
    ∃ h', execS P (limS P) c143_l0 ⟨TP j L p k, hx⟩ = (if (tryL (jy j lds) (placeF (jy j lds) (f + 1)) p (List.range' k m) s).1 = true then some (.ret, ⟨[.c (.bool true)], h'⟩) else some (.exit 0, ⟨[], h'⟩)) ∧ HpF j lds L (tryL (jy j lds) (placeF (jy j lds) (f + 1)) p (List.range' k m) s).2 h' ∧ Fr L hx h' := by
  intro m
  induction m with
  | zero =>
    intro k s hx hk H _ _ _ _
    refine ⟨hx, ?_, H, Fr.rfl' L hx⟩
    have hk' : k = j.ofs.length := by omega
    rw [r143_l0]
    simp [TP, c143_l0b, hk', tryL]
  | succ m ih =>
    intro k s hx hk H hI hO ht hu
    have hkl : k < j.ofs.length := by omega
    have ek : ((k + 1 : Nat) : Int) = (k : Int) + 1 := by omega
    have ehr : (jy j lds).hr p = hourAt j p := rfl
    rw [List.range'_succ, tryL, r143_l0]
    -- behind a search in vain
    have vain : ∀ (t : Fs) (hz : Heap), HpF j lds L t hz → Fr L hx hz → Vain (jy j lds) s t → ∃ h', execS P (limS P) c143_l0 (gc hx.length ⟨TP j L p (k + 1), hz⟩) = (if (tryL (jy j lds) (placeF (jy j lds) (f + 1)) p (List.range' (k + 1) m) t).1 = true then some (.ret, ⟨[.c (.bool true)], h'⟩) else some (.exit 0, ⟨[], h'⟩)) ∧ HpF j lds L (tryL (jy j lds) (placeF (jy j lds) (f + 1)) p (List.range' (k + 1) m) t).2 h' ∧ Fr L hx h' := by
      intro t hz Ht hfr v
      obtain ⟨hg, hg1, hg2⟩ := gc_any (n := hx.length) (ts := TP j L p (k + 1)) (h := hz) hfr.1 (under_TP H.lt)
      rw [hg1]
      obtain ⟨h', i1, i2, i3⟩ := ih (k + 1) t hg (by omega) (Ht.near H.lt hg2) (hI.same v.pl v.has) (fun a ha => v.slots _ (hO a (by rw [← v.pl]; exact ha))) (v.tried p ht) (Nat.le_trans (untried_le v.tried) hu)
      rw [ek] at i1
      exact ⟨h', i1, i2, (hfr.gc hg2).trans i3⟩
    by_cases hc : (jy j lds).sv k p = false ∨ (k, (jy j lds).hr p) ∈ s.slots
    · rw [if_pos hc, B143_skip j hj lds hjl L s hx H p k hp hkl hc, seqK_normal]
      exact vain s _ (H.app _) ((Fr.rfl' L hx).trans ((Same.rfl' (Nat.le_refl _)).app _).fr) (Vain.rfl' s)
    · rw [if_neg hc]
      obtain ⟨hsv, hsl⟩ := not_or.1 hc
      have hsv : (jy j lds).sv k p = true := by simpa using hsv
      have hput : putS s.slots (k, hourAt j p) = s.slots ++ [(k, hourAt j p)] := if_neg hsl
      have hpk : s.pl p ≠ some k := fun e => hsl (hO k e)
      have H1 : HpF j lds L { s with slots := putS s.slots (k, hourAt j p) } (slH L s hx k (hourAt j p)) := by
        rw [hput]
        unfold slH
        exact (H.slots hL _).app _
      have hfr1 : Fr L hx (slH L s hx k (hourAt j p)) := by
        unfold slH
        exact ((Fr.rfl' L hx).set (.inr (.inr (.inr (.inl rfl)))) _).trans ((Same.rfl' (Nat.le_refl _)).app _).fr
      obtain ⟨hy, y1, y2⟩ := S158 (P := P) j lds hjp L hL { s with slots := putS s.slots (k, hourAt j p) } (slH L s hx k (hourAt j p)) k (hourAt j p) H1
      have Hy := H1.near H1.lt y1
      have hfry := hfr1.trans y1.fr
      rw [ehr]
      have hcm := cnt_m (jy j lds) s.pl k
      have hcnt := hI.cnt k hkl
      have hjm : (jy j lds).m = j.pts.length := rfl
      cases ho : holdF (jy j lds) s.pl k (hourAt j p) with
      | some o =>
        simp only
        obtain ⟨o1, o2, o3⟩ := hold_some ho
        have o1' : o < j.pts.length := o1
        rw [show (({ s with slots := putS s.slots (k, hourAt j p) } : Fs).pl) = s.pl from rfl, ho] at y2
        have hO1 : Own (jy j lds) { s with slots := putS s.slots (k, hourAt j p) } o := fun a ha => putS_mem.2 (.inr (by have : some k = some a := o3.symm.trans ha; cases this; rw [o2]))
        obtain ⟨hz, e1, e2, e3⟩ := hW o { s with slots := putS s.slots (k, hourAt j p) } hy o1' Hy (hI.same rfl rfl) hO1 hu
        obtain ⟨g1, g2⟩ := placeF_good (J := jy j lds) f o { s with slots := putS s.slots (k, hourAt j p) } o1 (hI.same rfl rfl) hO1 hu
        generalize placeF (jy j lds) (f + 1) o { s with slots := putS s.slots (k, hourAt j p) } = r at *
        rw [B143_hold j hj lds hjl L hL s hx H p k hp hkl hsv hsl o hy hz r.2 y2 r.1 e1 e2]
        cases hr : r.1
        · obtain ⟨v1, v2⟩ := g1 hr
          simp only [Bool.false_eq_true, if_false, seqK_normal]
          exact vain r.2 hz e2 (hfry.trans e3) (v1.add (.inl ⟨o, o1, by rw [v1.pl]; exact o3, o2, v2⟩))
        · simp only [if_true, seqK_ret]
          exact ⟨_, rfl, e2.at' hL _, (hfry.trans e3).set (.inl rfl) _⟩
      | none =>
        simp only
        rw [show (({ s with slots := putS s.slots (k, hourAt j p) } : Fs).pl) = s.pl from rfl, ho] at y2
        obtain ⟨hz, e1, e2, e3⟩ := hV k { s with slots := putS s.slots (k, hourAt j p) } hy hkl Hy (hI.same rfl rfl) hu
        obtain ⟨g1, g2⟩ := freeF_good (placeF_good (J := jy j lds) f) hkl { s with slots := putS s.slots (k, hourAt j p) } (hI.same rfl rfl) hu
        generalize freeF (jy j lds) (placeF (jy j lds) (f + 1)) k { s with slots := putS s.slots (k, hourAt j p) } = r at *
        cases hr : r.1
        · obtain ⟨v1, v2, v3⟩ := g1 hr
          have hb : -1000 ≤ r.2.has k ∧ r.2.has k ≤ 1000 := by rw [v1.has]; simp only; omega
          rw [hr] at e1
          rw [B143_free j hj lds hjl L hL s hx H p k hp hkl hsv hsl hy hz r.2 y2 false e1 e2 hb]
          simp only [Bool.false_eq_true, if_false, seqK_normal]
          exact vain r.2 hz e2 (hfry.trans e3) (v1.add (.inr ⟨v2, v3⟩))
        · have w := g2 hr
          have hw := w.cnt k hkl
          have hwm := cnt_m (jy j lds) r.2.pl k
          have hb : -1000 ≤ r.2.has k ∧ r.2.has k ≤ 1000 := by omega
          rw [hr] at e1
          rw [B143_free j hj lds hjl L hL s hx H p k hp hkl hsv hsl hy hz r.2 y2 true e1 e2 hb]
          simp only [if_true, seqK_ret]
          exact ⟨_, rfl, (e2.at' hL _).has' hL _, ((hfry.trans e3).set (.inl rfl) _).set (.inr (.inl rfl)) _⟩
theorem W143 (j : Jur) (hj : j.ok) (lds : List Int) (hlds : lds.length = j.ofs.length) (hjl : j.ofs.length < 1000) (hjp : j.pts.length < 1000) (L : Loc) (hL : L.ok) : ∀ f : Nat, PlaceW P j lds L f := by
  have base : ∀ (p : Nat) (s : Fs) (hx : Heap) (g : Nat), p < j.pts.length → HpF j lds L s hx → s.tried p = true → ∃ h', sfn P 143 [.ptr L.bf 0 0, .c (ci p), .map L.bs, loS j L] hx = some (.c (.bool (placeF (jy j lds) (g + 1) p s).1), h') ∧ HpF j lds L (placeF (jy j lds) (g + 1) p s).2 h' ∧ Fr L hx h' := by
    intro p s hx g hp H ht
    have q1 := H.lt.f
    have q4 := H.lt.t
    have f1' := (List.getElem?_eq_some_iff.1 H.f).2
    have t1' := (List.getElem?_eq_some_iff.1 H.t).2
    have hbl := boolC_len j.pts.length s.tried
    have hbe := boolC_get s.tried hp
    have hbe' := (List.getElem?_eq_some_iff.1 hbe).2
    rw [placeF, if_pos ht]
    refine ⟨hx, ?_, H, Fr.rfl' L hx⟩
    rw [u143]
    simp [c143, H.f, f1', q1, fB, H.t, t1', q4, hp, hbl, hbe, hbe', ht]
  intro f
  induction f with
  | zero =>
    intro p s hx hp H hI hO hu
    refine base p s hx 0 hp H ?_
    cases h : s.tried p
    · have := untried_up (J := jy j lds) hp h
      omega
    · rfl
  | succ f ih =>
    intro p s hx hp H hI hO hu
    by_cases ht : s.tried p = true
    · exact base p s hx (f + 1) hp H ht
    · have ht : s.tried p = false := by simpa using ht
      rw [placeF, if_neg (by simp [ht])]
      have q1 := H.lt.f
      have q4 := H.lt.t
      have f1' := (List.getElem?_eq_some_iff.1 H.f).2
      have t1' := (List.getElem?_eq_some_iff.1 H.t).2
      have hbl := boolC_len j.pts.length s.tried
      have hbe := boolC_get s.tried hp
      have hbe' := (List.getElem?_eq_some_iff.1 hbe).2
      have hbs := boolC_set j.pts.length s.tried p true
      have hpl : p + 1 ≤ j.pts.length := hp
      have hup := untried_up (J := jy j lds) hp ht
      have H1 := H.tried' hL (up s.tried p true)
      obtain ⟨h', k1, k2, k3⟩ := L143 (P := P) j hj lds hjl hjp L hL f ih (W159 j lds hlds hjp L hL f ih) p hp j.ofs.length 0 { s with tried := up s.tried p true } _ (by omega) H1 (hI.same rfl rfl) hO (up_same _ _ _) (by omega)
      have er : List.range' 0 j.ofs.length = List.range (jy j lds).n := (List.range_eq_range').symm
      rw [er] at k1 k2
      have p1 := H1.lt.f
      have p1' := (List.getElem?_eq_some_iff.1 H1.f).2
      have p2 := H1.f
      refine ⟨h', ?_, k2, Fr.trans ((Fr.rfl' L hx).set (.inr (.inr (.inl rfl))) _) k3⟩
      generalize tryL (jy j lds) (placeF (jy j lds) (f + 1)) p (List.range (jy j lds).n) { s with tried := up s.tried p true } = r at *
      simp only [TP] at k1
      rw [u143]
      cases hr : r.1
      · rw [hr] at k1
        simp at k1
        simp [c143, H.f, f1', q1, fB, H.t, t1', q4, hp, hbl, hbe, hbe', ht, hbs, hpl, p2, p1, p1', k1]
        done
      · rw [hr] at k1
        simp at k1
        simp [c143, H.f, f1', q1, fB, H.t, t1', q4, hp, hbl, hbe, hbe', ht, hbs, hpl, p2, p1, p1', k1]
        done
end LM.G9
namespace LM.G9
open Go LM
variable {P : Nat → Option SFunc} [Has P]
def bitB (set p : Nat) : Bool := decide (set / 2 ^ p % 2 = 1)
def popN : Nat → Nat → Nat
  | 0, _ => 0
  | n + 1, x => x % 2 + popN n (x / 2)
def repM (m : Nat) : List LV := List.replicate m (.c (ci (-1)))
structure Tabs9 (P : Nat → Option SFunc) : Prop where
  rep : ∀ m : Nat, m ≤ 5 → ffn P 131 [.slice [ci (-1)], ci m] = some (.slice 1 1 0 m none (some m), [.cells 1 [] 0, .cells 1 (repM m) 0])
  pop : ∀ x : Nat, x < 32 → fn P 144 [.int .u64 x] = some (ci (popN 5 x))
theorem and1_all : (List.range 32).all (fun v => IntKind.u64.wrap (((((v : Nat) : Int) % 2 ^ IntKind.u64.bits).toNat &&& 1 % 2 ^ IntKind.u64.bits : Nat) : Int) == ((v % 2 : Nat) : Int)) = true := by decide +kernel
theorem and1 {set p : Nat} (h : set / 2 ^ p < 32) : IntKind.u64.wrap ((((set : Int) / 2 ^ p % 2 ^ IntKind.u64.bits).toNat &&& 1 % 2 ^ IntKind.u64.bits : Nat) : Int) = ((set / 2 ^ p % 2 : Nat) : Int) := by
  have := eq_of_beq (List.all_eq_true.1 and1_all (set / 2 ^ p) (List.mem_range.2 h))
  have e : (((set / 2 ^ p : Nat)) : Int) = (set : Int) / 2 ^ p := by norm_cast
  rw [e] at this
  exact this
theorem shrU {v p : Nat} (hp : p < 64) : shiftInt .shr .u64 ((v : Nat) : Int) ((p : Nat) : Int) = some (.int .u64 ((v / 2 ^ p : Nat) : Int)) := by
  unfold shiftInt
  rw [if_neg (by omega)]
  have e1 : Nat.min (p : Int).toNat IntKind.u64.bits = p := by
    have : (p : Int).toNat = p := by omega
    rw [this]
    show Nat.min p 64 = p
    exact Nat.min_eq_left (by omega)
  simp only [e1]
  congr 2
  rw [Int.fdiv_eq_ediv_of_nonneg _ (by exact_mod_cast Nat.zero_le _)]
  norm_cast
/-- The state between posts. -/
structure LI (j : Jur) (lds : List Int) (s : Fs) (h : Heap) : Prop where
  z : h[0]? = some (JB j)
  f : ∃ X, h[7]? = some (.cells 0 [.c (.slice (j.ofs.map Ofc.enc)), .c (.slice (j.pts.map Pst.enc)), .c (.slice (lds.map ci)), .slice 3 1 0 j.pts.length none (some j.pts.length), .slice 6 1 0 j.ofs.length none (some j.ofs.length), X] 0)
  a : h[3]? = some (.cells 1 (atC j.pts.length s.pl) 0)
  hs : h[6]? = some (.cells 1 (hasF j.ofs.length s.has) 0)
def TF (j : Jur) (set n : Nat) (i : Int) : List LV := [.c (.int .u64 set), .ptr 0 0 0, .ptr 7 0 0, .c (ci n), .c (ci j.pts.length), .c (ci i)]
theorem rep_bool (n : Nat) : List.replicate n (LV.c (.bool false)) = boolC n fun _ => false := by
  unfold boolC
  apply List.ext_getElem
  · simp
  · intro i h1 h2
    simp
def locF (m n : Nat) : Loc := ⟨7, 3, 1, some m, 6, n, n + 1, n + 2⟩
theorem locF_ok {m n : Nat} (h : 8 ≤ n) : (locF m n).ok := by
  constructor <;> simp only [locF] <;> omega
theorem LI.len {j : Jur} {lds : List Int} {s : Fs} {h : Heap} (H : LI j lds s h) : 8 ≤ h.length := by
  obtain ⟨X, hX⟩ := H.f
  have := lt_get hX
  omega
/-- The heap with a post's own parts. -/
def hF (j : Jur) (lds : List Int) (hx : Heap) : Heap := (hx ++ [LB.cells 1 (boolC j.pts.length fun _ => false) 0]).set 7 (fB j lds (locF j.pts.length hx.length) 0)
theorem B118_no (j : Jur) (lds : List Int) (hm : j.pts.length ≤ 5) (set n : Nat) (s : Fs) (hx : Heap) (H : LI j lds s hx) (p : Nat) (hp : p < j.pts.length) (hset : set < 32) (hb : bitB set p = false) :
    execS P (limS P) c118_l0b ⟨TF j set n p, hx⟩ = some (.normal, ⟨TF j set n (p + 1), hF j lds hx⟩) := by
  have hw : IntKind.i64.wrap ((p : Int) + 1) = (p : Int) + 1 := wrap64 (by omega) (by omega)
  have h8 := H.len
  obtain ⟨X, hX⟩ := H.f
  have hX' := (List.getElem?_eq_some_iff.1 hX).2
  have hz := H.z
  have hz' := (List.getElem?_eq_some_iff.1 hz).2
  have l0 : 0 < hx.length := by omega
  have l7 : 7 < hx.length := by omega
  have l0' : 0 < hx.length + 1 := by omega
  have l7' : 7 < hx.length + 1 := by omega
  have a0 : ∀ X : LB, (hx ++ [X])[0]? = some (JB j) := fun X => by rw [List.getElem?_append_left l0]; exact hz
  have a0' := fun X => (List.getElem?_eq_some_iff.1 (a0 X)).2
  have a7 : ∀ X' : LB, (hx ++ [X'])[7]? = some (.cells 0 [.c (.slice (j.ofs.map Ofc.enc)), .c (.slice (j.pts.map Pst.enc)), .c (.slice (lds.map ci)), .slice 3 1 0 j.pts.length none (some j.pts.length), .slice 6 1 0 j.ofs.length none (some j.ofs.length), X] 0) := fun X' => by rw [List.getElem?_append_left l7]; exact hX
  have a7' := fun X => (List.getElem?_eq_some_iff.1 (a7 X)).2
  have hsh := shrU (v := set) (p := p) (by omega)
  have hle : set / 2 ^ p < 32 := Nat.lt_of_le_of_lt (Nat.div_le_self _ _) hset
  have han := and1 hle
  have hbb : set / 2 ^ p % 2 = 0 := by
    unfold bitB at hb
    simp at hb
    omega
  rw [hbb] at han
  have hrb := rep_bool j.pts.length
  unfold JB at *
  have s1 : (j.pts.length : Int) ≤ 140737488355328 := by omega
  have s2 : (j.pts.length : Int) ≤ 9223372036854775807 := by omega
  simp [TF, c118_l0b, hp, hw, hz, hz', l0, l0', l7', a0, a0', a7, a7', hsh, han, hrb, s1, s2, hF, fB, locF]
theorem B118_yes (j : Jur) (lds : List Int) (hm : j.pts.length ≤ 5) (set n : Nat) (s : Fs) (hx : Heap) (H : LI j lds s hx) (p : Nat) (hp : p < j.pts.length) (hset : set < 32) (hb : bitB set p = true) (hjl : j.ofs.length < 1000) (hn : n < 1000) (b : Bool) (hz2 : Heap)
    (e143 : sfn P 143 [.ptr 7 0 0, .c (ci p), .map (hx.length + 1), .slice (hx.length + 1 + 1) 1 0 j.ofs.length none (some j.ofs.length)] (hF j lds hx ++ [.map [] [] false, .cells 1 (boolC j.ofs.length fun _ => false) 0]) = some (.c (.bool b), hz2)) :
    execS P (limS P) c118_l0b ⟨TF j set n p, hx⟩ = some (.normal, ⟨TF j set (n + if b then 1 else 0) (p + 1), hz2⟩) := by
  have hw : IntKind.i64.wrap ((p : Int) + 1) = (p : Int) + 1 := wrap64 (by omega) (by omega)
  have h8 := H.len
  obtain ⟨X, hX⟩ := H.f
  have hX' := (List.getElem?_eq_some_iff.1 hX).2
  have hz := H.z
  have hz' := (List.getElem?_eq_some_iff.1 hz).2
  have l0 : 0 < hx.length := by omega
  have l7 : 7 < hx.length := by omega
  have l0' : 0 < hx.length + 1 := by omega
  have l7' : 7 < hx.length + 1 := by omega
  have a0 : ∀ X : LB, (hx ++ [X])[0]? = some (JB j) := fun X => by rw [List.getElem?_append_left l0]; exact hz
  have a0' := fun X => (List.getElem?_eq_some_iff.1 (a0 X)).2
  have a7 : ∀ X' : LB, (hx ++ [X'])[7]? = some (.cells 0 [.c (.slice (j.ofs.map Ofc.enc)), .c (.slice (j.pts.map Pst.enc)), .c (.slice (lds.map ci)), .slice 3 1 0 j.pts.length none (some j.pts.length), .slice 6 1 0 j.ofs.length none (some j.ofs.length), X] 0) := fun X' => by rw [List.getElem?_append_left l7]; exact hX
  have a7' := fun X => (List.getElem?_eq_some_iff.1 (a7 X)).2
  have hsh := shrU (v := set) (p := p) (by omega)
  have hle : set / 2 ^ p < 32 := Nat.lt_of_le_of_lt (Nat.div_le_self _ _) hset
  have han := and1 hle
  have hbb : set / 2 ^ p % 2 = 1 := by
    unfold bitB at hb
    simp at hb
    omega
  rw [hbb] at han
  have hrb := rep_bool j.pts.length
  unfold JB at *
  have s1 : (j.pts.length : Int) ≤ 140737488355328 := by omega
  have s3 : (j.ofs.length : Int) ≤ 140737488355328 := by omega
  have s4 : (j.ofs.length : Int) ≤ 9223372036854775807 := by omega
  have hrb2 := rep_bool j.ofs.length
  have hwn : IntKind.i64.wrap ((n : Int) + 1) = (n : Int) + 1 := wrap64 (by omega) (by omega)
  have hlF : (hF j lds hx).length = hx.length + 1 := by simp [hF]
  have hF0 : (hF j lds hx)[0]? = some (.cells 0 [.c (.slice (j.ofs.map Ofc.enc)), .c (.slice (j.pts.map Pst.enc))] 0) := by unfold hF; rw [List.getElem?_set_ne (by omega)]; exact a0 _
  have hFe : (hx ++ [LB.cells 1 (boolC j.pts.length fun _ => false) 0]).set 7 (.cells 0 [.c (.slice (j.ofs.map Ofc.enc)), .c (.slice (j.pts.map Pst.enc)), .c (.slice (lds.map ci)), .slice 3 1 0 j.pts.length none (some j.pts.length), .slice 6 1 0 j.ofs.length none (some j.ofs.length), .slice hx.length 1 0 j.pts.length none (some j.pts.length)] 0) = hF j lds hx := rfl
  have hG0 : ∀ X : LB, (hF j lds hx ++ [X])[0]? = some (.cells 0 [.c (.slice (j.ofs.map Ofc.enc)), .c (.slice (j.pts.map Pst.enc))] 0) := fun X => by rw [List.getElem?_append_left (by omega)]; exact hF0
  have hG0' := fun X => (List.getElem?_eq_some_iff.1 (hG0 X)).2
  have l00 : 0 < hx.length + 1 + 1 := by omega
  have s2 : (j.pts.length : Int) ≤ 9223372036854775807 := by omega
  cases b
  · simp [TF, c118_l0b, hp, hw, hz, hz', l0, l0', l7', a0, a0', a7, a7', hsh, han, hrb, s1, s2, s3, s4, hrb2, hFe, hlF, hG0, hG0', l00, frzFuncs_nil, frzFuncs_c, frzFuncs_slice, frzFuncs_ptr, frzFuncs_map, e143]
    done
  · simp [TF, c118_l0b, hp, hw, hz, hz', l0, l0', l7', a0, a0', a7, a7', hsh, han, hrb, s1, s2, s3, s4, hrb2, hFe, hlF, hG0, hG0', l00, frzFuncs_nil, frzFuncs_c, frzFuncs_slice, frzFuncs_ptr, frzFuncs_map, e143, hwn]
    done
end LM.G9
namespace LM.G9
open Go LM
variable {P : Nat → Option SFunc} [Has P]
theorem LI.near {j : Jur} {lds : List Int} {s t : Fs} {h h' : Heap} (H : LI j lds s h) {n : Nat} (hn : 8 ≤ n) (hs : Same n h h') (e1 : t.pl = s.pl) (e2 : t.has = s.has) : LI j lds t h' := by
  obtain ⟨X, hX⟩ := H.f
  refine ⟨(hs.2 _ (by omega)).trans H.z, ⟨X, (hs.2 _ (by omega)).trans hX⟩, ?_, ?_⟩
  · rw [e1]; exact (hs.2 _ (by omega)).trans H.a
  · rw [e2]; exact (hs.2 _ (by omega)).trans H.hs
theorem LI.hF {j : Jur} {lds : List Int} {s : Fs} {h : Heap} (H : LI j lds s h) : LI j lds s (hF j lds h) ∧ (hF j lds h)[7]? = some (fB j lds (locF j.pts.length h.length) 0) ∧ (hF j lds h).length = h.length + 1 ∧ (hF j lds h)[h.length]? = some (.cells 1 (boolC j.pts.length fun _ => false) 0) := by
  have h8 := H.len
  have e7 : (LM.G9.hF j lds h)[7]? = some (fB j lds (locF j.pts.length h.length) 0) := by
    unfold LM.G9.hF
    rw [List.getElem?_set_self (by simp; omega)]
  refine ⟨⟨?_, ⟨_, e7⟩, ?_, ?_⟩, e7, by simp [LM.G9.hF], ?_⟩
  · unfold LM.G9.hF
    rw [List.getElem?_set_ne (by omega), List.getElem?_append_left (by omega)]; exact H.z
  · unfold LM.G9.hF
    rw [List.getElem?_set_ne (by omega), List.getElem?_append_left (by omega)]; exact H.a
  · unfold LM.G9.hF
    rw [List.getElem?_set_ne (by omega), List.getElem?_append_left (by omega)]; exact H.hs
  · unfold LM.G9.hF
    rw [List.getElem?_set_ne (by omega)]
    simp
theorem under_TF {j : Jur} {set n : Nat} {i : Int} {N : Nat} (h : 8 ≤ N) : ∀ v ∈ TF j set n i, v.under N = true := by
  intro v hv
  simp only [TF, List.mem_cons, List.not_mem_nil, or_false] at hv
  rcases hv with rfl | rfl | rfl | rfl | rfl | rfl <;> simp [LV.under] <;> omega
theorem L118 (j : Jur) (hj : j.ok) (lds : List Int) (hlds : lds.length = j.ofs.length) (hjl : j.ofs.length < 900) (hm : j.pts.length ≤ 5) (set : Nat) (hset : set < 32) : ∀ (m k : Nat) (s : Fs) (hx : Heap) (n : Nat), k + m = j.pts.length → LI j lds s hx → Inv (jy j lds) s → (∀ q, k ≤ q → q < j.pts.length → s.pl q = none) → n + m < 900 →
    ∃ h', execS P (limS P) c118_l0 ⟨TF j set n k, hx⟩ = some (.exit 0, ⟨[.ptr 7 0 0, .c (ci (n + (fillL (jy j lds) ((List.range' k m).filter (bitB set)) s).1 : Nat))], h'⟩) ∧ LI j lds (fillL (jy j lds) ((List.range' k m).filter (bitB set)) s).2 h' := by
  intro m
  induction m with
  | zero =>
    intro k s hx n hk H _ _ _
    refine ⟨hx, ?_, H⟩
    have hk' : k = j.pts.length := by omega
    rw [r118_l0]
    simp [TF, c118_l0b, hk', fillL]
  | succ m ih =>
    intro k s hx n hk H hI h0 hn
    have hkl : k < j.pts.length := by omega
    have h8 := H.len
    have ek : ((k + 1 : Nat) : Int) = (k : Int) + 1 := by omega
    obtain ⟨F1, F2, F3, F4⟩ := H.hF
    rw [List.range'_succ, r118_l0]
    cases hb : bitB set k
    · rw [List.filter_cons_of_neg (by simp [hb]), B118_no j lds hm set n s hx H k hkl hset hb, seqK_normal]
      obtain ⟨hg, hg1, hg2⟩ := gc_any (n := hx.length) (ts := TF j set n (k + 1)) (h := hF j lds hx) (by omega) (under_TF h8)
      show ∃ h', execS P (limS P) c118_l0 (gc hx.length _) = _ ∧ _
      rw [hg1]
      obtain ⟨h', i1, i2⟩ := ih (k + 1) s hg n (by omega) (F1.near h8 hg2 rfl rfl) hI (fun q hq => h0 q (by omega)) (by omega)
      rw [ek] at i1
      exact ⟨h', i1, i2⟩
    · rw [List.filter_cons_of_pos (by simp [hb]), fillL]
      have HL : HpF j lds (locF j.pts.length hx.length) (clean s) (hF j lds hx ++ [.map [] [] false, .cells 1 (boolC j.ofs.length fun _ => false) 0]) := by
        refine ⟨?_, ?_, ?_, ?_, ?_, ?_⟩
        · show (hF j lds hx ++ _)[7]? = _
          rw [List.getElem?_append_left (by omega)]; exact F2
        · show (hF j lds hx ++ _)[3]? = _
          rw [List.getElem?_append_left (by omega)]; exact F1.a
        · show (hF j lds hx ++ _)[6]? = _
          rw [List.getElem?_append_left (by omega)]; exact F1.hs
        · show (hF j lds hx ++ _)[hx.length]? = _
          rw [List.getElem?_append_left (by omega)]; exact F4
        · show (hF j lds hx ++ _)[hx.length + 1]? = _
          rw [List.getElem?_append_right (by omega), F3]
          simp [clean]
        · show (hF j lds hx ++ _)[hx.length + 2]? = _
          rw [List.getElem?_append_right (by omega), F3, show hx.length + 2 - (hx.length + 1) = 1 by omega]
          rfl
      have hpk := h0 k (Nat.le_refl _) hkl
      obtain ⟨hz, e1, e2, e3⟩ := W143 (P := P) j hj lds hlds (by omega) (by omega) (locF j.pts.length hx.length) (locF_ok h8) j.pts.length k (clean s) _ hkl HL (clean_inv hI) (fun i hi => by have : s.pl k = some i := hi; rw [hpk] at this; cases this) (untried_m _)
      have hjm : (jy j lds).m = j.pts.length := rfl
      rw [hjm]
      obtain ⟨g1, g2⟩ := place_one (J := jy j lds) hkl hI hpk
      rw [hjm] at g1 g2
      generalize placeF (jy j lds) (j.pts.length + 1) k (clean s) = r at *
      have hz1 : LI j lds r.2 hz := by
        refine ⟨?_, ⟨_, e2.f⟩, e2.a, e2.hs⟩
        rw [e3.2 0 (by simp) (by simp [locF]) (by simp [locF]) (by simp [locF]; omega) (by simp [locF]) (by simp [locF])]
        rw [List.getElem?_append_left (by omega)]
        exact F1.z
      have hzl : hx.length ≤ hz.length := by have := e3.1; simp at this; omega
      have hInv : Inv (jy j lds) r.2 ∧ ∀ q, k + 1 ≤ q → q < j.pts.length → r.2.pl q = none := by
        cases hr : r.1
        · obtain ⟨v1, v2, _⟩ := g2 hr
          exact ⟨hI.same v1 v2, fun q hq hq2 => by rw [v1]; exact h0 q (by omega) hq2⟩
        · have w := g1 hr
          exact ⟨w.inv (clean_inv hI) hpk, fun q hq hq2 => w.zero q (by omega) (h0 q (by omega) hq2)⟩
      rw [B118_yes j lds hm set n s hx H k hkl hset hb (by omega) (by omega) r.1 hz e1, seqK_normal]
      obtain ⟨hg, hg1, hg2⟩ := gc_any (n := hx.length) (ts := TF j set (n + if r.1 = true then 1 else 0) (k + 1)) (h := hz) hzl (under_TF h8)
      show ∃ h', execS P (limS P) c118_l0 (gc hx.length _) = _ ∧ _
      rw [hg1]
      obtain ⟨h', i1, i2⟩ := ih (k + 1) r.2 hg (n + if r.1 = true then 1 else 0) (by omega) (hz1.near h8 hg2 rfl rfl) hInv.1 hInv.2 (by split <;> omega)
      rw [ek] at i1
      refine ⟨h', ?_, i2⟩
      rw [i1]
      congr 7
      omega
theorem atC_rep (m : Nat) : repM m = atC m fun _ => none := by
  unfold repM atC
  apply List.ext_getElem
  · simp
  · intro i h1 h2
    simp [optI]
theorem shift_rep (k m : Nat) : shiftL k (repM m) = repM m := by
  unfold repM
  induction m with
  | zero => rfl
  | succ m ih => rw [List.replicate_succ, shiftL, ih]; rfl
theorem hasF_rep (n : Nat) : List.replicate n (LV.c (ci 0)) = hasF n fun _ => 0 := by
  unfold hasF
  apply List.ext_getElem
  · simp
  · intro i h1 h2
    simp
def atL (j : Jur) (s : Fs) : List CV := (List.range j.pts.length).map fun p => ci (optI (s.pl p))
theorem resV_own2 {b g fz : Nat} {e : Option Nat} {ys : List CV} {h : Heap} {len : Nat} (hb : h[b]? = some (.cells g (cellsOf ys) fz)) (hy : ∀ x ∈ ys, Elem e x) (hlen : len = ys.length) (cap : Option Nat) (v : CV) :
    resV (some (mkTuple [.c v, .slice b g 0 len e cap])) h = some (.tuple [v, .slice ys]) := by
  have h1 : mkTuple [.c v, .slice b g 0 len e cap] = .tuple [.c v, .slice b g 0 len e cap] := rfl
  unfold resV
  rw [bnd_some, h1, frz_tuple]
  simp only [mapH_cons, frz_succ_c, bnd_some, frz_own39 hb hy hlen cap, mapH_nil]
theorem S118 (T : Tabs9 P) (j : Jur) (hj : j.ok) (lds : List Int) (hlds : lds.length = j.ofs.length) (hl0 : ∀ i, i < j.ofs.length → 0 ≤ (jy j lds).ld i) (hjl : j.ofs.length < 800) (hm : j.pts.length ≤ 5) (set : Nat) (hset : set < 32) :
    fn P 118 [j.enc, .int .u64 set, .slice (lds.map ci)] = some (.tuple [ci (fillL (jy j lds) ((List.range j.pts.length).filter (bitB set)) start).1, .slice (atL j (fillL (jy j lds) ((List.range j.pts.length).filter (bitB set)) start).2)]) := by
  have e131 := T.rep j.pts.length hm
  have H0 : LI j lds start ([JB j, .cells 1 [] 0, .cells 1 [] 0, .cells 1 (repM j.pts.length) 0, .dead, .dead, .cells 1 (List.replicate j.ofs.length (.c (ci 0))) 0, .cells 0 [.c (.slice (j.ofs.map Ofc.enc)), .c (.slice (j.pts.map Pst.enc)), .c (.slice (lds.map ci)), .slice 3 1 0 j.pts.length none (some j.pts.length), .slice 6 1 0 j.ofs.length none (some j.ofs.length), .nil] 0]) := by
    refine ⟨rfl, ⟨_, rfl⟩, ?_, ?_⟩
    · rw [atC_rep]; rfl
    · rw [hasF_rep]; rfl
  obtain ⟨h', k1, k2⟩ := L118 (P := P) j hj lds hlds (by omega) hm set hset j.pts.length 0 start _ 0 (by omega) H0 (start_inv hl0) (fun q _ _ => rfl) (by omega)
  have er : List.range' 0 j.pts.length = List.range j.pts.length := (List.range_eq_range').symm
  rw [er] at k1 k2
  have s1 : (j.ofs.length : Int) ≤ 17592186044416 := by omega
  obtain ⟨X, kf⟩ := k2.f
  have kf' := (List.getElem?_eq_some_iff.1 kf).2
  have l7 := lt_get kf
  have ka := k2.a
  generalize fillL (jy j lds) ((List.range j.pts.length).filter (bitB set)) start = r at *
  simp only [TF, Nat.zero_add, JB] at k1
  rw [u118]
  simp [JB] at k1
  simp [c118, Jur.enc, e131, LV.shift, shiftL, shiftB, LB.shift, shift_rep, allDead, setFrom, s1, k1, kf, kf', l7]
  refine ⟨⟨by omega, by omega⟩, ?_⟩
  have hc : cellsOf (atL j r.2) = atC j.pts.length r.2.pl := by
    unfold atL atC cellsOf
    rw [List.flatMap_map]
    induction (List.range j.pts.length) with
    | nil => rfl
    | cons a l ih => rw [List.flatMap_cons, List.map_append, ih]; rfl
  exact resV_own2 (b := 3) (g := 1) (fz := 0) (e := none) (ys := atL j r.2) (by rw [hc]; exact ka) (by
    intro x hx
    obtain ⟨q, _, rfl⟩ := List.mem_map.1 hx
    exact ⟨rfl, rfl⟩) (by simp [atL]) _ _
end LM.G9
namespace LM.G9
open Go LM
variable {P : Nat → Option SFunc} [Has P]
theorem S119 (j : Jur) (hm : j.pts.length ≤ 5) : fn P 119 [j.enc] = some (.int .u64 (2 ^ j.pts.length - 1 : Nat)) := by
  obtain ⟨o, p⟩ := j
  simp only at hm
  rw [u119]
  rcases p with _ | ⟨a, _ | ⟨b, _ | ⟨c, _ | ⟨d, _ | ⟨e, _ | ⟨f, p⟩⟩⟩⟩⟩⟩
  · simp [c119, Jur.enc] <;> rfl
  · simp [c119, Jur.enc] <;> rfl
  · simp [c119, Jur.enc] <;> rfl
  · simp [c119, Jur.enc] <;> rfl
  · simp [c119, Jur.enc] <;> rfl
  · simp [c119, Jur.enc] <;> rfl
  · simp at hm
/-- The loads, at most a number. -/
def ldsL (most : Int) (l : List Ofc) : List Int := l.map fun o => if most < o.load then most else o.load
def H120 (j : Jur) (xs : List Int) : Heap := [JB j, .cells 1 [] 0, .cells (1 + xs.length) (cI xs) 0]
theorem L120 (j : Jur) (most : Int) (hjl : j.ofs.length < 1000) : ∀ (r pre : List Ofc), j.ofs = pre ++ r →
    execS P (limS P) c120_l0 ⟨[.c (ci most), .slice 2 (1 + pre.length) 0 pre.length none none, .c (.slice (j.ofs.map Ofc.enc)), .c (ci j.ofs.length), .c (ci pre.length)], H120 j (ldsL most pre)⟩ =
      some (.exit 0, ⟨[.slice 2 (1 + j.ofs.length) 0 j.ofs.length none none], H120 j (ldsL most j.ofs)⟩) := by
  intro r
  induction r with
  | nil =>
    intro pre hp
    have hp : j.ofs = pre := by simpa using hp
    rw [hp, r120_l0]
    simp [c120_l0b, H120]
  | cons x r ih =>
    intro pre hp
    have ih := ih (pre ++ [x]) (by simpa using hp)
    have hx : j.ofs[pre.length]? = some x := by rw [hp]; simp
    obtain ⟨hxl, hx'⟩ := List.getElem?_eq_some_iff.1 hx
    have hw : IntKind.i64.wrap ((pre.length : Int) + 1) = (pre.length : Int) + 1 := wrap64 (by omega) (by omega)
    have hll : (ldsL most pre).length = pre.length := by simp [ldsL]
    have ha := append_own (b := 2) (g := 1 + (ldsL most pre).length) (bytes := 8) (e := none) (ys := (ldsL most pre).map ci) (xs := [ci (if most < x.load then most else x.load)]) (h := [JB j, .cells 1 [] 0, .cells (1 + (ldsL most pre).length) (cI (ldsL most pre)) 0, .cells 0 [.c (.str x.name), .c (.str x.nation), .c (.slice (x.roles.map CV.str)), .c (ci x.load)] 0]) (len := pre.length) (fz := 0) (by rw [cellsOf_ints]; rfl) (intElems _) (by intro y hy; simp at hy; subst hy; exact ⟨rfl, rfl⟩) (by simp [hll]) (Nat.zero_le _) (by simp) (by simp [hll]; omega) (by simp [hll]; omega)
    have e1 : (ldsL most pre).map ci ++ [ci (if most < x.load then most else x.load)] = (ldsL most (pre ++ [x])).map ci := by simp [ldsL]
    rw [e1, cellsOf_ints] at ha
    have hu := fun n xs => under_cI n xs
    have hl2 : (ldsL most (pre ++ [x])).length = pre.length + 1 := by simp [ldsL]
    simp [H120, hl2] at ih
    simp [hll] at ha
    have e9 : 1 + (pre.length + 1) = 1 + pre.length + 1 := by omega
    rw [e9] at ih
    rw [r120_l0]
    by_cases h : most < x.load
    · simp [h] at ha
      simp [c120_l0b, hxl, hx, hx', hw, H120, JB, Ofc.enc, foldInt, h, hll] at ha ih ⊢
      simp [hxl, hx, hx', hw, h, ha, hu, ih]
      done
    · simp [h] at ha
      simp [c120_l0b, hxl, hx, hx', hw, H120, JB, Ofc.enc, foldInt, h, hll] at ha ih ⊢
      simp [hxl, hx, hx', hw, h, ha, hu, ih]
      done
theorem S120 (j : Jur) (most : Int) (hjl : j.ofs.length < 1000) : ffn P 120 [j.enc, ci most] = some (.slice 2 (1 + j.ofs.length) 0 j.ofs.length none none, H120 j (ldsL most j.ofs)) := by
  have k := L120 (P := P) j most hjl j.ofs [] rfl
  have e0 : ldsL most [] = [] := rfl
  have e1 : cI [] = [] := rfl
  simp [H120, e0, e1] at k
  rw [u120]
  simp [JB] at k
  simp [c120, Jur.enc, k, H120, JB]
  done
end LM.G9
namespace LM.G9
open Go LM
variable {P : Nat → Option SFunc} [Has P]
theorem pop_all : (List.range 6).all (fun m => (List.range (2 ^ m)).all fun set => popN 5 set == ((List.range m).filter (bitB set)).length) = true := by decide +kernel
theorem pop_len {m set : Nat} (hm : m ≤ 5) (hs : set < 2 ^ m) : popN 5 set = ((List.range m).filter (bitB set)).length := by
  have := List.all_eq_true.1 pop_all m (List.mem_range.2 (by omega))
  exact eq_of_beq (List.all_eq_true.1 this set (List.mem_range.2 hs))
theorem all_bits : (List.range 6).all (fun m => (List.range m).filter (bitB (2 ^ m - 1)) == List.range m) = true := by decide +kernel
theorem bits_all {m : Nat} (hm : m ≤ 5) : (List.range m).filter (bitB (2 ^ m - 1)) = List.range m := eq_of_beq (List.all_eq_true.1 all_bits m (List.mem_range.2 (by omega)))
theorem pow32 {m : Nat} (hm : m ≤ 5) : 2 ^ m ≤ 32 := Nat.pow_le_pow_right (n := 2) (by omega) hm
/-- How many posts of a set the search fills. -/
def nFill (j : Jur) (lds : List Int) (set : Nat) : Nat := (fillL (jy j lds) ((List.range j.pts.length).filter (bitB set)) start).1
theorem S121 (T : Tabs9 P) (j : Jur) (hj : j.ok) (lds : List Int) (hlds : lds.length = j.ofs.length) (hl0 : ∀ i, i < j.ofs.length → 0 ≤ (jy j lds).ld i) (hjl : j.ofs.length < 800) (hm : j.pts.length ≤ 5) (set : Nat) (hset : set < 2 ^ j.pts.length) :
    fn P 121 [j.enc, .int .u64 set, .slice (lds.map ci)] = some (.bool (decide (nFill j lds set = ((List.range j.pts.length).filter (bitB set)).length))) := by
  have h32 := pow32 hm
  have e118 := S118 (P := P) T j hj lds hlds hl0 hjl hm set (by omega)
  have e144 := T.pop set (by omega)
  rw [pop_len hm hset] at e144
  have hn : (fillL (jy j lds) ((List.range j.pts.length).filter (bitB set)) start).1 = nFill j lds set := rfl
  rw [hn] at e118
  generalize nFill j lds set = n at *
  generalize ((List.range j.pts.length).filter (bitB set)).length = k at *
  simp only [Jur.enc] at e118
  rw [u121]
  simp [c121, Jur.enc, e118, e144]
  rw [Bool.eq_iff_iff]
  simp
  omega
theorem S117 (j : Jur) (hj : j.ok) (hm : j.pts.length ≤ 12) (h0 : checkJur j = 0) : fn P 117 [j.enc] = some (ci 0) := by
  have e42 := S42 (P := P) j hj
  rw [h0] at e42
  have h12 : ¬ (12 : Int) < j.pts.length := by omega
  simp only [Jur.enc] at e42
  rw [u117]
  simp [c117, Jur.enc, e42, h12, whenE, firstE]
  done
theorem S59 (T : Tabs9 P) (j : Jur) (hj : j.ok) (hl0 : ∀ i, i < j.ofs.length → 0 ≤ (jy j (ldsL 24 j.ofs)).ld i) (hjl : j.ofs.length < 800) (hm : j.pts.length ≤ 5) (h0 : checkJur j = 0) :
    fn P 59 [j.enc] = some (.tuple [ci (fillL (jy j (ldsL 24 j.ofs)) (List.range j.pts.length) start).1, ci 0]) := by
  have h32 := pow32 hm
  have hp := Nat.one_le_two_pow (n := j.pts.length)
  have hll : (ldsL 24 j.ofs).length = j.ofs.length := by simp [ldsL]
  have e117 := S117 (P := P) j hj (by omega) h0
  have e119 := S119 (P := P) j hm
  have e120 := S120 (P := P) j 24 (by omega)
  have e118 := S118 (P := P) T j hj (ldsL 24 j.ofs) hll hl0 hjl hm (2 ^ j.pts.length - 1) (by omega)
  rw [bits_all hm] at e118
  generalize fillL (jy j (ldsL 24 j.ofs)) (List.range j.pts.length) start = r at *
  have hfz := fun (h : Heap) (hb : h[3]? = some (.cells (1 + j.ofs.length) (cellsOf ((ldsL 24 j.ofs).map ci)) 0)) => frz_own (b := 3) (g := 1 + j.ofs.length) (fz := 0) (e := none) (ys := (ldsL 24 j.ofs).map ci) (h := h) (len := j.ofs.length) hb (intElems _) (by simp [hll]) none
  rw [cellsOf_ints] at hfz
  generalize ldsL 24 j.ofs = lds at *
  generalize 2 ^ j.pts.length - 1 = set at *
  simp only [Jur.enc] at e117 e118 e119 e120
  simp only [H120, JB, hll] at e120
  rw [u59]
  simp [c59, Jur.enc, e117, e119, e120, LV.shift, shiftL, shiftB, LB.shift, shift_cI, allDead, setFrom, hfz, e118, -frz_slice]
  done
end LM.G9
namespace LM.G9
open Go LM
variable {P : Nat → Option SFunc} [Has P]
/-- Can all posts be filled with loads of at most so many? -/
def fullB (j : Jur) (q : Nat) : Bool := decide (nFill j (ldsL q j.ofs) (2 ^ j.pts.length - 1) = j.pts.length)
theorem lds_pos {j : Jur} {most : Int} (h0 : 0 ≤ most) (h : ∀ o ∈ j.ofs, 0 ≤ o.load) : ∀ i, i < j.ofs.length → 0 ≤ (jy j (ldsL most j.ofs)).ld i := by
  intro i hi
  have e : (jy j (ldsL most j.ofs)).ld i = if most < j.ofs[i].load then most else j.ofs[i].load := by
    simp [jy, ldsL, List.getD_eq_getElem?_getD, List.getElem?_eq_getElem hi]
  rw [e]
  have := h _ (List.getElem_mem hi)
  split <;> omega
theorem L60 (T : Tabs9 P) (j : Jur) (hj : j.ok) (hl : ∀ o ∈ j.ofs, 0 ≤ o.load) (hjl : j.ofs.length < 800) (hm : j.pts.length ≤ 5) : ∀ (r k : Nat), k + r = j.pts.length + 1 →
    ∃ H, execS P (limS P) c60_l0 ⟨[.ptr 0 0 0, .c (ci (j.pts.length + 1)), .c (ci k)], [JB j]⟩ = match (List.range' k r).find? (fullB j) with
      | some q => some (.ret, ⟨[.c (ci q), .c (ci 0)], H⟩)
      | none => some (.exit 0, ⟨[], H⟩) := by
  intro r
  induction r with
  | zero =>
    intro k hk
    refine ⟨[JB j], ?_⟩
    have hk' : (k : Int) = (j.pts.length : Int) + 1 := by omega
    rw [r60_l0]
    simp [c60_l0b, hk']
  | succ r ih =>
    intro k hk
    obtain ⟨H, ih⟩ := ih (k + 1) (by omega)
    have ek : ((k + 1 : Nat) : Int) = (k : Int) + 1 := by omega
    rw [ek] at ih
    have hw : IntKind.i64.wrap ((k : Int) + 1) = (k : Int) + 1 := wrap64 (by omega) (by omega)
    have hlt : (k : Int) < (j.pts.length : Int) + 1 := by omega
    have h32 := pow32 hm
    have hp := Nat.one_le_two_pow (n := j.pts.length)
    have hll : (ldsL k j.ofs).length = j.ofs.length := by simp [ldsL]
    have e119 := S119 (P := P) j hm
    have e120 := S120 (P := P) j k (by omega)
    have e121 := S121 (P := P) T j hj (ldsL k j.ofs) hll (lds_pos (by omega) hl) hjl hm (2 ^ j.pts.length - 1) (by omega)
    rw [bits_all hm, List.length_range] at e121
    have hfz := fun (h : Heap) (b : Nat) (hb : h[b]? = some (.cells (1 + j.ofs.length) (cellsOf ((ldsL k j.ofs).map ci)) 0)) => frz_own (b := b) (g := 1 + j.ofs.length) (fz := 0) (e := none) (ys := (ldsL k j.ofs).map ci) (h := h) (len := j.ofs.length) hb (intElems _) (by simp [hll]) none
    rw [cellsOf_ints] at hfz
    have hfb : decide (nFill j (ldsL k j.ofs) (2 ^ j.pts.length - 1) = j.pts.length) = fullB j k := rfl
    rw [hfb] at e121
    rw [List.range'_succ, List.find?_cons]
    generalize ldsL (k : Int) j.ofs = lds at *
    generalize 2 ^ j.pts.length - 1 = set at *
    simp only [Jur.enc] at e119 e120 e121
    simp only [H120, JB, hll] at e120
    simp only [JB] at ih
    cases hb : fullB j k
    · rw [hb] at e121
      refine ⟨H, ?_⟩
      rw [r60_l0]
      simp [c60_l0b, JB, hlt, hw, e119, e120, LV.shift, shiftL, shiftB, LB.shift, shift_cI, allDead, setFrom, hfz, e121, ih, -frz_slice]
      done
    · rw [hb] at e121
      refine ⟨[JB j, JB j, .cells 1 [] 0, .cells (1 + j.ofs.length) (cI lds) 0, .dead], ?_⟩
      rw [r60_l0]
      simp [c60_l0b, JB, hlt, hw, e119, e120, LV.shift, shiftL, shiftB, LB.shift, shift_cI, allDead, setFrom, hfz, e121, -frz_slice]
      done
def fairV (j : Jur) : Option Nat := (List.range (j.pts.length + 1)).find? (fullB j)
theorem S60 (T : Tabs9 P) (j : Jur) (hj : j.ok) (hl : ∀ o ∈ j.ofs, 0 ≤ o.load) (hjl : j.ofs.length < 800) (hm : j.pts.length ≤ 5) (h0 : checkJur j = 0) :
    fn P 60 [j.enc] = some (.tuple (match fairV j with
      | some q => [ci q, ci 0]
      | none => [ci 0, ci 23])) := by
  obtain ⟨H, k⟩ := L60 (P := P) T j hj hl hjl hm (j.pts.length + 1) 0 (by omega)
  have e117 := S117 (P := P) j hj (by omega) h0
  have hw : IntKind.i64.wrap ((j.pts.length : Int) + 1) = (j.pts.length : Int) + 1 := wrap64 (by omega) (by omega)
  have er : List.range' 0 (j.pts.length + 1) = List.range (j.pts.length + 1) := (List.range_eq_range').symm
  rw [er] at k
  simp only [Jur.enc] at e117
  simp only [JB] at k
  rw [u60]
  unfold fairV
  cases hf : (List.range (j.pts.length + 1)).find? (fullB j) with
  | some q =>
    rw [hf] at k
    simp at k
    simp [c60, Jur.enc, e117, hw, k]
    done
  | none =>
    rw [hf] at k
    simp at k
    simp [c60, Jur.enc, e117, hw, k]
    done
end LM.G9
namespace LM.G9
open Go LM
variable {P : Nat → Option SFunc} [Has P]
def cutO (most : Int) (o : Ofc) : Ofc := ⟨o.name, o.nation, o.roles, if most < o.load then most else o.load⟩
def cutJ (most : Int) (j : Jur) : Jur := ⟨j.ofs.map (cutO most), j.pts⟩
def H61 (j : Jur) (ys : List CV) (xs : List Ofc) : Heap := [JB j, .cells 0 [.nil, .nil] 0, .cells 0 [.slice 4 xs.length 0 xs.length (some 4) none, .c (.slice (j.pts.map Pst.enc))] 0, .cells 0 (ys.map .c) 0, .cells xs.length (cellsOf (xs.map Ofc.enc)) 0]
set_option maxHeartbeats 2000000 in
theorem L61 (j : Jur) (most : Int) (hjl : j.ofs.length < 1000) (ys : List CV) : ∀ (r pre : List Ofc), j.ofs = pre ++ r → pre ≠ [] →
    execS P (limS P) c61_l0 ⟨[.c (ci most), .ptr 1 0 0, .ptr 2 0 0, .c (.slice (j.ofs.map Ofc.enc)), .c (ci j.ofs.length), .c (ci pre.length)], H61 j ys (pre.map (cutO most))⟩ =
      some (.exit 0, ⟨[.ptr 1 0 0, .ptr 2 0 0], H61 j ys (j.ofs.map (cutO most))⟩) := by
  intro r
  induction r with
  | nil =>
    intro pre hp _
    have hp : j.ofs = pre := by simpa using hp
    rw [hp, r61_l0]
    simp [c61_l0b, H61]
  | cons x r ih =>
    intro pre hp hne
    have ih := ih (pre ++ [x]) (by simpa using hp) (by simp)
    have hx : j.ofs[pre.length]? = some x := by rw [hp]; simp
    obtain ⟨hxl, hx'⟩ := List.getElem?_eq_some_iff.1 hx
    have hw : IntKind.i64.wrap ((pre.length : Int) + 1) = (pre.length : Int) + 1 := wrap64 (by omega) (by omega)
    have hp0 : pre.length ≠ 0 := fun e => hne (List.eq_nil_of_length_eq_zero e)
    have ha := append_own (b := 4) (g := pre.length) (bytes := 64) (e := some 4) (ys := (pre.map (cutO most)).map Ofc.enc) (xs := [(cutO most x).enc]) (h := H61 j ys (pre.map (cutO most)) ++ [.cells 0 [.c (.str x.name), .c (.str x.nation), .c (.slice (x.roles.map CV.str)), .c (ci (if most < x.load then most else x.load))] 0]) (len := pre.length) (fz := 0) (by simp [H61]) (Ofc.elems _) (by intro y hy; simp at hy; subst hy; exact Ofc.elems [cutO most x] _ (by simp)) (by simp) (Nat.zero_le _) (by simp) (by simp; omega) (by simp; omega)
    have e1 : (pre.map (cutO most)).map Ofc.enc ++ [(cutO most x).enc] = ((pre ++ [x]).map (cutO most)).map Ofc.enc := by simp
    rw [e1] at ha
    simp [H61, cutO, Ofc.enc] at ih ha
    rw [r61_l0]
    by_cases h : most < x.load
    · simp [h] at ha ih
      simp [c61_l0b, hxl, hx, hx', hw, H61, JB, Ofc.enc, foldInt, h, hp0, cutO] at ha ih ⊢
      simp [hxl, hx, hx', hw, h, ha, hp0, ih]
      done
    · simp [h] at ha ih
      simp [c61_l0b, hxl, hx, hx', hw, H61, JB, Ofc.enc, foldInt, h, hp0, cutO] at ha ih ⊢
      simp [hxl, hx, hx', hw, h, ha, hp0, ih]
      done
set_option maxHeartbeats 2000000 in
theorem S61 (j : Jur) (most : Int) (hjl : j.ofs.length < 1000) : fn P 61 [j.enc, ci most] = some (cutJ most j).enc := by
  rw [u61]
  cases hj : j.ofs with
  | nil =>
    have k : ∀ H, execS P (limS P) c61_l0 ⟨[.c (ci most), .ptr 1 0 0, .ptr 2 0 0, .c (.slice []), .c (ci 0), .c (ci 0)], H⟩ = some (.exit 0, ⟨[.ptr 1 0 0, .ptr 2 0 0], H⟩) := by
      intro H
      rw [r61_l0]
      simp [c61_l0b]
    simp [c61, Jur.enc, cutJ, hj, k, resultV, resultsAll, resultOne, resV]
    done
  | cons x r =>
    have k := L61 (P := P) j most hjl [.str x.name, .str x.nation, .slice (x.roles.map CV.str), ci (if most < x.load then most else x.load)] r [x] (by rw [hj]; rfl) (by simp)
    have hw : IntKind.i64.wrap 1 = 1 := wrap64 (by omega) (by omega)
    have k0 : execS P (limS P) c61_l0 ⟨[.c (ci most), .ptr 1 0 0, .ptr 2 0 0, .c (.slice (j.ofs.map Ofc.enc)), .c (ci j.ofs.length), .c (ci 0)], [JB j, .cells 0 [.nil, .nil] 0, .cells 0 [.nil, .c (.slice (j.pts.map Pst.enc))] 0]⟩ = some (.exit 0, ⟨[.ptr 1 0 0, .ptr 2 0 0], H61 j [.str x.name, .str x.nation, .slice (x.roles.map CV.str), ci (if most < x.load then most else x.load)] (j.ofs.map (cutO most))⟩) := by
      have hcs : ∀ a b c d : CV, cellsOf [CV.agg [a, b, c, d]] = [.c a, .c b, .c c, .c d] := fun _ _ _ _ => rfl
      rw [r61_l0]
      by_cases h : most < x.load
      · simp [H61, cutO, Ofc.enc, h, hj, JB, hcs] at k ⊢
        simp [c61_l0b, hj, hw, Ofc.enc, foldInt, h, appendOp, sliceCells, flatAll, ok, newId, newAt, szOf, k]
        done
      · simp [H61, cutO, Ofc.enc, h, hj, JB, hcs] at k ⊢
        simp [c61_l0b, hj, hw, Ofc.enc, foldInt, h, appendOp, sliceCells, flatAll, ok, newId, newAt, szOf, k]
        done
    simp [H61, JB, hj] at k0
    simp [c61, Jur.enc, cutJ, hj, k0, resultV, resultsAll, resultOne]
    have he : CV.slice ((cutO most x).enc :: List.map (Ofc.enc ∘ cutO most) r) = .slice (((x :: r).map (cutO most)).map Ofc.enc) := by simp
    rw [he]
    refine resV_agg (frz_own39 (b := 4) (g := r.length + 1) (fz := 0) (ys := ((x :: r).map (cutO most)).map Ofc.enc) (len := r.length + 1) ?_ (Ofc.elems _) (by simp) none) rfl
    simp
end LM.G9
namespace LM.G9
def nF (J : Jy) : Nat := (fillL J (List.range J.m) start).1
theorem nF_le {J J' : Jy} (h0 : ∀ i, i < J.n → 0 ≤ J.ld i) (h1 : ∀ i, i < J'.n → 0 ≤ J'.ld i) (c : Nat) (h : ∀ B, Valid J B → ∃ B', Valid J' B' ∧ placed J B ≤ placed J' B' + c) : nF J ≤ nF J' + c := by
  obtain ⟨⟨B, hB, e⟩, _⟩ := most_max h0
  obtain ⟨_, hmax⟩ := most_max h1
  obtain ⟨B', hB', hp⟩ := h B hB
  have := hmax B' hB'
  unfold nF
  omega
theorem nF_m (J : Jy) : nF J ≤ J.m := by
  have := fill_le (J := J) (List.range J.m) start
  rw [List.length_range] at this
  exact this
theorem cnt_none {J : Jy} {B : Nat → Option Nat} {i : Nat} (h : ∀ p, p < J.m → B p ≠ some i) : cntA J B i = 0 := by
  unfold cntA
  rw [List.countP_eq_zero]
  intro q hq
  simpa using h q (List.mem_range.1 hq)
/-- Greater loads. -/
theorem nF_heavy {J J' : Jy} (h0 : ∀ i, i < J.n → 0 ≤ J.ld i) (em : J'.m = J.m) (en : J'.n = J.n) (ehr : J'.hr = J.hr) (es : ∀ i p, i < J.n → J'.sv i p = J.sv i p) (el : ∀ i, i < J.n → J.ld i ≤ J'.ld i) : nF J ≤ nF J' := by
  have := nF_le (J := J) (J' := J') h0 (fun i hi => by have := h0 i (by omega); have := el i (by omega); omega) 0 (fun B hB => ⟨B, ⟨?_, ?_, ?_⟩, ?_⟩)
  · simpa using this
  · intro p hp i hi
    obtain ⟨a, b⟩ := hB.fit p (by omega) i hi
    exact ⟨by omega, by rw [es i p a]; exact b⟩
  · intro p q hp hq hne i h1 h2
    rw [ehr]
    exact hB.apart p q (by omega) (by omega) hne i h1 h2
  · intro i hi
    have e : cntA J' B i = cntA J B i := by unfold cntA; rw [em]
    rw [e]
    have := hB.ld i (by omega)
    have := el i (by omega)
    omega
  · have e : placed J' B = placed J B := by unfold placed; rw [em]
    omega
/-- Officials in the other order. -/
theorem nF_back {J J' : Jy} (h0 : ∀ i, i < J.n → 0 ≤ J.ld i) (em : J'.m = J.m) (en : J'.n = J.n) (ehr : J'.hr = J.hr) (es : ∀ i p, i < J.n → J'.sv (J.n - 1 - i) p = J.sv i p) (el : ∀ i, i < J.n → J'.ld (J.n - 1 - i) = J.ld i) : nF J ≤ nF J' := by
  have hr : ∀ i, i < J.n → J.n - 1 - (J.n - 1 - i) = i := fun i hi => by omega
  have := nF_le (J := J) (J' := J') h0 (fun i hi => by
    have h1 := el (J.n - 1 - i) (by omega)
    rw [hr i (by omega)] at h1
    rw [h1]
    exact h0 _ (by omega)) 0 (fun B hB => ⟨fun p => (B p).map fun i => J.n - 1 - i, ⟨?_, ?_, ?_⟩, ?_⟩)
  · simpa using this
  · intro p hp i hi
    obtain ⟨k, hk, rfl⟩ := Option.map_eq_some_iff.1 hi
    obtain ⟨a, b⟩ := hB.fit p (by omega) k hk
    exact ⟨by omega, by rw [es k p a]; exact b⟩
  · intro p q hp hq hne i h1 h2
    rw [ehr]
    obtain ⟨k, hk, rfl⟩ := Option.map_eq_some_iff.1 h1
    obtain ⟨l, hl, e⟩ := Option.map_eq_some_iff.1 h2
    have a := (hB.fit p (by omega) k hk).1
    have b := (hB.fit q (by omega) l hl).1
    have : l = k := by omega
    subst this
    exact hB.apart p q (by omega) (by omega) hne l hk hl
  · intro i hi
    have e : cntA J' (fun p => (B p).map fun i => J.n - 1 - i) i = cntA J B (J.n - 1 - i) := by
      unfold cntA
      rw [em]
      refine List.countP_congr fun q hq => ?_
      have hq := List.mem_range.1 hq
      simp only [decide_eq_true_eq]
      constructor
      · intro h
        obtain ⟨k, hk, e⟩ := Option.map_eq_some_iff.1 h
        have a := (hB.fit q hq k hk).1
        rw [hk]
        congr 1
        omega
      · intro h
        rw [h]
        simp only [Option.map_some]
        rw [hr i (by omega)]
    rw [e]
    have := hB.ld (J.n - 1 - i) (by omega)
    have h1 := el (J.n - 1 - i) (by omega)
    rw [hr i (by omega)] at h1
    omega
  · have e : placed J' (fun p => (B p).map fun i => J.n - 1 - i) = placed J B := by
      unfold placed
      rw [em]
      refine List.countP_congr fun q _ => ?_
      cases h : B q <;> simp [h]
    omega
/-- A further official. -/
theorem nF_wider {J J' : Jy} (h0 : ∀ i, i < J.n → 0 ≤ J.ld i) (em : J'.m = J.m) (en : J'.n = J.n + 1) (ehr : J'.hr = J.hr) (es : ∀ i p, i < J.n → J'.sv i p = J.sv i p) (el : ∀ i, i < J.n → J'.ld i = J.ld i) (hL : 0 ≤ J'.ld J.n) : nF J ≤ nF J' ∧ (nF J' : Int) ≤ nF J + J'.ld J.n := by
  have h1 : ∀ i, i < J'.n → 0 ≤ J'.ld i := by
    intro i hi
    by_cases e : i = J.n
    · rw [e]; exact hL
    · rw [el i (by omega)]; exact h0 i (by omega)
  constructor
  · have := nF_le (J := J) (J' := J') h0 h1 0 (fun B hB => ⟨B, ⟨?_, ?_, ?_⟩, ?_⟩)
    · simpa using this
    · intro p hp i hi
      obtain ⟨a, b⟩ := hB.fit p (by omega) i hi
      exact ⟨by omega, by rw [es i p a]; exact b⟩
    · intro p q hp hq hne i h1 h2
      rw [ehr]
      exact hB.apart p q (by omega) (by omega) hne i h1 h2
    · intro i hi
      have e : cntA J' B i = cntA J B i := by unfold cntA; rw [em]
      rw [e]
      by_cases ei : i = J.n
      · subst ei
        rw [cnt_none (fun p hp h => by have := (hB.fit p hp _ h).1; omega)]
        simpa using hL
      · rw [el i (by omega)]
        exact hB.ld i (by omega)
    · have e : placed J' B = placed J B := by unfold placed; rw [em]
      omega
  · obtain ⟨c, hc⟩ : ∃ c : Nat, (c : Int) = J'.ld J.n := ⟨(J'.ld J.n).toNat, by omega⟩
    have := nF_le (J := J') (J' := J) h1 h0 c (fun B hB => ⟨fun p => if B p = some J.n then none else B p, ⟨?_, ?_, ?_⟩, ?_⟩)
    · omega
    · intro p hp i hi
      simp only at hi
      split at hi
      · cases hi
      · rename_i hne
        obtain ⟨a, b⟩ := hB.fit p (by omega) i hi
        have : i < J.n := by
          have : i ≠ J.n := fun e => hne (by rw [hi, e])
          omega
        exact ⟨this, by rw [← es i p this]; exact b⟩
    · intro p q hp hq hne i h1 h2
      simp only at h1 h2
      rw [← ehr]
      split at h1
      · cases h1
      · split at h2
        · cases h2
        · exact hB.apart p q (by omega) (by omega) hne i h1 h2
    · intro i hi
      have e : cntA J (fun p => if B p = some J.n then none else B p) i ≤ cntA J' B i := by
        unfold cntA
        rw [em]
        refine List.countP_mono_left fun q _ h => ?_
        simp only [decide_eq_true_eq] at h ⊢
        split at h
        · cases h
        · exact h
      have h2 := hB.ld i (by omega)
      rw [el i hi] at h2
      omega
    · have key : ∀ l : List Nat, (l.countP fun q => decide (B q ≠ none)) = (l.countP fun q => decide ((if B q = some J.n then none else B q) ≠ none)) + l.countP fun q => decide (B q = some J.n) := by
        intro l
        induction l with
        | nil => rfl
        | cons a l ih =>
          rw [List.countP_cons, List.countP_cons, List.countP_cons, ih]
          by_cases h : B a = some J.n
          · simp [h] <;> omega
          · by_cases h2 : B a = none <;> simp [h, h2] <;> omega
      have hk := key (List.range J'.m)
      have hcn := hB.ld J.n (by omega)
      have e1 : placed J' B = (List.range J'.m).countP fun q => decide (B q ≠ none) := rfl
      have e2 : placed J (fun p => if B p = some J.n then none else B p) = (List.range J'.m).countP fun q => decide ((if B q = some J.n then none else B q) ≠ none) := by unfold placed; rw [em]
      have e3 : cntA J' B J.n = (List.range J'.m).countP fun q => decide (B q = some J.n) := rfl
      rw [e1, e2, hk, ← e3]
      omega
/-- All posts can be filled. -/
def Full (J : Jy) : Prop := ∃ B, Valid J B ∧ ∀ p, p < J.m → B p ≠ none
theorem full_iff {J : Jy} (h0 : ∀ i, i < J.n → 0 ≤ J.ld i) : nF J = J.m ↔ Full J := by
  have := fills_iff (J := J) h0 (ps := List.range J.m) List.nodup_range (fun p hp => List.mem_range.1 hp)
  rw [List.length_range] at this
  unfold nF
  rw [this]
  constructor
  · rintro ⟨B, hB, h⟩
    exact ⟨B, hB, fun p hp => h p (List.mem_range.2 hp)⟩
  · rintro ⟨B, hB, h⟩
    exact ⟨B, hB, fun p hp => h p (List.mem_range.1 hp)⟩
/-- The posts are as many as the loads together allow. -/
theorem full_sum {J : Jy} (k : Nat) (hl : ∀ i, i < J.n → J.ld i ≤ k) (h : Full J) : J.m ≤ k * J.n := by
  obtain ⟨B, hB, hf⟩ := h
  have h1 := sum_count (fun _ => true) B J.n (List.range J.m) (fun q hq i e => (hB.fit q (List.mem_range.1 hq) i e).1)
  have h2 : ((List.range J.m).countP fun q => true && decide (B q ≠ none)) = J.m := by
    rw [List.countP_eq_length.2 (fun q hq => by simpa using hf q (List.mem_range.1 hq)), List.length_range]
  have h3 : sumN J.n (fun i => (List.range J.m).countP fun q => true && decide (B q = some i)) ≤ sumN J.n (fun _ => k) := by
    refine sumN_le _ fun i hi => ?_
    have := hB.ld i hi
    have := hl i hi
    have e : ((List.range J.m).countP fun q => true && decide (B q = some i)) = cntA J B i := by simp [cntA]
    rw [e]
    omega
  have h4 : ∀ n, sumN n (fun _ => k) = k * n := by
    intro n
    induction n with
    | zero => rfl
    | succ n ih => rw [sumN, ih, Nat.mul_succ]
  rw [h1, h2, h4] at h3
  exact h3
end LM.G9
namespace LM.G9
open Go LM
variable {P : Nat → Option SFunc} [Has P]
def ofcOk (x : Ofc) : Prop := named x.name = 0 ∧ named x.nation = 0 ∧ onceL 16 x.roles = 0 ∧ 0 ≤ x.load ∧ x.load ≤ 24
theorem whenE_zD {b : Bool} {e : Int} (h : e ≠ 0) : whenE b e = 0 ↔ b = false := by cases b <;> simp [whenE, h]
theorem firstE_zD (e : Int) (r : List Int) : firstE (e :: r) = 0 ↔ e = 0 ∧ firstE r = 0 := by
  rw [firstE]
  by_cases h : e = 0 <;> simp [h]
theorem firstE_nil : firstE [] = 0 := rfl
theorem checkOfc_zero {pre : List Ofc} {x : Ofc} : checkOfc pre x = 0 ↔ ofcOk x ∧ x.name ∉ pre.map (·.name) := by
  unfold checkOfc ofcOk
  simp only [firstE_zD, firstE_nil, and_true]
  rw [whenE_zD (by decide), whenE_zD (by decide)]
  have h1 : pre.any (Ofc.is x.name) = false ↔ x.name ∉ pre.map (·.name) := by
    rw [List.any_eq_false]
    simp only [List.mem_map, not_exists, not_and]
    constructor
    · intro h y hy e
      exact h y hy (by simp [Ofc.is, e])
    · intro h y hy e
      exact h y hy (by simpa [Ofc.is] using e)
  have h2 : outside x.load 0 24 = false ↔ 0 ≤ x.load ∧ x.load ≤ 24 := by
    unfold outside
    simp
  rw [h1, h2]
  constructor
  · rintro ⟨a, b, c, d, e⟩
    exact ⟨⟨a, b, d, e.1, e.2⟩, c⟩
  · rintro ⟨⟨a, b, d, e1, e2⟩, c⟩
    exact ⟨a, b, c, d, e1, e2⟩
theorem eachOfc_zero : ∀ (l pre : List Ofc), eachE checkOfc pre l = 0 ↔ (∀ x ∈ l, ofcOk x ∧ x.name ∉ pre.map (·.name)) ∧ (l.map (·.name)).Nodup
  | [], pre => by simp [eachE]
  | x :: l, pre => by
    have ih := eachOfc_zero l (pre ++ [x])
    rw [eachE]
    by_cases h : checkOfc pre x = 0
    · rw [if_neg (by simp [h]), ih]
      rw [checkOfc_zero] at h
      simp only [List.map_cons, List.nodup_cons, List.mem_cons, List.map_append, List.mem_append, List.map_nil, not_or, List.not_mem_nil, not_false_eq_true, and_true]
      constructor
      · rintro ⟨h1, h2⟩
        refine ⟨fun y hy => ?_, fun hm => ?_, h2⟩
        · rcases hy with rfl | hy
          · exact h
          · exact ⟨(h1 y hy).1, (h1 y hy).2.1⟩
        · obtain ⟨y, hy, e⟩ := List.mem_map.1 hm
          exact (h1 y hy).2.2 e
      · rintro ⟨h1, h2, h3⟩
        refine ⟨fun y hy => ⟨(h1 y (.inr hy)).1, (h1 y (.inr hy)).2, fun e => ?_⟩, h3⟩
        exact h2 (by rw [← e]; exact List.mem_map.2 ⟨y, hy, rfl⟩)
    · rw [if_pos (by simpa using h)]
      constructor
      · intro e; exact absurd e h
      · rintro ⟨h1, _⟩
        exact absurd (checkOfc_zero.2 (h1 x (by simp))) h
def ptsE (l : List Pst) : Int := if (l.length : Int) > 24 then 5 else eachE checkPst [] l
theorem checkJur_zero {j : Jur} : checkJur j = 0 ↔ j.ofs.length ≤ 24 ∧ (∀ x ∈ j.ofs, ofcOk x) ∧ (j.ofs.map (·.name)).Nodup ∧ ptsE j.pts = 0 := by
  unfold checkJur
  simp only [firstE_zD, firstE_nil, and_true]
  have h := eachOfc_zero j.ofs []
  simp only [List.map_nil, List.not_mem_nil, not_false_eq_true, and_true] at h
  by_cases h1 : (j.ofs.length : Int) > 24
  · rw [if_pos h1]
    simp
    omega
  · rw [if_neg h1, h]
    have : j.ofs.length ≤ 24 := by omega
    simp only [this, true_and, and_assoc]
    rfl
def jB (j : Jur) : Jur := ⟨j.ofs.reverse, j.pts⟩
def hvO (o : Ofc) : Ofc := ⟨o.name, o.nation, o.roles, 24⟩
def jH (j : Jur) : Jur := ⟨j.ofs.map hvO, j.pts⟩
def jW (j : Jur) (x : Ofc) : Jur := ⟨j.ofs ++ [x], j.pts⟩
theorem jB_ok {j : Jur} (h : j.ok) : (jB j).ok := ⟨fun x hx => h.o x (by simpa [jB] using hx), h.p, by simpa [jB] using h.so, h.sp⟩
theorem jH_ok {j : Jur} (h : j.ok) : (jH j).ok := ⟨fun x hx => by
  obtain ⟨y, hy, rfl⟩ := List.mem_map.1 hx
  exact h.o y hy, h.p, by simpa [jH] using h.so, h.sp⟩
theorem cut_ok {j : Jur} (h : j.ok) (q : Int) : (cutJ q j).ok := ⟨fun x hx => by
  obtain ⟨y, hy, rfl⟩ := List.mem_map.1 hx
  exact h.o y hy, h.p, by simpa [cutJ] using h.so, h.sp⟩
theorem jB_chk {j : Jur} (h : checkJur j = 0) : checkJur (jB j) = 0 := by
  rw [checkJur_zero] at h ⊢
  obtain ⟨h1, h2, h3, h4⟩ := h
  refine ⟨by simpa [jB] using h1, fun x hx => h2 x (by simpa [jB] using hx), ?_, h4⟩
  show (j.ofs.reverse.map (·.name)).Nodup
  rw [List.map_reverse]
  exact (List.reverse_perm _).nodup_iff.2 h3
theorem map_chk {j : Jur} {f : Ofc → Ofc} (hn : ∀ x, (f x).name = x.name) (hk : ∀ x, ofcOk x → ofcOk (f x)) (h : checkJur j = 0) : checkJur ⟨j.ofs.map f, j.pts⟩ = 0 := by
  rw [checkJur_zero] at h ⊢
  obtain ⟨h1, h2, h3, h4⟩ := h
  refine ⟨by simpa using h1, fun x hx => ?_, ?_, h4⟩
  · obtain ⟨y, hy, rfl⟩ := List.mem_map.1 hx
    exact hk y (h2 y hy)
  · show ((j.ofs.map f).map (·.name)).Nodup
    have : (j.ofs.map f).map (·.name) = j.ofs.map (·.name) := by
      rw [List.map_map]
      exact List.map_congr_left fun x _ => hn x
    rw [this]
    exact h3
theorem jH_chk {j : Jur} (h : checkJur j = 0) : checkJur (jH j) = 0 := map_chk (fun _ => rfl) (fun x hx => ⟨hx.1, hx.2.1, hx.2.2.1, by simp [hvO], by simp [hvO]⟩) h
theorem cut_chk {j : Jur} (h : checkJur j = 0) {q : Int} (hq : 0 ≤ q) : checkJur (cutJ q j) = 0 := map_chk (fun _ => rfl) (fun x hx => by
  obtain ⟨a, b, c, d, e⟩ := hx
  refine ⟨a, b, c, ?_, ?_⟩ <;> unfold cutO <;> simp only <;> split <;> omega) h
/-- The jury's own numbers. -/
def jyJ (j : Jur) : Jy := jy j (ldsL 24 j.ofs)
theorem lds_at {l : List Ofc} {q : Int} {i : Nat} (hi : i < l.length) : (ldsL q l).getD i 0 = if q < l[i].load then q else l[i].load := by
  simp [ldsL, List.getD_eq_getElem?_getD, List.getElem?_eq_getElem hi]
theorem ld_own {j : Jur} (h : checkJur j = 0) {i : Nat} (hi : i < j.ofs.length) : (jyJ j).ld i = j.ofs[i].load ∧ 0 ≤ j.ofs[i].load ∧ j.ofs[i].load ≤ 24 := by
  obtain ⟨_, h2, _, _⟩ := checkJur_zero.1 h
  have := h2 _ (List.getElem_mem hi)
  have e : (jyJ j).ld i = (ldsL 24 j.ofs).getD i 0 := rfl
  rw [e, lds_at hi]
  refine ⟨?_, this.2.2.2.1, this.2.2.2.2⟩
  have := this.2.2.2.2
  split <;> omega
theorem ld_pos {j : Jur} (h : checkJur j = 0) : ∀ i, i < (jyJ j).n → 0 ≤ (jyJ j).ld i := by
  intro i hi
  obtain ⟨a, b, _⟩ := ld_own h hi
  omega
theorem sv_at {j : Jur} {i p : Nat} (hi : i < j.ofs.length) : servesV j (i : Int) (p : Int) = match j.pts[p]? with
    | some q => servesB j.ofs[i] q
    | none => false := by
  unfold servesV
  rw [show ((i : Int)).toNat = i by omega, show ((p : Int)).toNat = p by omega, List.getElem?_eq_getElem hi]
  cases j.pts[p]? <;> rfl
theorem back_n {j : Jur} (h : checkJur j = 0) : nF (jyJ (jB j)) = nF (jyJ j) := by
  have hb := jB_chk h
  have hlen : (jB j).ofs.length = j.ofs.length := by simp [jB]
  have es : ∀ i p, i < j.ofs.length → (jyJ (jB j)).sv (j.ofs.length - 1 - i) p = (jyJ j).sv i p := by
    intro i p hi
    show servesV (jB j) _ _ = servesV j _ _
    rw [sv_at (by omega), sv_at hi]
    have : (jB j).ofs[j.ofs.length - 1 - i]'(by omega) = j.ofs[i] := by
      simp only [jB, List.getElem_reverse]
      congr 1
      omega
    rw [this]
    rfl
  have el : ∀ i, i < j.ofs.length → (jyJ (jB j)).ld (j.ofs.length - 1 - i) = (jyJ j).ld i := by
    intro i hi
    rw [(ld_own hb (by omega)).1, (ld_own h hi).1]
    have : (jB j).ofs[j.ofs.length - 1 - i]'(by omega) = j.ofs[i] := by
      simp only [jB, List.getElem_reverse]
      congr 1
      omega
    rw [this]
  have hr : ∀ i, i < j.ofs.length → j.ofs.length - 1 - (j.ofs.length - 1 - i) = i := fun i hi => by omega
  apply Nat.le_antisymm
  · refine nF_back (J := jyJ (jB j)) (J' := jyJ j) (ld_pos hb) rfl hlen.symm rfl ?_ ?_
    · intro i p hi
      have hi' : i < j.ofs.length := by have : i < (jB j).ofs.length := hi; omega
      show (jyJ j).sv ((jB j).ofs.length - 1 - i) p = _
      rw [hlen]
      have := es (j.ofs.length - 1 - i) p (by omega)
      rw [hr i hi'] at this
      exact this.symm
    · intro i hi
      have hi' : i < j.ofs.length := by have : i < (jB j).ofs.length := hi; omega
      show (jyJ j).ld ((jB j).ofs.length - 1 - i) = _
      rw [hlen]
      have := el (j.ofs.length - 1 - i) (by omega)
      rw [hr i hi'] at this
      exact this.symm
  · exact nF_back (J := jyJ j) (J' := jyJ (jB j)) (ld_pos h) rfl hlen rfl es el
theorem heavy_n {j : Jur} (h : checkJur j = 0) : nF (jyJ j) ≤ nF (jyJ (jH j)) := by
  have hlen : (jH j).ofs.length = j.ofs.length := by simp [jH]
  refine nF_heavy (ld_pos h) rfl hlen rfl ?_ ?_
  · intro i p hi
    show servesV (jH j) _ _ = servesV j _ _
    have hi' : i < j.ofs.length := hi
    rw [sv_at (by omega), sv_at hi']
    have : (jH j).ofs[i]'(by omega) = hvO j.ofs[i] := by simp [jH]
    rw [this]
    rfl
  · intro i hi
    have hi' : i < j.ofs.length := hi
    rw [(ld_own h hi').1, (ld_own (jH_chk h) (by omega)).1]
    have : (jH j).ofs[i]'(by omega) = hvO j.ofs[i] := by simp [jH]
    rw [this]
    exact (ld_own h hi').2.2
theorem wider_n {j : Jur} {x : Ofc} (h : checkJur j = 0) (hw : checkJur (jW j x) = 0) : nF (jyJ j) ≤ nF (jyJ (jW j x)) ∧ (nF (jyJ (jW j x)) : Int) ≤ nF (jyJ j) + x.load ∧ 0 ≤ x.load := by
  have hlen : (jW j x).ofs.length = j.ofs.length + 1 := by simp [jW]
  have hx : (jyJ (jW j x)).ld j.ofs.length = x.load ∧ 0 ≤ x.load := by
    obtain ⟨a, b, _⟩ := ld_own hw (i := j.ofs.length) (by omega)
    have : (jW j x).ofs[j.ofs.length]'(by omega) = x := by simp [jW]
    rw [this] at a b
    exact ⟨a, b⟩
  obtain ⟨a, b⟩ := nF_wider (J := jyJ j) (J' := jyJ (jW j x)) (ld_pos h) rfl hlen rfl (by
    intro i p hi
    show servesV (jW j x) _ _ = servesV j _ _
    have hi' : i < j.ofs.length := hi
    rw [sv_at (by omega), sv_at hi']
    have : (jW j x).ofs[i]'(by omega) = j.ofs[i] := by simp [jW, List.getElem_append_left hi']
    rw [this]
    rfl) (by
    intro i hi
    have hi' : i < j.ofs.length := hi
    rw [(ld_own h hi').1, (ld_own hw (by omega)).1]
    have : (jW j x).ofs[i]'(by omega) = j.ofs[i] := by simp [jW, List.getElem_append_left hi']
    rw [this]) (by show 0 ≤ (jyJ (jW j x)).ld j.ofs.length; rw [hx.1]; exact hx.2)
  refine ⟨a, ?_, hx.2⟩
  have : (jyJ (jW j x)).ld (jyJ j).n = x.load := hx.1
  rw [this] at b
  exact b
end LM.G9
namespace LM.G9
open Go LM
variable {P : Nat → Option SFunc} [Has P]
def jyq (j : Jur) (q : Int) : Jy := jy j (ldsL q j.ofs)
theorem full_nF {j : Jur} (hm : j.pts.length ≤ 5) (q : Nat) : fullB j q = true ↔ nF (jyq j q) = j.pts.length := by
  unfold fullB nFill
  rw [bits_all hm, decide_eq_true_eq]
  rfl
theorem cut_jy (j : Jur) {q : Int} (h1 : q ≤ 24) : jyJ (cutJ q j) = jyq j q := by
  have e1 : (cutJ q j).ofs.length = j.ofs.length := by simp [cutJ]
  have e2 : ldsL 24 (cutJ q j).ofs = ldsL q j.ofs := by
    unfold ldsL cutJ
    rw [List.map_map]
    apply List.map_congr_left
    intro o _
    have e : (cutO q o).load = if q < o.load then q else o.load := rfl
    show (if 24 < (cutO q o).load then 24 else (cutO q o).load) = if q < o.load then q else o.load
    generalize (cutO q o).load = w at *
    split at e <;> (repeat' split) <;> omega
  have e3 : (fun (i p : Nat) => servesV (cutJ q j) (i : Int) (p : Int)) = fun (i p : Nat) => servesV j (i : Int) (p : Int) := by
    funext i p
    unfold servesV
    show (match ((j.ofs.map (cutO q))[((i : Int)).toNat]?), j.pts[((p : Int)).toNat]? with | some o, some p => servesB o p | _, _ => false) = _
    rw [List.getElem?_map]
    cases j.ofs[((i : Int)).toNat]? <;> cases j.pts[((p : Int)).toNat]? <;> rfl
  unfold jyJ jyq jy
  rw [e2, e1, e3]
  rfl
theorem jyq_pos {j : Jur} (h : checkJur j = 0) {q : Int} (hq : 0 ≤ q) : ∀ i, i < (jyq j q).n → 0 ≤ (jyq j q).ld i := by
  intro i hi
  have hi' : i < j.ofs.length := hi
  show 0 ≤ (ldsL q j.ofs).getD i 0
  rw [lds_at hi']
  have := (ld_own h hi').2.1
  split <;> omega
theorem fair_none {j : Jur} (h : checkJur j = 0) (hm : j.pts.length ≤ 5) (hf : fairV j = none) : nF (jyJ j) < j.pts.length := by
  have h1 := nF_m (jyJ j)
  have hjm : (jyJ j).m = j.pts.length := rfl
  rw [hjm] at h1
  apply Classical.byContradiction
  intro hc
  have hn : nF (jyJ j) = (jyJ j).m := by omega
  obtain ⟨B, hB, hb⟩ := (full_iff (ld_pos h)).1 hn
  have hfull : nF (jyq j j.pts.length) = (jyq j j.pts.length).m := by
    refine (full_iff (jyq_pos h (by omega))).2 ⟨B, ⟨hB.fit, hB.apart, fun i hi => ?_⟩, hb⟩
    have hi' : i < j.ofs.length := hi
    have h2 := hB.ld i hi
    rw [(ld_own h hi').1] at h2
    have h3 := cnt_m (jyJ j) B i
    rw [hjm] at h3
    have e : cntA (jyq j j.pts.length) B i = cntA (jyJ j) B i := rfl
    show (cntA (jyq j j.pts.length) B i : Int) ≤ (ldsL j.pts.length j.ofs).getD i 0
    rw [lds_at hi', e]
    split <;> omega
  have hfb : fullB j j.pts.length = true := (full_nF hm _).2 hfull
  unfold fairV at hf
  rw [List.find?_eq_none] at hf
  exact hf j.pts.length (List.mem_range.2 (by omega)) hfb
theorem fair_some {j : Jur} (h : checkJur j = 0) (hm : j.pts.length ≤ 5) {q : Nat} (hf : fairV j = some q) :
    q ≤ j.pts.length ∧ j.pts.length ≤ q * j.ofs.length ∧ nF (jyJ j) = j.pts.length ∧ nF (jyJ (cutJ q j)) = j.pts.length ∧ (q ≠ 0 → nF (jyJ (cutJ ((q : Int) - 1) j)) < j.pts.length) := by
  unfold fairV at hf
  have hq := List.mem_of_find?_eq_some hf
  have hq : q ≤ j.pts.length := by have := List.mem_range.1 hq; omega
  have hfull := List.find?_some hf
  have hfirst : ∀ k, k < q → fullB j k = false := by
    intro k hk
    have := (List.find?_range_eq_some.1 hf).2.2 k hk
    simpa using this
  have hF := (full_nF hm q).1 hfull
  obtain ⟨B, hB, hb⟩ := (full_iff (J := jyq j q) (jyq_pos h (by omega))).1 hF
  refine ⟨hq, ?_, ?_, ?_, ?_⟩
  · have := full_sum (J := jyq j q) q (fun i hi => by
      have hi' : i < j.ofs.length := hi
      show (ldsL q j.ofs).getD i 0 ≤ q
      rw [lds_at hi']
      split <;> omega) ⟨B, hB, hb⟩
    exact this
  · refine (full_iff (J := jyJ j) (ld_pos h)).2 ⟨B, ⟨hB.fit, hB.apart, fun i hi => ?_⟩, hb⟩
    have hi' : i < j.ofs.length := hi
    have h2 := hB.ld i hi
    have e : (jyq j q).ld i = (ldsL q j.ofs).getD i 0 := rfl
    rw [e, lds_at hi'] at h2
    rw [(ld_own h hi').1]
    have e2 : cntA (jyJ j) B i = cntA (jyq j q) B i := rfl
    rw [e2]
    split at h2 <;> omega
  · rw [cut_jy j (by omega)]
    exact hF
  · intro h0
    have e : ((q : Int) - 1) = ((q - 1 : Nat) : Int) := by omega
    rw [e, cut_jy j (by omega)]
    have h1 := nF_m (jyq j (q - 1 : Nat))
    have hjm : (jyq j (q - 1 : Nat)).m = j.pts.length := rfl
    rw [hjm] at h1
    have h2 := hfirst (q - 1) (by omega)
    apply Classical.byContradiction
    intro hc
    have : fullB j (q - 1) = true := (full_nF hm _).2 (by omega)
    rw [h2] at this
    cases this
def fewB (j : Jur) (a b : Int) : Bool := shortJur j && (decide ((j.ofs.length : Int) ≤ a) && (decide ((j.pts.length : Int) ≤ b) && decide (checkJur j = 0)))
theorem S47 (j : Jur) (hj : j.ok) (a b : Int) : fn P 47 [j.enc, ci a, ci b] = some (.bool (fewB j a b)) := by
  have e40 := S40 (P := P) j hj
  have e41 := S41 (P := P) j hj
  simp only [Jur.enc] at e40 e41
  rw [u47]
  unfold fewB
  by_cases h0 : checkJur j = 0
  · rw [h0] at e41
    cases h1 : shortJur j <;> rw [h1] at e40 <;> by_cases h2 : (j.ofs.length : Int) ≤ a <;> by_cases h3 : (j.pts.length : Int) ≤ b <;> simp [c47, Jur.enc, e40, e41, h2, h3, h0]
  · cases h1 : shortJur j <;> rw [h1] at e40 <;> by_cases h2 : (j.ofs.length : Int) ≤ a <;> by_cases h3 : (j.pts.length : Int) ≤ b <;> simp [c47, Jur.enc, e40, e41, h2, h3, h0]
theorem few_iff {j : Jur} {a b : Int} (h : fewB j a b = true) : (j.ofs.length : Int) ≤ a ∧ (j.pts.length : Int) ≤ b ∧ checkJur j = 0 := by
  unfold fewB at h
  simp only [Bool.and_eq_true, decide_eq_true_eq] at h
  exact h.2
/-- Most, of a jury. -/
theorem S59J (T : Tabs9 P) (j : Jur) (hj : j.ok) (hjl : j.ofs.length < 800) (hm : j.pts.length ≤ 5) (h0 : checkJur j = 0) : fn P 59 [j.enc] = some (.tuple [ci (nF (jyJ j)), ci 0]) :=
  S59 T j hj (ld_pos h0) hjl hm h0
end LM.G9
namespace LM.G9
open Go LM
variable {P : Nat → Option SFunc} [Has P]
def OB (x : Ofc) : LB := .cells 0 [.c (.str x.name), .c (.str x.nation), .c (.slice (x.roles.map CV.str)), .c (ci x.load)] 0
def T10 (N : Int) (len i : Int) : List LV := [.ptr 0 0 0, .ptr 1 0 0, .c (ci N), .ptr 3 0 0, .ptr 4 0 0, .ptr 5 0 0, .c (ci len), .c (ci i)]
def H10 (j : Jur) (mo : Ofc) (ys : List CV) (xb xh : List Ofc) : Heap := [JB j, OB mo, JB j, .cells 0 [.nil, .c (.slice (j.pts.map Pst.enc))] 0, .cells 0 [.slice 7 xb.length 0 xb.length (some 4) none, .c (.slice (j.pts.map Pst.enc))] 0, .cells 0 [.slice 9 xh.length 0 xh.length (some 4) none, .c (.slice (j.pts.map Pst.enc))] 0, .dead, .cells xb.length (cellsOf (xb.map Ofc.enc)) 0, .cells 0 (ys.map .c) 0, .cells xh.length (cellsOf (xh.map Ofc.enc)) 0]
set_option maxHeartbeats 4000000 in
theorem L10 (j : Jur) (mo : Ofc) (N : Int) (hjl : j.ofs.length < 1000) (ys : List CV) : ∀ (r pre : List Ofc), j.ofs = pre ++ r → pre ≠ [] →
    execS P (limS P) c10_l0 ⟨T10 N j.ofs.length pre.length, H10 j mo ys (j.ofs.reverse.take pre.length) (pre.map hvO)⟩ =
      some (.exit 0, ⟨[.ptr 0 0 0, .ptr 1 0 0, .c (ci N), .ptr 3 0 0, .ptr 4 0 0, .ptr 5 0 0], H10 j mo ys j.ofs.reverse (j.ofs.map hvO)⟩) := by
  intro r
  induction r with
  | nil =>
    intro pre hp _
    have hp : j.ofs = pre := by simpa using hp
    have ht : pre.reverse.take pre.length = pre.reverse := List.take_of_length_le (by simp)
    rw [hp, r10_l0, ht]
    simp [T10, c10_l0b]
  | cons x r ih =>
    intro pre hp hne
    have ih := ih (pre ++ [x]) (by simpa using hp) (by simp)
    have hx : j.ofs[pre.length]? = some x := by rw [hp]; simp
    obtain ⟨hxl, hx'⟩ := List.getElem?_eq_some_iff.1 hx
    have hp0 : pre.length ≠ 0 := fun e => hne (List.eq_nil_of_length_eq_zero e)
    obtain ⟨z, hz⟩ : ∃ z, j.ofs[j.ofs.length - 1 - pre.length]? = some z := ⟨_, List.getElem?_eq_getElem (by omega)⟩
    obtain ⟨hzl, hz'⟩ := List.getElem?_eq_some_iff.1 hz
    have hrev : j.ofs.reverse[pre.length]? = some z := by rw [List.getElem?_reverse hxl]; exact hz
    have htk : j.ofs.reverse.take (pre.length + 1) = j.ofs.reverse.take pre.length ++ [z] := by
      rw [List.take_succ, hrev]; rfl
    have hlt2 : (j.ofs.reverse.take pre.length).length = pre.length := by simp; omega
    have hw : IntKind.i64.wrap ((pre.length : Int) + 1) = (pre.length : Int) + 1 := wrap64 (by omega) (by omega)
    have hw1 : IntKind.i64.wrap ((j.ofs.length : Int) - 1) = (j.ofs.length : Int) - 1 := wrap64 (by omega) (by omega)
    have hw2 : IntKind.i64.wrap ((j.ofs.length : Int) - 1 - pre.length) = ((j.ofs.length - 1 - pre.length : Nat) : Int) := by
      rw [show (j.ofs.length : Int) - 1 - pre.length = ((j.ofs.length - 1 - pre.length : Nat) : Int) from by omega]
      exact wrap64 (by omega) (by omega)
    rw [List.length_append, List.length_cons, List.length_nil, Nat.zero_add, htk] at ih
    generalize hA : j.ofs.reverse.take pre.length = A at *
    have ha1 := append_ownP (some 11) (b := 7) (g := pre.length) (bytes := 64) (e := some 4) (ys := A.map Ofc.enc) (xs := [z.enc]) (h := H10 j mo ys A (pre.map hvO) ++ [.dead, .dead]) (len := pre.length) (fz := 0) (by simp [H10, hlt2]) (Ofc.elems _) (by intro y hy; simp at hy; subst hy; exact Ofc.elems [z] _ (by simp)) (by simp [hlt2]) (Nat.zero_le _) (by simp) (by simp [hlt2]; omega) (by simp [hlt2]; omega)
    have e1 : A.map Ofc.enc ++ [z.enc] = (A ++ [z]).map Ofc.enc := by simp
    rw [e1] at ha1
    have ha2 := append_own (b := 9) (g := pre.length) (bytes := 64) (e := some 4) (ys := (pre.map hvO).map Ofc.enc) (xs := [(hvO x).enc]) (h := H10 j mo ys (A ++ [z]) (pre.map hvO) ++ [.dead, .dead, OB (hvO x)]) (len := pre.length) (fz := 0) (by simp [H10, hlt2]) (Ofc.elems _) (by intro y hy; simp at hy; subst hy; exact Ofc.elems [hvO x] _ (by simp)) (by simp) (Nat.zero_le _) (by simp) (by simp; omega) (by simp; omega)
    have e2 : (pre.map hvO).map Ofc.enc ++ [(hvO x).enc] = ((pre ++ [x]).map hvO).map Ofc.enc := by simp
    rw [e2] at ha2
    have hu := fun n (l : List CV) => underL_cellsOf n l
    simp [H10, T10, OB, hvO, Ofc.enc, JB, hlt2] at ih ha1 ha2 ⊢
    rw [r10_l0]
    simp [c10_l0b, hxl, hx, hx', hzl, hz, hz', hw, hw1, hw2, hp0, Ofc.enc, ha1, ha2, hu, ih]
    done
end LM.G9
namespace LM.G9
open Go LM
variable {P : Nat → Option SFunc} [Has P] [HasP P]
set_option maxHeartbeats 4000000 in
/-- From the fairest number on. -/
theorem B10_tail (j : Jur) (n : Nat) (hn4 : j.ofs.length ≤ 4) (hm : j.pts.length ≤ 5)
    (hfairS : (∃ q : Nat, fn P 60 [j.enc] = some (.tuple [ci q, ci 0]) ∧ q ≤ j.pts.length ∧ j.pts.length ≤ q * j.ofs.length ∧ n = j.pts.length ∧ fn P 61 [j.enc, ci q] = some (cutJ q j).enc ∧ fn P 59 [(cutJ q j).enc] = some (.tuple [ci (j.pts.length : Nat), ci 0]) ∧ (q ≠ 0 → ∃ nl : Nat, nl < j.pts.length ∧ fn P 61 [j.enc, ci ((q : Int) - 1)] = some (cutJ ((q : Int) - 1) j).enc ∧ fn P 59 [(cutJ ((q : Int) - 1) j).enc] = some (.tuple [ci nl, ci 0]))) ∨ (fn P 60 [j.enc] = some (.tuple [ci 0, ci 23]) ∧ n < j.pts.length)) (H : Heap) :
    ∃ H', execS P (limS P) c10_n40 ⟨[.ptr 0 0 0, .c (ci n)], JB j :: H⟩ = some (.ret, ⟨[.c (.bool true)], H'⟩) := by
  refine ⟨JB j :: H, ?_⟩
  simp only [Jur.enc, cutJ, List.map_map] at hfairS
  unfold JB
  rcases hfairS with ⟨q, e60, f1, f2, f3, e61, e59c, f5⟩ | ⟨e60, f1⟩
  · have hq1 : ¬ (j.pts.length : Int) < q := by omega
    have hq3 : ¬ (q : Int) < 0 := by omega
    have hqb : q * j.ofs.length ≤ 5 * 4 := Nat.mul_le_mul (by omega) (by omega)
    have hqc : ((q * j.ofs.length : Nat) : Int) = (q : Int) * (j.ofs.length : Int) := Int.natCast_mul _ _
    have hqw : IntKind.i64.wrap ((q : Int) * (j.ofs.length : Int)) = (q : Int) * (j.ofs.length : Int) := by rw [← hqc]; exact wrap64 (by omega) (by omega)
    have hq2 : ¬ (q : Int) * (j.ofs.length : Int) < j.pts.length := by rw [← hqc]; omega
    subst f3
    by_cases q0 : q = 0
    · subst q0
      have hn00 : j.pts.length = 0 := by omega
      have hnil : j.pts = [] := List.eq_nil_of_length_eq_zero hn00
      have hw0 : IntKind.i64.wrap 0 = 0 := wrap64 (by omega) (by omega)
      simp [hnil] at e60 e61 e59c
      simp [e60, e61, e59c, hnil, hw0]
      done
    · obtain ⟨nl, l1, l2, l3⟩ := f5 q0
      have q0' : ¬ (q : Int) = 0 := by omega
      have hnl : (nl : Int) < j.pts.length := by omega
      have hw1 : IntKind.i64.wrap ((q : Int) - 1) = (q : Int) - 1 := wrap64 (by omega) (by omega)
      simp [e60, hq1, hq3, hqw, hq2, e61, e59c, q0', q0, l2, l3, hnl, hw1, l1]
      done
  · have hlt : (n : Int) < j.pts.length := by omega
    simp [e60, hlt, f1]
    done
theorem append_nilP (pos : Option Nat) {bytes : Nat} {e : Option Nat} {xs : List CV} (h : Heap) (hx : ∀ x ∈ xs, Elem e x) (hn : xs ≠ []) (hs : xs.length * bytes ≤ 2 ^ 47) (hs2 : xs.length ≤ 9223372036854775807) :
    appendOp pos e bytes .nil (.c (.slice xs)) h = some (.slice (newId pos h) 1 0 xs.length e none, newAt pos (.cells 1 (cellsOf xs) 0) h) := by
  have h1 : sliceCells e h (.c (.slice xs)) = some (xs.length, cellsOf xs) := rfl
  have h2 := cellsOf_length hx
  have hne : xs.length ≠ 0 := fun e => hn (List.eq_nil_of_length_eq_zero e)
  simp only [appendOp, h1, flatAll_cellsOf hx]
  rw [if_neg (by simp), if_neg (by rw [h2]; simp), if_neg hne, if_neg (by omega)]
  rfl
set_option maxHeartbeats 8000000 in
theorem S10 (h14 : fn P 14 [] = some (.bool true)) (T : Tabs9 P) (j : Jur) (hj : j.ok) (mo : Ofc) (hmo : mo.ok) : fn P 10 [j.enc, mo.enc] = some (.bool true) := by
  have e39 := S39 (P := P) j hj
  have e47 := S47 (P := P) j hj 4 5
  simp only [Jur.enc] at e39 e47
  cases hfew : fewB j 4 5
  · rw [hfew] at e47
    rw [u10]
    simp [c10, Jur.enc, Ofc.enc, e39, h14, e47]
  rw [hfew] at e47
  obtain ⟨hn4, hm5, h0⟩ := few_iff hfew
  have hm : j.pts.length ≤ 5 := by omega
  have hn : j.ofs.length ≤ 4 := by omega
  have hN := nF_m (jyJ j)
  have hjm : (jyJ j).m = j.pts.length := rfl
  rw [hjm] at hN
  have e59 := S59J (P := P) T j hj (by omega) hm h0
  have e59b := S59J (P := P) T (jB j) (jB_ok hj) (by simp [jB]; omega) hm (jB_chk h0)
  rw [back_n h0] at e59b
  have e59h := S59J (P := P) T (jH j) (jH_ok hj) (by simp [jH]; omega) hm (jH_chk h0)
  have hheavy := heavy_n h0
  have hpos : ∀ o ∈ j.ofs, 0 ≤ o.load := fun o ho => ((checkJur_zero.1 h0).2.1 o ho).2.2.2.1
  have e60 := S60 (P := P) T j hj hpos (by omega) hm h0
  have hwok : (jW j mo).ok := ⟨fun x hx => by
    rcases List.mem_append.1 hx with hx | hx
    · exact hj.o x hx
    · simp at hx; subst hx; exact hmo, hj.p, by simp [jW]; omega, hj.sp⟩
  have e39w := S39 (P := P) (jW j mo) hwok
  have e47w := S47 (P := P) (jW j mo) hwok 5 5
  -- what follows once the three juries are made
  have e59w : fewB (jW j mo) 5 5 = true → fn P 59 [(jW j mo).enc] = some (.tuple [ci (nF (jyJ (jW j mo))), ci 0]) ∧ nF (jyJ j) ≤ nF (jyJ (jW j mo)) ∧ ((nF (jyJ (jW j mo)) : Int) ≤ nF (jyJ j) + mo.load ∧ 0 ≤ mo.load) ∧ mo.load ≤ 24 := by
    intro hf
    have := few_iff hf
    exact ⟨S59J (P := P) T (jW j mo) hwok (by simp [jW]; omega) hm this.2.2, (wider_n h0 this.2.2).1, (wider_n h0 this.2.2).2, ((checkJur_zero.1 this.2.2).2.1 mo (by simp [jW])).2.2.2.2⟩
  have hfairS : (∃ q : Nat, fn P 60 [j.enc] = some (.tuple [ci q, ci 0]) ∧ q ≤ j.pts.length ∧ j.pts.length ≤ q * j.ofs.length ∧ nF (jyJ j) = j.pts.length ∧ fn P 61 [j.enc, ci q] = some (cutJ q j).enc ∧ fn P 59 [(cutJ q j).enc] = some (.tuple [ci (j.pts.length : Nat), ci 0]) ∧ (q ≠ 0 → ∃ nl : Nat, nl < j.pts.length ∧ fn P 61 [j.enc, ci ((q : Int) - 1)] = some (cutJ ((q : Int) - 1) j).enc ∧ fn P 59 [(cutJ ((q : Int) - 1) j).enc] = some (.tuple [ci nl, ci 0]))) ∨ (fn P 60 [j.enc] = some (.tuple [ci 0, ci 23]) ∧ nF (jyJ j) < j.pts.length) := by
    cases hf : fairV j with
    | none =>
      rw [hf] at e60
      exact .inr ⟨e60, fair_none h0 hm hf⟩
    | some q =>
      rw [hf] at e60
      obtain ⟨f1, f2, f3, f4, f5⟩ := fair_some h0 hm hf
      refine .inl ⟨q, e60, f1, f2, f3, S61 (P := P) j q (by omega), ?_, fun hq => ⟨nF (jyJ (cutJ ((q : Int) - 1) j)), f5 hq, S61 (P := P) j _ (by omega), ?_⟩⟩
      · have := S59J (P := P) T (cutJ q j) (cut_ok hj _) (by simp [cutJ]; omega) hm (cut_chk h0 (by omega))
        rw [f4] at this
        exact this
      · exact S59J (P := P) T (cutJ ((q : Int) - 1) j) (cut_ok hj _) (by simp [cutJ]; omega) hm (cut_chk h0 (by omega))
  clear e60
  have hw0 : IntKind.i64.wrap 0 = 0 := wrap64 (by omega) (by omega)
  generalize hNN : nF (jyJ j) = n at *
  generalize hHH : nF (jyJ (jH j)) = nh at *
  generalize hWW : nF (jyJ (jW j mo)) = nw at *
  simp only [Jur.enc, jB, jH, jW] at e59 e59b e59h hfairS e39w e47w e59w
  have hn0 : ¬ (n : Int) < 0 := by omega
  have hnm : ¬ (j.pts.length : Int) < n := by omega
  have hnh : ¬ (nh : Int) < n := by omega
  have hagg : ∀ (cs l : List LV) (h : Heap), frzArgs false (.agg cs :: l) h = bnd (frz frzDepth (.agg cs) h) fun y => bnd (frzArgs false l y.2) fun z => some (y.1 :: z.1, z.2) := fun cs l h => frzArgs_cons _ l h
  obtain ⟨Hf, k40⟩ : ∃ Hf : Heap → Heap, ∀ H, execS P (limS P) c10_n40 ⟨[.ptr 0 0 0, .c (ci n)], JB j :: H⟩ = some (.ret, ⟨[.c (.bool true)], Hf H⟩) := by
    refine ⟨fun H => (B10_tail (P := P) j n (by omega) hm ?_ H).choose, fun H => (B10_tail (P := P) j n (by omega) hm ?_ H).choose_spec⟩ <;> simpa only [Jur.enc] using hfairS
  simp only [JB] at k40
  cases hofs : j.ofs with
  | nil =>
    have k0 : ∀ H, execS P (limS P) c10_l0 ⟨[.ptr 0 0 0, .ptr 1 0 0, .c (ci n), .ptr 3 0 0, .ptr 4 0 0, .ptr 5 0 0, .c (ci 0), .c (ci 0)], H⟩ = some (.exit 0, ⟨[.ptr 0 0 0, .ptr 1 0 0, .c (ci n), .ptr 3 0 0, .ptr 4 0 0, .ptr 5 0 0], H⟩) := by
      intro H
      rw [r10_l0]
      simp [c10_l0b]
    have hfw := fun (h : Heap) (b k : Nat) (hb : h[b]? = some (.cells 1 (cellsOf ([mo].map Ofc.enc)) k)) => frz_own39 (b := b) (g := 1) (fz := k) (e := some 4) (ys := [mo].map Ofc.enc) (h := h) (len := 1) hb (Ofc.elems _) rfl none
    have hcs : cellsOf ([mo].map Ofc.enc) = [.c (.str mo.name), .c (.str mo.nation), .c (.slice (mo.roles.map CV.str)), .c (ci mo.load)] := rfl
    rw [hcs] at hfw
    simp [hofs] at e39 e47 e59 e59b e59h e39w e47w e59w k40
    simp [Ofc.enc, -frz_39_slice] at hfw e39w e47w e59w
    cases hfw2 : fewB { ofs := [mo], pts := j.pts } 5 5
    · rw [hfw2] at e47w
      rw [u10]
      simp [c10, Jur.enc, Ofc.enc, hofs, e39, h14, e47, e59, hnm, k0, e59b, e59h, hw0, hnh, hn0, hagg, hfw, e39w, e47w, appendOp, sliceCells, flatAll, ok, newId, newAt, szOf, k40, -frz_39_slice]
      done
    · rw [hfw2] at e47w
      obtain ⟨w1, w2, ⟨w3, w4⟩, w5⟩ := e59w hfw2
      have hm1 : ¬ (nw : Int) < n := by omega
      have hm2 : ¬ (n : Int) + mo.load < (nw : Int) := by omega
      have hm3 : IntKind.i64.wrap ((n : Int) + if 0 < mo.load then mo.load else 0) = n + mo.load := by
        rw [show (if 0 < mo.load then mo.load else 0) = mo.load from by split <;> omega]
        exact wrap64 (by omega) (by omega)
      rw [u10]
      simp [c10, Jur.enc, Ofc.enc, hofs, e39, h14, e47, e59, hnm, k0, e59b, e59h, hw0, hnh, hn0, hagg, hfw, e39w, e47w, appendOp, sliceCells, flatAll, ok, newId, newAt, szOf, w1, foldInt, hm1, hm2, hm3, k40, -frz_39_slice]
      done
  | cons x r =>
    obtain ⟨z, hz⟩ : ∃ z, j.ofs[j.ofs.length - 1]? = some z := ⟨_, List.getElem?_eq_getElem (by rw [hofs]; simp)⟩
    obtain ⟨hzl, hz'⟩ := List.getElem?_eq_some_iff.1 hz
    have htk : j.ofs.reverse.take 1 = [z] := by
      have : j.ofs.reverse[0]? = some z := by rw [List.getElem?_reverse (by rw [hofs]; simp)]; exact hz
      rw [List.take_succ, this]; rfl
    have hjm : j.ofs.length = r.length + 1 := by rw [hofs]; rfl
    have k := fun Y => L10 (P := P) j mo n (by omega) Y r [x] (by rw [hofs]; rfl) (by simp)
    have hw : IntKind.i64.wrap 1 = 1 := wrap64 (by omega) (by omega)
    have k0 : ∃ Y : List CV, execS P (limS P) c10_l0 ⟨T10 n j.ofs.length 0, [JB j, OB mo, JB j, .cells 0 [.nil, .c (.slice (j.pts.map Pst.enc))] 0, .cells 0 [.nil, .c (.slice (j.pts.map Pst.enc))] 0, .cells 0 [.nil, .c (.slice (j.pts.map Pst.enc))] 0]⟩ = some (.exit 0, ⟨[.ptr 0 0 0, .ptr 1 0 0, .c (ci n), .ptr 3 0 0, .ptr 4 0 0, .ptr 5 0 0], H10 j mo Y j.ofs.reverse (j.ofs.map hvO)⟩) := by
      refine ⟨[.str x.name, .str x.nation, .slice (x.roles.map CV.str), ci (hvO x).load], ?_⟩
      have k := k [.str x.name, .str x.nation, .slice (x.roles.map CV.str), ci (hvO x).load]
      have hcs : ∀ a b c d : CV, cellsOf [CV.agg [a, b, c, d]] = [.c a, .c b, .c c, .c d] := fun _ _ _ _ => rfl
      have hw1 : IntKind.i64.wrap ((j.ofs.length : Int) - 1) = (j.ofs.length : Int) - 1 := wrap64 (by omega) (by omega)
      have hw2 : IntKind.i64.wrap ((j.ofs.length : Int) - 1 - 0) = ((j.ofs.length - 1 : Nat) : Int) := by
        rw [show (j.ofs.length : Int) - 1 - 0 = ((j.ofs.length - 1 : Nat) : Int) from by omega]
        exact wrap64 (by omega) (by omega)
      have hx : j.ofs[0]? = some x := by rw [hofs]; rfl
      obtain ⟨hxl, hx'⟩ := List.getElem?_eq_some_iff.1 hx
      have hge : (1 : Int) ≤ j.ofs.length := by omega
      rw [show [x].length = 1 from rfl, htk] at k
      rw [r10_l0]
      simp [H10, T10, hvO, Ofc.enc, JB, hcs] at k ⊢
      simp [c10_l0b, hxl, hx, hx', hzl, hz, hz', hw, hw1, hw2, hge, Ofc.enc, hcs, appendOp, sliceCells, flatAll, ok, newId, newAt, szOf, k]
      done
    obtain ⟨Y, k0⟩ := k0
    have hne : j.ofs.map Ofc.enc ≠ [] := by rw [hofs]; simp
    have hap1 := fun h => append_nilP (some 10) (bytes := 64) (e := some 4) (xs := j.ofs.map Ofc.enc) h (Ofc.elems _) hne (by simp; omega) (by simp; omega)
    have hap2 := fun (h : Heap) (hb : h[10]? = some (.cells 1 (cellsOf (j.ofs.map Ofc.enc)) 0)) => append_ownP (some 11) (b := 10) (g := 1) (bytes := 64) (e := some 4) (ys := j.ofs.map Ofc.enc) (xs := [mo.enc]) (h := h) (len := j.ofs.length) (fz := 0) hb (Ofc.elems _) (by intro y hy; simp at hy; subst hy; exact Ofc.elems [mo] _ (by simp)) (by simp) (Nat.zero_le _) (by simp) (by simp; omega) (by simp; omega)
    have e1 : j.ofs.map Ofc.enc ++ [mo.enc] = (j.ofs ++ [mo]).map Ofc.enc := by simp
    rw [e1] at hap2
    have hf7 := fun (h : Heap) (k : Nat) (hb : h[7]? = some (.cells j.ofs.length (cellsOf (j.ofs.reverse.map Ofc.enc)) k)) => frz_own39 (b := 7) (g := j.ofs.length) (fz := k) (e := some 4) (ys := j.ofs.reverse.map Ofc.enc) (h := h) (len := j.ofs.length) hb (Ofc.elems _) (by simp) none
    have hf9 := fun (h : Heap) (k : Nat) (hb : h[9]? = some (.cells j.ofs.length (cellsOf ((j.ofs.map hvO).map Ofc.enc)) k)) => frz_own39 (b := 9) (g := j.ofs.length) (fz := k) (e := some 4) (ys := (j.ofs.map hvO).map Ofc.enc) (h := h) (len := j.ofs.length) hb (Ofc.elems _) (by simp) none
    have hf10 := fun (h : Heap) (k : Nat) (hb : h[10]? = some (.cells 2 (cellsOf ((j.ofs ++ [mo]).map Ofc.enc)) k)) => frz_own39 (b := 10) (g := 2) (fz := k) (e := some 4) (ys := (j.ofs ++ [mo]).map Ofc.enc) (h := h) (len := j.ofs.length + 1) hb (Ofc.elems _) (by simp) none
    simp only [H10, T10, JB, OB, List.length_map, List.length_reverse] at k0
    generalize hrv : List.map Ofc.enc j.ofs.reverse = rv at *
    generalize hhv : List.map Ofc.enc (List.map hvO j.ofs) = hv at *
    generalize hwv : List.map Ofc.enc (j.ofs ++ [mo]) = wv at *
    generalize hov : List.map Ofc.enc j.ofs = ov at *
    generalize hpv : List.map Pst.enc j.pts = pv at *
    simp only [Ofc.enc] at hap2
    simp at k40 k0
    have hol : ov.length = j.ofs.length := by rw [← hov]; simp
    have hpl : pv.length = j.pts.length := by rw [← hpv]; simp
    cases hfw2 : fewB { ofs := j.ofs ++ [mo], pts := j.pts } 5 5
    · rw [hfw2] at e47w
      rw [u10]
      simp [c10, Jur.enc, Ofc.enc, hov, hpv, hol, hpl, e39, h14, e47, e59, hnm, k0, e59b, e59h, hw0, hnh, hn0, hagg, hap1, hap2, hf7, hf9, hf10, e39w, e47w, ok, newId, newAt, szOf, k40, -frz_39_slice]
      done
    · rw [hfw2] at e47w
      obtain ⟨w1, w2, ⟨w3, w4⟩, w5⟩ := e59w hfw2
      have hm1 : ¬ (nw : Int) < n := by omega
      have hm2 : ¬ (n : Int) + mo.load < (nw : Int) := by omega
      have hm3 : IntKind.i64.wrap ((n : Int) + if 0 < mo.load then mo.load else 0) = n + mo.load := by
        rw [show (if 0 < mo.load then mo.load else 0) = mo.load from by split <;> omega]
        exact wrap64 (by omega) (by omega)
      rw [u10]
      simp [c10, Jur.enc, Ofc.enc, hov, hpv, hol, hpl, e39, h14, e47, e59, hnm, k0, e59b, e59h, hw0, hnh, hn0, hagg, hap1, hap2, hf7, hf9, hf10, e39w, e47w, ok, newId, newAt, szOf, w1, foldInt, hm1, hm2, hm3, k40, -frz_39_slice]
      done
end LM.G9
namespace LM.G9
open Go LM
def isM1 : LV → Bool
  | .c (.int .i64 v) => v == -1
  | _ => false
def chkRep (m : Nat) : Option (LV × List LB) → Bool
  | some (.slice 1 1 0 n none (some c), [.cells 1 [] 0, .cells 1 l 0]) => n == m && c == m && l.length == m && l.all isM1
  | _ => false
theorem isM1_eq {x : LV} (h : isM1 x = true) : x = .c (ci (-1)) := by
  unfold isM1 at h
  split at h
  · simp only [beq_iff_eq] at h; rw [h]
  · cases h
theorem chkRep_eq {m : Nat} {r : Option (LV × List LB)} (h : chkRep m r = true) : r = some (.slice 1 1 0 m none (some m), [.cells 1 [] 0, .cells 1 (repM m) 0]) := by
  unfold chkRep at h
  split at h
  · rename_i n c l
    simp only [Bool.and_eq_true, beq_iff_eq] at h
    obtain ⟨⟨⟨rfl, rfl⟩, h3⟩, h4⟩ := h
    have : l = repM c := by
      rw [List.all_eq_true] at h4
      unfold repM
      rw [List.eq_replicate_iff]
      exact ⟨h3, fun b hb => isM1_eq (h4 b hb)⟩
    rw [this]
  · cases h
theorem all_range {p : Nat → Bool} {n : Nat} (h : (List.range n).all p = true) : ∀ k, k < n → p k = true := by
  intro k hk
  rw [List.all_eq_true] at h
  exact h k (List.mem_range.2 hk)
def chkI (r : Option CV) (x : Int) : Bool := match r with
  | some (.int .i64 v) => v == x
  | _ => false
theorem chkI_eq {r : Option CV} {x : Int} (h : chkI r x = true) : r = some (ci x) := by
  unfold chkI at h
  split at h
  · simp only [beq_iff_eq] at h; rw [h]
  · cases h
theorem ev131 : (List.range 6).all (fun m => chkRep m (freshS (runS prog 1000) [.tmp 0] c131 [.slice [ci (-1)], ci (m : Nat)])) = true := by kernel_rfl
theorem ev144 : (List.range 32).all (fun k => chkI (pcallS prog 1000 144 [.int .u64 (k : Nat)]) (popN 5 k)) = true := by kernel_rfl
theorem tabs9 : Tabs9 prog where
  rep m hm := by
    have h := chkRep_eq (all_range ev131 m (by omega))
    have e : ffn prog 131 [.slice [ci (-1)], ci m] = freshS (limS prog) [.tmp 0] c131 [.slice [ci (-1)], ci m] := by
      simp only [ffn, p131]
      rfl
    rw [e]
    exact (scottS_fresh (limS_chain (prog := prog)) _ _ _).mono _ _ _ (fun c s x h => limS_iff.2 ⟨1000, h⟩) h
  pop x hx := pcallS_fn (chkI_eq (all_range ev144 x hx))
end LM.G9
