/- Part 10 of what YteihlaoeolfkfaaGreatPools leans on. -/
import Derived.Test.YteihlaoeolfkfaaGreatRows
import Derived.WalkKit
import Derived.ProofKit
import Derived.SizedLaws
import Derived.Test.YteihlaoeolfkfaaGreatPoolsL1
import Derived.Test.YteihlaoeolfkfaaGreatPoolsL2
import Derived.Test.YteihlaoeolfkfaaGreatPoolsL3
import Derived.Test.YteihlaoeolfkfaaGreatPools1
import Derived.Test.YteihlaoeolfkfaaGreatPools2
import Derived.Test.YteihlaoeolfkfaaGreatPools3
import Derived.Test.YteihlaoeolfkfaaGreatPools4
import Derived.Test.YteihlaoeolfkfaaGreatPools5
import Derived.Test.YteihlaoeolfkfaaGreatPools6
set_option linter.all false
namespace Go.Proofs.YteihlaoeolfkfaaGreat
open Go.ChangeShapes Go.WideShapes Go.ChangeAt Go.RowKit
theorem own_knob : ownKnob Tryz.prog.godebug = none := by kernel_rfl
theorem laid_out : laidOutB Tryz.prog = true := by kernel_rfl
theorem maps_rowed : mapsRowed Tryz.prog = true := by kernel_rfl
theorem slices_full : LM.slicesFullB Tryz.prog = true := by kernel_rfl
theorem typed_map {α : Type} {enc : α → LM.CV} {p : α → Prop} {e : LM.CTy} (h : ∀ x, LM.Typed e x → ∃ a, x = enc a ∧ p a) : ∀ {xs : List LM.CV}, (∀ x ∈ xs, LM.Typed e x) → ∃ l : List α, xs = l.map enc ∧ ∀ a ∈ l, p a
  | [], _ => ⟨[], rfl, by simp⟩
  | x :: xs, hx => by
    obtain ⟨a, ha, hp⟩ := h x (hx x (by simp))
    obtain ⟨l, hl, hq⟩ := typed_map h (xs := xs) fun y hy => hx y (by simp [hy])
    exact ⟨a :: l, by rw [ha, hl]; rfl, fun b hb => by rcases List.mem_cons.1 hb with rfl | hb; exact hp; exact hq b hb⟩
theorem typed_slice {α : Type} {enc : α → LM.CV} {p : α → Prop} {e : LM.CTy} {b : Nat} (h : ∀ x, LM.Typed e x → ∃ a, x = enc a ∧ p a) {v : LM.CV} (hv : LM.Typed (.slice b e) v) : ∃ l : List α, v = .slice (l.map enc) ∧ (∀ a ∈ l, p a) ∧ l.length * b ≤ 2 ^ 47 := by
  simp only [LM.Typed] at hv
  obtain ⟨xs, rfl, _, hb, hx⟩ := hv
  obtain ⟨l, rfl, hp⟩ := typed_map h hx
  refine ⟨l, rfl, hp, ?_⟩
  rw [List.length_map] at hb
  exact Nat.le_trans hb (by decide)
theorem typed_str {v : LM.CV} (hv : LM.Typed .str v) : ∃ s : LM.Str, v = .str s ∧ s.length < 9223372036854775807 := by
  simp only [LM.Typed] at hv
  obtain ⟨s, rfl, h⟩ := hv
  exact ⟨s, rfl, Nat.lt_of_le_of_lt h (by decide)⟩
theorem typed_int {v : LM.CV} (hv : LM.Typed (.int .i64) v) : ∃ n, v = LM.ci n ∧ -9223372036854775808 ≤ n ∧ n ≤ 9223372036854775807 := by
  simp only [LM.Typed] at hv
  obtain ⟨n, rfl, h⟩ := hv
  refine ⟨n, rfl, ?_⟩
  simp [Lit.wf, IntKind.min, IntKind.max, IntKind.bits, IntKind.signed] at h
  omega
end Go.Proofs.YteihlaoeolfkfaaGreat
namespace LM.G9
open Go LM
variable {P : Nat → Option SFunc} [Has P]
@[simp] theorem S54 (n a b : Int) : fn P 54 [ci n, ci a, ci b] = some (.bool (outside n a b)) := by
  rw [u54]; simp [c54, outside]
@[simp] theorem S105 (n a b : Int) : fn P 105 [ci n, ci a, ci b] = some (.bool (outside n a b)) := by
  rw [u105]; simp [c105, outside]
@[simp] theorem S82 (b : Bool) (e : Int) : fn P 82 [.bool b, ci e] = some (ci (whenE b e)) := by
  rw [u82]; cases b <;> simp [c82, whenE]
@[simp] theorem S81 (d : Int) : fn P 81 [ci d] = some (ci (dated d)) := by
  rw [u81]; simp [c81, dated]
@[simp] theorem S150 (c : Nat) : fn P 150 [.int .i32 c] = some (.bool (letterN c)) := by
  rw [u150]; simp [c150, letterN]
  rw [show decide ((97 : Int) ≤ c) = decide (97 ≤ c) from decide_eq_decide.2 (by omega), show decide ((c : Int) ≤ 122) = decide (c ≤ 122) from decide_eq_decide.2 (by omega),
    show decide ((65 : Int) ≤ c) = decide (65 ≤ c) from decide_eq_decide.2 (by omega), show decide ((c : Int) ≤ 90) = decide (c ≤ 90) from decide_eq_decide.2 (by omega)]
theorem L79 : ∀ (l pre : List Int), (l.length : Int) + pre.length < 9223372036854775807 → execS P (limS P) c79_l0 ⟨[.c (.slice ((pre ++ l).map ci)), .c (ci (pre ++ l).length), .c (ci pre.length)], []⟩ = if firstE l = 0 then some (.exit 0, ⟨[], []⟩) else some (.ret, ⟨[.c (ci (firstE l))], []⟩) := by
  intro l
  induction l with
  | nil =>
    intro pre h
    rw [r79_l0]
    simp [c79_l0b, firstE]
  | cons c r ih =>
    intro pre h
    have ih := ih (pre ++ [c]) (by simp at h ⊢; omega)
    simp at ih h
    have hw : IntKind.i64.wrap (↑pre.length + 1) = ↑pre.length + 1 := wrap64 (by omega) (by omega)
    have hlt : (pre.length : Int) < pre.length + (r.length + 1) := by omega
    rw [r79_l0]
    by_cases hc : c = 0
    · subst hc
      simp [c79_l0b, firstE, hw, hlt, ih]
    · simp [c79_l0b, firstE, hw, hlt, hc]
@[simp] theorem S79 (l : List Int) (h : l.length < 9223372036854775807) : fn P 79 [.slice (l.map ci)] = some (ci (firstE l)) := by
  have := L79 (P := P) l [] (by simp; omega)
  rw [u79]
  simp at this
  simp [c79, this]
  by_cases hc : firstE l = 0 <;> simp [hc]
@[simp] theorem S79_1 (a : Int) : fn P 79 [.slice [ci a]] = some (ci (firstE [a])) := S79 [a] (by simp)
@[simp] theorem S79_2 (a b : Int) : fn P 79 [.slice [ci a, ci b]] = some (ci (firstE [a, b])) := S79 [a, b] (by simp)
@[simp] theorem S79_3 (a b c : Int) : fn P 79 [.slice [ci a, ci b, ci c]] = some (ci (firstE [a, b, c])) := S79 [a, b, c] (by simp)
@[simp] theorem S79_4 (a b c d : Int) : fn P 79 [.slice [ci a, ci b, ci c, ci d]] = some (ci (firstE [a, b, c, d])) := S79 [a, b, c, d] (by simp)
@[simp] theorem S79_5 (a b c d e : Int) : fn P 79 [.slice [ci a, ci b, ci c, ci d, ci e]] = some (ci (firstE [a, b, c, d, e])) := S79 [a, b, c, d, e] (by simp)
theorem L20 : ∀ (l pre : List Int), (l.length : Int) + pre.length < 9223372036854775807 → execS P (limS P) c20_l0 ⟨[.c (.slice ((pre ++ l).map ci)), .c (ci pre.length)], []⟩ = if firstE l = 0 then some (.exit 0, ⟨[], []⟩) else some (.ret, ⟨[.c (ci (firstE l))], []⟩) := by
  intro l
  induction l with
  | nil =>
    intro pre h
    rw [r20_l0]
    simp [c20_l0b, firstE]
  | cons c r ih =>
    intro pre h
    have ih := ih (pre ++ [c]) (by simp at h ⊢; omega)
    simp at ih h
    have hw : IntKind.i64.wrap (↑pre.length + 1) = ↑pre.length + 1 := wrap64 (by omega) (by omega)
    have hlt : (pre.length : Int) < pre.length + (r.length + 1) := by omega
    rw [r20_l0]
    by_cases hc : c = 0
    · subst hc
      simp [c20_l0b, firstE, hw, hlt, ih]
    · simp [c20_l0b, firstE, hw, hlt, hc]
@[simp] theorem S20 (l : List Int) (h : l.length < 9223372036854775807) : fn P 20 [.slice (l.map ci)] = some (ci (firstE l)) := by
  have := L20 (P := P) l [] (by simp; omega)
  rw [u20]
  simp at this
  simp [c20, this]
  by_cases hc : firstE l = 0 <;> simp [hc]
@[simp] theorem S20_2 (a b : Int) : fn P 20 [.slice [ci a, ci b]] = some (ci (firstE [a, b])) := S20 [a, b] (by simp)
@[simp] theorem S20_3 (a b c : Int) : fn P 20 [.slice [ci a, ci b, ci c]] = some (ci (firstE [a, b, c])) := S20 [a, b, c] (by simp)
@[simp] theorem S20_4 (a b c d : Int) : fn P 20 [.slice [ci a, ci b, ci c, ci d]] = some (ci (firstE [a, b, c, d])) := S20 [a, b, c, d] (by simp)
theorem L22 (s : Str) (hs : s.length ≤ 24) : ∀ (l pre : Str), s = pre ++ l → execS P (limS P) c22_l0 ⟨[.c (.str s), .c (ci pre.length)], []⟩ = if nameFrom pre.length l then some (.exit 0, ⟨[], []⟩) else some (.ret, ⟨[.c (.bool false)], []⟩) := by
  intro l
  induction l with
  | nil =>
    intro pre h
    rw [r22_l0]
    simp [c22_l0b, h, nameFrom]
  | cons c r ih =>
    intro pre h
    have ih := ih (pre ++ [c]) (by simp [h])
    simp at ih
    rw [h] at hs
    simp at hs
    have hw : IntKind.i64.wrap (↑pre.length + 1) = ↑pre.length + 1 := wrap64 (by omega) (by omega)
    have hlt : (pre.length : Int) < pre.length + (r.length + 1) := by omega
    have hn : (((↑c.toNat : Int) < 97 ∨ 122 < (↑c.toNat : Int)) ∧ ((↑c.toNat : Int) < 65 ∨ 90 < (↑c.toNat : Int))) ∧ (pre = [] ∨ ((↑c.toNat : Int) < 48 ∨ 57 < (↑c.toNat : Int)) ∧ ¬(↑c.toNat : Int) = 95) ↔ nameN pre.length c.toNat = false := by
      have hp : pre = [] ↔ pre.length = 0 := by simp
      unfold nameN letterN digitN
      cases pre with
      | nil => simp; omega
      | cons x y => simp; omega
    rw [r22_l0]
    simp [c22_l0b, h, nameFrom, hw, hlt, hn]
    rw [← h, ih]
    cases nameN pre.length c.toNat <;> simp
@[simp] theorem S22 (s : Str) : fn P 22 [.str s] = some (.bool (isName s)) := by
  rw [u22]
  by_cases h1 : s.length < 1
  · have : s = [] := List.eq_nil_of_length_eq_zero (by omega)
    subst this
    simp [c22, isName]
  · by_cases h2 : s.length > 24
    · have h3 : ¬ (s.length : Int) < 1 := by omega
      have h4 : (24 : Int) < (s.length : Int) := by omega
      have h5 : ¬ s.length ≤ 24 := by omega
      simp [c22, isName, h3, h4, h5]
    · have := L22 (P := P) s (by omega) s [] rfl
      simp at this
      have h3 : ¬ (s.length : Int) < 1 := by omega
      have h4 : ¬ (24 : Int) < (s.length : Int) := by omega
      have h5 : s.length ≤ 24 := by omega
      have h6 : 1 ≤ s.length := by omega
      simp [c22, isName, h3, h4, h5, h6, this]
      cases nameFrom 0 s <;> simp
theorem L132 (s : Str) (hs : s.length < 9223372036854775807) : ∀ (l pre : Str), s = pre ++ l → ∃ q, execS P (limS P) c132_l0 ⟨[.c (.str s), .ptr 0 0 0], [.iter s pre.length]⟩ = if nameFrom pre.length l then some (.exit 0, ⟨[.c (.str s)], [.iter s s.length]⟩) else some (.ret, ⟨[.c (.bool false)], [.iter s q]⟩) := by
  intro l
  induction l with
  | nil =>
    intro pre h
    refine ⟨0, ?_⟩
    rw [r132_l0]
    simp [c132_l0b, h, nameFrom]
  | cons c r ih =>
    intro pre h
    obtain ⟨q, ih⟩ := ih (pre ++ [c]) (by simp [h])
    simp at ih
    have hc : s[pre.length]? = some c := by simp [h]
    rw [r132_l0]
    rcases Nat.lt_or_ge c.toNat 128 with hlo | hhi
    · have hd := decode_lo hc hlo
      rw [h] at hd
      have hn : (letterN c.toNat = false ∧ (pre = [] ∨ ¬(↑c.toNat : Int) = 95 ∧ ((↑c.toNat : Int) < 48 ∨ 57 < (↑c.toNat : Int)))) ↔ nameN pre.length c.toNat = false := by
        unfold nameN digitN
        cases pre with
        | nil => simp
        | cons x y => simp; cases letterN c.toNat <;> simp; omega
      refine ⟨if nameN pre.length c.toNat = false then pre.length + 1 else q, ?_⟩
      simp [c132_l0b, h, nameFrom, hd, hn]
      rw [h] at ih
      simp at ih
      cases nameN pre.length c.toNat <;> simp [ih]
    · have hd := decode_hi hc hhi
      rw [h] at hd
      have hl : letterN (Utf8.decode { data := List.toArray (pre ++ c :: r) } pre.length).fst = false := by
        have := nameN_hi (i := 0) hd
        simpa [nameN] using this
      have h1 : ¬ (↑(Utf8.decode { data := List.toArray (pre ++ c :: r) } pre.length).fst : Int) = 95 := by omega
      have h2 : (57 : Int) < (↑(Utf8.decode { data := List.toArray (pre ++ c :: r) } pre.length).fst : Int) := by omega
      refine ⟨pre.length + (Utf8.decode { data := List.toArray (pre ++ c :: r) } pre.length).snd, ?_⟩
      simp [c132_l0b, h, nameFrom, hl, h1, h2, nameN_hi hhi]
@[simp] theorem S132 (s : Str) (hs : s.length < 9223372036854775807) : fn P 132 [.str s] = some (.bool (isName s)) := by
  rw [u132]
  obtain ⟨q, this⟩ := L132 (P := P) s hs s [] rfl
  simp at this
  simp [c132, this]
  cases hn : nameFrom 0 s
  · simp [isName, hn]
  · cases s with
    | nil => simp [isName]
    | cons c r =>
      simp [isName, hn]
      omega
@[simp] theorem S80 (s : Str) (hs : s.length < 9223372036854775807) : fn P 80 [.str s] = some (ci (named s)) := by
  rw [u80]; simp [c80, hs, named]
end LM.G9
namespace LM.G9
open Go LM
variable {P : Nat → Option SFunc} [Has P]
structure Lic where
  name : Str
  frm : Int
  to : Int
def Lic.enc (x : Lic) : CV := .agg [.str x.name, ci x.frm, ci x.to]
def Lic.ok (x : Lic) : Prop := x.name.length < 9223372036854775807
/-- The first error of a list's elements. -/
def eachE {α : Type} (chk : List α → α → Int) : List α → List α → Int
  | _, [] => 0
  | pre, x :: r => if chk pre x ≠ 0 then chk pre x else eachE chk (pre ++ [x]) r
end LM.G9
namespace LM.G9
open Go LM
/-- The number of the first element of a kind, or -1. -/
def idxF {α : Type} (p : α → Bool) : Nat → List α → Int
  | _, [] => -1
  | n, x :: r => if p x then n else idxF p (n + 1) r
theorem idxF_lt {α : Type} (p : α → Bool) : ∀ (l : List α) (n : Nat), (idxF p n l < 0) ↔ l.any p = false
  | [], n => by simp [idxF]
  | x :: r, n => by
    unfold idxF
    cases h : p x
    · simp [h, idxF_lt p r (n + 1)]
    · simp [h]
theorem idxF_none {α : Type} {p : α → Bool} : ∀ {l : List α} {n : Nat}, l.any p = false → idxF p n l = -1
  | [], n, _ => rfl
  | x :: r, n, h => by
    simp only [List.any_cons, Bool.or_eq_false_iff] at h
    rw [idxF, if_neg (by simp [h.1]), idxF_none h.2]
theorem idxF_dec {α : Type} (p : α → Bool) (l : List α) (n : Nat) : decide (0 ≤ idxF p n l) = l.any p := by
  have := idxF_lt p l n
  cases h : l.any p
  · have := this.2 h
    simp; omega
  · have : ¬ idxF p n l < 0 := fun q => by rw [this.1 q] at h; cases h
    simp; omega
end LM.G9
namespace LM.G9
open Go LM
variable {P : Nat → Option SFunc} [Has P]
def Str.is (s : Str) (x : Str) : Bool := x == s
theorem Str.is_eq (s x : Str) : Str.is s x = decide (x = s) := by unfold Str.is; by_cases h : x = s <;> simp [h]
theorem Str.is_eq' (s x : Str) : Str.is s x = decide (s = x) := by rw [Str.is_eq]; exact decide_eq_decide.2 eq_comm
theorem L154 (s : Str) : ∀ (l pre : List Str), ((pre ++ l).length : Int) < 9223372036854775807 →
    execS P (limS P) c154_l0 ⟨[.c (.slice ((pre ++ l).map CV.str)), .c (.str s), .c (ci (pre ++ l).length), .c (ci pre.length)], []⟩ = if l.any (Str.is s) then some (.ret, ⟨[.c (ci (idxF (Str.is s) pre.length l))], []⟩) else some (.exit 0, ⟨[], []⟩) := by
  intro l
  induction l with
  | nil =>
    intro pre h
    rw [r154_l0]
    simp [c154_l0b]
  | cons x r ih =>
    intro pre h
    have ih := ih (pre ++ [x]) (by simpa using h)
    simp at ih h
    have hw : IntKind.i64.wrap (↑pre.length + 1) = ↑pre.length + 1 := wrap64 (by omega) (by omega)
    have hlt : (pre.length : Int) < pre.length + (r.length + 1) := by omega
    have e := Str.is_eq' s x
    rw [r154_l0]
    by_cases h0 : s = x
    · simp only [h0, decide_true] at e
      simp [c154_l0b, hw, hlt, idxF, h0, e]
    · simp only [h0, decide_false] at e
      simp [c154_l0b, hw, hlt, idxF, h0, e, ih]
theorem S139 (s : Str) (l : List Str) (h : (l.length : Int) < 9223372036854775807) : fn P 139 [.slice (l.map CV.str), .str s] = some (.bool (l.any (Str.is s))) := by
  have hl := L154 (P := P) s l [] (by simpa using h)
  have h2 : fn P 154 [.slice (l.map CV.str), .str s] = some (ci (idxF (Str.is s) 0 l)) := by
    rw [u154]
    simp at hl
    simp [c154, hl]
    exact fun hx => (idxF_none (by simpa using hx)).symm
  rw [u139]
  simp [c139, h2, idxF_dec]
def once (pre : List Str) (s : Str) : Int := firstE [named s, whenE (pre.any (Str.is s)) 9]
theorem S104 (s : Str) (hs : s.length < 9223372036854775807) (pre : List Str) (h : (pre.length : Int) < 9223372036854775807) : fn P 104 [.str s, .slice (pre.map CV.str)] = some (ci (once pre s)) := by
  have h1 := S139 (P := P) s pre h
  rw [u104]
  simp [c104, hs, h1, once]
theorem L103 : ∀ (l pre : List Str), (∀ x ∈ l, x.length < 9223372036854775807) → ((pre ++ l).length : Int) < 9223372036854775807 →
    execS P (limS P) c103_l0 ⟨[.c (.slice ((pre ++ l).map CV.str)), .c (.func 104 [] []), .c (.slice ((pre ++ l).map CV.str)), .c (ci (pre ++ l).length), .c (ci pre.length)], []⟩ = if eachE once pre l = 0 then some (.exit 0, ⟨[], []⟩) else some (.ret, ⟨[.c (ci (eachE once pre l))], []⟩) := by
  intro l
  induction l with
  | nil =>
    intro pre hl h
    rw [r103_l0]
    simp [c103_l0b, eachE]
  | cons c r ih =>
    intro pre hl h
    have ih := ih (pre ++ [c]) (fun x hx => hl x (by simp [hx])) (by simpa using h)
    have hc := S104 (P := P) c (hl c (by simp)) pre (by simp at h; omega)
    have ht : List.take pre.length (List.map CV.str pre ++ CV.str c :: List.map CV.str r) = pre.map CV.str := by simp
    simp at ih h
    have hw : IntKind.i64.wrap (↑pre.length + 1) = ↑pre.length + 1 := wrap64 (by omega) (by omega)
    have hlt : (pre.length : Int) < pre.length + (r.length + 1) := by omega
    have hz : szFits 1 (List.map CV.str pre ++ CV.str c :: List.map CV.str r) = true := by cases pre <;> rfl
    have hb : (pre.length : Int) ≤ pre.length + (r.length + 1) := by omega
    rw [r103_l0]
    by_cases h0 : once pre c = 0
    · simp [c103_l0b, eachE, hw, hlt, hc, hz, hb, ht, h0, ih]
    · simp [c103_l0b, eachE, hw, hlt, hc, hz, hb, ht, h0]
def onceL (m : Int) (l : List Str) : Int := if (l.length : Int) > m then 5 else eachE once [] l
theorem S103 (l : List Str) (m : Int) (hl : ∀ x ∈ l, x.length < 9223372036854775807) (h : (l.length : Int) < 9223372036854775807) : fn P 103 [.slice (l.map CV.str), ci m, .func 104 [] []] = some (ci (onceL m l)) := by
  rw [u103]
  have this := L103 (P := P) l [] hl (by simpa using h)
  simp at this
  unfold onceL
  by_cases hm : (l.length : Int) > m
  · have hm' : m < (l.length : Int) := hm
    simp [c103, hm']
  · have hm' : ¬ m < (l.length : Int) := hm
    simp [c103, hm', this]
    by_cases h0 : eachE once [] l = 0 <;> simp [h0]
theorem L58 (s : Str) : ∀ (l pre : List Str), ((pre ++ l).length : Int) < 9223372036854775807 →
    execS P (limS P) c58_l0 ⟨[.c (.slice ((pre ++ l).map CV.str)), .c (.str s), .c (ci pre.length)], []⟩ = if l.any (Str.is s) then some (.ret, ⟨[.c (.bool true)], []⟩) else some (.exit 0, ⟨[], []⟩) := by
  intro l
  induction l with
  | nil =>
    intro pre h
    rw [r58_l0]
    simp [c58_l0b]
  | cons x r ih =>
    intro pre h
    have ih := ih (pre ++ [x]) (by simpa using h)
    simp at ih h
    have hw : IntKind.i64.wrap (↑pre.length + 1) = ↑pre.length + 1 := wrap64 (by omega) (by omega)
    have hlt : (pre.length : Int) < pre.length + (r.length + 1) := by omega
    have e := Str.is_eq s x
    rw [r58_l0]
    by_cases h0 : x = s
    · simp only [h0, decide_true] at e
      simp [c58_l0b, hw, hlt, h0, e]
    · simp only [h0, decide_false] at e
      simp [c58_l0b, hw, hlt, h0, e, ih]
theorem S58 (s : Str) (l : List Str) (h : (l.length : Int) < 9223372036854775807) : fn P 58 [.slice (l.map CV.str), .str s] = some (.bool (l.any (Str.is s))) := by
  have hl := L58 (P := P) s l [] (by simpa using h)
  simp [-List.any_eq_true] at hl
  rw [u58]
  cases h0 : l.any (Str.is s) <;> rw [h0] at hl <;> simp [c58, hl]
theorem once_eq (pre : List Str) (s : Str) : once pre s = if isName s = false then 8 else if pre.any (Str.is s) then 9 else 0 := by
  unfold once named whenE
  cases isName s <;> cases pre.any (Str.is s) <;> simp [firstE]
theorem L87 : ∀ (l pre : List Str), ((pre ++ l).length : Int) < 9223372036854775807 →
    execS P (limS P) c87_l0 ⟨[.c (.slice ((pre ++ l).map CV.str)), .c (ci pre.length)], []⟩ = if eachE once pre l = 0 then some (.exit 0, ⟨[], []⟩) else some (.ret, ⟨[.c (ci (eachE once pre l))], []⟩) := by
  intro l
  induction l with
  | nil =>
    intro pre h
    rw [r87_l0]
    simp [c87_l0b, eachE]
  | cons c r ih =>
    intro pre h
    have ih := ih (pre ++ [c]) (by simpa using h)
    have hc := S58 (P := P) c pre (by simp at h; omega)
    have ht : List.take pre.length (List.map CV.str pre ++ CV.str c :: List.map CV.str r) = pre.map CV.str := by simp
    have he := once_eq pre c
    simp at ih h
    have hw : IntKind.i64.wrap (↑pre.length + 1) = ↑pre.length + 1 := wrap64 (by omega) (by omega)
    have hlt : (pre.length : Int) < pre.length + (r.length + 1) := by omega
    have hz : szFits 1 (List.map CV.str pre ++ CV.str c :: List.map CV.str r) = true := by cases pre <;> rfl
    have hb : (pre.length : Int) ≤ pre.length + (r.length + 1) := by omega
    rw [r87_l0]
    cases h1 : isName c
    · rw [h1] at he
      simp [c87_l0b, eachE, hw, hlt, hz, hb, ht, h1, he]
    · cases h2 : pre.any (Str.is c)
      · rw [h1, h2] at he
        rw [h2] at hc
        simp at he
        simp [c87_l0b, eachE, hw, hlt, hz, hb, ht, h1, he, hc, ih]
      · rw [h1, h2] at he
        rw [h2] at hc
        simp at he
        simp [c87_l0b, eachE, hw, hlt, hz, hb, ht, h1, he, hc]
theorem S87 (l : List Str) (h : (l.length : Int) < 9223372036854775807) : fn P 87 [.slice (l.map CV.str)] = some (ci (eachE once [] l)) := by
  have this := L87 (P := P) l [] (by simpa using h)
  simp at this
  rw [u87]
  by_cases h0 : eachE once [] l = 0 <;> simp [c87, this, h0]
def shortS (s : Str) : Bool := decide (s.length ≤ 40)
theorem L84 (n : Int) : ∀ (l pre : List Str), ((pre ++ l).length : Int) < 9223372036854775807 →
    execS P (limS P) c84_l0 ⟨[.c (.slice ((pre ++ l).map CV.str)), .c (ci n), .c (ci pre.length)], []⟩ = if l.all shortS then some (.exit 0, ⟨[.c (.slice ((pre ++ l).map CV.str)), .c (ci n)], []⟩) else some (.ret, ⟨[.c (.bool false)], []⟩) := by
  intro l
  induction l with
  | nil =>
    intro pre h
    rw [r84_l0]
    simp [c84_l0b]
  | cons c r ih =>
    intro pre h
    have ih := ih (pre ++ [c]) (by simpa using h)
    simp [-List.all_eq_true] at ih h
    have hw : IntKind.i64.wrap (↑pre.length + 1) = ↑pre.length + 1 := wrap64 (by omega) (by omega)
    have hlt : (pre.length : Int) < pre.length + (r.length + 1) := by omega
    have e : shortS c = decide (c.length ≤ 40) := rfl
    have q : (40 : Int) < c.length ↔ ¬ c.length ≤ 40 := by omega
    rw [r84_l0]
    by_cases h0 : c.length ≤ 40 <;> simp [c84_l0b, hw, hlt, q, h0, e, ih, -List.all_eq_true, -Nat.not_le]
def shortL (l : List Str) (n : Int) : Bool := l.all shortS && decide ((l.length : Int) ≤ n)
theorem S84 (l : List Str) (n : Int) (h : (l.length : Int) < 9223372036854775807) : fn P 84 [.slice (l.map CV.str), ci n] = some (.bool (shortL l n)) := by
  have this := L84 (P := P) n l [] (by simpa using h)
  simp [-List.all_eq_true] at this
  rw [u84]
  unfold shortL
  cases h0 : l.all shortS <;> rw [h0] at this <;> simp [c84, this]
end LM.G9
namespace LM.G9
open Go LM
variable {P : Nat → Option SFunc} [Has P]
def cI (xs : List Int) : List LV := xs.map fun v => LV.c (ci v)
theorem cI_length (xs : List Int) : (cI xs).length = xs.length := by simp [cI]
theorem cI_get {xs : List Int} {i : Nat} (h : i < xs.length) : (cI xs)[i]'(by rw [cI_length]; exact h) = .c (ci (xs.getD i 0)) := by
  simp [cI, List.getD_eq_getElem?_getD, h]
theorem cI_set (xs : List Int) (i : Nat) (v : Int) : (cI xs).set i (.c (ci v)) = cI (xs.set i v) := by
  unfold cI
  rw [List.map_set]
theorem cellsOf_ints (xs : List Int) : cellsOf (xs.map ci) = cI xs := by
  induction xs with
  | nil => rfl
  | cons x r ih =>
    have : cellsOf ((x :: r).map ci) = .c (ci x) :: cellsOf (r.map ci) := rfl
    rw [this, ih]
    rfl
theorem intElems (l : List Int) : ∀ x ∈ l.map ci, Elem none x := by
  intro x hx
  obtain ⟨y, _, rfl⟩ := List.mem_map.1 hx
  exact ⟨rfl, rfl⟩
theorem under_cI (n : Nat) (xs : List Int) : underL n (cI xs) = true := by rw [← cellsOf_ints]; exact underL_cellsOf _ _
theorem shift_cI (n : Nat) : ∀ xs : List Int, shiftL n (cI xs) = cI xs
  | [] => rfl
  | x :: r => by
    have : cI (x :: r) = .c (ci x) :: cI r := rfl
    rw [this, shiftL, shift_cI n r]
    rfl
def sw (xs : List Int) (i k : Nat) : List Int := (xs.set i (xs.getD k 0)).set k (xs.getD i 0)
theorem sw_length (xs : List Int) (i k : Nat) : (sw xs i k).length = xs.length := by simp [sw]
def nextX (x : Int) : Int := (48271 * x).tmod 2147483647
def drawN (n : Nat) : Nat → Nat → Int → List Int → List Int
  | 0, _, _, xs => xs
  | m + 1, i, x, xs => drawN n m (i + 1) (nextX x) (sw xs i (i + ((nextX x).tmod ((n : Int) - i)).toNat))
def iota (n : Nat) : List Int := (List.range n).map fun (k : Nat) => (k : Int)
def drawL (key : Int) (n : Nat) : List Int := drawN n (n - 1) 0 key (iota n)
theorem iota_length (n : Nat) : (iota n).length = n := by simp [iota]
theorem drawN_length (n : Nat) : ∀ (m i : Nat) (x : Int) (xs : List Int), (drawN n m i x xs).length = xs.length
  | 0, _, _, _ => rfl
  | m + 1, i, x, xs => by rw [drawN, drawN_length, sw_length]
theorem drawL_length (key : Int) (n : Nat) : (drawL key n).length = n := by rw [drawL, drawN_length, iota_length]
theorem nextX_range {x : Int} (h0 : 0 ≤ x) (h1 : x ≤ 2147483646) : 0 ≤ nextX x ∧ nextX x ≤ 2147483646 := by
  unfold nextX
  rw [Int.tmod_eq_emod_of_nonneg (by omega)]
  omega
theorem step_range {x : Int} {n i : Nat} (h0 : 0 ≤ x) (hi : i < n) : 0 ≤ x.tmod ((n : Int) - i) ∧ x.tmod ((n : Int) - i) < (n : Int) - i := by
  rw [Int.tmod_eq_emod_of_nonneg h0]
  exact ⟨Int.emod_nonneg _ (by omega), Int.emod_lt_of_pos _ (by omega)⟩
theorem sw_mem {xs : List Int} {i k : Nat} (hi : i < xs.length) (hk : k < xs.length) : ∀ v ∈ sw xs i k, v ∈ xs := by
  intro v hv
  unfold sw at hv
  rcases List.mem_or_eq_of_mem_set hv with h | h
  · rcases List.mem_or_eq_of_mem_set h with h | h
    · exact h
    · rw [h, List.getD_eq_getElem?_getD, List.getElem?_eq_getElem hk]; exact List.getElem_mem hk
  · rw [h, List.getD_eq_getElem?_getD, List.getElem?_eq_getElem hi]; exact List.getElem_mem hi
theorem drawN_mem (n : Nat) : ∀ (m i : Nat) (x : Int) (xs : List Int), i + m < n → 0 ≤ x → x ≤ 2147483646 → xs.length = n → ∀ v ∈ drawN n m i x xs, v ∈ xs
  | 0, _, _, _, _, _, _, _, v, hv => hv
  | m + 1, i, x, xs, hm, h0, h1, hl, v, hv => by
    rw [drawN] at hv
    have hx := nextX_range h0 h1
    have hs := step_range (n := n) (i := i) hx.1 (by omega)
    have := drawN_mem n m (i + 1) _ _ (by omega) hx.1 hx.2 (by rw [sw_length, hl]) v hv
    exact sw_mem (by omega) (by omega) v this
theorem drawL_range {key : Int} {n : Nat} (h0 : 1 ≤ key) (h1 : key ≤ 2147483646) : ∀ v ∈ drawL key n, 0 ≤ v ∧ v < n := by
  intro v hv
  unfold drawL at hv
  have hv : v ∈ iota n := by
    rcases Nat.eq_zero_or_pos n with h | h
    · subst h; exact hv
    · exact drawN_mem n (n - 1) 0 key _ (by omega) (by omega) h1 (iota_length n) v hv
  unfold iota at hv
  obtain ⟨k, hk, rfl⟩ := List.mem_map.1 hv
  have := List.mem_range.1 hk
  omega
theorem L90_1 (n : Nat) (hn : n ≤ 256) (cap : Option Nat) : ∀ (m i : Nat) (x : Int) (xs : List Int), i + m + 1 = n → 0 ≤ x → x ≤ 2147483646 → xs.length = n →
    execS P (limS P) c90_l1 ⟨[.c (ci n), .slice 1 1 0 n none cap, .c (ci x), .c (ci i)], [.cells 1 [] 0, .cells 1 (cI xs) 0]⟩ =
      some (.exit 2, ⟨[.slice 1 1 0 n none cap], [.cells 1 [] 0, .cells 1 (cI (drawN n m i x xs)) 0]⟩) := by
  intro m
  induction m with
  | zero =>
    intro i x xs hm h0 h1 hl
    have hw : IntKind.i64.wrap ((n : Int) - 1) = (n : Int) - 1 := wrap64 (by omega) (by omega)
    have hlt : ¬ (i : Int) < (n : Int) - 1 := by omega
    rw [r90_l1]
    simp [c90_l1b, hw, hlt, drawN]
  | succ m ih =>
    intro i x xs hm h0 h1 hl
    have hx := nextX_range h0 h1
    have hs := step_range (n := n) (i := i) hx.1 (by omega)
    have ih := ih (i + 1) (nextX x) (sw xs i (i + ((nextX x).tmod ((n : Int) - i)).toNat)) (by omega) hx.1 hx.2 (by rw [sw_length, hl])
    obtain ⟨k, hk⟩ : ∃ k : Nat, (nextX x).tmod ((n : Int) - i) = (k : Int) := ⟨((nextX x).tmod ((n : Int) - i)).toNat, by omega⟩
    rw [hk] at ih hs
    have hw : IntKind.i64.wrap ((n : Int) - 1) = (n : Int) - 1 := wrap64 (by omega) (by omega)
    have hw1 : IntKind.i64.wrap (48271 * x) = 48271 * x := wrap64 (by omega) (by omega)
    have hw2 : (48271 * x).tmod 2147483647 = nextX x := rfl
    have hw3 : IntKind.i64.wrap ((n : Int) - i) = (n : Int) - i := wrap64 (by omega) (by omega)
    have hw4 : IntKind.i64.wrap (k : Int) = k := wrap64 (by omega) (by omega)
    have hw5 : IntKind.i64.wrap ((i : Int) + k) = (i : Int) + k := wrap64 (by omega) (by omega)
    have hw6 : IntKind.i64.wrap ((i : Int) + 1) = (i : Int) + 1 := wrap64 (by omega) (by omega)
    have hlt : (i : Int) < (n : Int) - 1 := by omega
    have hnz : ¬ (n : Int) - i = 0 := by omega
    have hi : i < n := by omega
    have hik : i + k < n := by omega
    have hi' : i < xs.length := by omega
    have hik' : i + k < xs.length := by omega
    have hkt : ((i : Int) + k).toNat = i + k := by omega
    have hk0 : 0 ≤ (i : Int) + k := by omega
    have hk1 : (i : Int) + k < n := by omega
    have hii : (i : Int) < n := by omega
    have g1 := cI_get hi'
    have g2 := cI_get hik'
    have e : drawN n (m + 1) i x xs = drawN n m (i + 1) (nextX x) (sw xs i (i + k)) := by rw [drawN, hk]; rfl
    simp [sw, hi', hik'] at ih
    have hi1 : i + 1 ≤ n := by omega
    have hik1 : i + k + 1 ≤ n := by omega
    rw [e]
    rw [r90_l1]
    simp [c90_l1b, hw, hw1, hw2, hw3, hw4, hw5, hw6, hlt, hk, hnz, hi, hik, hi', hik', hkt, hk0, hk1, hii, g1, g2, cI_length, cI_set, hl, under_cI, sw, hi1, hik1, ih]
theorem iota_set (n i : Nat) (h : i < n) : ((iota i) ++ List.replicate (n - i) 0).set i (i : Int) = iota (i + 1) ++ List.replicate (n - (i + 1)) 0 := by
  rw [List.set_append_right _ _ (by rw [iota_length]; exact Nat.le_refl _), iota_length, Nat.sub_self]
  have e : n - i = (n - (i + 1)) + 1 := by omega
  rw [e, List.replicate_succ, List.set_cons_zero]
  unfold iota
  rw [List.range_succ, List.map_append, List.append_assoc]
  rfl
theorem L90_0 (n : Nat) (key : Int) (hn : n ≤ 256) (cap : Option Nat) : ∀ (m i : Nat), i + m = n →
    execS P (limS P) c90_l0 ⟨[.c (ci key), .c (ci n), .slice 1 1 0 n none cap, .c (ci n), .c (ci i)], [.cells 1 [] 0, .cells 1 (cI (iota i ++ List.replicate (n - i) 0)) 0]⟩ =
      some (.exit 0, ⟨[.c (ci key), .c (ci n), .slice 1 1 0 n none cap], [.cells 1 [] 0, .cells 1 (cI (iota n)) 0]⟩) := by
  intro m
  induction m with
  | zero =>
    intro i hm
    simp at hm
    subst hm
    rw [r90_l0]
    simp [c90_l0b]
  | succ m ih =>
    intro i hm
    have ih := ih (i + 1) (by omega)
    have hs := iota_set n i (by omega)
    have hw : IntKind.i64.wrap ((i : Int) + 1) = (i : Int) + 1 := wrap64 (by omega) (by omega)
    have hlt : (i : Int) < n := by omega
    have hi : i < i + (n - i) := by omega
    simp at ih
    rw [r90_l0]
    have hni : ¬ n - i = 0 := by omega
    simp [c90_l0b, hw, hlt, hi, hni, cI_length, iota_length, cI_set, hs, under_cI, ih]
/-- The error of a draw. -/
def drawE (key : Int) (n : Int) : Int := if key < 1 ∨ key > 2147483646 ∨ n < 0 ∨ n > 256 then 3 else 0
theorem S96 (key n : Int) : fn P 96 [ci key, ci n] = some (ci (drawE key n)) := by
  rw [u96]
  unfold drawE
  by_cases h1 : key < 1 <;> by_cases h2 : 2147483646 < key <;> by_cases h3 : n < 0 <;> by_cases h4 : (256 : Int) < n <;> simp [c96, h1, h2, h3, h4]
theorem S90e (key n : Int) (h : drawE key n ≠ 0) : ffn P 90 [ci key, ci n] = some (.tuple [.slice 1 1 0 0 none none, .c (ci 3)], [.cells 1 [] 0, .cells 1 [] 0]) := by
  rw [u90]
  unfold drawE at h
  by_cases h1 : key < 1 <;> by_cases h2 : 2147483646 < key <;> by_cases h3 : n < 0 <;> by_cases h4 : (256 : Int) < n <;> simp [h1, h2, h3, h4] at h <;> simp [c90, h1, h2, h3, h4, mkTuple]
theorem S90 (key : Int) (n : Nat) (h : drawE key n = 0) : ffn P 90 [ci key, ci n] = some (.tuple [.slice 1 1 0 n none (some n), .c (ci 0)], [.cells 1 [] 0, .cells 1 (cI (drawL key n)) 0]) := by
  unfold drawE at h
  split at h
  · cases h
  · rename_i hx
    have h1 : ¬ key < 1 := fun e => hx (.inl e)
    have h2 : ¬ 2147483646 < key := fun e => hx (.inr (.inl e))
    have h3 : ¬ (n : Int) < 0 := by omega
    have h4 : ¬ (256 : Int) < n := fun e => hx (.inr (.inr (.inr e)))
    have l0 := L90_0 (P := P) n key (by omega) (some n) n 0 (by omega)
    have hz : cI (iota 0 ++ List.replicate (n - 0) 0) = List.replicate n (.c (ci 0)) := by simp [iota, cI]
    rw [hz] at l0
    simp at l0
    rw [u90]
    rcases Nat.eq_zero_or_pos n with hn | hn
    · subst hn
      have hw : IntKind.i64.wrap (-1) = -1 := wrap64 (by omega) (by omega)
      have l1 : execS P (limS P) c90_l1 ⟨[.c (ci 0), .slice 1 1 0 0 none (some 0), .c (ci key), .c (ci 0)], [.cells 1 [] 0, .cells 1 [] 0]⟩ = some (.exit 2, ⟨[.slice 1 1 0 0 none (some 0)], [.cells 1 [] 0, .cells 1 [] 0]⟩) := by
        rw [r90_l1]
        simp [c90_l1b, hw]
      have e : drawL key 0 = [] := rfl
      have e0 : cI (iota 0) = [] := rfl
      rw [e0] at l0
      simp at l0
      simp [c90, h1, h2, l0, l1, mkTuple, e, allC]
      rfl
    · have l1 := L90_1 (P := P) n (by omega) (some n) (n - 1) 0 key (iota n) (by omega) (by omega) (by omega) (iota_length n)
      simp at l1
      have q1 : (n : Int) * 8 ≤ 140737488355328 := by omega
      have q2 : (n : Int) ≤ 9223372036854775807 := by omega
      simp [c90, h1, h2, h4, l0, l1, q1, q2, mkTuple, drawL]
end LM.G9
namespace LM.G9
open Go LM
variable {P : Nat → Option SFunc} [Has P]
theorem L97_0 (key : Int) (n : Nat) (hn : n ≤ 256) : ∀ (m i : Nat), i + m = n →
    execS P (limS P) c97_l0 ⟨[.c (ci key), .c (ci n), .slice 1 (1 + i) 0 i none none, .c (ci i)], [.cells 1 [] 0, .cells (1 + i) (cI (iota i)) 0]⟩ =
      some (.exit 0, ⟨[.c (ci key), .c (ci n), .slice 1 (1 + n) 0 n none none], [.cells 1 [] 0, .cells (1 + n) (cI (iota n)) 0]⟩) := by
  intro m
  induction m with
  | zero =>
    intro i hm
    simp at hm
    subst hm
    rw [r97_l0]
    simp [c97_l0b]
  | succ m ih =>
    intro i hm
    have ih := ih (i + 1) (by omega)
    have ha := append_own (b := 1) (g := 1 + i) (bytes := 8) (e := none) (ys := (iota i).map ci) (xs := [ci i]) (h := [.cells 1 [] 0, .cells (1 + i) (cellsOf ((iota i).map ci)) 0]) (len := i) (fz := 0) rfl (intElems _) (intElems [(i : Int)]) (by simp [iota_length]) (Nat.zero_le _) (by simp) (by simp [iota_length]; omega) (by simp [iota_length]; omega)
    have e0 : (iota i).map ci ++ [ci i] = (iota (i + 1)).map ci := by
      unfold iota
      rw [List.range_succ, List.map_append, List.map_append]
      rfl
    rw [e0, cellsOf_ints, cellsOf_ints] at ha
    have e1 : 1 + (i + 1) = 1 + i + 1 := by omega
    rw [e1] at ih
    simp at ih ha
    have hw : IntKind.i64.wrap ((i : Int) + 1) = (i : Int) + 1 := wrap64 (by omega) (by omega)
    have hlt : (i : Int) < n := by omega
    rw [r97_l0]
    simp [c97_l0b, hw, hlt, ha, under_cI, ih]
theorem L97_1 (n : Nat) (hn : n ≤ 256) (g : Nat) : ∀ (m i : Nat) (x : Int) (xs : List Int), i + m + 1 = n → 0 ≤ x → x ≤ 2147483646 → xs.length = n →
    execS P (limS P) c97_l1 ⟨[.c (ci x), .c (ci n), .slice 1 g 0 n none none, .c (ci i)], [.cells 1 [] 0, .cells g (cI xs) 0]⟩ =
      some (.exit 2, ⟨[.slice 1 g 0 n none none], [.cells 1 [] 0, .cells g (cI (drawN n m i x xs)) 0]⟩) := by
  intro m
  induction m with
  | zero =>
    intro i x xs hm h0 h1 hl
    have hw : IntKind.i64.wrap ((i : Int) + 1) = (i : Int) + 1 := wrap64 (by omega) (by omega)
    have hlt : ¬ (i : Int) + 1 < n := by omega
    rw [r97_l1]
    simp [c97_l1b, hw, hlt, drawN]
  | succ m ih =>
    intro i x xs hm h0 h1 hl
    have hx := nextX_range h0 h1
    have hs := step_range (n := n) (i := i) hx.1 (by omega)
    have ih := ih (i + 1) (nextX x) (sw xs i (i + ((nextX x).tmod ((n : Int) - i)).toNat)) (by omega) hx.1 hx.2 (by rw [sw_length, hl])
    obtain ⟨k, hk⟩ : ∃ k : Nat, (nextX x).tmod ((n : Int) - i) = (k : Int) := ⟨((nextX x).tmod ((n : Int) - i)).toNat, by omega⟩
    rw [hk] at ih hs
    have hw1 : IntKind.i64.wrap (48271 * x) = 48271 * x := wrap64 (by omega) (by omega)
    have hw2 : (48271 * x).tmod 2147483647 = nextX x := rfl
    have hw3 : IntKind.i64.wrap ((n : Int) - i) = (n : Int) - i := wrap64 (by omega) (by omega)
    have hw5 : IntKind.i64.wrap ((i : Int) + k) = (i : Int) + k := wrap64 (by omega) (by omega)
    have hw6 : IntKind.i64.wrap ((i : Int) + 1) = (i : Int) + 1 := wrap64 (by omega) (by omega)
    have hlt : (i : Int) + 1 < n := by omega
    have hnz : ¬ (n : Int) - i = 0 := by omega
    have hi : i < n := by omega
    have hik : i + k < n := by omega
    have hi' : i < xs.length := by omega
    have hik' : i + k < xs.length := by omega
    have hkt : ((i : Int) + k).toNat = i + k := by omega
    have hk0 : 0 ≤ (i : Int) + k := by omega
    have hk1 : (i : Int) + k < n := by omega
    have hii : (i : Int) < n := by omega
    have g1 := cI_get hi'
    have g2 := cI_get hik'
    have e : drawN n (m + 1) i x xs = drawN n m (i + 1) (nextX x) (sw xs i (i + k)) := by rw [drawN, hk]; rfl
    simp [sw, hi', hik'] at ih
    have hi1 : i + 1 ≤ n := by omega
    have hik1 : i + k + 1 ≤ n := by omega
    rw [e]
    rw [r97_l1]
    simp [c97_l1b, hw1, hw2, hw3, hw5, hw6, hlt, hk, hnz, hi, hik, hi', hik', hkt, hk0, hk1, hii, g1, g2, cI_length, cI_set, hl, under_cI, sw, hi1, hik1, ih]
theorem S97 (key : Int) (n : Nat) (h : drawE key n = 0) : fn P 97 [ci key, ci n] = some (.slice ((drawL key n).map ci)) := by
  unfold drawE at h
  split at h
  · cases h
  · rename_i hx
    have h1 : ¬ key < 1 := fun e => hx (.inl e)
    have h2 : ¬ 2147483646 < key := fun e => hx (.inr (.inl e))
    have h4 : ¬ (256 : Int) < n := fun e => hx (.inr (.inr (.inr e)))
    have l0 := L97_0 (P := P) key n (by omega) n 0 (by omega)
    have e0 : cI (iota 0) = [] := rfl
    rw [e0] at l0
    simp at l0
    have hf := resV_own1 (b := 1) (g := 1 + n) (fz := 0) (e := none) (ys := (drawL key n).map ci) (h := [.cells 1 [] 0, .cells (1 + n) (cellsOf ((drawL key n).map ci)) 0]) (len := n) rfl (intElems _) (by simp [drawL_length]) none
    rw [cellsOf_ints] at hf
    rw [u97]
    rcases Nat.eq_zero_or_pos n with hn | hn
    · subst hn
      have l1 : execS P (limS P) c97_l1 ⟨[.c (ci key), .c (ci 0), .slice 1 1 0 0 none none, .c (ci 0)], [.cells 1 [] 0, .cells 1 [] 0]⟩ = some (.exit 2, ⟨[.slice 1 1 0 0 none none], [.cells 1 [] 0, .cells 1 [] 0]⟩) := by
        have hw : IntKind.i64.wrap 1 = 1 := wrap64 (by omega) (by omega)
        rw [r97_l1]
        simp [c97_l1b, hw]
      have e : drawL key 0 = [] := rfl
      have e1 : cI [] = [] := rfl
      rw [e0] at l0
      simp at l0
      simp [c97, l0, l1, e]
    · have l1 := L97_1 (P := P) n (by omega) (1 + n) (n - 1) 0 key (iota n) (by omega) (by omega) (by omega) (iota_length n)
      simp at l1
      have e : drawN n (n - 1) 0 key (iota n) = drawL key n := rfl
      rw [e] at l1
      simp [c97, l0, l1, hf]
structure Pck where
  count : Int
  spare : Int
  key : Int
def Pck.enc (p : Pck) : CV := .agg [ci p.count, ci p.spare, ci p.key]
def pickE (p : Pck) : Int := if outside p.count 0 160 || outside p.spare 0 99999 then 3 else drawE p.key 0
theorem drawE_cases (key n : Int) : drawE key n = 0 ∨ drawE key n = 3 := by unfold drawE; split <;> simp
theorem S35 (p : Pck) : fn P 35 [p.enc] = some (ci (pickE p)) := by
  have h := S96 (P := P) p.key 0
  rw [u35]
  unfold pickE
  cases h1 : outside p.count 0 160 <;> cases h2 : outside p.spare 0 99999 <;> simp [c35, Pck.enc, h, h1, h2]
theorem S89 (p : Pck) : fn P 89 [p.enc] = some (ci (pickE p)) := by
  rw [u89]
  unfold pickE
  rcases drawE_cases p.key 0 with h | h
  · have e := S90 (P := P) p.key 0 h
    simp at e
    cases h1 : outside p.count 0 160 <;> cases h2 : outside p.spare 0 99999 <;> simp [c89, Pck.enc, e, h, h1, h2, whenE, LV.shift, shiftL, shiftB, LB.shift, shift_cI]
  · have e := S90e (P := P) p.key 0 (by rw [h]; omega)
    cases h1 : outside p.count 0 160 <;> cases h2 : outside p.spare 0 99999 <;> simp [c89, Pck.enc, e, h, h1, h2, whenE, LV.shift, shiftL, shiftB, LB.shift]
theorem S88 (l : List Str) (hl : ∀ x ∈ l, x.length < 9223372036854775807) (h : (l.length : Int) < 9223372036854775807) : fn P 88 [.slice (l.map CV.str)] = some (ci (onceL 160 l)) := by
  have e := S103 (P := P) l 160 hl h
  rw [u88]
  simp [c88, e]
theorem S32 (l : List Str) (h : (l.length : Int) < 9223372036854775807) : fn P 32 [.slice (l.map CV.str)] = some (ci (onceL 160 l)) := by
  have e := S87 (P := P) l h
  rw [u32]
  unfold onceL
  by_cases h1 : (160 : Int) < l.length <;> simp [c32, e, h1]
end LM.G9
namespace LM.G9
open Go LM
variable {P : Nat → Option SFunc} [Has P]
structure Clm where
  name : Str
  nation : Str
  born : Int
  cat : Str
def Clm.enc (x : Clm) : CV := .agg [.str x.name, .str x.nation, ci x.born, .str x.cat]
def Clm.ptr (x : Clm) : CV := .ptr [.str x.name, .str x.nation, ci x.born, .str x.cat] 0
def Clm.ok (x : Clm) : Prop := x.name.length < 9223372036854775807 ∧ x.nation.length < 9223372036854775807 ∧ x.cat.length < 9223372036854775807
def Clm.is (n : Str) (x : Clm) : Bool := x.name == n
end LM.G9
namespace LM.G9
open Go LM
variable {P : Nat → Option SFunc} [Has P]
structure Tst where
  name : Str
  day : Int
def Tst.enc (x : Tst) : CV := .agg [.str x.name, ci x.day]
def Tst.ptr (x : Tst) : CV := .ptr [.str x.name, ci x.day] 0
def Tst.ok (x : Tst) : Prop := x.name.length < 9223372036854775807
theorem Tst.elem (x : Tst) : Elem (some 2) x.enc := ⟨_, rfl, rfl, by simp⟩
theorem Tst.elems (l : List Tst) : ∀ x ∈ l.map Tst.enc, Elem (some 2) x := by
  intro x hx
  obtain ⟨y, _, rfl⟩ := List.mem_map.1 hx
  exact y.elem
/-- A test's error. -/
def checkTst (x : Tst) : Int := firstE [named x.name, dated x.day]
theorem S86 (x : Tst) (hx : x.ok) (pre : List Tst) (_ : (pre.length : Int) < 9223372036854775807) : fn P 86 [x.enc, .slice (pre.map Tst.enc)] = some (ci (checkTst x)) := by
  rw [u86]
  unfold Tst.ok at hx
  simp [c86, Tst.enc, hx, checkTst]
theorem L85 : ∀ (l pre : List Tst), (∀ x ∈ l, x.ok) → ((pre ++ l).length : Int) < 9223372036854775807 →
    ∃ h', execS P (limS P) c85_l0 ⟨[.c (.slice ((pre ++ l).map Tst.enc)), .c (.func 86 [] []), .c (.slice ((pre ++ l).map Tst.enc)), .c (ci (pre ++ l).length), .c (ci pre.length)], []⟩ = if eachE (fun _ => checkTst) pre l = 0 then some (.exit 0, ⟨[], []⟩) else some (.ret, ⟨[.c (ci (eachE (fun _ => checkTst) pre l))], h'⟩) := by
  intro l
  induction l with
  | nil =>
    intro pre hl h
    rw [r85_l0]
    exact ⟨[], by simp [c85_l0b, eachE]⟩
  | cons c r ih =>
    intro pre hl h
    obtain ⟨h', ih⟩ := ih (pre ++ [c]) (fun x hx => hl x (by simp [hx])) (by simpa using h)
    have hc := S86 (P := P) c (hl c (by simp)) pre (by simp at h; omega)
    have ht : List.take pre.length (List.map Tst.enc pre ++ c.enc :: List.map Tst.enc r) = pre.map Tst.enc := by simp
    simp [Tst.enc] at ih h hc ht
    have hw : IntKind.i64.wrap (↑pre.length + 1) = ↑pre.length + 1 := wrap64 (by omega) (by omega)
    have hlt : (pre.length : Int) < pre.length + (r.length + 1) := by omega
    have hz : szFits 2 (List.map Tst.enc pre ++ CV.agg [CV.str c.name, ci c.day] :: List.map Tst.enc r) = true := by cases pre <;> rfl
    have hb : (pre.length : Int) ≤ pre.length + (r.length + 1) := by omega
    rw [r85_l0]
    by_cases h0 : (fun _ => checkTst) pre c = 0
    · refine ⟨h', ?_⟩
      simp [c85_l0b, eachE, hw, hlt, Tst.enc, hc, hz, hb, ht, h0, ih]
    · refine ⟨[LB.cells 0 [LV.c (CV.str c.name), LV.c (ci c.day)] 0], ?_⟩
      simp [c85_l0b, eachE, hw, hlt, Tst.enc, hc, hz, hb, ht, h0]
theorem S85 (l : List Tst) (m : Int) (hl : ∀ x ∈ l, x.ok) (h : (l.length : Int) < 9223372036854775807) : fn P 85 [.slice (l.map Tst.enc), ci m, .func 86 [] []] = some (ci (if (l.length : Int) > m then 5 else eachE (fun _ => checkTst) [] l)) := by
  rw [u85]
  obtain ⟨h', this⟩ := L85 (P := P) l [] hl (by simpa using h)
  simp at this
  by_cases hm : (l.length : Int) > m
  · have hm' : m < (l.length : Int) := hm
    simp [c85, hm']
  · have hm' : ¬ m < (l.length : Int) := hm
    simp [c85, hm', this]
    by_cases h0 : eachE (fun _ => checkTst) [] l = 0 <;> simp [h0]
def checkTsts (l : List Tst) : Int := if (l.length : Int) > 256 then 5 else eachE (fun _ => checkTst) [] l
@[simp] theorem S30 (l : List Tst) (hl : ∀ x ∈ l, x.ok) (h : (l.length : Int) < 9223372036854775807) : fn P 30 [.slice (l.map Tst.enc)] = some (ci (checkTsts l)) := by
  rw [u30]
  have := S85 (P := P) l 256 hl h
  simp [c30, this, checkTsts]
theorem L28 : ∀ (l pre : List Tst), (pre ++ l).length * 24 ≤ 2 ^ 47 →
    execS P (limS P) c28_l0 ⟨[.c (.slice ((pre ++ l).map Tst.enc)), .slice 1 (1 + pre.length) 0 pre.length (some 2) none, .c (ci pre.length)], [.cells 1 [] 0, .cells (1 + pre.length) (cellsOf (pre.map Tst.enc)) 0]⟩ =
      some (.exit 0, ⟨[.slice 1 (1 + (pre ++ l).length) 0 (pre ++ l).length (some 2) none], [.cells 1 [] 0, .cells (1 + (pre ++ l).length) (cellsOf ((pre ++ l).map Tst.enc)) 0]⟩) := by
  intro l
  induction l with
  | nil =>
    intro pre h
    rw [r28_l0]
    simp [c28_l0b]
  | cons c r ih =>
    intro pre h
    have ih := ih (pre ++ [c]) (by simpa using h)
    have ha := append_own (b := 1) (g := 1 + pre.length) (bytes := 24) (e := some 2) (ys := pre.map Tst.enc) (xs := [c.enc]) (h := [.cells 1 [] 0, .cells (1 + pre.length) (cellsOf (pre.map Tst.enc)) 0]) (len := pre.length) (fz := 0) rfl (Tst.elems _) (by simpa using c.elem) (by simp) (Nat.zero_le _) (by simp) (by simp at h ⊢; omega) (by simp at h ⊢; omega)
    simp at h
    simp [Tst.enc] at ih ha
    have hw : IntKind.i64.wrap (↑pre.length + 1) = ↑pre.length + 1 := wrap64 (by omega) (by omega)
    have hlt : (pre.length : Int) < pre.length + (r.length + 1) := by omega
    have e1 : 1 + (pre.length + 1) = 1 + pre.length + 1 := by omega
    rw [r28_l0]
    rw [e1] at ih
    simp [c28_l0b, Tst.enc, hw, hlt, ha, ih]
@[simp] theorem S28 (l : List Tst) (h : l.length * 24 ≤ 2 ^ 47) : fn P 28 [.slice (l.map Tst.enc)] = some (.slice (l.map Tst.enc)) := by
  rw [u28]
  have := L28 (P := P) l [] (by simpa using h)
  have hf := frz_own (b := 1) (g := 1 + l.length) (fz := 0) (e := some 2) (ys := l.map Tst.enc) (h := [.cells 1 [] 0, .cells (1 + l.length) (cellsOf (l.map Tst.enc)) 0]) (len := l.length) rfl (Tst.elems _) (by simp) none
  simp at this
  simp [c28, this, resV, hf, -frz_slice]
end LM.G9
namespace LM.G9
open Go LM
theorem strElem (s : Str) : Elem none (CV.str s) := ⟨rfl, rfl⟩
theorem strElems (l : List Str) : ∀ x ∈ l.map CV.str, Elem none x := by
  intro x hx
  obtain ⟨y, _, rfl⟩ := List.mem_map.1 hx
  exact strElem y
end LM.G9
namespace LM.G9
open Go LM
def lastF (name : Str) (a b : Int) (acc : Int) (x : Tst) : Int := if x.name = name ∧ a ≤ x.day ∧ x.day ≤ b then max acc x.day else acc
/-- The day of the last test of a climber from a day to another one, or -1. -/
def lastT (l : List Tst) (name : Str) (a b : Int) : Int := l.foldl (lastF name a b) (-1)
def lateL (c : List Str) (l : List Tst) (days day : Int) : List Str := c.filter fun s => decide (lastT l s (day - days) day < 0)
end LM.G9
namespace LM.G9
open Go LM
variable {P : Nat → Option SFunc} [Has P]
theorem checkTst_eq (x : Tst) : checkTst x = if isName x.name = false then 8 else if outside x.day 0 99999 then 3 else 0 := by
  unfold checkTst named dated whenE
  cases isName x.name <;> cases outside x.day 0 99999 <;> simp [firstE]
theorem L31 : ∀ (l pre : List Tst), ((pre ++ l).length : Int) < 9223372036854775807 →
    execS P (limS P) c31_l0 ⟨[.c (.slice ((pre ++ l).map Tst.enc)), .c (ci pre.length)], []⟩ = if eachE (fun _ => checkTst) pre l = 0 then some (.exit 0, ⟨[], []⟩) else some (.ret, ⟨[.c (ci (eachE (fun _ => checkTst) pre l))], []⟩) := by
  intro l
  induction l with
  | nil =>
    intro pre h
    rw [r31_l0]
    simp [c31_l0b, eachE]
  | cons c r ih =>
    intro pre h
    have ih := ih (pre ++ [c]) (by simpa using h)
    have he := checkTst_eq c
    simp [Tst.enc] at ih h
    have hw : IntKind.i64.wrap (↑pre.length + 1) = ↑pre.length + 1 := wrap64 (by omega) (by omega)
    have hlt : (pre.length : Int) < pre.length + (r.length + 1) := by omega
    rw [r31_l0]
    cases h1 : isName c.name <;> cases h2 : outside c.day 0 99999 <;> rw [h1, h2] at he <;> simp at he <;> simp [c31_l0b, hw, hlt, Tst.enc, eachE, he, h1, h2, ih]
@[simp] theorem S31 (l : List Tst) (h : (l.length : Int) < 9223372036854775807) : fn P 31 [.slice (l.map Tst.enc)] = some (ci (checkTsts l)) := by
  rw [u31]
  have := L31 (P := P) l [] (by simpa using h)
  simp at this
  unfold checkTsts
  by_cases h1 : (256 : Int) < l.length
  · simp [c31, h1]
  · simp [c31, h1, this]
    by_cases h0 : eachE (fun _ => checkTst) [] l = 0 <;> simp [h0]
def Tst.short (x : Tst) : Bool := decide (x.name.length ≤ 40)
theorem L29 (C : CV) : ∀ (l pre : List Tst), ((pre ++ l).length : Int) < 9223372036854775807 →
    execS P (limS P) c29_l0 ⟨[.c C, .c (.slice ((pre ++ l).map Tst.enc)), .c (ci pre.length)], []⟩ = if l.all Tst.short then some (.exit 0, ⟨[.c C, .c (.slice ((pre ++ l).map Tst.enc))], []⟩) else some (.ret, ⟨[.c (.bool false)], []⟩) := by
  intro l
  induction l with
  | nil =>
    intro pre h
    rw [r29_l0]
    simp [c29_l0b]
  | cons c r ih =>
    intro pre h
    have ih := ih (pre ++ [c]) (by simpa using h)
    simp [Tst.enc, -List.all_eq_true] at ih h
    have hw : IntKind.i64.wrap (↑pre.length + 1) = ↑pre.length + 1 := wrap64 (by omega) (by omega)
    have hlt : (pre.length : Int) < pre.length + (r.length + 1) := by omega
    have e : Tst.short c = decide (c.name.length ≤ 40) := rfl
    have q1 : (40 : Int) < c.name.length ↔ ¬ c.name.length ≤ 40 := by omega
    rw [r29_l0]
    by_cases h1 : c.name.length ≤ 40 <;>
      simp [c29_l0b, hw, hlt, Tst.enc, q1, h1, e, ih, -List.all_eq_true, -Nat.not_le]
def shortTsts (c : List Str) (l : List Tst) : Bool := l.all Tst.short && (shortL c 163 && decide ((l.length : Int) ≤ 259))
theorem S29 (c : List Str) (l : List Tst) (hc : (c.length : Int) < 9223372036854775807) (h : (l.length : Int) < 9223372036854775807) : fn P 29 [.slice (c.map CV.str), .slice (l.map Tst.enc)] = some (.bool (shortTsts c l)) := by
  rw [u29]
  have this := L29 (P := P) (.slice (c.map CV.str)) l [] (by simpa using h)
  have h84 := S84 (P := P) c 163 hc
  simp [-List.all_eq_true] at this
  unfold shortTsts
  cases h0 : l.all Tst.short <;> rw [h0] at this
  · simp [c29, this]
  · cases h1 : shortL c 163 <;> rw [h1] at h84 <;> simp [c29, this, h84]
theorem L98 (name : Str) (a b : Int) : ∀ (l pre : List Tst) (acc : Int), ((pre ++ l).length : Int) < 9223372036854775807 →
    execS P (limS P) c98_l0 ⟨[.c (.slice ((pre ++ l).map Tst.enc)), .c (.str name), .c (ci a), .c (ci b), .c (ci acc), .c (ci pre.length)], []⟩ = some (.exit 0, ⟨[.c (ci (l.foldl (lastF name a b) acc))], []⟩) := by
  intro l
  induction l with
  | nil =>
    intro pre acc h
    rw [r98_l0]
    simp [c98_l0b]
  | cons c r ih =>
    intro pre acc h
    have ih := fun acc => ih (pre ++ [c]) acc (by simpa using h)
    simp [Tst.enc] at ih h
    have hw : IntKind.i64.wrap (↑pre.length + 1) = ↑pre.length + 1 := wrap64 (by omega) (by omega)
    have hlt : (pre.length : Int) < pre.length + (r.length + 1) := by omega
    have e : lastF name a b acc c = if c.name = name ∧ a ≤ c.day ∧ c.day ≤ b then max acc c.day else acc := rfl
    rw [r98_l0]
    by_cases h1 : c.name = name
    · subst h1
      by_cases h2 : a ≤ c.day
      · by_cases h3 : c.day ≤ b
        · have hm : (if acc < c.day then c.day else acc) = max acc c.day := by split <;> omega
          simp [h2, h3] at e
          simp [c98_l0b, hw, hlt, Tst.enc, h2, h3, e, foldInt, hm, ih]
        · simp [h2, h3] at e
          simp [c98_l0b, hw, hlt, Tst.enc, h2, h3, e, ih]
      · simp [h2] at e
        simp [c98_l0b, hw, hlt, Tst.enc, h2, e, ih]
    · simp [h1] at e
      simp [c98_l0b, hw, hlt, Tst.enc, h1, e, ih]
theorem S98 (l : List Tst) (name : Str) (a b : Int) (h : (l.length : Int) < 9223372036854775807) : fn P 98 [.slice (l.map Tst.enc), .str name, ci a, ci b] = some (ci (lastT l name a b)) := by
  have := L98 (P := P) name a b l [] (-1) (by simpa using h)
  simp at this
  rw [u98]
  simp [c98, this, lastT]
theorem L38 (l : List Tst) (hl : (l.length : Int) < 9223372036854775807) (days day : Int) (h0 : 0 ≤ days) (h1 : days ≤ 99999) (h2 : 0 ≤ day) (h3 : day ≤ 99999) : ∀ (c pre : List Str) (ys : List Str), ((pre ++ c).length : Int) < 9223372036854775807 → (ys.length + c.length) * 16 ≤ 2 ^ 47 →
    execS P (limS P) c38_l0 ⟨[.c (.slice ((pre ++ c).map CV.str)), .c (.slice (l.map Tst.enc)), .c (ci days), .c (ci day), .slice 1 (1 + ys.length) 0 ys.length none none, .c (ci pre.length)], [.cells 1 [] 0, .cells (1 + ys.length) (cellsOf (ys.map CV.str)) 0]⟩ =
      some (.exit 0, ⟨[.slice 1 (1 + (ys ++ lateL c l days day).length) 0 (ys ++ lateL c l days day).length none none], [.cells 1 [] 0, .cells (1 + (ys ++ lateL c l days day).length) (cellsOf ((ys ++ lateL c l days day).map CV.str)) 0]⟩) := by
  intro c
  induction c with
  | nil =>
    intro pre ys h _
    rw [r38_l0]
    simp [c38_l0b, lateL]
  | cons x r ih =>
    intro pre ys h hy
    have hw : IntKind.i64.wrap (↑pre.length + 1) = ↑pre.length + 1 := wrap64 (by simp at h; omega) (by simp at h; omega)
    have hw2 : IntKind.i64.wrap (day - days) = day - days := wrap64 (by omega) (by omega)
    have hlt : (pre.length : Int) < pre.length + (r.length + 1) := by omega
    have e98 := S98 (P := P) l x (day - days) day hl
    have e : lateL (x :: r) l days day = if lastT l x (day - days) day < 0 then x :: lateL r l days day else lateL r l days day := by
      unfold lateL
      rw [List.filter_cons]
      by_cases h : lastT l x (day - days) day < 0 <;> simp [h]
    rw [e, r38_l0]
    by_cases hx : lastT l x (day - days) day < 0
    · have ih := ih (pre ++ [x]) (ys ++ [x]) (by simpa using h) (by simp at hy ⊢; omega)
      have ha := append_own (b := 1) (g := 1 + ys.length) (bytes := 16) (e := none) (ys := ys.map CV.str) (xs := [.str x]) (h := [.cells 1 [] 0, .cells (1 + ys.length) (cellsOf (ys.map CV.str)) 0]) (len := ys.length) (fz := 0) rfl (strElems _) (by simpa using strElem x) (by simp) (Nat.zero_le _) (by simp) (by simp at hy ⊢; omega) (by simp at hy ⊢; omega)
      have e1 : 1 + (ys.length + 1) = 1 + ys.length + 1 := by omega
      simp at ih ha
      rw [e1] at ih
      simp [c38_l0b, hw, hw2, hlt, e98, hx, ha, ih]
    · have ih := ih (pre ++ [x]) ys (by simpa using h) (by simp at hy ⊢; omega)
      simp at ih
      simp [c38_l0b, hw, hw2, hlt, e98, hx, ih]
theorem S38 (c : List Str) (l : List Tst) (days day : Int) (hc : c.length * 16 ≤ 2 ^ 47) (hl : (l.length : Int) < 9223372036854775807) (h0 : 0 ≤ days) (h1 : days ≤ 99999) (h2 : 0 ≤ day) (h3 : day ≤ 99999) : fn P 38 [.slice (c.map CV.str), .slice (l.map Tst.enc), ci days, ci day] = some (.slice ((lateL c l days day).map CV.str)) := by
  rw [u38]
  have := L38 (P := P) l hl days day h0 h1 h2 h3 c [] [] (by simp; omega) (by simpa using hc)
  have hf := resV_own1 (b := 1) (g := 1 + (lateL c l days day).length) (fz := 0) (e := none) (ys := (lateL c l days day).map CV.str) (h := [.cells 1 [] 0, .cells (1 + (lateL c l days day).length) (cellsOf ((lateL c l days day).map CV.str)) 0]) (len := (lateL c l days day).length) rfl (strElems _) (by simp) none
  simp at this
  simp [c38, this, hf]
end LM.G9
namespace LM.G9
open Go LM
variable {P : Nat → Option SFunc} [Has P]
/-- A map from texts to numbers. -/
abbrev Mp := List (Str × Int)
def mKs (M : Mp) : List CV := M.map fun p => CV.str p.1
def mVs (M : Mp) : List CV := M.map fun p => ci p.2
def mIdx (k : Str) : Mp → Option Nat
  | [] => none
  | p :: r => if k = p.1 then some 0 else (mIdx k r).map (· + 1)
def mGet (k : Str) : Mp → Option Int
  | [] => none
  | p :: r => if k = p.1 then some p.2 else mGet k r
def mPut (M : Mp) (k : Str) (v : Int) : Mp := match mIdx k M with
  | some i => M.set i (k, v)
  | none => M ++ [(k, v)]
theorem findK_mp (k : Str) : ∀ M : Mp, findK (.one 1) (.str k) (mKs M) = some (mIdx k M)
  | [] => rfl
  | p :: r => by
    have ih := findK_mp k r
    unfold mKs at ih ⊢
    simp only [List.map_cons, findK]
    have e : eqK (.one 1) (.str k) (.str p.1) = some (decide (k = p.1)) := by by_cases h : k = p.1 <;> simp [eqK, keyOk, kindOf, eqS, h]
    rw [e, mIdx]
    by_cases h : k = p.1
    · simp [h]
    · simp only [h, decide_false, if_false]
      rw [ih]
      cases mIdx k r <;> rfl
theorem mIdx_some {k : Str} : ∀ {M : Mp} {i : Nat}, mIdx k M = some i → ∃ v, M[i]? = some (k, v) ∧ mGet k M = some v
  | [], _, h => by simp [mIdx] at h
  | p :: r, i, h => by
    rw [mIdx] at h
    split at h
    · rename_i hk
      simp at h
      subst h
      exact ⟨p.2, by simp [hk], by simp [mGet, hk]⟩
    · rename_i hk
      cases h2 : mIdx k r with
      | none => rw [h2] at h; simp at h
      | some i' =>
        rw [h2] at h
        simp at h
        subst h
        obtain ⟨v, h3, h4⟩ := mIdx_some h2
        exact ⟨v, by simpa using h3, by simp [mGet, hk, h4]⟩
theorem mIdx_none {k : Str} : ∀ {M : Mp}, mIdx k M = none → mGet k M = none
  | [], _ => rfl
  | p :: r, h => by
    rw [mIdx] at h
    split at h
    · cases h
    · rename_i hk
      cases h2 : mIdx k r with
      | none => rw [mGet, if_neg hk]; exact mIdx_none h2
      | some i' => rw [h2] at h; simp at h
theorem mGet_append (k k' : Str) (v : Int) : ∀ M : Mp, mGet k' (M ++ [(k, v)]) = match mGet k' M with
    | some w => some w
    | none => if k' = k then some v else none
  | [] => by simp [mGet]
  | p :: r => by
    simp only [List.cons_append, mGet]
    split
    · rfl
    · exact mGet_append k k' v r
theorem mGet_set {k : Str} (k' : Str) (v : Int) : ∀ {M : Mp} {i : Nat}, mIdx k M = some i → mGet k' (M.set i (k, v)) = if k' = k then some v else mGet k' M
  | [], _, h => by simp [mIdx] at h
  | p :: r, i, h => by
    rw [mIdx] at h
    split at h
    · rename_i hk
      simp at h
      subst h
      simp only [List.set_cons_zero, mGet]
      by_cases e : k' = k
      · simp [e]
      · have : ¬ k' = p.1 := by rw [← hk]; exact e
        simp [e, this]
    · rename_i hk
      cases h2 : mIdx k r with
      | none => rw [h2] at h; simp at h
      | some i' =>
        rw [h2] at h
        simp at h
        subst h
        have ih := mGet_set k' v h2
        simp only [List.set_cons_succ, mGet, ih]
        by_cases e : k' = p.1
        · have : ¬ k' = k := fun q => hk (by rw [← q, e])
          simp [e, this]
          intro q
          exact absurd (q ▸ rfl) hk
        · simp [e]
theorem mGet_put (M : Mp) (k k' : Str) (v : Int) : mGet k' (mPut M k v) = if k' = k then some v else mGet k' M := by
  unfold mPut
  cases h : mIdx k M with
  | some i => exact mGet_set k' v h
  | none =>
    have := mIdx_none h
    simp only
    rw [mGet_append]
    by_cases e : k' = k
    · subst e; simp [this]
    · simp [e]; cases mGet k' M <;> rfl
/-- The map of last tests, one test further. -/
def later (M : Mp) (x : Tst) : Bool := match mGet x.name M with
  | none => true
  | some d => decide (d < x.day)
def upd (day : Int) (M : Mp) (x : Tst) : Mp := if x.day ≤ day ∧ later M x = true then mPut M x.name x.day else M
def testedM (l : List Tst) (day : Int) : Mp := l.foldl (upd day) []
theorem tested_get (n : Str) (day : Int) : ∀ (l : List Tst) (M : Mp) (acc : Int), (∀ x ∈ l, 0 ≤ x.day) → ((mGet n M = none ∧ acc = -1) ∨ (mGet n M = some acc ∧ 0 ≤ acc)) →
    ((mGet n (l.foldl (upd day) M) = none ∧ l.foldl (lastF n 0 day) acc = -1) ∨ (mGet n (l.foldl (upd day) M) = some (l.foldl (lastF n 0 day) acc) ∧ 0 ≤ l.foldl (lastF n 0 day) acc))
  | [], _, _, _, h => h
  | x :: r, M, acc, hx, h => by
    simp only [List.foldl_cons]
    have hx0 := hx x (by simp)
    refine tested_get n day r _ _ (fun y hy => hx y (by simp [hy])) ?_
    by_cases hn : x.name = n
    · subst hn
      by_cases hd : x.day ≤ day
      · have eL : lastF x.name 0 day acc x = max acc x.day := by unfold lastF; rw [if_pos ⟨rfl, hx0, hd⟩]
        rw [eL]
        rcases h with ⟨h1, h2⟩ | ⟨h1, h2⟩
        · have hl : later M x = true := by unfold later; rw [h1]
          have eU : upd day M x = mPut M x.name x.day := by unfold upd; rw [if_pos ⟨hd, hl⟩]
          rw [eU, mGet_put, if_pos rfl]
          right
          exact ⟨by congr 1; omega, by omega⟩
        · have hl : later M x = decide (acc < x.day) := by unfold later; rw [h1]
          by_cases h3 : acc < x.day
          · have eU : upd day M x = mPut M x.name x.day := by unfold upd; rw [if_pos ⟨hd, by rw [hl]; exact decide_eq_true h3⟩]
            rw [eU, mGet_put, if_pos rfl]
            right
            exact ⟨by congr 1; omega, by omega⟩
          · have eU : upd day M x = M := by unfold upd; rw [if_neg (fun q => h3 (of_decide_eq_true (hl ▸ q.2)))]
            rw [eU, h1]
            right
            exact ⟨by congr 1; omega, by omega⟩
      · have eL : lastF x.name 0 day acc x = acc := by unfold lastF; rw [if_neg (fun q => hd q.2.2)]
        have eU : upd day M x = M := by unfold upd; rw [if_neg (fun q => hd q.1)]
        rw [eU, eL]
        exact h
    · have eL : lastF n 0 day acc x = acc := by unfold lastF; rw [if_neg (fun q => hn q.1)]
      rw [eL]
      unfold upd
      split
      · rw [mGet_put, if_neg (fun q => hn q.symm)]
        exact h
      · exact h
theorem tested_last (l : List Tst) (n : Str) (day : Int) (hx : ∀ x ∈ l, 0 ≤ x.day) : (mGet n (testedM l day) = none ∧ lastT l n 0 day = -1) ∨ (mGet n (testedM l day) = some (lastT l n 0 day) ∧ 0 ≤ lastT l n 0 day) :=
  tested_get n day l [] (-1) hx (.inl ⟨rfl, rfl⟩)
theorem lastF_spec (n : Str) (a b : Int) : ∀ (l : List Tst) (acc : Int), acc ≤ l.foldl (lastF n a b) acc ∧ (∀ x ∈ l, x.name = n → a ≤ x.day → x.day ≤ b → x.day ≤ l.foldl (lastF n a b) acc) ∧ (l.foldl (lastF n a b) acc = acc ∨ ∃ x ∈ l, x.name = n ∧ a ≤ x.day ∧ x.day ≤ b ∧ l.foldl (lastF n a b) acc = x.day)
  | [], acc => ⟨Int.le_refl _, by simp, .inl rfl⟩
  | x :: r, acc => by
    simp only [List.foldl_cons]
    obtain ⟨h1, h2, h3⟩ := lastF_spec n a b r (lastF n a b acc x)
    by_cases hc : x.name = n ∧ a ≤ x.day ∧ x.day ≤ b
    · have e : lastF n a b acc x = max acc x.day := by unfold lastF; rw [if_pos hc]
      rw [e] at h1 h2 h3 ⊢
      refine ⟨by omega, fun y hy => ?_, ?_⟩
      · rcases List.mem_cons.1 hy with rfl | hy
        · intros; omega
        · exact h2 y hy
      · rcases h3 with h3 | ⟨y, hy, h3⟩
        · by_cases hm : acc ≤ x.day
          · exact .inr ⟨x, by simp, hc.1, hc.2.1, hc.2.2, by rw [h3]; omega⟩
          · exact .inl (by rw [h3]; omega)
        · exact .inr ⟨y, by simp [hy], h3⟩
    · have e : lastF n a b acc x = acc := by unfold lastF; rw [if_neg hc]
      rw [e] at h1 h2 h3 ⊢
      refine ⟨h1, fun y hy => ?_, ?_⟩
      · rcases List.mem_cons.1 hy with rfl | hy
        · intro a1 a2 a3; exact absurd ⟨a1, a2, a3⟩ hc
        · exact h2 y hy
      · rcases h3 with h3 | ⟨y, hy, h3⟩
        · exact .inl h3
        · exact .inr ⟨y, by simp [hy], h3⟩
/-- Was nobody tested on the days before? By the last test of all. -/
theorem last_spared {l : List Tst} {n : Str} {day s : Int} (hx : ∀ x ∈ l, 0 ≤ x.day) (hs : 0 ≤ s) : lastT l n (day - s) day < 0 ↔ (lastT l n 0 day < 0 ∨ lastT l n 0 day < day - s) := by
  obtain ⟨a1, a2, a3⟩ := lastF_spec n (day - s) day l (-1)
  obtain ⟨b1, b2, b3⟩ := lastF_spec n 0 day l (-1)
  have ea : l.foldl (lastF n (day - s) day) (-1) = lastT l n (day - s) day := rfl
  have eb : l.foldl (lastF n 0 day) (-1) = lastT l n 0 day := rfl
  rw [ea] at a1 a2 a3
  rw [eb] at b1 b2 b3
  constructor
  · intro h
    rcases b3 with b3 | ⟨x, hx1, hx2, hx3, hx4, hx5⟩
    · left; omega
    · right
      by_cases hc : day - s ≤ x.day
      · have := a2 x hx1 hx2 hc hx4; omega
      · omega
  · intro h
    rcases a3 with a3 | ⟨x, hx1, hx2, hx3, hx4, hx5⟩
    · omega
    · have h0 := hx x hx1
      have := b2 x hx1 hx2 h0 hx4
      omega
end LM.G9
namespace LM.G9
open Go LM
variable {P : Nat → Option SFunc} [Has P]
def mVl (M : Mp) : List LV := (mVs M).map LV.c
theorem mVl_get {M : Mp} {i : Nat} {k : Str} {v : Int} (h : M[i]? = some (k, v)) : (mVl M)[i]? = some (.c (ci v)) := by simp [mVl, mVs, h]
theorem mVl_set (M : Mp) (i : Nat) (k : Str) (v : Int) : (mVl M).set i (.c (ci v)) = mVl (M.set i (k, v)) := by
  unfold mVl mVs
  rw [List.map_set, List.map_set]
theorem mKs_set {M : Mp} {i : Nat} {k : Str} (v : Int) (h : mIdx k M = some i) : mKs (M.set i (k, v)) = mKs M := by
  obtain ⟨w, hw, _⟩ := mIdx_some h
  obtain ⟨hi, hw⟩ := List.getElem?_eq_some_iff.1 hw
  unfold mKs
  rw [List.map_set]
  apply List.ext_getElem
  · simp
  · intro j h1 h2
    rw [List.getElem_set]
    by_cases e : i = j
    · subst e; simp [hw]
    · simp [e]
theorem under_mVl (n : Nat) (M : Mp) : underL n (mVl M) = true := underL_map_c n _
theorem mapH_mVl (n : Nat) (M : Mp) (h : Heap) : mapH (frz (n + 1)) (mVl M) h = some (mVs M, h) := mapH_map_c n _ h
theorem L91 (day : Int) : ∀ (l pre : List Tst) (M : Mp), ((pre ++ l).length : Int) < 9223372036854775807 →
    execS P (limS P) c91_l0 ⟨[.c (ci day), .map 0, .c (.slice ((pre ++ l).map Tst.enc)), .c (ci (pre ++ l).length), .c (ci pre.length)], [.map (mKs M) (mVl M) false]⟩ =
      some (.exit 0, ⟨[.map 0], [.map (mKs (l.foldl (upd day) M)) (mVl (l.foldl (upd day) M)) false]⟩) := by
  intro l
  induction l with
  | nil =>
    intro pre M h
    rw [r91_l0]
    simp [c91_l0b]
  | cons c r ih =>
    intro pre M h
    have ih := ih (pre ++ [c]) (upd day M c) (by simpa using h)
    simp [Tst.enc] at ih h
    have hw : IntKind.i64.wrap (↑pre.length + 1) = ↑pre.length + 1 := wrap64 (by omega) (by omega)
    have hlt : (pre.length : Int) < pre.length + (r.length + 1) := by omega
    have hk : keyOk (.one 1) (CV.str c.name) = true := rfl
    have hf := findK_mp c.name M
    rw [r91_l0]
    cases hi : mIdx c.name M with
    | none =>
      rw [hi] at hf
      have hg := mIdx_none hi
      have hl : later M c = true := by unfold later; rw [hg]
      have hp : mPut M c.name c.day = M ++ [(c.name, c.day)] := by unfold mPut; rw [hi]
      by_cases h1 : c.day ≤ day
      · have eU : upd day M c = M ++ [(c.name, c.day)] := by unfold upd; rw [if_pos ⟨h1, hl⟩, hp]
        have e1 : mKs (M ++ [(c.name, c.day)]) = mKs M ++ [.str c.name] := by simp [mKs]
        have e2 : mVl (M ++ [(c.name, c.day)]) = mVl M ++ [.c (ci c.day)] := by simp [mVl, mVs]
        rw [eU, e1, e2] at ih
        simp [c91_l0b, hw, hlt, Tst.enc, hk, hf, h1, eU, under_mVl, ih]
      · have eU : upd day M c = M := by unfold upd; rw [if_neg (fun q => h1 q.1)]
        rw [eU] at ih
        simp [c91_l0b, hw, hlt, Tst.enc, hk, hf, h1, eU, under_mVl, ih]
    | some i =>
      rw [hi] at hf
      obtain ⟨v, hv, hg⟩ := mIdx_some hi
      have hv2 := mVl_get hv
      have hl : later M c = decide (v < c.day) := by unfold later; rw [hg]
      have hp : mPut M c.name c.day = M.set i (c.name, c.day) := by unfold mPut; rw [hi]
      by_cases h1 : c.day ≤ day
      · by_cases h2 : v < c.day
        · have eU : upd day M c = M.set i (c.name, c.day) := by unfold upd; rw [if_pos ⟨h1, by rw [hl]; exact decide_eq_true h2⟩, hp]
          rw [eU, mKs_set _ hi, ← mVl_set] at ih
          have hu : underL 1 ((mVl M).set i (.c (ci c.day))) = true := by rw [mVl_set M i c.name c.day]; exact under_mVl _ _
          simp [c91_l0b, hw, hlt, Tst.enc, hk, hf, hv2, h1, h2, eU, hu, ih]
        · have eU : upd day M c = M := by unfold upd; rw [if_neg (fun q => h2 (of_decide_eq_true (hl ▸ q.2)))]
          rw [eU] at ih
          simp [c91_l0b, hw, hlt, Tst.enc, hk, hf, hv2, h1, h2, eU, under_mVl, ih]
      · have eU : upd day M c = M := by unfold upd; rw [if_neg (fun q => h1 q.1)]
        rw [eU] at ih
        simp [c91_l0b, hw, hlt, Tst.enc, hk, hf, hv2, h1, eU, under_mVl, ih]
def mEnc (M : Mp) : CV := .map (mKs M) (mVs M)
theorem S91 (l : List Tst) (day : Int) (h : (l.length : Int) < 9223372036854775807) : fn P 91 [.slice (l.map Tst.enc), ci day] = some (mEnc (testedM l day)) := by
  have hL := L91 (P := P) day l [] [] (by simpa using h)
  have e1 : mKs [] = [] := rfl
  have e2 : mVl [] = [] := rfl
  rw [e1, e2] at hL
  simp at hL
  rw [u91]
  have e : l.foldl (upd day) [] = testedM l day := rfl
  rw [e] at hL
  simp [c91, hL, resV, mapH_mVl, mEnc]
/-- The day of a climber's last test, or -1. -/
def mLast (M : Mp) (s : Str) : Int := match mGet s M with
  | some d => d
  | none => -1
theorem S92 (M : Mp) (s : Str) : fn P 92 [.str s, .ptr [mEnc M] 0] = some (ci (mLast M s)) := by
  have hk : keyOk (.one 1) (CV.str s) = true := rfl
  have hf := findK_mp s M
  rw [u92]
  unfold mLast
  cases hi : mIdx s M with
  | none =>
    rw [hi] at hf
    rw [mIdx_none hi]
    simp [c92, mEnc, hk, hf]
  | some i =>
    rw [hi] at hf
    obtain ⟨v, hv, hg⟩ := mIdx_some hi
    have hv2 : (mVs M)[i]? = some (ci v) := by simp [mVs, hv]
    rw [hg]
    simp [c92, mEnc, hk, hf, hv2]
def cmpI (a b : Int) : Int := if a < b then -1 else if b < a then 1 else 0
theorem S95 (a b : Int) : fn P 95 [ci a, ci b] = some (ci (cmpI a b)) := by
  have e : ∀ x : Int, fn P 137 [ci x] = some (.bool false) := fun x => by rw [u137]; simp [c137]
  rw [u95]
  unfold cmpI
  by_cases h1 : a < b <;> by_cases h2 : b < a <;> simp [c95, e, h1, h2]
end LM.G9
namespace LM.G9
open Go LM
variable {P : Nat → Option SFunc} [Has P]
def cS (xs : List Str) : List LV := xs.map fun s => LV.c (.str s)
theorem cS_length (xs : List Str) : (cS xs).length = xs.length := by simp [cS]
theorem cS_append (xs ys : List Str) : cS (xs ++ ys) = cS xs ++ cS ys := by simp [cS]
theorem cellsOf_strs (xs : List Str) : cellsOf (xs.map CV.str) = cS xs := by
  induction xs with
  | nil => rfl
  | cons x r ih =>
    have : cellsOf ((x :: r).map CV.str) = .c (.str x) :: cellsOf (r.map CV.str) := rfl
    rw [this, ih]
    rfl
/-- An element goes left past all greater ones. -/
def insL (key : Str → Int) (x : Str) : List Str → List Str → List Str
  | [], Q => x :: Q
  | y :: L, Q => if key x < key y then insL key x L (y :: Q) else L.reverse ++ y :: x :: Q
/-- The comparison of the pool. -/
def cmpC (F : CV) : CV := .func 94 [] [.ptr [F] 0]
def CmpOk (P : Nat → Option SFunc) (F : CV) (key : Str → Int) : Prop := ∀ x y, fn P 94 [.str x, .str y, .ptr [F] 0] = some (ci (cmpI (key x) (key y)))
variable {F : CV} {key : Str → Int} {H : Heap} {b g : Nat}
theorem take_set (X : LB) : List.take H.length (H.set b X) = H.set b X := List.take_of_length_le (by simp)
theorem L152_0 (hC : CmpOk P F key) (hb : b < H.length) (hg : g ≠ 0) (A : List Str) (a bb i : Int) (ha : a = A.length) (n : Nat) (hn : n < 9223372036854775807) : ∀ (L : List Str) (x : Str) (Q : List Str), n = A.length + L.length + 1 + Q.length →
    execS P (limS P) c152_l0 ⟨[.slice b g 0 n none none, .c (ci a), .c (ci bb), .c (cmpC F), .c (ci i), .c (ci (A.length + L.length))], H.set b (.cells g (cS (A ++ L.reverse ++ x :: Q)) 0)⟩ =
      some (.exit 2, ⟨[.slice b g 0 n none none, .c (ci a), .c (ci bb), .c (cmpC F), .c (ci i)], H.set b (.cells g (cS (A ++ insL key x L Q)) 0)⟩) := by
  subst ha
  intro L
  induction L with
  | nil =>
    intro x Q h
    rw [r152_l0]
    simp [c152_l0b, insL]
  | cons y L ih =>
    intro x Q h
    have ih := ih x (y :: Q) (by simp at h ⊢; omega)
    simp at h
    have hc := hC x y
    have hlt : (A.length : Int) < A.length + (L.length + 1) := by omega
    have hw : IntKind.i64.wrap ((A.length : Int) + (L.length + 1) - 1) = A.length + L.length := by
      rw [show (A.length : Int) + (L.length + 1) - 1 = A.length + L.length from by omega]; exact wrap64 (by omega) (by omega)
    have t1 : ((A.length : Int) + (L.length + 1)).toNat = A.length + (L.length + 1) := by omega
    have t2 : ((A.length : Int) + L.length).toNat = A.length + L.length := by omega
    have i1 : (A.length : Int) + (L.length + 1) < n := by omega
    have i2 : (A.length : Int) + L.length < n := by omega
    have j1 : 0 ≤ (A.length : Int) + (L.length + 1) := by omega
    have j2 : 0 ≤ (A.length : Int) + L.length := by omega
    have e : A ++ (y :: L).reverse ++ x :: Q = A ++ (L.reverse ++ y :: x :: Q) := by simp
    have g1 : (cS (A ++ (L.reverse ++ y :: x :: Q)))[A.length + L.length]? = some (.c (.str y)) := by
      unfold cS; rw [List.getElem?_map, List.getElem?_append_right (by omega), List.getElem?_append_right (by simp)]; simp
    have g2 : (cS (A ++ (L.reverse ++ y :: x :: Q)))[A.length + (L.length + 1)]? = some (.c (.str x)) := by
      unfold cS; rw [List.getElem?_map, List.getElem?_append_right (by omega), List.getElem?_append_right (by simp), List.length_reverse, show A.length + (L.length + 1) - A.length - L.length = 1 from by omega]; simp
    have gs : ((cS (A ++ (L.reverse ++ y :: x :: Q))).set (A.length + (L.length + 1)) (.c (.str y))).set (A.length + L.length) (.c (.str x)) = cS (A ++ (L.reverse ++ x :: y :: Q)) := by
      have q : cS (A ++ (L.reverse ++ y :: x :: Q)) = (cS A ++ cS L.reverse) ++ .c (.str y) :: .c (.str x) :: cS Q := by simp [cS]
      have q2 : cS (A ++ (L.reverse ++ x :: y :: Q)) = (cS A ++ cS L.reverse) ++ .c (.str x) :: .c (.str y) :: cS Q := by simp [cS]
      have ql : (cS A ++ cS L.reverse).length = A.length + L.length := by simp [cS_length]
      rw [q, q2, List.set_append_right _ _ (by omega), ql, show A.length + (L.length + 1) - (A.length + L.length) = 1 from by omega, List.set_cons_succ, List.set_cons_zero, List.set_append_right _ _ (by omega), ql, Nat.sub_self, List.set_cons_zero]
    obtain ⟨_, g1⟩ := List.getElem?_eq_some_iff.1 g1
    obtain ⟨_, g2⟩ := List.getElem?_eq_some_iff.1 g2
    have k1 : A.length + (L.length + 1) + 1 ≤ A.length + (L.length + (Q.length + 1 + 1)) := by omega
    have k2 : A.length + L.length + 1 ≤ A.length + (L.length + (Q.length + 1 + 1)) := by omega
    rw [e]
    rw [r152_l0]
    simp only [insL]
    by_cases hk : key x < key y
    · have hcv : cmpI (key x) (key y) = -1 := by unfold cmpI; rw [if_pos hk]
      rw [hcv] at hc
      have ih' := ih
      simp [cmpC] at ih
      simp [c152_l0b, cmpC, hb, hlt, hw, t1, t2, i1, i2, j1, j2, g1, g2, gs, hc, hk, take_set, cS_length, k1, k2, ih]
    · have hcv : ¬ cmpI (key x) (key y) < 0 := by unfold cmpI; rw [if_neg hk]; split <;> omega
      simp [c152_l0b, cmpC, hb, hlt, hw, t1, t2, i1, i2, j1, j2, g1, g2, hc, hcv, hk, take_set, cS_length]
theorem insL_append (x : Str) : ∀ (L Q R : List Str), insL key x L (Q ++ R) = insL key x L Q ++ R
  | [], Q, R => rfl
  | y :: L, Q, R => by
    simp only [insL]
    split
    · exact insL_append x L (y :: Q) R
    · simp
/-- Into a sorted list. -/
def insS (key : Str → Int) (x : Str) (S : List Str) : List Str := insL key x S.reverse []
theorem insL_length (x : Str) : ∀ (L Q : List Str), (insL key x L Q).length = L.length + Q.length + 1
  | [], Q => by simp [insL]
  | y :: L, Q => by
    simp only [insL]
    split
    · rw [insL_length x L (y :: Q)]; simp; omega
    · simp; omega
theorem insS_length (x : Str) (S : List Str) : (insS key x S).length = S.length + 1 := by
  unfold insS
  rw [insL_length]
  simp
def sortI (key : Str → Int) : List Str → List Str → List Str
  | S, [] => S
  | S, x :: U => sortI key (insS key x S) U
theorem sortI_length : ∀ (S U : List Str), (sortI key S U).length = S.length + U.length
  | S, [] => rfl
  | S, x :: U => by rw [sortI, sortI_length, insS_length]; simp; omega
theorem L152_1 (hC : CmpOk P F key) (hb : b < H.length) (hg : g ≠ 0) (A T : List Str) (n : Nat) (hn : n < 9223372036854775807) (bb : Int) : ∀ (U S : List Str), n = A.length + S.length + U.length + T.length → bb = A.length + S.length + U.length →
    execS P (limS P) c152_l1 ⟨[.slice b g 0 n none none, .c (ci A.length), .c (ci bb), .c (cmpC F), .c (ci (A.length + S.length))], H.set b (.cells g (cS (A ++ (S ++ (U ++ T)))) 0)⟩ =
      some (.exit 0, ⟨[], H.set b (.cells g (cS (A ++ (sortI key S U ++ T))) 0)⟩) := by
  intro U
  induction U with
  | nil =>
    intro S h1 h2
    have hlt : ¬ (A.length : Int) + S.length < bb := by simp at h2; omega
    rw [r152_l1]
    simp [c152_l1b, hlt, sortI]
  | cons x U ih =>
    intro S h1 h2
    have ih := ih (insS key x S) (by rw [insS_length]; simp at h1 ⊢; omega) (by rw [insS_length]; simp at h2 ⊢; omega)
    have hin := L152_0 (P := P) hC hb hg A A.length bb (A.length + S.length) rfl n hn S.reverse x (U ++ T) (by simp at h1 ⊢; omega)
    have e : insL key x S.reverse (U ++ T) = insS key x S ++ (U ++ T) := insL_append x S.reverse [] (U ++ T)
    rw [e] at hin
    rw [insS_length] at ih
    simp at hin ih h1 h2
    have hlt : (A.length : Int) + S.length < bb := by omega
    have hw : IntKind.i64.wrap ((A.length : Int) + S.length + 1) = (A.length : Int) + (S.length + 1) := by
      rw [Int.add_assoc]; exact wrap64 (by omega) (by omega)
    rw [r152_l1]
    simp only [sortI]
    simp [c152_l1b, hlt, hin, hw, hb, take_set, ih]
theorem S152 (hC : CmpOk P F key) (hb : b < H.length) (hg : g ≠ 0) (A U T : List Str) (n : Nat) (hn : n < 9223372036854775807) (h : n = A.length + U.length + T.length) :
    sfn P 152 [.slice b g 0 n none none, .c (ci A.length), .c (ci (A.length + U.length)), .c (cmpC F)] (H.set b (.cells g (cS (A ++ (U ++ T))) 0)) = some (.c (.tuple []), H.set b (.cells g (cS (A ++ (sortI key [] U ++ T))) 0)) := by
  have hw : IntKind.i64.wrap ((A.length : Int) + 1) = (A.length : Int) + 1 := wrap64 (by omega) (by omega)
  rw [u152]
  cases U with
  | nil =>
    have hlt : ¬ (A.length : Int) + 1 < A.length := by omega
    have hL : execS P (limS P) c152_l1 ⟨[.slice b g 0 n none none, .c (ci A.length), .c (ci A.length), .c (cmpC F), .c (ci ((A.length : Int) + 1))], H.set b (.cells g (cS (A ++ T)) 0)⟩ = some (.exit 0, ⟨[], H.set b (.cells g (cS (A ++ T)) 0)⟩) := by
      rw [r152_l1]
      simp [c152_l1b, hlt]
    simp [c152, hw, hL, sortI]
  | cons x U =>
    have hL := L152_1 (P := P) hC hb hg A T n hn (A.length + (U.length + 1)) U [x] (by simp at h ⊢; omega) (by simp; omega)
    have e : insS key x [] = [x] := rfl
    simp at hL
    simp [c152, hw, hL, sortI, e]
end LM.G9
namespace LM.G9
open Go LM
variable {P : Nat → Option SFunc} [Has P]
theorem frzFuncs_nil (h : Heap) : frzFuncs [] h = some ([], h) := by rw [frzFuncs]
theorem frzFuncs_c (v : CV) (l : List LV) (h : Heap) : frzFuncs (.c v :: l) h = bnd (frzFuncs l h) fun a => some (.c v :: a.1, a.2) := by
  rw [frzFuncs]
  rcases frzFuncs l h with _ | ⟨x, y⟩ <;> rfl
  all_goals simp
theorem frzFuncs_slice (b g o n : Nat) (e c : Option Nat) (l : List LV) (h : Heap) : frzFuncs (.slice b g o n e c :: l) h = bnd (frzFuncs l h) fun a => some (.slice b g o n e c :: a.1, a.2) := by
  rw [frzFuncs]
  rcases frzFuncs l h with _ | ⟨x, y⟩ <;> rfl
  all_goals simp
theorem frzFuncs_func (f : Nat) (a b : List LV) (l : List LV) (h : Heap) : frzFuncs (.func f a b :: l) h = bnd (frz frzDepth (.func f a b) h) fun y => bnd (frzFuncs l y.2) fun z => some (.c y.1 :: z.1, z.2) := by
  rw [frzFuncs]
  rcases frz frzDepth (.func f a b) h with _ | ⟨x, y⟩
  · rfl
  · rcases h2 : frzFuncs l y with _ | ⟨z, w⟩ <;> simp [bnd, h2]
/-- The closure that tells a climber's last test. -/
def lastC (M : Mp) : CV := .func 92 [] [.ptr [mEnc M] 0]
theorem S94 (M : Mp) : CmpOk P (lastC M) (mLast M) := by
  intro x y
  have h1 := S92 (P := P) M x
  have h2 := S92 (P := P) M y
  have h3 := S95 (P := P) (mLast M x) (mLast M y)
  rw [u94]
  simp [c94, lastC, h1, h2, h3]
variable {F : CV} {key : Str → Int} {H : Heap} {b g : Nat}
theorem S136 (hC : CmpOk P F key) (hb : b < H.length) (hg : g ≠ 0) (xs : List Str) (n : Nat) (hn : n < 20) (h : n = xs.length) :
    sfn P 136 [.slice b g 0 n none none, .c (ci n), .c (cmpC F)] (H.set b (.cells g (cS xs) 0)) = some (.c (.tuple []), H.set b (.cells g (cS (sortI key [] xs)) 0)) := by
  have hs := S152 (P := P) hC hb hg [] xs [] n (by omega) (by simpa using h)
  have h1 : ¬ (20 : Int) ≤ n := by omega
  have h2 : ¬ (20 : Int) < n := by omega
  have l0 : ∀ E, execS P (limS P) c136_l0 ⟨[.slice b g 0 n none none, .c (ci n), .c (cmpC F), .c (ci 20), .c (ci 0), .c (ci 20)], E⟩ = some (.exit 0, ⟨[.slice b g 0 n none none, .c (ci n), .c (cmpC F), .c (ci 20), .c (ci 0)], E⟩) := by
    intro E
    rw [r136_l0]
    simp [c136_l0b, h1]
  have l2 : ∀ E, execS P (limS P) c136_l2 ⟨[.slice b g 0 n none none, .c (ci n), .c (cmpC F), .c (ci 20)], E⟩ = some (.exit 2, ⟨[], E⟩) := by
    intro E
    rw [r136_l2]
    simp [c136_l2b, h2]
  simp [← h] at hs
  rw [u136]
  simp [c136, l0, l2, hs, hb, take_set, frzFuncs_nil, frzFuncs_c, frzFuncs_slice]
theorem S93 (hC : CmpOk P F key) (hb : b < H.length) (hg : g ≠ 0) (xs : List Str) (n : Nat) (hn : n < 20) (h : n = xs.length) :
    sfn P 93 [.slice b g 0 n none none, .c (cmpC F)] (H.set b (.cells g (cS xs) 0)) = some (.c (.tuple []), H.set b (.cells g (cS (sortI key [] xs)) 0)) := by
  have hs := S136 (P := P) hC hb hg xs n hn h
  rw [u93]
  simp [c93, hs, hb, take_set, frzFuncs_nil, frzFuncs_c, frzFuncs_slice]
/-- The drawn climbers who are not spared. -/
def unspared (M : Mp) (spare day : Int) (s : Str) : Bool := decide (mLast M s < 0) || decide (mLast M s < day - spare)
end LM.G9
namespace LM.G9
open Go LM
theorem insL_perm (key : Str → Int) (x : Str) : ∀ L Q : List Str, (insL key x L Q).Perm (x :: (L.reverse ++ Q))
  | [], Q => by simp [insL]
  | y :: L, Q => by
    simp only [insL]
    split
    · exact (insL_perm key x L (y :: Q)).trans (by simp)
    · have e1 : L.reverse ++ y :: x :: Q = (L.reverse ++ [y]) ++ x :: Q := by simp
      have e2 : x :: ((y :: L).reverse ++ Q) = x :: ((L.reverse ++ [y]) ++ Q) := by simp
      rw [e1, e2]
      exact List.perm_middle
theorem insS_perm (key : Str → Int) (x : Str) (S : List Str) : (insS key x S).Perm (x :: S) := by
  have := insL_perm key x S.reverse []
  simpa [insS] using this
theorem sortI_perm (key : Str → Int) : ∀ S U : List Str, (sortI key S U).Perm (S ++ U)
  | S, [] => by simp [sortI]
  | S, x :: U => by
    rw [sortI]
    refine (sortI_perm key _ U).trans ?_
    refine ((insS_perm key x S).append_right U).trans ?_
    exact List.perm_middle.symm
def Srt (key : Str → Int) (l : List Str) : Prop := l.Pairwise fun a b => key a ≤ key b
theorem sw_perm {xs : List Int} {i k : Nat} (hi : i < xs.length) (hk : k < xs.length) : (sw xs i k).Perm xs := by
  unfold sw
  have e1 : xs.getD k 0 = xs[k] := by simp [List.getD_eq_getElem?_getD, hk]
  have e2 : xs.getD i 0 = xs[i] := by simp [List.getD_eq_getElem?_getD, hi]
  rw [e1, e2]
  exact List.set_set_perm hi hk
theorem drawN_perm (n : Nat) : ∀ (m i : Nat) (x : Int) (xs : List Int), i + m < n → 0 ≤ x → x ≤ 2147483646 → xs.length = n → (drawN n m i x xs).Perm xs
  | 0, _, _, _, _, _, _, _ => .refl _
  | m + 1, i, x, xs, hm, h0, h1, hl => by
    rw [drawN]
    have hx := nextX_range h0 h1
    have hs := step_range (n := n) (i := i) hx.1 (by omega)
    exact (drawN_perm n m (i + 1) _ _ (by omega) hx.1 hx.2 (by rw [sw_length, hl])).trans (sw_perm (by omega) (by omega))
theorem drawL_perm {key : Int} {n : Nat} (h0 : 1 ≤ key) (h1 : key ≤ 2147483646) : (drawL key n).Perm (iota n) := by
  unfold drawL
  rcases Nat.eq_zero_or_pos n with h | h
  · subst h; exact .refl _
  · exact drawN_perm n (n - 1) 0 key _ (by omega) (by omega) h1 (iota_length n)
/-- The climbers in the drawn order. -/
def ordL (c : List Str) (key : Int) : List Str := (drawL key c.length).map fun k => c.getD k.toNat []
theorem ordL_perm {c : List Str} {key : Int} (h0 : 1 ≤ key) (h1 : key ≤ 2147483646) : (ordL c key).Perm c := by
  unfold ordL
  refine ((drawL_perm h0 h1).map _).trans ?_
  have : (iota c.length).map (fun k => c.getD k.toNat []) = c := by
    unfold iota
    rw [List.map_map]
    apply List.ext_getElem
    · simp
    · intro i h2 h3
      simp [List.getD_eq_getElem?_getD, h3]
  rw [this]
theorem lateL_perm {c d : List Str} (l : List Tst) (a b : Int) (h : c.Perm d) : (lateL c l a b).Perm (lateL d l a b) := h.filter _
/-- The pool before it is cut. -/
def poolA (c : List Str) (l : List Tst) (key spare day : Int) : List Str := sortI (fun s => lastT l s 0 day) [] (lateL (ordL c key) l spare day)
theorem poolA_perm {c : List Str} {l : List Tst} {key spare day : Int} (h0 : 1 ≤ key) (h1 : key ≤ 2147483646) : (poolA c l key spare day).Perm (lateL c l spare day) :=
  (sortI_perm _ _ _).trans (lateL_perm l _ _ (ordL_perm h0 h1))
theorem poolA_length {c : List Str} {l : List Tst} {key spare day : Int} (h0 : 1 ≤ key) (h1 : key ≤ 2147483646) : (poolA c l key spare day).length = (lateL c l spare day).length := (poolA_perm h0 h1).length_eq
theorem lateL_le (c : List Str) (l : List Tst) (a b : Int) : (lateL c l a b).length ≤ c.length := List.length_filter_le ..
theorem mLast_lastT {l : List Tst} (hx : ∀ x ∈ l, 0 ≤ x.day) (day : Int) (s : Str) : mLast (testedM l day) s = lastT l s 0 day := by
  unfold mLast
  rcases tested_last l s day hx with ⟨h1, h2⟩ | ⟨h1, h2⟩
  · rw [h1, h2]
  · rw [h1]
end LM.G9
namespace LM.St9
open Go LM LM.G9
variable {P : Nat → Option SFunc} [Has P]
/-- The cells of a list whose elements are cells. -/
def cA {α : Type} (enc : α → CV) (xs : List α) : List LV := xs.map fun x => LV.c (enc x)
theorem cA_length {α : Type} (enc : α → CV) (xs : List α) : (cA enc xs).length = xs.length := by simp [cA]
/-- A comparison, whatever the heap is. -/
def CmpOk (P : Nat → Option SFunc) {α : Type} (enc : α → CV) (f : Nat) (B : List CV) (c : α → α → Int) : Prop :=
  ∀ (pos : Option Nat) (q : Bool) (x y : α) (h : Heap), callS P (limS P) pos q f (.c (enc x) :: .c (enc y) :: B.map .c) h = some (.c (ci (c x y)), h)
/-- Elements of one cell. -/
def CellOk {α : Type} (enc : α → CV) : Prop := ∀ x, Elem none (enc x)
theorem CellOk.cells {α : Type} {enc : α → CV} (h : CellOk enc) (x : α) : CV.cells (enc x) = [enc x] := (h x).1
theorem CellOk.flat {α : Type} {enc : α → CV} (h : CellOk enc) (x : α) : flatAll [LV.c (enc x)] = true := by have := (h x).2; simpa [flatAll] using this
def ltC {α : Type} (c : α → α → Int) (x y : α) : Bool := decide (c x y < 0)
variable {α : Type} {enc : α → CV} {f : Nat} {B : List CV} {c : α → α → Int} {H : Heap} {b g : Nat} {cp : Option Nat}
theorem take_set (X : LB) : List.take H.length (H.set b X) = H.set b X := List.take_of_length_le (by simp)
theorem L152_0 (hE : CellOk enc) (hC : CmpOk P enc f B c) (hb : b < H.length) (hg : g ≠ 0) (A : List α) (a bb i : Int) (ha : a = A.length) (n : Nat) (hn : n < 9223372036854775807) : ∀ (L : List α) (x : α) (Q : List α), n = A.length + L.length + 1 + Q.length →
    execS P (limS P) c152_l0 ⟨[.slice b g 0 n none cp, .c (ci a), .c (ci bb), .c (.func f [] B), .c (ci i), .c (ci (A.length + L.length))], H.set b (.cells g (cA enc (A ++ L.reverse ++ x :: Q)) 0)⟩ =
      some (.exit 2, ⟨[.slice b g 0 n none cp, .c (ci a), .c (ci bb), .c (.func f [] B), .c (ci i)], H.set b (.cells g (cA enc (A ++ insL (ltC c) x L Q)) 0)⟩) := by
  subst ha
  intro L
  induction L with
  | nil =>
    intro x Q h
    rw [r152_l0]
    simp [c152_l0b, insL]
  | cons y L ih =>
    intro x Q h
    have ih := ih x (y :: Q) (by simp at h ⊢; omega)
    simp at h
    have hlt : (A.length : Int) < A.length + (L.length + 1) := by omega
    have hw : IntKind.i64.wrap ((A.length : Int) + (L.length + 1) - 1) = A.length + L.length := by
      rw [show (A.length : Int) + (L.length + 1) - 1 = A.length + L.length from by omega]; exact wrap64 (by omega) (by omega)
    have t1 : ((A.length : Int) + (L.length + 1)).toNat = A.length + (L.length + 1) := by omega
    have t2 : ((A.length : Int) + L.length).toNat = A.length + L.length := by omega
    have i1 : (A.length : Int) + (L.length + 1) < n := by omega
    have i2 : (A.length : Int) + L.length < n := by omega
    have j1 : 0 ≤ (A.length : Int) + (L.length + 1) := by omega
    have j2 : 0 ≤ (A.length : Int) + L.length := by omega
    have e : A ++ (y :: L).reverse ++ x :: Q = A ++ (L.reverse ++ y :: x :: Q) := by simp
    have g1 : (cA enc (A ++ (L.reverse ++ y :: x :: Q)))[A.length + L.length]? = some (.c (enc y)) := by
      unfold cA; rw [List.getElem?_map, List.getElem?_append_right (by omega), List.getElem?_append_right (by simp)]; simp
    have g2 : (cA enc (A ++ (L.reverse ++ y :: x :: Q)))[A.length + (L.length + 1)]? = some (.c (enc x)) := by
      unfold cA; rw [List.getElem?_map, List.getElem?_append_right (by omega), List.getElem?_append_right (by simp), List.length_reverse, show A.length + (L.length + 1) - A.length - L.length = 1 from by omega]; simp
    have gs : ((cA enc (A ++ (L.reverse ++ y :: x :: Q))).set (A.length + (L.length + 1)) (.c (enc y))).set (A.length + L.length) (.c (enc x)) = cA enc (A ++ (L.reverse ++ x :: y :: Q)) := by
      have q : cA enc (A ++ (L.reverse ++ y :: x :: Q)) = (cA enc A ++ cA enc L.reverse) ++ .c (enc y) :: .c (enc x) :: cA enc Q := by simp [cA]
      have q2 : cA enc (A ++ (L.reverse ++ x :: y :: Q)) = (cA enc A ++ cA enc L.reverse) ++ .c (enc x) :: .c (enc y) :: cA enc Q := by simp [cA]
      have ql : (cA enc A ++ cA enc L.reverse).length = A.length + L.length := by simp [cA_length]
      rw [q, q2, List.set_append_right _ _ (by omega), ql, show A.length + (L.length + 1) - (A.length + L.length) = 1 from by omega, List.set_cons_succ, List.set_cons_zero, List.set_append_right _ _ (by omega), ql, Nat.sub_self, List.set_cons_zero]
    obtain ⟨_, g1⟩ := List.getElem?_eq_some_iff.1 g1
    obtain ⟨_, g2⟩ := List.getElem?_eq_some_iff.1 g2
    have k1 : A.length + (L.length + 1) + 1 ≤ A.length + (L.length + (Q.length + 1 + 1)) := by omega
    have k2 : A.length + L.length + 1 ≤ A.length + (L.length + (Q.length + 1 + 1)) := by omega
    have hc := fun pos q h => hC pos q x y h
    have m1 := hE.cells
    simp only [CV.cells] at m1
    have m2 := hE.flat
    rw [e]
    rw [r152_l0]
    simp only [insL]
    by_cases hk : c x y < 0
    · have hl : ltC c x y = true := decide_eq_true hk
      have ih' := ih
      simp at ih
      simp [c152_l0b, hb, hlt, hw, t1, t2, i1, i2, j1, j2, g1, g2, gs, hc, hk, hl, m1, m2, take_set, cA_length, k1, k2, ih]
    · have hl : ltC c x y = false := decide_eq_false hk
      simp [c152_l0b, hb, hlt, hw, t1, t2, i1, i2, j1, j2, g1, g2, hc, hk, hl, take_set, cA_length]
theorem L152_1 (hE : CellOk enc) (hC : CmpOk P enc f B c) (hb : b < H.length) (hg : g ≠ 0) (A T : List α) (n : Nat) (hn : n < 9223372036854775807) (bb : Int) : ∀ (U S : List α), n = A.length + S.length + U.length + T.length → bb = A.length + S.length + U.length →
    execS P (limS P) c152_l1 ⟨[.slice b g 0 n none cp, .c (ci A.length), .c (ci bb), .c (.func f [] B), .c (ci (A.length + S.length))], H.set b (.cells g (cA enc (A ++ (S ++ (U ++ T)))) 0)⟩ =
      some (.exit 0, ⟨[], H.set b (.cells g (cA enc (A ++ (sortI (ltC c) S U ++ T))) 0)⟩) := by
  intro U
  induction U with
  | nil =>
    intro S h1 h2
    have hlt : ¬ (A.length : Int) + S.length < bb := by simp at h2; omega
    rw [r152_l1]
    simp [c152_l1b, hlt, sortI]
  | cons x U ih =>
    intro S h1 h2
    have ih := ih (insS (ltC c) x S) (by rw [insS_length]; simp at h1 ⊢; omega) (by rw [insS_length]; simp at h2 ⊢; omega)
    have hin := L152_0 (P := P) (cp := cp) hE hC hb hg A A.length bb (A.length + S.length) rfl n hn S.reverse x (U ++ T) (by simp at h1 ⊢; omega)
    have e : insL (ltC c) x S.reverse (U ++ T) = insS (ltC c) x S ++ (U ++ T) := insL_append x S.reverse [] (U ++ T)
    rw [e] at hin
    rw [insS_length] at ih
    simp at hin ih h1 h2
    have hlt : (A.length : Int) + S.length < bb := by omega
    have hw : IntKind.i64.wrap ((A.length : Int) + S.length + 1) = (A.length : Int) + (S.length + 1) := by
      rw [Int.add_assoc]; exact wrap64 (by omega) (by omega)
    rw [r152_l1]
    simp only [sortI]
    simp [c152_l1b, hlt, hin, hw, hb, take_set, ih]
theorem S152 (hE : CellOk enc) (hC : CmpOk P enc f B c) (hb : b < H.length) (hg : g ≠ 0) (A U T : List α) (n : Nat) (hn : n < 9223372036854775807) (h : n = A.length + U.length + T.length) :
    sfn P 152 [.slice b g 0 n none cp, .c (ci A.length), .c (ci (A.length + U.length)), .c (.func f [] B)] (H.set b (.cells g (cA enc (A ++ (U ++ T))) 0)) = some (.c (.tuple []), H.set b (.cells g (cA enc (A ++ (sortI (ltC c) [] U ++ T))) 0)) := by
  have hw : IntKind.i64.wrap ((A.length : Int) + 1) = (A.length : Int) + 1 := wrap64 (by omega) (by omega)
  rw [u152]
  cases U with
  | nil =>
    have hlt : ¬ (A.length : Int) + 1 < A.length := by omega
    have hL : execS P (limS P) c152_l1 ⟨[.slice b g 0 n none cp, .c (ci A.length), .c (ci A.length), .c (.func f [] B), .c (ci ((A.length : Int) + 1))], H.set b (.cells g (cA enc (A ++ T)) 0)⟩ = some (.exit 0, ⟨[], H.set b (.cells g (cA enc (A ++ T)) 0)⟩) := by
      rw [r152_l1]
      simp [c152_l1b, hlt]
    simp [c152, hw, hL, sortI]
  | cons x U =>
    have hL := L152_1 (P := P) (cp := cp) hE hC hb hg A T n hn (A.length + (U.length + 1)) U [x] (by simp at h ⊢; omega) (by simp; omega)
    have e : insS (ltC c) x [] = [x] := rfl
    simp at hL
    simp [c152, hw, hL, sortI, e]
end LM.St9
namespace LM.St9
open Go LM LM.G9
variable {P : Nat → Option SFunc} [Has P]
variable {α : Type} {enc : α → CV} {f : Nat} {B : List CV} {c : α → α → Int} {H : Heap} {b g : Nat} {cp : Option Nat}
theorem cA_get {l P R : List α} {x : α} {k : Nat} (hl : l = P ++ x :: R) (h : k = P.length) : ∃ q : k < (cA enc l).length, (cA enc l)[k]'q = .c (enc x) := by
  subst hl
  subst h
  refine ⟨by simp [cA], by simp [cA]⟩
theorem cA_set {P R : List α} {x y : α} {k : Nat} (h : k = P.length) : (cA enc (P ++ x :: R)).set k (.c (enc y)) = cA enc (P ++ y :: R) := by
  subst h
  simp [cA]
theorem L168 (hE : CellOk enc) (hb : b < H.length) (hg : g ≠ 0) (A M T : List α) (F : CV) (n a bb len : Nat) (hn : n < 9223372036854775807) (ha : a = A.length) : ∀ (X2 Y2 X1 Y1 : List α), X1.length = Y1.length → X2.length = Y2.length → len = X1.length + X2.length → bb = A.length + len + M.length → n = bb + len + T.length →
    execS P (limS P) c168_l0 ⟨[.slice b g 0 n none cp, .c (ci a), .c (ci bb), .c (ci len), .c (ci Y1.length)], H.set b (.cells g (cA enc ((A ++ Y1) ++ (X2 ++ (M ++ X1 ++ (Y2 ++ T))))) 0)⟩ =
      some (.exit 0, ⟨[], H.set b (.cells g (cA enc ((A ++ Y1 ++ Y2) ++ (M ++ X1 ++ (X2 ++ T)))) 0)⟩) := by
  intro X2
  induction X2 with
  | nil =>
    intro Y2 X1 Y1 h1 h2 h3 h4 h5
    have : Y2 = [] := List.eq_nil_of_length_eq_zero h2.symm
    subst this
    have hlt : ¬ (Y1.length : Int) < len := by simp at h3; omega
    rw [r168_l0]
    simp [c168_l0b, hlt]
  | cons x X2 ih =>
    intro Y2 X1 Y1 h1 h2 h3 h4 h5
    cases Y2 with
    | nil => simp at h2
    | cons y Y2 =>
      have ih := ih Y2 (X1 ++ [x]) (Y1 ++ [y]) (by simp [h1]) (by simpa using h2) (by simp at h3 ⊢; omega) h4 h5
      simp at h2 h3
      have hlt : (Y1.length : Int) < len := by omega
      have w1 : IntKind.i64.wrap ((a : Int) + Y1.length) = ((a + Y1.length : Nat) : Int) := by rw [Int.natCast_add]; exact wrap64 (by omega) (by omega)
      have w2 : IntKind.i64.wrap ((bb : Int) + Y1.length) = ((bb + Y1.length : Nat) : Int) := by rw [Int.natCast_add]; exact wrap64 (by omega) (by omega)
      have w3 : IntKind.i64.wrap ((Y1.length : Int) + 1) = (Y1.length : Int) + 1 := wrap64 (by omega) (by omega)
      have i1 : ((a + Y1.length : Nat) : Int) < n := by omega
      have i2 : ((bb + Y1.length : Nat) : Int) < n := by omega
      have e0 : (A ++ Y1) ++ (x :: X2 ++ (M ++ X1 ++ (y :: Y2 ++ T))) = (A ++ Y1) ++ x :: (X2 ++ (M ++ X1 ++ (y :: Y2 ++ T))) := by simp
      have e1 : (A ++ Y1) ++ x :: (X2 ++ (M ++ X1 ++ (y :: Y2 ++ T))) = ((A ++ Y1) ++ x :: (X2 ++ (M ++ X1))) ++ y :: (Y2 ++ T) := by simp
      have e2 : (A ++ Y1) ++ y :: (X2 ++ (M ++ X1 ++ (y :: Y2 ++ T))) = ((A ++ Y1) ++ y :: (X2 ++ (M ++ X1))) ++ y :: (Y2 ++ T) := by simp
      obtain ⟨q1, g1⟩ := cA_get (enc := enc) (P := A ++ Y1) (R := X2 ++ (M ++ X1 ++ (y :: Y2 ++ T))) (x := x) (k := a + Y1.length) rfl (by simp [ha])
      obtain ⟨q2, g2⟩ := cA_get (enc := enc) (P := (A ++ Y1) ++ x :: (X2 ++ (M ++ X1))) (R := Y2 ++ T) (x := y) (k := bb + Y1.length) e1 (by simp; omega)
      have s1 : (cA enc ((A ++ Y1) ++ x :: (X2 ++ (M ++ X1 ++ (y :: Y2 ++ T))))).set (a + Y1.length) (.c (enc y)) = cA enc ((A ++ Y1) ++ y :: (X2 ++ (M ++ X1 ++ (y :: Y2 ++ T)))) := cA_set (by simp [ha])
      have s2 : (cA enc ((A ++ Y1) ++ y :: (X2 ++ (M ++ X1 ++ (y :: Y2 ++ T))))).set (bb + Y1.length) (.c (enc x)) = cA enc ((A ++ Y1 ++ [y]) ++ (X2 ++ (M ++ (X1 ++ [x]) ++ (Y2 ++ T)))) := by
        rw [e2, cA_set (by simp; omega)]
        congr 1
        simp
      have m1 := hE.cells
      simp only [CV.cells] at m1
      have m2 := hE.flat
      have hD : (cA enc ((A ++ Y1) ++ x :: (X2 ++ (M ++ X1 ++ (y :: Y2 ++ T))))).length = n := by rw [cA_length]; simp; omega
      have hD2 : (cA enc ((A ++ Y1) ++ y :: (X2 ++ (M ++ X1 ++ (y :: Y2 ++ T))))).length = n := by rw [cA_length]; simp; omega
      have e3 : (A ++ (Y1 ++ [y]) ++ Y2) = A ++ Y1 ++ y :: Y2 := by simp
      have e4 : (M ++ (X1 ++ [x]) ++ (X2 ++ T)) = (M ++ X1 ++ (x :: X2 ++ T)) := by simp
      have e5 : (A ++ (Y1 ++ [y])) = A ++ Y1 ++ [y] := by simp
      rw [e3, e4, e5] at ih
      rw [e0, r168_l0]
      generalize cA enc ((A ++ Y1) ++ x :: (X2 ++ (M ++ X1 ++ (y :: Y2 ++ T)))) = D at *
      generalize cA enc ((A ++ Y1) ++ y :: (X2 ++ (M ++ X1 ++ (y :: Y2 ++ T)))) = D2 at *
      generalize cA enc ((A ++ Y1 ++ [y]) ++ (X2 ++ (M ++ (X1 ++ [x]) ++ (Y2 ++ T)))) = D3 at *
      generalize cA enc (A ++ Y1 ++ y :: Y2 ++ (M ++ X1 ++ (x :: X2 ++ T))) = D4 at *
      have g1 := List.getElem?_eq_some_iff.2 ⟨q1, g1⟩
      have g2 := List.getElem?_eq_some_iff.2 ⟨q2, g2⟩
      have k1 : a + Y1.length + 1 ≤ n := by omega
      have k2 : bb + Y1.length + 1 ≤ n := by omega
      have t1 : ((a : Int) + Y1.length).toNat = a + Y1.length := by omega
      have t2 : ((bb : Int) + Y1.length).toNat = bb + Y1.length := by omega
      have j1 : 0 ≤ (a : Int) + Y1.length := by omega
      have j2 : 0 ≤ (bb : Int) + Y1.length := by omega
      simp at i1 i2 w1 w2 ih
      simp [c168_l0b, hlt, w1, w2, w3, hb, i1, i2, g1, g2, s1, s2, hD, hD2, m1, m2, take_set, k1, k2, t1, t2, j1, j2, ih]
theorem S168 (hE : CellOk enc) (hb : b < H.length) (hg : g ≠ 0) (A X M Y T : List α) (F : CV) (n a bb len : Nat) (hn : n < 9223372036854775807) (ha : a = A.length) (h1 : len = X.length) (h2 : len = Y.length) (h3 : bb = A.length + X.length + M.length) (h4 : n = bb + Y.length + T.length) :
    sfn P 168 [.slice b g 0 n none cp, .c (ci a), .c (ci bb), .c (ci len), .c F] (H.set b (.cells g (cA enc (A ++ (X ++ (M ++ (Y ++ T))))) 0)) = some (.c (.tuple []), H.set b (.cells g (cA enc (A ++ (Y ++ (M ++ (X ++ T))))) 0)) := by
  have hL := L168 (P := P) (cp := cp) hE hb hg A M T F n a bb len hn ha X Y [] [] rfl (by omega) (by simpa using h1) (by omega) (by omega)
  simp at hL
  rw [u168]
  simp [c168, hL]
end LM.St9
namespace LM.St9
open Go LM LM.G9
variable {P : Nat → Option SFunc} [Has P]
variable {α : Type} {enc : α → CV} {f : Nat} {B : List CV} {c : α → α → Int} {H : Heap} {b g : Nat} {cp : Option Nat}
theorem split_at {l : List α} {k : Nat} (h : k ≤ l.length) : ∃ x y, l = x ++ y ∧ x.length = k := ⟨l.take k, l.drop k, (List.take_append_drop k l).symm, by simp; omega⟩
theorem L167 (hE : CellOk enc) (hb : b < H.length) (hg : g ≠ 0) (F : CV) (n m : Nat) (hn : n < 4611686018427387904) : ∀ (k : Nat) (A U V T : List α), U.length + V.length ≤ k → U ≠ [] → V ≠ [] → m = A.length + U.length → n = A.length + U.length + V.length + T.length →
    ∃ A' U' V' T' : List α, U'.length = V'.length ∧ m = A'.length + U'.length ∧ A'.length + U'.length + V'.length + T'.length = n ∧ A' ++ (V' ++ (U' ++ T')) = A ++ (V ++ (U ++ T)) ∧
    execS P (limS P) c167_l0 ⟨[.slice b g 0 n none cp, .c (ci m), .c F, .c (ci U.length), .c (ci V.length)], H.set b (.cells g (cA enc (A ++ (U ++ (V ++ T)))) 0)⟩ =
      some (.exit 0, ⟨[.slice b g 0 n none cp, .c (ci m), .c F, .c (ci U'.length)], H.set b (.cells g (cA enc (A' ++ (U' ++ (V' ++ T')))) 0)⟩) := by
  intro k
  induction k with
  | zero =>
    intro A U V T h hU
    have : U = [] := List.eq_nil_of_length_eq_zero (by omega)
    exact absurd this hU
  | succ k ih =>
    intro A U V T h hU hV hm hl
    have uz : U.length ≠ 0 := fun q => hU (List.eq_nil_of_length_eq_zero q)
    have v0 : V.length ≠ 0 := fun q => hV (List.eq_nil_of_length_eq_zero q)
    have w1 : IntKind.i64.wrap ((m : Int) - U.length) = (m : Int) - U.length := wrap64 (by omega) (by omega)
    have e1 : ((m : Int) - U.length) = ((A.length : Nat) : Int) := by omega
    by_cases hlt : V.length < U.length
    · obtain ⟨U1, U2, rfl, hu⟩ := split_at (l := U) (k := V.length) (by omega)
      simp only [List.length_append] at *
      obtain ⟨A', U', V', T', h1, h2, h3, h4, h5⟩ := ih (A ++ V) U2 U1 T (by omega) (by intro q; subst q; simp at hlt; omega) (by intro q; subst q; simp at hu; omega) (by simp; omega) (by simp; omega)
      refine ⟨A', U', V', T', h1, h2, h3, by rw [h4]; simp, ?_⟩
      have hs := S168 (P := P) (cp := cp) hE hb hg A U1 U2 V T F n A.length m V.length (by omega) rfl hu.symm rfl (by omega) (by omega)
      have e2 : A ++ (U1 ++ U2 ++ (V ++ T)) = A ++ (U1 ++ (U2 ++ (V ++ T))) := by simp
      have e3 : A ++ V ++ (U2 ++ (U1 ++ T)) = A ++ (V ++ (U2 ++ (U1 ++ T))) := by simp
      rw [e3] at h5
      rw [hu] at h5
      have c1 : ((U1.length : Int) + U2.length ≠ V.length) := by omega
      have c2 : (V.length : Int) < (U1.length : Int) + U2.length := by omega
      have c3 : ¬ ((U1.length : Int) + U2.length = V.length) := by omega
      have w2 : IntKind.i64.wrap ((U1.length : Int) + U2.length - V.length) = U2.length := by
        rw [show ((U1.length : Int) + U2.length - V.length) = U2.length from by omega]; exact wrap64 (by omega) (by omega)
      simp at w1 e1
      rw [e1] at w1
      rw [e2, r167_l0]
      simp [c167_l0b, c1, c2, c3, w1, e1, w2, hs, hb, take_set, frzFuncs_nil, frzFuncs_c, frzFuncs_slice, h5]
    · by_cases he : U.length = V.length
      · refine ⟨A, U, V, T, he, hm, hl.symm, rfl, ?_⟩
        rw [r167_l0]
        simp [c167_l0b, he]
      · obtain ⟨V1, V2, rfl, hv⟩ := split_at (l := V) (k := V.length - U.length) (by omega)
        simp only [List.length_append] at *
        have z1 : V1.length ≠ 0 := by omega
        have z2 : V2.length ≠ 0 := by omega
        obtain ⟨A', U', V', T', h1, h2, h3, h4, h5⟩ := ih A V2 V1 (U ++ T) (by omega) (by intro q; rw [q] at z2; simp at z2) (by intro q; rw [q] at z1; simp at z1) (by omega) (by simp; omega)
        refine ⟨A', U', V', T', h1, h2, h3, by rw [h4]; simp, ?_⟩
        have hs := S168 (P := P) (cp := cp) hE hb hg A U V1 V2 T F n A.length (A.length + U.length + V1.length) U.length (by omega) rfl rfl (by omega) rfl (by omega)
        have e2 : A ++ (U ++ (V1 ++ V2 ++ T)) = A ++ (U ++ (V1 ++ (V2 ++ T))) := by simp
        rw [show V2.length = U.length from by omega] at h5
        have c1 : ((U.length : Int) ≠ (V1.length : Int) + V2.length) := by omega
        have c2 : ¬ (V1.length : Int) + V2.length < U.length := by omega
        have c3 : ¬ ((U.length : Int) = (V1.length : Int) + V2.length) := by omega
        have w2 : IntKind.i64.wrap ((V1.length : Int) + V2.length - U.length) = V1.length := by
          rw [show ((V1.length : Int) + V2.length - U.length) = V1.length from by omega]; exact wrap64 (by omega) (by omega)
        have w3 : IntKind.i64.wrap ((m : Int) + (V1.length + V2.length)) = (m : Int) + (V1.length + V2.length) := wrap64 (by omega) (by omega)
        have w4 : IntKind.i64.wrap ((m : Int) + (V1.length + V2.length) - U.length) = (m : Int) + (V1.length + V2.length) - U.length := wrap64 (by omega) (by omega)
        have e4 : (m : Int) + (V1.length + V2.length) - U.length = (A.length : Int) + U.length + V1.length := by omega
        simp at hs
        rw [e1] at w1
        rw [e4] at w4
        rw [e2, r167_l0]
        simp [c167_l0b, c1, c2, c3, w1, e1, w2, w3, w4, e4, hs, hb, take_set, frzFuncs_nil, frzFuncs_c, frzFuncs_slice, h5]
theorem S167 (hE : CellOk enc) (hb : b < H.length) (hg : g ≠ 0) (A U V T : List α) (F : CV) (n a m bb : Nat) (hn : n < 4611686018427387904) (hU : U ≠ []) (hV : V ≠ []) (h1 : a = A.length) (h2 : m = A.length + U.length) (h3 : bb = A.length + U.length + V.length) (h4 : n = A.length + U.length + V.length + T.length) :
    sfn P 167 [.slice b g 0 n none cp, .c (ci a), .c (ci m), .c (ci bb), .c F] (H.set b (.cells g (cA enc (A ++ (U ++ (V ++ T)))) 0)) = some (.c (.tuple []), H.set b (.cells g (cA enc (A ++ (V ++ (U ++ T)))) 0)) := by
  obtain ⟨A', U', V', T', k1, k2, k3, k4, k5⟩ := L167 (P := P) (cp := cp) hE hb hg F n m hn _ A U V T (Nat.le_refl _) hU hV h2 h4
  have w1 : IntKind.i64.wrap ((m : Int) - a) = U.length := by rw [show ((m : Int) - a) = U.length from by omega]; exact wrap64 (by omega) (by omega)
  have w2 : IntKind.i64.wrap ((bb : Int) - m) = V.length := by rw [show ((bb : Int) - m) = V.length from by omega]; exact wrap64 (by omega) (by omega)
  have w3 : IntKind.i64.wrap ((m : Int) - U'.length) = A'.length := by rw [show ((m : Int) - U'.length) = A'.length from by omega]; exact wrap64 (by omega) (by omega)
  have hs := S168 (P := P) (cp := cp) hE hb hg A' U' [] V' T' F n A'.length m U'.length (by omega) rfl rfl k1 (by simp; omega) (by omega)
  simp only [List.nil_append] at hs
  rw [k4] at hs
  rw [u167]
  simp [c167, w1, w2, w3, k5, hs, hb, take_set, frzFuncs_nil, frzFuncs_c, frzFuncs_slice]
end LM.St9
namespace LM.St9
open Go LM LM.G9
variable {P : Nat → Option SFunc} [Has P]
variable {α : Type} {enc : α → CV} {f : Nat} {B : List CV} {c : α → α → Int} {H : Heap} {b g : Nat} {cp : Option Nat}
/-- A search by halves. -/
def bs (p : Nat → Bool) : Nat → Nat → Nat → Nat
  | 0, i, _ => i
  | k + 1, i, j => if i < j then if p ((i + j) / 2) then bs p k ((i + j) / 2 + 1) j else bs p k i ((i + j) / 2) else i
theorem bs_spec (p : Nat → Bool) (i0 j0 : Nat) : ∀ (k i j : Nat), j - i ≤ k → i ≤ j → (i = i0 ∨ p (i - 1) = true) → (j = j0 ∨ p j = false) → i ≤ bs p k i j ∧ bs p k i j ≤ j ∧ (bs p k i j = i0 ∨ p (bs p k i j - 1) = true) ∧ (bs p k i j = j0 ∨ p (bs p k i j) = false)
  | 0, i, j, h, h1, h2, h3 => by
    have : i = j := by omega
    subst this
    exact ⟨Nat.le_refl _, Nat.le_refl _, h2, h3⟩
  | k + 1, i, j, h, h1, h2, h3 => by
    rw [bs]
    split
    · rename_i hl
      split
      · rename_i hp
        obtain ⟨a1, a2, a3, a4⟩ := bs_spec p i0 j0 k ((i + j) / 2 + 1) j (by omega) (by omega) (.inr (by simpa using hp)) h3
        exact ⟨by omega, a2, a3, a4⟩
      · rename_i hp
        obtain ⟨a1, a2, a3, a4⟩ := bs_spec p i0 j0 k i ((i + j) / 2) (by omega) (by omega) h2 (.inr (by simpa using hp))
        exact ⟨a1, by omega, a3, a4⟩
    · have : i = j := by omega
      subst this
      exact ⟨Nat.le_refl _, Nat.le_refl _, h2, h3⟩
def sp0 (c : α → α → Int) (D : List α) (a : Nat) (h : Nat) : Bool := match D[h]?, D[a]? with
  | some x, some y => ltC c x y
  | _, _ => false
def sp2 (c : α → α → Int) (D : List α) (a : Nat) (h : Nat) : Bool := match D[h]?, D[a]? with
  | some x, some y => !ltC c y x
  | _, _ => false
def sp4 (c : α → α → Int) (D : List α) (p : Nat) (h : Nat) : Bool := match D[p - h]?, D[h]? with
  | some x, some y => !ltC c x y
  | _, _ => false
theorem half {i j : Nat} (h : i + j < 9223372036854775808) : IntKind.u64.wrap ((i : Int) + j) = ((i + j : Nat) : Int) ∧ IntKind.i64.wrap (((i + j) / 2 : Nat) : Int) = (((i + j) / 2 : Nat) : Int) := by
  refine ⟨?_, wrap64 (by omega) (by omega)⟩
  simp only [IntKind.wrap, IntKind.bits, IntKind.signed]
  simp
  omega
theorem shr1 (i j : Nat) : shiftInt .shr .u64 ((i : Int) + j) 1 = some (.int .u64 (((i + j) / 2 : Nat) : Int)) := by
  have e : Nat.min (1 : Int).toNat IntKind.u64.bits = 1 := by decide
  unfold shiftInt
  rw [if_neg (by decide)]
  simp only [e]
  congr 2
  rw [Int.fdiv_eq_ediv_of_nonneg _ (by decide), Int.natCast_ediv, Int.natCast_add]
  rfl
theorem cA_at {D : List α} {x : α} {k : Nat} (h : D[k]? = some x) : (cA enc D)[k]? = some (.c (enc x)) := by simp [cA, h]
theorem L153_0 (hC : CmpOk P enc f B c) (hb : b < H.length) (hg : g ≠ 0) (D : List α) (n a : Nat) (hD : D.length = n) (hn : n < 4611686018427387904) (ha : a < n) : ∀ (k i j : Nat), j ≤ n →
    j - i ≤ k → execS P (limS P) c153_l0 ⟨[.slice b g 0 n none cp, .c (ci a), .c (.func f [] B), .c (ci i), .c (ci j)], H.set b (.cells g (cA enc D) 0)⟩ =
      some (.exit 0, ⟨[.slice b g 0 n none cp, .c (ci a), .c (ci (bs (sp0 c D a) k i j))], H.set b (.cells g (cA enc D) 0)⟩) := by
  intro k
  induction k with
  | zero =>
    intro i j hj h
    have hlt : ¬ (i : Int) < j := by omega
    rw [r153_l0]
    simp [c153_l0b, hlt, bs]
  | succ k ih =>
    intro i j hj h
    by_cases hlt : i < j
    · have hl2 : (i : Int) < j := by omega
      obtain ⟨w1, w2⟩ := half (i := i) (j := j) (by omega)
      have w3 : IntKind.i64.wrap ((i : Int) + j) = ((i + j : Nat) : Int) := by rw [Int.natCast_add]; exact wrap64 (by omega) (by omega)
      have w4 : IntKind.i64.wrap ((((i + j) / 2 : Nat) : Int) + 1) = (((i + j) / 2 + 1 : Nat) : Int) := by rw [Int.natCast_add]; exact wrap64 (by omega) (by omega)
      obtain ⟨x, hx⟩ : ∃ x, D[(i + j) / 2]? = some x := ⟨_, List.getElem?_eq_getElem (by omega)⟩
      obtain ⟨y, hy⟩ : ∃ y, D[a]? = some y := ⟨_, List.getElem?_eq_getElem (by omega)⟩
      have g1 := cA_at (enc := enc) hx
      have g2 := cA_at (enc := enc) hy
      have i1 : (((i + j) / 2 : Nat) : Int) < n := by omega
      have i2 : (a : Int) < n := by omega
      have hc := fun pos q h => hC pos q x y h
      have hp : sp0 c D a ((i + j) / 2) = ltC c x y := by unfold sp0; rw [hx, hy]
      rw [r153_l0]
      simp only [bs, if_pos hlt, hp]
      have sh := shr1 i j
      have b1 : i ≤ (i + j) / 2 := by omega
      have b2 : (i + j) / 2 < j := by omega
      rw [Int.natCast_add] at w1 w3
      generalize (i + j) / 2 = q at *
      rw [Int.natCast_add] at w4
      generalize cA enc D = DD at *
      by_cases hk : c x y < 0
      · have hl : ltC c x y = true := decide_eq_true hk
        have ih := ih (q + 1) j hj (by omega)
        push_cast at ih
        simp [c153_l0b, hl2, w1, w2, w3, w4, sh, hb, g1, g2, i1, i2, hc, hk, hl, take_set, ih]
      · have hl : ltC c x y = false := decide_eq_false hk
        have ih := ih i q (by omega) (by omega)
        simp [c153_l0b, hl2, w1, w2, w3, w4, sh, hb, g1, g2, i1, i2, hc, hk, hl, take_set, ih]
    · have hl2 : ¬ (i : Int) < j := by omega
      rw [r153_l0]
      simp [c153_l0b, hl2, bs, hlt]
theorem L153_2 (hC : CmpOk P enc f B c) (hb : b < H.length) (hg : g ≠ 0) (D : List α) (n a : Nat) (hD : D.length = n) (hn : n < 4611686018427387904) (ha : a < n) : ∀ (k i j : Nat), j ≤ n →
    j - i ≤ k → execS P (limS P) c153_l2 ⟨[.slice b g 0 n none cp, .c (ci a), .c (.func f [] B), .c (ci i), .c (ci j)], H.set b (.cells g (cA enc D) 0)⟩ =
      some (.exit 4, ⟨[.slice b g 0 n none cp, .c (ci a), .c (ci (bs (sp2 c D a) k i j))], H.set b (.cells g (cA enc D) 0)⟩) := by
  intro k
  induction k with
  | zero =>
    intro i j hj h
    have hlt : ¬ (i : Int) < j := by omega
    rw [r153_l2]
    simp [c153_l2b, hlt, bs]
  | succ k ih =>
    intro i j hj h
    by_cases hlt : i < j
    · have hl2 : (i : Int) < j := by omega
      obtain ⟨w1, w2⟩ := half (i := i) (j := j) (by omega)
      have w3 : IntKind.i64.wrap ((i : Int) + j) = ((i + j : Nat) : Int) := by rw [Int.natCast_add]; exact wrap64 (by omega) (by omega)
      have w4 : IntKind.i64.wrap ((((i + j) / 2 : Nat) : Int) + 1) = (((i + j) / 2 + 1 : Nat) : Int) := by rw [Int.natCast_add]; exact wrap64 (by omega) (by omega)
      obtain ⟨x, hx⟩ : ∃ x, D[(i + j) / 2]? = some x := ⟨_, List.getElem?_eq_getElem (by omega)⟩
      obtain ⟨y, hy⟩ : ∃ y, D[a]? = some y := ⟨_, List.getElem?_eq_getElem (by omega)⟩
      have g1 := cA_at (enc := enc) hx
      have g2 := cA_at (enc := enc) hy
      have i1 : (((i + j) / 2 : Nat) : Int) < n := by omega
      have i2 : (a : Int) < n := by omega
      have hc := fun pos q h => hC pos q y x h
      have hp : sp2 c D a ((i + j) / 2) = !ltC c y x := by unfold sp2; rw [hx, hy]
      rw [r153_l2]
      simp only [bs, if_pos hlt, hp]
      have sh := shr1 i j
      have b1 : i ≤ (i + j) / 2 := by omega
      have b2 : (i + j) / 2 < j := by omega
      rw [Int.natCast_add] at w1 w3
      generalize (i + j) / 2 = q at *
      rw [Int.natCast_add] at w4
      generalize cA enc D = DD at *
      by_cases hk : ¬ c y x < 0
      · have hl : ltC c y x = false := decide_eq_false hk
        have ih := ih (q + 1) j hj (by omega)
        push_cast at ih
        simp [c153_l2b, hl2, w1, w2, w3, w4, sh, hb, g1, g2, i1, i2, hc, hk, hl, take_set, ih]
      · have hk : c y x < 0 := by omega
        have hl : ltC c y x = true := decide_eq_true hk
        have ih := ih i q (by omega) (by omega)
        simp [c153_l2b, hl2, w1, w2, w3, w4, sh, hb, g1, g2, i1, i2, hc, hk, hl, take_set, ih]
    · have hl2 : ¬ (i : Int) < j := by omega
      rw [r153_l2]
      simp [c153_l2b, hl2, bs, hlt]
theorem L153_4 (hC : CmpOk P enc f B c) (hb : b < H.length) (hg : g ≠ 0) (D : List α) (n p : Nat) (v1 v2 v3 v4 v5 : CV) (hD : D.length = n) (hn : n < 4611686018427387904) (hp : p < 9223372036854775807) : ∀ (k i j : Nat), j ≤ n → j ≤ p + 1 → p < n + i →
    j - i ≤ k → execS P (limS P) c153_l4 ⟨[.slice b g 0 n none cp, .c v1, .c v2, .c v3, .c (.func f [] B), .c v4, .c v5, .c (ci i), .c (ci j), .c (ci p)], H.set b (.cells g (cA enc D) 0)⟩ =
      some (.exit 8, ⟨[.slice b g 0 n none cp, .c v1, .c v2, .c v3, .c (.func f [] B), .c v4, .c v5, .c (ci (bs (sp4 c D p) k i j))], H.set b (.cells g (cA enc D) 0)⟩) := by
  intro k
  induction k with
  | zero =>
    intro i j hj hj2 hpi h
    have hlt : ¬ (i : Int) < j := by omega
    rw [r153_l4]
    simp [c153_l4b, hlt, bs]
  | succ k ih =>
    intro i j hj hj2 hpi h
    by_cases hlt : i < j
    · have hl2 : (i : Int) < j := by omega
      obtain ⟨w1, w2⟩ := half (i := i) (j := j) (by omega)
      have w3 : IntKind.i64.wrap ((i : Int) + j) = ((i + j : Nat) : Int) := by rw [Int.natCast_add]; exact wrap64 (by omega) (by omega)
      have w4 : IntKind.i64.wrap ((((i + j) / 2 : Nat) : Int) + 1) = (((i + j) / 2 + 1 : Nat) : Int) := by rw [Int.natCast_add]; exact wrap64 (by omega) (by omega)
      have w5 : IntKind.i64.wrap ((p : Int) - ((i + j) / 2 : Nat)) = ((p - (i + j) / 2 : Nat) : Int) := by rw [Int.ofNat_sub (by omega)]; exact wrap64 (by omega) (by omega)
      obtain ⟨x, hx⟩ : ∃ x, D[p - (i + j) / 2]? = some x := ⟨_, List.getElem?_eq_getElem (by omega)⟩
      obtain ⟨y, hy⟩ : ∃ y, D[(i + j) / 2]? = some y := ⟨_, List.getElem?_eq_getElem (by omega)⟩
      have g1 := cA_at (enc := enc) hx
      have g2 := cA_at (enc := enc) hy
      have i1 : (((i + j) / 2 : Nat) : Int) < n := by omega
      have i2 : ((p - (i + j) / 2 : Nat) : Int) < n := by omega
      have hc := fun pos q h => hC pos q x y h
      have hp4 : sp4 c D p ((i + j) / 2) = !ltC c x y := by unfold sp4; rw [hx, hy]
      rw [r153_l4]
      simp only [bs, if_pos hlt, hp4]
      have sh := shr1 i j
      have b1 : i ≤ (i + j) / 2 := by omega
      have b2 : (i + j) / 2 < j := by omega
      rw [Int.natCast_add] at w1 w3
      generalize (i + j) / 2 = q at *
      rw [Int.natCast_add] at w4
      generalize p - q = pq at *
      generalize cA enc D = DD at *
      by_cases hk : c x y < 0
      · have hl : ltC c x y = true := decide_eq_true hk
        have ih := ih i q (by omega) (by omega) (by omega) (by omega)
        simp [c153_l4b, hl2, w1, w2, w3, w4, w5, sh, hb, g1, g2, i1, i2, hc, hk, hl, take_set, ih]
      · have hl : ltC c x y = false := decide_eq_false hk
        have ih := ih (q + 1) j hj hj2 (by omega) (by omega)
        push_cast at ih
        simp [c153_l4b, hl2, w1, w2, w3, w4, w5, sh, hb, g1, g2, i1, i2, hc, hk, hl, take_set, ih]
    · have hl2 : ¬ (i : Int) < j := by omega
      rw [r153_l4]
      simp [c153_l4b, hl2, bs, hlt]
theorem L153_1 (hE : CellOk enc) (hb : b < H.length) (hg : g ≠ 0) (T : List α) (u : α) (n i : Nat) (hn : n < 4611686018427387904) : ∀ (V A : List α), i = A.length + 1 + V.length → n = i + T.length →
    execS P (limS P) c153_l1 ⟨[.slice b g 0 n none cp, .c (ci i), .c (ci A.length)], H.set b (.cells g (cA enc (A ++ u :: (V ++ T))) 0)⟩ = some (.exit 2, ⟨[], H.set b (.cells g (cA enc (A ++ (V ++ u :: T))) 0)⟩) := by
  intro V
  induction V with
  | nil =>
    intro A h1 h2
    have w1 : IntKind.i64.wrap ((i : Int) - 1) = A.length := by rw [show ((i : Int) - 1) = A.length from by simp at h1; omega]; exact wrap64 (by omega) (by omega)
    rw [r153_l1]
    simp [c153_l1b, w1]
  | cons v V ih =>
    intro A h1 h2
    have ih := ih (A ++ [v]) (by simp at h1 ⊢; omega) h2
    simp at h1
    have w1 : IntKind.i64.wrap ((i : Int) - 1) = (i : Int) - 1 := wrap64 (by omega) (by omega)
    have w2 : IntKind.i64.wrap ((A.length : Int) + 1) = (A.length : Int) + 1 := wrap64 (by omega) (by omega)
    have c1 : (A.length : Int) < (i : Int) - 1 := by omega
    have i1 : (A.length : Int) < n := by omega
    have i2 : (A.length : Int) + 1 < n := by omega
    have j2 : 0 ≤ (A.length : Int) + 1 := by omega
    have t2 : ((A.length : Int) + 1).toNat = A.length + 1 := by omega
    have e0 : A ++ u :: (v :: V ++ T) = A ++ u :: (v :: (V ++ T)) := rfl
    have e1 : A ++ u :: (v :: (V ++ T)) = (A ++ [u]) ++ v :: (V ++ T) := by simp
    have e3 : A ++ v :: (v :: (V ++ T)) = (A ++ [v]) ++ v :: (V ++ T) := by simp
    obtain ⟨q1, g1⟩ := cA_get (enc := enc) (l := A ++ u :: (v :: (V ++ T))) (k := A.length) rfl rfl
    obtain ⟨q2, g2⟩ := cA_get (enc := enc) (l := A ++ u :: (v :: (V ++ T))) (k := A.length + 1) e1 (by simp)
    have g1 := List.getElem?_eq_some_iff.2 ⟨q1, g1⟩
    have g2 := List.getElem?_eq_some_iff.2 ⟨q2, g2⟩
    have s1 : (cA enc (A ++ u :: (v :: (V ++ T)))).set A.length (.c (enc v)) = cA enc (A ++ v :: (v :: (V ++ T))) := cA_set rfl
    have s2 : (cA enc (A ++ v :: (v :: (V ++ T)))).set (A.length + 1) (.c (enc u)) = cA enc ((A ++ [v]) ++ u :: (V ++ T)) := by rw [e3]; exact cA_set (by simp)
    have l1 : (cA enc (A ++ u :: (v :: (V ++ T)))).length = n := by rw [cA_length]; simp; omega
    have l2 : (cA enc (A ++ v :: (v :: (V ++ T)))).length = n := by rw [cA_length]; simp; omega
    have e4 : A ++ (v :: V ++ u :: T) = A ++ [v] ++ (V ++ u :: T) := by simp
    have m1 := hE.cells
    simp only [CV.cells] at m1
    have m2 := hE.flat
    have k1 : A.length + 1 ≤ n := by omega
    have k2 : A.length + 1 + 1 ≤ n := by omega
    rw [e0, e4, r153_l1]
    generalize cA enc (A ++ u :: (v :: (V ++ T))) = D1 at *
    generalize cA enc (A ++ v :: (v :: (V ++ T))) = D2 at *
    generalize cA enc ((A ++ [v]) ++ u :: (V ++ T)) = D3 at *
    generalize cA enc ((A ++ [v]) ++ (V ++ u :: T)) = D4 at *
    simp at ih
    simp [c153_l1b, w1, w2, c1, i1, i2, j2, t2, g1, g2, s1, s2, l1, l2, m1, m2, hb, k1, k2, take_set, ih]
theorem L153_3 (hE : CellOk enc) (hb : b < H.length) (hg : g ≠ 0) (A : List α) (v : α) (n : Nat) (hn : n < 4611686018427387904) : ∀ (L Q : List α), n = A.length + L.length + 1 + Q.length →
    execS P (limS P) c153_l3 ⟨[.slice b g 0 n none cp, .c (ci A.length), .c (ci (A.length + L.length))], H.set b (.cells g (cA enc (A ++ L.reverse ++ v :: Q)) 0)⟩ = some (.exit 6, ⟨[], H.set b (.cells g (cA enc (A ++ v :: (L.reverse ++ Q))) 0)⟩) := by
  intro L
  induction L with
  | nil =>
    intro Q h
    rw [r153_l3]
    simp [c153_l3b]
  | cons u L ih =>
    intro Q h
    have ih := ih (u :: Q) (by simp at h ⊢; omega)
    simp at h
    have w1 : IntKind.i64.wrap ((A.length : Int) + (L.length + 1) - 1) = (A.length : Int) + L.length := by
      rw [show (A.length : Int) + (L.length + 1) - 1 = (A.length : Int) + L.length from by omega]; exact wrap64 (by omega) (by omega)
    have c1 : (A.length : Int) < (A.length : Int) + (L.length + 1) := by omega
    have i1 : (A.length : Int) + L.length < n := by omega
    have i2 : (A.length : Int) + (L.length + 1) < n := by omega
    have j1 : 0 ≤ (A.length : Int) + L.length := by omega
    have j2 : 0 ≤ (A.length : Int) + (L.length + 1) := by omega
    have t1 : ((A.length : Int) + L.length).toNat = A.length + L.length := by omega
    have t2 : ((A.length : Int) + (L.length + 1)).toNat = A.length + (L.length + 1) := by omega
    have e0 : A ++ (u :: L).reverse ++ v :: Q = (A ++ L.reverse) ++ u :: (v :: Q) := by simp
    have e1 : (A ++ L.reverse) ++ u :: (v :: Q) = (A ++ L.reverse ++ [u]) ++ v :: Q := by simp
    have e2 : (A ++ L.reverse) ++ u :: (u :: Q) = (A ++ L.reverse ++ [u]) ++ u :: Q := by simp
    have e4 : A ++ v :: ((u :: L).reverse ++ Q) = A ++ v :: (L.reverse ++ u :: Q) := by simp
    obtain ⟨q1, g1⟩ := cA_get (enc := enc) (l := (A ++ L.reverse) ++ u :: (v :: Q)) (k := A.length + L.length) rfl (by simp)
    obtain ⟨q2, g2⟩ := cA_get (enc := enc) (l := (A ++ L.reverse) ++ u :: (v :: Q)) (k := A.length + (L.length + 1)) e1 (by simp)
    have g1 := List.getElem?_eq_some_iff.2 ⟨q1, g1⟩
    have g2 := List.getElem?_eq_some_iff.2 ⟨q2, g2⟩
    have s1 : (cA enc ((A ++ L.reverse) ++ u :: (v :: Q))).set (A.length + (L.length + 1)) (.c (enc u)) = cA enc ((A ++ L.reverse) ++ u :: (u :: Q)) := by rw [e1, cA_set (by simp), e2]
    have s2 : (cA enc ((A ++ L.reverse) ++ u :: (u :: Q))).set (A.length + L.length) (.c (enc v)) = cA enc ((A ++ L.reverse) ++ v :: (u :: Q)) := cA_set (by simp)
    have l1 : (cA enc ((A ++ L.reverse) ++ u :: (v :: Q))).length = n := by rw [cA_length]; simp; omega
    have l2 : (cA enc ((A ++ L.reverse) ++ u :: (u :: Q))).length = n := by rw [cA_length]; simp; omega
    have m1 := hE.cells
    simp only [CV.cells] at m1
    have m2 := hE.flat
    have k1 : A.length + L.length + 1 ≤ n := by omega
    have k2 : A.length + (L.length + 1) + 1 ≤ n := by omega
    rw [e0, e4, r153_l3]
    generalize cA enc ((A ++ L.reverse) ++ u :: (v :: Q)) = D1 at *
    generalize cA enc ((A ++ L.reverse) ++ u :: (u :: Q)) = D2 at *
    generalize cA enc ((A ++ L.reverse) ++ v :: (u :: Q)) = D3 at *
    generalize cA enc (A ++ v :: (L.reverse ++ u :: Q)) = D4 at *
    simp [c153_l3b, w1, c1, i1, i2, j1, j2, t1, t2, g1, g2, s1, s2, l1, l2, m1, m2, hb, k1, k2, take_set, ih]
end LM.St9
namespace LM.St9
open Go LM LM.G9
variable {P : Nat → Option SFunc} [Has P]
variable {α : Type} {enc : α → CV} {f : Nat} {B : List CV} {c : α → α → Int} {H : Heap} {b g : Nat} {cp : Option Nat}
theorem get_at {l P R : List α} {x : α} {k : Nat} (hl : l = P ++ x :: R) (h : k = P.length) : l[k]? = some x := by
  subst hl
  subst h
  simp
theorem last_of {l : List α} (h : l ≠ []) : ∃ p x, l = p ++ [x] := ⟨l.dropLast, l.getLast h, (List.dropLast_concat_getLast h).symm⟩
/-- All of the first list's end are greater than the second one's beginning. -/
theorem cut_lt {lt : α → α → Bool} (h : Swo lt) {V1 U2 : List α} (hv : Srt lt V1) (hu : Srt lt U2) (hb : V1 = [] ∨ U2 = [] ∨ ∃ V y x U, V1 = V ++ [y] ∧ U2 = x :: U ∧ lt y x = true) : ∀ v ∈ V1, ∀ u ∈ U2, lt v u = true := by
  rcases hb with rfl | rfl | ⟨V, y, x, U, rfl, rfl, hyx⟩
  · simp
  · simp
  · intro v hv1 u hu1
    have h1 : lt v x = true := by
      rcases List.mem_append.1 hv1 with q | q
      · exact h.lel ((List.pairwise_append.1 hv).2.2 v q y (by simp)) hyx
      · simp at q; rw [q]; exact hyx
    rcases List.mem_cons.1 hu1 with rfl | q
    · exact h1
    · exact h.ltle h1 ((List.pairwise_cons.1 hu).1 u q)
theorem cut_ge {lt : α → α → Bool} (h : Swo lt) {U1 V2 : List α} (hu : Srt lt U1) (hv : Srt lt V2) (hb : U1 = [] ∨ V2 = [] ∨ ∃ U x y V, U1 = U ++ [x] ∧ V2 = y :: V ∧ lt y x = false) : ∀ u ∈ U1, ∀ v ∈ V2, lt v u = false := by
  rcases hb with rfl | rfl | ⟨U, x, y, V, rfl, rfl, hyx⟩
  · simp
  · simp
  · intro u hu1 v hv1
    have h1 : lt v x = false := by
      rcases List.mem_cons.1 hv1 with rfl | q
      · exact hyx
      · exact h.lele hyx ((List.pairwise_cons.1 hv).1 v q)
    rcases List.mem_append.1 hu1 with q | q
    · exact h.lele ((List.pairwise_append.1 hu).2.2 u q x (by simp)) h1
    · simp at q; rw [q]; exact h1
theorem R168 (hE : CellOk enc) (hb : b < H.length) (hg : g ≠ 0) (A U1 U2 V1 V2 T : List α) (F : CV) (n a m bb mid s e : Nat) (hn : n < 4611686018427387904) (hl : n = A.length + U1.length + U2.length + V1.length + V2.length + T.length) (ha : a = A.length) (hs : s = A.length + U1.length) (hm : m = s + U2.length) (he : e = m + V1.length) :
    execS P (limS P) c153_n40 ⟨[.slice b g 0 n none cp, .c (ci a), .c (ci m), .c (ci bb), .c F, .c (ci mid), .c (ci s), .c (ci e)], H.set b (.cells g (cA enc ((A ++ U1) ++ (U2 ++ (V1 ++ (V2 ++ T))))) 0)⟩ =
      some (.normal, ⟨[.slice b g 0 n none cp, .c (ci a), .c (ci bb), .c F, .c (ci mid), .c (ci s), .c (ci e)], H.set b (.cells g (cA enc ((A ++ U1) ++ (V1 ++ (U2 ++ (V2 ++ T))))) 0)⟩) := by
  by_cases h1 : U2 = []
  · subst h1
    have c1 : ¬ (s : Int) < m := by simp at hm; omega
    simp [c1]
  · by_cases h2 : V1 = []
    · subst h2
      have c2 : ¬ (m : Int) < e := by simp at he; omega
      by_cases c1 : (s : Int) < m <;> simp [c1, c2]
    · have z1 : U2.length ≠ 0 := fun q => h1 (List.eq_nil_of_length_eq_zero q)
      have z2 : V1.length ≠ 0 := fun q => h2 (List.eq_nil_of_length_eq_zero q)
      have hr := S167 (P := P) (cp := cp) hE hb hg (A ++ U1) U2 V1 (V2 ++ T) F n s m e hn h1 h2 (by simp; omega) (by simp; omega) (by simp; omega) (by simp; omega)
      have c1 : (s : Int) < m := by omega
      have c2 : (m : Int) < e := by omega
      simp only [List.append_assoc] at hr ⊢
      simp [c1, c2, hr, frzFuncs_nil, frzFuncs_c, frzFuncs_slice]
/-- What a merge of two parts does. -/
def Merges (P : Nat → Option SFunc) (enc : α → CV) (f : Nat) (B : List CV) (c : α → α → Int) (H : Heap) (b g : Nat) (cp : Option Nat) (n : Nat) (k : Nat) : Prop :=
  ∀ (A U V T : List α) (a m bb : Nat), U.length + V.length ≤ k → U ≠ [] → V ≠ [] → Srt (ltC c) U → Srt (ltC c) V → a = A.length → m = a + U.length → bb = m + V.length → n = bb + T.length →
    sfn P 153 [.slice b g 0 n none cp, .c (ci a), .c (ci m), .c (ci bb), .c (.func f [] B)] (H.set b (.cells g (cA enc (A ++ (U ++ (V ++ T)))) 0)) = some (.c (.tuple []), H.set b (.cells g (cA enc (A ++ (mrg (ltC c) U V ++ T))) 0))
theorem M168a {k n : Nat} (hM : Merges P enc f B c H b g cp n k) (A U1 V1 T : List α) (a bb mid s e : Nat) (hk : U1.length + V1.length ≤ k) (hu : Srt (ltC c) U1) (hv : Srt (ltC c) V1) (ha : a = A.length) (hs : s = a + U1.length) (hm : mid = s + V1.length) (hn : n = mid + T.length) :
    execS P (limS P) c153_n42 ⟨[.slice b g 0 n none cp, .c (ci a), .c (ci bb), .c (.func f [] B), .c (ci mid), .c (ci s), .c (ci e)], H.set b (.cells g (cA enc (A ++ (U1 ++ (V1 ++ T)))) 0)⟩ =
      some (.normal, ⟨[.slice b g 0 n none cp, .c (ci bb), .c (.func f [] B), .c (ci mid), .c (ci e)], H.set b (.cells g (cA enc (A ++ (mrg (ltC c) U1 V1 ++ T))) 0)⟩) := by
  by_cases h1 : U1 = []
  · subst h1
    have c1 : ¬ (a : Int) < s := by simp at hs; omega
    simp [c1]
  · by_cases h2 : V1 = []
    · subst h2
      have c2 : ¬ (s : Int) < mid := by simp at hm; omega
      by_cases c1 : (a : Int) < s <;> simp [c1, c2]
    · have z1 : U1.length ≠ 0 := fun q => h1 (List.eq_nil_of_length_eq_zero q)
      have z2 : V1.length ≠ 0 := fun q => h2 (List.eq_nil_of_length_eq_zero q)
      have hr := hM A U1 V1 T a s mid hk h1 h2 hu hv ha hs hm hn
      have c1 : (a : Int) < s := by omega
      have c2 : (s : Int) < mid := by omega
      simp [c1, c2, hr, frzFuncs_nil, frzFuncs_c, frzFuncs_slice]
end LM.St9
namespace LM.St9
open Go LM LM.G9
variable {P : Nat → Option SFunc} [Has P]
variable {α : Type} {enc : α → CV} {f : Nat} {B : List CV} {c : α → α → Int} {H : Heap} {b g : Nat} {cp : Option Nat}
theorem one168 (hE : CellOk enc) (hS : Swo (ltC c)) (hC : CmpOk P enc f B c) (hb : b < H.length) (hg : g ≠ 0) (A : List α) (u : α) (V T : List α) (n a m bb : Nat) (hn : n < 4611686018427387904) (hv : Srt (ltC c) V) (ha : a = A.length) (hm : m = a + 1) (hbb : bb = m + V.length) (hl : n = bb + T.length) :
    sfn P 153 [.slice b g 0 n none cp, .c (ci a), .c (ci m), .c (ci bb), .c (.func f [] B)] (H.set b (.cells g (cA enc (A ++ ([u] ++ (V ++ T)))) 0)) = some (.c (.tuple []), H.set b (.cells g (cA enc (A ++ (mrg (ltC c) [u] V ++ T))) 0)) := by
  have h0 := L153_0 (P := P) (cp := cp) (enc := enc) hC hb hg (A ++ ([u] ++ (V ++ T))) n a (by simp; omega) hn (by omega) (bb - m) m bb (by omega) (by omega)
  have hspec := bs_spec (sp0 c (A ++ ([u] ++ (V ++ T))) a) m bb (bb - m) m bb (Nat.le_refl _) (by omega) (.inl rfl) (.inl rfl)
  generalize bs (sp0 c (A ++ ([u] ++ (V ++ T))) a) (bb - m) m bb = s at *
  obtain ⟨b1, b2, b3, b4⟩ := hspec
  obtain ⟨V1, V2, rfl, hV1⟩ := split_at (l := V) (k := s - m) (by omega)
  have hv' := List.pairwise_append.1 hv
  have eD : A ++ ([u] ++ ((V1 ++ V2) ++ T)) = (A ++ u :: V1) ++ (V2 ++ T) := by simp
  have ga : (A ++ ([u] ++ ((V1 ++ V2) ++ T)))[a]? = some u := get_at (P := A) (R := V1 ++ V2 ++ T) (by simp) ha
  have q1 : ∀ v ∈ V1, ∀ w ∈ [u], ltC c v w = true := by
    refine cut_lt hS hv'.1 (by simp [Srt]) ?_
    by_cases z : V1 = []
    · exact .inl z
    · obtain ⟨W, w, rfl⟩ := last_of z
      refine .inr (.inr ⟨W, w, u, [], rfl, rfl, ?_⟩)
      have hW : s - 1 = (A ++ u :: W).length := by simp at hV1 ⊢; omega
      have gw : (A ++ ([u] ++ ((W ++ [w] ++ V2) ++ T)))[s - 1]? = some w := get_at (P := A ++ u :: W) (R := V2 ++ T) (by simp) hW
      rcases b3 with b3 | b3
      · simp at hV1; omega
      · unfold sp0 at b3
        rw [gw, ga] at b3
        exact b3
  have q2 : ∀ w ∈ [u], ∀ v ∈ V2, ltC c v w = false := by
    refine cut_ge hS (by simp [Srt]) hv'.2.1 ?_
    cases V2 with
    | nil => exact .inr (.inl rfl)
    | cons y V2 =>
      refine .inr (.inr ⟨[], u, y, V2, rfl, rfl, ?_⟩)
      have gw : (A ++ ([u] ++ ((V1 ++ y :: V2) ++ T)))[s]? = some y := get_at (P := A ++ u :: V1) (R := V2 ++ T) (by simp) (by simp; omega)
      rcases b4 with b4 | b4
      · simp at hbb hV1; omega
      · unfold sp0 at b4
        rw [gw, ga] at b4
        exact b4
  have hmr : mrg (ltC c) [u] (V1 ++ V2) = V1 ++ u :: V2 := by
    have h1 := mrg_split (lt := ltC c) [] V1 [u] V2 q1 (by simp)
    have h2 := mrg_before (lt := ltC c) (U := [u]) (V := V2) q2
    rw [h2] at h1
    simpa using h1
  have h1 := L153_1 (P := P) (cp := cp) hE hb hg (V2 ++ T) u n s hn V1 A (by omega) (by simp at hbb ⊢; omega)
  have w1 : IntKind.i64.wrap ((m : Int) - a) = 1 := by rw [show ((m : Int) - a) = 1 from by omega]; rfl
  have e1 : A ++ u :: (V1 ++ (V2 ++ T)) = A ++ ([u] ++ ((V1 ++ V2) ++ T)) := by simp
  have e2 : A ++ (V1 ++ u :: (V2 ++ T)) = A ++ ((V1 ++ u :: V2) ++ T) := by simp
  rw [e1, e2, ← ha] at h1
  rw [hmr, u153]
  generalize cA enc (A ++ ([u] ++ ((V1 ++ V2) ++ T))) = D at *
  generalize cA enc (A ++ ((V1 ++ u :: V2) ++ T)) = D' at *
  simp [c153, c153_n20, w1, h0, h1]
theorem last168 (hE : CellOk enc) (hS : Swo (ltC c)) (hC : CmpOk P enc f B c) (hb : b < H.length) (hg : g ≠ 0) (A U : List α) (v : α) (T : List α) (n a m bb : Nat) (hn : n < 4611686018427387904) (hu : Srt (ltC c) U) (hU : U.length ≠ 1) (ha : a = A.length) (hm : m = a + U.length) (hbb : bb = m + 1) (hl : n = bb + T.length) :
    sfn P 153 [.slice b g 0 n none cp, .c (ci a), .c (ci m), .c (ci bb), .c (.func f [] B)] (H.set b (.cells g (cA enc (A ++ (U ++ ([v] ++ T)))) 0)) = some (.c (.tuple []), H.set b (.cells g (cA enc (A ++ (mrg (ltC c) U [v] ++ T))) 0)) := by
  have h0 := L153_2 (P := P) (cp := cp) (enc := enc) hC hb hg (A ++ (U ++ ([v] ++ T))) n m (by simp; omega) hn (by omega) (m - a) a m (by omega) (by omega)
  have hspec := bs_spec (sp2 c (A ++ (U ++ ([v] ++ T))) m) a m (m - a) a m (Nat.le_refl _) (by omega) (.inl rfl) (.inl rfl)
  generalize bs (sp2 c (A ++ (U ++ ([v] ++ T))) m) (m - a) a m = s at *
  obtain ⟨b1, b2, b3, b4⟩ := hspec
  obtain ⟨U1, U2, rfl, hU1⟩ := split_at (l := U) (k := s - a) (by omega)
  have hu' := List.pairwise_append.1 hu
  simp only [List.length_append] at hU hm
  have gm : (A ++ ((U1 ++ U2) ++ ([v] ++ T)))[m]? = some v := get_at (P := A ++ (U1 ++ U2)) (R := T) (by simp) (by simp; omega)
  have q1 : ∀ w ∈ [v], ∀ u ∈ U2, ltC c w u = true := by
    refine cut_lt hS (by simp [Srt]) hu'.2.1 ?_
    cases U2 with
    | nil => exact .inr (.inl rfl)
    | cons x U2 =>
      refine .inr (.inr ⟨[], v, x, U2, rfl, rfl, ?_⟩)
      have gw : (A ++ ((U1 ++ x :: U2) ++ ([v] ++ T)))[s]? = some x := get_at (P := A ++ U1) (R := U2 ++ ([v] ++ T)) (by simp) (by simp; omega)
      rcases b4 with b4 | b4
      · simp at hm; omega
      · unfold sp2 at b4
        rw [gw, gm] at b4
        simpa using b4
  have q2 : ∀ u ∈ U1, ∀ w ∈ [v], ltC c w u = false := by
    refine cut_ge hS hu'.1 (by simp [Srt]) ?_
    by_cases z : U1 = []
    · exact .inl z
    · obtain ⟨W, w, rfl⟩ := last_of z
      refine .inr (.inr ⟨W, w, v, [], rfl, rfl, ?_⟩)
      have hW : s - 1 = (A ++ W).length := by simp at hU1 ⊢; omega
      have gw : (A ++ ((W ++ [w] ++ U2) ++ ([v] ++ T)))[s - 1]? = some w := get_at (P := A ++ W) (R := U2 ++ ([v] ++ T)) (by simp) hW
      rcases b3 with b3 | b3
      · simp at hU1; omega
      · unfold sp2 at b3
        rw [gw, gm] at b3
        simpa using b3
  have hmr : mrg (ltC c) (U1 ++ U2) [v] = U1 ++ v :: U2 := by
    have h1 := mrg_split (lt := ltC c) U1 [] U2 [v] (by simp) q2
    have h2 := mrg_behind (lt := ltC c) (U := U2) (V := [v]) q1
    rw [h2] at h1
    simpa using h1
  have h1 := L153_3 (P := P) (cp := cp) hE hb hg (A ++ U1) v n hn U2.reverse T (by simp; omega)
  have w1 : IntKind.i64.wrap ((m : Int) - a) = (m : Int) - a := wrap64 (by omega) (by omega)
  have n1 : ¬ ((m : Int) - a = 1) := by omega
  have w2 : IntKind.i64.wrap ((bb : Int) - m) = 1 := by rw [show ((bb : Int) - m) = 1 from by omega]; rfl
  have e1 : A ++ U1 ++ U2.reverse.reverse ++ v :: T = A ++ ((U1 ++ U2) ++ ([v] ++ T)) := by simp
  have e2 : A ++ U1 ++ v :: (U2.reverse.reverse ++ T) = A ++ ((U1 ++ v :: U2) ++ T) := by simp
  have e3 : (A ++ U1).length = s := by simp; omega
  have e4 : (s : Int) + U2.length = m := by omega
  rw [e1, e2, e3, List.length_reverse, e4] at h1
  rw [hmr, u153]
  generalize cA enc (A ++ ((U1 ++ U2) ++ ([v] ++ T))) = D at *
  generalize cA enc (A ++ ((U1 ++ v :: U2) ++ T)) = D' at *
  simp [c153, c153_n20, c153_n22, w1, w2, n1, h0, h1]
end LM.St9
namespace LM.St9
open Go LM LM.G9
variable {P : Nat → Option SFunc} [Has P]
variable {α : Type} {enc : α → CV} {f : Nat} {B : List CV} {c : α → α → Int} {H : Heap} {b g : Nat} {cp : Option Nat}
theorem ar168 {a m bb mid s e : Nat} (hmid : mid = (a + bb) / 2) (h1 : a + 2 ≤ m) (h2 : m + 2 ≤ bb) (h3 : bb < 4611686018427387904) (h4 : s ≤ mid + m) (he : e = mid + m - s) :
    IntKind.i64.wrap ((m : Int) - a) = (m : Int) - a ∧ ¬ ((m : Int) - a = 1) ∧ IntKind.i64.wrap ((bb : Int) - m) = (bb : Int) - m ∧ ¬ ((bb : Int) - m = 1) ∧ IntKind.u64.wrap ((a : Int) + bb) = (a : Int) + bb ∧ IntKind.i64.wrap (mid : Int) = mid ∧ IntKind.i64.wrap ((a : Int) + bb) = (a : Int) + bb ∧
    IntKind.i64.wrap ((mid : Int) + m) = (mid : Int) + m ∧ IntKind.i64.wrap ((mid : Int) + m - 1) = ((mid + m - 1 : Nat) : Int) ∧ IntKind.i64.wrap ((mid : Int) + m - s) = e ∧ IntKind.i64.wrap ((mid : Int) + m - bb) = (mid : Int) + m - bb := by
  obtain ⟨w3, w4⟩ := half (i := a) (j := bb) (by omega)
  rw [← hmid] at w4
  rw [Int.natCast_add] at w3
  refine ⟨wrap64 (by omega) (by omega), by omega, wrap64 (by omega) (by omega), by omega, w3, w4, wrap64 (by omega) (by omega), wrap64 (by omega) (by omega), ?_, ?_, wrap64 (by omega) (by omega)⟩
  · rw [show (mid : Int) + m - 1 = ((mid + m - 1 : Nat) : Int) from by omega]; exact wrap64 (by omega) (by omega)
  · rw [show (mid : Int) + m - s = e from by omega]; exact wrap64 (by omega) (by omega)
set_option maxHeartbeats 2000000 in
theorem gen168 (hE : CellOk enc) (hS : Swo (ltC c)) (hC : CmpOk P enc f B c) (hb : b < H.length) (hg : g ≠ 0) (k n : Nat) (hn : n < 4611686018427387904) (hM : Merges P enc f B c H b g cp n k) (A U V T : List α) (a m bb : Nat) (hk : U.length + V.length ≤ k + 1) (hu : Srt (ltC c) U) (hv : Srt (ltC c) V) (hU : 2 ≤ U.length) (hV : 2 ≤ V.length) (ha : a = A.length) (hm : m = a + U.length) (hbb : bb = m + V.length) (hl : n = bb + T.length) :
    sfn P 153 [.slice b g 0 n none cp, .c (ci a), .c (ci m), .c (ci bb), .c (.func f [] B)] (H.set b (.cells g (cA enc (A ++ (U ++ (V ++ T)))) 0)) = some (.c (.tuple []), H.set b (.cells g (cA enc (A ++ (mrg (ltC c) U V ++ T))) 0)) := by
  obtain ⟨mid, hmid⟩ : ∃ mid, mid = (a + bb) / 2 := ⟨_, rfl⟩
  obtain ⟨st, hst⟩ : ∃ st, st = if m > mid then mid + m - bb else a := ⟨_, rfl⟩
  obtain ⟨r, hr⟩ : ∃ r, r = if m > mid then mid else m := ⟨_, rfl⟩
  have hb1 : st ≤ r ∧ r ≤ n ∧ r ≤ mid + m - 1 + 1 ∧ mid + m - 1 < n + st ∧ a ≤ st ∧ r ≤ m ∧ r ≤ mid ∧ mid + m ≤ bb + st ∧ m ≤ mid + m - r := by
    rw [hst, hr]; split <;> omega
  have h0 := fun v1 v2 v3 v4 v5 => L153_4 (P := P) (cp := cp) (enc := enc) hC hb hg (A ++ (U ++ (V ++ T))) n (mid + m - 1) v1 v2 v3 v4 v5 (by simp; omega) hn (by omega) (r - st) st r hb1.2.1 hb1.2.2.1 hb1.2.2.2.1 (Nat.le_refl _)
  have hspec := bs_spec (sp4 c (A ++ (U ++ (V ++ T))) (mid + m - 1)) st r (r - st) st r (Nat.le_refl _) hb1.1 (.inl rfl) (.inl rfl)
  generalize bs (sp4 c (A ++ (U ++ (V ++ T))) (mid + m - 1)) (r - st) st r = s at *
  obtain ⟨b1, b2, b3, b4⟩ := hspec
  obtain ⟨e, he⟩ : ∃ e, e = mid + m - s := ⟨_, rfl⟩
  obtain ⟨U1, U2, rfl, hU1⟩ := split_at (l := U) (k := s - a) (by omega)
  obtain ⟨V1, V2, rfl, hV1⟩ := split_at (l := V) (k := e - m) (by omega)
  have hu' := List.pairwise_append.1 hu
  have hv' := List.pairwise_append.1 hv
  simp only [List.length_append] at hU hV hm hbb hk
  have q1 : ∀ v ∈ V1, ∀ u ∈ U2, ltC c v u = true := by
    refine cut_lt hS hv'.1 hu'.2.1 ?_
    cases U2 with
    | nil => exact .inr (.inl rfl)
    | cons x U2 =>
      by_cases z : V1 = []
      · exact .inl z
      · obtain ⟨W, w, rfl⟩ := last_of z
        refine .inr (.inr ⟨W, w, x, U2, rfl, rfl, ?_⟩)
        simp only [List.length_append, List.length_cons, List.length_nil] at hV1 hm hbb
        have g1 : (A ++ ((U1 ++ x :: U2) ++ ((W ++ [w] ++ V2) ++ T)))[s]? = some x := get_at (P := A ++ U1) (R := U2 ++ ((W ++ [w] ++ V2) ++ T)) (by simp) (by simp; omega)
        have g2 : (A ++ ((U1 ++ x :: U2) ++ ((W ++ [w] ++ V2) ++ T)))[mid + m - 1 - s]? = some w := get_at (P := A ++ ((U1 ++ x :: U2) ++ W)) (R := V2 ++ T) (by simp) (by simp; omega)
        rcases b4 with b4 | b4
        · rw [hr] at b4; split at b4 <;> omega
        · unfold sp4 at b4
          rw [g1, g2] at b4
          simpa using b4
  have q2 : ∀ u ∈ U1, ∀ v ∈ V2, ltC c v u = false := by
    refine cut_ge hS hu'.1 hv'.2.1 ?_
    cases V2 with
    | nil => exact .inr (.inl rfl)
    | cons y V2 =>
      by_cases z : U1 = []
      · exact .inl z
      · obtain ⟨W, w, rfl⟩ := last_of z
        refine .inr (.inr ⟨W, w, y, V2, rfl, rfl, ?_⟩)
        simp only [List.length_append, List.length_cons, List.length_nil] at hU1 hm hbb
        have g1 : (A ++ ((W ++ [w] ++ U2) ++ ((V1 ++ y :: V2) ++ T)))[s - 1]? = some w := get_at (P := A ++ W) (R := U2 ++ ((V1 ++ y :: V2) ++ T)) (by simp) (by simp; omega)
        have g2 : (A ++ ((W ++ [w] ++ U2) ++ ((V1 ++ y :: V2) ++ T)))[mid + m - 1 - (s - 1)]? = some y := get_at (P := A ++ ((W ++ [w] ++ U2) ++ V1)) (R := V2 ++ T) (by simp) (by simp; omega)
        rcases b3 with b3 | b3
        · rw [hst] at b3; split at b3 <;> omega
        · unfold sp4 at b3
          rw [g1, g2] at b3
          simpa using b3
  have hmr := mrg_split (lt := ltC c) U1 V1 U2 V2 q1 q2
  have hlen1 := (List.merge_perm_append (xs := U1) (ys := V1) (le := fun u v => !ltC c v u)).length_eq
  have hlen2 := (List.merge_perm_append (xs := U2) (ys := V2) (le := fun u v => !ltC c v u)).length_eq
  have hmm1 : (mrg (ltC c) U1 V1).length = U1.length + V1.length := by rw [← List.length_append]; exact hlen1
  have hR := R168 (P := P) (cp := cp) hE hb hg A U1 U2 V1 V2 T (.func f [] B) n a m bb mid s e hn (by omega) ha (by omega) (by omega) (by omega)
  have hM1 := M168a (P := P) (cp := cp) hM A U1 V1 (U2 ++ (V2 ++ T)) a bb mid s e (by omega) hu'.1 hv'.1 ha (by omega) (by omega) (by simp; omega)
  have hM2 : mid < e ∧ e < bb → sfn P 153 [.slice b g 0 n none cp, .c (ci mid), .c (ci e), .c (ci bb), .c (.func f [] B)] (H.set b (.cells g (cA enc (A ++ mrg (ltC c) U1 V1 ++ (U2 ++ (V2 ++ T)))) 0)) = some (.c (.tuple []), H.set b (.cells g (cA enc (A ++ mrg (ltC c) U1 V1 ++ (mrg (ltC c) U2 V2 ++ T))) 0)) := by
    rintro ⟨i1, i2⟩
    exact hM (A ++ mrg (ltC c) U1 V1) U2 V2 T mid e bb (by omega) (by intro q; rw [q] at hm; simp at hm; omega) (by intro q; rw [q] at hbb; simp at hbb; omega) hu'.2.1 hv'.2.1 (by simp; omega) (by omega) (by omega) hl
  have hM3 : ¬ (mid < e ∧ e < bb) → A ++ mrg (ltC c) U1 V1 ++ (U2 ++ (V2 ++ T)) = A ++ mrg (ltC c) U1 V1 ++ (mrg (ltC c) U2 V2 ++ T) := by
    intro hh
    have : U2.length = 0 ∨ V2.length = 0 := by omega
    rcases this with q | q
    · rw [List.eq_nil_of_length_eq_zero q]; simp
    · rw [List.eq_nil_of_length_eq_zero q]; simp
  have e1 : (A ++ U1) ++ (U2 ++ (V1 ++ (V2 ++ T))) = A ++ ((U1 ++ U2) ++ ((V1 ++ V2) ++ T)) := by simp
  have e2 : (A ++ U1) ++ (V1 ++ (U2 ++ (V2 ++ T))) = A ++ (U1 ++ (V1 ++ (U2 ++ (V2 ++ T)))) := by simp
  have e3 : A ++ mrg (ltC c) U1 V1 ++ (U2 ++ (V2 ++ T)) = A ++ (mrg (ltC c) U1 V1 ++ (U2 ++ (V2 ++ T))) := by simp
  have e4 : A ++ mrg (ltC c) U1 V1 ++ (mrg (ltC c) U2 V2 ++ T) = A ++ ((mrg (ltC c) U1 V1 ++ mrg (ltC c) U2 V2) ++ T) := by simp
  rw [e1, e2] at hR
  rw [e3, e4] at hM2 hM3
  rw [hmr, u153]
  obtain ⟨w1, n1, w2, n2, w3, w4, w5, w6, w7, w8, w9⟩ := ar168 (a := a) (m := m) (bb := bb) (mid := mid) (s := s) (e := e) hmid (by omega) (by omega) (by omega) (by omega) he
  have sh := shr1 a bb
  rw [← hmid] at sh
  have hD34 : ¬ (mid < e ∧ e < bb) → cA enc (A ++ (mrg (ltC c) U1 V1 ++ (U2 ++ (V2 ++ T)))) = cA enc (A ++ ((mrg (ltC c) U1 V1 ++ mrg (ltC c) U2 V2) ++ T)) := fun hh => by rw [hM3 hh]
  clear hM3
  generalize mid + m - 1 = p at *
  generalize cA enc (A ++ ((U1 ++ U2) ++ ((V1 ++ V2) ++ T))) = D1 at *
  generalize cA enc (A ++ (U1 ++ (V1 ++ (U2 ++ (V2 ++ T))))) = D2 at *
  generalize cA enc (A ++ (mrg (ltC c) U1 V1 ++ (U2 ++ (V2 ++ T)))) = D3 at *
  generalize cA enc (A ++ ((mrg (ltC c) U1 V1 ++ mrg (ltC c) U2 V2) ++ T)) = D4 at *
  by_cases hmm : m > mid
  · have c1 : (mid : Int) < m := by omega
    rw [if_pos hmm] at hst hr
    have hst' : (st : Int) = (mid : Int) + m - bb := by omega
    subst hr
    rw [hst'] at h0
    simp [c153, c153_n20, c153_n22, c153_n31, w1, n1, w2, n2, w3, w4, w5, sh, w6, w7, w8, w9, c1, h0, hR, hM1, -c153_n40, -c153_n42]
    split
    · rename_i hh
      simp [frzFuncs_nil, frzFuncs_c, frzFuncs_slice, hM2 hh]
    · rename_i hh
      rw [hD34 hh]
  · have c1 : ¬ (mid : Int) < m := by omega
    rw [if_neg hmm] at hst hr
    subst hst
    subst hr
    simp [c153, c153_n20, c153_n22, c153_n31, w1, n1, w2, n2, w3, w4, w5, sh, w6, w7, w8, w9, c1, h0, hR, hM1, -c153_n40, -c153_n42]
    split
    · rename_i hh
      simp [frzFuncs_nil, frzFuncs_c, frzFuncs_slice, hM2 hh]
    · rename_i hh
      rw [hD34 hh]
theorem S153 (hE : CellOk enc) (hS : Swo (ltC c)) (hC : CmpOk P enc f B c) (hb : b < H.length) (hg : g ≠ 0) (n : Nat) (hn : n < 4611686018427387904) : ∀ k, Merges P enc f B c H b g cp n k := by
  intro k
  induction k with
  | zero =>
    intro A U V T a m bb hk hU
    exact absurd (List.eq_nil_of_length_eq_zero (by omega)) hU
  | succ k ih =>
    intro A U V T a m bb hk hU hV hu hv ha hm hbb hl
    have z1 : U.length ≠ 0 := fun q => hU (List.eq_nil_of_length_eq_zero q)
    have z2 : V.length ≠ 0 := fun q => hV (List.eq_nil_of_length_eq_zero q)
    by_cases h1 : U.length = 1
    · obtain ⟨u, rfl⟩ := List.length_eq_one_iff.1 h1
      exact one168 hE hS hC hb hg A u V T n a m bb hn hv ha (by simpa using hm) hbb hl
    · by_cases h2 : V.length = 1
      · obtain ⟨v, rfl⟩ := List.length_eq_one_iff.1 h2
        exact last168 hE hS hC hb hg A U v T n a m bb hn hu h1 ha hm (by simpa using hbb) hl
      · exact gen168 hE hS hC hb hg k n hn ih A U V T a m bb hk hu hv (by omega) (by omega) ha hm hbb hl
end LM.St9
namespace LM.St9
open Go LM LM.G9
variable {P : Nat → Option SFunc} [Has P]
variable {α : Type} {enc : α → CV} {f : Nat} {B : List CV} {c : α → α → Int} {H : Heap} {b g : Nat} {cp : Option Nat}
theorem S136 (hE : CellOk enc) (hS : Swo (ltC c)) (hC : CmpOk P enc f B c) (hb : b < H.length) (hg : g ≠ 0) (xs : List α) (n : Nat) (hn : n < 40) (h : n = xs.length) :
    sfn P 136 [.slice b g 0 n none cp, .c (ci n), .c (.func f [] B)] (H.set b (.cells g (cA enc xs) 0)) = some (.c (.tuple []), H.set b (.cells g (cA enc (sortI (ltC c) [] xs)) 0)) := by
  by_cases h20 : n < 20
  · have hs := S152 (P := P) (cp := cp) hE hC hb hg [] xs [] n (by omega) (by simpa using h)
    have h1 : ¬ (20 : Int) ≤ n := by omega
    have h2 : ¬ (20 : Int) < n := by omega
    have l0 : ∀ E, execS P (limS P) c136_l0 ⟨[.slice b g 0 n none cp, .c (ci n), .c (.func f [] B), .c (ci 20), .c (ci 0), .c (ci 20)], E⟩ = some (.exit 0, ⟨[.slice b g 0 n none cp, .c (ci n), .c (.func f [] B), .c (ci 20), .c (ci 0)], E⟩) := by
      intro E
      rw [r136_l0]
      simp [c136_l0b, h1]
    have l2 : ∀ E, execS P (limS P) c136_l2 ⟨[.slice b g 0 n none cp, .c (ci n), .c (.func f [] B), .c (ci 20)], E⟩ = some (.exit 2, ⟨[], E⟩) := by
      intro E
      rw [r136_l2]
      simp [c136_l2b, h2]
    simp [← h] at hs
    rw [u136]
    simp [c136, l0, l2, hs, hb, take_set, frzFuncs_nil, frzFuncs_c, frzFuncs_slice]
  · obtain ⟨U, V, rfl, hU⟩ := split_at (l := xs) (k := 20) (by omega)
    simp only [List.length_append] at h
    have s1 := S152 (P := P) (cp := cp) hE hC hb hg [] U V n (by omega) (by simp; omega)
    have s2 := S152 (P := P) (cp := cp) hE hC hb hg (sortI (ltC c) [] U) V [] n (by omega) (by simp [sortI_length]; omega)
    have z1 : sortI (ltC c) [] U ≠ [] := fun q => by have := sortI_length (lt := ltC c) [] U; rw [q] at this; simp at this; omega
    have hmr := sortI_mrg hS U V
    have hsl := sortI_length (lt := ltC c) [] V
    have hsu := sortI_length (lt := ltC c) [] U
    have hM := fun z2 => S153 (P := P) (cp := cp) hE hS hC hb hg n (by omega) (20 + V.length) [] (sortI (ltC c) [] U) (sortI (ltC c) [] V) [] 0 20 n (by simp at hsl hsu; omega) z1 z2 (sortI_srt hS [] U (by simp [Srt])) (sortI_srt hS [] V (by simp [Srt])) rfl (by simp at hsu; omega) (by simp at hsl; omega) (by simp)
    rw [hmr] at hM
    simp only [hsu, List.length_nil, Nat.zero_add, hU] at s2
    have h1 : (20 : Int) ≤ n := by omega
    have h3 : ¬ (40 : Int) ≤ n := by omega
    have e1 : (20 : Int) + V.length = n := by omega
    have l0b : ∀ E, execS P (limS P) c136_l0 ⟨[.slice b g 0 n none cp, .c (ci n), .c (.func f [] B), .c (ci 20), .c (ci 20), .c (ci 40)], E⟩ = some (.exit 0, ⟨[.slice b g 0 n none cp, .c (ci n), .c (.func f [] B), .c (ci 20), .c (ci 20)], E⟩) := by
      intro E
      rw [r136_l0]
      simp [c136_l0b, h3]
    have w40 : IntKind.i64.wrap 40 = 40 := rfl
    simp [hU] at s1
    have e2 : (((20 : Nat) : Int)) = 20 := rfl
    rw [e2, e1] at s2
    simp at s2
    have l0 : execS P (limS P) c136_l0 ⟨[.slice b g 0 n none cp, .c (ci n), .c (.func f [] B), .c (ci 20), .c (ci 0), .c (ci 20)], H.set b (.cells g (cA enc (U ++ V)) 0)⟩ = some (.exit 0, ⟨[.slice b g 0 n none cp, .c (ci n), .c (.func f [] B), .c (ci 20), .c (ci 20)], H.set b (.cells g (cA enc (sortI (ltC c) [] U ++ V)) 0)⟩) := by
      rw [r136_l0]
      simp [c136_l0b, h1, s1, w40, l0b, hb, take_set, frzFuncs_nil, frzFuncs_c, frzFuncs_slice]
    by_cases h4 : n = 20
    · have hV : V = [] := List.eq_nil_of_length_eq_zero (by omega)
      subst hV
      have h2 : ¬ (20 : Int) < n := by omega
      have l2 : ∀ E, execS P (limS P) c136_l2 ⟨[.slice b g 0 n none cp, .c (ci n), .c (.func f [] B), .c (ci 20)], E⟩ = some (.exit 2, ⟨[], E⟩) := by
        intro E
        rw [r136_l2]
        simp [c136_l2b, h2]
      simp [sortI] at s2 l0
      rw [u136]
      simp [c136, l0, l2, s2, hb, take_set, frzFuncs_nil, frzFuncs_c, frzFuncs_slice]
    · have z2 : sortI (ltC c) [] V ≠ [] := fun q => by rw [q] at hsl; simp at hsl; omega
      have hM := hM z2
      have h2 : (20 : Int) < n := by omega
      have h5 : ¬ (40 : Int) < n := by omega
      have l1 : ∀ E, execS P (limS P) c136_l1 ⟨[.slice b g 0 n none cp, .c (ci n), .c (.func f [] B), .c (ci 20), .c (ci 0), .c (ci 40)], E⟩ = some (.exit 4, ⟨[.slice b g 0 n none cp, .c (ci n), .c (.func f [] B), .c (ci 20), .c (ci 0)], E⟩) := by
        intro E
        rw [r136_l1]
        simp [c136_l1b, h3]
      have l2b : ∀ E, execS P (limS P) c136_l2 ⟨[.slice b g 0 n none cp, .c (ci n), .c (.func f [] B), .c (ci 40)], E⟩ = some (.exit 2, ⟨[], E⟩) := by
        intro E
        rw [r136_l2]
        simp [c136_l2b, h5]
      simp at hM
      have l2 : execS P (limS P) c136_l2 ⟨[.slice b g 0 n none cp, .c (ci n), .c (.func f [] B), .c (ci 20)], H.set b (.cells g (cA enc (sortI (ltC c) [] U ++ sortI (ltC c) [] V)) 0)⟩ = some (.exit 2, ⟨[], H.set b (.cells g (cA enc (sortI (ltC c) [] (U ++ V))) 0)⟩) := by
        have w20 : IntKind.i64.wrap 20 = 20 := rfl
        rw [r136_l2]
        simp [c136_l2b, h2, l1, w40, w20, hM, l2b, hb, take_set, frzFuncs_nil, frzFuncs_c, frzFuncs_slice]
      rw [u136]
      simp [c136, l0, l2, s2, hb, take_set, frzFuncs_nil, frzFuncs_c, frzFuncs_slice]
theorem S93 (hE : CellOk enc) (hS : Swo (ltC c)) (hC : CmpOk P enc f B c) (hb : b < H.length) (hg : g ≠ 0) (xs : List α) (n : Nat) (hn : n < 40) (h : n = xs.length) :
    sfn P 93 [.slice b g 0 n none cp, .c (.func f [] B)] (H.set b (.cells g (cA enc xs) 0)) = some (.c (.tuple []), H.set b (.cells g (cA enc (sortI (ltC c) [] xs)) 0)) := by
  have hs := S136 (P := P) (cp := cp) hE hS hC hb hg xs n hn h
  rw [u93]
  simp [c93, hs, hb, take_set, frzFuncs_nil, frzFuncs_c, frzFuncs_slice]
end LM.St9
namespace LM.G9
open Go LM
variable {P : Nat → Option SFunc} [Has P]
theorem firstE_zK (e : Int) (r : List Int) : firstE (e :: r) = 0 ↔ e = 0 ∧ firstE r = 0 := by
  rw [firstE]
  by_cases h : e = 0 <;> simp [h]
theorem dated_zK (d : Int) : dated d = 0 ↔ 0 ≤ d ∧ d ≤ 99999 := by
  unfold dated whenE outside
  by_cases h1 : d < 0 <;> by_cases h2 : d > 99999 <;> simp [h1, h2] <;> omega
def PkB (p : Pck) : LB := .cells 0 [.c (ci p.count), .c (ci p.spare), .c (ci p.key)] 0
def MpB (M : Mp) (z : Nat) : LB := .cells 0 [.c (mEnc M)] z
def HP (p : Pck) (D : List Int) (M : Mp) (z : Nat) (ys : List Str) : Heap := [PkB p, .cells 1 [] 0, .dead, .cells 1 [] 0, .cells 1 (cI D) 0, MpB M z, .cells 0 [.func 92 [] [.ptr 5 0 0]] 0, .cells (1 + ys.length) (cS ys) 0]
def nm (c : List Str) (k : Int) : Str := c.getD k.toNat []
theorem cS_under (n : Nat) (ys : List Str) : underL n (cS ys) = true := by rw [← cellsOf_strs]; exact underL_cellsOf _ _
theorem frzArgs_ptr (b g o : Nat) (l : List LV) (h : Heap) : frzArgs false (.ptr b g o :: l) h = bnd (frz frzDepth (.ptr b g o) h) fun y => bnd (frzArgs false l y.2) fun z => some (y.1 :: z.1, z.2) := frzArgs_cons _ _ _
theorem L33 (c : List Str) (hc : c.length < 40) (M : Mp) (p : Pck) (day : Int) (h0 : 0 ≤ p.spare) (h1 : p.spare ≤ 99999) (h2 : 0 ≤ day) (h3 : day ≤ 99999) : ∀ (r pre : List Int) (ys : List Str), (∀ k ∈ pre ++ r, 0 ≤ k ∧ k < c.length) → (pre ++ r).length = c.length → ys.length ≤ pre.length →
    execS P (limS P) c33_l0 ⟨[.c (.slice (c.map CV.str)), .c (ci day), .ptr 0 0 0, .ptr 6 0 0, .slice 7 (1 + ys.length) 0 ys.length none none, .slice 4 1 0 c.length none (some c.length), .c (ci c.length), .c (ci pre.length)], HP p (pre ++ r) M 0 ys⟩ =
      some (.exit 0, ⟨[.ptr 0 0 0, .ptr 6 0 0, .slice 7 (1 + (ys ++ (r.map (nm c)).filter (unspared M p.spare day)).length) 0 (ys ++ (r.map (nm c)).filter (unspared M p.spare day)).length none none], HP p (pre ++ r) M 0 (ys ++ (r.map (nm c)).filter (unspared M p.spare day))⟩) := by
  intro r
  induction r with
  | nil =>
    intro pre ys hk hn hy
    have hn : pre.length = c.length := by simpa using hn
    rw [r33_l0]
    simp [c33_l0b, hn]
  | cons k r ih =>
    intro pre ys hk hn hy
    have hk0 := hk k (by simp)
    have hpl : pre.length < c.length := by rw [← hn]; simp
    have hw : IntKind.i64.wrap (↑pre.length + 1) = ↑pre.length + 1 := wrap64 (by omega) (by omega)
    have hw2 : IntKind.i64.wrap (day - p.spare) = day - p.spare := wrap64 (by omega) (by omega)
    have hlt : (pre.length : Int) < c.length := by omega
    have g1 : (cI (pre ++ k :: r))[pre.length]? = some (.c (ci k)) := by unfold cI; simp
    have hkn : k.toNat < c.length := by omega
    have g2 : c[k.toNat] = nm c k := by simp [nm, hkn, List.getD_eq_getElem?_getD]
    have e92 := S92 (P := P) M (nm c k)
    simp only [mEnc] at e92
    have hf : ((k :: r).map (nm c)).filter (unspared M p.spare day) = if unspared M p.spare day (nm c k) then nm c k :: (r.map (nm c)).filter (unspared M p.spare day) else (r.map (nm c)).filter (unspared M p.spare day) := by rw [List.map_cons, List.filter_cons]
    have hu : unspared M p.spare day (nm c k) = (decide (mLast M (nm c k) < 0) || decide (mLast M (nm c k) < day - p.spare)) := rfl
    have ha := append_own (b := 7) (g := 1 + ys.length) (bytes := 16) (e := none) (ys := ys.map CV.str) (xs := [.str (nm c k)]) (h := [PkB p, .cells 1 [] 0, .dead, .cells 1 [] 0, .cells 1 (cI (pre ++ k :: r)) 0, MpB M 0, .cells 0 [.func 92 [] [.ptr 5 0 0]] 0, .cells (1 + ys.length) (cellsOf (ys.map CV.str)) 0]) (len := ys.length) (fz := 0) rfl (strElems _) (by simpa using strElem (nm c k)) (by simp) (Nat.zero_le _) (by simp) (by simp; omega) (by simp; omega)
    rw [cellsOf_strs] at ha
    have e1 : ys.map CV.str ++ [CV.str (nm c k)] = (ys ++ [nm c k]).map CV.str := by simp
    rw [e1, cellsOf_strs] at ha
    simp [PkB, MpB, mEnc] at ha
    have ihA := ih (pre ++ [k]) (ys ++ [nm c k]) (by simpa using hk) (by simpa using hn) (by simp; omega)
    have ihB := ih (pre ++ [k]) ys (by simpa using hk) (by simpa using hn) (by simp; omega)
    have e2 : 1 + (ys.length + 1) = 1 + ys.length + 1 := by omega
    rw [hf, hu, r33_l0]
    by_cases q1 : mLast M (nm c k) < 0
    · simp [HP, PkB, MpB, mEnc, e2, q1] at ihA ⊢
      simp [c33_l0b, hw, hw2, hlt, hpl, hk0, g1, g2, hkn, under_cI, cS_under, frzArgs_ptr, e92, q1, ha, ihA]
    · by_cases q2 : mLast M (nm c k) < day - p.spare
      · simp [HP, PkB, MpB, mEnc, e2, q1, q2] at ihA ⊢
        simp [c33_l0b, hw, hw2, hlt, hpl, hk0, g1, g2, hkn, under_cI, cS_under, frzArgs_ptr, e92, q1, q2, ha, ihA]
      · simp [HP, PkB, MpB, mEnc, q1, q2] at ihB ⊢
        simp [c33_l0b, hw, hw2, hlt, hpl, hk0, g1, g2, hkn, under_cI, cS_under, frzArgs_ptr, e92, q1, q2, ihB]
def poolE (c : List Str) (l : List Tst) (p : Pck) (day : Int) : Int := firstE [onceL 160 c, checkTsts l, pickE p, dated day]
theorem frz_38_func (f : Nat) (a b : List LV) (h : Heap) : frz 38 (.func f a b) h = bnd (mapH (frz 37) a h) fun x => bnd (mapH (frz 37) b x.2) fun y => some (.func f x.1 y.1, y.2) := by
  rw [frz]
  rcases mapH (frz 37) a h with _ | ⟨x, h1⟩
  · rfl
  · simp only [bnd]
    rcases mapH (frz 37) b h1 with _ | ⟨y, h2⟩ <;> rfl
theorem frz_37_ptr (b g off : Nat) (h : Heap) : frz 37 (.ptr b g off) h = match h[b]? with
    | some (.cells g' cs _) => if g = g' then bnd (mapH (frz 36) cs (bump b cs.length h)) fun a => some (.ptr a.1 off, a.2) else none
    | _ => none := frz_succ_ptr 36 b g off h
theorem poolL_eq {c : List Str} {l : List Tst} {p : Pck} {day : Int} (hx : ∀ x ∈ l, 0 ≤ x.day) (h0 : 0 ≤ p.spare) :
    sortI (mLast (testedM l day)) [] (((drawL p.key c.length).map (nm c)).filter (unspared (testedM l day) p.spare day)) = poolA c l p.key p.spare day := by
  unfold poolA
  have e1 : mLast (testedM l day) = fun s => lastT l s 0 day := funext fun s => mLast_lastT hx day s
  have e2 : ((drawL p.key c.length).map (nm c)).filter (unspared (testedM l day) p.spare day) = lateL (ordL c p.key) l p.spare day := by
    unfold lateL ordL
    refine List.filter_congr fun s _ => ?_
    unfold unspared
    rw [mLast_lastT hx day s, ← Bool.decide_or]
    exact decide_eq_decide.2 (last_spared hx h0).symm
  rw [e1, e2]
theorem checkTsts_days {l : List Tst} (h : checkTsts l = 0) : ∀ x ∈ l, 0 ≤ x.day := by
  unfold checkTsts at h
  split at h
  · cases h
  · have key : ∀ (l pre : List Tst), eachE (fun _ => checkTst) pre l = 0 → ∀ x ∈ l, 0 ≤ x.day := by
      intro l
      induction l with
      | nil => simp
      | cons a r ih =>
        intro pre h x hx
        rw [eachE] at h
        split at h
        · rename_i q; exact absurd h q
        · rename_i q
          rcases List.mem_cons.1 hx with rfl | hx
          · have q : checkTst x = 0 := by simpa using q
            unfold checkTst at q
            simp only [firstE_zK, dated_zK] at q
            exact q.2.1.1
          · exact ih _ h x hx
    exact key l [] h
theorem pickE_zero {p : Pck} (h : pickE p = 0) : 0 ≤ p.count ∧ p.count ≤ 160 ∧ 0 ≤ p.spare ∧ p.spare ≤ 99999 ∧ 1 ≤ p.key ∧ p.key ≤ 2147483646 := by
  unfold pickE outside drawE at h
  by_cases h1 : p.count < 0 <;> by_cases h2 : p.count > 160 <;> by_cases h3 : p.spare < 0 <;> by_cases h4 : p.spare > 99999 <;> by_cases h5 : p.key < 1 <;> by_cases h6 : p.key > 2147483646 <;> simp [h1, h2, h3, h4, h5, h6] at h <;> omega
theorem cS_take (ys : List Str) (m : Nat) : (cS ys).take m = cS (ys.take m) := by simp [cS, List.map_take]
/-- A result of the beginning of a slice of the function's own and a number. -/
theorem resV_pre {b g fz : Nat} {ys : List Str} {h : Heap} {m : Nat} (hb : h[b]? = some (.cells g (cS ys) fz)) (hm : m ≤ ys.length) (cap : Option Nat) (v : CV) :
    resV (some (mkTuple [.slice b g 0 m none cap, .c v])) h = some (.tuple [.slice ((ys.take m).map CV.str), v]) := by
  have h1 : mkTuple [.slice b g 0 m none cap, .c v] = .tuple [.slice b g 0 m none cap, .c v] := rfl
  have hf : frz 39 (.slice b g 0 m none cap) h = some (.slice ((ys.take m).map CV.str), bump b (m * szOf none) h) := by
    have hl : m = ((ys.take m).map CV.str).length := by simp; omega
    have h2 := chunk_cellsOf (strElems (ys.take m))
    have h3 := cellsOf_length (strElems (ys.take m))
    rw [frz_39_slice, hb]
    simp only [Nat.zero_add, List.drop_zero]
    have hz : szOf none = 1 := rfl
    rw [hz, if_pos ⟨trivial, by rw [cS_length]; omega⟩, Nat.mul_one, cS_take, ← cellsOf_strs]
    unfold cellsOf
    rw [mapH_map_c 37]
    rw [← hl] at h2
    simp only [bnd_some, h2]
  unfold resV
  rw [bnd_some, h1, frz_tuple]
  simp only [mapH_cons, hf, bnd_some, mapH_nil]
  rfl
theorem insL_eqK (key : Str → Int) (x : Str) (lt : Str → Str → Bool) (hlt : ∀ a b, lt a b = decide (key a < key b)) : ∀ L Q : List Str, LM.insL lt x L Q = insL key x L Q
  | [], Q => rfl
  | y :: L, Q => by
    rw [LM.insL, insL, insL_eqK key x lt hlt L, hlt]
    by_cases h : key x < key y <;> simp [h]
theorem sortI_eqK (key : Str → Int) (lt : Str → Str → Bool) (hlt : ∀ a b, lt a b = decide (key a < key b)) : ∀ (U S : List Str), LM.sortI lt S U = sortI key S U
  | [], S => rfl
  | x :: U, S => by
    rw [LM.sortI, sortI, sortI_eqK key lt hlt U]
    congr 1
    exact insL_eqK key x lt hlt _ _
theorem cmpI_negK (a b : Int) : cmpI a b < 0 ↔ a < b := by unfold cmpI; (repeat' split) <;> omega
theorem cmp94 (M : Mp) : St9.CmpOk P CV.str 94 [.ptr [lastC M] 0] fun a b => cmpI (mLast M a) (mLast M b) := by
  intro pos q x y h
  have e := S94 (P := P) M x y
  simp [e]
theorem S93g (M : Mp) {H : Heap} {b g : Nat} (hb : b < H.length) (hg : g ≠ 0) (xs : List Str) (n : Nat) (hn : n < 40) (h : n = xs.length) :
    sfn P 93 [.slice b g 0 n none none, .c (cmpC (lastC M))] (H.set b (.cells g (cS xs) 0)) = some (.c (.tuple []), H.set b (.cells g (cS (sortI (mLast M) [] xs)) 0)) := by
  have hlt : ∀ a b, St9.ltC (fun a b => cmpI (mLast M a) (mLast M b)) a b = decide (mLast M a < mLast M b) := by
    intro a b
    unfold St9.ltC
    exact decide_eq_decide.2 (cmpI_negK _ _)
  have := St9.S93 (P := P) (enc := CV.str) (cp := none) (fun _ => ⟨rfl, rfl⟩) ⟨fun x y h => by rw [hlt] at h ⊢; simp at h ⊢; omega, fun x y z h => by rw [hlt] at h; rw [hlt, hlt]; simp at h ⊢; omega⟩ (cmp94 M) hb hg xs n hn h
  rw [sortI_eqK (mLast M) _ hlt] at this
  exact this
theorem S33 (c : List Str) (l : List Tst) (p : Pck) (day : Int) (hc : c.length < 40) (hcl : ∀ x ∈ c, x.length < 9223372036854775807) (hl : (l.length : Int) < 9223372036854775807) (hlo : ∀ x ∈ l, x.ok) (hE : poolE c l p day = 0) :
    fn P 33 [.slice (c.map CV.str), .slice (l.map Tst.enc), p.enc, ci day] = some (.tuple [.slice (((poolA c l p.key p.spare day).take p.count.toNat).map CV.str), ci 0]) := by
  have h := hE
  unfold poolE at h
  simp only [firstE_zK, dated_zK] at h
  obtain ⟨h1, h2, h3, h4, _⟩ := h
  have hday : dated day = 0 := by rw [dated_zK]; exact h4
  have e88 := S88 (P := P) c hcl (by omega)
  have e30 := S30 (P := P) l hlo hl
  have e89 := S89 (P := P) p
  obtain ⟨p1, p2, p3, p4, p5, p6⟩ := pickE_zero h3
  have hd : drawE p.key c.length = 0 := by unfold drawE; rw [if_neg (by omega)]
  have hx := checkTsts_days h2
  have hL := L33 (P := P) c hc (testedM l day) p day p3 p4 h4.1 h4.2 (drawL p.key c.length) [] [] (by simpa using drawL_range p5 p6) (by simp [drawL_length]) (by simp)
  have hp := poolL_eq (c := c) hx p3 (day := day)
  have hys : (((drawL p.key c.length).map (nm c)).filter (unspared (testedM l day) p.spare day)).length ≤ c.length := by
    refine Nat.le_trans (List.length_filter_le ..) ?_
    simp [drawL_length]
  generalize ((drawL p.key c.length).map (nm c)).filter (unspared (testedM l day) p.spare day) = ys at hL hp hys
  have hs := S93g (P := P) (testedM l day) (H := [PkB p, .cells 1 [] 0, .dead, .cells 1 [] 0, .cells 1 (cI (drawL p.key c.length)) 0, MpB (testedM l day) 1, .cells 0 [.func 92 [] [.ptr 5 0 0]] 1, .dead]) (b := 7) (g := 1 + ys.length) (by simp) (by omega) ys ys.length (by omega) rfl
  have e0 : cS [] = [] := rfl
  simp [HP, PkB, MpB, mEnc, cmpC, lastC, e0] at hL hs
  rw [hp] at hs
  have e90 := S90 (P := P) p.key c.length hd
  have e91 := S91 (P := P) l day hl
  rw [h1] at e88
  rw [h2] at e30
  rw [h3] at e89
  simp only [mEnc] at e91
  simp [Pck.enc] at e89
  have hlen : (poolA c l p.key p.spare day).length = ys.length := by rw [← hp, sortI_length]; simp
  have hf : ∀ m, m ≤ ys.length → resV (some (mkTuple [.slice 7 (1 + ys.length) 0 m none none, .c (ci 0)])) [.cells 0 [.c (ci p.count), .c (ci p.spare), .c (ci p.key)] 0, .cells 1 [] 0, .dead, .cells 1 [] 0, .cells 1 (cI (drawL p.key c.length)) 0, .cells 0 [.c (.map (mKs (testedM l day)) (mVs (testedM l day)))] 1, .cells 0 [.func 92 [] [.ptr 5 0 0]] 1, .cells (1 + ys.length) (cS (poolA c l p.key p.spare day)) 0] = some (.tuple [.slice (((poolA c l p.key p.spare day).take m).map CV.str), ci 0]) :=
    fun m hm => resV_pre (b := 7) (g := 1 + ys.length) (fz := 0) rfl (by omega) none (ci 0)
  rw [u33]
  by_cases hq : (ys.length : Int) < p.count
  · have hf := hf ys.length (Nat.le_refl _)
    have e1 : (poolA c l p.key p.spare day).take ys.length = (poolA c l p.key p.spare day).take p.count.toNat := by
      rw [List.take_of_length_le (by omega), List.take_of_length_le (by omega)]
    rw [e1] at hf
    simp at hf
    simp [c33, Pck.enc, e88, e30, e89, hday, firstE, e90, e91, LV.shift, shiftL, shiftB, LB.shift, shift_cI, hL, frzFuncs_nil, frzFuncs_c, frzFuncs_slice, frzFuncs_func, frz_func, frz_38_func, frz_37_ptr, hs, foldInt, hq, hf]
  · have hq2 : p.count ≤ ys.length := by omega
    have hf := hf p.count.toNat (by omega)
    simp at hf
    simp [c33, Pck.enc, e88, e30, e89, hday, firstE, e90, e91, LV.shift, shiftL, shiftB, LB.shift, shift_cI, hL, frzFuncs_nil, frzFuncs_c, frzFuncs_slice, frzFuncs_func, frz_func, frz_38_func, frz_37_ptr, hs, foldInt, hq, hq2, p1, hf]
theorem S33e (c : List Str) (l : List Tst) (p : Pck) (day : Int) (hcl : ∀ x ∈ c, x.length < 9223372036854775807) (hc : (c.length : Int) < 9223372036854775807) (hl : (l.length : Int) < 9223372036854775807) (hlo : ∀ x ∈ l, x.ok) (hE : poolE c l p day ≠ 0) :
    fn P 33 [.slice (c.map CV.str), .slice (l.map Tst.enc), p.enc, ci day] = some (.tuple [.slice [], ci (poolE c l p day)]) := by
  have e88 := S88 (P := P) c hcl hc
  have e30 := S30 (P := P) l hlo hl
  have e89 := S89 (P := P) p
  unfold poolE at *
  generalize onceL 160 c = a1 at *
  generalize checkTsts l = a2 at *
  generalize pickE p = a3 at *
  simp [Pck.enc] at e89
  rw [u33]
  simp [c33, Pck.enc, e88, e30, e89, hE]
end LM.G9
namespace LM.G9
open Go LM
variable {P : Nat → Option SFunc} [Has P]
theorem L34 (M : Mp) (hM : ∀ k v, mGet k M = some v → 0 ≤ v) (days day : Int) (h0 : 0 ≤ days) (h1 : days ≤ 99999) (h2 : 0 ≤ day) (h3 : day ≤ 99999) : ∀ (c pre : List Str) (ys : List Str), ((pre ++ c).length : Int) < 9223372036854775807 → (ys.length + c.length) * 16 ≤ 2 ^ 47 →
    execS P (limS P) c34_l0 ⟨[.c (ci days), .c (ci day), .c (mEnc M), .slice 1 (1 + ys.length) 0 ys.length none none, .c (.slice ((pre ++ c).map CV.str)), .c (ci (pre ++ c).length), .c (ci pre.length)], [.cells 1 [] 0, .cells (1 + ys.length) (cS ys) 0]⟩ =
      some (.exit 0, ⟨[.slice 1 (1 + (ys ++ c.filter (unspared M days day)).length) 0 (ys ++ c.filter (unspared M days day)).length none none], [.cells 1 [] 0, .cells (1 + (ys ++ c.filter (unspared M days day)).length) (cS (ys ++ c.filter (unspared M days day))) 0]⟩) := by
  intro c
  induction c with
  | nil =>
    intro pre ys h _
    rw [r34_l0]
    simp [c34_l0b]
  | cons x r ih =>
    intro pre ys h hy
    have hw : IntKind.i64.wrap (↑pre.length + 1) = ↑pre.length + 1 := wrap64 (by simp at h; omega) (by simp at h; omega)
    have hw2 : IntKind.i64.wrap (day - days) = day - days := wrap64 (by omega) (by omega)
    have hlt : (pre.length : Int) < pre.length + (r.length + 1) := by omega
    have hk : keyOk (.one 1) (CV.str x) = true := rfl
    have hf := findK_mp x M
    have hu : unspared M days day x = (decide (mLast M x < 0) || decide (mLast M x < day - days)) := rfl
    have e : (x :: r).filter (unspared M days day) = if unspared M days day x then x :: r.filter (unspared M days day) else r.filter (unspared M days day) := by rw [List.filter_cons]
    have ihA := ih (pre ++ [x]) (ys ++ [x]) (by simpa using h) (by simp at hy ⊢; omega)
    have ihB := ih (pre ++ [x]) ys (by simpa using h) (by simp at hy ⊢; omega)
    have ha := append_own (b := 1) (g := 1 + ys.length) (bytes := 16) (e := none) (ys := ys.map CV.str) (xs := [.str x]) (h := [.cells 1 [] 0, .cells (1 + ys.length) (cellsOf (ys.map CV.str)) 0]) (len := ys.length) (fz := 0) rfl (strElems _) (by simpa using strElem x) (by simp) (Nat.zero_le _) (by simp) (by simp at hy ⊢; omega) (by simp at hy ⊢; omega)
    rw [cellsOf_strs] at ha
    have e1 : ys.map CV.str ++ [CV.str x] = (ys ++ [x]).map CV.str := by simp
    rw [e1, cellsOf_strs] at ha
    have e2 : 1 + (ys.length + 1) = 1 + ys.length + 1 := by omega
    rw [e, hu, r34_l0]
    simp [e2, mEnc] at ihA ihB ha
    unfold mLast
    cases hi : mIdx x M with
    | none =>
      rw [hi] at hf
      rw [mIdx_none hi]
      simp [c34_l0b, hw, hw2, hlt, mEnc, hk, hf, ha, ihA]
    | some i =>
      rw [hi] at hf
      obtain ⟨v, hv, hg⟩ := mIdx_some hi
      have hv2 : (mVs M)[i]? = some (ci v) := by simp [mVs, hv]
      have hv0 : ¬ v < 0 := by have := hM x v hg; omega
      rw [hg]
      by_cases q : v < day - days
      · simp [c34_l0b, hw, hw2, hlt, mEnc, hk, hf, hv2, hv0, q, ha, ihA]
      · simp [c34_l0b, hw, hw2, hlt, mEnc, hk, hf, hv2, hv0, q, ihB]
def lateE (c : List Str) (l : List Tst) (days day : Int) : Int := firstE [onceL 160 c, checkTsts l, dated days, dated day]
theorem S34 (c : List Str) (l : List Tst) (days day : Int) (hc : c.length * 16 ≤ 2 ^ 47) (hcl : ∀ x ∈ c, x.length < 9223372036854775807) (hl : (l.length : Int) < 9223372036854775807) (hlo : ∀ x ∈ l, x.ok) (hE : lateE c l days day = 0) :
    fn P 34 [.slice (c.map CV.str), .slice (l.map Tst.enc), ci days, ci day] = some (.tuple [.slice ((lateL c l days day).map CV.str), ci 0]) := by
  have h := hE
  unfold lateE at h
  simp only [firstE_zK, dated_zK] at h
  obtain ⟨h1, h2, h3, h4, _⟩ := h
  have hday : dated day = 0 := by rw [dated_zK]; exact h4
  have hdays : dated days = 0 := by rw [dated_zK]; exact h3
  have e88 := S88 (P := P) c hcl (by omega)
  have e30 := S30 (P := P) l hlo hl
  have e91 := S91 (P := P) l day hl
  have hx := checkTsts_days h2
  rw [h1] at e88
  rw [h2] at e30
  simp only [mEnc] at e91
  have hM : ∀ k v, mGet k (testedM l day) = some v → 0 ≤ v := by
    intro k v hkv
    rcases tested_last l k day hx with ⟨q, _⟩ | ⟨q, q2⟩
    · rw [q] at hkv; cases hkv
    · rw [q] at hkv; cases hkv; exact q2
  have hL := L34 (P := P) (testedM l day) hM days day h3.1 h3.2 h4.1 h4.2 c [] [] (by simp; omega) (by simpa using hc)
  have hfl : c.filter (unspared (testedM l day) days day) = lateL c l days day := by
    unfold lateL
    refine List.filter_congr fun s _ => ?_
    unfold unspared
    rw [mLast_lastT hx day s, ← Bool.decide_or]
    exact decide_eq_decide.2 (last_spared hx h3.1).symm
  have e0 : cS [] = [] := rfl
  simp [hfl, e0, mEnc] at hL
  have hr := resV_pre (b := 1) (g := 1 + (lateL c l days day).length) (fz := 0) (ys := lateL c l days day) (h := [.cells 1 [] 0, .cells (1 + (lateL c l days day).length) (cS (lateL c l days day)) 0]) (m := (lateL c l days day).length) rfl (Nat.le_refl _) none (ci 0)
  simp at hr
  rw [u34]
  simp [c34, e88, e30, hday, hdays, firstE, e91, hL, hr]
theorem S34e (c : List Str) (l : List Tst) (days day : Int) (hcl : ∀ x ∈ c, x.length < 9223372036854775807) (hc : (c.length : Int) < 9223372036854775807) (hl : (l.length : Int) < 9223372036854775807) (hlo : ∀ x ∈ l, x.ok) (hE : lateE c l days day ≠ 0) :
    fn P 34 [.slice (c.map CV.str), .slice (l.map Tst.enc), ci days, ci day] = some (.tuple [.slice [], ci (lateE c l days day)]) := by
  have e88 := S88 (P := P) c hcl hc
  have e30 := S30 (P := P) l hlo hl
  unfold lateE at *
  generalize onceL 160 c = a1 at *
  generalize checkTsts l = a2 at *
  generalize hd1 : dated days = a3 at *
  generalize hd2 : dated day = a4 at *
  rw [u34]
  simp [c34, e88, e30, hd1, hd2, hE]
end LM.G9
namespace LM.G9
open Go LM
variable {P : Nat → Option SFunc} [Has P]
/-- Appending a part of a slice to a slice of the function's own. -/
theorem app_live (pos : Option Nat) (bytes : Nat) (hby : bytes ≤ 16) {b g n b2 g2 off2 k f2 : Nat} {cp2 : Option Nat} {cs X2 : List LV} {h : Heap} (hb : h[b]? = some (.cells g cs 0)) (hn : cs.length = n) (hb2 : h[b2]? = some (.cells g2 X2 f2)) (hk : off2 + k ≤ X2.length) (hf : flatAll ((X2.drop off2).take k) = true) (hs : n + k < 1000000) :
    appendOp pos none bytes (.slice b g 0 n none none) (.slice b2 g2 off2 k none cp2) h = if k = 0 then some (.slice b g 0 n none none, h) else some (.slice b (g + 1) 0 (n + k) none none, h.set b (.cells (g + 1) (cs ++ (X2.drop off2).take k) 0)) := by
  have hz : szOf none = 1 := rfl
  have h1 : sliceCells none h (.slice b2 g2 off2 k none cp2) = some (k, (X2.drop off2).take k) := by
    simp only [sliceCells, hb2, hz, Nat.mul_one]
    rw [if_pos ⟨trivial, hk⟩]
  have hl : ((X2.drop off2).take k).length = k := by simp; omega
  have hmul : (n + k) * bytes ≤ 1000000 * 16 := Nat.mul_le_mul (by omega) hby
  simp only [appendOp, h1, hf, hb, hz]
  rw [if_neg (by simp), if_neg (by rw [hl]; simp), if_neg (by simp; omega), if_pos (by simp [hn])]
  by_cases hk0 : k = 0
  · rw [if_pos hk0, if_pos hk0]; rfl
  · rw [if_neg hk0, if_neg hk0]; rfl
theorem flat_cS (xs : List Str) : flatAll (cS xs) = true := by rw [← cellsOf_strs]; exact flatAll_cellsOf (strElems xs)
theorem flat_cI (xs : List Int) : flatAll (cI xs) = true := by rw [← cellsOf_ints]; exact flatAll_cellsOf (intElems xs)
theorem cS_part (xs : List Str) (a k : Nat) : ((cS xs).drop a).take k = cS ((xs.drop a).take k) := by simp [cS, List.map_take, List.map_drop]
theorem cI_part (xs : List Int) (a k : Nat) : ((cI xs).drop a).take k = cI ((xs.drop a).take k) := by simp [cI, List.map_take, List.map_drop]
theorem cI_append (xs ys : List Int) : cI (xs ++ ys) = cI xs ++ cI ys := by simp [cI]
def ltK (key : Str → Int) (a b : Str) : Bool := decide (key a < key b)
/-- The state of the walk to the left. -/
def T37 (c : List Str) (l : List Tst) (day : Int) (bo go n bd gd : Nat) (drawn : List Int) (i : Int) : List LV := [.c (.slice (c.map CV.str)), .c (.slice (l.map Tst.enc)), .c (ci day), .ptr 0 0 0, .slice bo go 0 n none none, .slice bd gd 0 n none none, .c (.slice (drawn.map ci)), .c (ci i)]
theorem L37_0 (key : Str → Int) (c : List Str) (l : List Tst) (day : Int) (bo go bd gd : Nat) (drawn : List Int) (i : Int) (name : Str) (h : Heap) (hbo : bo < h.length) (hbd : bd < h.length) (xs : List Str) (hx : xs.length < 1000) (f : Nat) (hd : h[bd]? = some (.cells gd (cI (xs.map key)) f)) (h0 : 0 < h.length) : ∀ (L Q : List Str), xs = L.reverse ++ Q →
    ∃ k, k ≤ L.length ∧ LM.insL (ltK key) name L Q = xs.take k ++ name :: xs.drop k ∧
    execS P (limS P) c37_l0 ⟨T37 c l day bo go xs.length bd gd drawn i ++ [.c (.str name), .c (ci (key name)), .c (ci L.length)], h⟩ = some (.exit 2, ⟨T37 c l day bo go xs.length bd gd drawn i ++ [.c (.str name), .c (ci (key name)), .c (ci k)], h⟩) := by
  intro L
  induction L with
  | nil =>
    intro Q hO
    refine ⟨0, Nat.le_refl _, by simp [LM.insL, hO], ?_⟩
    rw [r37_l0]
    simp [c37_l0b, T37]
  | cons y L ih =>
    intro Q hO
    obtain ⟨k, k1, k2, k3⟩ := ih (y :: Q) (by simp [hO])
    have hlx : xs.length = L.length + 1 + Q.length := by rw [hO]; simp; omega
    have gy : xs[L.length]? = some y := by
      rw [hO, List.reverse_cons, List.append_assoc, List.getElem?_append_right (by simp)]
      simp
    have gk : (cI (xs.map key))[L.length]? = some (.c (ci (key y))) := by simp [cI, gy]
    obtain ⟨q1, q2⟩ := List.getElem?_eq_some_iff.1 gk
    obtain ⟨q3, q4⟩ := List.getElem?_eq_some_iff.1 hd
    have w1 : IntKind.i64.wrap (L.length : Int) = L.length := wrap64 (by omega) (by omega)
    have c1 : (0 : Int) < (L.length : Int) + 1 := by omega
    have c2 : L.length < xs.length := by omega
    cases hr : ltK key name y
    · refine ⟨L.length + 1, by simp, ?_, ?_⟩
      · simp only [LM.insL, hr]
        have : xs = (L.reverse ++ [y]) ++ Q := by rw [hO]; simp
        rw [this, List.take_left' (by simp), List.drop_left' (by simp)]
        simp
      · have hr' : ¬ key name < key y := by simpa [ltK] using hr
        rw [r37_l0]
        simp [c37_l0b, T37, w1, c1, c2, hd, q1, q2, q3, q4, gk, hr']
    · refine ⟨k, by simp; omega, ?_, ?_⟩
      · simp only [LM.insL, hr, if_true]
        exact k2
      · have hr' : key name < key y := by simpa [ltK] using hr
        rw [r37_l0]
        simp [T37] at k3
        simp [c37_l0b, T37, w1, c1, c2, hd, q1, q2, q3, q4, gk, hr', hbo, hbd, h0, k3]
end LM.G9
namespace LM.G9
open Go LM
variable {P : Nat → Option SFunc} [Has P]
structure PInv (p : Pck) (key : Str → Int) (h : Heap) (bo go bd gd : Nat) (xs : List Str) : Prop where
  p0 : h[0]? = some (PkB p)
  o : h[bo]? = some (.cells go (cS xs) 0)
  d : h[bd]? = some (.cells gd (cI (xs.map key)) 0)
  go0 : go ≠ 0
  gd0 : gd ≠ 0
theorem B37_skip (c : List Str) (l : List Tst) (hl : (l.length : Int) < 9223372036854775807) (p : Pck) (h0 : 0 ≤ p.spare) (h1 : p.spare ≤ 99999) (day : Int) (h2 : 0 ≤ day) (h3 : day ≤ 99999) (h : Heap) (bo go bd gd n : Nat) (drawn : List Int) (hdl : drawn.length < 1000) (i : Nat) (k : Int) (hk : drawn[i]? = some k) (hk0 : 0 ≤ k) (hk1 : k < c.length) (hp : h[0]? = some (PkB p))
    (hs : ¬ lastT l (nm c k) (day - p.spare) day < 0) :
    execS P (limS P) c37_l1b ⟨T37 c l day bo go n bd gd drawn i, h⟩ = some (.normal, ⟨T37 c l day bo go n bd gd drawn (i + 1), h⟩) := by
  obtain ⟨hil, hk'⟩ := List.getElem?_eq_some_iff.1 hk
  obtain ⟨hpl, hp'⟩ := List.getElem?_eq_some_iff.1 hp
  have hw : IntKind.i64.wrap ((i : Int) + 1) = (i : Int) + 1 := wrap64 (by omega) (by omega)
  have hw2 : IntKind.i64.wrap (day - p.spare) = day - p.spare := wrap64 (by omega) (by omega)
  have hkn : k.toNat < c.length := by omega
  have g2 : c[k.toNat] = nm c k := by simp [nm, hkn, List.getD_eq_getElem?_getD]
  have e98 := S98 (P := P) l (nm c k) (day - p.spare) day hl
  have hs' : 0 ≤ lastT l (nm c k) (day - p.spare) day := by omega
  simp [T37, c37_l1b, hil, hk, hk', hw, hw2, hk0, hk1, hkn, g2, hp, hp', PkB, e98, hs']
/-- Into the row of the climbers drawn so far. -/
theorem B37_put (key : Str → Int) (c : List Str) (l : List Tst) (hl : (l.length : Int) < 9223372036854775807) (p : Pck) (h0 : 0 ≤ p.spare) (h1 : p.spare ≤ 99999) (day : Int) (h2 : 0 ≤ day) (h3 : day ≤ 99999) (h : Heap) (bo go bd gd : Nat) (xs : List Str) (hx : xs.length < 1000) (hI : PInv p key h bo go bd gd xs) (drawn : List Int) (hdl : drawn.length < 1000) (i : Nat) (k : Int) (hk : drawn[i]? = some k) (hk0 : 0 ≤ k) (hk1 : k < c.length)
    (hs : lastT l (nm c k) (day - p.spare) day < 0) (hkey : lastT l (nm c k) 0 day = key (nm c k)) :
    ∃ h' bo' go' bd' gd', execS P (limS P) c37_l1b ⟨T37 c l day bo go xs.length bd gd drawn i, h⟩ = some (.normal, ⟨T37 c l day bo' go' (LM.insL (ltK key) (nm c k) xs.reverse []).length bd' gd' drawn (i + 1), h'⟩) ∧ PInv p key h' bo' go' bd' gd' (LM.insL (ltK key) (nm c k) xs.reverse []) := by
  obtain ⟨hil, hk'⟩ := List.getElem?_eq_some_iff.1 hk
  obtain ⟨hpl, hp'⟩ := List.getElem?_eq_some_iff.1 hI.p0
  have hbo := (List.getElem?_eq_some_iff.1 hI.o).1
  have hbd := (List.getElem?_eq_some_iff.1 hI.d).1
  have hw : IntKind.i64.wrap ((i : Int) + 1) = (i : Int) + 1 := wrap64 (by omega) (by omega)
  have hw2 : IntKind.i64.wrap (day - p.spare) = day - p.spare := wrap64 (by omega) (by omega)
  have hkn : k.toNat < c.length := by omega
  have g2 : c[k.toNat] = nm c k := by simp [nm, hkn, List.getD_eq_getElem?_getD]
  have e98 := S98 (P := P) l (nm c k) (day - p.spare) day hl
  have e98b := S98 (P := P) l (nm c k) 0 day hl
  rw [hkey] at e98b
  have hs' : ¬ 0 ≤ lastT l (nm c k) (day - p.spare) day := by omega
  obtain ⟨a, a1, a2, a3⟩ := L37_0 (P := P) key c l day bo go bd gd drawn i (nm c k) h hbo hbd xs hx 0 hI.d hpl xs.reverse [] (by simp)
  rw [a2]
  generalize hnm : nm c k = name at *
  have ha : a ≤ xs.length := by simpa using a1
  -- the row of names
  have r1 : ∃ g1, g1 ≠ 0 ∧ appendOp none none 16 (.slice h.length 1 0 0 none none) (.slice bo go 0 a none none) (h ++ [.cells 1 [] 0]) = some (.slice h.length g1 0 a none none, h ++ [.cells g1 (cS (xs.take a)) 0]) := by
    have := app_live none 16 (by omega) (b := h.length) (g := 1) (n := 0) (cs := []) (b2 := bo) (g2 := go) (off2 := 0) (k := a) (cp2 := none) (X2 := cS xs) (f2 := 0) (h := h ++ [.cells 1 [] 0]) (by simp) rfl (by rw [List.getElem?_append_left hbo]; exact hI.o) (by rw [cS_length]; omega) (by rw [cS_part]; exact flat_cS _) (by omega)
    rw [cS_part] at this
    by_cases h0 : a = 0
    · subst h0
      exact ⟨1, by decide, by rw [this]; rfl⟩
    · refine ⟨2, by decide, ?_⟩
      rw [this, if_neg h0]
      simp
  obtain ⟨g1, g10, r1⟩ := r1
  have r2 : ∀ pos : Option Nat, appendOp pos none 16 (.slice h.length g1 0 a none none) (.c (.slice [.str name])) (h ++ [.cells g1 (cS (xs.take a)) 0, .dead, .dead, .dead]) = some (.slice h.length (g1 + 1) 0 (a + 1) none none, h ++ [.cells (g1 + 1) (cS (xs.take a ++ [name])) 0, .dead, .dead, .dead]) := by
    intro pos
    have := append_ownP pos (b := h.length) (g := g1) (bytes := 16) (e := none) (ys := (xs.take a).map CV.str) (xs := [.str name]) (h := h ++ [.cells g1 (cS (xs.take a)) 0, .dead, .dead, .dead]) (len := a) (fz := 0) (by rw [cellsOf_strs]; simp) (strElems _) (by simpa using strElem name) (by simp; omega) (Nat.zero_le _) (by simp) (by simp; omega) (by simp; omega)
    have e1 : (xs.take a).map CV.str ++ [CV.str name] = (xs.take a ++ [name]).map CV.str := by simp
    rw [e1, cellsOf_strs] at this
    rw [this]
    simp
  have r3 : ∀ (pos : Option Nat) (V : LV), (V = (if a = 0 then .slice bo go 0 xs.length none none else if a < xs.length then .slice bo go (0 + a * 1) (xs.length - a) none none else .c (.slice []))) → ∃ g3, g3 ≠ 0 ∧ appendOp pos none 16 (.slice h.length (g1 + 1) 0 (a + 1) none none) V (h ++ [.cells (g1 + 1) (cS (xs.take a ++ [name])) 0, .dead, .dead, .dead]) = some (.slice h.length g3 0 (xs.length + 1) none none, h ++ [.cells g3 (cS (xs.take a ++ name :: xs.drop a)) 0, .dead, .dead, .dead]) := by
    intro pos V hV
    have hbase : (h ++ [LB.cells (g1 + 1) (cS (xs.take a ++ [name])) 0, .dead, .dead, .dead])[h.length]? = some (.cells (g1 + 1) (cS (xs.take a ++ [name])) 0) := by simp
    have hold : (h ++ [LB.cells (g1 + 1) (cS (xs.take a ++ [name])) 0, .dead, .dead, .dead])[bo]? = some (.cells go (cS xs) 0) := by rw [List.getElem?_append_left hbo]; exact hI.o
    by_cases c1 : a = 0
    · rw [if_pos c1] at hV
      subst hV
      subst c1
      have := app_live pos 16 (by omega) (n := 1) hbase (by simp [cS]) hold (off2 := 0) (k := xs.length) (cp2 := none) (by rw [cS_length]; omega) (by rw [cS_part]; exact flat_cS _) (by omega)
      rw [cS_part] at this
      by_cases c2 : xs.length = 0
      · have hx0 : xs = [] := List.eq_nil_of_length_eq_zero c2
        subst hx0
        exact ⟨g1 + 1, by omega, by simpa using this⟩
      · refine ⟨g1 + 1 + 1, by omega, ?_⟩
        rw [if_neg c2] at this
        rw [Nat.zero_add, this]
        simp [cS_append, Nat.add_comm]
        simp [cS]
    · rw [if_neg c1] at hV
      by_cases c2 : a < xs.length
      · rw [if_pos c2] at hV
        subst hV
        have := app_live pos 16 (by omega) (n := a + 1) hbase (by rw [cS_length]; simp; omega) hold (off2 := 0 + a * 1) (k := xs.length - a) (cp2 := none) (by rw [cS_length]; omega) (by rw [cS_part]; exact flat_cS _) (by omega)
        rw [cS_part, if_neg (by omega)] at this
        refine ⟨g1 + 1 + 1, by omega, ?_⟩
        rw [this]
        have e1 : a + 1 + (xs.length - a) = xs.length + 1 := by omega
        have e2 : List.take (xs.length - a) (xs.drop a) = xs.drop a := List.take_of_length_le (by simp)
        simp [e1, e2, cS_append]
        simp [cS]
      · rw [if_neg c2] at hV
        subst hV
        have c3 : a = xs.length := by omega
        refine ⟨g1 + 1, by omega, ?_⟩
        simp [appendOp, sliceCells, hbase, szOf, c3, cS, flatAll, ok]
        omega
  have hN : ∀ g3, PInv p key (h ++ [LB.cells g3 (cS (xs.take a ++ name :: xs.drop a)) 0, .dead, .dead, .dead]) bo go bd gd xs := fun g3 =>
    ⟨by rw [List.getElem?_append_left hpl]; exact hI.p0, by rw [List.getElem?_append_left hbo]; exact hI.o, by rw [List.getElem?_append_left hbd]; exact hI.d, hI.go0, hI.gd0⟩
  obtain ⟨g3, g30, r3⟩ := r3 (some (h.length + 1 + 2)) _ rfl
  have hI2 := hN g3
  have hlen2 : (h ++ [LB.cells g3 (cS (xs.take a ++ name :: xs.drop a)) 0, .dead, .dead, .dead]).length = h.length + 4 := by simp
  have hzz : ∃ H2, H2 = h ++ [LB.cells g3 (cS (xs.take a ++ name :: xs.drop a)) 0, .dead, .dead, .dead] := ⟨_, rfl⟩
  obtain ⟨H2, hH2⟩ := hzz
  rw [← hH2] at hI2 hlen2
  have hbd2 : bd < H2.length := by omega
  have hksl : xs.length = (xs.map key).length := by simp
  have hkx : (xs.take a ++ name :: xs.drop a).map key = (xs.map key).take a ++ key name :: (xs.map key).drop a := by simp [List.map_take, List.map_drop]
  have hI2d := hI2.d
  generalize hks : xs.map key = ks at *
  have hx' : ks.length < 1000 := by omega
  -- the row of days
  have q1 : ∃ f1, f1 ≠ 0 ∧ appendOp none none 8 (.slice H2.length 1 0 0 none none) (.slice bd gd 0 a none none) (H2 ++ [.cells 1 [] 0]) = some (.slice H2.length f1 0 a none none, H2 ++ [.cells f1 (cI (ks.take a)) 0]) := by
    have := app_live none 8 (by omega) (b := H2.length) (g := 1) (n := 0) (cs := []) (b2 := bd) (g2 := gd) (off2 := 0) (k := a) (cp2 := none) (X2 := cI ks) (f2 := 0) (h := H2 ++ [.cells 1 [] 0]) (by simp) rfl (by rw [List.getElem?_append_left hbd2]; exact hI2d) (by rw [cI_length]; omega) (by rw [cI_part]; exact flat_cI _) (by omega)
    rw [cI_part] at this
    by_cases h0 : a = 0
    · subst h0
      exact ⟨1, by decide, by rw [this]; rfl⟩
    · refine ⟨2, by decide, ?_⟩
      rw [this, if_neg h0]
      simp
  obtain ⟨f1, f10, q1⟩ := q1
  have q2 : ∀ pos : Option Nat, appendOp pos none 8 (.slice H2.length f1 0 a none none) (.c (.slice [ci (key name)])) (H2 ++ [.cells f1 (cI (ks.take a)) 0, .dead, .dead, .dead]) = some (.slice H2.length (f1 + 1) 0 (a + 1) none none, H2 ++ [.cells (f1 + 1) (cI (ks.take a ++ [(key name)])) 0, .dead, .dead, .dead]) := by
    intro pos
    have := append_ownP pos (b := H2.length) (g := f1) (bytes := 8) (e := none) (ys := (ks.take a).map ci) (xs := [ci (key name)]) (h := H2 ++ [.cells f1 (cI (ks.take a)) 0, .dead, .dead, .dead]) (len := a) (fz := 0) (by rw [cellsOf_ints]; simp) (intElems _) (by simpa using intElems [key name]) (by simp; omega) (Nat.zero_le _) (by simp) (by simp; omega) (by simp; omega)
    have e1 : (ks.take a).map ci ++ [ci (key name)] = (ks.take a ++ [(key name)]).map ci := by simp
    rw [e1, cellsOf_ints] at this
    rw [this]
    simp
  have q3 : ∀ (pos : Option Nat) (V : LV), (V = (if a = 0 then .slice bd gd 0 ks.length none none else if a < ks.length then .slice bd gd (0 + a * 1) (ks.length - a) none none else .c (.slice []))) → ∃ f3, f3 ≠ 0 ∧ appendOp pos none 8 (.slice H2.length (f1 + 1) 0 (a + 1) none none) V (H2 ++ [.cells (f1 + 1) (cI (ks.take a ++ [(key name)])) 0, .dead, .dead, .dead]) = some (.slice H2.length f3 0 (ks.length + 1) none none, H2 ++ [.cells f3 (cI (ks.take a ++ (key name) :: ks.drop a)) 0, .dead, .dead, .dead]) := by
    intro pos V hV2
    have hbase2 : (H2 ++ [LB.cells (f1 + 1) (cI (ks.take a ++ [(key name)])) 0, .dead, .dead, .dead])[H2.length]? = some (.cells (f1 + 1) (cI (ks.take a ++ [(key name)])) 0) := by simp
    have hold2 : (H2 ++ [LB.cells (f1 + 1) (cI (ks.take a ++ [(key name)])) 0, .dead, .dead, .dead])[bd]? = some (.cells gd (cI ks) 0) := by rw [List.getElem?_append_left hbd2]; exact hI2d
    by_cases c1 : a = 0
    · rw [if_pos c1] at hV2
      subst hV2
      subst c1
      have := app_live pos 8 (by omega) (n := 1) hbase2 (by simp [cI]) hold2 (off2 := 0) (k := ks.length) (cp2 := none) (by rw [cI_length]; omega) (by rw [cI_part]; exact flat_cI _) (by omega)
      rw [cI_part] at this
      by_cases c2 : ks.length = 0
      · have hx2 : ks = [] := List.eq_nil_of_length_eq_zero c2
        subst hx2
        exact ⟨f1 + 1, by omega, by simpa using this⟩
      · refine ⟨f1 + 1 + 1, by omega, ?_⟩
        rw [if_neg c2] at this
        rw [Nat.zero_add, this]
        simp [cI_append, Nat.add_comm]
        simp [cI]
    · rw [if_neg c1] at hV2
      by_cases c2 : a < ks.length
      · rw [if_pos c2] at hV2
        subst hV2
        have := app_live pos 8 (by omega) (n := a + 1) hbase2 (by rw [cI_length]; simp; omega) hold2 (off2 := 0 + a * 1) (k := ks.length - a) (cp2 := none) (by rw [cI_length]; omega) (by rw [cI_part]; exact flat_cI _) (by omega)
        rw [cI_part, if_neg (by omega)] at this
        refine ⟨f1 + 1 + 1, by omega, ?_⟩
        rw [this]
        have e1 : a + 1 + (ks.length - a) = ks.length + 1 := by omega
        have e2 : List.take (ks.length - a) (ks.drop a) = ks.drop a := List.take_of_length_le (by simp)
        simp [e1, e2, cI_append]
        simp [cI]
      · rw [if_neg c2] at hV2
        subst hV2
        have c3 : a = ks.length := by omega
        refine ⟨f1 + 1, by omega, ?_⟩
        simp [appendOp, sliceCells, hbase2, szOf, c3, cI, flatAll, ok]
        omega
  obtain ⟨f3, f30, q3⟩ := q3 (some (H2.length + 1 + 2)) _ rfl
  have hlenr : (xs.take a ++ name :: xs.drop a).length = xs.length + 1 := by simp; omega
  rw [hlenr]
  refine ⟨H2 ++ [.cells f3 (cI (ks.take a ++ key name :: ks.drop a)) 0, .dead, .dead, .dead], h.length, g3, H2.length, f3, ?_, ?_⟩
  rotate_left
  · refine ⟨?_, ?_, ?_, g30, f30⟩
    · rw [List.getElem?_append_left (by omega)]; exact hI2.p0
    · rw [List.getElem?_append_left (by omega), hH2]; simp
    · rw [hkx]; simp
  · subst hH2
    have hkl : ks.length = xs.length := hksl.symm
    rw [hkl] at q3
    have hae : (a : Int) ≤ xs.length := by omega
    have hna : ¬ (xs.length : Int) < a := by omega
    simp only [List.length_append, List.length_cons, List.length_nil, List.append_assoc, List.cons_append, List.nil_append] at q1 q2 q3
    simp [T37] at a3
    have d1 : ∀ (A : LB) (w : h.length + 1 + 1 < (h ++ [A, .dead, .dead, .dead]).length), (h ++ [A, .dead, .dead, .dead])[h.length + 1 + 1]'w = .dead := by
      intro A w
      rw [List.getElem_append_right (by omega)]
      simp [show h.length + 1 + 1 - h.length = 2 by omega]
    have d2 : ∀ (A : LB) (w : h.length + 1 + 2 < (h ++ [A, .dead, .dead, .dead]).length), (h ++ [A, .dead, .dead, .dead])[h.length + 1 + 2]'w = .dead := by
      intro A w
      rw [List.getElem_append_right (by omega)]
      simp [show h.length + 1 + 2 - h.length = 3 by omega]
    have d3 : ∀ (A B : LB) (w : h.length + 5 + 1 < (h ++ [A, .dead, .dead, .dead, B, .dead, .dead, .dead]).length), (h ++ [A, .dead, .dead, .dead, B, .dead, .dead, .dead])[h.length + 5 + 1]'w = .dead := by
      intro A B w
      rw [List.getElem_append_right (by omega)]
      simp [show h.length + 5 + 1 - h.length = 6 by omega]
    have d4 : ∀ (A B : LB) (w : h.length + 5 + 2 < (h ++ [A, .dead, .dead, .dead, B, .dead, .dead, .dead]).length), (h ++ [A, .dead, .dead, .dead, B, .dead, .dead, .dead])[h.length + 5 + 2]'w = .dead := by
      intro A B w
      rw [List.getElem_append_right (by omega)]
      simp [show h.length + 5 + 2 - h.length = 7 by omega]
    by_cases c1 : a = 0
    · simp [c1] at r1 r2 r3 q1 q2 q3 a3
      simp [c37_l1b, T37, hil, hk, hk', hw, hw2, hk0, hk1, hkn, g2, hI.p0, hp', PkB, e98, e98b, hs', a3, r1, r2, r3, q1, q2, q3, c1, d1, d2, d3, d4, g10, f10]
    · have c1' : 0 < a := by omega
      by_cases c2 : a < xs.length
      · have c2' : (a : Int) < xs.length := by omega
        simp [c1, c2] at r1 r2 r3 q1 q2 q3 a3
        simp [c37_l1b, T37, hil, hk, hk', hw, hw2, hk0, hk1, hkn, g2, hI.p0, hp', PkB, e98, e98b, hs', a3, r1, r2, r3, q1, q2, q3, c1, c2, hae, hna, ha, d1, d2, d3, d4, g10, f10]
      · have c3 : a = xs.length := by omega
        simp [c1, c2] at r1 r2 r3 q1 q2 q3 a3
        simp [c37_l1b, T37, hil, hk, hk', hw, hw2, hk0, hk1, hkn, g2, hI.p0, hp', PkB, e98, e98b, hs', a3, r1, r2, r3, q1, q2, q3, c1, c2, hae, hna, ha, d1, d2, d3, d4, g10, f10]
end LM.G9
namespace LM.G9
open Go LM
variable {P : Nat → Option SFunc} [Has P]
theorem insL_eq (key : Str → Int) (x : Str) : ∀ L Q : List Str, LM.insL (ltK key) x L Q = insL key x L Q
  | [], Q => rfl
  | y :: L, Q => by
    rw [LM.insL, insL, insL_eq key x L]
    by_cases h : key x < key y <;> simp [ltK, h]
theorem L37_1 (c : List Str) (hc : c.length < 500) (l : List Tst) (hl : (l.length : Int) < 9223372036854775807) (p : Pck) (h0 : 0 ≤ p.spare) (h1 : p.spare ≤ 99999) (day : Int) (h2 : 0 ≤ day) (h3 : day ≤ 99999) : ∀ (r pre : List Int) (h : Heap) (bo go bd gd : Nat) (xs : List Str), (∀ k ∈ pre ++ r, 0 ≤ k ∧ k < c.length) → (pre ++ r).length < 500 → xs.length ≤ pre.length → PInv p (fun s => lastT l s 0 day) h bo go bd gd xs →
    ∃ h' bo' go', execS P (limS P) c37_l1 ⟨T37 c l day bo go xs.length bd gd (pre ++ r) pre.length, h⟩ = some (.exit 0, ⟨[.ptr 0 0 0, .slice bo' go' 0 (sortI (fun s => lastT l s 0 day) xs ((r.map (nm c)).filter fun s => decide (lastT l s (day - p.spare) day < 0))).length none none], h'⟩) ∧ h'[0]? = some (PkB p) ∧ h'[bo']? = some (.cells go' (cS (sortI (fun s => lastT l s 0 day) xs ((r.map (nm c)).filter fun s => decide (lastT l s (day - p.spare) day < 0)))) 0) := by
  intro r
  induction r with
  | nil =>
    intro pre h bo go bd gd xs hk hn hxs hI
    refine ⟨h, bo, go, ?_, hI.p0, hI.o⟩
    rw [r37_l1]
    simp [T37, c37_l1b, sortI]
  | cons k r ih =>
    intro pre h bo go bd gd xs hk hn hxs hI
    have hkk := hk k (by simp)
    have hg : (pre ++ k :: r)[pre.length]? = some k := by simp
    have hpl : pre.length < 500 := by simp at hn; omega
    by_cases hs : lastT l (nm c k) (day - p.spare) day < 0
    · obtain ⟨h', bo', go', bd', gd', e1, hI'⟩ := B37_put (P := P) (fun s => lastT l s 0 day) c l hl p h0 h1 day h2 h3 h bo go bd gd xs (by omega) hI (pre ++ k :: r) (by omega) pre.length k hg hkk.1 hkk.2 hs rfl
      have hf : ((k :: r).map (nm c)).filter (fun s => decide (lastT l s (day - p.spare) day < 0)) = nm c k :: (r.map (nm c)).filter (fun s => decide (lastT l s (day - p.spare) day < 0)) := by
        rw [List.map_cons, List.filter_cons_of_pos (by simpa using hs)]
      have e3 : LM.insL (ltK fun s => lastT l s 0 day) (nm c k) xs.reverse [] = insS (fun s => lastT l s 0 day) (nm c k) xs := insL_eq _ _ _ _
      rw [e3] at e1 hI'
      obtain ⟨h2', bo2, go2, i1, i2, i3⟩ := ih (pre ++ [k]) h' bo' go' bd' gd' (insS (fun s => lastT l s 0 day) (nm c k) xs) (by simpa using hk) (by simpa using hn) (by rw [insS_length]; simp; omega) hI'
      refine ⟨h2', bo2, go2, ?_, i2, ?_⟩
      · rw [r37_l1, e1, seqK_normal, hf, sortI]
        simpa using i1
      · rw [hf, sortI]
        simpa using i3
    · have e1 := B37_skip (P := P) c l hl p h0 h1 day h2 h3 h bo go bd gd xs.length (pre ++ k :: r) (by omega) pre.length k hg hkk.1 hkk.2 hI.p0 hs
      have hf : ((k :: r).map (nm c)).filter (fun s => decide (lastT l s (day - p.spare) day < 0)) = (r.map (nm c)).filter (fun s => decide (lastT l s (day - p.spare) day < 0)) := by
        rw [List.map_cons, List.filter_cons_of_neg (by simpa using hs)]
      obtain ⟨h2', bo2, go2, i1, i2, i3⟩ := ih (pre ++ [k]) h bo go bd gd xs (by simpa using hk) (by simpa using hn) (by simp; omega) hI
      refine ⟨h2', bo2, go2, ?_, i2, ?_⟩
      · rw [r37_l1, e1, seqK_normal, hf]
        simpa using i1
      · rw [hf]
        simpa using i3
theorem resV_pre1 {b g fz : Nat} {ys : List Str} {h : Heap} {m : Nat} (hb : h[b]? = some (.cells g (cS ys) fz)) (hm : m ≤ ys.length) (cap : Option Nat) :
    resV (some (.slice b g 0 m none cap)) h = some (.slice ((ys.take m).map CV.str)) := by
  have hf : frz frzDepth (.slice b g 0 m none cap) h = some (.slice ((ys.take m).map CV.str), bump b (m * szOf none) h) := by
    have hl : m = ((ys.take m).map CV.str).length := by simp; omega
    have h2 := chunk_cellsOf (strElems (ys.take m))
    rw [frz_slice, hb]
    simp only [Nat.zero_add, List.drop_zero]
    have hz : szOf none = 1 := rfl
    rw [hz, if_pos ⟨trivial, by rw [cS_length]; omega⟩, Nat.mul_one, cS_take, ← cellsOf_strs]
    unfold cellsOf
    rw [mapH_map_c 38]
    rw [← hl] at h2
    simp only [bnd_some, h2]
  unfold resV
  rw [bnd_some, hf, bnd_some]
theorem S37 (c : List Str) (hc : c.length < 200) (l : List Tst) (hl : (l.length : Int) < 9223372036854775807) (p : Pck) (day : Int) (hpk : pickE p = 0) (hday : dated day = 0) :
    fn P 37 [.slice (c.map CV.str), .slice (l.map Tst.enc), p.enc, ci day] = some (.slice (((poolA c l p.key p.spare day).take p.count.toNat).map CV.str)) := by
  obtain ⟨p1, p2, p3, p4, p5, p6⟩ := pickE_zero hpk
  rw [dated_zK] at hday
  have hd : drawE p.key c.length = 0 := by unfold drawE; rw [if_neg (by omega)]
  have e97 := S97 (P := P) p.key c.length hd
  have hdl := drawL_length p.key c.length
  obtain ⟨h', bo', go', k1, k2, k3⟩ := L37_1 (P := P) c (by omega) l hl p p3 p4 day hday.1 hday.2 (drawL p.key c.length) [] [PkB p, .cells 1 [] 0, .cells 1 [] 0, .cells 1 [] 0] 2 1 3 1 [] (by simpa using drawL_range p5 p6) (by simp [drawL_length]; omega) (by simp) ⟨rfl, rfl, rfl, by decide, by decide⟩
  have hP : sortI (fun s => lastT l s 0 day) [] (((drawL p.key c.length).map (nm c)).filter fun s => decide (lastT l s (day - p.spare) day < 0)) = poolA c l p.key p.spare day := rfl
  rw [hP] at k1 k3
  have hpool : (poolA c l p.key p.spare day).length ≤ 200 := by
    rw [← hP, sortI_length]
    have := List.length_filter_le (fun s => decide (lastT l s (day - p.spare) day < 0)) ((drawL p.key c.length).map (nm c))
    simp [hdl] at this ⊢
    omega
  generalize poolA c l p.key p.spare day = Z at *
  obtain ⟨q1, q2⟩ := List.getElem?_eq_some_iff.1 k2
  simp [T37] at k1
  rw [u37]
  by_cases hq : (Z.length : Int) < p.count
  · have hr := resV_pre1 k3 (Nat.le_refl _) none
    have e1 : Z.take Z.length = Z.take p.count.toNat := by
      rw [List.take_of_length_le (by omega), List.take_of_length_le (by omega)]
    rw [e1] at hr
    simp [c37, Pck.enc, PkB, e97] at k1 k2 q2 ⊢
    simp [e97, k1, k2, q1, q2, hq, foldInt, hr]
    done
  · have hr := resV_pre1 k3 (m := p.count.toNat) (by omega) none
    have hq2 : p.count ≤ Z.length := by omega
    simp [c37, Pck.enc, PkB, e97] at k1 k2 q2 ⊢
    simp [e97, k1, k2, q1, q2, hq, hq2, p1, foldInt, hr]
    done
end LM.G9
namespace LM.G9
open Go LM
variable {P : Nat → Option SFunc} [Has P]
@[simp] theorem S21 (b : Bool) (e : Int) : fn P 21 [.bool b, ci e] = some (ci (whenE b e)) := by
  rw [u21]; cases b <;> simp [c21, whenE]
end LM.G9
namespace LM.G9
open Go LM
variable {P : Nat → Option SFunc} [Has P]
@[simp] theorem S23 (d : Int) : fn P 23 [ci d] = some (ci (dated d)) := by
  rw [u23]; simp [c23, dated]
end LM.G9
namespace LM.G9
open Go LM
variable {P : Nat → Option SFunc} [Has P] [HasP P]
structure Drw where
  pick : Pck
  days : Int
  day : Int
def Drw.enc (d : Drw) : CV := .agg [ci d.pick.count, ci d.pick.spare, ci d.pick.key, ci d.days, ci d.day]
end LM.G9
namespace LM.G9
open Go LM
variable {P : Nat → Option SFunc} [Has P]
structure Cat where
  name : Str
  least : Int
  most : Int
def Cat.enc (x : Cat) : CV := .agg [.str x.name, ci x.least, ci x.most]
def Cat.ptr (x : Cat) : CV := .ptr [.str x.name, ci x.least, ci x.most] 0
def Cat.ok (x : Cat) : Prop := x.name.length < 9223372036854775807
theorem Cat.elem (x : Cat) : Elem (some 3) x.enc := ⟨_, rfl, rfl, by simp⟩
theorem Cat.elems (l : List Cat) : ∀ x ∈ l.map Cat.enc, Elem (some 3) x := by
  intro x hx
  obtain ⟨y, _, rfl⟩ := List.mem_map.1 hx
  exact y.elem
def Cat.is (n : Str) (x : Cat) : Bool := x.name == n
end LM.G9
namespace LM.G9
open Go LM
variable {P : Nat → Option SFunc} [Has P]
def Cat.short (x : Cat) : Bool := decide (x.name.length ≤ 40)
end LM.G9
namespace LM.G9
open Go LM
variable {P : Nat → Option SFunc} [Has P]
theorem L71 : ∀ (l p m q : List Str), p.length = q.length → l.length = m.length → ((p ++ l).length : Int) < 9223372036854775807 →
    execS P (limS P) c71_l0 ⟨[.c (.slice ((p ++ l).map CV.str)), .c (.slice ((q ++ m).map CV.str)), .c (ci p.length)], []⟩ = if l = m then some (.exit 0, ⟨[], []⟩) else some (.ret, ⟨[.c (.bool false)], []⟩) := by
  intro l
  induction l with
  | nil =>
    intro p m q hp hm h
    have : m = [] := List.eq_nil_of_length_eq_zero (by simpa using hm.symm)
    subst this
    rw [r71_l0]
    simp [c71_l0b]
  | cons c r ih =>
    intro p m q hp hm h
    rcases m with _ | ⟨d, m⟩
    · simp at hm
    have ih := ih (p ++ [c]) m (q ++ [d]) (by simp [hp]) (by simpa using hm) (by simpa using h)
    simp at ih h hm
    have hw : IntKind.i64.wrap (↑p.length + 1) = ↑p.length + 1 := wrap64 (by omega) (by omega)
    have hlt : (p.length : Int) < p.length + (r.length + 1) := by omega
    have hlt2 : p.length < q.length + (m.length + 1) := by omega
    have hg : (List.map CV.str q ++ CV.str d :: List.map CV.str m)[p.length]'(by simpa using hlt2) = CV.str d := by simp [hp]
    rw [r71_l0]
    by_cases h0 : c = d
    · simp [c71_l0b, hw, hlt, hlt2, hg, h0]
      rw [h0] at ih
      exact ih
    · simp [c71_l0b, hw, hlt, hlt2, hg, h0]
@[simp] theorem S71 (l m : List Str) (h : (l.length : Int) < 9223372036854775807) : fn P 71 [.slice (l.map CV.str), .slice (m.map CV.str)] = some (.bool (decide (l = m))) := by
  rw [u71]
  by_cases hl : l.length = m.length
  · have := L71 (P := P) l [] m [] rfl hl (by simpa using h)
    simp at this
    by_cases h0 : l = m
    · rw [if_pos h0] at this
      rw [decide_eq_true h0]
      simp [c71, hl, this]
    · rw [if_neg h0] at this
      rw [decide_eq_false h0]
      simp [c71, hl, this]
  · have h1 : ¬ (l.length : Int) = m.length := by omega
    have h2 : ¬ l = m := fun e => hl (by rw [e])
    simp [c71, h1, h2]
theorem S36 (l m : List Str) (e bad : Int) (h : (l.length : Int) < 9223372036854775807) : fn P 36 [.slice (l.map CV.str), ci e, ci bad, .slice (m.map CV.str)] = some (.bool (if bad ≠ 0 then l.isEmpty && (e == bad) else (e == 0) && decide (l = m))) := by
  rw [u36]
  by_cases hb : bad = 0
  · simp [c36, hb, h] <;> rfl
  · cases l with
    | nil => simp [c36, hb]
    | cons x r =>
      have : ¬ (r.length : Int) + 1 = 0 := by omega
      simp [c36, hb, this]
end LM.G9
namespace LM.G9
open Go LM
variable {P : Nat → Option SFunc} [Has P] [HasP P]
theorem first4 (a b c d : Int) : firstE [firstE [a, b], c, d] = firstE [a, b, c, d] := by
  by_cases h1 : a = 0 <;> by_cases h2 : b = 0 <;> simp [firstE, h1, h2]
set_option maxHeartbeats 4000000 in
theorem S4 (h14 : fn P 14 [] = some (.bool true)) (c : List Str) (l : List Tst) (p : Drw) (hc : c.length * 16 ≤ 2 ^ 47) (hcl : ∀ x ∈ c, x.length < 9223372036854775807) (hl : l.length * 24 ≤ 2 ^ 47) (hlo : ∀ x ∈ l, x.ok) :
    fn P 4 [.slice (c.map CV.str), .slice (l.map Tst.enc), p.enc] = some (.bool true) := by
  have hc' : (c.length : Int) < 9223372036854775807 := by omega
  have hl' : (l.length : Int) < 9223372036854775807 := by omega
  have e28 := S28 (P := P) l hl
  have e29 := S29 (P := P) c l hc' hl'
  have e32 := S32 (P := P) c hc'
  have e31 := S31 (P := P) l hl'
  have e30 := S30 (P := P) l hlo hl'
  have e35 := S35 (P := P) p.pick
  have e20 := S20_2 (P := P) (onceL 160 c) (checkTsts l)
  have e20a := S20_3 (P := P) (firstE [onceL 160 c, checkTsts l]) (pickE p.pick) (dated p.day)
  have e20b := S20_3 (P := P) (firstE [onceL 160 c, checkTsts l]) (dated p.days) (dated p.day)
  have e23 := S23 (P := P) p.day
  have e23b := S23 (P := P) p.days
  rw [first4] at e20a e20b
  have f1 : firstE [onceL 160 c, checkTsts l, pickE p.pick, dated p.day] = poolE c l p.pick p.day := rfl
  have f2 : firstE [onceL 160 c, checkTsts l, dated p.days, dated p.day] = lateE c l p.days p.day := rfl
  rw [f1] at e20a
  rw [f2] at e20b
  have w36 := fun (ws vs : List Str) (e b : Int) (h : (ws.length : Int) < 9223372036854775807) => S36 (P := P) ws vs e b h
  simp [Pck.enc] at e35
  rw [u4]
  cases g3 : shortTsts c l
  · rw [g3] at e29
    simp [c4, Drw.enc, Pck.enc, e28, h14, e29]
  · rw [g3] at e29
    by_cases gB : firstE [onceL 160 c, checkTsts l] = 0 ∧ ((30 : Int) < c.length ∨ (60 : Int) < l.length)
    · rw [gB.1] at e20
      by_cases q1 : (30 : Int) < c.length
      · simp [c4, Drw.enc, Pck.enc, e28, h14, e29, e30, e31, e32, e20, q1]
      · have q2 := gB.2.resolve_left q1
        simp [c4, Drw.enc, Pck.enc, e28, h14, e29, e30, e31, e32, e20, q1, q2]
    · -- the pool, and who is late
      have a1 : ∃ Z : List Str, (Z.length : Int) < 9223372036854775807 ∧ fn P 33 [.slice (c.map CV.str), .slice (l.map Tst.enc), p.pick.enc, ci p.day] = some (.tuple [.slice (Z.map CV.str), ci (poolE c l p.pick p.day)]) ∧ (poolE c l p.pick p.day = 0 → fn P 37 [.slice (c.map CV.str), .slice (l.map Tst.enc), p.pick.enc, ci p.day] = some (.slice (Z.map CV.str))) ∧ (poolE c l p.pick p.day ≠ 0 → Z = []) := by
        by_cases q : poolE c l p.pick p.day = 0
        · have q' := q
          unfold poolE at q'
          simp only [firstE_zK] at q'
          have h0 : firstE [onceL 160 c, checkTsts l] = 0 := by simp [firstE, q'.1, q'.2.1]
          have hn := fun h => gB ⟨h0, h⟩
          have hn1 : c.length ≤ 30 := by omega
          have hlen := poolA_length (c := c) (l := l) (spare := p.pick.spare) (day := p.day) (pickE_zero q'.2.2.1).2.2.2.2.1 (pickE_zero q'.2.2.1).2.2.2.2.2
          have hle := lateL_le c l p.pick.spare p.day
          refine ⟨(poolA c l p.pick.key p.pick.spare p.day).take p.pick.count.toNat, ?_, ?_, fun _ => S37 (P := P) c (by omega) l hl' p.pick p.day q'.2.2.1 q'.2.2.2.1, fun h => absurd q h⟩
          · rw [List.length_take, hlen]; omega
          · rw [q]
            exact S33 (P := P) c l p.pick p.day (by omega) hcl hl' hlo q
        · exact ⟨[], by simp, S33e (P := P) c l p.pick p.day hcl hc' hl' hlo q, fun h => absurd h q, fun _ => rfl⟩
      have a2 : ∃ Y : List Str, (Y.length : Int) < 9223372036854775807 ∧ fn P 34 [.slice (c.map CV.str), .slice (l.map Tst.enc), ci p.days, ci p.day] = some (.tuple [.slice (Y.map CV.str), ci (lateE c l p.days p.day)]) ∧ (lateE c l p.days p.day = 0 → fn P 38 [.slice (c.map CV.str), .slice (l.map Tst.enc), ci p.days, ci p.day] = some (.slice (Y.map CV.str))) ∧ (lateE c l p.days p.day ≠ 0 → Y = []) := by
        by_cases q : lateE c l p.days p.day = 0
        · have q' := q
          unfold lateE at q'
          simp only [firstE_zK, dated_zK] at q'
          have hle := lateL_le c l p.days p.day
          refine ⟨lateL c l p.days p.day, by omega, ?_, fun _ => S38 (P := P) c l p.days p.day hc hl' q'.2.2.1.1 q'.2.2.1.2 q'.2.2.2.1.1 q'.2.2.2.1.2, fun h => absurd q h⟩
          rw [q]
          exact S34 (P := P) c l p.days p.day hc hcl hl' hlo q
        · exact ⟨[], by simp, S34e (P := P) c l p.days p.day hcl hc' hl' hlo q, fun h => absurd h q, fun _ => rfl⟩
      obtain ⟨Z, z1, z2, z3, z4⟩ := a1
      obtain ⟨Y, y1, y2, y3, y4⟩ := a2
      have hg : ¬ (firstE [onceL 160 c, checkTsts l] = 0 ∧ ((30 : Int) < c.length ∨ (60 : Int) < l.length)) := gB
      have wz := w36 Z [] (poolE c l p.pick p.day) (poolE c l p.pick p.day) z1
      have wz0 := w36 Z Z 0 0 z1
      have wy := w36 Y [] (lateE c l p.days p.day) (lateE c l p.days p.day) y1
      have wy0 := w36 Y Y 0 0 y1
      generalize firstE [onceL 160 c, checkTsts l] = B at *
      generalize poolE c l p.pick p.day = E1 at *
      generalize lateE c l p.days p.day = E2 at *
      simp [Pck.enc] at z2 z3
      have hB : ∀ X : Prop, (B = 0 → ¬ (30 : Int) < c.length) ∧ (B = 0 → ¬ (60 : Int) < l.length) := fun _ => ⟨fun h q => gB ⟨h, .inl q⟩, fun h q => gB ⟨h, .inr q⟩⟩
      obtain ⟨hB1, hB2⟩ := hB True
      have fin : ∀ (hb : B = 0 ∨ B ≠ 0), fn P 4 [.slice (c.map CV.str), .slice (l.map Tst.enc), p.enc] = some (.bool true) := by
        intro hb
        rw [u4]
        by_cases E10 : E1 = 0
        · subst E10
          have z3 := z3 rfl
          by_cases E20 : E2 = 0
          · subst E20
            have y3 := y3 rfl
            rcases hb with hb | hb
            · subst hb
              simp [c4, Drw.enc, Pck.enc, e28, h14, e29, e30, e31, e32, e20, hB1 rfl, hB2 rfl, z2, z3, y2, y3, e35, e23, e23b, e20a, e20b, wz0, wy0]
            · simp [c4, Drw.enc, Pck.enc, e28, h14, e29, e30, e31, e32, e20, hb, z2, z3, y2, y3, e35, e23, e23b, e20a, e20b, wz0, wy0]
          · have hy := y4 E20
            subst hy
            simp [E20] at wy
            rcases hb with hb | hb
            · subst hb
              simp [c4, Drw.enc, Pck.enc, e28, h14, e29, e30, e31, e32, e20, hB1 rfl, hB2 rfl, z2, z3, y2, e35, e23, e23b, e20a, e20b, wz0, wy, E20]
            · simp [c4, Drw.enc, Pck.enc, e28, h14, e29, e30, e31, e32, e20, hb, z2, z3, y2, e35, e23, e23b, e20a, e20b, wz0, wy, E20]
        · have hz := z4 E10
          subst hz
          simp [E10] at wz
          by_cases E20 : E2 = 0
          · subst E20
            have y3 := y3 rfl
            rcases hb with hb | hb
            · subst hb
              simp [c4, Drw.enc, Pck.enc, e28, h14, e29, e30, e31, e32, e20, hB1 rfl, hB2 rfl, z2, y2, y3, e35, e23, e23b, e20a, e20b, wz, wy0, E10]
            · simp [c4, Drw.enc, Pck.enc, e28, h14, e29, e30, e31, e32, e20, hb, z2, y2, y3, e35, e23, e23b, e20a, e20b, wz, wy0, E10]
          · have hy := y4 E20
            subst hy
            simp [E20] at wy
            rcases hb with hb | hb
            · subst hb
              simp [c4, Drw.enc, Pck.enc, e28, h14, e29, e30, e31, e32, e20, hB1 rfl, hB2 rfl, z2, y2, e35, e23, e23b, e20a, e20b, wz, wy, E10, E20]
            · simp [c4, Drw.enc, Pck.enc, e28, h14, e29, e30, e31, e32, e20, hb, z2, y2, e35, e23, e23b, e20a, e20b, wz, wy, E10, E20]
      rw [← u4]
      exact fin (Classical.em _)
end LM.G9
