/- Part 9 of what YtmhdmbfiiodeoaaGreatGoes leans on. -/
import Derived.Test.YtmhdmbfiiodeoaaGreatRows
import Derived.WalkKit
import Derived.ProofKit
import Derived.SizedLaws
import Derived.Test.YtmhdmbfiiodeoaaGreatGoesL1
import Derived.Test.YtmhdmbfiiodeoaaGreatGoesL2
import Derived.Test.YtmhdmbfiiodeoaaGreatGoesL3
import Derived.Test.YtmhdmbfiiodeoaaGreatGoes1
import Derived.Test.YtmhdmbfiiodeoaaGreatGoes2
import Derived.Test.YtmhdmbfiiodeoaaGreatGoes3
import Derived.Test.YtmhdmbfiiodeoaaGreatGoes4
import Derived.Test.YtmhdmbfiiodeoaaGreatGoes5
set_option linter.all false
namespace Go.Proofs.YtmhdmbfiiodeoaaGreat
open Go.ChangeShapes Go.WideShapes Go.ChangeAt Go.RowKit
theorem own_knob : ownKnob Tryz.prog.godebug = none := by kernel_rfl
theorem laid_out : laidOutB Tryz.prog = true := by kernel_rfl
theorem maps_rowed : mapsRowed Tryz.prog = true := by kernel_rfl
theorem slices_full : LM.slicesFullB Tryz.prog = true := by kernel_rfl
theorem typed_map {α : Type} {enc : α → LM.CV} {p : α → Prop} {e : LM.CTy} (h : ∀ x, LM.Typed e x → ∃ a, x = enc a ∧ p a) : ∀ {xs : List LM.CV}, (∀ x ∈ xs, LM.Typed e x) → ∃ l : List α, xs = l.map enc ∧ ∀ a ∈ l, p a
  | [], _ => ⟨[], rfl, by simp⟩
  | x :: xs, hx => by
    obtain ⟨a, ha, hp⟩ := h x (hx x (by simp))
    obtain ⟨l, hl, hq⟩ := typed_map h (xs := xs) fun y hy => hx y (by simp [hy])
    exact ⟨a :: l, by rw [ha, hl]; rfl, fun b hb => by rcases List.mem_cons.1 hb with rfl | hb; exact hp; exact hq b hb⟩
theorem typed_slice {α : Type} {enc : α → LM.CV} {p : α → Prop} {e : LM.CTy} {b : Nat} (h : ∀ x, LM.Typed e x → ∃ a, x = enc a ∧ p a) {v : LM.CV} (hv : LM.Typed (.slice b e) v) : ∃ l : List α, v = .slice (l.map enc) ∧ (∀ a ∈ l, p a) ∧ l.length * b ≤ 2 ^ 47 := by
  simp only [LM.Typed] at hv
  obtain ⟨xs, rfl, _, hb, hx⟩ := hv
  obtain ⟨l, rfl, hp⟩ := typed_map h hx
  refine ⟨l, rfl, hp, ?_⟩
  rw [List.length_map] at hb
  exact Nat.le_trans hb (by decide)
theorem typed_str {v : LM.CV} (hv : LM.Typed .str v) : ∃ s : LM.Str, v = .str s ∧ s.length < 9223372036854775807 := by
  simp only [LM.Typed] at hv
  obtain ⟨s, rfl, h⟩ := hv
  exact ⟨s, rfl, Nat.lt_of_le_of_lt h (by decide)⟩
theorem typed_int {v : LM.CV} (hv : LM.Typed (.int .i64) v) : ∃ n, v = LM.ci n ∧ -9223372036854775808 ≤ n ∧ n ≤ 9223372036854775807 := by
  simp only [LM.Typed] at hv
  obtain ⟨n, rfl, h⟩ := hv
  refine ⟨n, rfl, ?_⟩
  simp [Lit.wf, IntKind.min, IntKind.max, IntKind.bits, IntKind.signed] at h
  omega
end Go.Proofs.YtmhdmbfiiodeoaaGreat
namespace LM.G6
open Go LM
variable {P : Nat → Option SFunc} [Has P]
@[simp] theorem S89 (b : Bool) (e : Int) : fn P 89 [.bool b, ci e] = some (ci (whenE b e)) := by
  rw [u89]; cases b <;> simp [c89, whenE]
@[simp] theorem S141 (c : Nat) : fn P 141 [.int .i32 c] = some (.bool (letterN c)) := by
  rw [u141]; simp [c141, letterN]
  rw [show decide ((97 : Int) ≤ c) = decide (97 ≤ c) from decide_eq_decide.2 (by omega), show decide ((c : Int) ≤ 122) = decide (c ≤ 122) from decide_eq_decide.2 (by omega),
    show decide ((65 : Int) ≤ c) = decide (65 ≤ c) from decide_eq_decide.2 (by omega), show decide ((c : Int) ≤ 90) = decide (c ≤ 90) from decide_eq_decide.2 (by omega)]
theorem L88 : ∀ (l pre : List Int), (l.length : Int) + pre.length < 9223372036854775807 → execS P (limS P) c88_l0 ⟨[.c (.slice ((pre ++ l).map ci)), .c (ci (pre ++ l).length), .c (ci pre.length)], []⟩ = if firstE l = 0 then some (.exit 0, ⟨[], []⟩) else some (.ret, ⟨[.c (ci (firstE l))], []⟩) := by
  intro l
  induction l with
  | nil =>
    intro pre h
    rw [r88_l0]
    simp [c88_l0b, firstE]
  | cons c r ih =>
    intro pre h
    have ih := ih (pre ++ [c]) (by simp at h ⊢; omega)
    simp at ih h
    have hw : IntKind.i64.wrap (↑pre.length + 1) = ↑pre.length + 1 := wrap64 (by omega) (by omega)
    have hlt : (pre.length : Int) < pre.length + (r.length + 1) := by omega
    rw [r88_l0]
    by_cases hc : c = 0
    · subst hc
      simp [c88_l0b, firstE, hw, hlt, ih]
    · simp [c88_l0b, firstE, hw, hlt, hc]
@[simp] theorem S88 (l : List Int) (h : l.length < 9223372036854775807) : fn P 88 [.slice (l.map ci)] = some (ci (firstE l)) := by
  have := L88 (P := P) l [] (by simp; omega)
  rw [u88]
  simp at this
  simp [c88, this]
  by_cases hc : firstE l = 0 <;> simp [hc]
@[simp] theorem S88_1 (a : Int) : fn P 88 [.slice [ci a]] = some (ci (firstE [a])) := S88 [a] (by simp)
@[simp] theorem S88_2 (a b : Int) : fn P 88 [.slice [ci a, ci b]] = some (ci (firstE [a, b])) := S88 [a, b] (by simp)
@[simp] theorem S88_3 (a b c : Int) : fn P 88 [.slice [ci a, ci b, ci c]] = some (ci (firstE [a, b, c])) := S88 [a, b, c] (by simp)
@[simp] theorem S88_4 (a b c d : Int) : fn P 88 [.slice [ci a, ci b, ci c, ci d]] = some (ci (firstE [a, b, c, d])) := S88 [a, b, c, d] (by simp)
@[simp] theorem S88_5 (a b c d e : Int) : fn P 88 [.slice [ci a, ci b, ci c, ci d, ci e]] = some (ci (firstE [a, b, c, d, e])) := S88 [a, b, c, d, e] (by simp)
theorem L22 : ∀ (l pre : List Int), (l.length : Int) + pre.length < 9223372036854775807 → execS P (limS P) c22_l0 ⟨[.c (.slice ((pre ++ l).map ci)), .c (ci pre.length)], []⟩ = if firstE l = 0 then some (.exit 0, ⟨[], []⟩) else some (.ret, ⟨[.c (ci (firstE l))], []⟩) := by
  intro l
  induction l with
  | nil =>
    intro pre h
    rw [r22_l0]
    simp [c22_l0b, firstE]
  | cons c r ih =>
    intro pre h
    have ih := ih (pre ++ [c]) (by simp at h ⊢; omega)
    simp at ih h
    have hw : IntKind.i64.wrap (↑pre.length + 1) = ↑pre.length + 1 := wrap64 (by omega) (by omega)
    have hlt : (pre.length : Int) < pre.length + (r.length + 1) := by omega
    rw [r22_l0]
    by_cases hc : c = 0
    · subst hc
      simp [c22_l0b, firstE, hw, hlt, ih]
    · simp [c22_l0b, firstE, hw, hlt, hc]
@[simp] theorem S22 (l : List Int) (h : l.length < 9223372036854775807) : fn P 22 [.slice (l.map ci)] = some (ci (firstE l)) := by
  have := L22 (P := P) l [] (by simp; omega)
  rw [u22]
  simp at this
  simp [c22, this]
  by_cases hc : firstE l = 0 <;> simp [hc]
@[simp] theorem S22_2 (a b : Int) : fn P 22 [.slice [ci a, ci b]] = some (ci (firstE [a, b])) := S22 [a, b] (by simp)
@[simp] theorem S22_3 (a b c : Int) : fn P 22 [.slice [ci a, ci b, ci c]] = some (ci (firstE [a, b, c])) := S22 [a, b, c] (by simp)
@[simp] theorem S22_4 (a b c d : Int) : fn P 22 [.slice [ci a, ci b, ci c, ci d]] = some (ci (firstE [a, b, c, d])) := S22 [a, b, c, d] (by simp)
theorem L85 (s : Str) (hs : s.length ≤ 24) : ∀ (l pre : Str), s = pre ++ l → execS P (limS P) c85_l0 ⟨[.c (.str s), .c (ci pre.length)], []⟩ = if nameFrom pre.length l then some (.exit 0, ⟨[], []⟩) else some (.ret, ⟨[.c (.bool false)], []⟩) := by
  intro l
  induction l with
  | nil =>
    intro pre h
    rw [r85_l0]
    simp [c85_l0b, h, nameFrom]
  | cons c r ih =>
    intro pre h
    have ih := ih (pre ++ [c]) (by simp [h])
    simp at ih
    rw [h] at hs
    simp at hs
    have hw : IntKind.i64.wrap (↑pre.length + 1) = ↑pre.length + 1 := wrap64 (by omega) (by omega)
    have hlt : (pre.length : Int) < pre.length + (r.length + 1) := by omega
    have hn : (((↑c.toNat : Int) < 97 ∨ 122 < (↑c.toNat : Int)) ∧ ((↑c.toNat : Int) < 65 ∨ 90 < (↑c.toNat : Int))) ∧ (pre = [] ∨ ((↑c.toNat : Int) < 48 ∨ 57 < (↑c.toNat : Int)) ∧ ¬(↑c.toNat : Int) = 95) ↔ nameN pre.length c.toNat = false := by
      have hp : pre = [] ↔ pre.length = 0 := by simp
      unfold nameN letterN digitN
      cases pre with
      | nil => simp; omega
      | cons x y => simp; omega
    rw [r85_l0]
    simp [c85_l0b, h, nameFrom, hw, hlt, hn]
    rw [← h, ih]
    cases nameN pre.length c.toNat <;> simp
@[simp] theorem S85 (s : Str) : fn P 85 [.str s] = some (.bool (isName s)) := by
  rw [u85]
  by_cases h1 : s.length < 1
  · have : s = [] := List.eq_nil_of_length_eq_zero (by omega)
    subst this
    simp [c85, isName]
  · by_cases h2 : s.length > 24
    · have h3 : ¬ (s.length : Int) < 1 := by omega
      have h4 : (24 : Int) < (s.length : Int) := by omega
      have h5 : ¬ s.length ≤ 24 := by omega
      simp [c85, isName, h3, h4, h5]
    · have := L85 (P := P) s (by omega) s [] rfl
      simp at this
      have h3 : ¬ (s.length : Int) < 1 := by omega
      have h4 : ¬ (24 : Int) < (s.length : Int) := by omega
      have h5 : s.length ≤ 24 := by omega
      have h6 : 1 ≤ s.length := by omega
      simp [c85, isName, h3, h4, h5, h6, this]
      cases nameFrom 0 s <;> simp
theorem L90 (s : Str) (hs : s.length < 9223372036854775807) : ∀ (l pre : Str), s = pre ++ l → ∃ q, execS P (limS P) c90_l0 ⟨[.c (.str s), .ptr 0 0 0], [.iter s pre.length]⟩ = if nameFrom pre.length l then some (.exit 0, ⟨[.c (.str s)], [.iter s s.length]⟩) else some (.ret, ⟨[.c (.bool false)], [.iter s q]⟩) := by
  intro l
  induction l with
  | nil =>
    intro pre h
    refine ⟨0, ?_⟩
    rw [r90_l0]
    simp [c90_l0b, h, nameFrom]
  | cons c r ih =>
    intro pre h
    obtain ⟨q, ih⟩ := ih (pre ++ [c]) (by simp [h])
    simp at ih
    have hc : s[pre.length]? = some c := by simp [h]
    rw [r90_l0]
    rcases Nat.lt_or_ge c.toNat 128 with hlo | hhi
    · have hd := decode_lo hc hlo
      rw [h] at hd
      have hn : (letterN c.toNat = false ∧ (pre = [] ∨ ¬(↑c.toNat : Int) = 95 ∧ ((↑c.toNat : Int) < 48 ∨ 57 < (↑c.toNat : Int)))) ↔ nameN pre.length c.toNat = false := by
        unfold nameN digitN
        cases pre with
        | nil => simp
        | cons x y => simp; cases letterN c.toNat <;> simp; omega
      refine ⟨if nameN pre.length c.toNat = false then pre.length + 1 else q, ?_⟩
      simp [c90_l0b, h, nameFrom, hd, hn]
      rw [h] at ih
      simp at ih
      cases nameN pre.length c.toNat <;> simp [ih]
    · have hd := decode_hi hc hhi
      rw [h] at hd
      have hl : letterN (Utf8.decode { data := List.toArray (pre ++ c :: r) } pre.length).fst = false := by
        have := nameN_hi (i := 0) hd
        simpa [nameN] using this
      have h1 : ¬ (↑(Utf8.decode { data := List.toArray (pre ++ c :: r) } pre.length).fst : Int) = 95 := by omega
      have h2 : (57 : Int) < (↑(Utf8.decode { data := List.toArray (pre ++ c :: r) } pre.length).fst : Int) := by omega
      refine ⟨pre.length + (Utf8.decode { data := List.toArray (pre ++ c :: r) } pre.length).snd, ?_⟩
      simp [c90_l0b, h, nameFrom, hl, h1, h2, nameN_hi hhi]
@[simp] theorem S90 (s : Str) (hs : s.length < 9223372036854775807) : fn P 90 [.str s] = some (.bool (isName s)) := by
  rw [u90]
  obtain ⟨q, this⟩ := L90 (P := P) s hs s [] rfl
  simp at this
  simp [c90, this]
  cases hn : nameFrom 0 s
  · simp [isName, hn]
  · cases s with
    | nil => simp [isName]
    | cons c r =>
      simp [isName, hn]
      omega
end LM.G6
namespace LM.G6
open Go LM
variable {P : Nat → Option SFunc} [Has P]
structure Lic where
  name : Str
  frm : Int
  to : Int
def Lic.enc (x : Lic) : CV := .agg [.str x.name, ci x.frm, ci x.to]
def Lic.ok (x : Lic) : Prop := x.name.length < 9223372036854775807
/-- The first error of a list's elements. -/
def eachE {α : Type} (chk : List α → α → Int) : List α → List α → Int
  | _, [] => 0
  | pre, x :: r => if chk pre x ≠ 0 then chk pre x else eachE chk (pre ++ [x]) r
end LM.G6
namespace LM.G6
open Go LM
/-- The number of the first element of a kind, or -1. -/
def idxF {α : Type} (p : α → Bool) : Nat → List α → Int
  | _, [] => -1
  | n, x :: r => if p x then n else idxF p (n + 1) r
theorem idxF_lt {α : Type} (p : α → Bool) : ∀ (l : List α) (n : Nat), (idxF p n l < 0) ↔ l.any p = false
  | [], n => by simp [idxF]
  | x :: r, n => by
    unfold idxF
    cases h : p x
    · simp [h, idxF_lt p r (n + 1)]
    · simp [h]
theorem idxF_none {α : Type} {p : α → Bool} : ∀ {l : List α} {n : Nat}, l.any p = false → idxF p n l = -1
  | [], n, _ => rfl
  | x :: r, n, h => by
    simp only [List.any_cons, Bool.or_eq_false_iff] at h
    rw [idxF, if_neg (by simp [h.1]), idxF_none h.2]
theorem idxF_dec {α : Type} (p : α → Bool) (l : List α) (n : Nat) : decide (0 ≤ idxF p n l) = l.any p := by
  have := idxF_lt p l n
  cases h : l.any p
  · have := this.2 h
    simp; omega
  · have : ¬ idxF p n l < 0 := fun q => by rw [this.1 q] at h; cases h
    simp; omega
end LM.G6
namespace LM.G6
open Go LM
variable {P : Nat → Option SFunc} [Has P]
def Str.is (s : Str) (x : Str) : Bool := x == s
theorem Str.is_eq (s x : Str) : Str.is s x = decide (x = s) := by unfold Str.is; by_cases h : x = s <;> simp [h]
theorem Str.is_eq' (s x : Str) : Str.is s x = decide (s = x) := by rw [Str.is_eq]; exact decide_eq_decide.2 eq_comm
theorem L148 (s : Str) : ∀ (l pre : List Str), ((pre ++ l).length : Int) < 9223372036854775807 →
    execS P (limS P) c148_l0 ⟨[.c (.slice ((pre ++ l).map CV.str)), .c (.str s), .c (ci (pre ++ l).length), .c (ci pre.length)], []⟩ = if l.any (Str.is s) then some (.ret, ⟨[.c (ci (idxF (Str.is s) pre.length l))], []⟩) else some (.exit 0, ⟨[], []⟩) := by
  intro l
  induction l with
  | nil =>
    intro pre h
    rw [r148_l0]
    simp [c148_l0b]
  | cons x r ih =>
    intro pre h
    have ih := ih (pre ++ [x]) (by simpa using h)
    simp at ih h
    have hw : IntKind.i64.wrap (↑pre.length + 1) = ↑pre.length + 1 := wrap64 (by omega) (by omega)
    have hlt : (pre.length : Int) < pre.length + (r.length + 1) := by omega
    have e := Str.is_eq' s x
    rw [r148_l0]
    by_cases h0 : s = x
    · simp only [h0, decide_true] at e
      simp [c148_l0b, hw, hlt, idxF, h0, e]
    · simp only [h0, decide_false] at e
      simp [c148_l0b, hw, hlt, idxF, h0, e, ih]
theorem S113 (s : Str) (l : List Str) (h : (l.length : Int) < 9223372036854775807) : fn P 113 [.slice (l.map CV.str), .str s] = some (.bool (l.any (Str.is s))) := by
  have hl := L148 (P := P) s l [] (by simpa using h)
  have h2 : fn P 148 [.slice (l.map CV.str), .str s] = some (ci (idxF (Str.is s) 0 l)) := by
    rw [u148]
    simp at hl
    simp [c148, hl]
    exact fun hx => (idxF_none (by simpa using hx)).symm
  rw [u113]
  simp [c113, h2, idxF_dec]
theorem L81 (s : Str) : ∀ (l pre : List Str), ((pre ++ l).length : Int) < 9223372036854775807 →
    execS P (limS P) c81_l0 ⟨[.c (.slice ((pre ++ l).map CV.str)), .c (.str s), .c (ci pre.length)], []⟩ = if l.any (Str.is s) then some (.ret, ⟨[.c (.bool true)], []⟩) else some (.exit 0, ⟨[], []⟩) := by
  intro l
  induction l with
  | nil =>
    intro pre h
    rw [r81_l0]
    simp [c81_l0b]
  | cons x r ih =>
    intro pre h
    have ih := ih (pre ++ [x]) (by simpa using h)
    simp at ih h
    have hw : IntKind.i64.wrap (↑pre.length + 1) = ↑pre.length + 1 := wrap64 (by omega) (by omega)
    have hlt : (pre.length : Int) < pre.length + (r.length + 1) := by omega
    have e := Str.is_eq s x
    rw [r81_l0]
    by_cases h0 : x = s
    · simp only [h0, decide_true] at e
      simp [c81_l0b, hw, hlt, h0, e]
    · simp only [h0, decide_false] at e
      simp [c81_l0b, hw, hlt, h0, e, ih]
theorem S81 (s : Str) (l : List Str) (h : (l.length : Int) < 9223372036854775807) : fn P 81 [.slice (l.map CV.str), .str s] = some (.bool (l.any (Str.is s))) := by
  have hl := L81 (P := P) s l [] (by simpa using h)
  simp [-List.any_eq_true] at hl
  rw [u81]
  cases h0 : l.any (Str.is s) <;> rw [h0] at hl <;> simp [c81, hl]
end LM.G6
namespace LM.G6
open Go LM
variable {P : Nat → Option SFunc} [Has P]
@[simp] theorem S23 (n a b : Int) : fn P 23 [ci n, ci a, ci b] = some (ci (whenE (outside n a b) 3)) := by
  rw [u23]
  unfold outside whenE
  by_cases h1 : n < a <;> by_cases h2 : b < n <;> simp [c23, h1, h2]
@[simp] theorem S91 (n a b : Int) : fn P 91 [ci n, ci a, ci b] = some (ci (whenE (outside n a b) 3)) := by
  rw [u91]
  unfold outside
  by_cases h1 : n < a <;> by_cases h2 : b < n <;> simp [c91, h1, h2]
theorem frzFuncs_nil (h : Heap) : frzFuncs [] h = some ([], h) := by rw [frzFuncs]
theorem frzFuncs_c (v : CV) (l : List LV) (h : Heap) : frzFuncs (.c v :: l) h = bnd (frzFuncs l h) fun a => some (.c v :: a.1, a.2) := by
  rw [frzFuncs]
  rcases frzFuncs l h with _ | ⟨x, y⟩ <;> rfl
  all_goals simp
theorem frzFuncs_slice (b g o n : Nat) (e c : Option Nat) (l : List LV) (h : Heap) : frzFuncs (.slice b g o n e c :: l) h = bnd (frzFuncs l h) fun a => some (.slice b g o n e c :: a.1, a.2) := by
  rw [frzFuncs]
  rcases frzFuncs l h with _ | ⟨x, y⟩ <;> rfl
  all_goals simp
end LM.G6
namespace LM.G6
open Go LM
variable {P : Nat → Option SFunc} [Has P]
/-- A result: a climber, a state, and values. -/
structure Rs where
  who : Str
  state : Str
  vals : List Int
def Rs.enc (x : Rs) : CV := .agg [.str x.who, .str x.state, .slice (x.vals.map ci)]
def Rs.ptr (x : Rs) : CV := .ptr [.str x.who, .str x.state, .slice (x.vals.map ci)] 0
def Rs.ok (x : Rs) : Prop := x.who.length < 9223372036854775807 ∧ x.state.length < 9223372036854775807 ∧ (x.vals.length : Int) < 9223372036854775807
theorem Rs.elem (x : Rs) : Elem (some 3) x.enc := ⟨_, rfl, rfl, by simp [CV.flat]⟩
theorem Rs.elems (l : List Rs) : ∀ x ∈ l.map Rs.enc, Elem (some 3) x := by
  intro x hx
  obtain ⟨y, _, rfl⟩ := List.mem_map.1 hx
  exact y.elem
/-- A condition on results that a function with captured values tells. -/
def PredOk (P : Nat → Option SFunc) (f : Nat) (B : List CV) (p : Rs → Bool) : Prop :=
  ∀ (pos : Option Nat) (q : Bool) (x : Rs) (h : Heap), callS P (limS P) pos q f (.c x.enc :: B.map .c) h = some (.c (.bool (p x)), h)
def isW (s : Str) (x : Rs) : Bool := decide (x.who = s)
def isS (x : Rs) : Bool := decide (x.state = [])
theorem pred157 (c : Rs) : PredOk P 157 [c.ptr] (isW c.who) := by
  intro pos q x h
  have e : fn P 157 [x.enc, c.ptr] = some (.bool (isW c.who x)) := by
    rw [u157]
    by_cases h : x.who = c.who <;> simp [c157, Rs.enc, Rs.ptr, isW, h]
  simp [e]
theorem pred161 : PredOk P 161 [] isS := by
  intro pos q x h
  have e : fn P 161 [x.enc] = some (.bool (isS x)) := by
    rw [u161]
    by_cases h : x.state = [] <;> simp [c161, Rs.enc, isS, h]
  simp [e]
theorem pred162 : PredOk P 162 [] (fun x => !isS x) := by
  intro pos q x h
  have e : fn P 162 [x.enc] = some (.bool (!isS x)) := by
    rw [u162]
    by_cases h : x.state = [] <;> simp [c162, Rs.enc, isS, h]
  simp [e]
def idxP (p : Rs → Bool) : Nat → List Rs → Int
  | _, [] => -1
  | n, x :: r => if p x then n else idxP p (n + 1) r
theorem L160c {f : Nat} {B : List CV} {p : Rs → Bool} (hp : PredOk P f B p) (H : Heap) : ∀ (l pre : List Rs), ((pre ++ l).length : Int) < 9223372036854775807 →
    execS P (limS P) c160_l0 ⟨[.c (.slice ((pre ++ l).map Rs.enc)), .c (.func f [] B), .c (ci (pre ++ l).length), .c (ci pre.length)], H⟩ = if l.any p then some (.ret, ⟨[.c (ci (idxP p pre.length l))], H⟩) else some (.exit 0, ⟨[], H⟩) := by
  intro l
  induction l with
  | nil =>
    intro pre h
    rw [r160_l0]
    simp [c160_l0b]
  | cons x r ih =>
    intro pre h
    have ih := ih (pre ++ [x]) (by simpa using h)
    have hc := fun pos q h => hp pos q x h
    simp [Rs.enc, -List.any_eq_true] at ih h hc
    have hw : IntKind.i64.wrap (↑pre.length + 1) = ↑pre.length + 1 := wrap64 (by omega) (by omega)
    have hlt : (pre.length : Int) < pre.length + (r.length + 1) := by omega
    have ht : List.take H.length H = H := List.take_length
    rw [r160_l0]
    cases h0 : p x
    · simp only [h0] at hc
      simp [c160_l0b, hw, hlt, Rs.enc, hc, idxP, h0, ht, ih, -List.any_eq_true]
    · simp only [h0] at hc
      simp [c160_l0b, hw, hlt, Rs.enc, hc, idxP, h0, -List.any_eq_true]
theorem idxP_none {p : Rs → Bool} : ∀ {l : List Rs} {n : Nat}, l.any p = false → idxP p n l = -1
  | [], n, _ => rfl
  | x :: r, n, h => by
    simp only [List.any_cons, Bool.or_eq_false_iff] at h
    rw [idxP, if_neg (by simp [h.1]), idxP_none h.2]
theorem idxP_some {p : Rs → Bool} : ∀ {l : List Rs} {n : Nat}, l.any p = true → ∃ k, k < l.length ∧ idxP p n l = (n + k : Nat) ∧ ∃ x, l[k]? = some x ∧ l.find? p = some x
  | [], n, h => by simp at h
  | x :: r, n, h => by
    cases h0 : p x
    · have h' : r.any p = true := by simpa [h0] using h
      obtain ⟨k, k1, k2, y, k3, k4⟩ := idxP_some (n := n + 1) h'
      refine ⟨k + 1, by simp; omega, ?_, y, by simpa using k3, by simp [h0, k4]⟩
      rw [idxP, if_neg (by simp [h0]), k2]
      congr 1
      omega
    · refine ⟨0, by simp, ?_, x, rfl, by simp [h0]⟩
      rw [idxP, if_pos h0]
      rfl
theorem S160c {f : Nat} {B : List CV} {p : Rs → Bool} (hp : PredOk P f B p) (H : Heap) (l : List Rs) (h : (l.length : Int) < 9223372036854775807) : sfn P 160 [.c (.slice (l.map Rs.enc)), .c (.func f [] B)] H = some (.c (ci (idxP p 0 l)), H) := by
  have hl := L160c (P := P) hp H l [] (by simpa using h)
  simp [-List.any_eq_true] at hl
  rw [u160]
  cases h0 : l.any p
  · rw [h0] at hl
    simp [c160, hl, idxP_none h0]
  · rw [h0] at hl
    simp [c160, hl]
theorem frzF_c2 (a b : CV) (h : Heap) : frzFuncs [.c a, .c b] h = some ([.c a, .c b], h) := by rw [frzFuncs_c, frzFuncs_c, frzFuncs_nil]; rfl
theorem S134 {f : Nat} {B : List CV} {p : Rs → Bool} (hp : PredOk P f B p) (l : List Rs) (h : (l.length : Int) < 9223372036854775807) : fn P 134 [.slice (l.map Rs.enc), .func f [] B] = some (.bool (l.any p)) := by
  have e := S160c (P := P) hp [] l h
  rw [u134]
  cases h0 : l.any p
  · rw [idxP_none h0] at e
    simp [c134, frzF_c2, e]
  · obtain ⟨k, _, k2, _⟩ := idxP_some (n := 0) h0
    rw [k2] at e
    have : (0 : Int) ≤ ((0 + k : Nat) : Int) := by omega
    simp at e this
    simp [c134, frzF_c2, e, this]
end LM.G6
namespace LM.G6
open Go LM
variable {P : Nat → Option SFunc} [Has P]
def farI (n : Int) : Bool := decide (n < -999999999) || decide (n > 999999999)
theorem S159 (n : Int) : fn P 159 [ci n] = some (.bool (farI n)) := by
  rw [u159]
  unfold farI
  by_cases h1 : n < -999999999 <;> by_cases h2 : n > 999999999 <;> simp [c159, h1, h2]
theorem L170 : ∀ (l pre : List Int), ((pre ++ l).length : Int) < 9223372036854775807 →
    ∃ k : Nat, execS P (limS P) c170_l0 ⟨[.c (.slice ((pre ++ l).map ci)), .c (.func 159 [] []), .c (ci (pre ++ l).length), .c (ci pre.length)], []⟩ = if l.any farI then some (.ret, ⟨[.c (ci k)], []⟩) else some (.exit 0, ⟨[], []⟩) := by
  intro l
  induction l with
  | nil =>
    intro pre h
    refine ⟨0, ?_⟩
    rw [r170_l0]
    simp [c170_l0b]
  | cons x r ih =>
    intro pre h
    obtain ⟨k, ih⟩ := ih (pre ++ [x]) (by simpa using h)
    have es := S159 (P := P) x
    simp [-List.any_eq_true] at ih h
    have hw : IntKind.i64.wrap (↑pre.length + 1) = ↑pre.length + 1 := wrap64 (by omega) (by omega)
    have hlt : (pre.length : Int) < pre.length + (r.length + 1) := by omega
    cases h0 : farI x
    · refine ⟨k, ?_⟩
      rw [h0] at es
      rw [r170_l0]
      simp [c170_l0b, hw, hlt, es, h0, ih, -List.any_eq_true]
    · refine ⟨pre.length, ?_⟩
      rw [h0] at es
      rw [r170_l0]
      simp [c170_l0b, hw, hlt, es, h0, -List.any_eq_true]
theorem S158 (l : List Int) (h : (l.length : Int) < 9223372036854775807) : fn P 158 [.slice (l.map ci), .func 159 [] []] = some (.bool (l.any farI)) := by
  obtain ⟨k, hl⟩ := L170 (P := P) l [] (by simpa using h)
  simp [-List.any_eq_true] at hl
  have e170 : fn P 170 [.slice (l.map ci), .func 159 [] []] = some (ci (if l.any farI then (k : Int) else -1)) := by
    rw [u170]
    cases h0 : l.any farI <;> rw [h0] at hl <;> simp [c170, hl]
  rw [u158]
  cases h0 : l.any farI <;> rw [h0] at e170 <;> simp [c158, e170]
def statesL : List Str := [[], [100, 110, 115], [100, 110, 102], [100, 115, 113]]
def stateOk (s : Str) : Bool := statesL.any (Str.is s)
/-- Has a result another number of values than the first one without a state? -/
def shapeE (pre : List Rs) (x : Rs) : Bool := match pre.find? isS with
  | some y => isS x && decide (x.vals.length ≠ y.vals.length)
  | none => false
def resE (pre : List Rs) (x : Rs) : Int := firstE [whenE (!isName x.who) 8, whenE (pre.any (isW x.who)) 9, whenE (!stateOk x.state) 13, whenE (!isS x && decide (0 < x.vals.length)) 1, whenE (decide (8 < x.vals.length)) 5, whenE (x.vals.any farI) 3, whenE (shapeE pre x) 2]
def resultsE (l : List Rs) : Int := if (l.length : Int) > 160 then 5 else eachE resE [] l
theorem S88_7 (a b c d e f g : Int) : fn P 88 [.slice [ci a, ci b, ci c, ci d, ci e, ci f, ci g]] = some (ci (firstE [a, b, c, d, e, f, g])) := S88 [a, b, c, d, e, f, g] (by simp)
theorem S131 (x : Rs) (pre : List Rs) (hx : x.ok) (h : (pre.length : Int) < 9223372036854775807) : fn P 131 [x.enc, .slice (pre.map Rs.enc)] = some (ci (resE pre x)) := by
  obtain ⟨h1, h2, h3⟩ := hx
  have e134 := S134 (P := P) (pred157 (P := P) x) pre h
  have e113 := S113 (P := P) x.state statesL (by decide)
  have e158 := S158 (P := P) x.vals h3
  have e160 := fun H => S160c (P := P) (pred161 (P := P)) H pre h
  have e90 := S90 (P := P) x.who h1
  have e88 := S88_7 (P := P)
  have hst : statesL.any (Str.is x.state) = stateOk x.state := rfl
  rw [hst] at e113
  rw [u131]
  unfold resE shapeE
  have hS : isS x = decide (x.state = []) := rfl
  simp [statesL, Rs.ptr, -List.any_eq_true] at e113 e134
  have q8 : (8 : Int) < (x.vals.length : Int) ↔ 8 < x.vals.length := by omega
  have q0 : (0 : Int) < (x.vals.length : Int) ↔ 0 < x.vals.length := by omega
  have d8 : decide ((8 : Int) < (x.vals.length : Int)) = decide (8 < x.vals.length) := decide_eq_decide.2 q8
  cases hq : pre.any isS
  · have hf : pre.find? isS = none := by
      rw [List.find?_eq_none]
      intro y hy
      have := List.any_eq_false.1 hq y hy
      exact this
    simp only [idxP_none hq] at e160
    rw [hf]
    simp [c131, c131_n11, Rs.enc, frzF_c2, e134, e113, e158, e160, e90, e88, statesL, -List.any_eq_true]
    simp only [hS, d8]
  · obtain ⟨k, k1, k2, y, k3, k4⟩ := idxP_some (n := 0) hq
    simp only [k2, Nat.zero_add] at e160
    rw [k4]
    obtain ⟨_, k3'⟩ := List.getElem?_eq_some_iff.1 k3
    have k5 : (k : Int) < pre.length := by omega
    have hbne : ((x.vals.length : Int) != (y.vals.length : Int)) = !decide (x.vals.length = y.vals.length) := by
      by_cases q : x.vals.length = y.vals.length
      · simp [q]
      · have : ¬ (x.vals.length : Int) = y.vals.length := by omega
        simp [q, this]
    by_cases hs : x.state = []
    · rw [hs] at e134 e113
      simp [c131, c131_n11, Rs.enc, frzF_c2, e134, e113, e158, e160, e90, e88, statesL, k1, k3', k5, hs, -List.any_eq_true]
      simp only [hS, d8, hs]
      simp [hbne, -List.any_eq_true]
    · simp [c131, c131_n11, Rs.enc, frzF_c2, e134, e113, e158, e160, e90, e88, statesL, k1, k3', k5, hs, -List.any_eq_true]
      simp only [hS, d8, hs]
      simp [-List.any_eq_true]
def RB3 (x : Rs) (z : Nat) : LB := .cells 0 [.c (.str x.who), .c (.str x.state), .c (.slice (x.vals.map ci))] z
theorem L73 : ∀ (r pre : List Rs), (∀ x ∈ r, x.ok) → ((pre ++ r).length : Int) < 9223372036854775807 →
    ∃ H, execS P (limS P) c73_l0 ⟨[.c (.slice ((pre ++ r).map Rs.enc)), .c (.slice ((pre ++ r).map Rs.enc)), .c (ci (pre ++ r).length), .c (ci pre.length)], []⟩ = if eachE resE pre r = 0 then some (.exit 0, ⟨[], []⟩) else some (.ret, ⟨[.c (ci (eachE resE pre r))], H⟩) := by
  intro r
  induction r with
  | nil =>
    intro pre hl h
    refine ⟨[], ?_⟩
    rw [r73_l0]
    simp [c73_l0b, eachE]
  | cons x r ih =>
    intro pre hl h
    obtain ⟨H, ih⟩ := ih (pre ++ [x]) (fun y hy => hl y (by simp [hy])) (by simpa using h)
    have e131 := S131 (P := P) x pre (hl x (by simp)) (by simp at h; omega)
    have ht : List.take pre.length (List.map Rs.enc pre ++ x.enc :: List.map Rs.enc r) = pre.map Rs.enc := by simp
    simp [Rs.enc] at ih h e131 ht
    have hw : IntKind.i64.wrap (↑pre.length + 1) = ↑pre.length + 1 := wrap64 (by omega) (by omega)
    have hlt : (pre.length : Int) < pre.length + (r.length + 1) := by omega
    have hz : szFits 3 (List.map Rs.enc pre ++ CV.agg [.str x.who, .str x.state, .slice (x.vals.map ci)] :: List.map Rs.enc r) = true := by cases pre <;> rfl
    have hb : (pre.length : Int) ≤ pre.length + (r.length + 1) := by omega
    have hE : eachE resE pre (x :: r) = if resE pre x ≠ 0 then resE pre x else eachE resE (pre ++ [x]) r := rfl
    by_cases h0 : resE pre x = 0
    · refine ⟨H, ?_⟩
      rw [hE, r73_l0]
      simp [c73_l0b, hw, hlt, hz, hb, ht, Rs.enc, e131, h0, ih]
    · refine ⟨[RB3 x 0], ?_⟩
      rw [hE, r73_l0]
      simp [c73_l0b, hw, hlt, hz, hb, ht, Rs.enc, e131, h0, RB3]
theorem S73 (l : List Rs) (hl : ∀ x ∈ l, x.ok) (h : (l.length : Int) < 9223372036854775807) : fn P 73 [.slice (l.map Rs.enc)] = some (ci (resultsE l)) := by
  obtain ⟨H, hL⟩ := L73 (P := P) l [] hl (by simpa using h)
  simp at hL
  rw [u73]
  unfold resultsE
  by_cases hm : (l.length : Int) > 160
  · have hm' : (160 : Int) < (l.length : Int) := hm
    simp [c73, hm']
  · have hm' : ¬ (160 : Int) < (l.length : Int) := hm
    simp [c73, hm', hL]
    by_cases h0 : eachE resE [] l = 0 <;> simp [h0]
def chkR (x : Rs) : Int := firstE [whenE (!stateOk x.state) 13, whenE (!isS x && decide (0 < x.vals.length)) 1, whenE (decide (8 < x.vals.length)) 5, whenE (x.vals.any farI) 3]
theorem L130 (x : Rs) : ∀ (r pre : List Int), x.vals = pre ++ r → ((pre ++ r).length : Int) < 9223372036854775807 →
    execS P (limS P) c130_l0 ⟨[.ptr 0 0 0, .c (ci pre.length)], [RB3 x 0]⟩ = if r.any farI then some (.ret, ⟨[.c (ci 3)], [RB3 x 0]⟩) else some (.exit 0, ⟨[], [RB3 x 0]⟩) := by
  intro r
  induction r with
  | nil =>
    intro pre hv h
    rw [r130_l0]
    simp [c130_l0b, RB3, hv]
  | cons n r ih =>
    intro pre hv h
    have ih := ih (pre ++ [n]) (by simp [hv]) (by simpa using h)
    simp [-List.any_eq_true, RB3, hv] at ih h
    have hw : IntKind.i64.wrap (↑pre.length + 1) = ↑pre.length + 1 := wrap64 (by omega) (by omega)
    have hlt : (pre.length : Int) < pre.length + (r.length + 1) := by omega
    have ho : outside n (-999999999) 999999999 = farI n := rfl
    rw [r130_l0]
    cases h0 : farI n
    · simp [c130_l0b, RB3, hv, hw, hlt, ho, h0, whenE, ih, -List.any_eq_true]
    · simp [c130_l0b, RB3, hv, hw, hlt, ho, h0, whenE, -List.any_eq_true]
theorem S130 (x : Rs) (hx : (x.vals.length : Int) < 9223372036854775807) : fn P 130 [x.enc] = some (ci (chkR x)) := by
  have hL := L130 (P := P) x x.vals [] rfl (by simpa using hx)
  simp [RB3, -List.any_eq_true] at hL
  have q8 : (8 : Int) < (x.vals.length : Int) ↔ 8 < x.vals.length := by omega
  have hst : stateOk x.state = (decide (x.state = []) || decide (x.state = [100, 110, 115]) || decide (x.state = [100, 110, 102]) || decide (x.state = [100, 115, 113])) := by
    unfold stateOk statesL
    by_cases h1 : x.state = [] <;> by_cases h2 : x.state = [100, 110, 115] <;> by_cases h3 : x.state = [100, 110, 102] <;> by_cases h4 : x.state = [100, 115, 113] <;> simp [Str.is, h1, h2, h3, h4]
    exact ⟨fun q => h2 q.symm, fun q => h3 q.symm, fun q => h4 q.symm⟩
  have hS : isS x = decide (x.state = []) := rfl
  rw [u130]
  unfold chkR
  rw [hst, hS]
  have q0 : (0 : Int) < (x.vals.length : Int) ↔ 0 < x.vals.length := by omega
  have e1 : ∀ b : Bool, whenE b 13 = if b then 13 else 0 := fun b => rfl
  by_cases h1 : x.state = []
  · by_cases v8 : 8 < x.vals.length
    · have v8' : (8 : Int) < (x.vals.length : Int) := q8.2 v8
      simp [c130, Rs.enc, h1, v8', v8, whenE, firstE]
    · have v8' : ¬ (8 : Int) < (x.vals.length : Int) := fun q => v8 (q8.1 q)
      rw [h1] at hL
      cases hf : x.vals.any farI <;> rw [hf] at hL <;> simp at hL <;> simp [c130, Rs.enc, h1, v8', v8, whenE, firstE, hL]
  · cases hk : (decide (x.state = [100, 110, 115]) || decide (x.state = [100, 110, 102]) || decide (x.state = [100, 115, 113]))
    · simp only [Bool.or_eq_false_iff, decide_eq_false_iff_not] at hk
      simp [c130, Rs.enc, h1, hk, whenE, firstE]
    · have hor : x.state = [100, 110, 115] ∨ x.state = [100, 110, 102] ∨ x.state = [100, 115, 113] := by simpa [or_assoc] using hk
      by_cases v0 : 0 < x.vals.length
      · have v0' : (0 : Int) < (x.vals.length : Int) := q0.2 v0
        have v1 : x.vals ≠ [] := fun q => by rw [q] at v0; cases v0
        rcases hor with e | e | e <;> simp [c130, Rs.enc, e, v0', v0, v1, whenE, firstE]
      · have v1 : x.vals = [] := List.eq_nil_of_length_eq_zero (by omega)
        rw [v1] at hL
        simp at hL
        rcases hor with e | e | e <;> rw [e] at hL <;> simp [c130, Rs.enc, e, v1, whenE, firstE, hL]
end LM.G6
namespace LM.G6
open Go LM
variable {P : Nat → Option SFunc} [Has P]
theorem L72_0 (X : List Rs) (x : Rs) (c : CV) : ∀ (r pre rest : List Rs), X = pre ++ r ++ x :: rest → (X.length : Int) < 9223372036854775807 →
    execS P (limS P) c72_l0 ⟨[.c (.slice (X.map Rs.enc)), .c c, .c (ci (pre ++ r).length), .c (ci pre.length)], []⟩ = if r.any (isW x.who) then some (.ret, ⟨[.c (ci 9)], []⟩) else some (.exit 2, ⟨[.c (.slice (X.map Rs.enc)), .c c, .c (ci (pre ++ r).length)], []⟩) := by
  intro r
  induction r with
  | nil =>
    intro pre rest hX h
    rw [r72_l0]
    simp [c72_l0b]
  | cons y r ih =>
    intro pre rest hX h
    have ih := ih (pre ++ [y]) rest (by simp [hX]) h
    subst hX
    simp [Rs.enc, -List.any_eq_true] at ih h
    have hw : IntKind.i64.wrap (↑pre.length + 1) = ↑pre.length + 1 := wrap64 (by omega) (by omega)
    have hlt : (pre.length : Int) < pre.length + (r.length + 1) := by omega
    have k1 : (pre.length : Int) < pre.length + (r.length + (rest.length + 1) + 1) := by omega
    have k2 : (pre.length : Int) + (r.length + 1) < pre.length + (r.length + (rest.length + 1) + 1) := by omega
    have t1 : ((pre.length : Int) + (r.length + 1)).toNat = pre.length + (r.length + 1) := by omega
    have j2 : 0 ≤ (pre.length : Int) + (r.length + 1) := by omega
    have hu : isW x.who y = decide (y.who = x.who) := rfl
    rw [r72_l0]
    by_cases h0 : y.who = x.who
    · simp [c72_l0b, hw, hlt, k1, k2, t1, j2, Rs.enc, hu, h0, -List.any_eq_true]
    · simp [c72_l0b, hw, hlt, k1, k2, t1, j2, Rs.enc, hu, h0, ih, -List.any_eq_true]
def cntR (pre : List Rs) : Int := match pre.find? isS with
  | some y => y.vals.length
  | none => -1
theorem cntR_snoc (pre : List Rs) (x : Rs) : cntR (pre ++ [x]) = if cntR pre < 0 ∧ isS x = true then (x.vals.length : Int) else cntR pre := by
  unfold cntR
  rw [List.find?_append]
  cases h : pre.find? isS with
  | some y => simp; omega
  | none => cases h2 : isS x <;> simp [h2]
theorem shapeE_eq (pre : List Rs) (x : Rs) : shapeE pre x = (isS x && decide ((x.vals.length : Int) ≠ cntR (pre ++ [x]))) := by
  rw [cntR_snoc]
  unfold shapeE cntR
  cases h : pre.find? isS with
  | some y =>
    have : ¬ ((y.vals.length : Int) < 0) := by omega
    simp [this]
    cases isS x
    · rfl
    · by_cases q : x.vals.length = y.vals.length
      · simp [q]
      · have : ¬ (x.vals.length : Int) = y.vals.length := by omega
        simp [q, this]
  | none => cases h2 : isS x <;> simp
theorem L72_1 : ∀ (r pre : List Rs), (∀ x ∈ r, x.ok) → ((pre ++ r).length : Int) < 9223372036854775807 →
    execS P (limS P) c72_l1 ⟨[.c (.slice ((pre ++ r).map Rs.enc)), .c (ci (cntR pre)), .c (ci pre.length)], []⟩ = if eachE resE pre r = 0 then some (.exit 0, ⟨[], []⟩) else some (.ret, ⟨[.c (ci (eachE resE pre r))], []⟩) := by
  intro r
  induction r with
  | nil =>
    intro pre hl h
    rw [r72_l1]
    simp [c72_l1b, eachE]
  | cons x r ih =>
    intro pre hl h
    have hx := hl x (by simp)
    have ih := ih (pre ++ [x]) (fun y hy => hl y (by simp [hy])) (by simpa using h)
    have h0 := L72_0 (P := P) (pre ++ x :: r) x (ci (cntR pre)) pre [] r (by simp) h
    have e130 := S130 (P := P) x hx.2.2
    have hsn := cntR_snoc pre x
    have hsh := shapeE_eq pre x
    have hS : isS x = decide (x.state = []) := rfl
    have hE : eachE resE pre (x :: r) = if resE pre x ≠ 0 then resE pre x else eachE resE (pre ++ [x]) r := rfl
    have hR : resE pre x = firstE [whenE (!isName x.who) 8, whenE (pre.any (isW x.who)) 9, chkR x, whenE (shapeE pre x) 2] := by
      unfold resE chkR
      cases isName x.who <;> cases pre.any (isW x.who) <;> cases stateOk x.state <;> cases (!isS x && decide (0 < x.vals.length)) <;> cases decide (8 < x.vals.length) <;> cases x.vals.any farI <;> cases shapeE pre x <;> rfl
    generalize cntR (pre ++ [x]) = cn at *
    simp [Rs.enc, -List.any_eq_true] at ih h h0 e130
    have hw : IntKind.i64.wrap (↑pre.length + 1) = ↑pre.length + 1 := wrap64 (by omega) (by omega)
    have hlt : (pre.length : Int) < pre.length + (r.length + 1) := by omega
    rw [hE, r72_l1]
    cases q1 : isName x.who
    · simp [c72_l1b, hw, hlt, Rs.enc, hR, q1, whenE, firstE]
    · cases q2 : pre.any (isW x.who)
      · rw [q2] at h0
        simp at h0
        by_cases q3 : chkR x = 0
        · rw [q3] at e130
          rw [hsh, hS] at hR
          by_cases q4 : x.state = []
          · by_cases q5 : cntR pre < 0
            · rw [if_pos ⟨q5, by rw [hS, q4]; rfl⟩] at hsn
              subst hsn
              rw [q4] at hR h0 e130 ih
              simp [q1, q2, q3, whenE, firstE] at hR
              simp [c72_l1b, hw, hlt, Rs.enc, hR, q1, h0, e130, q4, q5, ih]
            · rw [if_neg (fun z => q5 z.1)] at hsn
              subst hsn
              rw [q4] at hR h0 e130 ih
              by_cases q6 : (x.vals.length : Int) = cntR pre
              · simp [q1, q2, q3, q6, whenE, firstE] at hR
                simp [c72_l1b, hw, hlt, Rs.enc, hR, q1, h0, e130, q4, q5, q6, ih]
              · simp [q1, q2, q3, q6, whenE, firstE] at hR
                simp [c72_l1b, hw, hlt, Rs.enc, hR, q1, h0, e130, q4, q5, q6]
          · rw [if_neg (fun z => q4 (by have := z.2; rw [hS] at this; simpa using this))] at hsn
            subst hsn
            simp [q1, q2, q3, q4, whenE, firstE] at hR
            simp [c72_l1b, hw, hlt, Rs.enc, hR, q1, h0, e130, q4, ih]
        · simp [c72_l1b, hw, hlt, Rs.enc, hR, q1, q2, q3, h0, e130, whenE, firstE]
      · rw [q2] at h0
        simp at h0
        simp [c72_l1b, hw, hlt, Rs.enc, hR, q1, q2, h0, whenE, firstE]
theorem S72 (l : List Rs) (hl : ∀ x ∈ l, x.ok) (h : (l.length : Int) < 9223372036854775807) : fn P 72 [.slice (l.map Rs.enc)] = some (ci (resultsE l)) := by
  have hL := L72_1 (P := P) l [] hl (by simpa using h)
  have e0 : cntR [] = -1 := rfl
  simp [e0] at hL
  rw [u72]
  unfold resultsE
  by_cases hm : (l.length : Int) > 160
  · have hm' : (160 : Int) < (l.length : Int) := hm
    simp [c72, hm']
  · have hm' : ¬ (160 : Int) < (l.length : Int) := hm
    simp [c72, hm', hL]
    by_cases h0 : eachE resE [] l = 0 <;> simp [h0]
def Rs.short (x : Rs) : Bool := decide (x.who.length ≤ 40) && decide (x.state.length ≤ 20) && decide (x.vals.length ≤ 10)
theorem L71 : ∀ (r pre : List Rs), ((pre ++ r).length : Int) < 9223372036854775807 →
    execS P (limS P) c71_l0 ⟨[.c (.slice ((pre ++ r).map Rs.enc)), .c (ci pre.length)], []⟩ = if r.all Rs.short then some (.exit 0, ⟨[], []⟩) else some (.ret, ⟨[.c (.bool false)], []⟩) := by
  intro r
  induction r with
  | nil =>
    intro pre h
    rw [r71_l0]
    simp [c71_l0b]
  | cons x r ih =>
    intro pre h
    have ih := ih (pre ++ [x]) (by simpa using h)
    simp [Rs.enc, -List.all_eq_true] at ih h
    have hw : IntKind.i64.wrap (↑pre.length + 1) = ↑pre.length + 1 := wrap64 (by omega) (by omega)
    have hlt : (pre.length : Int) < pre.length + (r.length + 1) := by omega
    have e : x.short = (decide (x.who.length ≤ 40) && decide (x.state.length ≤ 20) && decide (x.vals.length ≤ 10)) := rfl
    have q1 : (40 : Int) < x.who.length ↔ ¬ x.who.length ≤ 40 := by omega
    have q2 : (20 : Int) < x.state.length ↔ ¬ x.state.length ≤ 20 := by omega
    have q3 : (10 : Int) < x.vals.length ↔ ¬ x.vals.length ≤ 10 := by omega
    rw [r71_l0]
    by_cases h1 : x.who.length ≤ 40 <;> by_cases h2 : x.state.length ≤ 20 <;> by_cases h3 : x.vals.length ≤ 10 <;> simp [c71_l0b, hw, hlt, Rs.enc, e, q1, q2, q3, h1, h2, h3, ih, -List.all_eq_true, -Nat.not_le]
def shortRs (l : List Rs) (n : Int) : Bool := !((decide ((l.length : Int) > n) && decide ((l.length : Int) ≤ 160)) || decide ((l.length : Int) > 162)) && l.all Rs.short
theorem S71 (l : List Rs) (n : Int) (h : (l.length : Int) < 9223372036854775807) : fn P 71 [.slice (l.map Rs.enc), ci n] = some (.bool (shortRs l n)) := by
  have hl := L71 (P := P) l [] (by simpa using h)
  simp [-List.all_eq_true] at hl
  rw [u71]
  unfold shortRs
  by_cases h1 : n < (l.length : Int) <;> by_cases h2 : (l.length : Int) ≤ 160 <;> by_cases h3 : (162 : Int) < l.length <;> cases h0 : l.all Rs.short <;> rw [h0] at hl <;> simp [c71, h1, h2, h3, hl]
end LM.G6
namespace LM.G6
open Go LM
variable {P : Nat → Option SFunc} [Has P]
/-- Elements of one cell. -/
def CellOk {α : Type} (enc : α → CV) : Prop := ∀ x, Elem none (enc x)
theorem CellOk.cells {α : Type} {enc : α → CV} (h : CellOk enc) (x : α) : CV.cells (enc x) = [enc x] := (h x).1
theorem CellOk.flat {α : Type} {enc : α → CV} (h : CellOk enc) (x : α) : flatAll [LV.c (enc x)] = true := by have := (h x).2; simpa [flatAll] using this
def ltC {α : Type} (c : α → α → Int) (x y : α) : Bool := decide (c x y < 0)
variable {α : Type} {enc : α → CV} {f : Nat} {B : List CV} {c : α → α → Int} {H : Heap} {b g : Nat} {cp : Option Nat}
theorem take_set (X : LB) : List.take H.length (H.set b X) = H.set b X := List.take_of_length_le (by simp)
end LM.G6
namespace LM.G6
open Go LM
variable {P : Nat → Option SFunc} [Has P]
/-- The cells of results. -/
def cel3 (x : Rs) : List LV := [.c (.str x.who), .c (.str x.state), .c (.slice (x.vals.map ci))]
def cR (xs : List Rs) : List LV := xs.flatMap cel3
theorem cR_length (xs : List Rs) : (cR xs).length = xs.length * 3 := by
  induction xs with
  | nil => rfl
  | cons x r ih => simp [cR, cel3] at ih ⊢; omega
theorem cR_append (xs ys : List Rs) : cR (xs ++ ys) = cR xs ++ cR ys := by simp [cR]
theorem cR_cons (x : Rs) (ys : List Rs) : cR (x :: ys) = cel3 x ++ cR ys := by simp [cR]
theorem cellsOf_rs (xs : List Rs) : cellsOf (xs.map Rs.enc) = cR xs := by
  induction xs with
  | nil => rfl
  | cons x r ih =>
    have : cellsOf ((x :: r).map Rs.enc) = cel3 x ++ cellsOf (r.map Rs.enc) := rfl
    rw [this, ih]
    rfl
theorem under_cR (n : Nat) (xs : List Rs) : underL n (cR xs) = true := by rw [← cellsOf_rs]; exact underL_cellsOf _ _
theorem cR_load {Pr Po : List Rs} {x : Rs} {W : List LV} {k : Nat} (h : k = Pr.length) : ((cR (Pr ++ x :: Po) ++ W).drop (k * 3)).take 3 = cel3 x := by
  subst h
  rw [cR_append, cR_cons, List.append_assoc, List.drop_left' (by rw [cR_length])]
  simp [cel3]
theorem cR_store {Pr Po : List Rs} {x y : Rs} {W : List LV} {k : Nat} (h : k = Pr.length) : setCells (cR (Pr ++ x :: Po) ++ W) (k * 3) (cel3 y) = cR (Pr ++ y :: Po) ++ W := by
  subst h
  have e1 : cR (Pr ++ x :: Po) ++ W = cR Pr ++ (.c (.str x.who) :: .c (.str x.state) :: .c (.slice (x.vals.map ci)) :: (cR Po ++ W)) := by rw [cR_append, cR_cons]; simp [cel3]
  have e2 : cR (Pr ++ y :: Po) ++ W = cR Pr ++ (.c (.str y.who) :: .c (.str y.state) :: .c (.slice (y.vals.map ci)) :: (cR Po ++ W)) := by rw [cR_append, cR_cons]; simp [cel3]
  rw [e1, e2]
  simp only [setCells, cel3]
  have hl := cR_length Pr
  rw [List.set_append_right _ _ (by omega), List.set_append_right _ _ (by omega), List.set_append_right _ _ (by omega), hl]
  have a1 : Pr.length * 3 - Pr.length * 3 = 0 := by omega
  have a2 : Pr.length * 3 + 1 - Pr.length * 3 = 1 := by omega
  have a3 : Pr.length * 3 + 1 + 1 - Pr.length * 3 = 2 := by omega
  simp only [a1, a2, a3, List.set_cons_zero, List.set_cons_succ]
def Rs.vok (x : Rs) : Prop := (x.vals.length : Int) < 9223372036854775807
/-- A comparison of results. -/
def CmpR (P : Nat → Option SFunc) (f : Nat) (B : List CV) (c : Rs → Rs → Int) : Prop :=
  ∀ (pos : Option Nat) (q : Bool) (x y : Rs) (h : Heap), x.vok → y.vok → callS P (limS P) pos q f (.c x.enc :: .c y.enc :: B.map .c) h = some (.c (ci (c x y)), h)
variable {f : Nat} {B : List CV} {c : Rs → Rs → Int} {H : Heap} {b g : Nat} {cp : Option Nat} {W : List LV}
theorem L173_0 (hC : CmpR P f B c) (hb : b < H.length) (hg : g ≠ 0) (A : List Rs) (a bb i : Int) (ha : a = A.length) (n : Nat) (hn : n < 1000000) : ∀ (L : List Rs) (x : Rs) (Q : List Rs), x.vok → (∀ y ∈ L, y.vok) → n = A.length + L.length + 1 + Q.length →
    execS P (limS P) c173_l0 ⟨[.slice b g 0 n (some 3) cp, .c (ci a), .c (ci bb), .c (.func f [] B), .c (ci i), .c (ci (A.length + L.length))], H.set b (.cells g (cR (A ++ L.reverse ++ x :: Q) ++ W) 0)⟩ =
      some (.exit 2, ⟨[.slice b g 0 n (some 3) cp, .c (ci a), .c (ci bb), .c (.func f [] B), .c (ci i)], H.set b (.cells g (cR (A ++ insL (ltC c) x L Q) ++ W) 0)⟩) := by
  subst ha
  intro L
  induction L with
  | nil =>
    intro x Q hvx hvL h
    rw [r173_l0]
    simp [c173_l0b, insL]
  | cons y L ih =>
    intro x Q hvx hvL h
    have ih := ih x (y :: Q) hvx (fun z hz => hvL z (by simp [hz])) (by simp at h ⊢; omega)
    simp at h
    have hlt : (A.length : Int) < A.length + (L.length + 1) := by omega
    have hw : IntKind.i64.wrap ((A.length : Int) + (L.length + 1) - 1) = A.length + L.length := by
      rw [show (A.length : Int) + (L.length + 1) - 1 = A.length + L.length from by omega]; exact wrap64 (by omega) (by omega)
    have t1 : ((A.length : Int) + (L.length + 1)).toNat = A.length + (L.length + 1) := by omega
    have t2 : ((A.length : Int) + L.length).toNat = A.length + L.length := by omega
    have i1 : (A.length : Int) + (L.length + 1) < n := by omega
    have i2 : (A.length : Int) + L.length < n := by omega
    have j1 : 0 ≤ (A.length : Int) + (L.length + 1) := by omega
    have j2 : 0 ≤ (A.length : Int) + L.length := by omega
    have e : A ++ (y :: L).reverse ++ x :: Q = (A ++ L.reverse) ++ y :: (x :: Q) := by simp
    have e' : (A ++ L.reverse) ++ y :: (x :: Q) = (A ++ L.reverse ++ [y]) ++ x :: Q := by simp
    have e3 : (A ++ L.reverse) ++ y :: (y :: Q) = (A ++ L.reverse ++ [y]) ++ y :: Q := by simp
    have e4 : A ++ L.reverse ++ x :: (y :: Q) = (A ++ L.reverse) ++ x :: (y :: Q) := rfl
    have g1 := cR_load (Pr := A ++ L.reverse) (x := y) (Po := x :: Q) (W := W) (k := A.length + L.length) (by simp)
    have g2 : ((cR ((A ++ L.reverse) ++ y :: (x :: Q)) ++ W).drop ((A.length + (L.length + 1)) * 3)).take 3 = cel3 x := by rw [e']; exact cR_load (by simp)
    have s1 : setCells (cR ((A ++ L.reverse) ++ y :: (x :: Q)) ++ W) ((A.length + (L.length + 1)) * 3) (cel3 y) = cR ((A ++ L.reverse) ++ y :: (y :: Q)) ++ W := by rw [e', e3]; exact cR_store (by simp)
    have s2 := cR_store (Pr := A ++ L.reverse) (x := y) (y := x) (Po := y :: Q) (W := W) (k := A.length + L.length) (by simp)
    have l1 : (cR ((A ++ L.reverse) ++ y :: (x :: Q)) ++ W).length = n * 3 + W.length := by rw [List.length_append, cR_length]; simp; omega
    have l2 : (cR ((A ++ L.reverse) ++ y :: (y :: Q)) ++ W).length = n * 3 + W.length := by rw [List.length_append, cR_length]; simp; omega
    have k1 : (A.length + (L.length + 1)) * 3 + 3 ≤ n * 3 + W.length := by omega
    have k2 : (A.length + L.length) * 3 + 3 ≤ n * 3 + W.length := by omega
    have p1 : 3 ≤ n * 3 + W.length - (A.length + (L.length + 1)) * 3 := by omega
    have p2 : 3 ≤ n * 3 + W.length - (A.length + L.length) * 3 := by omega
    have hc := fun pos q h => hC pos q x y h hvx (hvL y (by simp))
    rw [e]
    rw [r173_l0]
    simp only [insL]
    rw [e4] at ih
    have hD1 : cR (A ++ (L.reverse ++ y :: x :: Q)) ++ W = cR ((A ++ L.reverse) ++ y :: (x :: Q)) ++ W := by simp
    generalize cR ((A ++ L.reverse) ++ y :: (x :: Q)) ++ W = D1 at *
    generalize cR ((A ++ L.reverse) ++ y :: (y :: Q)) ++ W = D2 at *
    generalize cR ((A ++ L.reverse) ++ x :: (y :: Q)) ++ W = D3 at *
    simp only [cel3, Rs.enc] at g1 g2 s1 s2 hc
    by_cases hk : c x y < 0
    · have hl : ltC c x y = true := decide_eq_true hk
      simp [c173_l0b, hb, hlt, hw, t1, t2, i1, i2, j1, j2, g1, g2, s1, s2, l1, l2, hc, hk, hl, take_set, k1, k2, p1, p2, ih]
    · have hl : ltC c x y = false := decide_eq_false hk
      simp [c173_l0b, hb, hlt, hw, t1, t2, i1, i2, j1, j2, g1, g2, l1, hc, hk, hl, take_set, k1, k2, p1, p2, hD1]
theorem L173_1 (hC : CmpR P f B c) (hb : b < H.length) (hg : g ≠ 0) (A T : List Rs) (n : Nat) (hn : n < 1000000) (bb : Int) : ∀ (U S : List Rs), (∀ y ∈ S ++ U, y.vok) → n = A.length + S.length + U.length + T.length → bb = A.length + S.length + U.length →
    execS P (limS P) c173_l1 ⟨[.slice b g 0 n (some 3) cp, .c (ci A.length), .c (ci bb), .c (.func f [] B), .c (ci (A.length + S.length))], H.set b (.cells g (cR (A ++ (S ++ (U ++ T))) ++ W) 0)⟩ =
      some (.exit 0, ⟨[], H.set b (.cells g (cR (A ++ (sortI (ltC c) S U ++ T)) ++ W) 0)⟩) := by
  intro U
  induction U with
  | nil =>
    intro S hv h1 h2
    have hlt : ¬ (A.length : Int) + S.length < bb := by simp at h2; omega
    rw [r173_l1]
    simp [c173_l1b, hlt, sortI]
  | cons x U ih =>
    intro S hv h1 h2
    have ih := ih (insS (ltC c) x S) (fun y hy => by
      rcases List.mem_append.1 hy with q | q
      · rcases List.mem_cons.1 ((insS_perm x S).mem_iff.1 q) with rfl | q
        · exact hv y (by simp)
        · exact hv y (by simp [q])
      · exact hv y (by simp [q])) (by rw [insS_length]; simp at h1 ⊢; omega) (by rw [insS_length]; simp at h2 ⊢; omega)
    have hin := L173_0 (P := P) (cp := cp) (W := W) hC hb hg A A.length bb (A.length + S.length) rfl n hn S.reverse x (U ++ T) (hv x (by simp)) (fun y hy => hv y (by simp at hy; simp [hy])) (by simp at h1 ⊢; omega)
    have e : insL (ltC c) x S.reverse (U ++ T) = insS (ltC c) x S ++ (U ++ T) := insL_append x S.reverse [] (U ++ T)
    rw [e] at hin
    rw [insS_length] at ih
    simp at hin ih h1 h2
    have hlt : (A.length : Int) + S.length < bb := by omega
    have hw : IntKind.i64.wrap ((A.length : Int) + S.length + 1) = (A.length : Int) + (S.length + 1) := by
      rw [Int.add_assoc]; exact wrap64 (by omega) (by omega)
    rw [r173_l1]
    simp only [sortI]
    simp [c173_l1b, hlt, hin, hw, hb, take_set, ih]
theorem S173 (hC : CmpR P f B c) (hb : b < H.length) (hg : g ≠ 0) (U : List Rs) (hv : ∀ y ∈ U, y.vok) (n : Nat) (hn : n < 1000000) (h : n = U.length) :
    sfn P 173 [.slice b g 0 n (some 3) cp, .c (ci 0), .c (ci n), .c (.func f [] B)] (H.set b (.cells g (cR U ++ W) 0)) = some (.c (.tuple []), H.set b (.cells g (cR (sortI (ltC c) [] U) ++ W) 0)) := by
  have hw : IntKind.i64.wrap (0 + 1) = 1 := rfl
  have hw1 : IntKind.i64.wrap 1 = 1 := rfl
  rw [u173]
  cases U with
  | nil =>
    have h0 : n = 0 := by simpa using h
    subst h0
    have hL : execS P (limS P) c173_l1 ⟨[.slice b g 0 0 (some 3) cp, .c (ci 0), .c (ci 0), .c (.func f [] B), .c (ci 1)], H.set b (.cells g (cR [] ++ W) 0)⟩ = some (.exit 0, ⟨[], H.set b (.cells g (cR [] ++ W) 0)⟩) := by
      rw [r173_l1]
      simp [c173_l1b]
    simp [c173, hw1, hL, sortI]
  | cons x U =>
    have hL := L173_1 (P := P) (cp := cp) (W := W) hC hb hg [] [] n hn n U [x] (by simpa using hv) (by simp at h ⊢; omega) (by simp at h ⊢; omega)
    have e : insS (ltC c) x [] = [x] := rfl
    simp at hL
    simp [c173, hw1, hL, sortI, e]
theorem S171 (hC : CmpR P f B c) (hb : b < H.length) (hg : g ≠ 0) (xs : List Rs) (hv : ∀ y ∈ xs, y.vok) (n : Nat) (hn : n < 20) (h : n = xs.length) :
    sfn P 171 [.slice b g 0 n (some 3) cp, .c (ci n), .c (.func f [] B)] (H.set b (.cells g (cR xs ++ W) 0)) = some (.c (.tuple []), H.set b (.cells g (cR (sortI (ltC c) [] xs) ++ W) 0)) := by
  have hs := S173 (P := P) (cp := cp) (W := W) hC hb hg xs hv n (by omega) h
  have h1 : ¬ (20 : Int) ≤ n := by omega
  have h2 : ¬ (20 : Int) < n := by omega
  have l0 : ∀ E, execS P (limS P) c171_l0 ⟨[.slice b g 0 n (some 3) cp, .c (ci n), .c (.func f [] B), .c (ci 20), .c (ci 0), .c (ci 20)], E⟩ = some (.exit 0, ⟨[.slice b g 0 n (some 3) cp, .c (ci n), .c (.func f [] B), .c (ci 20), .c (ci 0)], E⟩) := by
    intro E
    rw [r171_l0]
    simp [c171_l0b, h1]
  have l2 : ∀ E, execS P (limS P) c171_l2 ⟨[.slice b g 0 n (some 3) cp, .c (ci n), .c (.func f [] B), .c (ci 20)], E⟩ = some (.exit 2, ⟨[], E⟩) := by
    intro E
    rw [r171_l2]
    simp [c171_l2b, h2]
  rw [u171]
  simp [c171, l0, l2, hs, hb, take_set, frzFuncs_nil, frzFuncs_c, frzFuncs_slice]
theorem S163 (hC : CmpR P f B c) (hb : b < H.length) (hg : g ≠ 0) (xs : List Rs) (hv : ∀ y ∈ xs, y.vok) (n : Nat) (hn : n < 20) (h : n = xs.length) :
    sfn P 163 [.slice b g 0 n (some 3) cp, .c (.func f [] B)] (H.set b (.cells g (cR xs ++ W) 0)) = some (.c (.tuple []), H.set b (.cells g (cR (sortI (ltC c) [] xs) ++ W) 0)) := by
  have hs := S171 (P := P) (cp := cp) (W := W) hC hb hg xs hv n hn h
  rw [u163]
  simp [c163, hs, hb, take_set, frzFuncs_nil, frzFuncs_c, frzFuncs_slice]
end LM.G6
namespace LM.G6
open Go LM
variable {P : Nat → Option SFunc} [Has P]
variable {f : Nat} {B : List CV} {p : Rs → Bool} {H : Heap} {b g : Nat} {cp : Option Nat} {W : List LV}
theorem cR_bound {Pr Po : List Rs} {x : Rs} : (Pr.length) * 3 + 3 ≤ (cR (Pr ++ x :: Po)).length ∧ 3 ≤ (cR (Pr ++ x :: Po)).length - Pr.length * 3 := by
  rw [cR_length]; simp; omega
theorem L160l (hp : PredOk P f B p) (hb : b < H.length) (hg : g ≠ 0) (n : Nat) (hn : n < 1000000) : ∀ (l pre : List Rs), n = (pre ++ l).length →
    execS P (limS P) c160_l0 ⟨[.slice b g 0 n (some 3) cp, .c (.func f [] B), .c (ci n), .c (ci pre.length)], H.set b (.cells g (cR (pre ++ l)) 0)⟩ = if l.any p then some (.ret, ⟨[.c (ci (idxP p pre.length l))], H.set b (.cells g (cR (pre ++ l)) 0)⟩) else some (.exit 0, ⟨[], H.set b (.cells g (cR (pre ++ l)) 0)⟩) := by
  intro l
  induction l with
  | nil =>
    intro pre h
    have : (pre.length : Int) = n := by simp at h; omega
    rw [r160_l0]
    simp [c160_l0b, this]
  | cons x r ih =>
    intro pre h
    have ih := ih (pre ++ [x]) (by simpa using h)
    have hc := fun pos q h => hp pos q x h
    have g1 := cR_load (Pr := pre) (x := x) (Po := r) (W := []) (k := pre.length) rfl
    have g2 := cR_bound (Pr := pre) (x := x) (Po := r)
    rw [List.append_nil] at g1
    have e : pre ++ [x] ++ r = pre ++ x :: r := by simp
    rw [e] at ih
    simp at h
    have hw : IntKind.i64.wrap (↑pre.length + 1) = ↑pre.length + 1 := wrap64 (by omega) (by omega)
    have hlt : (pre.length : Int) < n := by omega
    generalize cR (pre ++ x :: r) = D at *
    simp [-List.any_eq_true] at ih
    simp only [cel3, Rs.enc] at g1 hc
    rw [r160_l0]
    cases h0 : p x
    · simp only [h0] at hc
      simp [c160_l0b, hw, hlt, hb, g1, g2, hc, idxP, h0, take_set, ih, -List.any_eq_true]
    · simp only [h0] at hc
      simp [c160_l0b, hw, hlt, hb, g1, g2, hc, idxP, h0, -List.any_eq_true]
theorem S160l (hp : PredOk P f B p) (hb : b < H.length) (hg : g ≠ 0) (l : List Rs) (hn : l.length < 1000000) : sfn P 160 [.slice b g 0 l.length (some 3) cp, .c (.func f [] B)] (H.set b (.cells g (cR l) 0)) = some (.c (ci (idxP p 0 l)), H.set b (.cells g (cR l) 0)) := by
  have hl := L160l (P := P) (cp := cp) hp hb hg l.length hn l [] rfl
  simp [-List.any_eq_true] at hl
  rw [u160]
  cases h0 : l.any p
  · rw [h0] at hl
    simp [c160, hl, idxP_none h0]
  · rw [h0] at hl
    simp [c160, hl]
theorem L136 (hp : PredOk P f B p) (hb : b < H.length) (hg : g ≠ 0) (hU : ∀ D : List LV, underL H.length D = true → underB H.length (H.set b (.cells g D 0)) = true) (n : Nat) (hn : n < 1000000) : ∀ (R K M : List Rs) (hM : M ≠ []), n = K.length + M.length + R.length →
    ∃ M', K.length + (R.filter (fun x => !p x)).length + M'.length = n ∧ execS P (limS P) c136_l0 ⟨[.slice b g 0 n (some 3) cp, .c (.func f [] B), .c (ci K.length), .c (ci (K.length + M.length))], H.set b (.cells g (cR (K ++ (M ++ R))) 0)⟩ =
      some (.exit 0, ⟨[.slice b g 0 n (some 3) cp, .c (ci (K ++ R.filter (fun x => !p x)).length)], H.set b (.cells g (cR ((K ++ R.filter (fun x => !p x)) ++ M')) 0)⟩) := by
  intro R
  induction R with
  | nil =>
    intro K M hM h
    refine ⟨M, by simp at h ⊢; omega, ?_⟩
    have hlt : ¬ (K.length : Int) + M.length < n := by simp at h; omega
    rw [r136_l0]
    simp [c136_l0b, hlt]
  | cons x R ih =>
    intro K M hM h
    simp at h
    have hw : IntKind.i64.wrap ((K.length : Int) + M.length + 1) = (K.length : Int) + M.length + 1 := wrap64 (by omega) (by omega)
    have hw2 : IntKind.i64.wrap ((K.length : Int) + 1) = (K.length : Int) + 1 := wrap64 (by omega) (by omega)
    have hlt : (K.length : Int) + M.length < n := by omega
    have j1 : 0 ≤ (K.length : Int) + M.length := by omega
    have t1 : ((K.length : Int) + M.length).toNat = K.length + M.length := by omega
    have e1 : K ++ (M ++ x :: R) = (K ++ M) ++ x :: R := by simp
    have g1 := cR_load (Pr := K ++ M) (x := x) (Po := R) (W := []) (k := K.length + M.length) (by simp)
    have g2 := cR_bound (Pr := K ++ M) (x := x) (Po := R)
    rw [List.append_nil] at g1
    rw [← e1] at g1 g2
    simp only [List.length_append] at g2
    have hc := fun pos q h => hp pos q x h
    cases h0 : p x
    · cases M with
      | nil => exact absurd rfl hM
      | cons m M =>
        have s1 := cR_store (Pr := K) (x := m) (y := x) (Po := M ++ x :: R) (W := []) (k := K.length) rfl
        simp only [List.append_nil] at s1
        have e2 : K ++ ((m :: M) ++ x :: R) = K ++ m :: (M ++ x :: R) := rfl
        obtain ⟨M', i1, i2⟩ := ih (K ++ [x]) (M ++ [x]) (by simp) (by simp at h ⊢; omega)
        refine ⟨M', by simp [h0] at i1 ⊢; omega, ?_⟩
        have e3 : K ++ x :: (M ++ x :: R) = (K ++ [x]) ++ ((M ++ [x]) ++ R) := by simp
        rw [e3] at s1
        have hf : (x :: R).filter (fun x => !p x) = x :: R.filter (fun x => !p x) := by simp [h0]
        have hl : (cR (K ++ ((m :: M) ++ x :: R))).length = n * 3 := by rw [cR_length]; simp at h ⊢; omega
        have hl2 : (cR ((K ++ [x]) ++ ((M ++ [x]) ++ R))).length = n * 3 := by rw [cR_length]; simp at h ⊢; omega
        rw [hl] at g2
        rw [← e2] at s1
        have hu := hU _ (under_cR H.length ((K ++ [x]) ++ ((M ++ [x]) ++ R)))
        have hKn : (K.length : Int) < n := by simp at h; omega
        have k1 : K.length * 3 + 3 ≤ n * 3 := by simp at h; omega
        have e5 : (K ++ [x]) ++ R.filter (fun x => !p x) = K ++ x :: R.filter (fun x => !p x) := by simp
        rw [e5] at i2
        rw [hf]
        simp only [h0] at hc
        generalize cR (K ++ ((m :: M) ++ x :: R)) = D1 at *
        generalize cR ((K ++ [x]) ++ ((M ++ [x]) ++ R)) = D2 at *
        generalize cR (K ++ x :: R.filter (fun x => !p x) ++ M') = D3 at *
        simp only [cel3, Rs.enc] at g1 hc s1
        have hget : ∀ X Y : LB, (H.set b X ++ [Y])[b]? = some X := fun X Y => by rw [List.getElem?_append_left (by simpa using hb)]; simp [hb]
        simp only [setCells] at s1
        rw [r136_l0]
        simp at i2 hw hlt j1 t1 g1 g2 ⊢
        have e6 : (K.length : Int) + 1 + (M.length + 1) = K.length + (M.length + 1) + 1 := by omega
        rw [e6] at i2
        simp [c136_l0b, hw, hw2, hlt, j1, t1, hb, g1, g2, s1, hl, hl2, hc, hKn, k1, take_set, hu, hget, i2]
    · obtain ⟨M', i1, i2⟩ := ih K (M ++ [x]) (by simp) (by simp at h ⊢; omega)
      have hf : (x :: R).filter (fun x => !p x) = R.filter (fun x => !p x) := by simp [h0]
      rw [hf]
      refine ⟨M', i1, ?_⟩
      have e3 : K ++ ((M ++ [x]) ++ R) = K ++ (M ++ x :: R) := by simp
      rw [e3] at i2
      have hl : (cR (K ++ (M ++ x :: R))).length = n * 3 := by rw [cR_length]; simp; omega
      rw [hl] at g2
      have hu := hU _ (under_cR H.length (K ++ (M ++ x :: R)))
      simp only [h0] at hc
      generalize cR (K ++ (M ++ x :: R)) = D1 at *
      generalize cR (K ++ R.filter (fun x => !p x) ++ M') = D3 at *
      simp only [cel3, Rs.enc] at g1 hc
      have hget : ∀ X Y : LB, (H.set b X ++ [Y])[b]? = some X := fun X Y => by rw [List.getElem?_append_left (by simpa using hb)]; simp [hb]
      rw [r136_l0]
      simp at i2 ⊢
      have e6 : (K.length : Int) + (M.length + 1) = K.length + M.length + 1 := by omega
      rw [e6] at i2
      simp [c136_l0b, hw, hlt, j1, t1, hb, g1, g2, hl, hc, take_set, hu, hget, i2]
end LM.G6
namespace LM.G6
open Go LM
variable {P : Nat → Option SFunc} [Has P]
variable {f : Nat} {B : List CV} {p : Rs → Bool} {H : Heap} {b g : Nat} {cp : Option Nat} {W : List LV}
theorem filter_split {p : Rs → Bool} : ∀ {xs : List Rs}, xs.any p = true → ∃ K m R, xs = K ++ m :: R ∧ idxP p 0 xs = (K.length : Nat) ∧ xs.filter (fun x => !p x) = K ++ R.filter (fun x => !p x) := by
  have key : ∀ (xs : List Rs) (n : Nat), xs.any p = true → ∃ K m R, xs = K ++ m :: R ∧ idxP p n xs = ((n + K.length : Nat) : Int) ∧ xs.filter (fun x => !p x) = K ++ R.filter (fun x => !p x) := by
    intro xs
    induction xs with
    | nil => intro n h; simp at h
    | cons x r ih =>
      intro n h
      cases h0 : p x
      · obtain ⟨K, m, R, e1, e2, e3⟩ := ih (n + 1) (by simpa [h0] using h)
        refine ⟨x :: K, m, R, by rw [e1]; rfl, ?_, by simp [h0, e3]⟩
        rw [idxP, if_neg (by simp [h0]), e2]
        congr 1
        simp
        omega
      · exact ⟨[], x, r, rfl, by rw [idxP, if_pos h0]; simp, by simp [h0]⟩
  intro xs h
  obtain ⟨K, m, R, e1, e2, e3⟩ := key xs 0 h
  exact ⟨K, m, R, e1, by rw [e2]; simp, e3⟩
theorem set_all : ∀ (Z A C : List LV), Z.length = C.length → setCells (A ++ C) A.length Z = A ++ Z
  | [], A, C, h => by
    have : C = [] := List.eq_nil_of_length_eq_zero h.symm
    subst this
    rfl
  | z :: Z, A, [], h => by simp at h
  | z :: Z, A, c :: C, h => by
    have ih := set_all Z (A ++ [z]) C (by simpa using h)
    have e : (A ++ c :: C).set A.length z = (A ++ [z]) ++ C := by simp
    rw [setCells, e]
    simpa using ih
theorem repeatL_len (z : List LV) : ∀ n, (repeatL n z).length = n * z.length
  | 0 => by simp [repeatL]
  | n + 1 => by
    have := repeatL_len z n
    have e : repeatL (n + 1) z = z ++ repeatL n z := by simp [repeatL, List.replicate_succ]
    rw [e, List.length_append, this, Nat.add_mul]
    omega
theorem under_repeat (m : Nat) (z : List LV) (h : underL m z = true) : ∀ n, underL m (repeatL n z) = true
  | 0 => rfl
  | n + 1 => by
    have := under_repeat m z h n
    have e : repeatL (n + 1) z = z ++ repeatL n z := by simp [repeatL, List.replicate_succ]
    rw [e, underL_append, h, this]
    rfl
theorem S136 (hp : PredOk P f B p) (hb : b < H.length) (hg : g ≠ 0) (hU : ∀ D : List LV, underL (H.length + 1) D = true → underB (H.length + 1) ((H ++ [LB.cells 1 [] 0]).set b (.cells g D 0)) = true) (xs : List Rs) (hn : xs.length < 1000000) :
    ∃ W cp', (∀ m, underL m W = true) ∧ sfn P 136 [.slice b g 0 xs.length (some 3) none, .c (.func f [] B)] (H.set b (.cells g (cR xs) 0)) = some (.slice b g 0 (xs.filter (fun x => !p x)).length (some 3) cp', (H ++ [LB.cells 1 [] 0]).set b (.cells g (cR (xs.filter (fun x => !p x)) ++ W) 0)) := by
  have hs : ∀ X, H.set b X ++ [LB.cells 1 [] 0] = (H ++ [LB.cells 1 [] 0]).set b X := fun X => (List.set_append_left _ _ hb).symm
  have hb1 : b < (H ++ [LB.cells 1 [] 0]).length := by simp; omega
  have e160 := S160l (P := P) (cp := none) hp hb1 hg xs hn
  cases hq : xs.any p
  · have hf : xs.filter (fun x => !p x) = xs := by
      rw [List.filter_eq_self]
      intro x hx
      have := List.any_eq_false.1 hq x hx
      simpa using this
    refine ⟨[], none, fun _ => rfl, ?_⟩
    rw [hf, u136]
    rw [idxP_none hq] at e160
    simp [c136, hs, frzFuncs_nil, frzFuncs_c, frzFuncs_slice, e160]
  · obtain ⟨K, m, R, e1, e2, e3⟩ := filter_split hq
    rw [e2] at e160
    obtain ⟨M', i1, i2⟩ := L136 (P := P) (H := H ++ [LB.cells 1 [] 0]) (cp := none) hp hb1 hg (by simpa using hU) xs.length hn R K [m] (by simp) (by rw [e1]; simp; omega)
    have e4 : K ++ ([m] ++ R) = xs := by rw [e1]; simp
    rw [e4, ← e3] at i2
    have hFl : (xs.filter (fun x => !p x)).length = K.length + (R.filter (fun x => !p x)).length := by rw [e3]; simp
    rw [← hFl] at i1
    have hlt : (xs.filter (fun x => !p x)).length < xs.length := by
      rw [hFl, e1]
      have := List.length_filter_le (fun x => !p x) R
      simp
      omega
    have hKx : K.length < xs.length := by rw [e1]; simp
    generalize xs.filter (fun x => !p x) = F at *
    refine ⟨repeatL M'.length [LV.c (.str []), LV.c (.str []), LV.nil], none, fun m => under_repeat m _ rfl _, ?_⟩
    have hset := set_all (repeatL M'.length [LV.c (.str []), LV.c (.str []), LV.nil]) (cR F) (cR M') (by rw [repeatL_len, cR_length]; simp)
    rw [← cR_append, cR_length] at hset
    have hcl : (cR (F ++ M')).length = xs.length * 3 := by rw [cR_length]; simp; omega
    have hd : xs.length - F.length = M'.length := by omega
    have q1 : (F.length : Int) ≤ xs.length := by omega
    have q2 : F.length ≤ xs.length := by omega
    have q3 : ¬ M'.length = 0 := by omega
    have q4 : F.length * 3 + M'.length * 3 ≤ xs.length * 3 := by omega
    have q5 : ¬ (K.length : Int) = -1 := by omega
    have hw : IntKind.i64.wrap ((K.length : Int) + 1) = (K.length : Int) + 1 := wrap64 (by omega) (by omega)
    have hZ : (List.replicate M'.length [LV.c (.str []), LV.c (.str []), LV.nil]).flatten = repeatL M'.length [LV.c (.str []), LV.c (.str []), LV.nil] := rfl
    generalize cR (F ++ M') = D1 at *
    generalize cR F = D2 at *
    generalize repeatL M'.length [LV.c (.str []), LV.c (.str []), LV.nil] = Z at *
    have hs' : ∀ X, (H ++ [LB.cells 1 [] 0]).set b X = H.set b X ++ [LB.cells 1 [] 0] := fun X => (hs X).symm
    have hget : ∀ X Y : LB, (H.set b X ++ [Y])[b]? = some X := fun X Y => by rw [List.getElem?_append_left (by simpa using hb)]; simp [hb]
    simp only [hs'] at i2 e160 ⊢
    simp at i2
    rw [u136]
    by_cases hF : F = []
    · have hF0 : F.length = 0 := by rw [hF]; rfl
      have hx0 : ¬ xs.length = 0 := by omega
      have hx1 : M'.length = xs.length := by omega
      have hx2 : ¬ xs = [] := fun q => hx0 (by rw [q]; rfl)
      have hM0 : ¬ M' = [] := fun q => q3 (by rw [q]; rfl)
      rw [hF0] at hset
      simp at hset
      simp [c136, frzFuncs_nil, frzFuncs_c, frzFuncs_slice, e160, q5, hw, i2, q1, hb, hget, hF, hF0, hx0, hx2, hcl]
      rw [← hx1, hZ, hset]
    · simp [c136, frzFuncs_nil, frzFuncs_c, frzFuncs_slice, e160, q5, hw, i2, q1, hb, hget, hF, hlt, hd, q3, q4, hcl]
      rw [hZ, hset]
end LM.G6
namespace LM.G6
open Go LM
variable {P : Nat → Option SFunc} [Has P]
def cmpJ (a b : Int) : Int := if a < b then -1 else if b < a then 1 else 0
theorem S96j (a b : Int) : fn P 96 [ci a, ci b] = some (ci (cmpJ a b)) := by
  have e : ∀ x : Int, fn P 143 [ci x] = some (.bool false) := fun x => by rw [u143]; simp [c143]
  rw [u96]
  unfold cmpJ
  by_cases h1 : a < b <;> by_cases h2 : b < a <;> simp [c96, e, h1, h2]
theorem cmpJ_zero (a b : Int) : cmpJ a b = 0 ↔ a = b := by unfold cmpJ; (repeat' split) <;> omega
/-- The order of lists of numbers, by the first difference. -/
def cmpL : List Int → List Int → Int
  | [], [] => 0
  | [], _ :: _ => -1
  | _ :: _, [] => 1
  | a :: x, b :: y => if a = b then cmpL x y else cmpJ a b
def loopC : List Int → List Int → Option Int
  | [], _ => none
  | _ :: _, [] => some 1
  | a :: x, b :: y => if a = b then loopC x y else some (cmpJ a b)
theorem cmpL_loop : ∀ x y : List Int, cmpL x y = match loopC x y with
    | some v => v
    | none => if x.length < y.length then -1 else 0
  | [], [] => rfl
  | [], b :: y => by simp [cmpL, loopC]
  | a :: x, [] => rfl
  | a :: x, b :: y => by
    have ih := cmpL_loop x y
    simp only [cmpL, loopC]
    by_cases h : a = b
    · rw [if_pos h, if_pos h, ih]
      cases loopC x y <;> simp
    · rw [if_neg h, if_neg h]
theorem L165 : ∀ (x y pa pb : List Int), pa.length = pb.length → ((pa ++ x).length : Int) < 9223372036854775807 → ((pb ++ y).length : Int) < 9223372036854775807 →
    execS P (limS P) c165_l0 ⟨[.c (.slice ((pa ++ x).map ci)), .c (.slice ((pb ++ y).map ci)), .c (.slice ((pa ++ x).map ci)), .c (ci (pa ++ x).length), .c (ci pa.length)], []⟩ =
      match loopC x y with
      | some v => some (.ret, ⟨[.c (ci v)], []⟩)
      | none => some (.exit 0, ⟨[.c (.slice ((pa ++ x).map ci)), .c (.slice ((pb ++ y).map ci))], []⟩) := by
  intro x
  induction x with
  | nil =>
    intro y pa pb hp h1 h2
    rw [r165_l0]
    simp [c165_l0b, loopC]
  | cons a x ih =>
    intro y pa pb hp h1 h2
    simp at h1 h2
    have hw : IntKind.i64.wrap (↑pa.length + 1) = ↑pa.length + 1 := wrap64 (by omega) (by omega)
    have hlt : (pa.length : Int) < pa.length + (x.length + 1) := by omega
    cases y with
    | nil =>
      have hge : (pb.length : Int) ≤ pa.length := by omega
      rw [r165_l0]
      simp [c165_l0b, loopC, hlt, hge]
    | cons b y =>
      have ih := ih y (pa ++ [a]) (pb ++ [b]) (by simp [hp]) (by simp; omega) (by simp at h2 ⊢; omega)
      have e96 := S96j (P := P) a b
      simp at h2
      have hge : ¬ (pb.length : Int) + (y.length + 1) ≤ pa.length := by omega
      have hlt2 : (pa.length : Int) < pb.length + (y.length + 1) := by omega
      have g1 : (pb.map ci ++ ci b :: y.map ci)[pa.length]? = some (ci b) := by rw [hp]; simp
      obtain ⟨_, g1'⟩ := List.getElem?_eq_some_iff.1 g1
      simp at ih
      rw [r165_l0]
      simp only [loopC]
      by_cases h : a = b
      · have e0 : cmpJ a b = 0 := (cmpJ_zero a b).2 h
        rw [e0] at e96
        rw [if_pos h]
        simp [c165_l0b, hw, hlt, hge, hlt2, g1, g1', e96, ih]
      · have e0 : ¬ cmpJ a b = 0 := fun q => h ((cmpJ_zero a b).1 q)
        rw [if_neg h]
        simp [c165_l0b, hw, hlt, hge, hlt2, g1, g1', e96, e0]
theorem S165 (x y : List Int) (h1 : (x.length : Int) < 9223372036854775807) (h2 : (y.length : Int) < 9223372036854775807) : fn P 165 [.slice (x.map ci), .slice (y.map ci)] = some (ci (cmpL x y)) := by
  have hL := L165 (P := P) x y [] [] rfl (by simpa using h1) (by simpa using h2)
  simp at hL
  rw [u165, cmpL_loop]
  cases h : loopC x y with
  | some v =>
    rw [h] at hL
    simp at hL
    simp [c165, hL]
  | none =>
    rw [h] at hL
    simp at hL
    by_cases hl : x.length < y.length
    · simp [c165, hL, hl]
    · simp [c165, hL, hl]
theorem L166 : ∀ (x y pa pb : List Int), pa.length = pb.length → x.length = y.length → ((pa ++ x).length : Int) < 9223372036854775807 →
    execS P (limS P) c166_l0 ⟨[.c (.slice ((pa ++ x).map ci)), .c (.slice ((pb ++ y).map ci)), .c (ci (pa ++ x).length), .c (ci pa.length)], []⟩ =
      if x = y then some (.exit 0, ⟨[], []⟩) else some (.ret, ⟨[.c (.bool false)], []⟩) := by
  intro x
  induction x with
  | nil =>
    intro y pa pb hp hl h1
    have : y = [] := List.eq_nil_of_length_eq_zero (by simpa using hl.symm)
    subst this
    rw [r166_l0]
    simp [c166_l0b]
  | cons a x ih =>
    intro y pa pb hp hl h1
    cases y with
    | nil => simp at hl
    | cons b y =>
      have ih := ih y (pa ++ [a]) (pb ++ [b]) (by simp [hp]) (by simpa using hl) (by simpa using h1)
      simp at h1 hl
      have hw : IntKind.i64.wrap (↑pa.length + 1) = ↑pa.length + 1 := wrap64 (by omega) (by omega)
      have hlt : (pa.length : Int) < pa.length + (x.length + 1) := by omega
      have hlt2 : (pa.length : Int) < pb.length + (y.length + 1) := by omega
      have g1 : (pb.map ci ++ ci b :: y.map ci)[pa.length]? = some (ci b) := by rw [hp]; simp
      obtain ⟨_, g1'⟩ := List.getElem?_eq_some_iff.1 g1
      simp at ih
      rw [r166_l0]
      by_cases h : a = b
      · subst h
        simp [c166_l0b, hw, hlt, hlt2, g1, g1', ih]
      · simp [c166_l0b, hw, hlt, hlt2, g1, g1', h]
theorem S166 (x y : List Int) (h1 : (x.length : Int) < 9223372036854775807) : fn P 166 [.slice (x.map ci), .slice (y.map ci)] = some (.bool (decide (x = y))) := by
  rw [u166]
  by_cases hl : x.length = y.length
  · have hL := L166 (P := P) x y [] [] rfl hl (by simpa using h1)
    simp at hL
    have hl' : (x.length : Int) = y.length := by omega
    by_cases h : x = y
    · rw [if_pos h] at hL
      subst h
      simp [c166, hL]
    · rw [if_neg h, hl] at hL
      simp [c166, hl, hL, h]
  · have h : ¬ x = y := fun q => hl (by rw [q])
    have hl' : ¬ (x.length : Int) = y.length := by omega
    simp [c166, hl', h]
def cmpRs (x y : Rs) : Int := cmpL y.vals x.vals
end LM.G6
namespace LM.G6
open Go LM
theorem strElem (s : Str) : Elem none (CV.str s) := ⟨rfl, rfl⟩
theorem strElems (l : List Str) : ∀ x ∈ l.map CV.str, Elem none x := by
  intro x hx
  obtain ⟨y, _, rfl⟩ := List.mem_map.1 hx
  exact strElem y
end LM.G6
namespace LM.G6
open Go LM
variable {P : Nat → Option SFunc} [Has P]
theorem cmp164 : CmpR P 164 [] cmpRs := by
  intro pos q x y h hx hy
  have e165 := S165 (P := P) y.vals x.vals hy hx
  have e : fn P 164 [x.enc, y.enc] = some (ci (cmpRs x y)) := by
    rw [u164]
    simp [c164, Rs.enc, e165, cmpRs]
  simp [e]
/-- Those who go on, with the rank and the result before. -/
def fwdR (quota : Int) : Int → Int → Option Rs → List Rs → List Str
  | _, _, _, [] => []
  | i, rank, prev, x :: r =>
    let rk := match prev with
      | some y => if x.vals = y.vals then rank else i + 1
      | none => i + 1
    (if rk ≤ quota then [x.who] else []) ++ fwdR quota (i + 1) rk (some x) r
def SW (ys : List Str) : LB := .cells (1 + ys.length) (cellsOf (ys.map CV.str)) 0
theorem SW_under (n : Nat) (ys : List Str) : (SW ys).under n = true := by simp [SW, LB.under, underL_cellsOf]
theorem cR_get2 {Pr Po : List Rs} {y : Rs} {W : List LV} {k : Nat} (h : k = Pr.length) : (cR (Pr ++ y :: Po) ++ W)[k * 3 + 2]? = some (.c (.slice (y.vals.map ci))) := by
  subst h
  have hl := cR_length Pr
  rw [cR_append, cR_cons, List.append_assoc, List.getElem?_append_right (by omega), hl, show Pr.length * 3 + 2 - Pr.length * 3 = 2 from by omega]
  rfl
theorem L133 (quota : Int) (s : List Rs) (hv : ∀ y ∈ s, y.vok) (W : List LV) (hW : underL 4 W = true) (cp : Option Nat) (n : Nat) (hn : n = s.length) (hn2 : n < 1000) : ∀ (r pre : List Rs) (ys : List Str) (rank : Int), s = pre ++ r → ys.length ≤ pre.length → (∀ y, pre.getLast? = some y → True) →
    execS P (limS P) c133_l0 ⟨[.slice 1 1 0 n (some 3) cp, .c (ci quota), .slice 3 (1 + ys.length) 0 ys.length none none, .c (ci rank), .slice 1 1 0 n (some 3) cp, .c (ci n), .c (ci pre.length)], [.cells 1 [] 0, .cells 1 (cR s ++ W) 0, .cells 1 [] 0, SW ys]⟩ =
      some (.exit 0, ⟨[.slice 3 (1 + (ys ++ fwdR quota pre.length rank pre.getLast? r).length) 0 (ys ++ fwdR quota pre.length rank pre.getLast? r).length none none], [.cells 1 [] 0, .cells 1 (cR s ++ W) 0, .cells 1 [] 0, SW (ys ++ fwdR quota pre.length rank pre.getLast? r)]⟩) := by
  intro r
  induction r with
  | nil =>
    intro pre ys rank hs hy _
    have : (pre.length : Int) = n := by rw [hn, hs]; simp
    rw [r133_l0]
    simp [c133_l0b, this, fwdR]
  | cons x r ih =>
    intro pre ys rank hs hy _
    have hpl : pre.length < n := by rw [hn, hs]; simp
    have hw : IntKind.i64.wrap ((pre.length : Int) + 1) = (pre.length : Int) + 1 := wrap64 (by omega) (by omega)
    have hlt : (pre.length : Int) < n := by omega
    have hxv := hv x (by rw [hs]; simp)
    have g1 := cR_load (Pr := pre) (x := x) (Po := r) (W := W) (k := pre.length) rfl
    rw [← hs] at g1
    have hl : (cR s ++ W).length = n * 3 + W.length := by rw [List.length_append, cR_length, hn]
    have p1 : 3 ≤ n * 3 + W.length - pre.length * 3 := by omega
    have p2 : pre.length * 3 ≤ n * 3 + W.length := by omega
    have hu := underL_append 4 (cR s) W
    rw [under_cR, hW] at hu
    simp only [Bool.and_self] at hu
    have hyb : ys.length < 1000 := by omega
    have ha := fun X0 X1 X2 X4 => append_own (b := 3) (g := 1 + ys.length) (bytes := 16) (e := none) (ys := ys.map CV.str) (xs := [.str x.who]) (h := [X0, X1, X2, SW ys, X4]) (len := ys.length) (fz := 0) rfl (strElems _) (by simpa using strElem x.who) (by simp) (Nat.zero_le _) (by simp) (by simp; omega) (by simp; omega)
    have eS : LB.cells (1 + ys.length + 1) (cellsOf (ys.map CV.str ++ [CV.str x.who])) 0 = SW (ys ++ [x.who]) := by simp [SW, Nat.add_assoc]
    simp at ha
    simp only [eS] at ha
    have hsu := fun zs => SW_under 4 zs
    unfold LB.under at hsu
    have ihA := fun rk => ih (pre ++ [x]) (ys ++ [x.who]) rk (by simp [hs]) (by simp; omega) (fun _ _ => trivial)
    have ihB := fun rk => ih (pre ++ [x]) ys rk (by simp [hs]) (by simp; omega) (fun _ _ => trivial)
    have e1 : 1 + (ys.length + 1) = 1 + ys.length + 1 := by omega
    simp [e1] at ihA ihB
    rcases List.eq_nil_or_concat pre with hpre | ⟨pre', y, hpre⟩
    · subst hpre
      simp only [List.length_nil] at *
      have hF : fwdR quota 0 rank none (x :: r) = (if 1 ≤ quota then [x.who] else []) ++ fwdR quota 1 1 (some x) r := by simp [fwdR]
      simp [hF]
      generalize cR s ++ W = D at *
      simp only [cel3] at g1
      have w1 : IntKind.i64.wrap 1 = 1 := rfl
      simp at g1 ihA ihB p1 hlt hw
      rw [r133_l0]
      by_cases hq : 1 ≤ quota
      · simp [c133_l0b, hlt, hl, g1, p1, hq, w1, ha, hu, hsu, ihA]
        omega
      · simp [c133_l0b, hlt, hl, g1, p1, hq, w1, hu, hsu, ihB]
    · have hpl' : pre.length = pre'.length + 1 := by rw [hpre]; simp
      have hlast : pre.getLast? = some y := by rw [hpre]; simp
      have gy : (cR s ++ W)[pre'.length * 3 + 2]? = some (.c (.slice (y.vals.map ci))) := by
        have : s = pre' ++ y :: (x :: r) := by rw [hs, hpre]; simp
        rw [this]
        exact cR_get2 rfl
      have e166 := S166 (P := P) x.vals y.vals hxv
      rw [hlast]
      have hF : fwdR quota pre.length rank (some y) (x :: r) = (if (if x.vals = y.vals then rank else (pre.length : Int) + 1) ≤ quota then [x.who] else []) ++ fwdR quota (pre.length + 1) (if x.vals = y.vals then rank else (pre.length : Int) + 1) (some x) r := rfl
      rw [hF]
      have n0 : ¬ (pre.length : Int) = 0 := by omega
      have w1 : IntKind.i64.wrap ((pre.length : Int) - 1) = pre'.length := by rw [show (pre.length : Int) - 1 = pre'.length from by omega]; exact wrap64 (by omega) (by omega)
      have hlt' : (pre'.length : Int) < n := by omega
      have hpn : ¬ pre = [] := fun q => by rw [q] at hpl'; simp at hpl'
      generalize cR s ++ W = D at *
      simp only [cel3] at g1
      obtain ⟨gy1, gy2⟩ := List.getElem?_eq_some_iff.1 gy
      rw [r133_l0]
      by_cases hv : x.vals = y.vals
      · have e166' : fn P 166 [.slice (x.vals.map ci), .slice (y.vals.map ci)] = some (.bool true) := by rw [e166]; simp [hv]
        by_cases hq : rank ≤ quota
        · simp [hv, hq]
          simp [c133_l0b, hlt, hl, g1, p1, n0, hpn, w1, hlt', gy, gy2, e166', hq, hw, ha, hu, hsu, ihA]
        · simp [hv, hq]
          simp [c133_l0b, hlt, hl, g1, p1, n0, hpn, w1, hlt', gy, gy2, e166', hq, hw, hu, hsu, ihB]
      · rw [decide_eq_false hv] at e166
        by_cases hq : (pre.length : Int) + 1 ≤ quota
        · simp [hv, hq]
          simp [c133_l0b, hlt, hl, g1, p1, n0, hpn, w1, hlt', gy, gy2, e166, hq, hw, ha, hu, hsu, ihA]
        · simp [hv, hq]
          simp [c133_l0b, hlt, hl, g1, p1, n0, hpn, w1, hlt', gy, gy2, e166, hq, hw, hu, hsu, ihB]
end LM.G6
namespace LM.G6
open Go LM
variable {P : Nat → Option SFunc} [Has P]
def fwdL (l : List Rs) (quota : Int) : List Str := fwdR quota 0 0 none (sortI (ltC cmpRs) [] (l.filter isS))
theorem clone_rs (X : List Rs) (h : X.length < 1000000) : cloneP (some 3) 56 [.slice (X.map Rs.enc)] = if X = [] then some (.emp, []) else some (.slice 0 1 0 X.length (some 3) none, [.cells 1 (cR X) 0]) := by
  have e1 : ((X.map Rs.enc).flatMap CV.cells).map LV.c = cR X := by rw [← cellsOf_rs]; rfl
  by_cases hx : X = []
  · subst hx; rfl
  · have hn : X.length ≠ 0 := fun e => hx (List.eq_nil_of_length_eq_zero e)
    have hz : szOf (some 3) = 3 := rfl
    have hf : flatAll (cR X) = true := by rw [← cellsOf_rs]; exact flatAll_cellsOf (Rs.elems X)
    unfold cloneP
    simp only [e1, List.length_map, cR_length, hf, hz]
    rw [if_neg hn, if_neg (by simp; omega), if_neg hx]
theorem frzFuncs_emp (l : List LV) (h : Heap) : frzFuncs (.emp :: l) h = bnd (frzFuncs l h) fun a => some (.emp :: a.1, a.2) := by
  rw [frzFuncs]
  rcases frzFuncs l h with _ | ⟨x, y⟩ <;> rfl
  all_goals simp
theorem shift_cR (n : Nat) : ∀ xs : List Rs, shiftL n (cR xs) = cR xs
  | [] => rfl
  | x :: r => by
    have ih := shift_cR n r
    have e : cR (x :: r) = .c (.str x.who) :: .c (.str x.state) :: .c (.slice (x.vals.map ci)) :: cR r := rfl
    rw [e]
    simp only [shiftL, LV.shift, ih]
theorem S133 (l : List Rs) (quota : Int) (hv : ∀ y ∈ l, y.vok) (hl : l.length < 1000) (hn : (l.filter isS).length < 20) : fn P 133 [.slice (l.map Rs.enc), ci quota] = some (.slice ((fwdL l quota).map CV.str)) := by
  have hc := clone_rs l (by omega)
  rw [u133]
  by_cases h0 : l = []
  · subst h0
    simp at hc
    have e160 : ∀ h, sfn P 160 [.emp, .c (.func 162 [] [])] h = some (.c (ci (-1)), h) := by
      intro h
      have hL : execS P (limS P) c160_l0 ⟨[.emp, .c (.func 162 [] []), .c (ci 0), .c (ci 0)], h⟩ = some (.exit 0, ⟨[], h⟩) := by
        rw [r160_l0]
        simp [c160_l0b]
      rw [u160]
      simp [c160, hL]
    have e136 : ∀ h, sfn P 136 [.emp, .c (.func 162 [] [])] h = some (.emp, h ++ [.cells 1 [] 0]) := by
      intro h
      rw [u136]
      simp [c136, frzFuncs_nil, frzFuncs_c, frzFuncs_emp, e160]
    have e173 : ∀ h, sfn P 173 [.emp, .c (ci 0), .c (ci 0), .c (.func 164 [] [])] h = some (.c (.tuple []), h) := by
      intro h
      have hL : execS P (limS P) c173_l1 ⟨[.emp, .c (ci 0), .c (ci 0), .c (.func 164 [] []), .c (ci 1)], h⟩ = some (.exit 0, ⟨[], h⟩) := by
        rw [r173_l1]
        simp [c173_l1b]
      have w1 : IntKind.i64.wrap 1 = 1 := rfl
      rw [u173]
      simp [c173, w1, hL]
    have e171 : ∀ h, sfn P 171 [.emp, .c (ci 0), .c (.func 164 [] [])] h = some (.c (.tuple []), h) := by
      intro h
      have l0 : ∀ E, execS P (limS P) c171_l0 ⟨[.emp, .c (ci 0), .c (.func 164 [] []), .c (ci 20), .c (ci 0), .c (ci 20)], E⟩ = some (.exit 0, ⟨[.emp, .c (ci 0), .c (.func 164 [] []), .c (ci 20), .c (ci 0)], E⟩) := by
        intro E
        rw [r171_l0]
        simp [c171_l0b]
      have l2 : ∀ E, execS P (limS P) c171_l2 ⟨[.emp, .c (ci 0), .c (.func 164 [] []), .c (ci 20)], E⟩ = some (.exit 2, ⟨[], E⟩) := by
        intro E
        rw [r171_l2]
        simp [c171_l2b]
      rw [u171]
      simp [c171, l0, l2, e173, frzFuncs_nil, frzFuncs_c, frzFuncs_emp]
    have e163 : ∀ h, sfn P 163 [.emp, .c (.func 164 [] [])] h = some (.c (.tuple []), h) := by
      intro h
      rw [u163]
      simp [c163, e171, frzFuncs_nil, frzFuncs_c, frzFuncs_emp]
    have hL : ∀ E, execS P (limS P) c133_l0 ⟨[.emp, .c (ci quota), .slice 3 1 0 0 none none, .c (ci 0), .emp, .c (ci 0), .c (ci 0)], E⟩ = some (.exit 0, ⟨[.slice 3 1 0 0 none none], E⟩) := by
      intro E
      rw [r133_l0]
      simp [c133_l0b]
    have hR : fwdL [] quota = [] := rfl
    rw [hR]
    simp [c133, u137, hc, LV.shift, shiftB, frzFuncs_nil, frzFuncs_c, frzFuncs_emp, e136, e163, hL]
  · rw [if_neg h0] at hc
    obtain ⟨W, cp', hW, e136⟩ := S136 (P := P) (pred162 (P := P)) (H := [.cells 1 [] 0, .dead]) (b := 1) (g := 1) (by simp) (by decide) (by intro D hD; have hD2 : underL 3 D = true := hD; simp [hD2]) l (by omega)
    have hfe : l.filter (fun x => !!isS x) = l.filter isS := by congr 1; funext x; simp
    rw [hfe] at e136
    have hv' : ∀ y ∈ l.filter isS, y.vok := fun y hy => hv y (List.mem_filter.1 hy).1
    have e163 := S163 (P := P) (cp := cp') (W := W) (cmp164 (P := P)) (H := [.cells 1 [] 0, .dead, .cells 1 [] 0]) (b := 1) (g := 1) (by simp) (by decide) (l.filter isS) hv' (l.filter isS).length hn rfl
    have hsl := sortI_length (lt := ltC cmpRs) [] (l.filter isS)
    simp at hsl
    have hL := L133 (P := P) quota (sortI (ltC cmpRs) [] (l.filter isS)) (fun y hy => hv' y (by simpa using (sortI_perm (lt := ltC cmpRs) [] (l.filter isS)).mem_iff.1 hy)) W (hW 4) cp' (l.filter isS).length hsl.symm (by omega) (sortI (ltC cmpRs) [] (l.filter isS)) [] [] 0 rfl (by simp) (fun _ _ => trivial)
    have hF : fwdR quota 0 0 none (sortI (ltC cmpRs) [] (l.filter isS)) = fwdL l quota := rfl
    simp [hF] at hL
    have hr := fun X0 X1 X2 => resV_own1 (b := 3) (g := 1 + (fwdL l quota).length) (fz := 0) (e := none) (ys := (fwdL l quota).map CV.str) (h := [X0, X1, X2, SW (fwdL l quota)]) (len := (fwdL l quota).length) rfl (strElems _) (by simp) none
    have e0 : SW [] = .cells 1 [] 0 := rfl
    simp [e0] at hL e136 e163
    generalize l.filter isS = F at *
    generalize sortI (ltC cmpRs) [] F = S at *
    generalize fwdL l quota = R at *
    simp [c133, u137, hc, LV.shift, shiftB, LB.shift, shift_cR, frzFuncs_nil, frzFuncs_c, frzFuncs_slice, e136, e163, hL, hr]
end LM.G6
namespace LM.G6
open Go LM
variable {P : Nat → Option SFunc} [Has P]
theorem S132 (q : Int) : fn P 132 [ci q] = some (ci (whenE (outside q 0 160) 3)) := by
  have := S91 (P := P) q 0 160
  rw [u132]
  simp [c132, this]
def fwdE (l : List Rs) (q : Int) : Int := firstE [resultsE l, whenE (outside q 0 160) 3]
theorem resultsE_len {l : List Rs} (h : resultsE l = 0) : l.length ≤ 160 := by
  unfold resultsE at h
  split at h
  · cases h
  · omega
theorem S74 (l : List Rs) (q : Int) (hl : ∀ x ∈ l, x.ok) (hs : (l.length : Int) < 9223372036854775807) (hn : resultsE l = 0 → l.length < 20) : fn P 74 [.slice (l.map Rs.enc), ci q] = some (.tuple (if fwdE l q = 0 then [.slice ((fwdL l q).map CV.str), ci 0] else [.slice [], ci (fwdE l q)])) := by
  have e73 := S73 (P := P) l hl hs
  have e132 := S132 (P := P) q
  have e88 := S88_2 (P := P) (resultsE l) (whenE (outside q 0 160) 3)
  have hE : firstE [resultsE l, whenE (outside q 0 160) 3] = fwdE l q := rfl
  rw [hE] at e88
  rw [u74]
  by_cases h0 : fwdE l q = 0
  · have hr : resultsE l = 0 := by
      unfold fwdE at h0
      by_cases q : resultsE l = 0
      · exact q
      · rw [firstE, if_pos q] at h0; exact absurd h0 q
    have hf := List.length_filter_le isS l
    have hnn := hn hr
    have e133 := S133 (P := P) l q (fun y hy => (hl y hy).2.2) (by omega) (by omega)
    rw [h0] at e88
    rw [if_pos h0]
    simp [c74, e73, e132, e88, e133]
  · rw [if_neg h0]
    simp [c74, e73, e132, e88, h0]
theorem pred135 (s : Str) : PredOk P 135 [.ptr [.str s] 0] (isW s) := by
  intro pos q x h
  have e : fn P 135 [x.enc, .ptr [.str s] 0] = some (.bool (isW s x)) := by
    rw [u135]
    by_cases h : x.who = s <;> simp [c135, Rs.enc, isW, h]
  simp [e]
def inW (out : List Str) (x : Rs) : Bool := out.any (Str.is x.who)
theorem pred138 (out : List Str) (ho : (out.length : Int) < 9223372036854775807) : PredOk P 138 [.ptr [.slice (out.map CV.str)] 0] (inW out) := by
  intro pos q x h
  have e113 := S113 (P := P) x.who out ho
  have e : fn P 138 [x.enc, .ptr [.slice (out.map CV.str)] 0] = some (.bool (inW out x)) := by
    rw [u138]
    simp [c138, Rs.enc, e113, inW, -List.any_eq_true]
  simp [e]
/-- The error of a name of those who have withdrawn. -/
def outE (l : List Rs) (pre : List Str) (s : Str) : Int := firstE [whenE (!l.any (isW s)) 10, whenE (pre.any (Str.is s)) 9]
def OB (out : List Str) (z : Nat) : LB := .cells 0 [.c (.slice (out.map CV.str))] z
theorem L75 (l : List Rs) (hl : (l.length : Int) < 9223372036854775807) (Q : CV) : ∀ (r pre : List Str), ((pre ++ r).length : Int) < 9223372036854775807 →
    ∃ H b g, H[b]? = some (.cells g [] 0) ∧ execS P (limS P) c75_l0 ⟨[.c (.slice (l.map Rs.enc)), .c Q, .ptr 0 0 0, .c (.slice ((pre ++ r).map CV.str)), .c (ci (pre ++ r).length), .c (ci pre.length)], [OB (pre ++ r) 0, .cells 1 [] 0, .dead]⟩ =
      if eachE (outE l) pre r = 0 then some (.exit 0, ⟨[.c (.slice (l.map Rs.enc)), .c Q, .ptr 0 0 0], [OB (pre ++ r) 0, .cells 1 [] 0, .dead]⟩) else some (.ret, ⟨[.slice b g 0 0 none none, .c (ci (eachE (outE l) pre r))], H⟩) := by
  intro r
  induction r with
  | nil =>
    intro pre h
    refine ⟨[.cells 1 [] 0], 0, 1, rfl, ?_⟩
    rw [r75_l0]
    simp [c75_l0b, eachE]
  | cons s r ih =>
    intro pre h
    obtain ⟨H, b, g, k1, ih⟩ := ih (pre ++ [s]) (by simpa using h)
    have e134 := S134 (P := P) (pred135 (P := P) s) l hl
    have e113 := S113 (P := P) s pre (by simp at h; omega)
    have ht : List.take pre.length (List.map CV.str pre ++ CV.str s :: List.map CV.str r) = pre.map CV.str := by simp
    simp [-List.any_eq_true] at ih h
    have hw : IntKind.i64.wrap (↑pre.length + 1) = ↑pre.length + 1 := wrap64 (by omega) (by omega)
    have hlt : (pre.length : Int) < pre.length + (r.length + 1) := by omega
    have hz : szFits 1 (List.map CV.str pre ++ CV.str s :: List.map CV.str r) = true := by cases pre <;> rfl
    have hb : (pre.length : Int) ≤ pre.length + (r.length + 1) := by omega
    have hE : eachE (outE l) pre (s :: r) = if outE l pre s ≠ 0 then outE l pre s else eachE (outE l) (pre ++ [s]) r := rfl
    have hS : firstE [whenE (!l.any (isW s)) 10, whenE (pre.any (Str.is s)) 9] = outE l pre s := rfl
    by_cases h0 : outE l pre s = 0
    · refine ⟨H, b, g, k1, ?_⟩
      rw [hE, r75_l0]
      simp [OB] at ih
      simp [c75_l0b, OB, hw, hlt, hz, hb, ht, e134, e113, hS, h0, ih, -List.any_eq_true]
    · refine ⟨[OB (pre ++ s :: r) 0, .cells 1 [] 0, .dead, .cells 0 [.c (.str s)] 0, .dead, .cells 1 [] 0], 5, 1, rfl, ?_⟩
      rw [hE, r75_l0]
      simp [c75_l0b, OB, hw, hlt, hz, hb, ht, e134, e113, hS, h0, -List.any_eq_true]
theorem S136e (F : CV) (h : Heap) : sfn P 136 [.emp, .c F] h = some (.emp, h ++ [.cells 1 [] 0]) := by
  have e160 : ∀ h, sfn P 160 [.emp, .c F] h = some (.c (ci (-1)), h) := by
    intro h
    have hL : execS P (limS P) c160_l0 ⟨[.emp, .c F, .c (ci 0), .c (ci 0)], h⟩ = some (.exit 0, ⟨[], h⟩) := by
      rw [r160_l0]
      simp [c160_l0b]
    rw [u160]
    simp [c160, hL]
  rw [u136]
  simp [c136, frzFuncs_nil, frzFuncs_c, frzFuncs_emp, e160]
theorem frz_rs {b g fz : Nat} {F : List Rs} {W : List LV} {h : Heap} (hb : h[b]? = some (.cells g (cR F ++ W) fz)) (cap : Option Nat) : ∃ h', frz frzDepth (.slice b g 0 F.length (some 3) cap) h = some (.slice (F.map Rs.enc), h') := by
  refine ⟨bump b (F.length * 3) h, ?_⟩
  have h3 := chunk_cellsOf (Rs.elems F)
  have hz : szOf (some 3) = 3 := rfl
  rw [frz_slice, hb]
  simp only [Nat.zero_add, List.drop_zero, hz]
  rw [if_pos ⟨trivial, by rw [List.length_append, cR_length]; omega⟩]
  have : (cR F ++ W).take (F.length * 3) = cellsOf (F.map Rs.enc) := by rw [List.take_left' (by rw [cR_length]), cellsOf_rs]
  rw [this]
  unfold cellsOf
  rw [mapH_map_c 38]
  rw [List.length_map] at h3
  simp only [bnd_some, h3]
def replE0 (l : List Rs) (q : Int) (out : List Str) : Int := firstE [resultsE l, whenE (outside q 0 160) 3, whenE (decide ((out.length : Int) > 160)) 5]
def replE (l : List Rs) (q : Int) (out : List Str) : Int := if replE0 l q out ≠ 0 then replE0 l q out else eachE (outE l) [] out
def restL (l : List Rs) (out : List Str) : List Rs := l.filter (fun x => !inW out x)
theorem S75 (l : List Rs) (q : Int) (out : List Str) (hl : ∀ x ∈ l, x.ok) (hs : (l.length : Int) < 9223372036854775807) (ho : (out.length : Int) < 9223372036854775807) (hn : resultsE l = 0 → l.length < 20) : fn P 75 [.slice (l.map Rs.enc), ci q, .slice (out.map CV.str)] = some (.tuple (if replE l q out = 0 then [.slice ((fwdL (restL l out) q).map CV.str), ci 0] else [.slice [], ci (replE l q out)])) := by
  have e73 := S73 (P := P) l hl hs
  have e132 := S132 (P := P) q
  have e88 := S88_3 (P := P) (resultsE l) (whenE (outside q 0 160) 3) (whenE (decide ((out.length : Int) > 160)) 5)
  have hE : firstE [resultsE l, whenE (outside q 0 160) 3, whenE (decide ((out.length : Int) > 160)) 5] = replE0 l q out := rfl
  rw [hE] at e88
  have hd : decide ((160 : Int) < out.length) = decide ((out.length : Int) > 160) := rfl
  obtain ⟨H, b, g, k1, hL⟩ := L75 (P := P) l hs (ci q) out [] (by simpa using ho)
  rw [u75]
  by_cases h0 : replE0 l q out = 0
  · have hRE : replE l q out = eachE (outE l) [] out := by unfold replE; rw [if_neg (by simpa using h0)]
    rw [hRE]
    rw [h0] at e88
    by_cases h1 : eachE (outE l) [] out = 0
    · rw [if_pos h1] at hL ⊢
      have hr : resultsE l = 0 := by
        unfold replE0 at h0
        by_cases q : resultsE l = 0
        · exact q
        · rw [firstE, if_pos q] at h0; exact absurd h0 q
      have hnn := hn hr
      have hfl := List.length_filter_le (fun x => !inW out x) l
      have hfl2 := List.length_filter_le isS (restL l out)
      have hrl : (restL l out).length ≤ l.length := hfl
      have e133 := S133 (P := P) (restL l out) q (fun y hy => (hl y (List.mem_filter.1 hy).1).2.2) (by omega) (by omega)
      have hc := clone_rs l (by omega)
      by_cases hle : l = []
      · subst hle
        have e136 := fun F h => S136e (P := P) F h
        have hre : restL [] out = [] := rfl
        rw [hre] at e133 ⊢
        simp at hc e133
        simp only [OB] at hL
        simp at hL e73
        simp [c75, e73, e132, e88, hd, hL, u137, hc, LV.shift, shiftB, frzFuncs_nil, frzFuncs_c, frzFuncs_emp, frzFuncs_func, frz_func, e136, e133]
      · rw [if_neg hle] at hc
        obtain ⟨W, cp', hW, e136⟩ := S136 (P := P) (pred138 (P := P) out ho) (H := [OB out 1, .cells 1 [] 0, .dead, .dead]) (b := 3) (g := 1) (by simp) (by decide) (by intro D hD; have hD2 : underL 5 D = true := hD; simp [hD2, OB]) l (by omega)
        have hfr : l.filter (fun x => !inW out x) = restL l out := rfl
        rw [hfr] at e136
        obtain ⟨h', e5⟩ := frz_rs (b := 3) (g := 1) (fz := 0) (F := restL l out) (W := W) (h := [OB out 1, .cells 1 [] 0, .dead, .cells 1 (cR (restL l out) ++ W) 0, .cells 1 [] 0]) rfl cp'
        simp only [OB] at hL e136 e5
        simp at hL e136
        simp [c75, e73, e132, e88, hd, hL, u137, hc, LV.shift, shiftB, LB.shift, shift_cR, frzFuncs_nil, frzFuncs_c, frzFuncs_slice, frzFuncs_func, frz_func, e136, e5, e133, -frz_slice]
    · rw [if_neg h1] at hL ⊢
      simp only [OB] at hL
      simp at hL
      simp [c75, e73, e132, e88, hd, hL, resV, mkTuple, k1]
  · have hRE : replE l q out = replE0 l q out := by unfold replE; rw [if_pos h0]
    rw [hRE, if_neg h0]
    simp [c75, e73, e132, e88, hd, h0]
end LM.G6
namespace LM.G6
open Go LM
variable {P : Nat → Option SFunc} [Has P]
theorem cmpL_zero : ∀ a b : List Int, cmpL a b = 0 ↔ a = b
  | [], [] => by simp [cmpL]
  | [], b :: y => by simp [cmpL]
  | a :: x, [] => by simp [cmpL]
  | a :: x, b :: y => by
    have ih := cmpL_zero x y
    simp only [cmpL]
    by_cases h : a = b
    · subst h; simp [ih]
    · rw [if_neg h]
      have := cmpJ_zero a b
      simp [h, this]
theorem cmpL_anti : ∀ a b : List Int, cmpL a b < 0 ↔ 0 < cmpL b a
  | [], [] => by simp [cmpL]
  | [], b :: y => by simp [cmpL]
  | a :: x, [] => by simp [cmpL]
  | a :: x, b :: y => by
    have ih := cmpL_anti x y
    simp only [cmpL]
    by_cases h : a = b
    · subst h; simp [ih]
    · have h' : ¬ b = a := fun q => h q.symm
      rw [if_neg h, if_neg h']
      unfold cmpJ
      (repeat' split) <;> omega
theorem cmpL_split : ∀ a b c : List Int, cmpL a c < 0 → cmpL a b < 0 ∨ cmpL b c < 0
  | [], [], [], h => by simp [cmpL] at h
  | [], [], c :: z, _ => .inr (by simp [cmpL])
  | [], b :: y, _, _ => .inl (by simp [cmpL])
  | a :: x, _, [], h => by simp [cmpL] at h
  | a :: x, [], c :: z, _ => .inr (by simp [cmpL])
  | a :: x, b :: y, c :: z, h => by
    have ih := cmpL_split x y z
    simp only [cmpL] at h ⊢
    by_cases h1 : a = b
    · subst h1
      by_cases h2 : a = c
      · subst h2
        simp at h ⊢
        exact ih h
      · rw [if_neg h2] at h ⊢
        simp
        exact .inr h
    · by_cases h2 : b = c
      · subst h2
        rw [if_neg h1] at h ⊢
        exact .inl h
      · rw [if_neg h1, if_neg h2]
        by_cases h3 : a = c
        · subst h3
          unfold cmpJ
          (repeat' split) <;> omega
        · rw [if_neg h3] at h
          unfold cmpJ at h ⊢
          (repeat' split at h) <;> (repeat' split) <;> omega
def btr (x y : Rs) : Bool := decide (cmpL y.vals x.vals < 0)
theorem btr_eq : ltC cmpRs = btr := rfl
theorem swoR : Swo btr := by
  refine ⟨?_, ?_⟩
  · intro x y h
    unfold btr at h ⊢
    simp only [decide_eq_true_eq, decide_eq_false_iff_not] at h ⊢
    have := (cmpL_anti y.vals x.vals).1 h
    omega
  · intro x y z h
    unfold btr at h ⊢
    simp only [decide_eq_true_eq] at h ⊢
    rcases cmpL_split _ y.vals _ h with q | q
    · exact .inr q
    · exact .inl q
/-- How many of a list are better. -/
def cntB (S : List Rs) (x : Rs) : Int := ((S.filter (fun y => btr y x)).length : Nat)
theorem btr_total {x y : Rs} (h : ¬ x.vals = y.vals) (h2 : btr x y = false) : btr y x = true := by
  unfold btr at h2 ⊢
  simp only [decide_eq_true_eq, decide_eq_false_iff_not] at h2 ⊢
  have h3 := cmpL_anti x.vals y.vals
  have h4 := cmpL_zero y.vals x.vals
  have h5 : ¬ cmpL y.vals x.vals = 0 := fun q => h (h4.1 q).symm
  omega
theorem fwdR_cnt (quota : Int) (S : List Rs) (hS : Srt btr S) : ∀ (r pre : List Rs) (rank : Int), S = pre ++ r → (∀ y, pre.getLast? = some y → rank = cntB S y + 1) →
    fwdR quota pre.length rank pre.getLast? r = (r.filter (fun x => decide (cntB S x < quota))).map (·.who)
  | [], pre, rank, _, _ => by simp [fwdR]
  | x :: r, pre, rank, hs, hr => by
    have hrk : (match pre.getLast? with
      | some y => if x.vals = y.vals then rank else (pre.length : Int) + 1
      | none => (pre.length : Int) + 1) = cntB S x + 1 := by
      have hall : (∀ z ∈ pre, btr z x = true) → (pre.length : Int) = cntB S x := by
        intro hz
        unfold cntB
        have hs2 := hS
        unfold Srt at hs2
        rw [hs] at hs2
        obtain ⟨p1, p2, p3⟩ := List.pairwise_append.1 hs2
        obtain ⟨p4, p5⟩ := List.pairwise_cons.1 p2
        rw [hs, List.filter_append]
        have e1 : pre.filter (fun y => btr y x) = pre := List.filter_eq_self.2 hz
        have e2 : (x :: r).filter (fun y => btr y x) = [] := by
          rw [List.filter_eq_nil_iff]
          intro y hy
          rcases List.mem_cons.1 hy with rfl | hy
          · simp [swoR.irr y]
          · simp [p4 y hy]
        rw [e1, e2]
        simp
      rcases List.eq_nil_or_concat pre with hpre | ⟨pre', y, hpre⟩
      · subst hpre
        have := hall (by simp)
        simp at this ⊢
        omega
      · rw [List.concat_eq_append] at hpre
        have hlast : pre.getLast? = some y := by rw [hpre]; simp
        rw [hlast]
        simp only
        by_cases hv : x.vals = y.vals
        · rw [if_pos hv, hr y hlast]
          have : cntB S x = cntB S y := by unfold cntB btr; rw [hv]
          rw [this]
        · rw [if_neg hv]
          have hs2 := hS
          unfold Srt at hs2
          rw [hs] at hs2
          obtain ⟨p1, p2, p3⟩ := List.pairwise_append.1 hs2
          have hyx : btr y x = true := btr_total hv (p3 y (by rw [hpre]; simp) x (by simp))
          rw [← hall (fun z hz => by
            rw [hpre] at hz
            rcases List.mem_append.1 hz with q | q
            · rw [hpre] at p1
              have := (List.pairwise_append.1 p1).2.2 z q y (by simp)
              exact swoR.lel this hyx
            · simp at q; rw [q]; exact hyx)]
    have ih := fwdR_cnt quota S hS r (pre ++ [x]) (cntB S x + 1) (by simp [hs]) (fun y hy => by simp at hy; rw [hy])
    simp at ih
    have hF : fwdR quota pre.length rank pre.getLast? (x :: r) = (if cntB S x + 1 ≤ quota then [x.who] else []) ++ fwdR quota (pre.length + 1) (cntB S x + 1) (some x) r := by
      rw [← hrk]
      cases pre.getLast? <;> rfl
    rw [hF, ih]
    by_cases hq : cntB S x + 1 ≤ quota
    · have : cntB S x < quota := by omega
      simp [hq, this]
    · have : ¬ cntB S x < quota := by omega
      simp [hq, this]
theorem fwdL_cnt (l : List Rs) (quota : Int) : fwdL l quota = ((sortI btr [] (l.filter isS)).filter (fun x => decide (cntB (sortI btr [] (l.filter isS)) x < quota))).map (·.who) := by
  unfold fwdL
  rw [btr_eq]
  exact fwdR_cnt quota _ (sortI_srt swoR [] _ (by simp [Srt])) _ [] 0 rfl (by simp)
end LM.G6
namespace LM.G6
open Go LM
variable {P : Nat → Option SFunc} [Has P]
structure Stt where
  name : Str
  nation : Str
  seed : Int
def Stt.enc (x : Stt) : CV := .agg [.str x.name, .str x.nation, ci x.seed]
def Stt.ptr (x : Stt) : CV := .ptr [.str x.name, .str x.nation, ci x.seed] 0
def Stt.ok (x : Stt) : Prop := x.name.length < 9223372036854775807 ∧ x.nation.length < 9223372036854775807
theorem Stt.elem (x : Stt) : Elem (some 3) x.enc := ⟨_, rfl, rfl, by simp [CV.flat]⟩
theorem Stt.elems (l : List Stt) : ∀ x ∈ l.map Stt.enc, Elem (some 3) x := by
  intro x hx
  obtain ⟨y, _, rfl⟩ := List.mem_map.1 hx
  exact y.elem
def Stt.is (n : Str) (x : Stt) : Bool := x.name == n
def Stt.short (x : Stt) : Bool := decide (x.name.length ≤ 40) && decide (x.nation.length ≤ 40)
end LM.G6
namespace LM.G6
open Go LM
variable {P : Nat → Option SFunc} [Has P]
variable {α : Type} {enc : α → CV} {f : Nat} {B : List CV} {c : α → α → Int} {H : Heap} {b g : Nat} {cp : Option Nat}
/-- A search by halves. -/
def bs (p : Nat → Bool) : Nat → Nat → Nat → Nat
  | 0, i, _ => i
  | k + 1, i, j => if i < j then if p ((i + j) / 2) then bs p k ((i + j) / 2 + 1) j else bs p k i ((i + j) / 2) else i
end LM.G6
namespace LM.G6
open Go LM
variable {P : Nat → Option SFunc} [Has P]
/-- Results that can be compared. -/
def Like (l : List Rs) : Prop := ∀ x ∈ l, ∀ y ∈ l, isS x = true → isS y = true → x.vals.length = y.vals.length
end LM.G6
namespace LM.G6
open Go LM
variable {P : Nat → Option SFunc} [Has P]
theorem firstE_zC (e : Int) (r : List Int) : firstE (e :: r) = 0 ↔ e = 0 ∧ firstE r = 0 := by
  rw [firstE]
  by_cases h : e = 0 <;> simp [h]
theorem whenE_zC {b : Bool} {e : Int} (h : e ≠ 0) : whenE b e = 0 ↔ b = false := by cases b <;> simp [whenE, h]
theorem results_like {l : List Rs} (h : resultsE l = 0) : Like l := by
  unfold resultsE at h
  split at h
  · cases h
  · have key : ∀ (r pre : List Rs), eachE resE pre r = 0 → (∀ x ∈ pre, isS x = true → (x.vals.length : Int) = cntR pre) → ∀ x ∈ pre ++ r, isS x = true → (x.vals.length : Int) = cntR (pre ++ r) := by
      intro r
      induction r with
      | nil => intro pre _ hp; simpa using hp
      | cons a r ih =>
        intro pre h hp
        rw [eachE] at h
        split at h
        · rename_i q; exact absurd h q
        · rename_i q
          have q : resE pre a = 0 := by simpa using q
          have hsh : shapeE pre a = false := by
            unfold resE at q
            simp only [firstE_zC, whenE_zC (show (2 : Int) ≠ 0 by decide)] at q
            exact q.2.2.2.2.2.2.1
          rw [shapeE_eq] at hsh
          have := ih (pre ++ [a]) h (by
            intro x hx hs
            have hsn := cntR_snoc pre a
            rcases List.mem_append.1 hx with hx | hx
            · have h1 := hp x hx hs
              have : ¬ cntR pre < 0 := by omega
              rw [hsn, if_neg (fun z => this z.1)]
              exact h1
            · simp at hx
              subst hx
              rw [hs] at hsh
              simp at hsh
              exact hsh)
          simpa using this
    have := key l [] h (by simp)
    intro x hx y hy sx sy
    have h1 := this x (by simpa using hx) sx
    have h2 := this y (by simpa using hy) sy
    omega
end LM.G6
namespace LM.G6
open Go LM
variable {P : Nat → Option SFunc} [Has P]
theorem L79 (out : List Str) (ho : (out.length : Int) < 9223372036854775807) : ∀ (r pre : List Rs) (K : List Rs), K.length ≤ pre.length → (pre ++ r).length < 1000 →
    execS P (limS P) c79_l0 ⟨[.c (.slice ((pre ++ r).map Rs.enc)), .c (.slice (out.map CV.str)), .slice 1 (1 + K.length) 0 K.length (some 3) none, .c (ci pre.length)], [.cells 1 [] 0, .cells (1 + K.length) (cR K) 0]⟩ =
      some (.exit 0, ⟨[.slice 1 (1 + (K ++ restL r out).length) 0 (K ++ restL r out).length (some 3) none], [.cells 1 [] 0, .cells (1 + (K ++ restL r out).length) (cR (K ++ restL r out)) 0]⟩) := by
  intro r
  induction r with
  | nil =>
    intro pre K hK h
    rw [r79_l0]
    simp [c79_l0b, restL]
  | cons x r ih =>
    intro pre K hK h
    have e81 := S81 (P := P) x.who out ho
    have hiw : out.any (Str.is x.who) = inW out x := rfl
    rw [hiw] at e81
    have ihA := ih (pre ++ [x]) (K ++ [x]) (by simp; omega) (by simpa using h)
    have ihB := ih (pre ++ [x]) K (by simp; omega) (by simpa using h)
    simp at h
    have ha := append_own (b := 1) (g := 1 + K.length) (bytes := 56) (e := some 3) (ys := K.map Rs.enc) (xs := [x.enc]) (h := [.cells 1 [] 0, .cells (1 + K.length) (cellsOf (K.map Rs.enc)) 0]) (len := K.length) (fz := 0) rfl (Rs.elems _) (by simpa using x.elem) (by simp) (Nat.zero_le _) (by simp) (by simp; omega) (by simp; omega)
    have e1 : K.map Rs.enc ++ [x.enc] = (K ++ [x]).map Rs.enc := by simp
    rw [e1, cellsOf_rs, cellsOf_rs] at ha
    have hw : IntKind.i64.wrap (↑pre.length + 1) = ↑pre.length + 1 := wrap64 (by omega) (by omega)
    have hlt : (pre.length : Int) < pre.length + (r.length + 1) := by omega
    have e2 : 1 + (K.length + 1) = 1 + K.length + 1 := by omega
    have hu := fun n F => under_cR n F
    rw [r79_l0]
    cases hq : inW out x
    · have hr : restL (x :: r) out = x :: restL r out := by simp [restL, hq]
      rw [hq] at e81
      rw [hr]
      generalize restL r out = Z at *
      simp [Rs.enc, e2] at ihA ha
      simp [c79_l0b, Rs.enc, hw, hlt, e81, ha, hu, ihA]
      try omega
    · have hr : restL (x :: r) out = restL r out := by simp [restL, hq]
      rw [hq] at e81
      rw [hr]
      generalize restL r out = Z at *
      simp [Rs.enc] at ihB
      simp [c79_l0b, Rs.enc, hw, hlt, e81, hu, ihB]
theorem S79 (l : List Rs) (out : List Str) (ho : (out.length : Int) < 9223372036854775807) (hl : l.length < 1000) : fn P 79 [.slice (l.map Rs.enc), .slice (out.map CV.str)] = some (.slice ((restL l out).map Rs.enc)) := by
  have hL := L79 (P := P) out ho l [] [] (by simp) (by simpa using hl)
  have e0 : cR [] = [] := rfl
  simp [e0] at hL
  have hr := resV_own1 (b := 1) (g := 1 + (restL l out).length) (fz := 0) (e := some 3) (ys := (restL l out).map Rs.enc) (h := [.cells 1 [] 0, .cells (1 + (restL l out).length) (cR (restL l out)) 0]) (len := (restL l out).length) (by rw [cellsOf_rs]; rfl) (Rs.elems _) (by simp) none
  generalize restL l out = Z at *
  rw [u79]
  simp [c79, hL, hr]
end LM.G6
namespace LM.G6
open Go LM
variable {P : Nat → Option SFunc} [Has P]
theorem L82 : ∀ (l p m q : List Str), p.length = q.length → l.length = m.length → ((p ++ l).length : Int) < 9223372036854775807 →
    execS P (limS P) c82_l0 ⟨[.c (.slice ((p ++ l).map CV.str)), .c (.slice ((q ++ m).map CV.str)), .c (ci p.length)], []⟩ = if l = m then some (.exit 0, ⟨[], []⟩) else some (.ret, ⟨[.c (.bool false)], []⟩) := by
  intro l
  induction l with
  | nil =>
    intro p m q hp hm h
    have : m = [] := List.eq_nil_of_length_eq_zero (by simpa using hm.symm)
    subst this
    rw [r82_l0]
    simp [c82_l0b]
  | cons c r ih =>
    intro p m q hp hm h
    rcases m with _ | ⟨d, m⟩
    · simp at hm
    have ih := ih (p ++ [c]) m (q ++ [d]) (by simp [hp]) (by simpa using hm) (by simpa using h)
    simp at ih h hm
    have hw : IntKind.i64.wrap (↑p.length + 1) = ↑p.length + 1 := wrap64 (by omega) (by omega)
    have hlt : (p.length : Int) < p.length + (r.length + 1) := by omega
    have hlt2 : p.length < q.length + (m.length + 1) := by omega
    have hg : (List.map CV.str q ++ CV.str d :: List.map CV.str m)[p.length]'(by simpa using hlt2) = CV.str d := by simp [hp]
    rw [r82_l0]
    by_cases h0 : c = d
    · simp [c82_l0b, hw, hlt, hlt2, hg, h0]
      rw [h0] at ih
      exact ih
    · simp [c82_l0b, hw, hlt, hlt2, hg, h0]
@[simp] theorem S82 (l m : List Str) (h : (l.length : Int) < 9223372036854775807) : fn P 82 [.slice (l.map CV.str), .slice (m.map CV.str)] = some (.bool (decide (l = m))) := by
  rw [u82]
  by_cases hl : l.length = m.length
  · have := L82 (P := P) l [] m [] rfl hl (by simpa using h)
    simp at this
    by_cases h0 : l = m
    · rw [if_pos h0] at this
      rw [decide_eq_true h0]
      simp [c82, hl, this]
    · rw [if_neg h0] at this
      rw [decide_eq_false h0]
      simp [c82, hl, this]
  · have h1 : ¬ (l.length : Int) = m.length := by omega
    have h2 : ¬ l = m := fun e => hl (by rw [e])
    simp [c82, h1, h2]
end LM.G6
namespace LM.G6
open Go LM
variable {P : Nat → Option SFunc} [Has P] [HasP P]
theorem fwdL_len (l : List Rs) (q : Int) : (fwdL l q).length ≤ l.length := by
  rw [fwdL_cnt, List.length_map]
  refine Nat.le_trans (List.length_filter_le _ _) ?_
  rw [sortI_length]
  simpa using List.length_filter_le _ _
theorem restL_len (l : List Rs) (out : List Str) : (restL l out).length ≤ l.length := List.length_filter_le _ _
end LM.G6
namespace LM.G6
open Go LM
/-- What good results are, in any order. -/
structure RG (l : List Rs) : Prop where
  one : ∀ x ∈ l, isName x.who = true ∧ stateOk x.state = true ∧ (!isS x && decide (0 < x.vals.length)) = false ∧ decide (8 < x.vals.length) = false ∧ x.vals.any farI = false
  uniq : l.Pairwise fun x y => x.who ≠ y.who
  like : Like l
theorem firstE_seven {a b c d e f g : Int} : firstE [a, b, c, d, e, f, g] = 0 ↔ a = 0 ∧ b = 0 ∧ c = 0 ∧ d = 0 ∧ e = 0 ∧ f = 0 ∧ g = 0 := by
  simp only [firstE_zC]
  simp [firstE]
theorem resE_zero {pre : List Rs} {x : Rs} : resE pre x = 0 ↔ (isName x.who = true ∧ stateOk x.state = true ∧ (!isS x && decide (0 < x.vals.length)) = false ∧ decide (8 < x.vals.length) = false ∧ x.vals.any farI = false) ∧ pre.any (isW x.who) = false ∧ shapeE pre x = false := by
  unfold resE
  rw [firstE_seven]
  rw [whenE_zC (by decide), whenE_zC (by decide), whenE_zC (by decide), whenE_zC (by decide), whenE_zC (by decide), whenE_zC (by decide), whenE_zC (by decide)]
  rw [Bool.not_eq_false', Bool.not_eq_false']
  constructor
  · rintro ⟨a, b, c, d, e, f, g⟩; exact ⟨⟨a, c, d, e, f⟩, b, g⟩
  · rintro ⟨⟨a, c, d, e, f⟩, b, g⟩; exact ⟨a, b, c, d, e, f, g⟩
theorem eachR_zero : ∀ (r pre : List Rs), eachE resE pre r = 0 ↔ ∀ a x b, r = a ++ x :: b → resE (pre ++ a) x = 0
  | [], pre => by simp [eachE]
  | y :: r, pre => by
    have ih := eachR_zero r (pre ++ [y])
    rw [eachE]
    constructor
    · intro h a x b hab
      split at h
      · rename_i q; exact absurd h q
      · rename_i q
        cases a with
        | nil => simp at hab; obtain ⟨rfl, rfl⟩ := hab; simpa using q
        | cons z a =>
          simp at hab
          obtain ⟨rfl, rfl⟩ := hab
          have := ih.1 h a x b rfl
          simpa using this
    · intro h
      have h0 := h [] y r rfl
      rw [if_neg (by simpa using h0)]
      refine ih.2 (fun a x b hab => ?_)
      have := h (y :: a) x b (by simp [hab])
      simpa using this
theorem results_rg {l : List Rs} (h : resultsE l = 0) : RG l := by
  have hk := results_like h
  unfold resultsE at h
  split at h
  · cases h
  · have h := (eachR_zero l []).1 h
    refine ⟨?_, ?_, hk⟩
    · intro x hx
      obtain ⟨a, b, hab⟩ := List.append_of_mem hx
      exact (resE_zero.1 (h a x b hab)).1
    · have key : ∀ (r pre : List Rs), l = pre ++ r → pre.Pairwise (fun x y => x.who ≠ y.who) → l.Pairwise fun x y => x.who ≠ y.who := by
        intro r
        induction r with
        | nil => intro pre hp hw; rw [hp]; simpa using hw
        | cons y r ih =>
          intro pre hp hw
          refine ih (pre ++ [y]) (by simp [hp]) ?_
          rw [List.pairwise_append]
          refine ⟨hw, by simp, ?_⟩
          intro a ha b hb
          simp at hb
          subst hb
          have := (resE_zero.1 (h pre b r hp)).2.1
          simp only [List.nil_append, List.any_eq_false] at this
          have := this a ha
          simpa [isW] using this
      exact key l [] rfl (by simp)
theorem rg_results {l : List Rs} (hl : l.length ≤ 160) (h : RG l) : resultsE l = 0 := by
  unfold resultsE
  rw [if_neg (by omega)]
  rw [eachR_zero]
  intro a x b hab
  have hx : x ∈ l := by rw [hab]; simp
  rw [resE_zero]
  refine ⟨h.one x hx, ?_, ?_⟩
  · simp only [List.nil_append, List.any_eq_false]
    intro y hy
    have := h.uniq
    rw [hab, List.pairwise_append] at this
    have := this.2.2 y hy x (by simp)
    simpa [isW] using this
  · unfold shapeE
    simp only [List.nil_append]
    cases q : a.find? isS with
    | none => rfl
    | some y =>
      have h1 := List.find?_some q
      have h2 := List.mem_of_find?_eq_some q
      have hy : y ∈ l := by rw [hab]; simp [h2]
      cases s : isS x
      · rfl
      · have := h.like x hx y hy s h1
        simp [this]
theorem RG.perm {l m : List Rs} (p : l.Perm m) (h : RG l) : RG m := by
  refine ⟨fun x hx => h.one x (p.mem_iff.2 hx), ?_, fun x hx y hy => h.like x (p.mem_iff.2 hx) y (p.mem_iff.2 hy)⟩
  exact (p.pairwise_iff (fun {a b} q => fun e => q e.symm)).1 h.uniq
theorem RG.filter {l : List Rs} (p : Rs → Bool) (h : RG l) : RG (l.filter p) :=
  ⟨fun x hx => h.one x (List.mem_filter.1 hx).1, h.uniq.sublist List.filter_sublist, fun x hx y hy => h.like x (List.mem_filter.1 hx).1 y (List.mem_filter.1 hy).1⟩
theorem pair_who : ∀ {l : List Rs}, l.Pairwise (fun x y => x.who ≠ y.who) → ∀ {x y : Rs}, x ∈ l → y ∈ l → x.who = y.who → x = y
  | [], _, x, y, hx, _, _ => by cases hx
  | a :: l, h, x, y, hx, hy, e => by
    obtain ⟨h1, h2⟩ := List.pairwise_cons.1 h
    rcases List.mem_cons.1 hx with rfl | kx
    · rcases List.mem_cons.1 hy with rfl | ky
      · rfl
      · exact absurd e (h1 y ky)
    · rcases List.mem_cons.1 hy with rfl | ky
      · exact absurd e.symm (h1 x kx)
      · exact pair_who h2 kx ky e
section
variable {α : Type} {lt : α → α → Bool}
theorem insS_filter (h : Swo lt) (p : α → Bool) (x : α) {S : List α} (hs : Srt lt S) : (insS lt x S).filter p = if p x then insS lt x (S.filter p) else S.filter p := by
  obtain ⟨A, B, rfl, e2, e3, e4⟩ := insS_split h x hs
  rw [e2]
  cases q : p x
  · simp [q]
  · rw [List.filter_append, List.filter_append, List.filter_cons, q]
    simp only [if_true]
    rw [insS_eq (fun y hy => e3 y (List.mem_filter.1 hy).1) (fun y hy => e4 y (List.mem_filter.1 hy).1)]
theorem sortI_filter (h : Swo lt) (p : α → Bool) : ∀ (S U : List α), Srt lt S → sortI lt (S.filter p) (U.filter p) = (sortI lt S U).filter p
  | S, [], _ => rfl
  | S, x :: U, hs => by
    have ih := sortI_filter h p (insS lt x S) U (insS_srt h x hs)
    have hi := insS_filter h p x hs
    rw [sortI, ← ih, hi]
    cases q : p x
    · simp [q]
    · simp [q, sortI]
theorem filter_len_mono {a b : α → Bool} : ∀ (l : List α), (∀ x ∈ l, a x = true → b x = true) → (l.filter a).length ≤ (l.filter b).length
  | [], _ => Nat.le_refl _
  | x :: l, h => by
    have ih := filter_len_mono l (fun y hy => h y (by simp [hy]))
    have hx := h x (by simp)
    rw [List.filter_cons, List.filter_cons]
    cases q1 : a x
    · cases b x <;> simp <;> omega
    · rw [hx q1]; simp; exact ih
end
/-- Those that are forwarded. -/
def FW (l : List Rs) (q : Int) : List Rs := (sortI btr [] (l.filter isS)).filter (fun x => decide (cntB (sortI btr [] (l.filter isS)) x < q))
theorem fwdL_FW (l : List Rs) (q : Int) : fwdL l q = (FW l q).map (·.who) := fwdL_cnt l q
theorem cntB_perm {S T : List Rs} (h : S.Perm T) (x : Rs) : cntB S x = cntB T x := by
  unfold cntB
  rw [(h.filter _).length_eq]
theorem FW_perm {l m : List Rs} (h : l.Perm m) (q : Int) : (FW l q).Perm (FW m q) := by
  unfold FW
  have p1 := sortI_perm (lt := btr) [] (l.filter isS)
  have p2 := sortI_perm (lt := btr) [] (m.filter isS)
  simp only [List.nil_append] at p1 p2
  have p : (sortI btr [] (l.filter isS)).Perm (sortI btr [] (m.filter isS)) := p1.trans ((h.filter _).trans p2.symm)
  have : (fun x => decide (cntB (sortI btr [] (l.filter isS)) x < q)) = fun x => decide (cntB (sortI btr [] (m.filter isS)) x < q) := by
    funext x
    rw [cntB_perm p]
  rw [this]
  exact p.filter _
theorem FW_min (l : List Rs) (q : Int) : min q ((l.filter isS).length : Int) ≤ ((FW l q).length : Int) := by
  unfold FW
  have hlen := sortI_length (lt := btr) [] (l.filter isS)
  have hsrt := sortI_srt swoR [] (l.filter isS) (by simp [Srt])
  generalize sortI btr [] (l.filter isS) = T at *
  simp at hlen
  rw [← hlen]
  have hk : ((T.take q.toNat).filter (fun x => decide (cntB T x < q))) = T.take q.toNat := by
    rw [List.filter_eq_self]
    intro x hx
    obtain ⟨i, hi, hxi⟩ := List.mem_iff_getElem.1 hx
    simp at hi
    rw [List.getElem_take] at hxi
    have hT : T = T.take i ++ x :: T.drop (i + 1) := by
      rw [← hxi]
      simp
    have hc : cntB T x ≤ i := by
      unfold cntB
      have hs := hsrt
      unfold Srt at hs
      rw [hT, List.pairwise_append] at hs
      obtain ⟨_, p2, _⟩ := hs
      obtain ⟨p3, _⟩ := List.pairwise_cons.1 p2
      have e2 : (x :: T.drop (i + 1)).filter (fun y => btr y x) = [] := by
        rw [List.filter_eq_nil_iff]
        intro y hy
        rcases List.mem_cons.1 hy with rfl | hy
        · simp [swoR.irr y]
        · simp [p3 y hy]
      rw [hT, List.filter_append, e2]
      have := List.length_filter_le (fun y => btr y x) (T.take i)
      simp only [List.append_nil]
      have h3 : (T.take i).length ≤ i := by simp; omega
      omega
    simp
    omega
  have hsub := ((List.take_sublist q.toNat T).filter (fun x => decide (cntB T x < q))).length_le
  rw [hk] at hsub
  simp at hsub
  omega
theorem FW_max (l : List Rs) (q : Int) : (FW l q).length ≤ (l.filter isS).length := by
  unfold FW
  refine Nat.le_trans (List.length_filter_le _ _) ?_
  rw [sortI_length]
  simp
theorem FW_mem {l : List Rs} {q : Int} {x : Rs} : x ∈ FW l q ↔ (x ∈ l ∧ isS x = true) ∧ cntB (sortI btr [] (l.filter isS)) x < q := by
  unfold FW
  rw [List.mem_filter, (sortI_perm (lt := btr) [] (l.filter isS)).mem_iff, List.nil_append, List.mem_filter, decide_eq_true_eq]
theorem sort_rest (l : List Rs) (p : Rs → Bool) : sortI btr [] ((l.filter p).filter isS) = (sortI btr [] (l.filter isS)).filter p := by
  have := sortI_filter swoR p [] (l.filter isS) (by simp [Srt])
  rw [← this]
  congr 1
  rw [List.filter_filter, List.filter_filter]
  congr 1
  funext x
  rw [Bool.and_comm]
/-- One less that was not forwarded: the same are. -/
theorem FW_same {l : List Rs} (hl : RG l) (q : Int) (p : Rs → Bool) (hp : ∀ x ∈ l, p x = false → x ∉ FW l q) (h1 : ∀ x ∈ l, ∀ y ∈ l, p x = false → p y = false → x = y) : FW (l.filter p) q = FW l q := by
  have hm := fun x => FW_mem (l := l) (q := q) (x := x)
  have hmem : ∀ x, x ∈ sortI btr [] (l.filter isS) → x ∈ l ∧ isS x = true := fun x hx => by
    have := (sortI_perm (lt := btr) [] (l.filter isS)).mem_iff.1 hx
    simpa using this
  unfold FW
  rw [sort_rest]
  generalize sortI btr [] (l.filter isS) = T at *
  rw [List.filter_filter]
  apply List.filter_congr
  intro z hz
  have hzl := hmem z hz
  cases hpz : p z
  · have := hp z hzl.1 hpz
    rw [hm] at this
    have h2 : ¬ cntB T z < q := fun c => this ⟨hzl, c⟩
    simp [h2]
  · simp only [Bool.and_true]
    apply decide_eq_decide.2
    have hle : cntB (T.filter p) z ≤ cntB T z := by
      unfold cntB
      rw [List.filter_filter]
      have := filter_len_mono (a := fun a => btr a z && p a) (b := fun y => btr y z) T (fun x _ h => by simp at h; exact h.1)
      omega
    constructor
    · intro hlt
      refine Int.not_le.1 (fun hge => ?_)
      suffices q ≤ cntB (T.filter p) z by omega
      by_cases hr : ∃ r ∈ T, p r = false ∧ btr r z = true
      · obtain ⟨r, hrT, hpr, hrz⟩ := hr
        have hrl := hmem r hrT
        have := hp r hrl.1 hpr
        rw [hm] at this
        have h2 : ¬ cntB T r < q := fun c => this ⟨hrl, c⟩
        have h3 : cntB T r ≤ cntB (T.filter p) z := by
          unfold cntB
          rw [List.filter_filter]
          have := filter_len_mono (a := fun y => btr y r) (b := fun a => btr a z && p a) T (fun y hy h => by
            have e1 : btr y z = true := swoR.lel (swoR.asym _ _ h) hrz
            cases hpy : p y
            · have := h1 y (hmem y hy).1 r hrl.1 hpy hpr
              subst this
              rw [swoR.irr] at h
              cases h
            · simp [e1])
          omega
        omega
      · have h3 : cntB T z ≤ cntB (T.filter p) z := by
          unfold cntB
          rw [List.filter_filter]
          have := filter_len_mono (a := fun y => btr y z) (b := fun a => btr a z && p a) T (fun y hy h => by
            cases hpy : p y
            · exact absurd ⟨y, hy, hpy, h⟩ hr
            · simp [h])
          omega
        omega
    · intro h; omega
theorem FW_keep {l : List Rs} (q : Int) (p : Rs → Bool) {x : Rs} (hx : x ∈ FW l q) (hpx : p x = true) : x ∈ FW (l.filter p) q := by
  rw [FW_mem] at hx ⊢
  refine ⟨⟨List.mem_filter.2 ⟨hx.1.1, hpx⟩, hx.1.2⟩, ?_⟩
  rw [sort_rest]
  have : cntB ((sortI btr [] (l.filter isS)).filter p) x ≤ cntB (sortI btr [] (l.filter isS)) x := by
    unfold cntB
    rw [List.filter_filter]
    have := filter_len_mono (a := fun a => btr a x && p a) (b := fun y => btr y x) (sortI btr [] (l.filter isS)) (fun y _ h => by simp at h; exact h.1)
    omega
  omega
theorem inW_one (s : Str) (x : Rs) : inW [s] x = decide (x.who = s) := by
  unfold inW
  simp only [List.any_cons, List.any_nil, Bool.or_false]
  exact Str.is_eq' _ _
theorem inW_two (s t : Str) (x : Rs) : inW [s, t] x = (decide (x.who = s) || decide (x.who = t)) := by
  unfold inW
  simp only [List.any_cons, List.any_nil, Bool.or_false]
  rw [Str.is_eq', Str.is_eq']
theorem rest_comm (l : List Rs) (s t : Str) : restL l [t, s] = restL l [s, t] := by
  unfold restL
  congr 1
  funext x
  rw [inW_two, inW_two, Bool.or_comm]
theorem rest_rest (l : List Rs) (s t : Str) : restL (restL l [s]) [t] = restL l [s, t] := by
  unfold restL
  rw [List.filter_filter]
  congr 1
  funext x
  rw [inW_two, inW_one, inW_one]
  cases decide (x.who = s) <;> cases decide (x.who = t) <;> rfl
theorem gone (l : List Rs) (q : Int) (s : Str) : (fwdL (restL l [s]) q).any (Str.is s) = false := by
  rw [List.any_eq_false, fwdL_FW]
  intro n hn
  obtain ⟨x, hx, rfl⟩ := List.mem_map.1 hn
  have := (FW_mem.1 hx).1.1
  have := (List.mem_filter.1 this).2
  rw [inW_one] at this
  rw [Str.is_eq]
  simpa using this
theorem kept (l : List Rs) (q : Int) (s : Str) : ∀ n ∈ fwdL l q, n ≠ s → (fwdL (restL l [s]) q).any (Str.is n) = true := by
  intro n hn hs
  rw [fwdL_FW] at hn
  obtain ⟨x, hx, rfl⟩ := List.mem_map.1 hn
  rw [List.any_eq_true]
  refine ⟨x.who, ?_, by simp [Str.is]⟩
  rw [fwdL_FW]
  exact List.mem_map.2 ⟨x, FW_keep q _ hx (by rw [inW_one]; simp at hs; simp [hs]), rfl⟩
theorem same {l : List Rs} (hl : RG l) (q : Int) (s : Str) (h : (fwdL l q).any (Str.is s) = false) : fwdL (restL l [s]) q = fwdL l q := by
  rw [fwdL_FW, fwdL_FW]
  unfold restL
  rw [FW_same hl]
  · intro x hx hp hf
    rw [inW_one] at hp
    simp at hp
    rw [List.any_eq_false] at h
    have := h x.who (by rw [fwdL_FW]; exact List.mem_map.2 ⟨x, hf, rfl⟩)
    rw [Str.is_eq] at this
    simp [hp] at this
  · intro x hx y hy px py
    rw [inW_one] at px py
    simp at px py
    exact pair_who hl.uniq hx hy (by rw [px, py])
theorem fwd_rev (l : List Rs) (q : Int) : (fwdL l.reverse q).Perm (fwdL l q) := by
  rw [fwdL_FW, fwdL_FW]
  exact (FW_perm (List.reverse_perm l) q).map _
theorem fwd_min (l : List Rs) (q : Int) : min q ((l.filter isS).length : Int) ≤ ((fwdL l q).length : Int) := by
  rw [fwdL_FW, List.length_map]
  exact FW_min l q
theorem fwd_max (l : List Rs) (q : Int) : (fwdL l q).length ≤ (l.filter isS).length := by
  rw [fwdL_FW, List.length_map]
  exact FW_max l q
theorem repl_zero {l : List Rs} {q : Int} {out : List Str} (hr : resultsE l = 0) (hq : outside q 0 160 = false) (ho : out.length ≤ 160) (h : eachE (outE l) [] out = 0) : replE l q out = 0 := by
  have h0 : replE0 l q out = 0 := by
    unfold replE0
    rw [hr, hq, decide_eq_false (by omega)]
    rfl
  unfold replE
  rw [h0]
  simpa using h
theorem any_who {l : List Rs} {x : Rs} (h : x ∈ l) : l.any (isW x.who) = true := by
  rw [List.any_eq_true]
  exact ⟨x, h, by simp [isW]⟩
theorem out_one {l : List Rs} {x : Rs} (h : x ∈ l) : eachE (outE l) [] [x.who] = 0 := by
  have := any_who h
  simp only [eachE, outE, this]
  simp [whenE, firstE]
theorem out_two {l : List Rs} {x y : Rs} (h : x ∈ l) (hy : y ∈ l) (hn : x.who ≠ y.who) : eachE (outE l) [] [x.who, y.who] = 0 := by
  have h1 := any_who h
  have h2 := any_who hy
  have h3 : Str.is y.who x.who = false := by rw [Str.is_eq]; simpa using hn
  simp only [eachE, outE, h1, h2]
  simp [whenE, firstE, h3]
end LM.G6
namespace LM.G6
open Go LM
variable {P : Nat → Option SFunc} [Has P] [HasP P]
def PC (p q : Nat) : LB := .cells 0 [.c (.int .u8 p), .c (.int .u8 q)] 0
theorem L14_0 (l : List Rs) (q0 : CV) (p q : Nat) (hl : l.length < 1000) : ∀ (j k : Nat), k + j = l.length →
    execS P (limS P) c14_l0 ⟨[.c (.slice (l.map Rs.enc)), .c q0, .ptr 0 0 0, .slice 1 (1 + k) 0 k (some 3) none, .c (ci (((l.take k).filter isS).length : Nat)), .c (ci l.length), .c (ci k)], [PC p q, .cells (1 + k) (cR (l.reverse.take k)) 0]⟩ =
      some (.exit 0, ⟨[.c (.slice (l.map Rs.enc)), .c q0, .ptr 0 0 0, .slice 1 (1 + l.length) 0 l.length (some 3) none, .c (ci ((l.filter isS).length : Nat))], [PC p q, .cells (1 + l.length) (cR l.reverse) 0]⟩) := by
  intro j
  induction j with
  | zero =>
    intro k h
    have : k = l.length := by omega
    subst this
    have e : l.reverse.take l.length = l.reverse := List.take_of_length_le (by simp)
    rw [r14_l0]
    simp [c14_l0b, e]
  | succ j ih =>
    intro k h
    have ih := ih (k + 1) (by omega)
    have hkl : k < l.length := by omega
    obtain ⟨x, hx⟩ : ∃ x, l[l.length - 1 - k]? = some x := ⟨_, List.getElem?_eq_getElem (by omega)⟩
    obtain ⟨y, hy⟩ : ∃ y, l[k]? = some y := ⟨_, List.getElem?_eq_getElem hkl⟩
    have htk : l.reverse.take (k + 1) = l.reverse.take k ++ [x] := by
      rw [List.take_succ, List.getElem?_reverse (by omega), hx]
      rfl
    have hty : l.take (k + 1) = l.take k ++ [y] := by rw [List.take_succ, hy]; rfl
    have hle : (l.reverse.take k).length = k := by simp; omega
    have hcl : ((l.take k).filter isS).length ≤ k := Nat.le_trans (List.length_filter_le _ _) (by simp; omega)
    rw [htk, hty, List.filter_append] at ih
    generalize ((l.take k).filter isS) = C at *
    generalize l.reverse.take k = K at *
    have ha := append_own (b := 1) (g := 1 + k) (bytes := 56) (e := some 3) (ys := K.map Rs.enc) (xs := [x.enc]) (h := [PC p q, .cells (1 + k) (cellsOf (K.map Rs.enc)) 0]) (len := k) (fz := 0) rfl (Rs.elems _) (by simpa using x.elem) (by simpa using hle.symm) (Nat.zero_le _) (by simp) (by simp; omega) (by simp; omega)
    have e1 : K.map Rs.enc ++ [x.enc] = (K ++ [x]).map Rs.enc := by simp
    rw [e1, cellsOf_rs, cellsOf_rs] at ha
    have hw : IntKind.i64.wrap ((k : Int) + 1) = (k : Int) + 1 := wrap64 (by omega) (by omega)
    have hwc : IntKind.i64.wrap ((C.length : Int) + 1) = (C.length : Int) + 1 := wrap64 (by omega) (by omega)
    have w1 : IntKind.i64.wrap ((l.length : Int) - 1) = (l.length : Int) - 1 := wrap64 (by omega) (by omega)
    have w2 : IntKind.i64.wrap ((l.length : Int) - 1 - k) = ((l.length - 1 - k : Nat) : Int) := by rw [show (l.length : Int) - 1 - k = ((l.length - 1 - k : Nat) : Int) from by omega]; exact wrap64 (by omega) (by omega)
    have hlt : (k : Int) < l.length := by omega
    have i1 : l.length - 1 - k < l.length := by omega
    generalize l.length - 1 - k = z at *
    obtain ⟨_, hx'⟩ := List.getElem?_eq_some_iff.1 hx
    obtain ⟨_, hy'⟩ := List.getElem?_eq_some_iff.1 hy
    have e1 : 1 + (k + 1) = 1 + k + 1 := by omega
    rw [e1] at ih
    have hu := fun n F => under_cR n F
    rw [r14_l0]
    by_cases hs : y.state = []
    · have hf : List.filter isS [y] = [y] := by simp [isS, hs]
      rw [hf] at ih
      simp [Rs.enc] at ih ha
      simp only [PC] at *
      simp [c14_l0b, Rs.enc, hw, hwc, w1, w2, hlt, hkl, hx, hx', hy, hy', i1, ha, hu, hs, ih]
    · have hf : List.filter isS [y] = [] := by simp [isS, hs]
      rw [hf] at ih
      simp [Rs.enc] at ih ha
      simp only [PC] at *
      simp [c14_l0b, Rs.enc, hw, hwc, w1, w2, hlt, hkl, hx, hx', hy, hy', i1, ha, hu, hs, ih]
theorem L14_1 (Ll Q : CV) (Fc : CV) (G : List Str) (H : Heap) (hu : underB H.length H = true) (hp : 0 < H.length) (hG : (G.length : Int) < 9223372036854775807) : ∀ (r pre : List Str), ((pre ++ r).length : Int) < 9223372036854775807 → (∀ n ∈ r, G.any (Str.is n) = true) →
    execS P (limS P) c14_l1 ⟨[.c Ll, .c Q, .ptr 0 0 0, .c Fc, .c (.slice (G.map CV.str)), .c (.slice ((pre ++ r).map CV.str)), .c (ci (pre ++ r).length), .c (ci pre.length)], H⟩ = some (.exit 2, ⟨[.c Ll, .c Q, .ptr 0 0 0, .c Fc], H⟩) := by
  intro r
  induction r with
  | nil =>
    intro pre h _
    rw [r14_l1]
    simp [c14_l1b]
  | cons n r ih =>
    intro pre h hg
    have ih := ih (pre ++ [n]) (by simpa using h) (fun m hm => hg m (by simp [hm]))
    have e81 := S81 (P := P) n G hG
    rw [hg n (by simp)] at e81
    simp at ih h
    have hw : IntKind.i64.wrap (↑pre.length + 1) = ↑pre.length + 1 := wrap64 (by omega) (by omega)
    have hlt : (pre.length : Int) < pre.length + (r.length + 1) := by omega
    rw [r14_l1]
    simp [c14_l1b, hw, hlt, e81, hu, hp, ih]
theorem L14_2 (Ll Q : CV) (x : Str) (Y : CV) (A : List Str) (H : Heap) (hG : (A.length : Int) < 9223372036854775807) : ∀ (r pre : List Str), ((pre ++ r).length : Int) < 9223372036854775807 → (∀ n ∈ r, n ≠ x → A.any (Str.is n) = true) →
    execS P (limS P) c14_l2 ⟨[.c Ll, .c Q, .c (.str x), .c Y, .c (.slice (A.map CV.str)), .c (.slice ((pre ++ r).map CV.str)), .c (ci (pre ++ r).length), .c (ci pre.length)], H⟩ = some (.exit 4, ⟨[.c Ll, .c Q, .c (.str x), .c Y], H⟩) := by
  intro r
  induction r with
  | nil =>
    intro pre h _
    rw [r14_l2]
    simp [c14_l2b]
  | cons n r ih =>
    intro pre h hg
    have ih := ih (pre ++ [n]) (by simpa using h) (fun m hm => hg m (by simp [hm]))
    have e81 := S81 (P := P) n A hG
    simp at ih h
    have hw : IntKind.i64.wrap (↑pre.length + 1) = ↑pre.length + 1 := wrap64 (by omega) (by omega)
    have hlt : (pre.length : Int) < pre.length + (r.length + 1) := by omega
    rw [r14_l2]
    by_cases hn : n = x
    · subst hn
      simp [c14_l2b, hw, hlt, ih]
    · rw [hg n (by simp) hn] at e81
      simp [c14_l2b, hw, hlt, e81, hn, ih]
end LM.G6
namespace LM.G6
open Go LM
variable {P : Nat → Option SFunc} [Has P]
structure Pr where
  a : Int
  b : Int
def Pr.enc (x : Pr) : CV := .agg [ci x.a, ci x.b]
theorem Pr.elem (x : Pr) : Elem (some 2) x.enc := ⟨_, rfl, rfl, by simp⟩
theorem Pr.elems (l : List Pr) : ∀ x ∈ l.map Pr.enc, Elem (some 2) x := by
  intro x hx
  obtain ⟨y, _, rfl⟩ := List.mem_map.1 hx
  exact y.elem
end LM.G6
namespace LM.G6
open Go LM
variable {P : Nat → Option SFunc} [Has P]
theorem outside_f {x a b : Int} : outside x a b = false ↔ a ≤ x ∧ x ≤ b := by
  unfold outside
  by_cases h1 : x < a <;> by_cases h2 : x > b <;> simp [h1, h2] <;> omega
end LM.G6
namespace LM.G6
open Go LM
variable {P : Nat → Option SFunc} [Has P] [HasP P]
theorem frz_rsB {b g fz : Nat} {F : List Rs} {h : Heap} (hb : h[b]? = some (.cells g (cR F) fz)) (cap : Option Nat) : frz frzDepth (.slice b g 0 F.length (some 3) cap) h = some (.slice (F.map Rs.enc), h.set b (.cells g (cR F) (Nat.max fz (F.length * 3)))) := by
  have h3 := chunk_cellsOf (Rs.elems F)
  have hz : szOf (some 3) = 3 := rfl
  rw [frz_slice, hb]
  simp only [Nat.zero_add, List.drop_zero, hz]
  rw [if_pos ⟨trivial, by rw [cR_length]; omega⟩]
  have : (cR F).take (F.length * 3) = cellsOf (F.map Rs.enc) := by rw [List.take_of_length_le (by rw [cR_length]; omega), cellsOf_rs]
  rw [this]
  unfold cellsOf
  rw [mapH_map_c 38]
  rw [List.length_map] at h3
  simp only [bnd_some, h3, bump, hb]
theorem fwdE_zero {l : List Rs} {q : Int} (hr : resultsE l = 0) (hq : outside q 0 160 = false) : fwdE l q = 0 := by unfold fwdE; rw [hr, hq]; rfl
theorem S14 (h16 : fn P 16 [] = some (.bool true)) (l : List Rs) (q : Int) (a b : Nat) (ha : a < 256) (hb : b < 256) (hl : ∀ x ∈ l, x.ok) (hs : (l.length : Int) < 9223372036854775807) : fn P 14 [.slice (l.map Rs.enc), ci q, .agg [.int .u8 a, .int .u8 b]] = some (.bool true) := by
  have e71 := S71 (P := P) l 14 hs
  have e72 := S72 (P := P) l hl hs
  rw [u14]
  cases g : shortRs l 14
  · rw [g] at e71
    simp [c14, h16, e71]
  rw [g] at e71
  by_cases hr : resultsE l = 0
  case neg => simp [c14, h16, e71, e72, hr]
  rw [hr] at e72
  by_cases q1 : q < 0
  · simp [c14, h16, e71, e72, q1]
  by_cases q2 : 160 < q
  · simp [c14, h16, e71, e72, q1, q2]
  have hll : l.length ≤ 14 := by
    have := resultsE_len hr
    unfold shortRs at g
    simp at g
    omega
  have hq : outside q 0 160 = false := by rw [outside_f]; omega
  have hg := results_rg hr
  have hrr : resultsE l.reverse = 0 := rg_results (by simp; omega) (hg.perm (List.reverse_perm l).symm)
  have e74 := S74 (P := P) l q hl hs (fun _ => by omega)
  have e74r := S74 (P := P) l.reverse q (fun x hx => hl x (by simpa using hx)) (by simpa using hs) (fun _ => by simp; omega)
  rw [if_pos (fwdE_zero hr hq)] at e74
  rw [if_pos (fwdE_zero hrr hq)] at e74r
  have hmin := fwd_min l q
  have hmax := fwd_max l q
  have hp := fwd_rev l q
  have hpl := hp.length_eq
  have hgl := List.length_filter_le isS l
  have hFG : ∀ n ∈ fwdL l q, (fwdL l.reverse q).any (Str.is n) = true := fun n hn => List.any_eq_true.2 ⟨n, hp.mem_iff.2 hn, by simp [Str.is]⟩
  have k0 := L14_0 (P := P) l (ci q) a b (by omega) l.length 0 (by omega)
  have k1 := L14_1 (P := P) (.slice (l.map Rs.enc)) (ci q) (.slice ((fwdL l q).map CV.str)) (fwdL l.reverse q) [PC a b, .cells (1 + l.length) (cR l.reverse) (l.length * 3)] (by simp [PC, under_cR]) (by simp) (by omega) (fwdL l q) [] (by simp; omega) hFG
  have ef := frz_rsB (b := 1) (g := 1 + l.length) (fz := 0) (F := l.reverse) (h := [PC a b, .cells (1 + l.length) (cR l.reverse) 0]) (by simp) none
  have hc : cR [] = [] := rfl
  simp only [PC] at *
  simp [hc] at k0 k1 ef e74r
  have m1 : ¬ ((fwdL l q).length : Int) < if ((l.filter isS).length : Int) < q then ((l.filter isS).length : Int) else q := by split <;> omega
  have m2 : ¬ ((l.filter isS).length : Int) < (fwdL l q).length := by omega
  have w0 : IntKind.i64.wrap 0 = 0 := rfl
  by_cases hn : l = []
  · subst hn
    have hF : fwdL [] q = [] := List.eq_nil_of_length_eq_zero (by simpa using hmax)
    have m1' : (if (0 : Int) < q then (0 : Int) else q) ≤ 0 := by split <;> omega
    simp [hF] at e71 e72 e74 e74r k0 ef k1 m1
    simp [m1', w0, foldInt, c14, h16, e71, e72, q1, q2, e74, k0, ef, e74r, k1, m1]
  have hn0 : 0 < l.length := List.length_pos_iff.2 hn
  have ha' : a % l.length < l.length := Nat.mod_lt _ hn0
  have hb' : b % l.length < l.length := Nat.mod_lt _ hn0
  obtain ⟨x, hx⟩ : ∃ x, l[a % l.length]? = some x := ⟨_, List.getElem?_eq_getElem ha'⟩
  obtain ⟨y, hy⟩ : ∃ y, l[b % l.length]? = some y := ⟨_, List.getElem?_eq_getElem hb'⟩
  obtain ⟨_, hx'⟩ := List.getElem?_eq_some_iff.1 hx
  obtain ⟨_, hy'⟩ := List.getElem?_eq_some_iff.1 hy
  have xm : x ∈ l := List.mem_of_getElem? hx
  have ym : y ∈ l := List.mem_of_getElem? hy
  have wa : IntKind.i64.wrap (a : Int) = a := wrap64 (by omega) (by omega)
  have wb : IntKind.i64.wrap (b : Int) = b := wrap64 (by omega) (by omega)
  have ra : Int.tmod (a : Int) l.length = (a % l.length : Nat) := by rw [Int.tmod_eq_emod_of_nonneg (by omega)]; rfl
  have rb : Int.tmod (b : Int) l.length = (b % l.length : Nat) := by rw [Int.tmod_eq_emod_of_nonneg (by omega)]; rfl
  generalize a % l.length = i at *
  generalize b % l.length = j at *
  have wi : IntKind.i64.wrap (i : Int) = i := wrap64 (by omega) (by omega)
  have wj : IntKind.i64.wrap (j : Int) = j := wrap64 (by omega) (by omega)
  have xk := fun (ms : List Rs) (h : x ∈ ms) (hr : resultsE ms = 0) => repl_zero (q := q) hr hq (by simp) (out_one h)
  have ea := S75 (P := P) l q [x.who] hl hs (by simp) (fun _ => by omega)
  rw [if_pos (xk l xm hr)] at ea
  have e81a := S81 (P := P) x.who (fwdL l q) (by omega)
  have hal := fwdL_len (restL l [x.who]) q
  have hrl := restL_len l [x.who]
  have e81b := S81 (P := P) x.who (fwdL (restL l [x.who]) q) (by omega)
  rw [gone] at e81b
  have e82a := S82 (P := P) (fwdL (restL l [x.who]) q) (fwdL l q) (by omega)
  have k2 := L14_2 (P := P) (.slice (l.map Rs.enc)) (ci q) x.who (.str y.who) (fwdL (restL l [x.who]) q) [PC a b, .cells (1 + l.length) (cR l.reverse) (l.length * 3)] (by omega) (fwdL l q) [] (by simp; omega) (kept l q x.who)
  simp only [PC] at k2
  simp [-List.any_eq_true] at ea e81b k2
  have hsame := same hg q x.who
  generalize hA : fwdL (restL l [x.who]) q = A at *
  generalize hFF : fwdL l q = F at *
  by_cases hxy : x.who = y.who
  · cases hxF : F.any (Str.is x.who)
    · have := hsame hxF
      subst this
      rw [hxF] at e81a
      simp only [hxy] at ea e81a e81b k2
      simp [w0, foldInt, c14, h16, e71, e72, q1, q2, e74, k0, ef, e74r, hpl, m1, m2, k1, hn, wa, wb, ra, rb, wi, wj, hx, hy, hx', hy', Rs.enc, ha', hb', ea, e81a, e81b, e82a, k2, hxy]
    · rw [hxF] at e81a
      simp only [hxy] at ea e81a e81b k2
      simp [w0, foldInt, c14, h16, e71, e72, q1, q2, e74, k0, ef, e74r, hpl, m1, m2, k1, hn, wa, wb, ra, rb, wi, wj, hx, hy, hx', hy', Rs.enc, ha', hb', ea, e81a, e81b, e82a, k2, hxy]
  have hyx : y.who ≠ x.who := fun e => hxy e.symm
  have ym' : y ∈ restL l [x.who] := List.mem_filter.2 ⟨ym, by rw [inW_one]; simp [hyx]⟩
  have hrr' : resultsE (restL l [x.who]) = 0 := rg_results (by omega) (hg.filter _)
  have eb := S75 (P := P) l q [x.who, y.who] hl hs (by simp) (fun _ => by omega)
  rw [if_pos (repl_zero hr hq (by simp) (out_two xm ym hxy))] at eb
  have ec := S75 (P := P) l q [y.who, x.who] hl hs (by simp) (fun _ => by omega)
  rw [if_pos (repl_zero hr hq (by simp) (out_two ym xm hyx)), rest_comm] at ec
  have e79 := S79 (P := P) l [x.who] (by simp) (by omega)
  have ed := S75 (P := P) (restL l [x.who]) q [y.who] (fun z hz => hl z (List.mem_filter.1 hz).1) (by omega) (by simp) (fun _ => by omega)
  rw [if_pos (repl_zero hrr' hq (by simp) (out_one ym')), rest_rest] at ed
  have hbl := fwdL_len (restL l [x.who, y.who]) q
  have hrl2 := restL_len l [x.who, y.who]
  have e82b := S82 (P := P) (fwdL (restL l [x.who, y.who]) q) (fwdL (restL l [x.who, y.who]) q) (by omega)
  generalize fwdL (restL l [x.who, y.who]) q = B at *
  simp at eb ec ed e79 e82b
  cases hxF : F.any (Str.is x.who)
  · have := hsame hxF
    subst this
    rw [hxF] at e81a
    simp [w0, foldInt, c14, h16, e71, e72, q1, q2, e74, k0, ef, e74r, hpl, m1, m2, k1, hn, wa, wb, ra, rb, wi, wj, hx, hy, hx', hy', Rs.enc, ha', hb', ea, e81a, e81b, e82a, k2, hxy, eb, ec, ed, e79, e82b]
  · rw [hxF] at e81a
    simp [w0, foldInt, c14, h16, e71, e72, q1, q2, e74, k0, ef, e74r, hpl, m1, m2, k1, hn, wa, wb, ra, rb, wi, wj, hx, hy, hx', hy', Rs.enc, ha', hb', ea, e81a, e81b, e82a, k2, hxy, eb, ec, ed, e79, e82b]
end LM.G6
