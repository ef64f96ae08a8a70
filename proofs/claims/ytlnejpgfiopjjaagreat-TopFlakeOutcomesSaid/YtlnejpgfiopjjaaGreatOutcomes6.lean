/- Part 9 of what YtlnejpgfiopjjaaGreatOutcomes leans on. -/
import Derived.Test.YtlnejpgfiopjjaaGreatRows
import Derived.WalkKit
import Derived.ProofKit
import Derived.SizedLaws
import Derived.Test.YtlnejpgfiopjjaaGreatOutcomesL1
import Derived.Test.YtlnejpgfiopjjaaGreatOutcomesL2
import Derived.Test.YtlnejpgfiopjjaaGreatOutcomesL3
import Derived.Test.YtlnejpgfiopjjaaGreatOutcomes1
import Derived.Test.YtlnejpgfiopjjaaGreatOutcomes2
import Derived.Test.YtlnejpgfiopjjaaGreatOutcomes3
import Derived.Test.YtlnejpgfiopjjaaGreatOutcomes4
import Derived.Test.YtlnejpgfiopjjaaGreatOutcomes5
set_option linter.all false
namespace Go.Proofs.YtlnejpgfiopjjaaGreat
open Go.ChangeShapes Go.WideShapes Go.ChangeAt Go.RowKit
theorem own_knob : ownKnob Tryz.prog.godebug = none := by kernel_rfl
theorem laid_out : laidOutB Tryz.prog = true := by kernel_rfl
theorem maps_rowed : mapsRowed Tryz.prog = true := by kernel_rfl
theorem slices_full : LM.slicesFullB Tryz.prog = true := by kernel_rfl
theorem typed_map {α : Type} {enc : α → LM.CV} {p : α → Prop} {e : LM.CTy} (h : ∀ x, LM.Typed e x → ∃ a, x = enc a ∧ p a) : ∀ {xs : List LM.CV}, (∀ x ∈ xs, LM.Typed e x) → ∃ l : List α, xs = l.map enc ∧ ∀ a ∈ l, p a
  | [], _ => ⟨[], rfl, by simp⟩
  | x :: xs, hx => by
    obtain ⟨a, ha, hp⟩ := h x (hx x (by simp))
    obtain ⟨l, hl, hq⟩ := typed_map h (xs := xs) fun y hy => hx y (by simp [hy])
    exact ⟨a :: l, by rw [ha, hl]; rfl, fun b hb => by rcases List.mem_cons.1 hb with rfl | hb; exact hp; exact hq b hb⟩
theorem typed_slice {α : Type} {enc : α → LM.CV} {p : α → Prop} {e : LM.CTy} {b : Nat} (h : ∀ x, LM.Typed e x → ∃ a, x = enc a ∧ p a) {v : LM.CV} (hv : LM.Typed (.slice b e) v) : ∃ l : List α, v = .slice (l.map enc) ∧ (∀ a ∈ l, p a) ∧ l.length * b ≤ 2 ^ 47 := by
  simp only [LM.Typed] at hv
  obtain ⟨xs, rfl, _, hb, hx⟩ := hv
  obtain ⟨l, rfl, hp⟩ := typed_map h hx
  refine ⟨l, rfl, hp, ?_⟩
  rw [List.length_map] at hb
  exact Nat.le_trans hb (by decide)
theorem typed_str {v : LM.CV} (hv : LM.Typed .str v) : ∃ s : LM.Str, v = .str s ∧ s.length < 9223372036854775807 := by
  simp only [LM.Typed] at hv
  obtain ⟨s, rfl, h⟩ := hv
  exact ⟨s, rfl, Nat.lt_of_le_of_lt h (by decide)⟩
theorem typed_int {v : LM.CV} (hv : LM.Typed (.int .i64) v) : ∃ n, v = LM.ci n ∧ -9223372036854775808 ≤ n ∧ n ≤ 9223372036854775807 := by
  simp only [LM.Typed] at hv
  obtain ⟨n, rfl, h⟩ := hv
  refine ⟨n, rfl, ?_⟩
  simp [Lit.wf, IntKind.min, IntKind.max, IntKind.bits, IntKind.signed] at h
  omega
end Go.Proofs.YtlnejpgfiopjjaaGreat
namespace LM.GZ
open Go LM
variable {P : Nat → Option SFunc} [Has P]
@[simp] theorem S157 (c : Nat) : fn P 157 [.int .i32 c] = some (.bool (letterN c)) := by
  rw [u157]; simp [c157, letterN]
  rw [show decide ((97 : Int) ≤ c) = decide (97 ≤ c) from decide_eq_decide.2 (by omega), show decide ((c : Int) ≤ 122) = decide (c ≤ 122) from decide_eq_decide.2 (by omega),
    show decide ((65 : Int) ≤ c) = decide (65 ≤ c) from decide_eq_decide.2 (by omega), show decide ((c : Int) ≤ 90) = decide (c ≤ 90) from decide_eq_decide.2 (by omega)]
theorem L61 (s : Str) (hs : s.length ≤ 24) : ∀ (l pre : Str), s = pre ++ l → execS P (limS P) c61_l0 ⟨[.c (.str s), .c (ci pre.length)], []⟩ = if nameFrom pre.length l then some (.exit 0, ⟨[], []⟩) else some (.ret, ⟨[.c (.bool false)], []⟩) := by
  intro l
  induction l with
  | nil =>
    intro pre h
    rw [r61_l0]
    simp [c61_l0b, h, nameFrom]
  | cons c r ih =>
    intro pre h
    have ih := ih (pre ++ [c]) (by simp [h])
    simp at ih
    rw [h] at hs
    simp at hs
    have hw : IntKind.i64.wrap (↑pre.length + 1) = ↑pre.length + 1 := wrap64 (by omega) (by omega)
    have hlt : (pre.length : Int) < pre.length + (r.length + 1) := by omega
    have hn : (((↑c.toNat : Int) < 97 ∨ 122 < (↑c.toNat : Int)) ∧ ((↑c.toNat : Int) < 65 ∨ 90 < (↑c.toNat : Int))) ∧ (pre = [] ∨ ((↑c.toNat : Int) < 48 ∨ 57 < (↑c.toNat : Int)) ∧ ¬(↑c.toNat : Int) = 95) ↔ nameN pre.length c.toNat = false := by
      have hp : pre = [] ↔ pre.length = 0 := by simp
      unfold nameN letterN digitN
      cases pre with
      | nil => simp; omega
      | cons x y => simp; omega
    rw [r61_l0]
    simp [c61_l0b, h, nameFrom, hw, hlt, hn]
    rw [← h, ih]
    cases nameN pre.length c.toNat <;> simp
@[simp] theorem S61 (s : Str) : fn P 61 [.str s] = some (.bool (isName s)) := by
  rw [u61]
  by_cases h1 : s.length < 1
  · have : s = [] := List.eq_nil_of_length_eq_zero (by omega)
    subst this
    simp [c61, isName]
  · by_cases h2 : s.length > 24
    · have h3 : ¬ (s.length : Int) < 1 := by omega
      have h4 : (24 : Int) < (s.length : Int) := by omega
      have h5 : ¬ s.length ≤ 24 := by omega
      simp [c61, isName, h3, h4, h5]
    · have := L61 (P := P) s (by omega) s [] rfl
      simp at this
      have h3 : ¬ (s.length : Int) < 1 := by omega
      have h4 : ¬ (24 : Int) < (s.length : Int) := by omega
      have h5 : s.length ≤ 24 := by omega
      have h6 : 1 ≤ s.length := by omega
      simp [c61, isName, h3, h4, h5, h6, this]
      cases nameFrom 0 s <;> simp
theorem L85 (s : Str) (hs : s.length < 9223372036854775807) : ∀ (l pre : Str), s = pre ++ l → ∃ q, execS P (limS P) c85_l0 ⟨[.c (.str s), .ptr 0 0 0], [.iter s pre.length]⟩ = if nameFrom pre.length l then some (.exit 0, ⟨[.c (.str s)], [.iter s s.length]⟩) else some (.ret, ⟨[.c (.bool false)], [.iter s q]⟩) := by
  intro l
  induction l with
  | nil =>
    intro pre h
    refine ⟨0, ?_⟩
    rw [r85_l0]
    simp [c85_l0b, h, nameFrom]
  | cons c r ih =>
    intro pre h
    obtain ⟨q, ih⟩ := ih (pre ++ [c]) (by simp [h])
    simp at ih
    have hc : s[pre.length]? = some c := by simp [h]
    rw [r85_l0]
    rcases Nat.lt_or_ge c.toNat 128 with hlo | hhi
    · have hd := decode_lo hc hlo
      rw [h] at hd
      have hn : (letterN c.toNat = false ∧ (pre = [] ∨ ¬(↑c.toNat : Int) = 95 ∧ ((↑c.toNat : Int) < 48 ∨ 57 < (↑c.toNat : Int)))) ↔ nameN pre.length c.toNat = false := by
        unfold nameN digitN
        cases pre with
        | nil => simp
        | cons x y => simp; cases letterN c.toNat <;> simp; omega
      refine ⟨if nameN pre.length c.toNat = false then pre.length + 1 else q, ?_⟩
      simp [c85_l0b, h, nameFrom, hd, hn]
      rw [h] at ih
      simp at ih
      cases nameN pre.length c.toNat <;> simp [ih]
    · have hd := decode_hi hc hhi
      rw [h] at hd
      have hl : letterN (Utf8.decode { data := List.toArray (pre ++ c :: r) } pre.length).fst = false := by
        have := nameN_hi (i := 0) hd
        simpa [nameN] using this
      have h1 : ¬ (↑(Utf8.decode { data := List.toArray (pre ++ c :: r) } pre.length).fst : Int) = 95 := by omega
      have h2 : (57 : Int) < (↑(Utf8.decode { data := List.toArray (pre ++ c :: r) } pre.length).fst : Int) := by omega
      refine ⟨pre.length + (Utf8.decode { data := List.toArray (pre ++ c :: r) } pre.length).snd, ?_⟩
      simp [c85_l0b, h, nameFrom, hl, h1, h2, nameN_hi hhi]
@[simp] theorem S85 (s : Str) (hs : s.length < 9223372036854775807) : fn P 85 [.str s] = some (.bool (isName s)) := by
  rw [u85]
  obtain ⟨q, this⟩ := L85 (P := P) s hs s [] rfl
  simp at this
  simp [c85, this]
  cases hn : nameFrom 0 s
  · simp [isName, hn]
  · cases s with
    | nil => simp [isName]
    | cons c r =>
      simp [isName, hn]
      omega
end LM.GZ
namespace LM.GZ
open Go LM
variable {P : Nat → Option SFunc} [Has P]
structure Lic where
  name : Str
  frm : Int
  to : Int
def Lic.enc (x : Lic) : CV := .agg [.str x.name, ci x.frm, ci x.to]
def Lic.ok (x : Lic) : Prop := x.name.length < 9223372036854775807
end LM.GZ
namespace LM.GZ
open Go LM
def idxF {α : Type} (p : α → Bool) : Nat → List α → Int
  | _, [] => -1
  | n, x :: r => if p x then n else idxF p (n + 1) r
theorem idxF_lt {α : Type} (p : α → Bool) : ∀ (l : List α) (n : Nat), (idxF p n l < 0) ↔ l.any p = false
  | [], n => by simp [idxF]
  | x :: r, n => by
    unfold idxF
    cases h : p x
    · simp [h, idxF_lt p r (n + 1)]
    · simp [h]
theorem idxF_none {α : Type} {p : α → Bool} : ∀ {l : List α} {n : Nat}, l.any p = false → idxF p n l = -1
  | [], n, _ => rfl
  | x :: r, n, h => by
    simp only [List.any_cons, Bool.or_eq_false_iff] at h
    rw [idxF, if_neg (by simp [h.1]), idxF_none h.2]
theorem idxF_dec {α : Type} (p : α → Bool) (l : List α) (n : Nat) : decide (0 ≤ idxF p n l) = l.any p := by
  have := idxF_lt p l n
  cases h : l.any p
  · have := this.2 h
    simp; omega
  · have : ¬ idxF p n l < 0 := fun q => by rw [this.1 q] at h; cases h
    simp; omega
end LM.GZ
namespace LM.GZ
open Go LM
variable {P : Nat → Option SFunc} [Has P]
def Str.is (s : Str) (x : Str) : Bool := x == s
theorem Str.is_eq (s x : Str) : Str.is s x = decide (x = s) := by unfold Str.is; by_cases h : x = s <;> simp [h]
theorem Str.is_eq' (s x : Str) : Str.is s x = decide (s = x) := by rw [Str.is_eq]; exact decide_eq_decide.2 eq_comm
theorem L158 (s : Str) : ∀ (l pre : List Str), ((pre ++ l).length : Int) < 9223372036854775807 →
    execS P (limS P) c158_l0 ⟨[.c (.slice ((pre ++ l).map CV.str)), .c (.str s), .c (ci (pre ++ l).length), .c (ci pre.length)], []⟩ = if l.any (Str.is s) then some (.ret, ⟨[.c (ci (idxF (Str.is s) pre.length l))], []⟩) else some (.exit 0, ⟨[], []⟩) := by
  intro l
  induction l with
  | nil =>
    intro pre h
    rw [r158_l0]
    simp [c158_l0b]
  | cons x r ih =>
    intro pre h
    have ih := ih (pre ++ [x]) (by simpa using h)
    simp at ih h
    have hw : IntKind.i64.wrap (↑pre.length + 1) = ↑pre.length + 1 := wrap64 (by omega) (by omega)
    have hlt : (pre.length : Int) < pre.length + (r.length + 1) := by omega
    have e := Str.is_eq' s x
    rw [r158_l0]
    by_cases h0 : s = x
    · simp only [h0, decide_true] at e
      simp [c158_l0b, hw, hlt, idxF, h0, e]
    · simp only [h0, decide_false] at e
      simp [c158_l0b, hw, hlt, idxF, h0, e, ih]
theorem S86 (s : Str) (l : List Str) (h : (l.length : Int) < 9223372036854775807) : fn P 86 [.slice (l.map CV.str), .str s] = some (.bool (l.any (Str.is s))) := by
  have hl := L158 (P := P) s l [] (by simpa using h)
  have h2 : fn P 158 [.slice (l.map CV.str), .str s] = some (ci (idxF (Str.is s) 0 l)) := by
    rw [u158]
    simp at hl
    simp [c158, hl]
    exact fun hx => (idxF_none (by simpa using hx)).symm
  rw [u86]
  simp [c86, h2, idxF_dec]
theorem L36 (s : Str) : ∀ (l pre : List Str), ((pre ++ l).length : Int) < 9223372036854775807 →
    execS P (limS P) c36_l0 ⟨[.c (.slice ((pre ++ l).map CV.str)), .c (.str s), .c (ci pre.length)], []⟩ = if l.any (Str.is s) then some (.ret, ⟨[.c (.bool true)], []⟩) else some (.exit 0, ⟨[], []⟩) := by
  intro l
  induction l with
  | nil =>
    intro pre h
    rw [r36_l0]
    simp [c36_l0b]
  | cons x r ih =>
    intro pre h
    have ih := ih (pre ++ [x]) (by simpa using h)
    simp at ih h
    have hw : IntKind.i64.wrap (↑pre.length + 1) = ↑pre.length + 1 := wrap64 (by omega) (by omega)
    have hlt : (pre.length : Int) < pre.length + (r.length + 1) := by omega
    have e := Str.is_eq s x
    rw [r36_l0]
    by_cases h0 : x = s
    · simp only [h0, decide_true] at e
      simp [c36_l0b, hw, hlt, h0, e]
    · simp only [h0, decide_false] at e
      simp [c36_l0b, hw, hlt, h0, e, ih]
theorem S36 (s : Str) (l : List Str) (h : (l.length : Int) < 9223372036854775807) : fn P 36 [.slice (l.map CV.str), .str s] = some (.bool (l.any (Str.is s))) := by
  have hl := L36 (P := P) s l [] (by simpa using h)
  simp [-List.any_eq_true] at hl
  rw [u36]
  cases h0 : l.any (Str.is s) <;> rw [h0] at hl <;> simp [c36, hl]
end LM.GZ
namespace LM.GZ
open Go LM
variable {P : Nat → Option SFunc} [Has P]
def cI (xs : List Int) : List LV := xs.map fun v => LV.c (ci v)
theorem cI_length (xs : List Int) : (cI xs).length = xs.length := by simp [cI]
theorem cellsOf_ints (xs : List Int) : cellsOf (xs.map ci) = cI xs := by
  induction xs with
  | nil => rfl
  | cons x r ih =>
    have : cellsOf ((x :: r).map ci) = .c (ci x) :: cellsOf (r.map ci) := rfl
    rw [this, ih]
    rfl
theorem intElems (l : List Int) : ∀ x ∈ l.map ci, Elem none x := by
  intro x hx
  obtain ⟨y, _, rfl⟩ := List.mem_map.1 hx
  exact ⟨rfl, rfl⟩
theorem under_cI (n : Nat) (xs : List Int) : underL n (cI xs) = true := by rw [← cellsOf_ints]; exact underL_cellsOf _ _
theorem shift_cI (n : Nat) : ∀ xs : List Int, shiftL n (cI xs) = cI xs
  | [] => rfl
  | x :: r => by
    have : cI (x :: r) = .c (ci x) :: cI r := rfl
    rw [this, shiftL, shift_cI n r]
    rfl
def sw (xs : List Int) (i k : Nat) : List Int := (xs.set i (xs.getD k 0)).set k (xs.getD i 0)
end LM.GZ
namespace LM.GZ
open Go LM
variable {P : Nat → Option SFunc} [Has P]
theorem frzFuncs_nil (h : Heap) : frzFuncs [] h = some ([], h) := by rw [frzFuncs]
theorem frzFuncs_c (v : CV) (l : List LV) (h : Heap) : frzFuncs (.c v :: l) h = bnd (frzFuncs l h) fun a => some (.c v :: a.1, a.2) := by
  rw [frzFuncs]
  rcases frzFuncs l h with _ | ⟨x, y⟩ <;> rfl
  all_goals simp
theorem frzFuncs_slice (b g o n : Nat) (e c : Option Nat) (l : List LV) (h : Heap) : frzFuncs (.slice b g o n e c :: l) h = bnd (frzFuncs l h) fun a => some (.slice b g o n e c :: a.1, a.2) := by
  rw [frzFuncs]
  rcases frzFuncs l h with _ | ⟨x, y⟩ <;> rfl
  all_goals simp
end LM.GZ
namespace LM.GZ
abbrev Du := Nat × Nat
def isOf (c : Nat) (d : Du) : Bool := decide (d.1 = c) || decide (d.2 = c)
def wAt (W : List Int) (o : Nat) : Int := W.getD o (-1)
def rAt (R : List Int) (c : Nat) : Int := R.getD c 0
def aAt (A : List Bool) (c : Nat) : Bool := A.getD c false
structure Gs where
  W : List Int
  R : List Int
  A : List Bool
def giveO (rec : Nat → Gs → Bool × Gs) (d c : Nat) : List Nat → Gs → Bool × Gs
  | [], s => (false, s)
  | o :: os, s => if wAt s.W o = (c : Int) then (if (rec o s).1 = true then (true, { (rec o s).2 with W := (rec o s).2.W.set d (c : Int) }) else giveO rec d c os (rec o s).2) else giveO rec d c os s
def giveC (rec : Nat → Gs → Bool × Gs) (d : Nat) : List Nat → Gs → Bool × Gs
  | [], s => (false, s)
  | c :: cs, s => if aAt s.A c = true then giveC rec d cs s else
      if 0 < rAt s.R c then (true, ⟨s.W.set d (c : Int), s.R.set c (rAt s.R c - 1), s.A.set c true⟩) else
      if (giveO rec d c (List.range s.W.length) { s with A := s.A.set c true }).1 = true then giveO rec d c (List.range s.W.length) { s with A := s.A.set c true }
      else giveC rec d cs (giveO rec d c (List.range s.W.length) { s with A := s.A.set c true }).2
def dAt (D : List Du) (o : Nat) : Du := D.getD o (0, 0)
def give (D : List Du) : Nat → Nat → Gs → Bool × Gs
  | 0, _, s => (false, s)
  | f + 1, d, s => giveC (give D f) d [(dAt D d).1, (dAt D d).2] s
theorem getD_set {α : Type} (v x : α) : ∀ (l : List α) (i j : Nat), (l.set i v).getD j x = if i = j ∧ i < l.length then v else l.getD j x
  | [], i, j => by simp
  | a :: l, 0, 0 => by simp
  | a :: l, 0, j + 1 => by simp
  | a :: l, i + 1, 0 => by simp
  | a :: l, i + 1, j + 1 => by have := getD_set v x l i j; simp only [List.set_cons_succ, List.getD_cons_succ, this, List.length_cons, Nat.add_right_cancel_iff, Nat.add_lt_add_iff_right]
def cntW (W : List Int) (c : Int) : Int := W.count c
theorem cntW_set (x y : Int) : ∀ (W : List Int) (d : Nat), d < W.length → cntW (W.set d x) y = cntW W y - (if wAt W d = y then 1 else 0) + (if x = y then 1 else 0)
  | [], d, h => by simp at h
  | a :: W, 0, h => by
    simp only [cntW, List.set_cons_zero, List.count_cons, wAt, List.getD_cons_zero, beq_iff_eq]
    split <;> split <;> omega
  | a :: W, d + 1, h => by
    have := cntW_set x y W d (by simpa using h)
    simp only [cntW, List.set_cons_succ, List.count_cons, wAt, List.getD_cons_succ, beq_iff_eq] at this ⊢
    split <;> omega
def left (A : List Bool) : Nat := A.count false
theorem left_set : ∀ (A : List Bool) (c : Nat), c < A.length → aAt A c = false → left (A.set c true) + 1 = left A
  | [], c, h, _ => by simp at h
  | a :: A, 0, h, e => by simp only [aAt, List.getD_cons_zero] at e; subst e; simp [left]
  | a :: A, c + 1, h, e => by
    have := left_set A c (by simpa using h) (by simpa [aAt] using e)
    simp only [left, List.set_cons_succ, List.count_cons] at this ⊢
    omega
theorem left_mono : ∀ (A B : List Bool), A.length = B.length → (∀ c, aAt A c = true → aAt B c = true) → left B ≤ left A
  | [], [], _, _ => Nat.le_refl _
  | [], _ :: _, h, _ => by simp at h
  | _ :: _, [], h, _ => by simp at h
  | a :: A, b :: B, h, hm => by
    have := left_mono A B (by simpa using h) (fun c hc => by simpa [aAt] using hm (c + 1) (by simpa [aAt] using hc))
    have h0 := hm 0
    simp only [aAt, List.getD_cons_zero] at h0
    simp only [left, List.count_cons] at this ⊢
    cases a <;> cases b <;> simp at h0 ⊢ <;> omega
theorem aAt_lt {A : List Bool} {c : Nat} (h : aAt A c = true) : c < A.length := by
  by_cases h1 : c < A.length
  · exact h1
  · rw [aAt, List.getD_eq_getElem?_getD, List.getElem?_eq_none (by omega)] at h
    cases h
theorem aAt_set {A : List Bool} {c x : Nat} (hc : c < A.length) : aAt (A.set c true) x = if c = x then true else aAt A x := by
  rw [aAt, getD_set]
  by_cases h : c = x
  · rw [if_pos ⟨h, hc⟩, if_pos h]
  · rw [if_neg (fun e => h e.1), if_neg h]; rfl
theorem wAt_set {W : List Int} {d : Nat} {x : Int} (hd : d < W.length) (o : Nat) : wAt (W.set d x) o = if d = o then x else wAt W o := by
  rw [wAt, getD_set]
  by_cases h : d = o
  · rw [if_pos ⟨h, hd⟩, if_pos h]
  · rw [if_neg (fun e => h e.1), if_neg h]; rfl
theorem rAt_set {R : List Int} {d : Nat} {x : Int} (hd : d < R.length) (o : Nat) : rAt (R.set d x) o = if d = o then x else rAt R o := by
  rw [rAt, getD_set]
  by_cases h : d = o
  · rw [if_pos ⟨h, hd⟩, if_pos h]
  · rw [if_neg (fun e => h e.1), if_neg h]; rfl
variable {D : List Du} {n : Nat}
def FitW (D : List Du) (W : List Int) : Prop := ∀ o, o < D.length → wAt W o = -1 ∨ wAt W o = ((dAt D o).1 : Nat) ∨ wAt W o = ((dAt D o).2 : Nat)
structure GInv (D : List Du) (n : Nat) (s : Gs) : Prop where
  w : s.W.length = D.length
  r : s.R.length = n
  a : s.A.length = n
  fit : FitW D s.W
  pos : ∀ c, 0 ≤ rAt s.R c
def Held (A : Nat → Bool) (w : Int) : Prop := w = -1 ∨ ∃ c : Nat, w = (c : Int) ∧ A c = true
structure GVain (D : List Du) (n d : Nat) (s t : Gs) : Prop where
  w : t.W = s.W
  r : t.R = s.R
  a : t.A.length = n
  mono : ∀ c, aAt s.A c = true → aAt t.A c = true
  cl : ∀ c : Nat, aAt t.A c = true → aAt s.A c = false → rAt s.R c ≤ 0 ∧ (∀ o, o < D.length → wAt s.W o = (c : Int) → aAt t.A (dAt D o).1 = true ∧ aAt t.A (dAt D o).2 = true) ∧ ∃ o, o < D.length ∧ (o = d ∨ wAt s.W o ≠ -1) ∧ ((dAt D o).1 = c ∨ (dAt D o).2 = c)
structure GDone (D : List Du) (n d : Nat) (A0 : Nat → Bool) (s t : Gs) : Prop where
  inv : GInv D n t
  new : wAt t.W d = ((dAt D d).1 : Nat) ∨ wAt t.W d = ((dAt D d).2 : Nat)
  old : ∀ o, o ≠ d → Held A0 (wAt s.W o) → wAt t.W o = wAt s.W o
  keep : ∀ o, o < D.length → wAt s.W o ≠ -1 → wAt t.W o ≠ -1
  cnt : ∀ c : Nat, cntW t.W c + rAt t.R c = cntW s.W c + rAt s.R c - (if wAt s.W d = (c : Int) then 1 else 0)
def GGood (D : List Du) (n : Nat) (rec : Nat → Gs → Bool × Gs) (k : Nat) : Prop := ∀ d s, d < D.length → GInv D n s → Held (aAt s.A) (wAt s.W d) → left s.A < k →
  ((rec d s).1 = false → GVain D n d s (rec d s).2 ∧ aAt (rec d s).2.A (dAt D d).1 = true ∧ aAt (rec d s).2.A (dAt D d).2 = true) ∧ ((rec d s).1 = true → GDone D n d (aAt s.A) s (rec d s).2)
theorem GVain.rfl' {d : Nat} {s : Gs} (h : GInv D n s) : GVain D n d s s := ⟨rfl, rfl, h.a, fun _ h => h, fun c h1 h2 => by rw [h1] at h2; cases h2⟩
theorem GVain.inv {d : Nat} {s t : Gs} (h : GInv D n s) (v : GVain D n d s t) : GInv D n t := ⟨by rw [v.w]; exact h.w, by rw [v.r]; exact h.r, v.a, by rw [v.w]; exact h.fit, by rw [v.r]; exact h.pos⟩
theorem GVain.trans {d : Nat} {s t u : Gs} (h1 : GVain D n d s t) (h2 : GVain D n d t u) : GVain D n d s u := by
  refine ⟨h2.w.trans h1.w, h2.r.trans h1.r, h2.a, fun c h => h2.mono c (h1.mono c h), fun c hu hs => ?_⟩
  cases ht : aAt t.A c
  · have := h2.cl c hu ht
    rw [h1.w, h1.r] at this
    exact this
  · obtain ⟨a1, a2, a3⟩ := h1.cl c ht hs
    exact ⟨a1, fun o ho e => ⟨h2.mono _ (a2 o ho e).1, h2.mono _ (a2 o ho e).2⟩, a3⟩
theorem Held.mono {A B : Nat → Bool} {w : Int} (h : ∀ c, A c = true → B c = true) : Held A w → Held B w
  | .inl e => .inl e
  | .inr ⟨c, e, hc⟩ => .inr ⟨c, e, h c hc⟩
theorem giveO_good {rec : Nat → Gs → Bool × Gs} {k d c : Nat} (hrec : GGood D n rec k) (hd : d < D.length) (hc : (dAt D d).1 = c ∨ (dAt D d).2 = c) (A0 : Nat → Bool) (h0 : A0 c = false) :
    ∀ (os : List Nat) (s : Gs), (∀ o ∈ os, o < D.length) → GInv D n s → (∀ x, A0 x = true → aAt s.A x = true) → aAt s.A c = true → Held A0 (wAt s.W d) → left s.A < k →
    ((giveO rec d c os s).1 = false → GVain D n d s (giveO rec d c os s).2 ∧ ∀ o ∈ os, wAt s.W o = (c : Int) → aAt (giveO rec d c os s).2.A (dAt D o).1 = true ∧ aAt (giveO rec d c os s).2.A (dAt D o).2 = true) ∧
    ((giveO rec d c os s).1 = true → GDone D n d A0 s (giveO rec d c os s).2) := by
  intro os
  induction os with
  | nil => intro s _ hI _ _ _ _; exact ⟨fun _ => ⟨GVain.rfl' hI, fun o ho => by cases ho⟩, fun h => by cases h⟩
  | cons o os ih =>
    intro s hos hI hA hcA hh hk
    have ho := hos o (by simp)
    rw [giveO]
    by_cases hw : wAt s.W o = (c : Int)
    · rw [if_pos hw]
      obtain ⟨g1, g2⟩ := hrec o s ho hI (.inr ⟨c, hw, hcA⟩) hk
      have hod : o ≠ d := by
        rintro rfl
        rcases hh with e | ⟨x, e, hx⟩
        · rw [hw] at e; omega
        · rw [hw] at e
          have : c = x := by omega
          subst this
          rw [h0] at hx; cases hx
      generalize rec o s = r at *
      cases hr : r.1
      · rw [if_neg (by simp)]
        obtain ⟨v, v1, v2⟩ := g1 hr
        have v3 : GVain D n d s r.2 := by
          refine ⟨v.w, v.r, v.a, v.mono, fun x hx hs => ?_⟩
          obtain ⟨a1, a2, p, a3, a4, a5⟩ := v.cl x hx hs
          refine ⟨a1, a2, p, a3, .inr ?_, a5⟩
          rcases a4 with rfl | a4
          · rw [hw]; omega
          · exact a4
        obtain ⟨h1, h2⟩ := ih r.2 (fun q hq => hos q (by simp [hq])) (v.inv hI) (fun x hx => v.mono x (hA x hx)) (v.mono c hcA) (by rw [v.w]; exact hh) (Nat.lt_of_le_of_lt (left_mono _ _ (by rw [hI.a, v.a]) v.mono) hk)
        constructor
        · intro h
          obtain ⟨w1, w2⟩ := h1 h
          refine ⟨v3.trans w1, fun q hq e => ?_⟩
          rcases List.mem_cons.1 hq with rfl | hq
          · exact ⟨w1.mono _ v1, w1.mono _ v2⟩
          · exact w2 q hq (by rw [v.w]; exact e)
        · intro h
          have w := h2 h
          exact ⟨w.inv, w.new, fun q hq hl => by rw [w.old q hq (by rw [v.w]; exact hl), v.w], fun q hq e => w.keep q hq (by rw [v.w]; exact e), fun x => by rw [w.cnt x, v.w, v.r]⟩
      · rw [if_pos rfl]
        refine ⟨fun h => (nomatch h), fun _ => ?_⟩
        have w := g2 hr
        have hdl : d < r.2.W.length := by rw [w.inv.w]; exact hd
        have hd0 : wAt r.2.W d = wAt s.W d := w.old d (Ne.symm hod) (hh.mono hA)
        refine ⟨⟨by simpa using w.inv.w, w.inv.r, w.inv.a, fun q hq => ?_, w.inv.pos⟩, ?_, fun q hq hl => ?_, fun q hq e => ?_, fun x => ?_⟩
        · show wAt (r.2.W.set d c) q = -1 ∨ _
          rw [wAt_set hdl]
          split
          · rename_i e; subst e
            right
            rcases hc with e | e
            · left; rw [e]
            · right; rw [e]
          · exact w.inv.fit q hq
        · show wAt (r.2.W.set d c) d = _ ∨ wAt (r.2.W.set d c) d = _
          rw [wAt_set hdl, if_pos rfl]
          rcases hc with e | e
          · left; rw [e]
          · right; rw [e]
        · show wAt (r.2.W.set d c) q = _
          rw [wAt_set hdl, if_neg (Ne.symm hq)]
          by_cases e : q = o
          · subst e
            exfalso
            rcases hl with e | ⟨x, e, hx⟩
            · rw [hw] at e; omega
            · rw [hw] at e
              have : c = x := by omega
              subst this
              rw [h0] at hx; cases hx
          · exact w.old q e (hl.mono hA)
        · show wAt (r.2.W.set d c) q ≠ -1
          rw [wAt_set hdl]
          split
          · omega
          · exact w.keep q hq e
        · show cntW (r.2.W.set d c) x + rAt r.2.R x = _
          rw [cntW_set _ _ _ _ hdl, hd0]
          have := w.cnt x
          rw [hw] at this
          by_cases e : (c : Int) = x
          · rw [if_pos e] at this ⊢
            split <;> omega
          · rw [if_neg e] at this ⊢
            split <;> omega
    · rw [if_neg hw]
      obtain ⟨h1, h2⟩ := ih s (fun q hq => hos q (by simp [hq])) hI hA hcA hh hk
      refine ⟨fun h => ⟨(h1 h).1, fun q hq e => ?_⟩, h2⟩
      rcases List.mem_cons.1 hq with rfl | hq
      · exact absurd e hw
      · exact (h1 h).2 q hq e
theorem giveC_good {rec : Nat → Gs → Bool × Gs} {k d : Nat} (hrec : GGood D n rec k) (hd : d < D.length) : ∀ (cs : List Nat) (s : Gs), (∀ c ∈ cs, ((dAt D d).1 = c ∨ (dAt D d).2 = c) ∧ c < n) → GInv D n s → Held (aAt s.A) (wAt s.W d) → left s.A < k + 1 →
    ((giveC rec d cs s).1 = false → GVain D n d s (giveC rec d cs s).2 ∧ ∀ c ∈ cs, aAt (giveC rec d cs s).2.A c = true) ∧ ((giveC rec d cs s).1 = true → GDone D n d (aAt s.A) s (giveC rec d cs s).2) := by
  intro cs
  induction cs with
  | nil => intro s _ hI _ _; exact ⟨fun _ => ⟨GVain.rfl' hI, fun o ho => by cases ho⟩, fun h => by cases h⟩
  | cons c cs ih =>
    intro s hcs hI hh hk
    obtain ⟨hc, hcn⟩ := hcs c (by simp)
    rw [giveC]
    by_cases ha : aAt s.A c = true
    · rw [if_pos ha]
      obtain ⟨h1, h2⟩ := ih s (fun q hq => hcs q (by simp [hq])) hI hh hk
      refine ⟨fun h => ⟨(h1 h).1, fun q hq => ?_⟩, h2⟩
      rcases List.mem_cons.1 hq with rfl | hq
      · exact (h1 h).1.mono _ ha
      · exact (h1 h).2 q hq
    · rw [if_neg ha]
      have ha : aAt s.A c = false := by simpa using ha
      have hcl : c < s.A.length := by rw [hI.a]; exact hcn
      have hdl : d < s.W.length := by rw [hI.w]; exact hd
      have hcr : c < s.R.length := by rw [hI.r]; exact hcn
      by_cases hr : 0 < rAt s.R c
      · rw [if_pos hr]
        refine ⟨fun h => (nomatch h), fun _ => ⟨⟨by simpa using hI.w, by simpa using hI.r, by simpa using hI.a, fun q hq => ?_, fun x => ?_⟩, ?_, fun q hq _ => ?_, fun q hq e => ?_, fun x => ?_⟩⟩
        · show wAt (s.W.set d c) q = -1 ∨ _
          rw [wAt_set hdl]
          split
          · rename_i e; subst e
            right
            rcases hc with e | e
            · left; rw [e]
            · right; rw [e]
          · exact hI.fit q hq
        · show 0 ≤ rAt (s.R.set c _) x
          rw [rAt_set hcr]
          split
          · omega
          · exact hI.pos x
        · show wAt (s.W.set d c) d = _ ∨ wAt (s.W.set d c) d = _
          rw [wAt_set hdl, if_pos rfl]
          rcases hc with e | e
          · left; rw [e]
          · right; rw [e]
        · show wAt (s.W.set d c) q = _
          rw [wAt_set hdl, if_neg (Ne.symm hq)]
        · show wAt (s.W.set d c) q ≠ -1
          rw [wAt_set hdl]
          split
          · omega
          · exact e
        · show cntW (s.W.set d c) x + rAt (s.R.set c _) x = _
          rw [cntW_set _ _ _ _ hdl, rAt_set hcr]
          by_cases e : c = x
          · subst e
            rw [if_pos rfl, if_pos rfl]
            split <;> omega
          · rw [if_neg e, if_neg (by omega : ¬ (c : Int) = x)]
            split <;> omega
      · rw [if_neg hr]
        have hI' : GInv D n { s with A := s.A.set c true } := ⟨hI.w, hI.r, by simpa using hI.a, hI.fit, hI.pos⟩
        have hm : ∀ x, aAt s.A x = true → aAt (s.A.set c true) x = true := fun x hx => by rw [aAt_set hcl]; split; rfl; exact hx
        have hl := left_set s.A c hcl ha
        obtain ⟨g1, g2⟩ := giveO_good hrec hd hc (aAt s.A) ha (List.range s.W.length) { s with A := s.A.set c true } (fun o ho => by rw [List.mem_range, hI.w] at ho; exact ho) hI' hm (by rw [aAt_set hcl, if_pos rfl]) hh (by show left (s.A.set c true) < k; omega)
        generalize giveO rec d c (List.range s.W.length) { s with A := s.A.set c true } = r at *
        cases hr1 : r.1
        · rw [if_neg (by simp)]
          obtain ⟨v, w⟩ := g1 hr1
          have v3 : GVain D n d s r.2 := by
            refine ⟨v.w, v.r, v.a, fun x hx => v.mono x (hm x hx), fun x hx hs => ?_⟩
            by_cases e : x = c
            · subst e
              exact ⟨by omega, fun o ho e => w o (List.mem_range.2 (by rw [hI.w]; exact ho)) e, d, hd, .inl rfl, hc⟩
            · exact v.cl x hx (by show aAt (s.A.set c true) x = false; rw [aAt_set hcl, if_neg (Ne.symm e)]; exact hs)
          obtain ⟨h1, h2⟩ := ih r.2 (fun q hq => hcs q (by simp [hq])) (v3.inv hI) (by rw [v3.w]; exact hh.mono v3.mono) (Nat.lt_of_le_of_lt (left_mono _ _ (by rw [hI.a, v3.a]) v3.mono) hk)
          constructor
          · intro h
            obtain ⟨w1, w2⟩ := h1 h
            refine ⟨v3.trans w1, fun q hq => ?_⟩
            rcases List.mem_cons.1 hq with rfl | hq
            · exact w1.mono _ (v.mono _ (by show aAt (s.A.set q true) q = true; rw [aAt_set hcl, if_pos rfl]))
            · exact w2 q hq
          · intro h
            have w := h2 h
            exact ⟨w.inv, w.new, fun q hq hl => by rw [w.old q hq (by rw [v3.w]; exact hl.mono v3.mono), v3.w], fun q hq e => w.keep q hq (by rw [v3.w]; exact e), fun x => by rw [w.cnt x, v3.w, v3.r]⟩
        · rw [if_pos rfl]
          refine ⟨fun h => (by rw [hr1] at h; exact nomatch h), fun _ => ?_⟩
          have w := g2 hr1
          exact ⟨w.inv, w.new, w.old, w.keep, w.cnt⟩
theorem give_good (hD : ∀ d ∈ D, d.1 < n ∧ d.2 < n) : ∀ k, GGood D n (give D k) k
  | 0 => fun d s _ _ _ h => absurd h (by omega)
  | k + 1 => fun d s hd hI hh hk => by
    have hm : dAt D d ∈ D := by rw [dAt, List.getD_eq_getElem?_getD, List.getElem?_eq_getElem hd]; exact List.getElem_mem hd
    obtain ⟨h1, h2⟩ := giveC_good (give_good hD k) hd [(dAt D d).1, (dAt D d).2] s (fun c hc => by
      rcases List.mem_cons.1 hc with rfl | hc
      · exact ⟨.inl rfl, (hD _ hm).1⟩
      · rcases List.mem_cons.1 hc with rfl | hc
        · exact ⟨.inr rfl, (hD _ hm).2⟩
        · cases hc) hI hh hk
    rw [give]
    exact ⟨fun h => ⟨(h1 h).1, (h1 h).2 _ (by simp), (h1 h).2 _ (by simp)⟩, h2⟩
end LM.GZ
namespace LM.GZ
variable {D : List Du} {P : List Int} {cl : Nat}
def topL (P : List Int) (D : List Du) (c : Nat) : Int := rAt P c + (D.countP (isOf c) : Nat)
def inn (L : List Nat) (d : Du) : Bool := L.contains d.1 && L.contains d.2
def sumP (P : List Int) (L : List Nat) : Int := (L.map (rAt P)).sum
def provesB (P : List Int) (D : List Du) (cl : Nat) (L : List Nat) : Bool := decide ((L.length : Int) * topL P D cl < sumP P L + (D.countP (inn L) : Nat))
structure WinOK (P : List Int) (D : List Du) (cl : Nat) (W : List Int) : Prop where
  len : W.length = D.length
  fit : ∀ o, o < D.length → wAt W o = ((dAt D o).1 : Nat) ∨ wAt W o = ((dAt D o).2 : Nat)
  best : ∀ j, j < P.length → rAt P j + cntW W j ≤ rAt P cl + cntW W cl
theorem countP_range {α : Type} (f : α → Bool) (x : α) : ∀ l : List α, l.countP f = (List.range l.length).countP fun i => f (l.getD i x)
  | [] => rfl
  | a :: l => by
    rw [List.countP_cons, countP_range f x l, List.length_cons, List.range_succ_eq_map, List.countP_cons, List.countP_map]
    rfl
theorem countP_less {α : Type} {f g : α → Bool} : ∀ l : List α, (∀ x ∈ l, f x = true → g x = true) → (∃ x ∈ l, g x = true ∧ f x = false) → l.countP f + 1 ≤ l.countP g
  | [], _, ⟨x, hx, _⟩ => by cases hx
  | a :: l, h, ⟨x, hx, h1, h2⟩ => by
    rw [List.countP_cons, List.countP_cons]
    have ha := h a (by simp)
    by_cases hl : ∃ x ∈ l, g x = true ∧ f x = false
    · have := countP_less l (fun y hy => h y (by simp [hy])) hl
      cases hf : f a <;> cases hg : g a <;> simp [hf, hg] at ha ⊢ <;> omega
    · have e : x = a := by
        rcases List.mem_cons.1 hx with e | hx
        · exact e
        · exact absurd ⟨x, hx, h1, h2⟩ hl
      subst e
      have := List.countP_mono_left (l := l) (p := f) (q := g) fun y hy => h y (by simp [hy])
      rw [h1, h2]
      simp
      omega
theorem cnt_in : ∀ (L : List Nat) (W : List Int), L.Nodup → (L.map fun c : Nat => cntW W c).sum = ((W.countP fun w => L.any fun c => decide (w = (c : Int))) : Nat)
  | L, [], _ => by
    have : ∀ L : List Nat, (L.map fun c : Nat => cntW [] c).sum = 0 := by
      intro L
      induction L with
      | nil => rfl
      | cons a L ih => rw [List.map_cons, List.sum_cons, ih]; rfl
    rw [this]; rfl
  | L, w :: W, hd => by
    have ih := cnt_in L W hd
    have key : ∀ L : List Nat, L.Nodup → (L.map fun c : Nat => cntW (w :: W) c).sum = (L.map fun c : Nat => cntW W c).sum + if (L.any fun c => decide (w = (c : Int))) = true then 1 else 0 := by
      intro L
      induction L with
      | nil => intro _; rfl
      | cons a L ih =>
        intro hd
        rw [List.nodup_cons] at hd
        have ih := ih hd.2
        rw [List.map_cons, List.sum_cons, List.map_cons, List.sum_cons, ih, List.any_cons]
        have hc : cntW (w :: W) (a : Int) = cntW W a + if w = (a : Int) then 1 else 0 := by
          simp only [cntW, List.count_cons, beq_iff_eq]
          split <;> omega
        rw [hc]
        by_cases e : w = (a : Int)
        · have hn : (L.any fun c => decide (w = (c : Int))) = false := by
            rw [List.any_eq_false]
            intro x hx
            simp only [decide_eq_true_eq]
            intro e2
            have : a = x := by omega
            subst this
            exact hd.1 hx
          rw [hn]
          simp [e]
          omega
        · simp [e]
          omega
    rw [key L hd, ih, List.countP_cons]
    split <;> omega
theorem sum_mapadd (f g : Nat → Int) : ∀ L : List Nat, (L.map fun c => f c + g c).sum = (L.map f).sum + (L.map g).sum
  | [] => rfl
  | a :: L => by simp only [List.map_cons, List.sum_cons, sum_mapadd f g L]; omega
theorem sum_mapconst (k : Int) : ∀ L : List Nat, (L.map fun _ : Nat => k).sum = L.length * k
  | [] => by simp
  | a :: L => by
    rw [List.map_cons, List.sum_cons, sum_mapconst k L, List.length_cons]
    have : ((L.length + 1 : Nat) : Int) * k = L.length * k + k := by rw [Int.natCast_add, Int.add_mul]; simp
    rw [this]; omega
theorem sum_mapmono (f g : Nat → Int) : ∀ L : List Nat, (∀ c ∈ L, f c ≤ g c) → (L.map f).sum ≤ (L.map g).sum
  | [], _ => Int.le_refl _
  | a :: L, h => by
    have := sum_mapmono f g L fun c hc => h c (by simp [hc])
    have := h a (by simp)
    simp only [List.map_cons, List.sum_cons]
    omega
theorem dAt_mem {o : Nat} (ho : o < D.length) : dAt D o ∈ D := by rw [dAt, List.getD_eq_getElem?_getD, List.getElem?_eq_getElem ho]; exact List.getElem_mem ho
theorem win_inner {W : List Int} (h : WinOK P D cl W) {L : List Nat} (hd : L.Nodup) : (D.countP (inn L) : Int) ≤ (L.map fun c : Nat => cntW W c).sum := by
  rw [cnt_in L W hd, countP_range (inn L) (0, 0) D, countP_range _ (-1) W, h.len]
  refine Int.ofNat_le.2 (List.countP_mono_left fun o ho hi => ?_)
  have ho := List.mem_range.1 ho
  have hf := h.fit o ho
  simp only [wAt] at hf
  simp only [inn, Bool.and_eq_true, List.contains_iff_mem] at hi
  rw [List.any_eq_true]
  rcases hf with e | e
  · exact ⟨_, hi.1, by rw [e]; simp [dAt]⟩
  · exact ⟨_, hi.2, by rw [e]; simp [dAt]⟩
theorem win_own {W : List Int} (h : WinOK P D cl W) : cntW W cl ≤ (D.countP (isOf cl) : Nat) := by
  have : cntW W cl = ((W.countP fun w => decide (w = (cl : Int))) : Nat) := by
    simp only [cntW, List.count]
    congr 2
  rw [this, countP_range (isOf cl) (0, 0) D, countP_range _ (-1) W, h.len]
  refine Int.ofNat_le.2 (List.countP_mono_left fun o ho hi => ?_)
  have hf := h.fit o (List.mem_range.1 ho)
  simp only [wAt] at hf
  simp only [decide_eq_true_eq] at hi
  rw [hi] at hf
  simp only [isOf, Bool.or_eq_true, decide_eq_true_eq]
  rcases hf with e | e
  · left; simp only [dAt] at e; omega
  · right; simp only [dAt] at e; omega
theorem win_noproof {W : List Int} (h : WinOK P D cl W) {L : List Nat} (hd : L.Nodup) (hL : ∀ c ∈ L, c < P.length) : provesB P D cl L = false := by
  rw [provesB, decide_eq_false_iff_not, Int.not_lt]
  have h1 := win_inner h hd
  have h2 := win_own h
  have h3 : (L.map fun c => rAt P c + cntW W c).sum ≤ (L.map fun _ : Nat => topL P D cl).sum := sum_mapmono _ _ _ fun c hc => by
    have := h.best c (hL c hc)
    simp only [topL]
    omega
  rw [sum_mapadd, sum_mapconst] at h3
  simp only [sumP]
  have e : (L.map (rAt P)).sum = (L.map fun c => rAt P c).sum := rfl
  rw [e]
  omega
end LM.GZ
namespace LM.GZ
variable {D : List Du} {P : List Int} {cl n : Nat}
def fresh (n : Nat) (s : List Int × List Int) : Gs := ⟨s.1, s.2, List.replicate n false⟩
def fillG (D : List Du) (cl n : Nat) : List Nat → List Int × List Int → Option (List Int × List Int)
  | [], s => some s
  | o :: os, s => if isOf cl (dAt D o) = true then fillG D cl n os s else
      if (give D (n + 1) o (fresh n s)).1 = true then fillG D cl n os ((give D (n + 1) o (fresh n s)).2.W, (give D (n + 1) o (fresh n s)).2.R) else none
def ownW (D : List Du) (cl : Nat) (W : List Int) : List Int := (List.range D.length).map fun o => if isOf cl (dAt D o) = true then (cl : Int) else wAt W o
def titleL (P : List Int) (D : List Du) (cl : Nat) : Option (List Int) :=
  if P.any (fun p => decide (topL P D cl < p)) = true then none else
    (fillG D cl P.length (List.range D.length) (List.replicate D.length (-1), P.map fun p => topL P D cl - p)).map fun s => ownW D cl s.1
structure GMid (D : List Du) (P : List Int) (cl : Nat) (os : List Nat) (s : List Int × List Int) : Prop where
  inv : GInv D P.length (fresh P.length s)
  cnt : ∀ c, c < P.length → cntW s.1 c + rAt s.2 c = topL P D cl - rAt P c
  own : ∀ o, o < D.length → isOf cl (dAt D o) = true → wAt s.1 o = -1
  yet : ∀ o ∈ os, o < D.length ∧ wAt s.1 o = -1
  done : ∀ o, o < D.length → isOf cl (dAt D o) = false → o ∉ os → wAt s.1 o ≠ -1
theorem aAt_rep (n c : Nat) : aAt (List.replicate n false) c = false := by
  rw [aAt, List.getD_eq_getElem?_getD, List.getElem?_replicate]
  split <;> rfl
theorem left_rep (n : Nat) : left (List.replicate n false) = n := by simp [left]
theorem sum_mapsub (f g : Nat → Int) : ∀ L : List Nat, (L.map fun c => f c - g c).sum = (L.map f).sum - (L.map g).sum
  | [] => rfl
  | a :: L => by simp only [List.map_cons, List.sum_cons, sum_mapsub f g L]; omega
theorem fill_good (hD : ∀ d ∈ D, d.1 < P.length ∧ d.2 < P.length) : ∀ (os : List Nat) (s : List Int × List Int), os.Nodup → GMid D P cl os s →
    match fillG D cl P.length os s with
    | some t => GMid D P cl [] t
    | none => ∃ L : List Nat, L.Sublist (List.range P.length) ∧ L ≠ [] ∧ cl ∉ L ∧ provesB P D cl L = true
  | [], s, _, h => h
  | o :: os, s, hd, h => by
    rw [List.nodup_cons] at hd
    rw [fillG]
    obtain ⟨ho, hy⟩ := h.yet o (by simp)
    by_cases hw : isOf cl (dAt D o) = true
    · rw [if_pos hw]
      exact fill_good hD os s hd.2 ⟨h.inv, h.cnt, h.own, fun q hq => h.yet q (by simp [hq]), fun q hq h1 h2 => h.done q hq h1 (fun hm => by
        rcases List.mem_cons.1 hm with rfl | hm
        · rw [hw] at h1; cases h1
        · exact h2 hm)⟩
    · rw [if_neg hw]
      obtain ⟨g1, g2⟩ := give_good hD (P.length + 1) o (fresh P.length s) ho h.inv (.inl hy) (by show left (List.replicate _ false) < _; rw [left_rep]; omega)
      generalize give D (P.length + 1) o (fresh P.length s) = r at *
      cases hr : r.1
      · rw [if_neg (by simp)]
        obtain ⟨v, v1, v2⟩ := g1 hr
        have cl1 : ∀ c : Nat, aAt r.2.A c = true → rAt s.2 c ≤ 0 ∧ (∀ q, q < D.length → wAt s.1 q = (c : Int) → aAt r.2.A (dAt D q).1 = true ∧ aAt r.2.A (dAt D q).2 = true) ∧ ∃ q, q < D.length ∧ (q = o ∨ wAt s.1 q ≠ -1) ∧ ((dAt D q).1 = c ∨ (dAt D q).2 = c) := fun c hc => v.cl c hc (aAt_rep _ _)
        have hlt : ∀ c, aAt r.2.A c = true → c < P.length := fun c hc => by have := aAt_lt hc; rw [v.a] at this; exact this
        refine ⟨(List.range P.length).filter (aAt r.2.A), List.filter_sublist, ?_, ?_, ?_⟩
        · intro e
          have : (dAt D o).1 ∈ (List.range P.length).filter (aAt r.2.A) := List.mem_filter.2 ⟨List.mem_range.2 (hlt _ v1), v1⟩
          rw [e] at this
          cases this
        · intro hc
          obtain ⟨h1, h2⟩ := List.mem_filter.1 hc
          obtain ⟨q, q1, q2, q3⟩ := (cl1 _ h2).2.2
          have hq : isOf cl (dAt D q) = true := by simp only [isOf, Bool.or_eq_true, decide_eq_true_eq]; exact q3
          rcases q2 with rfl | q2
          · exact hw hq
          · exact q2 (h.own q q1 hq)
        · generalize hL : (List.range P.length).filter (aAt r.2.A) = L
          have hm : ∀ c, c ∈ L ↔ aAt r.2.A c = true := by
            intro c
            rw [← hL, List.mem_filter, List.mem_range]
            exact ⟨fun x => x.2, fun x => ⟨hlt c x, x⟩⟩
          have hnd : L.Nodup := by rw [← hL]; exact List.nodup_range.filter _
          rw [provesB, decide_eq_true_eq]
          have h1 : (L.map fun c : Nat => topL P D cl - rAt P c).sum ≤ (L.map fun c : Nat => cntW s.1 c).sum := sum_mapmono _ _ _ fun c hc => by
            have hc := (hm c).1 hc
            have a1 := (cl1 c hc).1
            have a2 := h.cnt c (hlt c hc)
            omega
          rw [sum_mapsub, sum_mapconst, cnt_in L s.1 hnd] at h1
          have h2 : (s.1.countP fun w => L.any fun c => decide (w = (c : Int))) + 1 ≤ D.countP (inn L) := by
            have hlen : s.1.length = D.length := h.inv.w
            rw [countP_range (inn L) (0, 0) D, countP_range _ (-1) s.1, hlen]
            refine countP_less _ (fun q hq hx => ?_) ⟨o, List.mem_range.2 ho, ?_, ?_⟩
            · rw [List.any_eq_true] at hx
              obtain ⟨c, c1, c2⟩ := hx
              have := (cl1 c ((hm c).1 c1)).2.1 q (List.mem_range.1 hq) (by simpa [wAt] using c2)
              simp only [inn, Bool.and_eq_true, List.contains_iff_mem, hm]
              exact this
            · simp only [inn, Bool.and_eq_true, List.contains_iff_mem, hm]
              exact ⟨v1, v2⟩
            · rw [List.any_eq_false]
              intro c _
              have : s.1.getD o (-1) = -1 := hy
              rw [this]
              simp only [decide_eq_true_eq]
              omega
          have e : sumP P L = (L.map fun c => rAt P c).sum := rfl
          rw [e]
          have e2 : (L.map (rAt P)).sum = (L.map fun c => rAt P c).sum := rfl
          generalize (L.length : Int) * topL P D cl = m at *
          rw [e2] at h1
          omega
      · rw [if_pos rfl]
        have w := g2 hr
        have hne : ∀ q, q ≠ o → wAt s.1 q = -1 → wAt r.2.W q = -1 := fun q hq e => by
          have := w.old q hq (.inl e)
          exact this.trans e
        refine fill_good hD os (r.2.W, r.2.R) hd.2 ⟨⟨w.inv.w, w.inv.r, by simp [fresh], w.inv.fit, w.inv.pos⟩, fun c hc => ?_, fun q hq e => ?_, fun q hq => ?_, fun q hq h1 h2 => ?_⟩
        · have a1 := w.cnt c
          have a2 := h.cnt c hc
          have a3 : wAt (fresh P.length s).W o = -1 := hy
          rw [a3, if_neg (by omega)] at a1
          have e : cntW r.2.W c + rAt r.2.R c = cntW s.1 c + rAt s.2 c := by
            rw [a1]
            exact Int.sub_zero _
          exact e.trans a2
        · exact hne q (fun e2 => by subst e2; exact hw e) (h.own q hq e)
        · obtain ⟨a1, a2⟩ := h.yet q (by simp [hq])
          exact ⟨a1, hne q (fun e => by subst e; exact hd.1 hq) a2⟩
        · by_cases e : q = o
          · subst e
            show wAt r.2.W q ≠ -1
            rcases w.new with e | e <;> rw [e] <;> omega
          · exact w.keep q hq (h.done q hq h1 (fun hm => by
              rcases List.mem_cons.1 hm with e2 | hm
              · exact e e2
              · exact h2 hm))
theorem rep_wAt (m o : Nat) : wAt (List.replicate m (-1)) o = -1 := by
  rw [wAt, List.getD_eq_getElem?_getD, List.getElem?_replicate]
  split <;> rfl
theorem rAt_map (f : Int → Int) {c : Nat} (h : c < P.length) : rAt (P.map f) c = f (rAt P c) := by
  simp only [rAt, List.getD_eq_getElem?_getD, List.getElem?_map, List.getElem?_eq_getElem h, Option.map_some, Option.getD_some]
theorem rAt_mem {c : Nat} (h : c < P.length) : rAt P c ∈ P := by
  simp only [rAt, List.getD_eq_getElem?_getD, List.getElem?_eq_getElem h, Option.getD_some]
  exact List.getElem_mem h
theorem title_start (hp : P.any (fun p => decide (topL P D cl < p)) = false) : GMid D P cl (List.range D.length) (List.replicate D.length (-1), P.map fun p => topL P D cl - p) := by
  rw [List.any_eq_false] at hp
  refine ⟨⟨by simp [fresh], by simp [fresh], by simp [fresh], fun o _ => .inl (rep_wAt _ _), fun c => ?_⟩, fun c hc => ?_, fun o _ _ => rep_wAt _ _, fun o ho => ⟨List.mem_range.1 ho, rep_wAt _ _⟩, fun o ho _ h => absurd (List.mem_range.2 ho) h⟩
  · show 0 ≤ rAt (P.map _) c
    by_cases hc : c < P.length
    · rw [rAt_map _ hc]
      have := hp _ (rAt_mem hc)
      simp only [decide_eq_true_eq, Int.not_lt] at this
      omega
    · rw [rAt, List.getD_eq_getElem?_getD, List.getElem?_eq_none (by simpa using hc)]
      simp
  · rw [rAt_map _ hc]
    have : cntW (List.replicate D.length (-1)) (c : Int) = 0 := by
      simp only [cntW, List.count_replicate]
      rw [if_neg (by simp)]
      rfl
    show cntW (List.replicate D.length (-1)) (c : Int) + _ = _
    omega
theorem wAt_own {W : List Int} {o : Nat} (h : o < D.length) : wAt (ownW D cl W) o = if isOf cl (dAt D o) = true then (cl : Int) else wAt W o := by
  simp only [wAt, ownW, List.getD_eq_getElem?_getD, List.getElem?_map, List.getElem?_range h, Option.map_some, Option.getD_some]
theorem title_end (hc : cl < P.length) {s : List Int × List Int} (h : GMid D P cl [] s) : WinOK P D cl (ownW D cl s.1) := by
  have hlen : s.1.length = D.length := h.inv.w
  have hol : (ownW D cl s.1).length = D.length := by simp [ownW]
  have hf : ∀ o, o < D.length → isOf cl (dAt D o) = false → wAt s.1 o = ((dAt D o).1 : Nat) ∨ wAt s.1 o = ((dAt D o).2 : Nat) := fun o ho e => by
    rcases h.inv.fit o ho with e2 | e2
    · exact absurd e2 (h.done o ho e (by simp))
    · exact e2
  have cnt : ∀ (W : List Int) (c : Nat), W.length = D.length → cntW W c = ((List.range D.length).countP fun o => decide (wAt W o = (c : Int)) : Nat) := fun W c hW => by
    have : cntW W (c : Int) = ((W.countP fun w => decide (w = (c : Int))) : Nat) := by
      simp only [cntW, List.count]
      congr 2
    rw [this, countP_range _ (-1) W, hW]
    rfl
  refine ⟨hol, fun o ho => ?_, fun j hj => ?_⟩
  · rw [wAt_own ho]
    by_cases e : isOf cl (dAt D o) = true
    · rw [if_pos e]
      simp only [isOf, Bool.or_eq_true, decide_eq_true_eq] at e
      rcases e with e | e <;> rw [e] <;> simp
    · rw [if_neg e]
      exact hf o ho (by simpa using e)
  · have hcl : (D.countP (isOf cl) : Int) ≤ cntW (ownW D cl s.1) cl := by
      rw [cnt _ _ hol, countP_range (isOf cl) (0, 0) D]
      refine Int.ofNat_le.2 (List.countP_mono_left fun o ho hi => ?_)
      have hi : isOf cl (dAt D o) = true := hi
      rw [wAt_own (List.mem_range.1 ho), if_pos hi]
      simp
    by_cases e : j = cl
    · subst e; exact Int.le_refl _
    · have h1 : cntW (ownW D cl s.1) j ≤ cntW s.1 j := by
        rw [cnt _ _ hol, cnt _ _ hlen]
        refine Int.ofNat_le.2 (List.countP_mono_left fun o ho hi => ?_)
        rw [wAt_own (List.mem_range.1 ho)] at hi
        split at hi
        · simp only [decide_eq_true_eq] at hi
          omega
        · exact hi
      have h2 := h.cnt j hj
      have h3 : 0 ≤ rAt s.2 j := h.inv.pos j
      simp only [topL] at h2
      omega
theorem title_spec (hD : ∀ d ∈ D, d.1 < P.length ∧ d.2 < P.length) (hc : cl < P.length) :
    match titleL P D cl with
    | some W => WinOK P D cl W
    | none => ∃ L : List Nat, L.Sublist (List.range P.length) ∧ L ≠ [] ∧ cl ∉ L ∧ provesB P D cl L = true := by
  unfold titleL
  cases hp : P.any (fun p => decide (topL P D cl < p))
  · rw [if_neg (by simp)]
    have := fill_good hD (List.range D.length) _ List.nodup_range (title_start hp)
    cases hf : fillG D cl P.length (List.range D.length) (List.replicate D.length (-1), P.map fun p => topL P D cl - p) with
    | none => rw [hf] at this; exact this
    | some s => rw [hf] at this; exact title_end hc this
  · rw [if_pos rfl]
    rw [List.any_eq_true] at hp
    obtain ⟨p, hp, hlt⟩ := hp
    obtain ⟨j, hj, e⟩ := List.getElem_of_mem hp
    have hr : rAt P j = p := by simp only [rAt, List.getD_eq_getElem?_getD, List.getElem?_eq_getElem hj, Option.getD_some, e]
    simp only [decide_eq_true_eq] at hlt
    refine ⟨[j], List.singleton_sublist.2 (List.mem_range.2 hj), by simp, fun hc => ?_, ?_⟩
    · rw [List.mem_singleton] at hc
      subst hc
      simp only [topL] at hlt
      omega
    · rw [provesB, decide_eq_true_eq]
      simp only [sumP, List.map_cons, List.map_nil, List.sum_cons, List.sum_nil, List.length_cons, List.length_nil]
      omega
end LM.GZ
namespace LM.GZ
variable {D : List Du} {P : List Int} {cl n : Nat}
def bitB (k o : Nat) : Bool := decide (k / 2 ^ o % 2 = 1)
theorem bit_test (k o : Nat) : bitB k o = k.testBit o := (Nat.testBit_eq_decide_div_mod_eq).symm
theorem bits_ex (f : Nat → Bool) : ∀ m, ∃ k, k < 2 ^ m ∧ ∀ o, o < m → bitB k o = f o
  | 0 => ⟨0, by simp, fun o h => absurd h (by omega)⟩
  | m + 1 => by
    obtain ⟨k, hk, hb⟩ := bits_ex f m
    have hp : 2 ^ (m + 1) = 2 ^ m + 2 ^ m := by rw [Nat.pow_succ]; omega
    cases hf : f m
    · refine ⟨k, by omega, fun o ho => ?_⟩
      by_cases e : o = m
      · subst e
        rw [bit_test, Nat.testBit_lt_two_pow hk, hf]
      · exact hb o (by omega)
    · refine ⟨2 ^ m + k, by omega, fun o ho => ?_⟩
      by_cases e : o = m
      · subst e
        rw [bit_test, Nat.testBit_two_pow_add_eq, Nat.testBit_lt_two_pow hk, hf]
        rfl
      · rw [bit_test, Nat.testBit_two_pow_add_gt (by omega), ← bit_test]
        exact hb o (by omega)
def iC (ws : List Nat) : List Int := ws.map fun w : Nat => (w : Int)
def addP : List Nat → List Int → List Int
  | [], P => P
  | w :: ws, P => addP ws (P.set w (rAt P w + 1))
theorem addP_len : ∀ (ws : List Nat) (P : List Int), (addP ws P).length = P.length
  | [], _ => rfl
  | w :: ws, P => by rw [addP, addP_len ws]; simp
theorem addP_at : ∀ (ws : List Nat) (P : List Int), (∀ w ∈ ws, w < P.length) → ∀ j : Nat, rAt (addP ws P) j = rAt P j + cntW (iC ws) j
  | [], P, _, j => by simp [addP, cntW, iC]
  | w :: ws, P, h, j => by
    have hw := h w (by simp)
    rw [addP, addP_at ws _ (fun x hx => by simpa using h x (by simp [hx])) j, rAt_set hw]
    simp only [cntW, iC, List.map_cons, List.count_cons, beq_iff_eq]
    by_cases e : w = j
    · subst e; simp; omega
    · rw [if_neg e, if_neg (by omega)]; simp
def winK : List Du → Nat → Nat → List Nat
  | [], _, _ => []
  | d :: D, i, k => (if bitB k i = true then d.1 else d.2) :: winK D (i + 1) k
theorem winK_len : ∀ (D : List Du) (i k : Nat), (winK D i k).length = D.length
  | [], _, _ => rfl
  | d :: D, i, k => by rw [winK, List.length_cons, winK_len D, List.length_cons]
theorem winK_lt : ∀ (D : List Du) (i k : Nat), (∀ d ∈ D, d.1 < n ∧ d.2 < n) → ∀ w ∈ winK D i k, w < n
  | [], _, _, _, w, h => by cases h
  | d :: D, i, k, hD, w, h => by
    rw [winK] at h
    rcases List.mem_cons.1 h with rfl | h
    · have := hD d (by simp)
      split
      · exact this.1
      · exact this.2
    · exact winK_lt D (i + 1) k (fun x hx => hD x (by simp [hx])) w h
theorem winK_at : ∀ (D : List Du) (i k o : Nat), o < D.length → (winK D i k)[o]? = some (if bitB k (i + o) = true then (dAt D o).1 else (dAt D o).2)
  | [], _, _, o, h => by simp at h
  | d :: D, i, k, 0, h => rfl
  | d :: D, i, k, o + 1, h => by
    rw [winK, List.getElem?_cons_succ, winK_at D (i + 1) k o (by simpa using h)]
    have : i + 1 + o = i + (o + 1) := by omega
    rw [this]
    rfl
def bestB (cl : Nat) (P : List Int) : Bool := P.all fun p => decide (p ≤ rAt P cl)
def canB (P : List Int) (D : List Du) (cl : Nat) : Bool := (List.range (2 ^ D.length)).any fun k => bestB cl (addP (winK D 0 k) P)
theorem best_iff {P : List Int} : bestB cl P = true ↔ ∀ j, j < P.length → rAt P j ≤ rAt P cl := by
  rw [bestB, List.all_eq_true]
  constructor
  · intro h j hj
    simpa using h _ (rAt_mem hj)
  · intro h p hp
    obtain ⟨j, hj, e⟩ := List.getElem_of_mem hp
    have hr : rAt P j = p := by simp only [rAt, List.getD_eq_getElem?_getD, List.getElem?_eq_getElem hj, Option.getD_some, e]
    have := h j hj
    simp only [decide_eq_true_eq]
    omega
theorem win_iff (hD : ∀ d ∈ D, d.1 < P.length ∧ d.2 < P.length) (ws : List Nat) (hl : ws.length = D.length) (hw : ∀ w ∈ ws, w < P.length) (hf : ∀ o, o < D.length → wAt (iC ws) o = ((dAt D o).1 : Nat) ∨ wAt (iC ws) o = ((dAt D o).2 : Nat)) :
    bestB cl (addP ws P) = true ↔ WinOK P D cl (iC ws) := by
  rw [best_iff]
  constructor
  · intro h
    refine ⟨by simpa [iC] using hl, hf, fun j hj => ?_⟩
    have := h j (by rw [addP_len]; exact hj)
    rw [addP_at ws P hw, addP_at ws P hw] at this
    exact this
  · intro h j hj
    rw [addP_len] at hj
    rw [addP_at ws P hw, addP_at ws P hw]
    exact h.best j hj
theorem winK_fit (D : List Du) (k : Nat) (o : Nat) (ho : o < D.length) : wAt (iC (winK D 0 k)) o = ((if bitB k o = true then (dAt D o).1 else (dAt D o).2 : Nat) : Int) := by
  simp only [wAt, iC, List.getD_eq_getElem?_getD, List.getElem?_map, winK_at D 0 k o ho, Nat.zero_add, Option.map_some, Option.getD_some]
theorem can_iff (hD : ∀ d ∈ D, d.1 < P.length ∧ d.2 < P.length) : canB P D cl = true ↔ ∃ W, WinOK P D cl W := by
  rw [canB, List.any_eq_true]
  have hfit : ∀ k o, o < D.length → wAt (iC (winK D 0 k)) o = ((dAt D o).1 : Nat) ∨ wAt (iC (winK D 0 k)) o = ((dAt D o).2 : Nat) := fun k o ho => by
    rw [winK_fit D k o ho]
    split
    · exact .inl rfl
    · exact .inr rfl
  constructor
  · rintro ⟨k, _, h⟩
    exact ⟨_, (win_iff hD _ (winK_len D 0 k) (winK_lt D 0 k hD) (hfit k)).1 h⟩
  · rintro ⟨W, h⟩
    obtain ⟨k, hk, hb⟩ := bits_ex (fun o => decide (wAt W o = ((dAt D o).1 : Nat))) D.length
    refine ⟨k, List.mem_range.2 hk, (win_iff hD _ (winK_len D 0 k) (winK_lt D 0 k hD) (hfit k)).2 ?_⟩
    have : (iC (winK D 0 k)) = W := by
      apply List.ext_getElem
      · rw [iC, List.length_map, winK_len, h.len]
      · intro o h1 h2
        have ho : o < D.length := by rw [iC, List.length_map, winK_len] at h1; exact h1
        have e := winK_fit D k o ho
        rw [hb o ho] at e
        have e1 : wAt (iC (winK D 0 k)) o = (iC (winK D 0 k))[o] := by simp only [wAt, List.getD_eq_getElem?_getD, List.getElem?_eq_getElem h1, Option.getD_some]
        have e2 : wAt W o = W[o] := by simp only [wAt, List.getD_eq_getElem?_getD, List.getElem?_eq_getElem h2, Option.getD_some]
        rw [← e1, ← e2, e]
        rcases h.fit o ho with f | f
        · rw [f]; simp
        · rw [f]
          split
          · rename_i g
            simp only [decide_eq_true_eq] at g
            omega
          · rfl
    rw [this]
    exact h
def numsK (n k : Nat) : List Nat := (List.range n).filter (bitB k)
def stepE (P : List Int) (D : List Du) (cl : Nat) (cmp : List Nat → List Nat → Bool) (best : List Nat) (k : Nat) : List Nat :=
  if (bitB k cl || (decide ((numsK P.length k).length = 0) || (!best.isEmpty && decide (best.length < (numsK P.length k).length)))) = true then best else
    if (provesB P D cl (numsK P.length k) && (best.isEmpty || (decide ((numsK P.length k).length < best.length) || cmp (numsK P.length k) best))) = true then numsK P.length k else best
structure Vio (P : List Int) (D : List Du) (cl : Nat) (L : List Nat) : Prop where
  sub : L.Sublist (List.range P.length)
  ne : L ≠ []
  own : cl ∉ L
  prove : provesB P D cl L = true
def VioK (P : List Int) (D : List Du) (cl k : Nat) : Prop := bitB k cl = false ∧ numsK P.length k ≠ [] ∧ provesB P D cl (numsK P.length k) = true
theorem step_spec {cmp : List Nat → List Nat → Bool} : ∀ (ks : List Nat) (best : List Nat) (seen : Nat → Prop),
    ((best = [] ∧ ∀ k, seen k → ¬ VioK P D cl k) ∨ (∃ k, best = numsK P.length k ∧ VioK P D cl k ∧ ∀ k', seen k' → VioK P D cl k' → best.length ≤ (numsK P.length k').length)) →
    ((ks.foldl (stepE P D cl cmp) best = [] ∧ ∀ k, (seen k ∨ k ∈ ks) → ¬ VioK P D cl k) ∨ (∃ k, ks.foldl (stepE P D cl cmp) best = numsK P.length k ∧ VioK P D cl k ∧ ∀ k', (seen k' ∨ k' ∈ ks) → VioK P D cl k' → (ks.foldl (stepE P D cl cmp) best).length ≤ (numsK P.length k').length))
  | [], best, seen, h => by simpa using h
  | k :: ks, best, seen, h => by
    have := step_spec (cmp := cmp) ks (stepE P D cl cmp best k) (fun x => seen x ∨ x = k) (by
      unfold stepE
      by_cases c1 : (bitB k cl || (decide ((numsK P.length k).length = 0) || (!best.isEmpty && decide (best.length < (numsK P.length k).length)))) = true
      · rw [if_pos c1]
        rcases h with ⟨rfl, h⟩ | ⟨k0, e, h1, h2⟩
        · left
          refine ⟨rfl, fun x hx => ?_⟩
          rcases hx with hx | rfl
          · exact h x hx
          · rintro ⟨v1, v2, _⟩
            simp [v1, v2] at c1
        · right
          refine ⟨k0, e, h1, fun x hx hv => ?_⟩
          rcases hx with hx | rfl
          · exact h2 x hx hv
          · obtain ⟨v1, v2, _⟩ := hv
            simp [v1, v2] at c1
            omega
      · rw [if_neg c1]
        simp only [Bool.or_eq_true, not_or, Bool.not_eq_true, Bool.and_eq_true, decide_eq_true_eq, Bool.not_eq_true'] at c1
        obtain ⟨c2, c3, c4⟩ := c1
        have c3 : numsK P.length k ≠ [] := fun e => by simp [e] at c3
        by_cases d1 : (provesB P D cl (numsK P.length k) && (best.isEmpty || (decide ((numsK P.length k).length < best.length) || cmp (numsK P.length k) best))) = true
        · rw [if_pos d1]
          rw [Bool.and_eq_true] at d1
          right
          refine ⟨k, rfl, ⟨c2, c3, d1.1⟩, fun x hx hv => ?_⟩
          rcases hx with hx | rfl
          · rcases h with ⟨rfl, h⟩ | ⟨k0, e, h1, h2⟩
            · exact absurd hv (h x hx)
            · have := h2 x hx hv
              have hb : best.isEmpty = false := by rw [e]; simpa using h1.2.1
              simp [hb] at c4
              omega
          · exact Nat.le_refl _
        · rw [if_neg d1]
          rcases h with ⟨rfl, h⟩ | ⟨k0, e, h1, h2⟩
          · left
            refine ⟨rfl, fun x hx => ?_⟩
            rcases hx with hx | rfl
            · exact h x hx
            · rintro ⟨_, _, v3⟩
              simp [v3] at d1
          · right
            refine ⟨k0, e, h1, fun x hx hv => ?_⟩
            rcases hx with hx | rfl
            · exact h2 x hx hv
            · have hb : best.isEmpty = false := by rw [e]; simpa using h1.2.1
              simp [hv.2.2, hb] at d1
              omega)
    rw [List.foldl_cons]
    have e : ∀ x, ((seen x ∨ x = k) ∨ x ∈ ks) ↔ (seen x ∨ x ∈ k :: ks) := fun x => by rw [List.mem_cons, or_assoc]
    simpa only [e] using this
theorem sub_filter : ∀ {L R : List Nat}, L.Sublist R → R.Nodup → (R.filter fun x => L.contains x) = L := by
  intro L R h
  induction h with
  | slnil => intro _; rfl
  | @cons l1 l2 a h ih =>
    intro hd
    rw [List.nodup_cons] at hd
    have : l1.contains a = false := by
      rw [Bool.eq_false_iff]
      intro e
      exact hd.1 (h.subset (List.contains_iff_mem.1 e))
    rw [List.filter_cons_of_neg (by simp only [this]; exact Bool.false_ne_true)]
    exact ih hd.2
  | @cons_cons l1 l2 a h ih =>
    intro hd
    rw [List.nodup_cons] at hd
    rw [List.filter_cons_of_pos (by simp)]
    congr 1
    refine Eq.trans (List.filter_congr fun x hx => ?_) (ih hd.2)
    have : x ≠ a := fun e => hd.1 (by rw [← e]; exact hx)
    simp [this]
theorem vio_k {L : List Nat} (h : Vio P D cl L) (hc : cl < P.length) : ∃ k, k < 2 ^ P.length ∧ numsK P.length k = L ∧ VioK P D cl k := by
  obtain ⟨k, hk, hb⟩ := bits_ex (fun o => L.contains o) P.length
  have e : numsK P.length k = L := by
    refine Eq.trans (List.filter_congr fun x hx => hb x (List.mem_range.1 hx)) (sub_filter h.sub List.nodup_range)
  refine ⟨k, hk, e, ?_, by rw [e]; exact h.ne, by rw [e]; exact h.prove⟩
  rw [hb cl hc, Bool.eq_false_iff]
  intro e
  exact h.own (List.contains_iff_mem.1 e)
theorem k_vio {k : Nat} (h : VioK P D cl k) : Vio P D cl (numsK P.length k) := by
  refine ⟨List.filter_sublist, h.2.1, fun hm => ?_, h.2.2⟩
  have := (List.mem_filter.1 hm).2
  rw [h.1] at this
  cases this
def elimL (P : List Int) (D : List Du) (cl : Nat) (cmp : List Nat → List Nat → Bool) : List Nat := (List.range (2 ^ P.length)).foldl (stepE P D cl cmp) []
theorem elim_spec {cmp : List Nat → List Nat → Bool} (hc : cl < P.length) : (elimL P D cl cmp = [] ∧ ∀ L, ¬ Vio P D cl L) ∨ (Vio P D cl (elimL P D cl cmp) ∧ ∀ L, Vio P D cl L → (elimL P D cl cmp).length ≤ L.length) := by
  rcases step_spec (cmp := cmp) (P := P) (D := D) (cl := cl) (List.range (2 ^ P.length)) [] (fun _ => False) (.inl ⟨rfl, fun _ h => h.elim⟩) with ⟨h1, h2⟩ | ⟨k, h1, h2, h3⟩
  · left
    refine ⟨h1, fun L hL => ?_⟩
    obtain ⟨k, hk, _, hv⟩ := vio_k hL hc
    exact h2 k (.inr (List.mem_range.2 hk)) hv
  · right
    refine ⟨by rw [elimL, h1]; exact k_vio h2, fun L hL => ?_⟩
    obtain ⟨k', hk, e, hv⟩ := vio_k hL hc
    have := h3 k' (.inr (List.mem_range.2 hk)) hv
    rw [e] at this
    exact this
theorem out_spec {cmp : List Nat → List Nat → Bool} (hD : ∀ d ∈ D, d.1 < P.length ∧ d.2 < P.length) (hc : cl < P.length) :
    (canB P D cl = true → ∃ W, titleL P D cl = some W ∧ WinOK P D cl W ∧ elimL P D cl cmp = []) ∧
    (canB P D cl = false → titleL P D cl = none ∧ Vio P D cl (elimL P D cl cmp) ∧ ∀ L, Vio P D cl L → (elimL P D cl cmp).length ≤ L.length) := by
  have ht := title_spec (D := D) hD hc
  have hno : ∀ W, WinOK P D cl W → ∀ L, ¬ Vio P D cl L := fun W hW L hL => by
    have := win_noproof hW (hL.sub.nodup List.nodup_range) (fun c hc => List.mem_range.1 (hL.sub.subset hc))
    rw [hL.prove] at this
    cases this
  constructor
  · intro h
    obtain ⟨W0, hW0⟩ := (can_iff hD).1 h
    cases e : titleL P D cl with
    | none =>
      rw [e] at ht
      obtain ⟨L, a1, a2, a3, a4⟩ := ht
      exact absurd ⟨a1, a2, a3, a4⟩ (hno W0 hW0 L)
    | some W =>
      rw [e] at ht
      refine ⟨W, rfl, ht, ?_⟩
      rcases elim_spec (cmp := cmp) (D := D) hc with ⟨h1, _⟩ | ⟨h1, _⟩
      · exact h1
      · exact absurd h1 (hno W ht _)
  · intro h
    cases e : titleL P D cl with
    | some W =>
      rw [e] at ht
      rw [(can_iff hD).2 ⟨W, ht⟩] at h
      cases h
    | none =>
      rw [e] at ht
      obtain ⟨L, a1, a2, a3, a4⟩ := ht
      rcases elim_spec (cmp := cmp) (D := D) hc with ⟨_, h2⟩ | ⟨h1, h2⟩
      · exact absurd ⟨a1, a2, a3, a4⟩ (h2 L)
      · exact ⟨rfl, h1, h2⟩
end LM.GZ
namespace LM.GZ
open Go LM
variable {P : Nat → Option SFunc} [Has P]
structure Rs where
  who : Str
  state : Str
  vals : List Int
def Rs.enc (x : Rs) : CV := .agg [.str x.who, .str x.state, .slice (x.vals.map ci)]
def Rs.ptr (x : Rs) : CV := .ptr [.str x.who, .str x.state, .slice (x.vals.map ci)] 0
def Rs.ok (x : Rs) : Prop := x.who.length < 9223372036854775807 ∧ x.state.length < 9223372036854775807 ∧ (x.vals.length : Int) < 9223372036854775807
theorem Rs.elem (x : Rs) : Elem (some 3) x.enc := ⟨_, rfl, rfl, by simp [CV.flat]⟩
theorem Rs.elems (l : List Rs) : ∀ x ∈ l.map Rs.enc, Elem (some 3) x := by
  intro x hx
  obtain ⟨y, _, rfl⟩ := List.mem_map.1 hx
  exact y.elem
def isS (x : Rs) : Bool := decide (x.state = [])
end LM.GZ
namespace LM.GZ
open Go LM
variable {P : Nat → Option SFunc} [Has P]
def farI (n : Int) : Bool := decide (n < -999999999) || decide (n > 999999999)
def statesL : List Str := [[], [100, 110, 115], [100, 110, 102], [100, 115, 113]]
def stateOk (s : Str) : Bool := statesL.any (Str.is s)
end LM.GZ
namespace LM.GZ
open Go LM
variable {P : Nat → Option SFunc} [Has P]
def cntR (pre : List Rs) : Int := match pre.find? isS with
  | some y => y.vals.length
  | none => -1
theorem cntR_snoc (pre : List Rs) (x : Rs) : cntR (pre ++ [x]) = if cntR pre < 0 ∧ isS x = true then (x.vals.length : Int) else cntR pre := by
  unfold cntR
  rw [List.find?_append]
  cases h : pre.find? isS with
  | some y => simp; omega
  | none => cases h2 : isS x <;> simp [h2]
end LM.GZ
namespace LM.GZ
open Go LM
variable {P : Nat → Option SFunc} [Has P]
def CellOk {α : Type} (enc : α → CV) : Prop := ∀ x, Elem none (enc x)
theorem CellOk.cells {α : Type} {enc : α → CV} (h : CellOk enc) (x : α) : CV.cells (enc x) = [enc x] := (h x).1
theorem CellOk.flat {α : Type} {enc : α → CV} (h : CellOk enc) (x : α) : flatAll [LV.c (enc x)] = true := by have := (h x).2; simpa [flatAll] using this
def ltC {α : Type} (c : α → α → Int) (x y : α) : Bool := decide (c x y < 0)
variable {α : Type} {enc : α → CV} {f : Nat} {B : List CV} {c : α → α → Int} {H : Heap} {b g : Nat} {cp : Option Nat}
end LM.GZ
namespace LM.GZ
open Go LM
variable {P : Nat → Option SFunc} [Has P]
def cmpJ (a b : Int) : Int := if a < b then -1 else if b < a then 1 else 0
theorem S96j (a b : Int) : fn P 60 [ci a, ci b] = some (ci (cmpJ a b)) := by
  have e : ∀ x : Int, fn P 133 [ci x] = some (.bool false) := fun x => by rw [u133]; simp [c133]
  rw [u60]
  unfold cmpJ
  by_cases h1 : a < b <;> by_cases h2 : b < a <;> simp [c60, e, h1, h2]
theorem cmpJ_zero (a b : Int) : cmpJ a b = 0 ↔ a = b := by unfold cmpJ; (repeat' split) <;> omega
def cmpL : List Int → List Int → Int
  | [], [] => 0
  | [], _ :: _ => -1
  | _ :: _, [] => 1
  | a :: x, b :: y => if a = b then cmpL x y else cmpJ a b
def loopC : List Int → List Int → Option Int
  | [], _ => none
  | _ :: _, [] => some 1
  | a :: x, b :: y => if a = b then loopC x y else some (cmpJ a b)
theorem cmpL_loop : ∀ x y : List Int, cmpL x y = match loopC x y with
    | some v => v
    | none => if x.length < y.length then -1 else 0
  | [], [] => rfl
  | [], b :: y => by simp [cmpL, loopC]
  | a :: x, [] => rfl
  | a :: x, b :: y => by
    have ih := cmpL_loop x y
    simp only [cmpL, loopC]
    by_cases h : a = b
    · rw [if_pos h, if_pos h, ih]
      cases loopC x y <;> simp
    · rw [if_neg h, if_neg h]
theorem L117 : ∀ (x y pa pb : List Int), pa.length = pb.length → ((pa ++ x).length : Int) < 9223372036854775807 → ((pb ++ y).length : Int) < 9223372036854775807 →
    execS P (limS P) c117_l0 ⟨[.c (.slice ((pa ++ x).map ci)), .c (.slice ((pb ++ y).map ci)), .c (.slice ((pa ++ x).map ci)), .c (ci (pa ++ x).length), .c (ci pa.length)], []⟩ =
      match loopC x y with
      | some v => some (.ret, ⟨[.c (ci v)], []⟩)
      | none => some (.exit 0, ⟨[.c (.slice ((pa ++ x).map ci)), .c (.slice ((pb ++ y).map ci))], []⟩) := by
  intro x
  induction x with
  | nil =>
    intro y pa pb hp h1 h2
    rw [r117_l0]
    simp [c117_l0b, loopC]
  | cons a x ih =>
    intro y pa pb hp h1 h2
    simp at h1 h2
    have hw : IntKind.i64.wrap (↑pa.length + 1) = ↑pa.length + 1 := wrap64 (by omega) (by omega)
    have hlt : (pa.length : Int) < pa.length + (x.length + 1) := by omega
    cases y with
    | nil =>
      have hge : (pb.length : Int) ≤ pa.length := by omega
      rw [r117_l0]
      simp [c117_l0b, loopC, hlt, hge]
    | cons b y =>
      have ih := ih y (pa ++ [a]) (pb ++ [b]) (by simp [hp]) (by simp; omega) (by simp at h2 ⊢; omega)
      have e96 := S96j (P := P) a b
      simp at h2
      have hge : ¬ (pb.length : Int) + (y.length + 1) ≤ pa.length := by omega
      have hlt2 : (pa.length : Int) < pb.length + (y.length + 1) := by omega
      have g1 : (pb.map ci ++ ci b :: y.map ci)[pa.length]? = some (ci b) := by rw [hp]; simp
      obtain ⟨_, g1'⟩ := List.getElem?_eq_some_iff.1 g1
      simp at ih
      rw [r117_l0]
      simp only [loopC]
      by_cases h : a = b
      · have e0 : cmpJ a b = 0 := (cmpJ_zero a b).2 h
        rw [e0] at e96
        rw [if_pos h]
        simp [c117_l0b, hw, hlt, hge, hlt2, g1, g1', e96, ih]
      · have e0 : ¬ cmpJ a b = 0 := fun q => h ((cmpJ_zero a b).1 q)
        rw [if_neg h]
        simp [c117_l0b, hw, hlt, hge, hlt2, g1, g1', e96, e0]
theorem S117 (x y : List Int) (h1 : (x.length : Int) < 9223372036854775807) (h2 : (y.length : Int) < 9223372036854775807) : fn P 117 [.slice (x.map ci), .slice (y.map ci)] = some (ci (cmpL x y)) := by
  have hL := L117 (P := P) x y [] [] rfl (by simpa using h1) (by simpa using h2)
  simp at hL
  rw [u117, cmpL_loop]
  cases h : loopC x y with
  | some v =>
    rw [h] at hL
    simp at hL
    simp [c117, hL]
  | none =>
    rw [h] at hL
    simp at hL
    by_cases hl : x.length < y.length
    · simp [c117, hL, hl]
    · simp [c117, hL, hl]
def cmpRs (x y : Rs) : Int := cmpL y.vals x.vals
end LM.GZ
namespace LM.GZ
open Go LM
variable {P : Nat → Option SFunc} [Has P]
def fwdR (quota : Int) : Int → Int → Option Rs → List Rs → List Str
  | _, _, _, [] => []
  | i, rank, prev, x :: r =>
    let rk := match prev with
      | some y => if x.vals = y.vals then rank else i + 1
      | none => i + 1
    (if rk ≤ quota then [x.who] else []) ++ fwdR quota (i + 1) rk (some x) r
end LM.GZ
namespace LM.GZ
open Go LM
variable {P : Nat → Option SFunc} [Has P]
def fwdL (l : List Rs) (quota : Int) : List Str := fwdR quota 0 0 none (sortI (ltC cmpRs) [] (l.filter isS))
end LM.GZ
namespace LM.GZ
open Go LM
variable {P : Nat → Option SFunc} [Has P]
def inW (out : List Str) (x : Rs) : Bool := out.any (Str.is x.who)
def restL (l : List Rs) (out : List Str) : List Rs := l.filter (fun x => !inW out x)
end LM.GZ
namespace LM.GZ
open Go LM
variable {P : Nat → Option SFunc} [Has P]
theorem cmpL_zero : ∀ a b : List Int, cmpL a b = 0 ↔ a = b
  | [], [] => by simp [cmpL]
  | [], b :: y => by simp [cmpL]
  | a :: x, [] => by simp [cmpL]
  | a :: x, b :: y => by
    have ih := cmpL_zero x y
    simp only [cmpL]
    by_cases h : a = b
    · subst h; simp [ih]
    · rw [if_neg h]
      have := cmpJ_zero a b
      simp [h, this]
theorem cmpL_anti : ∀ a b : List Int, cmpL a b < 0 ↔ 0 < cmpL b a
  | [], [] => by simp [cmpL]
  | [], b :: y => by simp [cmpL]
  | a :: x, [] => by simp [cmpL]
  | a :: x, b :: y => by
    have ih := cmpL_anti x y
    simp only [cmpL]
    by_cases h : a = b
    · subst h; simp [ih]
    · have h' : ¬ b = a := fun q => h q.symm
      rw [if_neg h, if_neg h']
      unfold cmpJ
      (repeat' split) <;> omega
theorem cmpL_split : ∀ a b c : List Int, cmpL a c < 0 → cmpL a b < 0 ∨ cmpL b c < 0
  | [], [], [], h => by simp [cmpL] at h
  | [], [], c :: z, _ => .inr (by simp [cmpL])
  | [], b :: y, _, _ => .inl (by simp [cmpL])
  | a :: x, _, [], h => by simp [cmpL] at h
  | a :: x, [], c :: z, _ => .inr (by simp [cmpL])
  | a :: x, b :: y, c :: z, h => by
    have ih := cmpL_split x y z
    simp only [cmpL] at h ⊢
    by_cases h1 : a = b
    · subst h1
      by_cases h2 : a = c
      · subst h2
        simp at h ⊢
        exact ih h
      · rw [if_neg h2] at h ⊢
        simp
        exact .inr h
    · by_cases h2 : b = c
      · subst h2
        rw [if_neg h1] at h ⊢
        exact .inl h
      · rw [if_neg h1, if_neg h2]
        by_cases h3 : a = c
        · subst h3
          unfold cmpJ
          (repeat' split) <;> omega
        · rw [if_neg h3] at h
          unfold cmpJ at h ⊢
          (repeat' split at h) <;> (repeat' split) <;> omega
def btr (x y : Rs) : Bool := decide (cmpL y.vals x.vals < 0)
theorem btr_eq : ltC cmpRs = btr := rfl
theorem swoR : Swo btr := by
  refine ⟨?_, ?_⟩
  · intro x y h
    unfold btr at h ⊢
    simp only [decide_eq_true_eq, decide_eq_false_iff_not] at h ⊢
    have := (cmpL_anti y.vals x.vals).1 h
    omega
  · intro x y z h
    unfold btr at h ⊢
    simp only [decide_eq_true_eq] at h ⊢
    rcases cmpL_split _ y.vals _ h with q | q
    · exact .inr q
    · exact .inl q
def cntB (S : List Rs) (x : Rs) : Int := ((S.filter (fun y => btr y x)).length : Nat)
theorem btr_total {x y : Rs} (h : ¬ x.vals = y.vals) (h2 : btr x y = false) : btr y x = true := by
  unfold btr at h2 ⊢
  simp only [decide_eq_true_eq, decide_eq_false_iff_not] at h2 ⊢
  have h3 := cmpL_anti x.vals y.vals
  have h4 := cmpL_zero y.vals x.vals
  have h5 : ¬ cmpL y.vals x.vals = 0 := fun q => h (h4.1 q).symm
  omega
theorem fwdR_cnt (quota : Int) (S : List Rs) (hS : Srt btr S) : ∀ (r pre : List Rs) (rank : Int), S = pre ++ r → (∀ y, pre.getLast? = some y → rank = cntB S y + 1) →
    fwdR quota pre.length rank pre.getLast? r = (r.filter (fun x => decide (cntB S x < quota))).map (·.who)
  | [], pre, rank, _, _ => by simp [fwdR]
  | x :: r, pre, rank, hs, hr => by
    have hrk : (match pre.getLast? with
      | some y => if x.vals = y.vals then rank else (pre.length : Int) + 1
      | none => (pre.length : Int) + 1) = cntB S x + 1 := by
      have hall : (∀ z ∈ pre, btr z x = true) → (pre.length : Int) = cntB S x := by
        intro hz
        unfold cntB
        have hs2 := hS
        unfold Srt at hs2
        rw [hs] at hs2
        obtain ⟨p1, p2, p3⟩ := List.pairwise_append.1 hs2
        obtain ⟨p4, p5⟩ := List.pairwise_cons.1 p2
        rw [hs, List.filter_append]
        have e1 : pre.filter (fun y => btr y x) = pre := List.filter_eq_self.2 hz
        have e2 : (x :: r).filter (fun y => btr y x) = [] := by
          rw [List.filter_eq_nil_iff]
          intro y hy
          rcases List.mem_cons.1 hy with rfl | hy
          · simp [swoR.irr y]
          · simp [p4 y hy]
        rw [e1, e2]
        simp
      rcases List.eq_nil_or_concat pre with hpre | ⟨pre', y, hpre⟩
      · subst hpre
        have := hall (by simp)
        simp at this ⊢
        omega
      · rw [List.concat_eq_append] at hpre
        have hlast : pre.getLast? = some y := by rw [hpre]; simp
        rw [hlast]
        simp only
        by_cases hv : x.vals = y.vals
        · rw [if_pos hv, hr y hlast]
          have : cntB S x = cntB S y := by unfold cntB btr; rw [hv]
          rw [this]
        · rw [if_neg hv]
          have hs2 := hS
          unfold Srt at hs2
          rw [hs] at hs2
          obtain ⟨p1, p2, p3⟩ := List.pairwise_append.1 hs2
          have hyx : btr y x = true := btr_total hv (p3 y (by rw [hpre]; simp) x (by simp))
          rw [← hall (fun z hz => by
            rw [hpre] at hz
            rcases List.mem_append.1 hz with q | q
            · rw [hpre] at p1
              have := (List.pairwise_append.1 p1).2.2 z q y (by simp)
              exact swoR.lel this hyx
            · simp at q; rw [q]; exact hyx)]
    have ih := fwdR_cnt quota S hS r (pre ++ [x]) (cntB S x + 1) (by simp [hs]) (fun y hy => by simp at hy; rw [hy])
    simp at ih
    have hF : fwdR quota pre.length rank pre.getLast? (x :: r) = (if cntB S x + 1 ≤ quota then [x.who] else []) ++ fwdR quota (pre.length + 1) (cntB S x + 1) (some x) r := by
      rw [← hrk]
      cases pre.getLast? <;> rfl
    rw [hF, ih]
    by_cases hq : cntB S x + 1 ≤ quota
    · have : cntB S x < quota := by omega
      simp [hq, this]
    · have : ¬ cntB S x < quota := by omega
      simp [hq, this]
theorem fwdL_cnt (l : List Rs) (quota : Int) : fwdL l quota = ((sortI btr [] (l.filter isS)).filter (fun x => decide (cntB (sortI btr [] (l.filter isS)) x < quota))).map (·.who) := by
  unfold fwdL
  rw [btr_eq]
  exact fwdR_cnt quota _ (sortI_srt swoR [] _ (by simp [Srt])) _ [] 0 rfl (by simp)
end LM.GZ
namespace LM.GZ
open Go LM
variable {P : Nat → Option SFunc} [Has P]
def gR (l : List Rs) (a : Int) : Rs := match l[a.toNat]? with
  | some x => x
  | none => ⟨[], [], []⟩
def Like (l : List Rs) : Prop := ∀ x ∈ l, ∀ y ∈ l, isS x = true → isS y = true → x.vals.length = y.vals.length
end LM.GZ
namespace LM.GZ
open Go LM
structure RG (l : List Rs) : Prop where
  one : ∀ x ∈ l, isName x.who = true ∧ stateOk x.state = true ∧ (!isS x && decide (0 < x.vals.length)) = false ∧ decide (8 < x.vals.length) = false ∧ x.vals.any farI = false
  uniq : l.Pairwise fun x y => x.who ≠ y.who
  like : Like l
theorem RG.filter {l : List Rs} (p : Rs → Bool) (h : RG l) : RG (l.filter p) :=
  ⟨fun x hx => h.one x (List.mem_filter.1 hx).1, h.uniq.sublist List.filter_sublist, fun x hx y hy => h.like x (List.mem_filter.1 hx).1 y (List.mem_filter.1 hy).1⟩
theorem pair_who : ∀ {l : List Rs}, l.Pairwise (fun x y => x.who ≠ y.who) → ∀ {x y : Rs}, x ∈ l → y ∈ l → x.who = y.who → x = y
  | [], _, x, y, hx, _, _ => by cases hx
  | a :: l, h, x, y, hx, hy, e => by
    obtain ⟨h1, h2⟩ := List.pairwise_cons.1 h
    rcases List.mem_cons.1 hx with rfl | kx
    · rcases List.mem_cons.1 hy with rfl | ky
      · rfl
      · exact absurd e (h1 y ky)
    · rcases List.mem_cons.1 hy with rfl | ky
      · exact absurd e.symm (h1 x kx)
      · exact pair_who h2 kx ky e
section
variable {α : Type} {lt : α → α → Bool}
theorem insS_filter (h : Swo lt) (p : α → Bool) (x : α) {S : List α} (hs : Srt lt S) : (insS lt x S).filter p = if p x then insS lt x (S.filter p) else S.filter p := by
  obtain ⟨A, B, rfl, e2, e3, e4⟩ := insS_split h x hs
  rw [e2]
  cases q : p x
  · simp [q]
  · rw [List.filter_append, List.filter_append, List.filter_cons, q]
    simp only [if_true]
    rw [insS_eq (fun y hy => e3 y (List.mem_filter.1 hy).1) (fun y hy => e4 y (List.mem_filter.1 hy).1)]
theorem sortI_filter (h : Swo lt) (p : α → Bool) : ∀ (S U : List α), Srt lt S → sortI lt (S.filter p) (U.filter p) = (sortI lt S U).filter p
  | S, [], _ => rfl
  | S, x :: U, hs => by
    have ih := sortI_filter h p (insS lt x S) U (insS_srt h x hs)
    have hi := insS_filter h p x hs
    rw [sortI, ← ih, hi]
    cases q : p x
    · simp [q]
    · simp [q, sortI]
theorem filter_len_mono {a b : α → Bool} : ∀ (l : List α), (∀ x ∈ l, a x = true → b x = true) → (l.filter a).length ≤ (l.filter b).length
  | [], _ => Nat.le_refl _
  | x :: l, h => by
    have ih := filter_len_mono l (fun y hy => h y (by simp [hy]))
    have hx := h x (by simp)
    rw [List.filter_cons, List.filter_cons]
    cases q1 : a x
    · cases b x <;> simp <;> omega
    · rw [hx q1]; simp; exact ih
end
def FW (l : List Rs) (q : Int) : List Rs := (sortI btr [] (l.filter isS)).filter (fun x => decide (cntB (sortI btr [] (l.filter isS)) x < q))
theorem fwdL_FW (l : List Rs) (q : Int) : fwdL l q = (FW l q).map (·.who) := fwdL_cnt l q
theorem FW_mem {l : List Rs} {q : Int} {x : Rs} : x ∈ FW l q ↔ (x ∈ l ∧ isS x = true) ∧ cntB (sortI btr [] (l.filter isS)) x < q := by
  unfold FW
  rw [List.mem_filter, (sortI_perm (lt := btr) [] (l.filter isS)).mem_iff, List.nil_append, List.mem_filter, decide_eq_true_eq]
theorem sort_rest (l : List Rs) (p : Rs → Bool) : sortI btr [] ((l.filter p).filter isS) = (sortI btr [] (l.filter isS)).filter p := by
  have := sortI_filter swoR p [] (l.filter isS) (by simp [Srt])
  rw [← this]
  congr 1
  rw [List.filter_filter, List.filter_filter]
  congr 1
  funext x
  rw [Bool.and_comm]
theorem FW_same {l : List Rs} (hl : RG l) (q : Int) (p : Rs → Bool) (hp : ∀ x ∈ l, p x = false → x ∉ FW l q) (h1 : ∀ x ∈ l, ∀ y ∈ l, p x = false → p y = false → x = y) : FW (l.filter p) q = FW l q := by
  have hm := fun x => FW_mem (l := l) (q := q) (x := x)
  have hmem : ∀ x, x ∈ sortI btr [] (l.filter isS) → x ∈ l ∧ isS x = true := fun x hx => by
    have := (sortI_perm (lt := btr) [] (l.filter isS)).mem_iff.1 hx
    simpa using this
  unfold FW
  rw [sort_rest]
  generalize sortI btr [] (l.filter isS) = T at *
  rw [List.filter_filter]
  apply List.filter_congr
  intro z hz
  have hzl := hmem z hz
  cases hpz : p z
  · have := hp z hzl.1 hpz
    rw [hm] at this
    have h2 : ¬ cntB T z < q := fun c => this ⟨hzl, c⟩
    simp [h2]
  · simp only [Bool.and_true]
    apply decide_eq_decide.2
    have hle : cntB (T.filter p) z ≤ cntB T z := by
      unfold cntB
      rw [List.filter_filter]
      have := filter_len_mono (a := fun a => btr a z && p a) (b := fun y => btr y z) T (fun x _ h => by simp at h; exact h.1)
      omega
    constructor
    · intro hlt
      refine Int.not_le.1 (fun hge => ?_)
      suffices q ≤ cntB (T.filter p) z by omega
      by_cases hr : ∃ r ∈ T, p r = false ∧ btr r z = true
      · obtain ⟨r, hrT, hpr, hrz⟩ := hr
        have hrl := hmem r hrT
        have := hp r hrl.1 hpr
        rw [hm] at this
        have h2 : ¬ cntB T r < q := fun c => this ⟨hrl, c⟩
        have h3 : cntB T r ≤ cntB (T.filter p) z := by
          unfold cntB
          rw [List.filter_filter]
          have := filter_len_mono (a := fun y => btr y r) (b := fun a => btr a z && p a) T (fun y hy h => by
            have e1 : btr y z = true := swoR.lel (swoR.asym _ _ h) hrz
            cases hpy : p y
            · have := h1 y (hmem y hy).1 r hrl.1 hpy hpr
              subst this
              rw [swoR.irr] at h
              cases h
            · simp [e1])
          omega
        omega
      · have h3 : cntB T z ≤ cntB (T.filter p) z := by
          unfold cntB
          rw [List.filter_filter]
          have := filter_len_mono (a := fun y => btr y z) (b := fun a => btr a z && p a) T (fun y hy h => by
            cases hpy : p y
            · exact absurd ⟨y, hy, hpy, h⟩ hr
            · simp [h])
          omega
        omega
    · intro h; omega
theorem inW_one (s : Str) (x : Rs) : inW [s] x = decide (x.who = s) := by
  unfold inW
  simp only [List.any_cons, List.any_nil, Bool.or_false]
  exact Str.is_eq' _ _
theorem gone (l : List Rs) (q : Int) (s : Str) : (fwdL (restL l [s]) q).any (Str.is s) = false := by
  rw [List.any_eq_false, fwdL_FW]
  intro n hn
  obtain ⟨x, hx, rfl⟩ := List.mem_map.1 hn
  have := (FW_mem.1 hx).1.1
  have := (List.mem_filter.1 this).2
  rw [inW_one] at this
  rw [Str.is_eq]
  simpa using this
theorem same {l : List Rs} (hl : RG l) (q : Int) (s : Str) (h : (fwdL l q).any (Str.is s) = false) : fwdL (restL l [s]) q = fwdL l q := by
  rw [fwdL_FW, fwdL_FW]
  unfold restL
  rw [FW_same hl]
  · intro x hx hp hf
    rw [inW_one] at hp
    simp at hp
    rw [List.any_eq_false] at h
    have := h x.who (by rw [fwdL_FW]; exact List.mem_map.2 ⟨x, hf, rfl⟩)
    rw [Str.is_eq] at this
    simp [hp] at this
  · intro x hx y hy px py
    rw [inW_one] at px py
    simp at px py
    exact pair_who hl.uniq hx hy (by rw [px, py])
end LM.GZ
namespace LM.GZ
open Go LM
structure Op where
  who : Str
  low : Int
  high : Int
def Op.enc (x : Op) : CV := .agg [.str x.who, ci x.low, ci x.high]
def cntA {α : Type} (c : Nat) (p : α → Bool) : Nat → List α → Int
  | _, [] => 0
  | i, x :: r => (if i ≠ c ∧ p x = true then 1 else 0) + cntA c p (i + 1) r
def leastP (v : Int) (x : Op) : Bool := decide (x.low > v)
def mostP (v : Int) (x : Op) : Bool := decide (x.high > v)
def leastL (l : List Op) (c : Nat) (v : Int) : Int := cntA c (leastP v) 0 l
def mostL (l : List Op) (c : Nat) (v : Int) : Int := cntA c (mostP v) 0 l
structure OG (l : List Op) : Prop where
  one : ∀ x ∈ l, isName x.who = true ∧ 0 ≤ x.low ∧ x.low ≤ 99999 ∧ 0 ≤ x.high ∧ x.high ≤ 99999 ∧ x.low ≤ x.high
  uniq : l.Pairwise fun x y => x.who ≠ y.who
def Box : List Op → List Int → Prop
  | [], [] => True
  | x :: r, v :: vs => x.low ≤ v ∧ v ≤ x.high ∧ Box r vs
  | _, _ => False
theorem Box.len : ∀ {l : List Op} {vs : List Int}, Box l vs → vs.length = l.length
  | [], [], _ => rfl
  | x :: r, v :: vs, h => by simp [Box.len h.2.2]
  | [], v :: vs, h => h.elim
  | x :: r, [], h => h.elim
end LM.GZ
namespace LM.GZ
open Go LM
section
variable {own : Op} {l : List Op} {c : Nat}
end
structure Bar where
  frm : Int
  to : Int
  up : Bool
def aboveS : Str := [97, 98, 111, 118, 101]
def belowS : Str := [98, 101, 108, 111, 119]
def Bar.word (b : Bar) : Str := if b.up then aboveS else belowS
def Bar.enc (b : Bar) : CV := .agg [ci b.frm, ci b.to, .str b.word]
def barOk (l : List Op) (c : Nat) (rank : Int) (b : Bar) : Bool := if b.up then decide (leastL l c b.to ≥ rank) else decide (mostL l c b.frm ≤ rank - 2)
def addBar (out : List Bar) (b : Bar) : List Bar := match out.getLast? with
  | some y => if b.up && y.up then out.dropLast ++ [⟨y.frm, b.to, true⟩] else out ++ [b]
  | none => out ++ [b]
def Okb (l : List Op) (c : Nat) (rank : Int) : Int → List Bar → Int → Prop
  | a, [], e => a = e
  | a, b :: r, e => b.frm = a ∧ b.frm ≤ b.to ∧ barOk l c rank b = true ∧ Okb l c rank (b.to + 1) r e
theorem Okb.snoc {l : List Op} {c : Nat} {rank : Int} {b : Bar} : ∀ {out : List Bar} {a e : Int}, Okb l c rank a out e → b.frm = e → b.frm ≤ b.to → barOk l c rank b = true → Okb l c rank a (out ++ [b]) (b.to + 1)
  | [], a, e, h, h1, h2, h3 => ⟨h1.trans h.symm, h2, h3, rfl⟩
  | y :: out, a, e, h, h1, h2, h3 => ⟨h.1, h.2.1, h.2.2.1, h.2.2.2.snoc h1 h2 h3⟩
theorem Okb.last {l : List Op} {c : Nat} {rank : Int} {y : Bar} : ∀ {out : List Bar} {a e : Int}, Okb l c rank a (out ++ [y]) e → ∃ e', Okb l c rank a out e' ∧ y.frm = e' ∧ y.frm ≤ y.to ∧ e = y.to + 1
  | [], a, e, h => ⟨a, rfl, h.1, h.2.1, h.2.2.2.symm⟩
  | x :: out, a, e, h => by
    obtain ⟨e', h1, h2, h3, h4⟩ := (h.2.2.2).last
    exact ⟨e', ⟨h.1, h.2.1, h.2.2.1, h1⟩, h2, h3, h4⟩
theorem Okb.add {l : List Op} {c : Nat} {rank : Int} {b : Bar} {out : List Bar} {a e : Int} (h : Okb l c rank a out e) (h1 : b.frm = e) (h2 : b.frm ≤ b.to) (h3 : barOk l c rank b = true) : Okb l c rank a (addBar out b) (b.to + 1) ∧ addBar out b ≠ [] := by
  unfold addBar
  rcases List.eq_nil_or_concat out with hn | ⟨o', y, hc⟩
  · subst hn
    exact ⟨h.snoc h1 h2 h3, by simp⟩
  · rw [List.concat_eq_append] at hc
    subst hc
    simp only [List.getLast?_append, List.getLast?_singleton, Option.some_or]
    split
    · rename_i q
      simp at q
      obtain ⟨e', g1, g2, g3, g4⟩ := h.last
      refine ⟨?_, by simp⟩
      rw [List.dropLast_concat]
      refine g1.snoc (b := ⟨y.frm, b.to, true⟩) g2 (by simp only; omega) ?_
      unfold barOk at h3 ⊢
      rw [q.1] at h3
      simpa using h3
    · exact ⟨h.snoc h1 h2 h3, by simp⟩
end LM.GZ
namespace LM.GZ
open Go LM
def szO (x : Op) : Nat := (x.high - x.low + 1).toNat
def comp : List Op → Nat → List Int
  | [], _ => []
  | x :: r, n => (x.low + (n % szO x : Nat)) :: comp r (n / szO x)
section
variable {l : List Op} {c : Nat} {own : Op}
end
end LM.GZ
namespace LM.GZ
open Go LM
variable {P : Nat → Option SFunc} [Has P]
@[simp] theorem S112 (b : Bool) (e : Int) : fn P 112 [.bool b, ci e] = some (ci (whenE b e)) := by
  rw [u112]; cases b <;> simp [c112, whenE]
theorem L111 : ∀ (l pre : List Int), (l.length : Int) + pre.length < 9223372036854775807 → execS P (limS P) c111_l0 ⟨[.c (.slice ((pre ++ l).map ci)), .c (ci (pre ++ l).length), .c (ci pre.length)], []⟩ = if firstE l = 0 then some (.exit 0, ⟨[], []⟩) else some (.ret, ⟨[.c (ci (firstE l))], []⟩) := by
  intro l
  induction l with
  | nil =>
    intro pre h
    rw [r111_l0]
    simp [c111_l0b, firstE]
  | cons c r ih =>
    intro pre h
    have ih := ih (pre ++ [c]) (by simp at h ⊢; omega)
    simp at ih h
    have hw : IntKind.i64.wrap (↑pre.length + 1) = ↑pre.length + 1 := wrap64 (by omega) (by omega)
    have hlt : (pre.length : Int) < pre.length + (r.length + 1) := by omega
    rw [r111_l0]
    by_cases hc : c = 0
    · subst hc
      simp [c111_l0b, firstE, hw, hlt, ih]
    · simp [c111_l0b, firstE, hw, hlt, hc]
@[simp] theorem S111 (l : List Int) (h : l.length < 9223372036854775807) : fn P 111 [.slice (l.map ci)] = some (ci (firstE l)) := by
  have := L111 (P := P) l [] (by simp; omega)
  rw [u111]
  simp at this
  simp [c111, this]
  by_cases hc : firstE l = 0 <;> simp [hc]
@[simp] theorem S111_1 (a : Int) : fn P 111 [.slice [ci a]] = some (ci (firstE [a])) := S111 [a] (by simp)
@[simp] theorem S111_2 (a b : Int) : fn P 111 [.slice [ci a, ci b]] = some (ci (firstE [a, b])) := S111 [a, b] (by simp)
@[simp] theorem S111_3 (a b c : Int) : fn P 111 [.slice [ci a, ci b, ci c]] = some (ci (firstE [a, b, c])) := S111 [a, b, c] (by simp)
@[simp] theorem S111_4 (a b c d : Int) : fn P 111 [.slice [ci a, ci b, ci c, ci d]] = some (ci (firstE [a, b, c, d])) := S111 [a, b, c, d] (by simp)
@[simp] theorem S111_5 (a b c d e : Int) : fn P 111 [.slice [ci a, ci b, ci c, ci d, ci e]] = some (ci (firstE [a, b, c, d, e])) := S111 [a, b, c, d, e] (by simp)
@[simp] theorem S111_6 (a b c d e f : Int) : fn P 111 [.slice [ci a, ci b, ci c, ci d, ci e, ci f]] = some (ci (firstE [a, b, c, d, e, f])) := S111 [a, b, c, d, e, f] (by simp)
def aloneE (x : Rs) : Int := firstE [whenE (!isName x.who) 8, whenE (!stateOk x.state) 13, whenE (!isS x && decide (0 < x.vals.length)) 1, whenE (decide (8 < x.vals.length)) 5, whenE (x.vals.any farI) 3]
end LM.GZ
namespace LM.GZ
open Go LM
variable {P : Nat → Option SFunc} [Has P]
theorem RG.alone {l : List Rs} (h : RG l) {x : Rs} (hx : x ∈ l) : aloneE x = 0 := by
  obtain ⟨a, b, c, d, e⟩ := h.one x hx
  unfold aloneE
  rw [a, b, c, d, e]
  rfl
theorem RG.fresh {l : List Rs} (h : RG l) {pre r : List Rs} {x : Rs} (hp : l = pre ++ x :: r) : x.who ∉ pre.map (·.who) := by
  intro hm
  obtain ⟨y, hy, e⟩ := List.mem_map.1 hm
  have := h.uniq
  rw [hp] at this
  exact (List.pairwise_append.1 this).2.2 y hy x (by simp) e
theorem RG.count {l : List Rs} (h : RG l) {pre r : List Rs} {x : Rs} (hp : l = pre ++ x :: r) (hs : isS x = true) : (x.vals.length : Int) = cntR (pre ++ [x]) := by
  rw [cntR_snoc]
  by_cases q : cntR pre < 0
  · rw [if_pos ⟨q, hs⟩]
  · rw [if_neg (fun z => q z.1)]
    unfold cntR at q ⊢
    cases hf : pre.find? isS with
    | none => rw [hf] at q; simp at q
    | some y =>
      have h1 := List.find?_some hf
      have h2 := List.mem_of_find?_eq_some hf
      have := h.like x (by rw [hp]; simp) y (by rw [hp]; simp [h2]) hs h1
      simp [this]
end LM.GZ
namespace LM.GZ
open Go LM
variable {P : Nat → Option SFunc} [Has P]
abbrev Nr := Nat × Rs
def Nr.enc (p : Nr) : CV := ci p.1
end LM.GZ
namespace LM.GZ
open Go LM
variable {P : Nat → Option SFunc} [Has P]
def Op.ok (x : Op) : Prop := x.who.length < 9223372036854775807
def OB3 (x : Op) (z : Nat) : LB := .cells 0 [.c (.str x.who), .c (ci x.low), .c (ci x.high)] z
end LM.GZ
namespace LM.GZ
open Go LM
variable {P : Nat → Option SFunc} [Has P]
theorem OG.fresh {l : List Op} (h : OG l) {pre r : List Op} {x : Op} (hp : l = pre ++ x :: r) : x.who ∉ pre.map (·.who) := by
  intro hm
  obtain ⟨y, hy, e⟩ := List.mem_map.1 hm
  have := h.uniq
  rw [hp] at this
  exact (List.pairwise_append.1 this).2.2 y hy x (by simp) e
end LM.GZ
namespace LM.GZ
open Go LM
variable {P : Nat → Option SFunc} [Has P]
theorem ciElem (n : Int) : Elem none (ci n) := ⟨rfl, rfl⟩
theorem cI_cells (xs : List Int) : cellsOf (xs.map ci) = cI xs := cellsOf_ints xs
def hP (own x : Op) (O : List Int) : Heap := [.cells 1 [] 0, OB3 own 0, .cells O.length (cI O) 0, OB3 x 0, .cells 1 [.c (ci x.low), .c (ci x.high)] 0]
end LM.GZ
namespace LM.GZ
open Go LM
variable {P : Nat → Option SFunc} [Has P]
section
variable {own : Op} {l : List Op} {c : Nat}
theorem Okb.bound {l : List Op} {c : Nat} {rank : Int} : ∀ {B : List Bar} {a e : Int}, Okb l c rank a B e → a ≤ e ∧ ∀ b ∈ B, a ≤ b.to ∧ b.to < e
  | [], a, e, h => by
    have h : a = e := h
    exact ⟨by omega, by simp⟩
  | b :: r, a, e, h => by
    obtain ⟨h1, h2, _, h4⟩ := h
    obtain ⟨i1, i2⟩ := h4.bound
    refine ⟨by omega, ?_⟩
    intro x hx
    rcases List.mem_cons.1 hx with rfl | hx
    · omega
    · have := i2 x hx; omega
end
end LM.GZ
namespace LM.GZ
open Go LM
variable {P : Nat → Option SFunc} [Has P] [HasP P]
def rowsOf : List Op → Nat → List Rs
  | [], _ => []
  | x :: r, n => ⟨x.who, [], [x.low + (n % szO x : Nat)]⟩ :: rowsOf r (n / szO x)
end LM.GZ
namespace LM.GZ
open Go LM
variable {P : Nat → Option SFunc} [Has P]
structure Lg where
  names : List Str
  pts : List Int
  duels : List (Int × Int)
def encI (d : Int × Int) : CV := .agg [ci d.1, ci d.2]
def Lg.enc (l : Lg) : CV := .agg [.slice (l.names.map CV.str), .slice (l.pts.map ci), .slice (l.duels.map encI)]
def LgB (l : Lg) (z : Nat) : LB := .cells 0 [.c (.slice (l.names.map CV.str)), .c (.slice (l.pts.map ci)), .c (.slice (l.duels.map encI))] z
theorem L44_0 (l : Lg) (hl : (l.names.length : Int) < 9223372036854775807) : ∀ (r pre : List Str), l.names = pre ++ r →
    execS P (limS P) c44_l0 ⟨[.ptr 0 0 0, .c (ci pre.length)], [LgB l 0]⟩ = some (.exit 0, ⟨[], [LgB l 0]⟩) ∨ execS P (limS P) c44_l0 ⟨[.ptr 0 0 0, .c (ci pre.length)], [LgB l 0]⟩ = some (.ret, ⟨[.c (.bool false)], [LgB l 0]⟩) := by
  intro r
  induction r with
  | nil =>
    intro pre hp
    rw [r44_l0]
    left
    simp [c44_l0b, LgB, hp]
  | cons s r ih =>
    intro pre hp
    have ih := ih (pre ++ [s]) (by simp [hp])
    have gx : l.names[pre.length]? = some s := by rw [hp]; simp
    have hpl : pre.length < l.names.length := (List.getElem?_eq_some_iff.1 gx).1
    obtain ⟨_, gx'⟩ := List.getElem?_eq_some_iff.1 gx
    have hw : IntKind.i64.wrap ((pre.length : Int) + 1) = (pre.length : Int) + 1 := wrap64 (by omega) (by omega)
    have hlt : (pre.length : Int) < l.names.length := by omega
    simp [LgB] at ih ⊢
    rw [r44_l0]
    by_cases h : 40 < (s.length : Int)
    · right
      simp [c44_l0b, hlt, hpl, gx, gx', h, hw]
    · simp [c44_l0b, hlt, hpl, gx, gx', h, hw]
      exact ih
theorem S44 (l : Lg) : ∃ b, fn P 44 [l.enc] = some (.bool b) := by
  rw [u44]
  by_cases h1 : 34 < (l.names.length : Int)
  · exact ⟨false, by simp [c44, Lg.enc, h1]⟩
  · by_cases h2 : 36 < (l.pts.length : Int)
    · exact ⟨false, by simp [c44, Lg.enc, h1, h2]⟩
    · by_cases h3 : 66 < (l.duels.length : Int)
      · exact ⟨false, by simp [c44, Lg.enc, h1, h2, h3]⟩
      · have hL := L44_0 (P := P) l (by omega) l.names [] rfl
        simp [LgB] at hL
        rcases hL with hL | hL
        · exact ⟨true, by simp [c44, Lg.enc, h1, h2, h3, hL]⟩
        · exact ⟨false, by simp [c44, Lg.enc, h1, h2, h3, hL]⟩
end LM.GZ
namespace LM.GZ
open Go LM
variable {P : Nat → Option SFunc} [Has P]
structure LgG (l : Lg) : Prop where
  ne : l.names ≠ []
  n32 : l.names.length ≤ 32
  nm : ∀ pre s r, l.names = pre ++ s :: r → isName s = true ∧ pre.any (Str.is s) = false
  lp : l.pts.length = l.names.length
  pr : ∀ p ∈ l.pts, 0 ≤ p ∧ p ≤ 99999
  dl : l.duels.length ≤ 64
  du : ∀ d ∈ l.duels, 0 ≤ d.1 ∧ d.1 < l.names.length ∧ 0 ≤ d.2 ∧ d.2 < l.names.length ∧ d.1 ≠ d.2
theorem L45_0 (l : Lg) (hl : l.names.length ≤ 32) : ∀ (r pre : List Str), l.names = pre ++ r →
    (execS P (limS P) c45_l0 ⟨[.ptr 0 0 0, .c (ci pre.length)], [LgB l 0]⟩ = some (.exit 0, ⟨[.ptr 0 0 0], [LgB l 0]⟩) ∧ ∀ pre' s r', r = pre' ++ s :: r' → isName s = true ∧ (pre ++ pre').any (Str.is s) = false) ∨
    ∃ e : Int, e ≠ 0 ∧ execS P (limS P) c45_l0 ⟨[.ptr 0 0 0, .c (ci pre.length)], [LgB l 0]⟩ = some (.ret, ⟨[.c (ci e)], [LgB l 0]⟩) := by
  intro r
  induction r with
  | nil =>
    intro pre hp
    left
    refine ⟨?_, fun pre' s r' h => by simp at h⟩
    rw [r45_l0]
    simp [c45_l0b, LgB, hp]
  | cons s r ih =>
    intro pre hp
    have ih := ih (pre ++ [s]) (by simp [hp])
    have gx : l.names[pre.length]? = some s := by rw [hp]; simp
    have hpl : pre.length < l.names.length := (List.getElem?_eq_some_iff.1 gx).1
    obtain ⟨_, gx'⟩ := List.getElem?_eq_some_iff.1 gx
    have hw : IntKind.i64.wrap ((pre.length : Int) + 1) = (pre.length : Int) + 1 := wrap64 (by omega) (by omega)
    have hlt : (pre.length : Int) < l.names.length := by omega
    have hle : (pre.length : Int) ≤ l.names.length := by omega
    have hle' : pre.length ≤ l.names.length := by omega
    have ht : (l.names.map CV.str).take pre.length = pre.map CV.str := by rw [hp]; simp
    have hsz : szFits 1 (l.names.map CV.str) = true := by cases l.names <;> rfl
    have e36 := S36 (P := P) s pre (by omega)
    have e61 := S61 (P := P) s
    simp [LgB, -List.any_eq_true] at ih ⊢
    by_cases q1 : isName s = true
    · cases q2 : pre.any (Str.is s)
      · rcases ih with ⟨ih, hr⟩ | ⟨e, he, ih⟩
        · left
          refine ⟨?_, fun pre' s' r' h => ?_⟩
          · rw [r45_l0]
            simp [c45_l0b, hlt, hpl, hle, hle', gx, gx', hw, e36, e61, q1, q2, ht, hsz, ih, -List.any_eq_true]
          · rcases pre' with _ | ⟨a, pre'⟩
            · simp at h
              obtain ⟨rfl, rfl⟩ := h
              exact ⟨q1, by simpa using q2⟩
            · simp at h
              obtain ⟨rfl, h⟩ := h
              have := hr pre' s' r' h
              simpa using this
        · right
          refine ⟨e, he, ?_⟩
          rw [r45_l0]
          simp [c45_l0b, hlt, hpl, hle, hle', gx, gx', hw, e36, e61, q1, q2, ht, hsz, ih, -List.any_eq_true]
      · right
        refine ⟨9, by decide, ?_⟩
        rw [r45_l0]
        simp [c45_l0b, hlt, hpl, hle, hle', gx, gx', hw, e36, e61, q1, q2, ht, hsz, -List.any_eq_true]
    · right
      refine ⟨8, by decide, ?_⟩
      have q1 : isName s = false := by simpa using q1
      rw [r45_l0]
      simp [c45_l0b, hlt, hpl, hle, hle', gx, gx', hw, e36, e61, q1, ht, hsz, -List.any_eq_true]
theorem L45_1 (l : Lg) (hl : l.pts.length ≤ 32) : ∀ (r pre : List Int), l.pts = pre ++ r →
    (execS P (limS P) c45_l1 ⟨[.ptr 0 0 0, .c (ci pre.length)], [LgB l 0]⟩ = some (.exit 2, ⟨[.ptr 0 0 0], [LgB l 0]⟩) ∧ ∀ p ∈ r, 0 ≤ p ∧ p ≤ 99999) ∨
    ∃ e : Int, e ≠ 0 ∧ execS P (limS P) c45_l1 ⟨[.ptr 0 0 0, .c (ci pre.length)], [LgB l 0]⟩ = some (.ret, ⟨[.c (ci e)], [LgB l 0]⟩) := by
  intro r
  induction r with
  | nil =>
    intro pre hp
    left
    refine ⟨?_, fun p h => by cases h⟩
    rw [r45_l1]
    simp [c45_l1b, LgB, hp]
  | cons s r ih =>
    intro pre hp
    have ih := ih (pre ++ [s]) (by simp [hp])
    have gx : l.pts[pre.length]? = some s := by rw [hp]; simp
    have hpl : pre.length < l.pts.length := (List.getElem?_eq_some_iff.1 gx).1
    obtain ⟨_, gx'⟩ := List.getElem?_eq_some_iff.1 gx
    have hw : IntKind.i64.wrap ((pre.length : Int) + 1) = (pre.length : Int) + 1 := wrap64 (by omega) (by omega)
    have hlt : (pre.length : Int) < l.pts.length := by omega
    simp [LgB, -List.any_eq_true] at ih ⊢
    by_cases q1 : s < 0
    · right
      refine ⟨3, by decide, ?_⟩
      rw [r45_l1]
      simp [c45_l1b, hlt, hpl, gx, gx', q1]
    · by_cases q2 : 99999 < s
      · right
        refine ⟨3, by decide, ?_⟩
        rw [r45_l1]
        simp [c45_l1b, hlt, hpl, gx, gx', q1, q2]
      · rcases ih with ⟨ih, hr⟩ | ⟨e, he, ih⟩
        · left
          refine ⟨?_, by omega, hr⟩
          rw [r45_l1]
          simp [c45_l1b, hlt, hpl, gx, gx', hw, q1, q2, ih]
        · right
          refine ⟨e, he, ?_⟩
          rw [r45_l1]
          simp [c45_l1b, hlt, hpl, gx, gx', hw, q1, q2, ih]
theorem L45_2 (l : Lg) (hl : l.duels.length ≤ 64) : ∀ (r pre : List (Int × Int)), l.duels = pre ++ r →
    (execS P (limS P) c45_l2 ⟨[.ptr 0 0 0, .c (ci pre.length)], [LgB l 0]⟩ = some (.exit 4, ⟨[], [LgB l 0]⟩) ∧ ∀ d ∈ r, 0 ≤ d.1 ∧ d.1 < l.names.length ∧ 0 ≤ d.2 ∧ d.2 < l.names.length ∧ d.1 ≠ d.2) ∨
    ∃ (e : Int) (H : List LB), e ≠ 0 ∧ execS P (limS P) c45_l2 ⟨[.ptr 0 0 0, .c (ci pre.length)], [LgB l 0]⟩ = some (.ret, ⟨[.c (ci e)], H⟩) := by
  intro r
  induction r with
  | nil =>
    intro pre hp
    left
    refine ⟨?_, fun p h => by cases h⟩
    rw [r45_l2]
    simp [c45_l2b, LgB, hp]
  | cons s r ih =>
    intro pre hp
    have ih := ih (pre ++ [s]) (by simp [hp])
    have gx : l.duels[pre.length]? = some s := by rw [hp]; simp
    have hpl : pre.length < l.duels.length := (List.getElem?_eq_some_iff.1 gx).1
    obtain ⟨_, gx'⟩ := List.getElem?_eq_some_iff.1 gx
    have hw : IntKind.i64.wrap ((pre.length : Int) + 1) = (pre.length : Int) + 1 := wrap64 (by omega) (by omega)
    have hlt : (pre.length : Int) < l.duels.length := by omega
    obtain ⟨a, b⟩ := s
    simp [LgB, -List.any_eq_true] at ih ⊢
    have bad : ∀ e : Int, e ≠ 0 → execS P (limS P) c45_l2 ⟨[.ptr 0 0 0, .c (ci pre.length)], [LgB l 0]⟩ = some (.ret, ⟨[.c (ci e)], [LgB l 0, .cells 0 [.c (ci a), .c (ci b)] 0]⟩) → ∃ (e : Int), ¬ e = 0 ∧ ∃ (H : List LB), execS P (limS P) c45_l2 ⟨[.ptr 0 0 0, .c (ci pre.length)], [LgB l 0]⟩ = some (.ret, ⟨[.c (ci e)], H⟩) := fun e he h => ⟨e, he, _, h⟩
    simp only [LgB] at bad
    by_cases q1 : a < 0
    · right
      refine bad 10 (by decide) ?_
      rw [r45_l2]
      simp [c45_l2b, hlt, hpl, gx, gx', encI, q1]
    · by_cases q2 : (l.names.length : Int) ≤ a
      · right
        refine bad 10 (by decide) ?_
        rw [r45_l2]
        simp [c45_l2b, hlt, hpl, gx, gx', encI, q1, q2]
      · by_cases q3 : b < 0
        · right
          refine bad 10 (by decide) ?_
          rw [r45_l2]
          simp [c45_l2b, hlt, hpl, gx, gx', encI, q1, q2, q3]
        · by_cases q4 : (l.names.length : Int) ≤ b
          · right
            refine bad 10 (by decide) ?_
            rw [r45_l2]
            simp [c45_l2b, hlt, hpl, gx, gx', encI, q1, q2, q3, q4]
          · by_cases q5 : a = b
            · right
              refine bad 9 (by decide) ?_
              rw [r45_l2]
              subst q5
              simp [c45_l2b, hlt, hpl, gx, gx', encI, q1, q2]
            · rcases ih with ⟨ih, hr⟩ | ⟨e, he, H, ih⟩
              · left
                refine ⟨?_, by omega, hr⟩
                rw [r45_l2]
                simp [c45_l2b, hlt, hpl, gx, gx', encI, hw, q1, q2, q3, q4, q5, ih]
              · right
                refine ⟨e, he, H, ?_⟩
                rw [r45_l2]
                simp [c45_l2b, hlt, hpl, gx, gx', encI, hw, q1, q2, q3, q4, q5, ih]
theorem S45 (l : Lg) : ∃ e : Int, fn P 45 [l.enc] = some (ci e) ∧ (e = 0 → LgG l) := by
  rw [u45]
  by_cases h1 : l.names = []
  · exact ⟨12, by simp [c45, Lg.enc, h1], fun h => absurd h (by decide)⟩
  · by_cases h2 : 32 < (l.names.length : Int)
    · exact ⟨5, by simp [c45, Lg.enc, h1, h2], fun h => absurd h (by decide)⟩
    · rcases L45_0 (P := P) l (by omega) l.names [] rfl with ⟨a1, a2⟩ | ⟨e, he, a1⟩
      · simp [LgB] at a1
        by_cases h3 : l.pts.length = l.names.length
        · have h3' : (l.pts.length : Int) = l.names.length := by omega
          rcases L45_1 (P := P) l (by omega) l.pts [] rfl with ⟨b1, b2⟩ | ⟨e, he, b1⟩
          · simp [LgB] at b1
            by_cases h4 : 64 < (l.duels.length : Int)
            · exact ⟨5, by simp [c45, Lg.enc, h1, h2, a1, h3, b1, h4], fun h => absurd h (by decide)⟩
            · rcases L45_2 (P := P) l (by omega) l.duels [] rfl with ⟨d1, d2⟩ | ⟨e, H, he, d1⟩
              · simp [LgB] at d1
                refine ⟨0, by simp [c45, Lg.enc, h1, h2, a1, h3, b1, h4, d1], fun _ => ⟨h1, by omega, ?_, h3, b2, by omega, d2⟩⟩
                intro pre s r h
                have := a2 pre s r h
                simpa using this
              · simp [LgB] at d1
                exact ⟨e, by simp [c45, Lg.enc, h1, h2, a1, h3, b1, h4, d1], fun h => absurd h he⟩
          · simp [LgB] at b1
            exact ⟨e, by simp [c45, Lg.enc, h1, h2, a1, h3, b1], fun h => absurd h he⟩
        · have h3' : ¬ (l.pts.length : Int) = l.names.length := by omega
          exact ⟨2, by simp [c45, Lg.enc, h1, h2, a1, h3, h3'], fun h => absurd h (by decide)⟩
      · simp [LgB] at a1
        exact ⟨e, by simp [c45, Lg.enc, h1, h2, a1], fun h => absurd h he⟩
end LM.GZ
namespace LM.GZ
open Go LM
variable {P : Nat → Option SFunc} [Has P]
def encD (d : Du) : CV := .agg [ci d.1, ci d.2]
def lgE (N : List Str) (Q : List Int) (D : List Du) : CV := .agg [.slice (N.map CV.str), .slice (Q.map ci), .slice (D.map encD)]
def lgB (N : List Str) (Q : List Int) (D : List Du) (z : Nat) : LB := .cells 0 [.c (.slice (N.map CV.str)), .c (.slice (Q.map ci)), .c (.slice (D.map encD))] z
structure GG (N : List Str) (Q : List Int) (D : List Du) : Prop where
  ne : N ≠ []
  n5 : N.length ≤ 5
  nm : ∀ pre s r, N = pre ++ s :: r → isName s = true ∧ pre.any (Str.is s) = false
  so : ∀ s ∈ N, s.length < 9223372036854775807
  lp : Q.length = N.length
  pr : ∀ p ∈ Q, 0 ≤ p ∧ p ≤ 99999
  dl : D.length ≤ 7
  du : ∀ d ∈ D, d.1 < N.length ∧ d.2 < N.length ∧ d.1 ≠ d.2
theorem GG.at {N : List Str} {Q : List Int} {D : List Du} (h : GG N Q D) (c : Nat) : 0 ≤ rAt Q c ∧ rAt Q c ≤ 99999 := by
  by_cases hc : c < Q.length
  · exact h.pr _ (rAt_mem hc)
  · have : rAt Q c = 0 := by
      simp only [rAt, List.getD_eq_getElem?_getD, List.getElem?_eq_none (Nat.le_of_not_lt hc)]
      rfl
    omega
theorem S205 (n : Int) (h1 : 0 ≤ n) (h2 : n ≤ 99999) : fn P 205 [ci n] = some (.bool false) := by
  have a1 : ¬ n < 0 := by omega
  have a2 : ¬ 99999 < n := by omega
  rw [u205]
  simp [c205, a1, a2]
theorem L210_p : ∀ (l pre : List Int), (∀ p ∈ l, 0 ≤ p ∧ p ≤ 99999) → ((pre ++ l).length : Int) < 9223372036854775807 →
    execS P (limS P) c210_l0 ⟨[.c (.slice ((pre ++ l).map ci)), .c (.func 205 [] []), .c (ci (pre ++ l).length), .c (ci pre.length)], []⟩ = some (.exit 0, ⟨[], []⟩) := by
  intro l
  induction l with
  | nil =>
    intro pre _ h
    rw [r210_l0]
    simp [c210_l0b]
  | cons x r ih =>
    intro pre hp h
    have ih := ih (pre ++ [x]) (fun p hq => hp p (by simp [hq])) (by simpa using h)
    have hx := hp x (by simp)
    have es := S205 (P := P) x hx.1 hx.2
    simp at ih h
    have hw : IntKind.i64.wrap (↑pre.length + 1) = ↑pre.length + 1 := wrap64 (by omega) (by omega)
    have hlt : (pre.length : Int) < pre.length + (r.length + 1) := by omega
    rw [r210_l0]
    simp [c210_l0b, hw, hlt, es, ih]
theorem S184_p (l : List Int) (hp : ∀ p ∈ l, 0 ≤ p ∧ p ≤ 99999) (h : (l.length : Int) < 9223372036854775807) : fn P 184 [.slice (l.map ci), .func 205 [] []] = some (.bool false) := by
  have hl := L210_p (P := P) l [] hp (by simpa using h)
  simp at hl
  have e210 : fn P 210 [.slice (l.map ci), .func 205 [] []] = some (ci (-1)) := by
    rw [u210]
    simp [c210, hl]
  rw [u184]
  simp [c184, e210]
theorem S121 (N : List Str) (Q : List Int) (D : List Du) (x : Int) : fn P 121 [lgE N Q D, ci x] = some (.bool (decide (0 ≤ x) && decide (x < N.length))) := by
  rw [u121]
  by_cases h1 : 0 ≤ x
  · by_cases h2 : x < N.length <;> simp [c121, lgE, h1, h2]
  · simp [c121, lgE, h1]
theorem S119 (d : Du) (x : Int) : fn P 119 [encD d, ci x] = some (.bool (decide ((d.1 : Int) = x) || decide ((d.2 : Int) = x))) := by
  rw [u119]
  by_cases h1 : (d.1 : Int) = x
  · simp [c119, encD, h1]
  · by_cases h2 : (d.2 : Int) = x <;> simp [c119, encD, h1, h2]
theorem S119n (d : Du) (x : Nat) : fn P 119 [encD d, ci x] = some (.bool (isOf x d)) := by
  rw [S119]
  have h1 : ((d.1 : Int) = x) = (d.1 = x) := propext (by omega)
  have h2 : ((d.2 : Int) = x) = (d.2 = x) := propext (by omega)
  simp only [h1, h2, isOf]
theorem S121n {N : List Str} {Q : List Int} {D : List Du} {x : Nat} (h : x < N.length) : fn P 121 [lgE N Q D, ci x] = some (.bool true) := by
  rw [S121]
  have h1 : (0 : Int) ≤ x := by omega
  have h2 : (x : Int) < N.length := by omega
  simp [h1, h2]
variable {N : List Str} {Q : List Int} {D : List Du}
theorem L171_0 (hg : GG N Q D) : ∀ (r pre : List Str), N = pre ++ r →
    execS P (limS P) c171_l0 ⟨[.ptr 0 0 0, .c (.slice (N.map CV.str)), .c (ci N.length), .c (ci pre.length)], [lgB N Q D 0, .dead]⟩ = some (.exit 0, ⟨[.ptr 0 0 0], [lgB N Q D 0, .dead]⟩) := by
  intro r
  induction r with
  | nil =>
    intro pre hp
    have hp' : N = pre := by simpa using hp
    rw [r171_l0]
    simp [c171_l0b, lgB, hp']
  | cons s r ih =>
    intro pre hp
    have ih := ih (pre ++ [s]) (by simp [hp])
    have hn5 := hg.n5
    have gx : N[pre.length]? = some s := by rw [hp]; simp
    have hpl : pre.length < N.length := (List.getElem?_eq_some_iff.1 gx).1
    obtain ⟨_, gx'⟩ := List.getElem?_eq_some_iff.1 gx
    have hw : IntKind.i64.wrap ((pre.length : Int) + 1) = (pre.length : Int) + 1 := wrap64 (by omega) (by omega)
    have hlt : (pre.length : Int) < N.length := by omega
    have hle : (pre.length : Int) ≤ N.length := by omega
    have hle' : pre.length ≤ N.length := by omega
    have ht : (N.map CV.str).take pre.length = pre.map CV.str := by rw [hp]; simp
    have hsz : szFits 1 (N.map CV.str) = true := by cases N <;> rfl
    obtain ⟨q1, q2⟩ := hg.nm pre s r hp
    have e86 := S86 (P := P) s pre (by omega)
    have e85 := S85 (P := P) s (hg.so s (by rw [hp]; simp))
    rw [q1] at e85
    rw [q2] at e86
    simp [lgB, -List.any_eq_true] at ih ⊢
    rw [r171_l0]
    simp [c171_l0b, hlt, hpl, hle, hle', gx, gx', hw, e86, e85, ht, hsz, ih, whenE, firstE, -List.any_eq_true]
theorem L171_1 (hg : GG N Q D) : ∀ (r pre : List Du), D = pre ++ r →
    execS P (limS P) c171_l1 ⟨[.ptr 0 0 0, .c (.slice (D.map encD)), .c (ci D.length), .c (ci pre.length)], [lgB N Q D 0, .dead, .dead]⟩ = some (.exit 2, ⟨[], [lgB N Q D 0, .dead, .dead]⟩) := by
  intro r
  induction r with
  | nil =>
    intro pre hp
    have hp' : D = pre := by simpa using hp
    rw [r171_l1]
    simp [c171_l1b, lgB, hp']
  | cons s r ih =>
    intro pre hp
    have ih := ih (pre ++ [s]) (by simp [hp])
    have hdl := hg.dl
    have gx : D[pre.length]? = some s := by rw [hp]; simp
    have hpl : pre.length < D.length := (List.getElem?_eq_some_iff.1 gx).1
    obtain ⟨_, gx'⟩ := List.getElem?_eq_some_iff.1 gx
    have hw : IntKind.i64.wrap ((pre.length : Int) + 1) = (pre.length : Int) + 1 := wrap64 (by omega) (by omega)
    have hlt : (pre.length : Int) < D.length := by omega
    obtain ⟨d1, d2, d3⟩ := hg.du s (by rw [hp]; simp)
    have h1 := S121n (P := P) (Q := Q) (D := D) d1
    have h2 := S121n (P := P) (Q := Q) (D := D) d2
    have d3' : ¬ (s.1 : Int) = s.2 := by omega
    simp [lgB, lgE] at ih h1 h2 ⊢
    rw [r171_l1]
    simp [c171_l1b, hlt, hpl, gx, gx', encD, hw, h1, h2, d3, d3', ih, whenE, firstE]
theorem S171 (hg : GG N Q D) : fn P 171 [lgE N Q D] = some (ci 0) := by
  have h0 := L171_0 (P := P) hg N [] rfl
  have h1 := L171_1 (P := P) hg D [] rfl
  have hne := hg.ne
  have hn5 := hg.n5
  have hdl := hg.dl
  have hlp := hg.lp
  have e184 := S184_p (P := P) Q hg.pr (by omega)
  have a1 : ¬ (32 : Int) < (N.length : Int) := by omega
  have a2 : ¬ (64 : Int) < (D.length : Int) := by omega
  simp [lgB] at h0 h1
  rw [u171]
  simp [c171, lgE, hne, a1, a2, hlp, h0, h1, e184, whenE, firstE]
theorem S113 (hg : GG N Q D) {c : Nat} (hc : c < N.length) : fn P 113 [lgE N Q D, ci c] = some (ci 0) := by
  have e1 := S171 (P := P) hg
  have e2 := S121n (P := P) (Q := Q) (D := D) hc
  rw [u113]
  simp [lgE] at e1 e2
  simp [c113, lgE, e1, e2, whenE, firstE]
theorem L172_0 (hg : GG N Q D) (c : Nat) : ∀ (r pre : List Du) (k : Int), D = pre ++ r → 0 ≤ k → k ≤ 99999 + pre.length →
    execS P (limS P) c172_l0 ⟨[.c (ci c), .c (ci k), .c (.slice (D.map encD)), .c (ci D.length), .c (ci pre.length)], [lgB N Q D 0]⟩ = some (.exit 0, ⟨[.c (ci (k + (r.countP (isOf c) : Nat)))], [lgB N Q D 0]⟩) := by
  intro r
  induction r with
  | nil =>
    intro pre k hp _ _
    have hp' : D = pre := by simpa using hp
    subst hp'
    rw [r172_l0]
    simp [c172_l0b, lgB]
  | cons s r ih =>
    intro pre k hp hk1 hk2
    have ih := fun k => ih (pre ++ [s]) k (by simp [hp])
    have hdl := hg.dl
    have gx : D[pre.length]? = some s := by rw [hp]; simp
    have hpl : pre.length < D.length := (List.getElem?_eq_some_iff.1 gx).1
    obtain ⟨_, gx'⟩ := List.getElem?_eq_some_iff.1 gx
    have hw : IntKind.i64.wrap ((pre.length : Int) + 1) = (pre.length : Int) + 1 := wrap64 (by omega) (by omega)
    have hlt : (pre.length : Int) < D.length := by omega
    have hk : IntKind.i64.wrap (k + 1) = k + 1 := wrap64 (by omega) (by omega)
    have e119 := S119n (P := P) s c
    simp [lgB] at ih
    simp [encD] at e119
    rw [r172_l0]
    cases h : isOf c s
    · have ih := ih k hk1 (by omega)
      rw [h] at e119
      simp [c172_l0b, lgB, hlt, hpl, gx, gx', encD, hw, e119, ih, List.countP_cons, h]
    · have ih := ih (k + 1) (by omega) (by omega)
      rw [h] at e119
      simp [c172_l0b, lgB, hlt, hpl, gx, gx', encD, hw, hk, e119, ih, List.countP_cons, h]
      omega
theorem S172 (hg : GG N Q D) {c : Nat} (hc : c < N.length) : fn P 172 [lgE N Q D, ci c] = some (ci (topL Q D c)) := by
  have ha := hg.at c
  have hL := L172_0 (P := P) hg c D [] (rAt Q c) rfl ha.1 (by simpa using ha.2)
  have hcq : c < Q.length := by rw [hg.lp]; exact hc
  have gq : Q[c]? = some (rAt Q c) := by simp [rAt, List.getD_eq_getElem?_getD, hcq]
  have gq' : Q[c] = rAt Q c := by simp [rAt, List.getD_eq_getElem?_getD, hcq]
  simp [lgB] at hL
  rw [u172]
  simp [c172, lgE, hcq, gq, gq', hL, topL]
end LM.GZ
namespace LM.GZ
open Go LM
variable {P : Nat → Option SFunc} [Has P]
variable {N : List Str} {Q : List Int} {D : List Du}
theorem frzFuncs_ptr (b g o : Nat) (l : List LV) (h : Heap) : frzFuncs (.ptr b g o :: l) h = bnd (frzFuncs l h) fun a => some (.ptr b g o :: a.1, a.2) := by
  rw [frzFuncs]
  rcases frzFuncs l h with _ | ⟨x, y⟩ <;> rfl
  all_goals simp
def Same (n : Nat) (h h' : Heap) : Prop := n ≤ h'.length ∧ ∀ i, i < n → h'[i]? = h[i]?
theorem Same.rfl' {n : Nat} {h : Heap} (hn : n ≤ h.length) : Same n h h := ⟨hn, fun _ _ => rfl⟩
theorem Same.trans {n : Nat} {h k l : Heap} (h1 : Same n h k) (h2 : Same n k l) : Same n h l := ⟨h2.1, fun i hi => (h2.2 i hi).trans (h1.2 i hi)⟩
theorem Same.app {n : Nat} {h k : Heap} (h1 : Same n h k) (X : Heap) : Same n h (k ++ X) := ⟨by have := h1.1; rw [List.length_append]; omega, fun i hi => by rw [List.getElem?_append_left (by have := h1.1; omega)]; exact h1.2 i hi⟩
theorem gc_any {n : Nat} {ts : List LV} {h : Heap} (hn : n ≤ h.length) (hu : ∀ v ∈ ts, v.under n = true) : ∃ h', gc n ⟨ts, h⟩ = ⟨ts, h'⟩ ∧ Same n h h' := by
  have hs : ∀ ts : List LV, (∀ v ∈ ts, v.under n = true) → scrub n ts = ts := by
    intro ts
    induction ts with
    | nil => intro _; rfl
    | cons v r ih =>
      intro hu
      rw [scrub, hu v (by simp), ih (fun w hw => hu w (by simp [hw]))]
      rfl
  unfold gc
  by_cases h1 : underB n (h.take n) = true
  · refine ⟨h.take n, by simp [h1, hs ts hu], by simp; omega, fun i hi => ?_⟩
    rw [List.getElem?_take_of_lt hi]
  · exact ⟨h, by simp [h1], Same.rfl' hn⟩
theorem lt_get {h : Heap} {i : Nat} {B : LB} (e : h[i]? = some B) : i < h.length := (List.getElem?_eq_some_iff.1 e).1
def cO (A : List Bool) : List LV := A.map fun b => .c (.bool b)
theorem cO_len (A : List Bool) : (cO A).length = A.length := by simp [cO]
theorem cO_get {A : List Bool} {c : Nat} (h : c < A.length) : (cO A)[c]? = some (.c (.bool (aAt A c))) := by
  simp [cO, aAt, List.getD_eq_getElem?_getD, List.getElem?_eq_getElem h]
theorem cO_set (A : List Bool) (c : Nat) (b : Bool) : (cO A).set c (.c (.bool b)) = cO (A.set c b) := by simp [cO, List.map_set]
theorem rI_get {R : List Int} {c : Nat} (h : c < R.length) : (cI R)[c]? = some (.c (ci (rAt R c))) := by
  simp [cI, rAt, List.getD_eq_getElem?_getD, List.getElem?_eq_getElem h]
theorem wI_get {R : List Int} {c : Nat} (h : c < R.length) : (cI R)[c]? = some (.c (ci (wAt R c))) := by
  simp [cI, wAt, List.getD_eq_getElem?_getD, List.getElem?_eq_getElem h]
theorem rI_set (R : List Int) (c : Nat) (x : Int) : (cI R).set c (.c (ci x)) = cI (R.set c x) := by simp [cI, List.map_set]
structure GLoc where
  bs : Nat
  bw : Nat
  br : Nat
  ba : Nat
  gr : Nat
  cr : Option Nat
structure GLoc.ok (L : GLoc) : Prop where
  gr : L.gr ≠ 0
  sw : L.bs ≠ L.bw
  sr : L.bs ≠ L.br
  sa : L.bs ≠ L.ba
  wr : L.bw ≠ L.br
  wa : L.bw ≠ L.ba
  ra : L.br ≠ L.ba
structure GLoc.lt (L : GLoc) (n : Nat) : Prop where
  s : L.bs < n
  w : L.bw < n
  r : L.br < n
  a : L.ba < n
def gB (N : List Str) (Q : List Int) (D : List Du) (L : GLoc) (z : Nat) : LB := .cells 0 [.c (.slice (N.map CV.str)), .c (.slice (Q.map ci)), .c (.slice (D.map encD)), .slice L.br L.gr 0 N.length none L.cr, .slice L.bw 1 0 D.length none (some D.length)] z
structure HpG (N : List Str) (Q : List Int) (D : List Du) (L : GLoc) (s : Gs) (h : Heap) : Prop where
  sch : h[L.bs]? = some (gB N Q D L 0)
  w : h[L.bw]? = some (.cells 1 (cI s.W) 0)
  r : h[L.br]? = some (.cells L.gr (cI s.R) 0)
  a : h[L.ba]? = some (.cells 1 (cO s.A) 0)
variable {L : GLoc} {s : Gs} {h h' : Heap}
theorem HpG.lt (H : HpG N Q D L s h) : L.lt h.length := ⟨lt_get H.sch, lt_get H.w, lt_get H.r, lt_get H.a⟩
theorem HpG.near (H : HpG N Q D L s h) {n : Nat} (hn : L.lt n) (hs : Same n h h') : HpG N Q D L s h' :=
  ⟨(hs.2 _ hn.s).trans H.sch, (hs.2 _ hn.w).trans H.w, (hs.2 _ hn.r).trans H.r, (hs.2 _ hn.a).trans H.a⟩
theorem HpG.app (H : HpG N Q D L s h) (X : Heap) : HpG N Q D L s (h ++ X) := H.near H.lt ((Same.rfl' (Nat.le_refl _)).app X)
def FrG (L : GLoc) (h h' : Heap) : Prop := h.length ≤ h'.length ∧ ∀ i, i < h.length → i ≠ L.bw → i ≠ L.br → i ≠ L.ba → h'[i]? = h[i]?
theorem FrG.rfl' (L : GLoc) (h : Heap) : FrG L h h := ⟨Nat.le_refl _, fun _ _ _ _ _ => rfl⟩
theorem FrG.trans {k l : Heap} (h1 : FrG L h k) (h2 : FrG L k l) : FrG L h l := ⟨Nat.le_trans h1.1 h2.1, fun i hi a b c => (h2.2 i (Nat.lt_of_lt_of_le hi h1.1) a b c).trans (h1.2 i hi a b c)⟩
theorem Same.frG {k : Heap} (h1 : Same h.length h k) : FrG L h k := ⟨h1.1, fun i hi _ _ _ => h1.2 i hi⟩
theorem FrG.gc {k l : Heap} (h1 : FrG L h k) (h2 : Same h.length k l) : FrG L h l := ⟨h2.1, fun i hi a b c => (h2.2 i hi).trans (h1.2 i hi a b c)⟩
theorem FrG.set {k : Heap} (h1 : FrG L h k) {b : Nat} (hb : b = L.bw ∨ b = L.br ∨ b = L.ba) (X : LB) : FrG L h (k.set b X) := by
  refine ⟨by simpa using h1.1, fun i hi x1 x2 x3 => ?_⟩
  rw [List.getElem?_set_ne (by rintro rfl; rcases hb with e | e | e <;> contradiction)]
  exact h1.2 i hi x1 x2 x3
theorem HpG.win (H : HpG N Q D L s h) (ok : L.ok) (W : List Int) : HpG N Q D L { s with W := W } (h.set L.bw (.cells 1 (cI W) 0)) :=
  ⟨by rw [List.getElem?_set_ne ok.sw.symm]; exact H.sch, by rw [List.getElem?_set_self H.lt.w], by rw [List.getElem?_set_ne ok.wr]; exact H.r, by rw [List.getElem?_set_ne ok.wa]; exact H.a⟩
theorem HpG.room (H : HpG N Q D L s h) (ok : L.ok) (R : List Int) : HpG N Q D L { s with R := R } (h.set L.br (.cells L.gr (cI R) 0)) :=
  ⟨by rw [List.getElem?_set_ne ok.sr.symm]; exact H.sch, by rw [List.getElem?_set_ne ok.wr.symm]; exact H.w, by rw [List.getElem?_set_self H.lt.r], by rw [List.getElem?_set_ne ok.ra]; exact H.a⟩
theorem HpG.ask (H : HpG N Q D L s h) (ok : L.ok) (A : List Bool) : HpG N Q D L { s with A := A } (h.set L.ba (.cells 1 (cO A) 0)) :=
  ⟨by rw [List.getElem?_set_ne ok.sa.symm]; exact H.sch, by rw [List.getElem?_set_ne ok.wa.symm]; exact H.w, by rw [List.getElem?_set_ne ok.ra.symm]; exact H.r, by rw [List.getElem?_set_self H.lt.a]⟩
end LM.GZ
namespace LM.GZ
open Go LM
variable {P : Nat → Option SFunc} [Has P]
variable {N : List Str} {Q : List Int} {D : List Du} {L : GLoc} {s : Gs} {h : Heap}
abbrev askS (L : GLoc) (n : Nat) : LV := .slice L.ba 1 0 n none (some n)
def TG (L : GLoc) (n d bp k : Nat) : List LV := [.ptr L.bs 0 0, .c (ci d), askS L n, .slice bp 1 0 2 none (some 2), .c (ci 2), .c (ci k)]
theorem B173_skip (H : HpG N Q D L s h) (d bp k c : Nat) (cs : List LV) (hp : h[bp]? = some (.cells 1 cs 0)) (hcs : cs.length = 2) (hg : cs[k]? = some (.c (ci c))) (hA : s.A.length = N.length) (hc : c < N.length) (ha : aAt s.A c = true) : execS P (limS P) c173_l1b ⟨TG L N.length d bp k, h⟩ = some (.normal, ⟨TG L N.length d bp (k + 1), h⟩) := by
  have gA := cO_get (A := s.A) (c := c) (by omega)
  have hAl := cO_len s.A
  have gA' := (List.getElem?_eq_some_iff.1 gA).2
  have q1 := H.lt.a
  have s1 := H.a
  have s1' := (List.getElem?_eq_some_iff.1 H.a).2
  have q2 := lt_get hp
  have s2' := (List.getElem?_eq_some_iff.1 hp).2
  have hk : k < 2 := by have := (List.getElem?_eq_some_iff.1 hg).1; omega
  have hki : (k : Int) < 2 := by omega
  have hc1 : c + 1 ≤ N.length := hc
  have hw : IntKind.i64.wrap ((k : Int) + 1) = (k : Int) + 1 := wrap64 (by omega) (by omega)
  have hg' := (List.getElem?_eq_some_iff.1 hg).2
  simp [TG, c173_l1b, s1, s1', q1, q2, hp, s2', hcs, hk, hki, hc1, hg, hg', hw, hc, gA, gA', hAl, hA, ha]
theorem B173_room (H : HpG N Q D L s h) (ok : L.ok) (d bp k c : Nat) (cs : List LV) (hp : h[bp]? = some (.cells 1 cs 0)) (hcs : cs.length = 2) (hg : cs[k]? = some (.c (ci c))) (hA : s.A.length = N.length) (hR : s.R.length = N.length) (hW : s.W.length = D.length) (hd : d < D.length) (hc : c < N.length) (ha : aAt s.A c = false) (hr : 0 < rAt s.R c) (hr2 : rAt s.R c ≤ 1000000) : execS P (limS P) c173_l1b ⟨TG L N.length d bp k, h⟩ = some (.ret, ⟨[.c (.bool true)], ((h.set L.ba (.cells 1 (cO (s.A.set c true)) 0)).set L.br (.cells L.gr (cI (s.R.set c (rAt s.R c - 1))) 0)).set L.bw (.cells 1 (cI (s.W.set d (c : Int))) 0)⟩) := by
  have gA := cO_get (A := s.A) (c := c) (by omega)
  have hAl := cO_len s.A
  have gA' := (List.getElem?_eq_some_iff.1 gA).2
  have q1 := H.lt.a
  have s1 := H.a
  have s1' := (List.getElem?_eq_some_iff.1 H.a).2
  have q2 := lt_get hp
  have s2' := (List.getElem?_eq_some_iff.1 hp).2
  have hk : k < 2 := by have := (List.getElem?_eq_some_iff.1 hg).1; omega
  have hki : (k : Int) < 2 := by omega
  have hc1 : c + 1 ≤ N.length := hc
  have hw : IntKind.i64.wrap ((k : Int) + 1) = (k : Int) + 1 := wrap64 (by omega) (by omega)
  have hg' := (List.getElem?_eq_some_iff.1 hg).2
  have H1 := H.ask ok (s.A.set c true)
  have H2 := H1.room ok (s.R.set c (rAt s.R c - 1))
  have a1 := H1.sch
  have a1' := (List.getElem?_eq_some_iff.1 H1.sch).2
  have a2 := H1.r
  have a2' := (List.getElem?_eq_some_iff.1 H1.r).2
  have b1 := H2.sch
  have b1' := (List.getElem?_eq_some_iff.1 H2.sch).2
  have b2 := H2.w
  have b2' := (List.getElem?_eq_some_iff.1 H2.w).2
  have l1 := H.lt.s
  have l2 := H.lt.r
  have l3 := H.lt.w
  have gR := rI_get (R := s.R) (c := c) (by omega)
  have gR' := (List.getElem?_eq_some_iff.1 gR).2
  have hRl := cI_length s.R
  have hWl := cI_length s.W
  have e1 := cO_set s.A c true
  have e2 := rI_set s.R c (rAt s.R c - 1)
  have hd1 : d + 1 ≤ D.length := hd
  have e3 := rI_set s.W d (c : Int)
  have hwr : IntKind.i64.wrap (rAt s.R c - 1) = rAt s.R c - 1 := wrap64 (by omega) (by omega)
  simp [TG, c173_l1b, s1, s1', q1, q2, hp, s2', hcs, hk, hki, hc1, hg, hg', hw, hc, gA, gA', hAl, hA, ha, a1, a1', a2, a2', b1, b1', b2, b2', l1, l2, l3, gB, gR, gR', hRl, hWl, e1, e2, e3, hwr, hr, hR, hW, hd, hd1]
def TI (L : GLoc) (n m d bp k c o : Nat) : List LV := [.ptr L.bs 0 0, .c (ci d), askS L n, .c (ci c), .slice bp 1 0 2 none (some 2), .c (ci 2), .c (ci k), .slice L.bw 1 0 m none (some m), .c (ci m), .c (ci o)]
theorem B173_end (d bp k c : Nat) : execS P (limS P) c173_l0b ⟨TI L N.length D.length d bp k c D.length, h⟩ = some (.exit 2, ⟨TG L N.length d bp k, h⟩) := by
  simp [TI, TG, c173_l0b]
theorem B173_no (H : HpG N Q D L s h) (d bp k c o : Nat) (hW : s.W.length = D.length) (hD : D.length ≤ 7) (ho : o < D.length) (hw0 : wAt s.W o ≠ (c : Int)) : execS P (limS P) c173_l0b ⟨TI L N.length D.length d bp k c o, h⟩ = some (.normal, ⟨TI L N.length D.length d bp k c (o + 1), h⟩) := by
  have b2 := H.w
  have b2' := (List.getElem?_eq_some_iff.1 H.w).2
  have l3 := H.lt.w
  have hWl := cI_length s.W
  have gW := wI_get (R := s.W) (c := o) (by omega)
  have gW' := (List.getElem?_eq_some_iff.1 gW).2
  have hoi : (o : Int) < D.length := by omega
  have hw : IntKind.i64.wrap ((o : Int) + 1) = (o : Int) + 1 := wrap64 (by omega) (by omega)
  simp [TI, c173_l0b, b2, b2', l3, hWl, gW, gW', ho, hoi, hw, hw0, hW]
theorem B173_go (H : HpG N Q D L s h) (d bp k c o : Nat) (hW : s.W.length = D.length) (hd : d < D.length) (hD : D.length ≤ 7) (ho : o < D.length) (hw0 : wAt s.W o = (c : Int)) (hz : Heap) (t : Gs) (b : Bool)
    (e173 : sfn P 173 [.ptr L.bs 0 0, .c (ci o), askS L N.length] h = some (.c (.bool b), hz)) (Ht : HpG N Q D L t hz) (htW : t.W.length = D.length) : execS P (limS P) c173_l0b ⟨TI L N.length D.length d bp k c o, h⟩ = if b = true then some (.ret, ⟨[.c (.bool true)], hz.set L.bw (.cells 1 (cI (t.W.set d (c : Int))) 0)⟩) else some (.normal, ⟨TI L N.length D.length d bp k c (o + 1), hz⟩) := by
  have b2 := H.w
  have b2' := (List.getElem?_eq_some_iff.1 H.w).2
  have l3 := H.lt.w
  have hWl := cI_length s.W
  have gW := wI_get (R := s.W) (c := o) (by omega)
  have gW' := (List.getElem?_eq_some_iff.1 gW).2
  have hoi : (o : Int) < D.length := by omega
  have hw : IntKind.i64.wrap ((o : Int) + 1) = (o : Int) + 1 := wrap64 (by omega) (by omega)
  have z1 := Ht.lt.s
  have z2 := Ht.lt.w
  have y1 := Ht.sch
  have y1' := (List.getElem?_eq_some_iff.1 Ht.sch).2
  have y2 := Ht.w
  have y2' := (List.getElem?_eq_some_iff.1 Ht.w).2
  have hWl2 := cI_length t.W
  have hd1 : d + 1 ≤ D.length := hd
  have e3 := rI_set t.W d (c : Int)
  cases b
  · simp [TI, c173_l0b, b2, b2', l3, hWl, gW, gW', ho, hoi, hw, hw0, hW, frzFuncs_nil, frzFuncs_c, frzFuncs_slice, frzFuncs_ptr, e173]
  · simp [TI, c173_l0b, b2, b2', l3, hWl, gW, gW', ho, hoi, hw, hw0, hW, frzFuncs_nil, frzFuncs_c, frzFuncs_slice, frzFuncs_ptr, e173, z1, z2, y1, y1', y2, y2', gB, hWl2, htW, hd, hd1, e3]
theorem B173_in (H : HpG N Q D L s h) (ok : L.ok) (d bp k c : Nat) (cs : List LV) (hp : h[bp]? = some (.cells 1 cs 0)) (hcs : cs.length = 2) (hg : cs[k]? = some (.c (ci c))) (hA : s.A.length = N.length) (hR : s.R.length = N.length) (hW : s.W.length = D.length) (hd : d < D.length) (hc : c < N.length) (ha : aAt s.A c = false) (hr : ¬ 0 < rAt s.R c) (h' : Heap) (b : Bool)
    (hl : execS P (limS P) c173_l0 ⟨TI L N.length D.length d bp k c 0, h.set L.ba (.cells 1 (cO (s.A.set c true)) 0)⟩ = if b = true then some (.ret, ⟨[.c (.bool true)], h'⟩) else some (.exit 2, ⟨TG L N.length d bp k, h'⟩)) :
    execS P (limS P) c173_l1b ⟨TG L N.length d bp k, h⟩ = if b = true then some (.ret, ⟨[.c (.bool true)], h'⟩) else some (.normal, ⟨TG L N.length d bp (k + 1), h'⟩) := by
  have gA := cO_get (A := s.A) (c := c) (by omega)
  have hAl := cO_len s.A
  have gA' := (List.getElem?_eq_some_iff.1 gA).2
  have q1 := H.lt.a
  have s1 := H.a
  have s1' := (List.getElem?_eq_some_iff.1 H.a).2
  have q2 := lt_get hp
  have s2' := (List.getElem?_eq_some_iff.1 hp).2
  have hk : k < 2 := by have := (List.getElem?_eq_some_iff.1 hg).1; omega
  have hki : (k : Int) < 2 := by omega
  have hc1 : c + 1 ≤ N.length := hc
  have hw : IntKind.i64.wrap ((k : Int) + 1) = (k : Int) + 1 := wrap64 (by omega) (by omega)
  have hg' := (List.getElem?_eq_some_iff.1 hg).2
  have H1 := H.ask ok (s.A.set c true)
  have a1 := H1.sch
  have a1' := (List.getElem?_eq_some_iff.1 H1.sch).2
  have a2 := H1.r
  have a2' := (List.getElem?_eq_some_iff.1 H1.r).2
  have l1 := H.lt.s
  have l2 := H.lt.r
  have l3 := H.lt.w
  have gR := rI_get (R := s.R) (c := c) (by omega)
  have gR' := (List.getElem?_eq_some_iff.1 gR).2
  have hRl := cI_length s.R
  have hWl := cI_length s.W
  have e1 := cO_set s.A c true
  simp only [TG, TI] at hl
  cases b
  · simp at hl
    simp [TG, c173_l1b, s1, s1', q1, q2, hp, s2', hcs, hk, hki, hc1, hg, hg', hw, hc, gA, gA', hAl, hA, ha, a1, a1', a2, a2', l1, l2, l3, gB, gR, gR', hRl, hWl, e1, hr, hR, hW, hd, hl]
  · simp at hl
    simp [TG, c173_l1b, s1, s1', q1, q2, hp, s2', hcs, hk, hki, hc1, hg, hg', hw, hc, gA, gA', hAl, hA, ha, a1, a1', a2, a2', l1, l2, l3, gB, gR, gR', hRl, hWl, e1, hr, hR, hW, hd, hl]
def GiveW (P : Nat → Option SFunc) (N : List Str) (Q : List Int) (D : List Du) (L : GLoc) (f : Nat) : Prop := ∀ (d : Nat) (s : Gs) (h : Heap), d < D.length → HpG N Q D L s h → GInv D N.length s → Held (aAt s.A) (wAt s.W d) → left s.A < f → (∀ c, rAt s.R c ≤ 1000000) →
  ∃ h', sfn P 173 [.ptr L.bs 0 0, .c (ci d), askS L N.length] h = some (.c (.bool (give D f d s).1), h') ∧ HpG N Q D L (give D f d s).2 h' ∧ FrG L h h'
theorem under_TG {d bp k n m : Nat} (h : L.lt n) (hb : bp < n) : ∀ v ∈ TG L m d bp k, v.under n = true := by
  intro v hv
  simp only [TG, askS, List.mem_cons, List.not_mem_nil, or_false] at hv
  have := h.s
  have := h.a
  rcases hv with rfl | rfl | rfl | rfl | rfl | rfl <;> simp [LV.under] <;> omega
theorem under_TI {d bp k c o n m q : Nat} (h : L.lt n) (hb : bp < n) : ∀ v ∈ TI L m q d bp k c o, v.under n = true := by
  intro v hv
  simp only [TI, askS, List.mem_cons, List.not_mem_nil, or_false] at hv
  have := h.s
  have := h.a
  have := h.w
  rcases hv with rfl | rfl | rfl | rfl | rfl | rfl | rfl | rfl | rfl | rfl <;> simp [LV.under] <;> omega
theorem L173_0 (hg : GG N Q D) (ok : L.ok) (f : Nat) (hF : GiveW P N Q D L f) (d : Nat) (hd : d < D.length) (bp k c : Nat) : ∀ (m o : Nat) (s : Gs) (h : Heap), o + m = D.length → bp < h.length → HpG N Q D L s h → GInv D N.length s → aAt s.A c = true → left s.A < f → (∀ c, rAt s.R c ≤ 1000000) →
    ∃ h', execS P (limS P) c173_l0 ⟨TI L N.length D.length d bp k c o, h⟩ = (if (giveO (give D f) d c (List.range' o m) s).1 = true then some (.ret, ⟨[.c (.bool true)], h'⟩) else some (.exit 2, ⟨TG L N.length d bp k, h'⟩)) ∧ HpG N Q D L (giveO (give D f) d c (List.range' o m) s).2 h' ∧ FrG L h h' := by
  intro m
  induction m with
  | zero =>
    intro o s h ho hb H _ _ _ _
    refine ⟨h, ?_, H, FrG.rfl' L h⟩
    have ho' : o = D.length := by omega
    subst ho'
    rw [r173_l0, B173_end]
    rfl
  | succ m ih =>
    intro o s h ho hb H hI hc hk hr
    have hol : o < D.length := by omega
    have hdl := hg.dl
    have hDu : ∀ d ∈ D, d.1 < N.length ∧ d.2 < N.length := fun d hd => ⟨(hg.du d hd).1, (hg.du d hd).2.1⟩
    rw [List.range'_succ, giveO, r173_l0]
    by_cases hw : wAt s.W o = (c : Int)
    · rw [if_pos hw]
      obtain ⟨hz, e1, e2, e3⟩ := hF o s h hol H hI (.inr ⟨c, hw, hc⟩) hk hr
      obtain ⟨g1, g2⟩ := give_good (D := D) hDu f o s hol hI (.inr ⟨c, hw, hc⟩) hk
      generalize give D f o s = r at *
      have htW : r.2.W.length = D.length := by
        cases hr1 : r.1
        · rw [(g1 hr1).1.w]; exact hI.w
        · exact (g2 hr1).inv.w
      rw [B173_go H d bp k c o hI.w hd hdl hol hw hz r.2 r.1 e1 e2 htW]
      cases hr1 : r.1
      · obtain ⟨v, _, _⟩ := g1 hr1
        simp only [Bool.false_eq_true, if_false, seqK_normal]
        obtain ⟨hg', hg1, hg2⟩ := gc_any (n := h.length) (ts := TI L N.length D.length d bp k c (o + 1)) (h := hz) e3.1 (under_TI H.lt hb)
        show ∃ h', execS P (limS P) c173_l0 (gc h.length _) = _ ∧ _
        rw [hg1]
        obtain ⟨h', i1, i2, i3⟩ := ih (o + 1) r.2 hg' (by omega) (by have := hg2.1; omega) (e2.near H.lt hg2) (v.inv hI) (v.mono c hc) (Nat.lt_of_le_of_lt (left_mono _ _ (by rw [hI.a, v.a]) v.mono) hk) (by rw [v.r]; exact hr)
        exact ⟨h', i1, i2, (e3.gc hg2).trans i3⟩
      · simp only [if_true, seqK_ret]
        exact ⟨_, rfl, e2.win ok _, e3.set (.inl rfl) _⟩
    · rw [if_neg hw, B173_no H d bp k c o hI.w hdl hol hw, seqK_normal]
      obtain ⟨hg', hg1, hg2⟩ := gc_any (n := h.length) (ts := TI L N.length D.length d bp k c (o + 1)) (h := h) (Nat.le_refl _) (under_TI H.lt hb)
      show ∃ h', execS P (limS P) c173_l0 (gc h.length _) = _ ∧ _
      rw [hg1]
      obtain ⟨h', i1, i2, i3⟩ := ih (o + 1) s hg' (by omega) (by have := hg2.1; omega) (H.near H.lt hg2) hI hc hk hr
      exact ⟨h', i1, i2, hg2.frG.trans i3⟩
theorem L173_1 (hg : GG N Q D) (ok : L.ok) (f : Nat) (hF : GiveW P N Q D L f) (d : Nat) (hd : d < D.length) (bp x y : Nat) (hbp : bp ≠ L.bw ∧ bp ≠ L.br ∧ bp ≠ L.ba) (hxy : (dAt D d) = (x, y)) : ∀ (r pre : List Nat) (s : Gs) (h : Heap), [x, y] = pre ++ r → h[bp]? = some (.cells 1 [.c (ci x), .c (ci y)] 0) → HpG N Q D L s h → GInv D N.length s → Held (aAt s.A) (wAt s.W d) → left s.A < f + 1 → (∀ c, rAt s.R c ≤ 1000000) →
    ∃ h', execS P (limS P) c173_l1 ⟨TG L N.length d bp pre.length, h⟩ = (if (giveC (give D f) d r s).1 = true then some (.ret, ⟨[.c (.bool true)], h'⟩) else some (.exit 0, ⟨[], h'⟩)) ∧ HpG N Q D L (giveC (give D f) d r s).2 h' ∧ FrG L h h' := by
  have hDu : ∀ d ∈ D, d.1 < N.length ∧ d.2 < N.length := fun d hd => ⟨(hg.du d hd).1, (hg.du d hd).2.1⟩
  intro r
  induction r with
  | nil =>
    intro pre s h hp _ H _ _ _ _
    refine ⟨h, ?_, H, FrG.rfl' L h⟩
    have hpl : pre.length = 2 := by have := congrArg List.length hp; simpa using this.symm
    rw [r173_l1]
    simp [TG, c173_l1b, hpl, giveC]
  | cons c r ih =>
    intro pre s h hp hb H hI hh hk hr
    have hcm : c = x ∨ c = y := by
      have : c ∈ [x, y] := by rw [hp]; simp
      simpa using this
    have hxl := hDu _ (dAt_mem hd)
    rw [hxy] at hxl
    have hcn : c < N.length := by rcases hcm with rfl | rfl; exact hxl.1; exact hxl.2
    have hcd : (dAt D d).1 = c ∨ (dAt D d).2 = c := by rw [hxy]; rcases hcm with rfl | rfl; exact .inl rfl; exact .inr rfl
    have hgk : [LV.c (ci x), LV.c (ci y)][pre.length]? = some (.c (ci c)) := by
      have : [x, y][pre.length]? = some c := by rw [hp]; simp
      have e : [LV.c (ci x), LV.c (ci y)] = [x, y].map fun z : Nat => LV.c (ci z) := rfl
      rw [e, List.getElem?_map, this]
      rfl
    have hp' : [x, y] = (pre ++ [c]) ++ r := by simp [hp]
    have hlen : (pre ++ [c]).length = pre.length + 1 := by simp
    have hbl := lt_get hb
    have vain : ∀ (t : Gs) (hz : Heap), HpG N Q D L t hz → FrG L h hz → GVain D N.length d s t → ∃ h', execS P (limS P) c173_l1 (gc h.length ⟨TG L N.length d bp (pre.length + 1), hz⟩) = (if (giveC (give D f) d r t).1 = true then some (.ret, ⟨[.c (.bool true)], h'⟩) else some (.exit 0, ⟨[], h'⟩)) ∧ HpG N Q D L (giveC (give D f) d r t).2 h' ∧ FrG L h h' := by
      intro t hz Ht hfr v
      obtain ⟨hg', hg1, hg2⟩ := gc_any (n := h.length) (ts := TG L N.length d bp (pre.length + 1)) (h := hz) hfr.1 (under_TG H.lt hbl)
      rw [hg1]
      obtain ⟨h', i1, i2, i3⟩ := ih (pre ++ [c]) t hg' hp' (by rw [hg2.2 _ hbl, hfr.2 _ hbl hbp.1 hbp.2.1 hbp.2.2]; exact hb) (Ht.near H.lt hg2) (v.inv hI) (by rw [v.w]; exact hh.mono v.mono) (Nat.lt_of_le_of_lt (left_mono _ _ (by rw [hI.a, v.a]) v.mono) hk) (by rw [v.r]; exact hr)
      rw [hlen] at i1
      exact ⟨h', i1, i2, (hfr.gc hg2).trans i3⟩
    rw [giveC, r173_l1]
    by_cases ha : aAt s.A c = true
    · rw [if_pos ha, B173_skip H d bp pre.length c _ hb rfl hgk hI.a hcn ha, seqK_normal]
      exact vain s h H (FrG.rfl' L h) (GVain.rfl' hI)
    · rw [if_neg ha]
      have ha : aAt s.A c = false := by simpa using ha
      have hcl : c < s.A.length := by rw [hI.a]; exact hcn
      by_cases hr0 : 0 < rAt s.R c
      · rw [if_pos hr0, B173_room H ok d bp pre.length c _ hb rfl hgk hI.a hI.r hI.w hd hcn ha hr0 (hr c), seqK_ret]
        refine ⟨_, rfl, ((H.ask ok _).room ok _).win ok _, (((FrG.rfl' L h).set (.inr (.inr rfl)) _).set (.inr (.inl rfl)) _).set (.inl rfl) _⟩
      · rw [if_neg hr0]
        have H1 := H.ask ok (s.A.set c true)
        have hI' : GInv D N.length { s with A := s.A.set c true } := ⟨hI.w, hI.r, by simpa using hI.a, hI.fit, hI.pos⟩
        have hm : ∀ x, aAt s.A x = true → aAt (s.A.set c true) x = true := fun x hx => by rw [aAt_set hcl]; split; rfl; exact hx
        have hlf := left_set s.A c hcl ha
        have hca : aAt (s.A.set c true) c = true := by rw [aAt_set hcl, if_pos rfl]
        obtain ⟨h', k1, k2, k3⟩ := L173_0 (P := P) hg ok f hF d hd bp pre.length c D.length 0 { s with A := s.A.set c true } _ (by omega) (by simpa using hbl) H1 hI' hca (by show left (s.A.set c true) < f; omega) hr
        obtain ⟨g1, g2⟩ := giveO_good (n := N.length) (give_good hDu f) hd hcd (aAt s.A) ha (List.range s.W.length) { s with A := s.A.set c true } (fun o ho => by rw [List.mem_range, hI.w] at ho; exact ho) hI' hm hca hh (by show left (s.A.set c true) < f; omega)
        have er : List.range' 0 D.length = List.range s.W.length := by rw [hI.w]; exact (List.range_eq_range').symm
        rw [er] at k1 k2
        generalize giveO (give D f) d c (List.range s.W.length) { s with A := s.A.set c true } = q at *
        have hfr : FrG L h h' := ((FrG.rfl' L h).set (.inr (.inr rfl)) _).trans k3
        rw [B173_in H ok d bp pre.length c _ hb rfl hgk hI.a hI.r hI.w hd hcn ha hr0 h' q.1 k1]
        cases hq : q.1
        · obtain ⟨v, w⟩ := g1 hq
          simp only [Bool.false_eq_true, if_false, seqK_normal]
          have v3 : GVain D N.length d s q.2 := by
            refine ⟨v.w, v.r, v.a, fun x hx => v.mono x (hm x hx), fun x hx hs => ?_⟩
            by_cases e : x = c
            · subst e
              exact ⟨by omega, fun o ho e => w o (List.mem_range.2 (by rw [hI.w]; exact ho)) e, d, hd, .inl rfl, hcd⟩
            · exact v.cl x hx (by show aAt (s.A.set c true) x = false; rw [aAt_set hcl, if_neg (Ne.symm e)]; exact hs)
          exact vain q.2 h' k2 hfr v3
        · simp only [if_true, seqK_ret]
          exact ⟨h', by rw [if_pos hq], k2, hfr⟩
theorem W173 (hg : GG N Q D) (ok : L.ok) : ∀ f : Nat, GiveW P N Q D L f
  | 0 => fun d s h _ _ _ _ hk _ => absurd hk (by omega)
  | f + 1 => fun d s h hd H hI hh hk hr => by
    have hdl := hg.dl
    obtain ⟨⟨x, y⟩, gx⟩ : ∃ q, D[d]? = some q := ⟨_, List.getElem?_eq_getElem hd⟩
    have gx' := (List.getElem?_eq_some_iff.1 gx).2
    have hxy : dAt D d = (x, y) := by simp [dAt, List.getD_eq_getElem?_getD, gx]
    have q1 := H.lt.s
    have s1 := H.sch
    have s1' := (List.getElem?_eq_some_iff.1 H.sch).2
    have a1 : ∀ X : LB, (h ++ [X])[L.bs]? = some (gB N Q D L 0) := fun X => by rw [List.getElem?_append_left q1]; exact H.sch
    have a1' := fun X => (List.getElem?_eq_some_iff.1 (a1 X)).2
    have l1 : L.bs < h.length + 1 := by omega
    have hlt := H.lt
    obtain ⟨h', k1, k2, k3⟩ := L173_1 (P := P) hg ok f (W173 hg ok f) d hd h.length x y ⟨by have := hlt.w; omega, by have := hlt.r; omega, by have := hlt.a; omega⟩ hxy [x, y] [] s (h ++ [.cells 1 [.c (ci x), .c (ci y)] 0]) rfl (by simp) (H.app _) hI hh hk hr
    have hfr : FrG L h h' := ((Same.rfl' (Nat.le_refl _)).app [.cells 1 [.c (ci x), .c (ci y)] 0]).frG.trans k3
    refine ⟨h', ?_, by rw [give, hxy]; exact k2, hfr⟩
    rw [give, hxy]
    simp only [TG, askS] at k1
    generalize giveC (give D f) d [x, y] s = r at *
    rw [u173]
    cases hr1 : r.1
    · rw [hr1] at k1
      simp at k1
      simp [c173, s1, s1', q1, gB, hd, gx, gx', encD, a1, a1', l1, k1]
    · rw [hr1] at k1
      simp at k1
      simp [c173, s1, s1', q1, gB, hd, gx, gx', encD, a1, a1', l1, k1]
end LM.GZ
namespace LM.GZ
open Go LM
variable {P : Nat → Option SFunc} [Has P]
variable {N : List Str} {Q : List Int} {D : List Du}
def roomV : List Int → LV
  | [] => .nil
  | x :: r => .slice 4 (x :: r).length 0 (x :: r).length none none
def roomH : List Int → Heap
  | [] => []
  | x :: r => [.cells (x :: r).length (cI (x :: r)) 0]
def schB (N : List Str) (Q : List Int) (D : List Du) (O : List Int) : LB := .cells 0 [.c (.slice (N.map CV.str)), .c (.slice (Q.map ci)), .c (.slice (D.map encD)), roomV O, .slice 2 1 0 D.length none (some D.length)] 0
def T0 (Q : List Int) (c : Nat) (T : Int) (k : Nat) : List LV := [.c (ci c), .ptr 0 0 0, .ptr 3 0 0, .c (ci T), .c (.slice (Q.map ci)), .c (ci Q.length), .c (ci k)]
def HR0 (N : List Str) (Q : List Int) (D : List Du) (O : List Int) : Heap := [lgB N Q D 0, .cells 1 [] 0, .cells 1 (cI (List.replicate D.length 0)) 0, schB N Q D O] ++ roomH O
theorem B114_first (c : Nat) (T : Int) (k : Nat) (hkn : k < Q.length) (q : Int) (gq : Q[k]? = some q) (hT : ¬ T < q) (hw : IntKind.i64.wrap (T - q) = T - q) (hwk : IntKind.i64.wrap ((k:Int) + 1) = (k:Int) + 1): execS P (limS P) c114_l0b ⟨T0 Q c T k, HR0 N Q D []⟩ = some (.normal, ⟨T0 Q c T (k + 1), HR0 N Q D [T - q]⟩) := by
  have gq' := (List.getElem?_eq_some_iff.1 gq).2
  have hk : (k : Int) < Q.length := by omega
  have hc1 : cI [T - q] = [.c (ci (T - q))] := rfl
  have hap : ∀ (X0 X1 X2 X3 : LB), appendOp none none 8 .nil (.c (.slice [ci (T - q)])) [X0, X1, X2, X3] = some (.slice 4 1 0 1 none none, [X0, X1, X2, X3, .cells 1 [.c (ci (T - q))] 0]) := fun _ _ _ _ => rfl
  simp [T0, HR0, roomV, roomH, schB, c114_l0b, hk, hkn, gq, gq', hT, hw, hwk, hap, hc1]
theorem B114_more (c : Nat) (T : Int) (k : Nat) (hkn : k < Q.length) (q : Int) (gq : Q[k]? = some q) (hT : ¬ T < q) (hw : IntKind.i64.wrap (T - q) = T - q) (hwk : IntKind.i64.wrap ((k:Int) + 1) = (k:Int) + 1) (O : List Int) (hO : O ≠ []) (hl : O.length < 1000) : execS P (limS P) c114_l0b ⟨T0 Q c T k, HR0 N Q D O⟩ = some (.normal, ⟨T0 Q c T (k + 1), HR0 N Q D (O ++ [T - q])⟩) := by
  have gq' := (List.getElem?_eq_some_iff.1 gq).2
  have hk : (k : Int) < Q.length := by omega
  have hap := fun X0 X1 X2 X3 => append_own (b := 4) (g := O.length) (bytes := 8) (e := none) (ys := O.map ci) (xs := [ci (T - q)]) (h := [X0, X1, X2, X3, .cells O.length (cellsOf (O.map ci)) 0]) (len := O.length) (fz := 0) rfl (intElems _) (by simpa using ciElem _) (by simp) (Nat.zero_le _) (by simp) (by simp; omega) (by simp; omega)
  have e1 : O.map ci ++ [ci (T - q)] = (O ++ [T - q]).map ci := by simp
  rw [e1, cI_cells, cI_cells] at hap
  have r1 : ∀ O : List Int, O ≠ [] → roomV O = .slice 4 O.length 0 O.length none none := fun O h => by cases O; contradiction; rfl
  have r2 : ∀ O : List Int, O ≠ [] → roomH O = [.cells O.length (cI O) 0] := fun O h => by cases O; contradiction; rfl
  have r3 := r1 O hO
  have r4 := r2 O hO
  have r5 := r1 (O ++ [T - q]) (by simp)
  have r6 := r2 (O ++ [T - q]) (by simp)
  simp [T0, HR0, r3, r4, r5, r6, schB, c114_l0b, hk, hkn, gq, gq', hT, hw, hwk, hap]
theorem B114_bad (c : Nat) (T : Int) (k : Nat) (hkn : k < Q.length) (q : Int) (gq : Q[k]? = some q) (hT : T < q) (O : List Int) : execS P (limS P) c114_l0b ⟨T0 Q c T k, HR0 N Q D O⟩ = some (.ret, ⟨[.slice (HR0 N Q D O).length 1 0 0 none none, .c (.bool false)], HR0 N Q D O ++ [.cells 1 [] 0]⟩) := by
  have gq' := (List.getElem?_eq_some_iff.1 gq).2
  have hk : (k : Int) < Q.length := by omega
  simp [T0, HR0, c114_l0b, hk, hkn, gq, gq', hT]
theorem under_T0 {c k n : Nat} {T : Int} (hn : 4 ≤ n) : ∀ v ∈ T0 Q c T k, v.under n = true := by
  intro v hv
  simp only [T0, List.mem_cons, List.not_mem_nil, or_false] at hv
  rcases hv with rfl | rfl | rfl | rfl | rfl | rfl | rfl <;> simp [LV.under] <;> omega
theorem gc_HR0 {n : Nat} {O O' : List Int} {ts : List LV} (hn : n = (HR0 N Q D O).length) (hu : ∀ v ∈ ts, v.under n = true) (h : (O = [] ∧ O' ≠ []) ∨ (O ≠ [] ∧ O' ≠ [])) : gc n ⟨ts, HR0 N Q D O'⟩ = ⟨ts, HR0 N Q D O'⟩ := by
  have hs : ∀ ts : List LV, (∀ v ∈ ts, v.under n = true) → scrub n ts = ts := by
    intro ts
    induction ts with
    | nil => intro _; rfl
    | cons v r ih =>
      intro hu
      rw [scrub, hu v (by simp), ih (fun w hw => hu w (by simp [hw]))]
      rfl
  unfold gc
  rcases h with ⟨rfl, h⟩ | ⟨h1, h⟩
  · have hn' : n = 4 := by rw [hn]; rfl
    subst hn'
    rw [if_neg]
    obtain ⟨x, r, rfl⟩ : ∃ x r, O' = x :: r := by cases O'; contradiction; exact ⟨_, _, rfl⟩
    simp [HR0, roomH, schB, roomV, lgB]
  · obtain ⟨x, r, rfl⟩ : ∃ x r, O' = x :: r := by cases O'; contradiction; exact ⟨_, _, rfl⟩
    obtain ⟨y, q, rfl⟩ : ∃ x r, O = x :: r := by cases O; contradiction; exact ⟨_, _, rfl⟩
    have hn' : n = 5 := by rw [hn]; rfl
    subst hn'
    have e : (HR0 N Q D (x :: r)).take 5 = HR0 N Q D (x :: r) := rfl
    simp only [e, hs ts hu]
    split <;> rfl
theorem L114_0 (c : Nat) (T : Int) (hT : -1000000 ≤ T ∧ T ≤ 1000000) (hl : Q.length ≤ 5) : ∀ (r pre : List Int), Q = pre ++ r → (∀ p ∈ Q, 0 ≤ p ∧ p ≤ 99999) → 
    ∃ h', execS P (limS P) c114_l0 ⟨T0 Q c T pre.length, HR0 N Q D (pre.map fun p => T - p)⟩ = if r.any (fun p => decide (T < p)) = true then some (.ret, ⟨[.slice h'.length 1 0 0 none none, .c (.bool false)], h' ++ [.cells 1 [] 0]⟩) else some (.exit 0, ⟨[.c (ci c), .ptr 0 0 0, .ptr 3 0 0], HR0 N Q D (Q.map fun p => T - p)⟩) := by
  intro r
  induction r with
  | nil =>
    intro pre hp _
    have hp' : Q = pre := by simpa using hp
    subst hp'
    refine ⟨[], ?_⟩
    rw [r114_l0]
    simp [T0, c114_l0b]
  | cons q r ih =>
    intro pre hp hb
    have gx : Q[pre.length]? = some q := by rw [hp]; simp
    have hpl : pre.length < Q.length := (List.getElem?_eq_some_iff.1 gx).1
    have hq := hb q (by rw [hp]; simp)
    have hwk : IntKind.i64.wrap ((pre.length : Int) + 1) = (pre.length : Int) + 1 := wrap64 (by omega) (by omega)
    rw [r114_l0]
    by_cases h1 : T < q
    · refine ⟨HR0 N Q D (pre.map fun p => T - p), ?_⟩
      rw [B114_bad c T pre.length hpl q gx h1]
      simp [h1]
    · have hw : IntKind.i64.wrap (T - q) = T - q := wrap64 (by omega) (by omega)
      obtain ⟨h', ih⟩ := ih (pre ++ [q]) (by simp [hp]) hb
      have e1 : (pre ++ [q]).length = pre.length + 1 := by simp
      have e2 : (pre ++ [q]).map (fun p => T - p) = pre.map (fun p => T - p) ++ [T - q] := by simp
      rw [e1, e2] at ih
      have e3 : (q :: r).any (fun p => decide (T < p)) = r.any (fun p => decide (T < p)) := by simp [h1]
      refine ⟨h', ?_⟩
      rw [e3, ← ih]
      by_cases h2 : pre = []
      · subst h2
        have := B114_first (P := P) (N := N) (D := D) c T 0 hpl q gx h1 hw hwk
        simp only [List.length_nil, List.map_nil] at this ⊢
        rw [this, seqK_normal]
        show execS P (limS P) c114_l0 (gc (HR0 N Q D []).length _) = _
        rw [gc_HR0 rfl (under_T0 (by simp [HR0])) (.inl ⟨rfl, by simp⟩)]
        rfl
      · rw [B114_more c T pre.length hpl q gx h1 hw hwk (pre.map fun p => T - p) (by simpa using h2) (by simp; omega), seqK_normal]
        show execS P (limS P) c114_l0 (gc (HR0 N Q D (pre.map fun p => T - p)).length _) = _
        rw [gc_HR0 rfl (under_T0 (by simp [HR0])) (.inr ⟨by simpa using h2, by simp⟩)]
end LM.GZ
namespace LM.GZ
open Go LM
variable {P : Nat → Option SFunc} [Has P]
variable {N : List Str} {Q : List Int} {D : List Du}
def HR1 (N : List Str) (Q : List Int) (D : List Du) (W O : List Int) : Heap := [lgB N Q D 0, .cells 1 [] 0, .cells 1 (cI W) 0, schB N Q D O] ++ roomH O
theorem set_mid {α : Type} (x y : α) : ∀ (pre r : List α), (pre ++ x :: r).set pre.length y = pre ++ y :: r
  | [], r => rfl
  | a :: pre, r => by rw [List.cons_append, List.length_cons, List.set_cons_succ, set_mid x y pre r]; rfl
theorem L114_1 (c : Nat) (O : List Int) (hO : O ≠ []) (hD : D.length ≤ 7) : ∀ (j i : Nat), i + j = D.length →
    execS P (limS P) c114_l1 ⟨[.c (ci c), .ptr 0 0 0, .ptr 3 0 0, .c (ci D.length), .c (ci i)], HR1 N Q D (List.replicate i (-1) ++ List.replicate j 0) O⟩ = some (.exit 2, ⟨[.c (ci c), .ptr 0 0 0, .ptr 3 0 0], HR1 N Q D (List.replicate D.length (-1)) O⟩) := by
  obtain ⟨o, O, rfl⟩ : ∃ x r, O = x :: r := by cases O; contradiction; exact ⟨_, _, rfl⟩
  intro j
  induction j with
  | zero =>
    intro i h
    have hi : i = D.length := by omega
    subst hi
    rw [r114_l1]
    simp [c114_l1b]
  | succ j ih =>
    intro i h
    have ih := ih (i + 1) (by omega)
    have hlt : (i : Int) < D.length := by omega
    have hln : i < D.length := by omega
    have hln1 : i + 1 ≤ D.length := by omega
    have hw : IntKind.i64.wrap ((i : Int) + 1) = (i : Int) + 1 := wrap64 (by omega) (by omega)
    have e1 : (cI (List.replicate i (-1) ++ List.replicate (j + 1) 0)).length = D.length := by rw [cI_length]; simp; omega
    have e2 : (cI (List.replicate i (-1) ++ List.replicate (j + 1) 0)).set i (.c (ci (-1))) = cI (List.replicate (i + 1) (-1) ++ List.replicate j 0) := by
      rw [rI_set, List.replicate_succ (n := j)]
      have := set_mid (0 : Int) (-1) (List.replicate i (-1)) (List.replicate j 0)
      rw [List.length_replicate] at this
      rw [this, List.replicate_succ' (n := i), List.append_assoc]
      rfl
    have hu := under_cI 5 (List.replicate (i + 1) (-1) ++ List.replicate j 0)
    have hu2 := under_cI 5 (o :: O)
    rw [r114_l1]
    generalize List.replicate i (-1) ++ List.replicate (j + 1) 0 = W at *
    generalize List.replicate (i + 1) (-1) ++ List.replicate j 0 = W2 at *
    generalize cI (o :: O) = C at *
    simp [HR1, lgB, schB, roomV, roomH] at ih ⊢
    simp [c114_l1b, hlt, hln, hln1, e1, e2, hw, hu, hu2, ih]
def LT (n ba : Nat) : GLoc := ⟨3, 2, 4, ba, n, none⟩
structure HpS (N : List Str) (Q : List Int) (D : List Du) (W R : List Int) (h : Heap) : Prop where
  z : h[0]? = some (lgB N Q D 0)
  sch : h[3]? = some (gB N Q D (LT N.length 0) 0)
  w : h[2]? = some (.cells 1 (cI W) 0)
  r : h[4]? = some (.cells N.length (cI R) 0)
variable {W R : List Int} {h : Heap}
def TT (D : List Du) (c k : Nat) : List LV := [.c (ci c), .ptr 0 0 0, .ptr 3 0 0, .c (.slice (D.map encD)), .c (ci D.length), .c (ci k)]
theorem B114_own (H : HpS N Q D W R h) (c k : Nat) (hk : k < D.length) (hD : D.length ≤ 7) (ho : isOf c (dAt D k) = true) : execS P (limS P) c114_l2b ⟨TT D c k, h⟩ = some (.normal, ⟨TT D c (k + 1), h ++ [.cells 0 [.c (ci (dAt D k).1), .c (ci (dAt D k).2)] 0]⟩) := by
  have gx : D[k]? = some (dAt D k) := by simp [dAt, List.getD_eq_getElem?_getD, List.getElem?_eq_getElem hk]
  have gx' := (List.getElem?_eq_some_iff.1 gx).2
  have e119 := S119n (P := P) (dAt D k) c
  rw [ho] at e119
  have hki : (k : Int) < D.length := by omega
  have hw : IntKind.i64.wrap ((k : Int) + 1) = (k : Int) + 1 := wrap64 (by omega) (by omega)
  simp [encD] at e119
  simp [TT, c114_l2b, hki, hk, gx, gx', encD, e119, hw]
theorem B114_give (H : HpS N Q D W R h) (c k : Nat) (hk : k < D.length) (hD : D.length ≤ 7) (hN : N.length ≤ 5) (ho : isOf c (dAt D k) = false) (b : Bool) (hz : Heap)
    (e173 : sfn P 173 [.ptr 3 0 0, .c (ci k), .slice (h.length + 1) 1 0 N.length none (some N.length)] (h ++ [.cells 0 [.c (ci (dAt D k).1), .c (ci (dAt D k).2)] 0, .cells 1 (cO (List.replicate N.length false)) 0]) = some (.c (.bool b), hz)) :
    execS P (limS P) c114_l2b ⟨TT D c k, h⟩ = if b = true then some (.normal, ⟨TT D c (k + 1), hz⟩) else some (.ret, ⟨[.slice hz.length 1 0 0 none none, .c (.bool false)], hz ++ [.cells 1 [] 0]⟩) := by
  have gx : D[k]? = some (dAt D k) := by simp [dAt, List.getD_eq_getElem?_getD, List.getElem?_eq_getElem hk]
  have gx' := (List.getElem?_eq_some_iff.1 gx).2
  have e119 := S119n (P := P) (dAt D k) c
  rw [ho] at e119
  have hki : (k : Int) < D.length := by omega
  have hw : IntKind.i64.wrap ((k : Int) + 1) = (k : Int) + 1 := wrap64 (by omega) (by omega)
  have q1 := lt_get H.z
  have z1 := H.z
  have z1' := (List.getElem?_eq_some_iff.1 H.z).2
  have a1 : ∀ X : LB, (h ++ [X])[0]? = some (lgB N Q D 0) := fun X => by rw [List.getElem?_append_left q1]; exact H.z
  have a1' := fun X => (List.getElem?_eq_some_iff.1 (a1 X)).2
  have l1 : 0 < h.length + 1 := by omega
  have hn2 : (N.length : Int) ≤ 9223372036854775807 := by omega
  have hn1 : (N.length : Int) ≤ 140737488355328 := by omega
  simp [encD] at e119
  simp [cO] at e173
  cases b
  · simp [TT, c114_l2b, hki, hk, gx, gx', encD, e119, hw, z1, z1', q1, a1, a1', l1, lgB, hn1, hn2, frzFuncs_nil, frzFuncs_c, frzFuncs_slice, frzFuncs_ptr, e173]
  · simp [TT, c114_l2b, hki, hk, gx, gx', encD, e119, hw, z1, z1', q1, a1, a1', l1, lgB, hn1, hn2, frzFuncs_nil, frzFuncs_c, frzFuncs_slice, frzFuncs_ptr, e173]
theorem HpS.near (H : HpS N Q D W R h) {h' : Heap} (hs : Same h.length h h') : HpS N Q D W R h' :=
  ⟨(hs.2 _ (lt_get H.z)).trans H.z, (hs.2 _ (lt_get H.sch)).trans H.sch, (hs.2 _ (lt_get H.w)).trans H.w, (hs.2 _ (lt_get H.r)).trans H.r⟩
theorem HpS.app (H : HpS N Q D W R h) (X : Heap) : HpS N Q D W R (h ++ X) := H.near ((Same.rfl' (Nat.le_refl _)).app X)
theorem under_TT {c k n : Nat} (hn : 4 ≤ n) : ∀ v ∈ TT D c k, v.under n = true := by
  intro v hv
  simp only [TT, List.mem_cons, List.not_mem_nil, or_false] at hv
  rcases hv with rfl | rfl | rfl | rfl | rfl | rfl <;> simp [LV.under] <;> omega
theorem L114_2 (hg : GG N Q D) (c : Nat) : ∀ (m k : Nat) (W R : List Int) (h : Heap), k + m = D.length → HpS N Q D W R h → GInv D N.length (fresh N.length (W, R)) → (∀ o, k ≤ o → o < D.length → wAt W o = -1) → (∀ x : Nat, cntW W x + rAt R x ≤ 1000000) →
    ∃ h', match fillG D c N.length (List.range' k m) (W, R) with
      | some t => execS P (limS P) c114_l2 ⟨TT D c k, h⟩ = some (.exit 4, ⟨[.c (ci c), .ptr 0 0 0, .ptr 3 0 0], h'⟩) ∧ HpS N Q D t.1 t.2 h' ∧ t.1.length = D.length
      | none => execS P (limS P) c114_l2 ⟨TT D c k, h⟩ = some (.ret, ⟨[.slice h'.length 1 0 0 none none, .c (.bool false)], h' ++ [.cells 1 [] 0]⟩) := by
  intro m
  induction m with
  | zero =>
    intro k W R h hk H hI _ _
    have hk' : k = D.length := by omega
    subst hk'
    refine ⟨h, ?_, H, hI.w⟩
    rw [r114_l2]
    simp [TT, c114_l2b]
  | succ m ih =>
    intro k W R h hk H hI hy hc
    have hkl : k < D.length := by omega
    have hdl := hg.dl
    have hDu : ∀ d ∈ D, d.1 < N.length ∧ d.2 < N.length := fun d hd => ⟨(hg.du d hd).1, (hg.du d hd).2.1⟩
    have h4 := lt_get H.sch
    have cntp : ∀ (W : List Int) (x : Nat), 0 ≤ cntW W x := fun W x => by unfold cntW; omega
    rw [List.range'_succ, fillG, r114_l2]
    have go : ∀ (W' R' : List Int) (hz : Heap), h.length ≤ hz.length → HpS N Q D W' R' hz → GInv D N.length (fresh N.length (W', R')) → (∀ o, k + 1 ≤ o → o < D.length → wAt W' o = -1) → (∀ x : Nat, cntW W' x + rAt R' x ≤ 1000000) → ∃ h', match fillG D c N.length (List.range' (k + 1) m) (W', R') with
      | some t => execS P (limS P) c114_l2 (gc h.length ⟨TT D c (k + 1), hz⟩) = some (.exit 4, ⟨[.c (ci c), .ptr 0 0 0, .ptr 3 0 0], h'⟩) ∧ HpS N Q D t.1 t.2 h' ∧ t.1.length = D.length
      | none => execS P (limS P) c114_l2 (gc h.length ⟨TT D c (k + 1), hz⟩) = some (.ret, ⟨[.slice h'.length 1 0 0 none none, .c (.bool false)], h' ++ [.cells 1 [] 0]⟩) := by
      intro W' R' hz hle Hz hI' hy' hc'
      obtain ⟨hg', hg1, hg2⟩ := gc_any (n := h.length) (ts := TT D c (k + 1)) (h := hz) hle (under_TT (by omega))
      rw [hg1]
      have l0 := lt_get H.z
      have l2 := lt_get H.w
      have l5 := lt_get H.r
      exact ih (k + 1) W' R' hg' (by omega) ⟨(hg2.2 _ l0).trans Hz.z, (hg2.2 _ h4).trans Hz.sch, (hg2.2 _ l2).trans Hz.w, (hg2.2 _ l5).trans Hz.r⟩ hI' hy' hc'
    by_cases ho : isOf c (dAt D k) = true
    · rw [if_pos ho, B114_own H c k hkl hdl ho, seqK_normal]
      exact go W R _ (by simp) (H.app _) hI (fun o h1 h2 => hy o (by omega) h2) hc
    · rw [if_neg ho]
      have ho : isOf c (dAt D k) = false := by simpa using ho
      have Ha := H.app [.cells 0 [.c (ci (dAt D k).1), .c (ci (dAt D k).2)] 0, .cells 1 (cO (List.replicate N.length false)) 0]
      have HG : HpG N Q D (LT N.length (h.length + 1)) (fresh N.length (W, R)) (h ++ [.cells 0 [.c (ci (dAt D k).1), .c (ci (dAt D k).2)] 0, .cells 1 (cO (List.replicate N.length false)) 0]) :=
        ⟨Ha.sch, Ha.w, Ha.r, by show (h ++ _)[h.length + 1]? = _; rw [List.getElem?_append_right (by omega)]; simp [fresh]⟩
      have l5 := lt_get H.r
      have hne := hg.ne
      have hok : (LT N.length (h.length + 1)).ok := by
        refine ⟨?_, ?_, ?_, ?_, ?_, ?_, ?_⟩ <;> simp [LT, hne] <;> omega
      have hwk := hy k (Nat.le_refl _) hkl
      have hwk' : Held (aAt (fresh N.length (W, R)).A) (wAt (fresh N.length (W, R)).W k) := .inl hwk
      have hlf : left (fresh N.length (W, R)).A < N.length + 1 := by show left (List.replicate _ false) < _; rw [left_rep]; omega
      obtain ⟨hz, e1, e2, e3⟩ := W173 (P := P) hg hok (N.length + 1) k (fresh N.length (W, R)) _ hkl HG hI hwk' hlf (fun x => by have := hc x; have := cntp W x; show rAt R x ≤ _; omega)
      obtain ⟨g1, g2⟩ := give_good (D := D) hDu (N.length + 1) k (fresh N.length (W, R)) hkl hI hwk' hlf
      generalize give D (N.length + 1) k (fresh N.length (W, R)) = r at *
      rw [B114_give H c k hkl hdl hg.n5 ho r.1 hz e1]
      have hlz : h.length ≤ hz.length := by have := e3.1; simp at this; omega
      cases hr : r.1
      · simp only [Bool.false_eq_true, if_false, seqK_ret]
        exact ⟨hz, rfl⟩
      · have w := g2 hr
        simp only [if_true, seqK_normal]
        refine go r.2.W r.2.R hz hlz ⟨?_, e2.sch, e2.w, e2.r⟩ ⟨w.inv.w, w.inv.r, by simp [fresh], w.inv.fit, w.inv.pos⟩ (fun o h1 h2 => ?_) (fun x => ?_)
        · rw [e3.2 0 (by simp) (by simp [LT]) (by simp [LT]) (by simp [LT])]
          exact Ha.z
        · have := w.old o (by omega) (.inl (hy o (by omega) h2))
          rw [this]
          exact hy o (by omega) h2
        · have a1 := w.cnt x
          have a2 := hc x
          have a3 : wAt (fresh N.length (W, R)).W k = -1 := hwk
          rw [a3, if_neg (by omega)] at a1
          have e : cntW r.2.W x + rAt r.2.R x = cntW W x + rAt R x := by rw [a1]; exact Int.sub_zero _
          omega
end LM.GZ
namespace LM.GZ
open Go LM
variable {P : Nat → Option SFunc} [Has P]
variable {N : List Str} {Q : List Int} {D : List Du} {W R : List Int} {h : Heap}
def setOwn (D : List Du) (cl : Nat) : List Nat → List Int → List Int
  | [], W => W
  | o :: os, W => setOwn D cl os (if isOf cl (dAt D o) = true then W.set o (cl : Int) else W)
theorem setOwn_len (D : List Du) (cl : Nat) : ∀ (os : List Nat) (W : List Int), (setOwn D cl os W).length = W.length
  | [], _ => rfl
  | o :: os, W => by rw [setOwn, setOwn_len D cl os]; split <;> simp
theorem setOwn_at (D : List Du) (cl : Nat) : ∀ (os : List Nat) (W : List Int), (∀ o ∈ os, o < W.length) → ∀ j, wAt (setOwn D cl os W) j = if j ∈ os ∧ isOf cl (dAt D j) = true then (cl : Int) else wAt W j
  | [], W, _, j => by simp [setOwn]
  | o :: os, W, h, j => by
    have ho := h o (by simp)
    rw [setOwn, setOwn_at D cl os _ (fun x hx => by have := h x (by simp [hx]); split; rw [List.length_set]; exact this; exact this)]
    by_cases c1 : isOf cl (dAt D o) = true
    · rw [if_pos c1, wAt_set ho]
      by_cases e : o = j
      · subst e
        simp [c1]
      · have : ¬ j = o := fun x => e x.symm
        simp [e, this]
    · rw [if_neg c1]
      by_cases e : o = j
      · subst e
        simp [c1]
      · have : ¬ j = o := fun x => e x.symm
        simp [this]
theorem setOwn_eq (D : List Du) (cl : Nat) (W : List Int) (hW : W.length = D.length) : setOwn D cl (List.range D.length) W = ownW D cl W := by
  apply List.ext_getElem
  · rw [setOwn_len, hW]; simp [ownW]
  · intro o h1 h2
    rw [setOwn_len, hW] at h1
    have e1 : ∀ (V : List Int) (hv : o < V.length), V[o] = wAt V o := fun V hv => by simp only [wAt, List.getD_eq_getElem?_getD, List.getElem?_eq_getElem hv, Option.getD_some]
    rw [e1, e1, setOwn_at D cl _ W (fun x hx => by rw [hW]; exact List.mem_range.1 hx), wAt_own h1]
    simp [h1]
def TU (D : List Du) (c k : Nat) : List LV := [.c (ci c), .ptr 3 0 0, .c (.slice (D.map encD)), .c (ci D.length), .c (ci k)]
theorem B114_set (H : HpS N Q D W R h) (c k : Nat) (hk : k < D.length) (hD : D.length ≤ 7) (hW : W.length = D.length) : execS P (limS P) c114_l3b ⟨TU D c k, h⟩ = some (.normal, ⟨TU D c (k + 1), (if isOf c (dAt D k) = true then h.set 2 (.cells 1 (cI (W.set k (c : Int))) 0) else h) ++ [.cells 0 [.c (ci (dAt D k).1), .c (ci (dAt D k).2)] 0]⟩) := by
  have gx : D[k]? = some (dAt D k) := by simp [dAt, List.getD_eq_getElem?_getD, List.getElem?_eq_getElem hk]
  have gx' := (List.getElem?_eq_some_iff.1 gx).2
  have e119 := S119n (P := P) (dAt D k) c
  have hki : (k : Int) < D.length := by omega
  have hk1 : k + 1 ≤ D.length := hk
  have hw : IntKind.i64.wrap ((k : Int) + 1) = (k : Int) + 1 := wrap64 (by omega) (by omega)
  have q3 := lt_get H.sch
  have q2 := lt_get H.w
  have a3 : ∀ X : LB, (h ++ [X])[3]? = some (gB N Q D (LT N.length 0) 0) := fun X => by rw [List.getElem?_append_left q3]; exact H.sch
  have a3' := fun X => (List.getElem?_eq_some_iff.1 (a3 X)).2
  have a2 : ∀ X : LB, (h ++ [X])[2]? = some (.cells 1 (cI W) 0) := fun X => by rw [List.getElem?_append_left q2]; exact H.w
  have a2' := fun X => (List.getElem?_eq_some_iff.1 (a2 X)).2
  have l3 : 3 < h.length + 1 := by omega
  have l2 : 2 < h.length + 1 := by omega
  have hWl := cI_length W
  have e3 := rI_set W k (c : Int)
  have e4 : ∀ X Y : LB, (h ++ [X]).set 2 Y = h.set 2 Y ++ [X] := fun X Y => List.set_append_left _ _ q2
  simp [encD] at e119
  cases ho : isOf c (dAt D k)
  · rw [ho] at e119
    simp [TU, c114_l3b, hki, hk, gx, gx', encD, e119, hw]
  · rw [ho] at e119
    simp [TU, c114_l3b, hki, hk, hk1, gx, gx', encD, e119, hw, a3, a3', a2, a2', l3, l2, gB, LT, hWl, hW, e3, e4]
theorem HpS.win (H : HpS N Q D W R h) (V : List Int) : HpS N Q D V R (h.set 2 (.cells 1 (cI V) 0)) :=
  ⟨by rw [List.getElem?_set_ne (by decide)]; exact H.z, by rw [List.getElem?_set_ne (by decide)]; exact H.sch, by rw [List.getElem?_set_self (lt_get H.w)], by rw [List.getElem?_set_ne (by decide)]; exact H.r⟩
theorem under_TU {c k n : Nat} (hn : 4 ≤ n) : ∀ v ∈ TU D c k, v.under n = true := by
  intro v hv
  simp only [TU, List.mem_cons, List.not_mem_nil, or_false] at hv
  rcases hv with rfl | rfl | rfl | rfl | rfl <;> simp [LV.under] <;> omega
theorem L114_3 (hD : D.length ≤ 7) (c : Nat) : ∀ (m k : Nat) (W : List Int) (h : Heap), k + m = D.length → HpS N Q D W R h → W.length = D.length →
    ∃ h', execS P (limS P) c114_l3 ⟨TU D c k, h⟩ = some (.exit 6, ⟨[.ptr 3 0 0], h'⟩) ∧ HpS N Q D (setOwn D c (List.range' k m) W) R h' := by
  intro m
  induction m with
  | zero =>
    intro k W h hk H _
    have hk' : k = D.length := by omega
    subst hk'
    refine ⟨h, ?_, H⟩
    rw [r114_l3]
    simp [TU, c114_l3b]
  | succ m ih =>
    intro k W h hk H hW
    have hkl : k < D.length := by omega
    rw [List.range'_succ, setOwn, r114_l3, B114_set H c k hkl hD hW, seqK_normal]
    have H1 : HpS N Q D (if isOf c (dAt D k) = true then W.set k (c : Int) else W) R (if isOf c (dAt D k) = true then h.set 2 (.cells 1 (cI (W.set k (c : Int))) 0) else h) := by
      split
      · exact H.win _
      · exact H
    have H2 := H1.app [.cells 0 [.c (ci (dAt D k).1), .c (ci (dAt D k).2)] 0]
    generalize hX : (if isOf c (dAt D k) = true then h.set 2 (.cells 1 (cI (W.set k (c : Int))) 0) else h) ++ [.cells 0 [.c (ci (dAt D k).1), .c (ci (dAt D k).2)] 0] = X at *
    have hle : h.length ≤ X.length := by rw [← hX]; split <;> simp
    have h4 := lt_get H.sch
    have l0 := lt_get H.z
    have l2 := lt_get H.w
    have l5 := lt_get H.r
    obtain ⟨hg', hg1, hg2⟩ := gc_any (n := h.length) (ts := TU D c (k + 1)) (h := X) hle (under_TU (by omega))
    show ∃ h', execS P (limS P) c114_l3 (gc h.length _) = _ ∧ _
    rw [hg1]
    exact ih (k + 1) _ hg' (by omega) ⟨(hg2.2 _ l0).trans H2.z, (hg2.2 _ h4).trans H2.sch, (hg2.2 _ l2).trans H2.w, (hg2.2 _ l5).trans H2.r⟩ (by split <;> simp [hW])
def titleV (o : Option (List Int)) : CV :=
  match o with
  | some W => .tuple [.slice (W.map ci), .bool true]
  | none => .tuple [.slice [], .bool false]
theorem S114 (hg : GG N Q D) {c : Nat} (hc : c < N.length) : fn P 114 [lgE N Q D, ci c] = some (titleV (titleL Q D c)) := by
  have e1 := S172 (P := P) hg hc
  have hdl := hg.dl
  have hn5 := hg.n5
  have hlp := hg.lp
  have hne := hg.ne
  have a1 : (D.length : Int) * 8 ≤ 140737488355328 := by omega
  have a2 : (D.length : Int) ≤ 9223372036854775807 := by omega
  have hT := hg.at c
  have hcn : D.countP (isOf c) ≤ D.length := List.countP_le_length
  have hTb : -1000000 ≤ topL Q D c ∧ topL Q D c ≤ 1000000 := by unfold topL; omega
  obtain ⟨h0, k0⟩ := L114_0 (P := P) (N := N) (Q := Q) (D := D) c (topL Q D c) hTb (by omega) Q [] rfl hg.pr
  have hR : cI (List.replicate D.length 0) = List.replicate D.length (.c (ci 0)) := by simp [cI]
  simp [lgE] at e1
  unfold titleL
  rw [u114]
  cases hp : Q.any (fun p => decide (topL Q D c < p))
  case true =>
    rw [hp] at k0
    rw [if_pos rfl]
    simp [T0, HR0, roomH, schB, roomV, lgB, hR, -List.any_eq_true] at k0
    simp [c114, lgE, e1, a1, a2, k0, titleV]
  rw [hp] at k0
  rw [if_neg (by simp)]
  have hOne : (Q.map fun p => topL Q D c - p) ≠ [] := by
    intro e
    have : Q = [] := by simpa using e
    rw [this] at hlp
    exact hne (List.eq_nil_of_length_eq_zero hlp.symm)
  have k1 := L114_1 (P := P) (N := N) (Q := Q) (D := D) c (Q.map fun p => topL Q D c - p) hOne hdl D.length 0 (by omega)
  have r1 : ∀ O : List Int, O ≠ [] → roomV O = .slice 4 O.length 0 O.length none none := fun O h => by cases O; contradiction; rfl
  have r2 : ∀ O : List Int, O ≠ [] → roomH O = [.cells O.length (cI O) 0] := fun O h => by cases O; contradiction; rfl
  have HS : ∀ W, HpS N Q D W (Q.map fun p => topL Q D c - p) (HR1 N Q D W (Q.map fun p => topL Q D c - p)) := by
    intro W
    refine ⟨rfl, ?_, rfl, ?_⟩
    · show some (schB N Q D _) = _
      rw [schB, r1 _ hOne, gB, List.length_map, hlp]
      rfl
    · show (roomH _)[0]? = _
      rw [r2 _ hOne, List.length_map, hlp]
      rfl
  have hst := title_start (D := D) (cl := c) hp
  obtain ⟨h2, k2⟩ := L114_2 (P := P) hg c D.length 0 (List.replicate D.length (-1)) (Q.map fun p => topL Q D c - p) _ (by omega) (HS _) (by rw [← hlp]; exact hst.inv) (fun o _ _ => rep_wAt _ _) (fun x => by
    have : cntW (List.replicate D.length (-1)) (x : Int) = 0 := by
      simp only [cntW, List.count_replicate]
      rw [if_neg (by simp)]
      rfl
    rw [this]
    by_cases hx : x < Q.length
    · rw [rAt_map _ hx]
      have := hg.at x
      omega
    · rw [rAt, List.getD_eq_getElem?_getD, List.getElem?_eq_none (by simpa using hx)]
      simp)
  have er : List.range' 0 D.length = List.range D.length := (List.range_eq_range').symm
  rw [er, ← hlp] at k2
  generalize hO : (Q.map fun p => topL Q D c - p) = O at *
  have k0' : execS P (limS P) c114_l0 ⟨[.c (ci c), .ptr 0 0 0, .ptr 3 0 0, .c (ci (topL Q D c)), .c (.slice (Q.map ci)), .c (ci Q.length), .c (ci 0)], [lgB N Q D 0, .cells 1 [] 0, .cells 1 (cI (List.replicate D.length 0)) 0, .cells 0 [.c (.slice (N.map CV.str)), .c (.slice (Q.map ci)), .c (.slice (D.map encD)), .nil, .slice 2 1 0 D.length none (some D.length)] 0]⟩ = some (.exit 0, ⟨[.c (ci c), .ptr 0 0 0, .ptr 3 0 0], HR1 N Q D (List.replicate D.length 0) O⟩) := k0
  rw [hR] at k0'
  simp only [List.replicate_zero, List.nil_append] at k1
  simp only [TT] at k2
  simp [lgB] at k0'
  have s0 := (HS (List.replicate D.length 0)).sch
  have s0' := (List.getElem?_eq_some_iff.1 s0).2
  have s0l := lt_get s0
  have s1 := (HS (List.replicate D.length (-1))).z
  have s1' := (List.getElem?_eq_some_iff.1 s1).2
  have s1l := lt_get s1
  clear k0
  generalize HR1 N Q D (List.replicate D.length 0) O = X0 at *
  generalize HR1 N Q D (List.replicate D.length (-1)) O = X1 at *
  cases hf : fillG D c Q.length (List.range D.length) (List.replicate D.length (-1), O) with
  | none =>
    rw [hf] at k2
    simp only at k2
    simp at k1 k2
    simp [c114, lgE, e1, a1, a2, k0', k1, k2, titleV, s0, s0', s0l, s1, s1', s1l, gB, lgB]
  | some t =>
    rw [hf] at k2
    simp only at k2
    obtain ⟨k2, H2, ht⟩ := k2
    obtain ⟨h3, k3, H3⟩ := L114_3 (P := P) hdl c D.length 0 t.1 h2 (by omega) H2 ht
    rw [er, setOwn_eq D c t.1 ht] at H3
    simp only [TU] at k3
    simp at k1 k2 k3
    have z2 := H2.z
    have z2' := (List.getElem?_eq_some_iff.1 z2).2
    have z2l := lt_get z2
    have z3 := H3.sch
    have z3' := (List.getElem?_eq_some_iff.1 z3).2
    have z3l := lt_get z3
    have hr := resV_own (b := 2) (g := 1) (fz := 0) (e := none) (ys := (ownW D c t.1).map ci) (h := h3) (len := D.length) (by rw [cI_cells]; exact H3.w) (intElems _) (by simp [ownW]) (some D.length) (.bool true)
    simp [c114, lgE, e1, a1, a2, k0', k1, k2, k3, titleV, s0, s0', s0l, s1, s1', s1l, gB, lgB, z2, z2', z2l, z3, z3', z3l]
    exact hr
end LM.GZ
namespace LM.GZ
open Go LM
variable {P : Nat → Option SFunc} [Has P]
variable {N : List Str} {Q : List Int} {D : List Du}
def titV (o : Option (List Int)) : CV :=
  match o with
  | some W => .tuple [.slice (W.map ci), ci 0]
  | none => .tuple [.slice [], ci 23]
theorem S46 (hg : GG N Q D) {c : Nat} (hc : c < N.length) : fn P 46 [lgE N Q D, ci c] = some (titV (titleL Q D c)) := by
  have e1 := S113 (P := P) hg hc
  have e2 := S114 (P := P) hg hc
  simp [lgE] at e1
  rw [u46]
  cases ht : titleL Q D c with
  | none =>
    rw [ht] at e2
    simp [lgE, titleV] at e2
    simp [c46, lgE, e1, e2, whenE, titV]
  | some W =>
    rw [ht] at e2
    simp [lgE, titleV] at e2
    simp [c46, lgE, e1, e2, whenE, titV]
theorem clone_ints (X : List Int) (h : X.length < 1000000) (hx : X ≠ []) : cloneP none 8 [.slice (X.map ci)] = some (.slice 0 1 0 X.length none none, [.cells 1 (cI X) 0]) := by
  have e1 : ((X.map ci).flatMap CV.cells).map LV.c = cI X := by rw [← cI_cells]; rfl
  have hn : X.length ≠ 0 := fun e => hx (List.eq_nil_of_length_eq_zero e)
  have hz : szOf none = 1 := rfl
  have hf : flatAll (cI X) = true := by rw [← cI_cells]; exact flatAll_cellsOf (intElems X)
  unfold cloneP
  simp only [e1, List.length_map, cI_length, hf, hz]
  rw [if_neg hn, if_neg (by simp; omega)]
theorem L120_0 (X : List Int) (hX : X.length < 1000000) : ∀ (r pre : List Int) (m : Int), X = pre ++ r → m ∈ X →
    ∃ m', m' ∈ X ∧ execS P (limS P) c120_l0 ⟨[.c (.slice (X.map ci)), .c (ci m), .c (ci pre.length)], []⟩ = some (.exit 0, ⟨[.c (ci m')], []⟩) := by
  intro r
  induction r with
  | nil =>
    intro pre m hp hm
    have hp' : X = pre := by simpa using hp
    refine ⟨m, hm, ?_⟩
    rw [r120_l0]
    simp [c120_l0b, hp']
  | cons x r ih =>
    intro pre m hp hm
    have gx : X[pre.length]? = some x := by rw [hp]; simp
    have hpl : pre.length < X.length := (List.getElem?_eq_some_iff.1 gx).1
    obtain ⟨_, gx'⟩ := List.getElem?_eq_some_iff.1 gx
    have hlt : (pre.length : Int) < X.length := by omega
    have hw : IntKind.i64.wrap ((pre.length : Int) + 1) = (pre.length : Int) + 1 := wrap64 (by omega) (by omega)
    have hx : x ∈ X := by rw [hp]; simp
    obtain ⟨m', h1, ih⟩ := ih (pre ++ [x]) (if m < x then x else m) (by simp [hp]) (by
      split
      · exact hx
      · exact hm)
    refine ⟨m', h1, ?_⟩
    simp at ih
    rw [r120_l0]
    simp [c120_l0b, hlt, hpl, gx, gx', hw, foldInt, ih]
theorem S120 (X : List Int) (hX : X.length < 1000000) (hx : X ≠ []) : ∃ m, m ∈ X ∧ fn P 120 [.slice (X.map ci)] = some (ci m) := by
  obtain ⟨x, r, rfl⟩ : ∃ x r, X = x :: r := by cases X; contradiction; exact ⟨_, _, rfl⟩
  obtain ⟨m, h1, h2⟩ := L120_0 (P := P) (x :: r) hX r [x] x rfl (by simp)
  refine ⟨m, h1, ?_⟩
  simp at h2
  have a1 : ¬ ((r.length : Int) + 1 < 1) := by omega
  rw [u120]
  simp [c120, a1, h2]
def TW (W : List Int) (n c k : Nat) : List LV := [.c (ci c), .ptr 0 0 0, .slice 2 1 0 n none none, .c (.slice (W.map ci)), .c (ci W.length), .c (ci k)]
theorem B48 (k : Nat) (W : List Int) (c : Nat) (hk : k < D.length) (hD : D.length ≤ 7) (hkw : k < W.length) (w : Nat) (hw : w < Q.length) (V : List Int) (hV : V.length = Q.length) (gw : W[k]? = some (w : Int)) (hof : isOf w (dAt D k) = true) (hb : IntKind.i64.wrap (rAt V w + 1) = rAt V w + 1) : execS P (limS P) c48_l0b ⟨TW W Q.length c k, [lgB N Q D 0, .dead, .cells 1 (cI V) 0]⟩ = some (.normal, ⟨TW W Q.length c (k + 1), [lgB N Q D 0, .dead, .cells 1 (cI (V.set w (rAt V w + 1))) 0]⟩) := by
  have gx : D[k]? = some (dAt D k) := by simp [dAt, List.getD_eq_getElem?_getD, List.getElem?_eq_getElem hk]
  have gx' := (List.getElem?_eq_some_iff.1 gx).2
  have gw' := (List.getElem?_eq_some_iff.1 gw).2
  have e119 := S119n (P := P) (dAt D k) w
  rw [hof] at e119
  have hki : (k : Int) < D.length := by omega
  have hkwi : (k : Int) < W.length := by omega
  have hwk : IntKind.i64.wrap ((k : Int) + 1) = (k : Int) + 1 := wrap64 (by omega) (by omega)
  have gV := rI_get (R := V) (c := w) (by omega)
  have gV' := (List.getElem?_eq_some_iff.1 gV).2
  have hVl := cI_length V
  have e3 := rI_set V w (rAt V w + 1)
  have hw1 : w + 1 ≤ Q.length := hw
  simp [encD] at e119
  simp [TW, c48_l0b, hk, hki, hkw, hkwi, gx, gx', gw, gw', lgB, encD, e119, hwk, gV, gV', hVl, hV, e3, hw, hw1, hb]
theorem L48_0 (hD : D.length ≤ 7) (W : List Int) (c : Nat) (hW : W.length = D.length) (hf : ∀ o, o < D.length → wAt W o = ((dAt D o).1 : Nat) ∨ wAt W o = ((dAt D o).2 : Nat)) (hQ : ∀ d ∈ D, d.1 < Q.length ∧ d.2 < Q.length) :
    ∀ (m k : Nat) (V : List Int), k + m = D.length → V.length = Q.length → (∀ j, 0 ≤ rAt V j ∧ rAt V j ≤ 99999 + k) →
    ∃ ws : List Nat, (∀ w ∈ ws, w < Q.length) ∧ iC ws = W.drop k ∧ execS P (limS P) c48_l0 ⟨TW W Q.length c k, [lgB N Q D 0, .dead, .cells 1 (cI V) 0]⟩ = some (.exit 0, ⟨[.c (ci c), .slice 2 1 0 Q.length none none], [lgB N Q D 0, .dead, .cells 1 (cI (addP ws V)) 0]⟩) := by
  intro m
  induction m with
  | zero =>
    intro k V hk hV _
    have hk' : k = W.length := by omega
    refine ⟨[], by simp, by simp [iC, hk'], ?_⟩
    rw [r48_l0]
    simp [TW, c48_l0b, hk', addP]
  | succ m ih =>
    intro k V hk hV hb
    have hkl : k < D.length := by omega
    have hkw : k < W.length := by omega
    have hfk := hf k hkl
    have hdm := hQ _ (dAt_mem hkl)
    obtain ⟨w, hw, hwq, hof⟩ : ∃ w : Nat, wAt W k = (w : Int) ∧ w < Q.length ∧ isOf w (dAt D k) = true := by
      rcases hfk with e | e
      · exact ⟨_, e, hdm.1, by simp [isOf]⟩
      · exact ⟨_, e, hdm.2, by simp [isOf]⟩
    have gw : W[k]? = some (w : Int) := by
      rw [List.getElem?_eq_getElem hkw, ← hw]
      simp [wAt, List.getD_eq_getElem?_getD, List.getElem?_eq_getElem hkw]
    have hbw := hb w
    obtain ⟨ws, i1, i2, i3⟩ := ih (k + 1) (V.set w (rAt V w + 1)) (by omega) (by simpa using hV) (fun j => by
      rw [rAt_set (by omega)]
      have := hb j
      split <;> omega)
    refine ⟨w :: ws, fun x hx => ?_, ?_, ?_⟩
    · rcases List.mem_cons.1 hx with rfl | hx
      · exact hwq
      · exact i1 x hx
    · have : iC (w :: ws) = (w : Int) :: iC ws := rfl
      rw [this, i2, List.drop_eq_getElem_cons hkw, (List.getElem?_eq_some_iff.1 gw).2]
    · rw [r48_l0, B48 k W c hkl hD hkw w hwq V hV gw hof (wrap64 (by omega) (by omega)), seqK_normal, addP]
      have hu := under_cI 3 (V.set w (rAt V w + 1))
      have hgc : gc 3 ⟨TW W Q.length c (k + 1), [lgB N Q D 0, .dead, .cells 1 (cI (V.set w (rAt V w + 1))) 0]⟩ = ⟨TW W Q.length c (k + 1), [lgB N Q D 0, .dead, .cells 1 (cI (V.set w (rAt V w + 1))) 0]⟩ := by
        simp [TW, lgB, hu]
      show execS P (limS P) c48_l0 (gc 3 _) = _
      rw [hgc]
      exact i3
theorem S48 (hg : GG N Q D) {c : Nat} (hc : c < N.length) {W : List Int} (hW : WinOK Q D c W) : fn P 48 [lgE N Q D, ci c, .slice (W.map ci)] = some (ci 0) := by
  have e1 := S113 (P := P) hg hc
  have hl := hW.len
  have hlp := hg.lp
  have hn5 := hg.n5
  have hne := hg.ne
  have hQne : Q ≠ [] := by rintro rfl; exact hne (List.eq_nil_of_length_eq_zero hlp.symm)
  have hcl := clone_ints Q (by omega) hQne
  have hsh := shift_cI
  have hDq : ∀ d ∈ D, d.1 < Q.length ∧ d.2 < Q.length := fun d hd => by have := hg.du d hd; omega
  obtain ⟨ws, w1, w2, w3⟩ := L48_0 (P := P) (N := N) hg.dl W c hl hW.fit hDq D.length 0 Q (by omega) rfl (fun j => by have := hg.at j; omega)
  have hiW : iC ws = W := by simpa using w2
  have hVl := addP_len ws Q
  have hbest : ∀ m ∈ addP ws Q, m ≤ rAt (addP ws Q) c := by
    intro m hm
    obtain ⟨j, hj, e⟩ := List.getElem_of_mem hm
    have hr : rAt (addP ws Q) j = m := by simp only [rAt, List.getD_eq_getElem?_getD, List.getElem?_eq_getElem hj, Option.getD_some, e]
    rw [← hr, addP_at ws Q w1, addP_at ws Q w1, hiW]
    exact hW.best j (by omega)
  have hVne : addP ws Q ≠ [] := fun e => by rw [e] at hVl; exact hQne (List.eq_nil_of_length_eq_zero hVl.symm)
  obtain ⟨m, m1, m2⟩ := S120 (P := P) (addP ws Q) (by omega) hVne
  have hmb := hbest m m1
  have hcq : c < (addP ws Q).length := by omega
  have gV := rI_get (R := addP ws Q) hcq
  have gV' := (List.getElem?_eq_some_iff.1 gV).2
  have hcl2 := cI_length (addP ws Q)
  have hcq2 : c < Q.length := by omega
  have hfz := fun X0 X1 => frz_own (b := 2) (g := 1) (fz := 0) (e := none) (ys := (addP ws Q).map ci) (h := [X0, X1, .cells 1 (cI (addP ws Q)) 0]) (len := Q.length) (by rw [cI_cells]; rfl) (intElems _) (by simp [hVl]) none
  simp [TW, lgB, hl] at w3
  simp [lgE] at e1
  simp at hfz
  rw [u48]
  generalize addP ws Q = V at *
  simp [c48, lgE, e1, whenE, firstE, hl, u118, hcl, LV.shift, shiftB, LB.shift, hsh, w3, hfz, m2, gV, gV', hcl2, hVl, hcq, hcq2, hmb]
end LM.GZ
namespace LM.GZ
open Go LM
variable {P : Nat → Option SFunc} [Has P]
variable {N : List Str} {Q : List Int} {D : List Du}
theorem L143 (v : Int) : ∀ (l pre : List Int), ((pre ++ l).length : Int) < 9223372036854775807 →
    ∃ i : Nat, execS P (limS P) c143_l0 ⟨[.c (.slice ((pre ++ l).map ci)), .c (ci v), .c (ci (pre ++ l).length), .c (ci pre.length)], []⟩ = if l.contains v = true then some (.ret, ⟨[.c (ci i)], []⟩) else some (.exit 0, ⟨[], []⟩) := by
  intro l
  induction l with
  | nil =>
    intro pre h
    refine ⟨0, ?_⟩
    rw [r143_l0]
    simp [c143_l0b]
  | cons x r ih =>
    intro pre h
    obtain ⟨i, ih⟩ := ih (pre ++ [x]) (by simpa using h)
    simp at ih h
    have hw : IntKind.i64.wrap (↑pre.length + 1) = ↑pre.length + 1 := wrap64 (by omega) (by omega)
    have hlt : (pre.length : Int) < pre.length + (r.length + 1) := by omega
    by_cases hx : v = x
    · refine ⟨pre.length, ?_⟩
      subst hx
      rw [r143_l0]
      simp [c143_l0b, hlt]
    · have hx' : ¬ x = v := fun e => hx e.symm
      refine ⟨i, ?_⟩
      rw [r143_l0]
      simp [c143_l0b, hlt, hw, hx, hx', ih]
theorem S74 (X : List Int) (v : Int) (h : (X.length : Int) < 9223372036854775807) : fn P 74 [.slice (X.map ci), ci v] = some (.bool (X.contains v)) := by
  obtain ⟨i, hL⟩ := L143 (P := P) v X [] (by simpa using h)
  simp at hL
  rw [u74]
  by_cases hv : v ∈ X
  · have e143 : fn P 143 [.slice (X.map ci), ci v] = some (ci i) := by
      rw [u143]
      simp [hv] at hL
      simp [c143, hL]
    have : (0 : Int) ≤ i := by omega
    simp [c74, e143, hv]
  · have e143 : fn P 143 [.slice (X.map ci), ci v] = some (ci (-1)) := by
      rw [u143]
      simp [hv] at hL
      simp [c143, hL]
    simp [c74, e143, hv]
theorem S74n (L : List Nat) (v : Nat) (h : L.length < 1000) : fn P 74 [.slice ((iC L).map ci), ci v] = some (.bool (L.contains v)) := by
  rw [S74 _ _ (by simp [iC]; omega)]
  congr 2
  rw [Bool.eq_iff_iff, List.contains_iff_mem, List.contains_iff_mem]
  simp only [iC, List.mem_map]
  constructor
  · rintro ⟨x, hx, e⟩
    have : x = v := by omega
    subst this
    exact hx
  · exact fun hv => ⟨v, hv, rfl⟩
theorem iC_get {L : List Nat} {k : Nat} {x : Nat} (h : L[k]? = some x) : (iC L)[k]? = some (x : Int) := by simp [iC, h]
theorem L116_0 (hg : GG N Q D) (c : Nat) (L : List Nat) (hl : L.length ≤ 100) : ∀ (r pre : List Nat) (s : Int), L = pre ++ r → (∀ x ∈ r, x < N.length) → 0 ≤ s → s ≤ 99999 * pre.length →
    execS P (limS P) c116_l0 ⟨[.c (ci c), .c (.slice ((iC L).map ci)), .ptr 0 0 0, .c (ci s), .c (.slice ((iC L).map ci)), .c (ci (iC L).length), .c (ci pre.length)], [lgB N Q D 0]⟩ = some (.exit 0, ⟨[.c (ci c), .c (.slice ((iC L).map ci)), .ptr 0 0 0, .c (ci (s + (r.map (rAt Q)).sum))], [lgB N Q D 0]⟩) := by
  have hil : (iC L).length = L.length := by simp [iC]
  intro r
  induction r with
  | nil =>
    intro pre s hp _ _ _
    have hp' : L = pre := by simpa using hp
    subst hp'
    rw [r116_l0]
    simp [c116_l0b, hil]
  | cons x r ih =>
    intro pre s hp hx h0 h1
    have hxn := hx x (by simp)
    have hlp := hg.lp
    have hxq : x < Q.length := by omega
    have hax := hg.at x
    have gx : L[pre.length]? = some x := by rw [hp]; simp
    have hpl : pre.length < L.length := (List.getElem?_eq_some_iff.1 gx).1
    have gi := iC_get gx
    obtain ⟨_, gi'⟩ := List.getElem?_eq_some_iff.1 gi
    have hlt : (pre.length : Int) < L.length := by omega
    have hw : IntKind.i64.wrap ((pre.length : Int) + 1) = (pre.length : Int) + 1 := wrap64 (by omega) (by omega)
    have hws : IntKind.i64.wrap (s + rAt Q x) = s + rAt Q x := wrap64 (by omega) (by omega)
    have gq : Q[x]? = some (rAt Q x) := by simp [rAt, List.getD_eq_getElem?_getD, hxq]
    have gq' : Q[x] = rAt Q x := by simp [rAt, List.getD_eq_getElem?_getD, hxq]
    have ih := ih (pre ++ [x]) (s + rAt Q x) (by simp [hp]) (fun y hy => hx y (by simp [hy])) (by omega) (by simp; omega)
    have e1 : s + rAt Q x + (r.map (rAt Q)).sum = s + ((x :: r).map (rAt Q)).sum := by simp [Int.add_assoc]
    rw [e1] at ih
    rw [r116_l0]
    generalize ((x :: r).map (rAt Q)).sum = S at *
    simp [lgB, hil] at ih ⊢
    simp [c116_l0b, lgB, hlt, hpl, hil, gi, gi', hw, hws, hxq, gq, gq', ih]
theorem L116_1 (hg : GG N Q D) (c : Nat) (L : List Nat) (hl : L.length ≤ 100) : ∀ (r pre : List Du) (s : Int), D = pre ++ r → 0 ≤ s → s ≤ 99999 * 1000 + pre.length →
    execS P (limS P) c116_l1 ⟨[.c (ci c), .c (.slice ((iC L).map ci)), .ptr 0 0 0, .c (ci s), .c (.slice (D.map encD)), .c (ci D.length), .c (ci pre.length)], [lgB N Q D 0]⟩ = some (.exit 2, ⟨[.c (ci c), .c (.slice ((iC L).map ci)), .ptr 0 0 0, .c (ci (s + (r.countP (inn L) : Nat)))], [lgB N Q D 0]⟩) := by
  have hil : (iC L).length = L.length := by simp [iC]
  have hdl := hg.dl
  intro r
  induction r with
  | nil =>
    intro pre s hp _ _
    have hp' : D = pre := by simpa using hp
    subst hp'
    rw [r116_l1]
    simp [c116_l1b]
  | cons x r ih =>
    intro pre s hp h0 h1
    have gx : D[pre.length]? = some x := by rw [hp]; simp
    have hpl : pre.length < D.length := (List.getElem?_eq_some_iff.1 gx).1
    obtain ⟨_, gx'⟩ := List.getElem?_eq_some_iff.1 gx
    have hlt : (pre.length : Int) < D.length := by omega
    have hw : IntKind.i64.wrap ((pre.length : Int) + 1) = (pre.length : Int) + 1 := wrap64 (by omega) (by omega)
    have hws : IntKind.i64.wrap (s + 1) = s + 1 := wrap64 (by omega) (by omega)
    have e1 := S74n (P := P) L x.1 (by omega)
    have e2 := S74n (P := P) L x.2 (by omega)
    have hi : inn L x = (L.contains x.1 && L.contains x.2) := rfl
    have hu : underL 1 (cellsOf ([] : List CV)) = true := rfl
    rw [r116_l1]
    rw [List.countP_cons]
    cases h3 : L.contains x.1
    · rw [h3] at e1 hi
      have ih := ih (pre ++ [x]) s (by simp [hp]) h0 (by simp; omega)
      simp [lgB] at ih ⊢
      rw [hi]
      simp [c116_l1b, lgB, hlt, hpl, gx, gx', encD, e1, hw, ih]
    · cases h4 : L.contains x.2
      · rw [h3] at e1
        rw [h4] at e2
        rw [h3, h4] at hi
        have ih := ih (pre ++ [x]) s (by simp [hp]) h0 (by simp; omega)
        simp [lgB] at ih ⊢
        rw [hi]
        simp [c116_l1b, lgB, hlt, hpl, gx, gx', encD, e1, e2, hw, ih]
      · rw [h3] at e1
        rw [h4] at e2
        rw [h3, h4] at hi
        have ih := ih (pre ++ [x]) (s + 1) (by simp [hp]) (by omega) (by simp; omega)
        have ea : s + 1 + ((r.countP (inn L) : Nat) : Int) = s + ((r.countP (inn L) + 1 : Nat) : Int) := by omega
        rw [ea] at ih
        rw [hi]
        simp [lgB] at ih ⊢
        simp [c116_l1b, lgB, hlt, hpl, gx, gx', encD, e1, e2, hw, hws, ih]
theorem sum_bound (hg : GG N Q D) : ∀ L : List Nat, 0 ≤ (L.map (rAt Q)).sum ∧ (L.map (rAt Q)).sum ≤ 99999 * L.length
  | [] => by simp
  | x :: L => by
    have := sum_bound hg L
    have := hg.at x
    simp only [List.map_cons, List.sum_cons, List.length_cons]
    omega
theorem S116 (hg : GG N Q D) {c : Nat} (hc : c < N.length) (L : List Nat) (hL : ∀ x ∈ L, x < N.length) (hl : L.length ≤ 100) : fn P 116 [lgE N Q D, ci c, .slice ((iC L).map ci)] = some (.bool (provesB Q D c L)) := by
  have k0 := L116_0 (P := P) hg c L hl L [] 0 rfl hL (by omega) (by simp)
  have hs := sum_bound hg L
  have k1 := L116_1 (P := P) hg c L hl D [] (sumP Q L) rfl (by unfold sumP; omega) (by unfold sumP; omega)
  have e1 := S172 (P := P) hg hc
  have hil : (iC L).length = L.length := by simp [iC]
  have hdl := hg.dl
  have hat := hg.at c
  have hcn : D.countP (isOf c) ≤ D.length := List.countP_le_length
  have ht : 0 ≤ topL Q D c ∧ topL Q D c ≤ 100006 := by unfold topL; omega
  have hm : 0 ≤ (L.length : Int) * topL Q D c := Int.mul_nonneg (by omega) ht.1
  have hm2 : (L.length : Int) * topL Q D c ≤ 100 * 100006 := Int.mul_le_mul (by omega) ht.2 ht.1 (by omega)
  have hw : IntKind.i64.wrap ((L.length : Int) * topL Q D c) = (L.length : Int) * topL Q D c := wrap64 (by omega) (by omega)
  have e0 : 0 + (L.map (rAt Q)).sum = sumP Q L := by rw [Int.zero_add]; rfl
  rw [e0] at k0
  simp [lgE] at e1
  simp [lgB, hil] at k0 k1
  rw [u116, provesB]
  generalize sumP Q L = S at *
  generalize (D.countP (inn L) : Int) = C at *
  simp [c116, lgE, hil, k0, k1, e1, hw]
end LM.GZ
namespace LM.GZ
open Go LM
variable {P : Nat → Option SFunc} [Has P]
variable {N : List Str} {Q : List Int} {D : List Du}
theorem L49_0 (hg : GG N Q D) (c : Nat) (L : List Nat) (hl : L.length ≤ 100) (hc : c ∉ L) (hs : L.Pairwise (· < ·)) (hL : ∀ x ∈ L, x < N.length) : ∀ (r pre : List Nat), L = pre ++ r →
    execS P (limS P) c49_l0 ⟨[.c (ci c), .c (.slice ((iC L).map ci)), .ptr 0 0 0, .c (.slice ((iC L).map ci)), .c (ci (iC L).length), .c (ci pre.length)], [lgB N Q D 0]⟩ = some (.exit 0, ⟨[.c (ci c), .c (.slice ((iC L).map ci)), .ptr 0 0 0], [lgB N Q D 0]⟩) := by
  have hil : (iC L).length = L.length := by simp [iC]
  intro r
  induction r with
  | nil =>
    intro pre hp
    have hp' : L = pre := by simpa using hp
    subst hp'
    rw [r49_l0]
    simp [c49_l0b, hil]
  | cons x r ih =>
    intro pre hp
    have hxm : x ∈ L := by rw [hp]; simp
    have hxn := hL x hxm
    have gx : L[pre.length]? = some x := by rw [hp]; simp
    have hpl : pre.length < L.length := (List.getElem?_eq_some_iff.1 gx).1
    have gi := iC_get gx
    obtain ⟨_, gi'⟩ := List.getElem?_eq_some_iff.1 gi
    have hlt : (pre.length : Int) < L.length := by omega
    have hw : IntKind.i64.wrap ((pre.length : Int) + 1) = (pre.length : Int) + 1 := wrap64 (by omega) (by omega)
    have e1 := S121n (P := P) (Q := Q) (D := D) hxn
    have hxc : ¬ (x : Int) = c := by
      intro e
      have : x = c := by omega
      subst this
      exact hc hxm
    have ih := ih (pre ++ [x]) (by simp [hp])
    simp [lgE] at e1
    simp [lgB, hil] at ih ⊢
    rw [r49_l0]
    rcases pre.eq_nil_or_concat with h0 | ⟨pr, y, h0⟩
    · subst h0
      simp at hlt hpl gi gi' hw ih
      simp [c49_l0b, lgB, hlt, hpl, hil, gi, gi', hw, e1, whenE, firstE, hxc, ih]
    · rw [List.concat_eq_append] at h0
      have gy : L[pr.length]? = some y := by rw [hp, h0]; simp
      have gj := iC_get gy
      obtain ⟨_, gj'⟩ := List.getElem?_eq_some_iff.1 gj
      have hyx : y < x := by
        rw [hp, h0, List.append_assoc, List.pairwise_append] at hs
        have := hs.2.1
        rw [List.singleton_append, List.pairwise_cons] at this
        exact this.1 x (by simp)
      have hxy : ¬ (x : Int) ≤ y := by omega
      have hpos : (0 : Int) < pre.length := by rw [h0]; simp
      have hpe : (pre.length : Int) - 1 = pr.length := by rw [h0]; simp
      have hprl0 : pr.length + 1 = pre.length := by rw [h0]; simp
      have hw1 : IntKind.i64.wrap ((pre.length : Int) - 1) = pr.length := by
        rw [hpe]
        exact wrap64 (by omega) (by omega)
      have hprl : pr.length < L.length := (List.getElem?_eq_some_iff.1 gy).1
      have hpri : (pr.length : Int) < L.length := by omega
      have hmax : (if 0 < pr.length then (pr.length : Int) else 0) = pr.length := by split <;> omega
      have hposn : 0 < pre.length := by omega
      clear h0
      simp [c49_l0b, lgB, hlt, hpl, hil, gi, gi', gj, gj', hw, hw1, hpos, hposn, hmax, hprl, hpri, e1, whenE, firstE, hxc, hxy, foldInt, ih]
theorem S49 (hg : GG N Q D) {c : Nat} (hc : c < N.length) (L : List Nat) (hl : L.length ≤ 100) (hcL : c ∉ L) (hs : L.Pairwise (· < ·)) (hL : ∀ x ∈ L, x < N.length) : fn P 49 [lgE N Q D, ci c, .slice ((iC L).map ci)] = some (ci (if L = [] then 12 else if provesB Q D c L = true then 0 else 21)) := by
  have hil : (iC L).length = L.length := by simp [iC]
  have e1 := S113 (P := P) hg hc
  have e2 := S116 (P := P) hg hc L hL hl
  have k0 := L49_0 (P := P) hg c L hl hcL hs hL L [] rfl
  simp [lgE] at e1 e2
  simp [lgB, hil] at k0
  rw [u49]
  by_cases h0 : L = []
  · subst h0
    simp [c49, lgE, e1, hil, whenE, firstE]
  · have h0' : ¬ L.length = 0 := fun e => h0 (List.eq_nil_of_length_eq_zero e)
    cases hp : provesB Q D c L
    · rw [hp] at e2
      simp [c49, lgE, e1, e2, k0, h0, h0', hil, whenE, firstE]
    · rw [hp] at e2
      simp [c49, lgE, e1, e2, k0, h0, h0', hil, whenE, firstE]
end LM.GZ
namespace LM.GZ
open Go LM
variable {P : Nat → Option SFunc} [Has P]
variable {N : List Str} {Q : List Int} {D : List Du}
def popK (k : Nat) : Nat := ((List.range 5).filter (bitB k)).length
theorem S175 : ∀ k : Nat, k < 32 → fn P 175 [.int .u64 k] = some (ci (popK k)) := by
  intro k hk
  rw [u175]
  rcases k with _|_|_|_|_|_|_|_|_|_|_|_|_|_|_|_|_|_|_|_|_|_|_|_|_|_|_|_|_|_|_|_|k
  all_goals first | (exfalso; omega) | (simp [c175, shiftInt]; decide +kernel)
theorem S115 (k : Nat) (hk : k < 32) : fn P 115 [.int .u64 k] = some (ci (popK k)) := by
  have e := S175 (P := P) k hk
  rw [u115]
  simp [c115, e]
theorem and1_all : (List.range 32).all (fun v => IntKind.i64.wrap ((v % 2 ^ IntKind.i64.bits &&& 1 % 2 ^ IntKind.i64.bits : Nat) : Int) == if v % 2 = 1 then 1 else 0) = true := by decide +kernel
theorem and1 {k c : Nat} (h : k < 32) : IntKind.i64.wrap ((k / 2 ^ c % 2 ^ IntKind.i64.bits &&& 1 % 2 ^ IntKind.i64.bits : Nat) : Int) = if bitB k c = true then 1 else 0 := by
  have := eq_of_beq (List.all_eq_true.1 and1_all (k / 2 ^ c) (List.mem_range.2 (Nat.lt_of_le_of_lt (Nat.div_le_self _ _) h)))
  simp only [bitB, decide_eq_true_eq]
  exact this
theorem shrI {v p : Nat} (hp : p < 64) : shiftInt .shr .i64 ((v : Nat) : Int) ((p : Nat) : Int) = some (.int .i64 ((v / 2 ^ p : Nat) : Int)) := by
  unfold shiftInt
  rw [if_neg (by omega)]
  have e1 : Nat.min (p : Int).toNat IntKind.i64.bits = p := by
    have : (p : Int).toNat = p := by omega
    rw [this]
    show Nat.min p 64 = p
    exact Nat.min_eq_left (by omega)
  simp only [e1]
  congr 2
  rw [Int.fdiv_eq_ediv_of_nonneg _ (by exact_mod_cast Nat.zero_le _)]
  norm_cast
theorem toU {k : Nat} (h : k < 32) : IntKind.u64.wrap (k : Int) = k := by
  have : ∀ k : Nat, k < 32 → IntKind.u64.wrap (k : Int) = k := by decide +kernel
  exact this k h
def TE (c n : Nat) (v : LV) (k : Nat) : List LV := [.c (ci c), .ptr 0 0 0, v, .c (ci (2 ^ n)), .c (ci k)]
def bestV (b g : Nat) (B : List Nat) : LV := if B = [] then .nil else .slice b g 0 B.length none none
theorem B47_skip (c k n : Nat) (hc : c < 5) (hn : n ≤ 5) (hk : k < 2 ^ n) (b g : Nat) (B : List Nat) (h : Heap) (hs : bitB k c = true ∨ popK k = 0 ∨ (B ≠ [] ∧ B.length < popK k)) : execS P (limS P) c47_l1b ⟨TE c n (bestV b g B) k, h⟩ = some (.normal, ⟨TE c n (bestV b g B) (k + 1), h⟩) := by
  have h32 : 2 ^ n ≤ 2 ^ 5 := Nat.pow_le_pow_right (by decide) hn
  have hk32 : k < 32 := by omega
  have hki : (k : Int) < 2 ^ n := by exact_mod_cast hk
  have hw : IntKind.i64.wrap ((k : Int) + 1) = (k : Int) + 1 := wrap64 (by omega) (by omega)
  have hu := toU hk32
  have e115 := S115 (P := P) k hk32
  have hsh := shrI (v := k) (p := c) (by omega)
  have ha := and1 (c := c) hk32
  generalize popK k = p at *
  generalize k / 2 ^ c = V at *
  cases hb : bitB k c
  · rw [hb] at ha hs
    simp at ha
    by_cases hp : p = 0
    · simp [TE, c47_l1b, hki, hw, hu, e115, hsh, ha, hp]
    · have hB : B ≠ [] ∧ B.length < p := by simpa [hp] using hs
      have hB0 : ¬ B.length = 0 := fun e => hB.1 (List.eq_nil_of_length_eq_zero e)
      have hBl := hB.2
      have hBi : (B.length : Int) < p := by omega
      simp [TE, bestV, c47_l1b, hki, hw, hu, e115, hsh, ha, hp, hB.1, hB0, hBl, hBi]
  · rw [hb] at ha
    simp at ha
    simp [TE, c47_l1b, hki, hw, hu, e115, hsh, ha]
theorem gc_full {ts : List LV} {h : Heap} {n : Nat} (hn : n = h.length) (hu : ∀ v ∈ ts, v.under n = true) : gc n ⟨ts, h⟩ = ⟨ts, h⟩ := by
  subst hn
  have hs : ∀ ts : List LV, (∀ v ∈ ts, v.under h.length = true) → scrub h.length ts = ts := by
    intro ts
    induction ts with
    | nil => intro _; rfl
    | cons v r ih =>
      intro hu
      rw [scrub, hu v (by simp), ih (fun w hw => hu w (by simp [hw]))]
      rfl
  unfold gc
  simp only [List.take_length, hs ts hu]
  split <;> rfl
def TN (c k p n nb : Nat) (v : LV) (Y : Int) (A : List Nat) (i : Nat) : List LV := [.c (ci c), .ptr 0 0 0, v, .c (ci k), .c (ci p), .slice nb (1 + A.length) 0 A.length none none, .c (ci Y), .c (ci k), .c (ci n), .c (ci i)]
theorem L47_0 (c k p n : Nat) (v : LV) (Y : Int) (h : Heap) (hv : v.under (h.length + 1) = true) (hk : k < 32) (hn : n ≤ 5) (h0 : 0 < h.length) : ∀ (m i : Nat) (A : List Nat), i + m = n → A.length ≤ i →
    execS P (limS P) c47_l0 ⟨TN c k p n h.length v Y A i, h ++ [.cells (1 + A.length) (cI (iC A)) 0]⟩ = some (.exit 2, ⟨[.c (ci c), .ptr 0 0 0, v, .c (ci p), .slice h.length (1 + (A ++ (List.range' i m).filter (bitB k)).length) 0 (A ++ (List.range' i m).filter (bitB k)).length none none, .c (ci Y), .c (ci k)], h ++ [.cells (1 + (A ++ (List.range' i m).filter (bitB k)).length) (cI (iC (A ++ (List.range' i m).filter (bitB k)))) 0]⟩) := by
  intro m
  induction m with
  | zero =>
    intro i A hi _
    have hi' : i = n := by omega
    rw [r47_l0]
    simp [TN, c47_l0b, hi']
  | succ m ih =>
    intro i A hi hA
    have hin : i < n := by omega
    have hii : (i : Int) < n := by omega
    have hw : IntKind.i64.wrap ((i : Int) + 1) = (i : Int) + 1 := wrap64 (by omega) (by omega)
    have hsh := shrI (v := k) (p := i) (by omega)
    have ha := and1 (c := i) hk
    have ek : ((i + 1 : Nat) : Int) = (i : Int) + 1 := by omega
    have und : ∀ A : List Nat, ∀ w ∈ TN c k p n h.length v Y A (i + 1), w.under (h.length + 1) = true := by
      intro A w hw
      simp only [TN, List.mem_cons, List.not_mem_nil, or_false] at hw
      rcases hw with rfl | rfl | rfl | rfl | rfl | rfl | rfl | rfl | rfl | rfl
      case inr.inr.inl => exact hv
      all_goals simp [LV.under] <;> omega
    rw [List.range'_succ, r47_l0]
    cases hb : bitB k i
    · rw [hb] at ha
      simp at ha
      have ih := ih (i + 1) A (by omega) (by omega)
      have hgc := gc_full (h := h ++ [.cells (1 + A.length) (cI (iC A)) 0]) (n := h.length + 1) (by simp) (und A)
      rw [List.filter_cons_of_neg (by simp [hb])]
      rw [← ih, ← hgc]
      generalize k / 2 ^ i = V at *
      simp [TN, c47_l0b, hin, hii, hw, hsh, ha, -gc]
    · rw [hb] at ha
      simp at ha
      have ih := ih (i + 1) (A ++ [i]) (by omega) (by simp; omega)
      have hgc := gc_full (h := h ++ [.cells (1 + (A ++ [i]).length) (cI (iC (A ++ [i]))) 0]) (n := h.length + 1) (by simp) (und (A ++ [i]))
      rw [List.filter_cons_of_pos (by simp [hb])]
      have e1 : A ++ i :: (List.range' (i + 1) m).filter (bitB k) = (A ++ [i]) ++ (List.range' (i + 1) m).filter (bitB k) := by simp
      have hap := append_own (b := h.length) (g := 1 + A.length) (bytes := 8) (e := none) (ys := (iC A).map ci) (xs := [ci i]) (h := h ++ [.cells (1 + A.length) (cellsOf ((iC A).map ci)) 0]) (len := A.length) (fz := 0) (by simp) (intElems _) (by simpa using ciElem _) (by simp [iC]) (Nat.zero_le _) (by simp) (by simp [iC]; omega) (by simp [iC]; omega)
      have e2 : (iC A).map ci ++ [ci i] = (iC (A ++ [i])).map ci := by simp [iC]
      rw [e2, cI_cells, cI_cells] at hap
      rw [e1, ← ih, ← hgc]
      generalize k / 2 ^ i = V at *
      have e3 : 1 + A.length + 1 = 1 + (A.length + 1) := by omega
      simp [e3] at hap
      simp [TN, c47_l0b, hin, hii, hw, hsh, ha, hap, e3, -gc]
end LM.GZ
namespace LM.GZ
open Go LM
variable {P : Nat → Option SFunc} [Has P]
variable {N : List Str} {Q : List Int} {D : List Du}
theorem pop_all : (List.range 6).all (fun n => (List.range (2 ^ n)).all fun k => popK k == (numsK n k).length) = true := by decide +kernel
theorem pop_eq {n k : Nat} (hn : n ≤ 5) (hk : k < 2 ^ n) : popK k = (numsK n k).length := eq_of_beq (List.all_eq_true.1 (List.all_eq_true.1 pop_all n (List.mem_range.2 (by omega))) k (List.mem_range.2 hk))
theorem B47_go (hg : GG N Q D) (F : List Nat → List Nat → Int) (hF : ∀ A B, A.length ≤ 5 → B.length < 1000 → fn P 117 [.slice ((iC A).map ci), .slice ((iC B).map ci)] = some (ci (F A B))) (c k : Nat) (hc : c < N.length) (hk : k < 2 ^ N.length) (b g : Nat) (B : List Nat) (h : Heap) (hz : h[0]? = some (lgB N Q D 0)) (hBl : B.length < 1000) (hB : B ≠ [] → h[b]? = some (.cells g (cI (iC B)) 0)) (hb : bitB k c = false) (hp : numsK N.length k ≠ []) (hBp : ¬ (B ≠ [] ∧ B.length < (numsK N.length k).length)) :
    execS P (limS P) c47_l1b ⟨TE c N.length (bestV b g B) k, h⟩ = some (.normal, ⟨TE c N.length (if (provesB Q D c (numsK N.length k) && (B.isEmpty || (decide ((numsK N.length k).length < B.length) || decide (F (numsK N.length k) B < 0)))) = true then .slice h.length (1 + (numsK N.length k).length) 0 (numsK N.length k).length none none else bestV b g B) (k + 1), h ++ [.cells (1 + (numsK N.length k).length) (cI (iC (numsK N.length k))) 0]⟩) := by
  have hn := hg.n5
  have h32 : 2 ^ N.length ≤ 2 ^ 5 := Nat.pow_le_pow_right (by decide) hn
  have hk32 : k < 32 := by omega
  have hki : (k : Int) < 2 ^ N.length := by exact_mod_cast hk
  have hw : IntKind.i64.wrap ((k : Int) + 1) = (k : Int) + 1 := wrap64 (by omega) (by omega)
  have hu := toU hk32
  have e115 := S115 (P := P) k hk32
  have hsh := shrI (v := k) (p := c) (by omega)
  have ha := and1 (c := c) hk32
  have z1 : ∀ X, (h ++ X)[0]? = some (lgB N Q D 0) := fun X => by rw [List.getElem?_append_left (lt_get hz)]; exact hz
  have z1' := fun X => (List.getElem?_eq_some_iff.1 (z1 X)).2
  have hl := lt_get hz
  have hpe := pop_eq hn hk
  rw [hpe] at e115
  have hnl : (numsK N.length k).length ≤ 5 := by
    have := List.length_filter_le (bitB k) (List.range N.length)
    simp at this
    unfold numsK
    omega
  have hnm : ∀ x ∈ numsK N.length k, x < N.length := fun x hx => List.mem_range.1 (List.mem_filter.1 hx).1
  have hv : (bestV b g B).under (h.length + 1) = true := by
    unfold bestV
    split
    · rfl
    · rename_i hne
      have := lt_get (hB hne)
      simp [LV.under]
      omega
  have k0 := L47_0 (P := P) c k (numsK N.length k).length N.length (bestV b g B) (2 ^ N.length) h hv hk32 hn hl N.length 0 [] (by omega) (by simp)
  have er : (List.range' 0 N.length).filter (bitB k) = numsK N.length k := by rw [← List.range_eq_range']; rfl
  have e1 := S116 (P := P) hg hc (numsK N.length k) hnm (by omega)
  have e2 := hF (numsK N.length k) B hnl hBl
  rw [er] at k0
  have hp0 : ¬ (numsK N.length k).length = 0 := fun e => hp (List.eq_nil_of_length_eq_zero e)
  generalize numsK N.length k = A at *
  simp only [TN, List.nil_append] at k0
  simp [iC] at k0
  rw [hb] at ha
  simp at ha
  have hc2 : cI [] = [] := rfl
  rw [hc2] at k0
  generalize k / 2 ^ c = V at *
  have hf1 := frz_own (b := h.length) (g := 1 + A.length) (fz := 0) (e := none) (ys := (iC A).map ci) (h := h ++ [.cells (1 + A.length) (cI (iC A)) 0]) (len := A.length) (by rw [cI_cells]; simp) (intElems _) (by simp [iC]) none
  simp [lgE] at e1
  have e3 : List.map (fun w : Nat => (w : Int)) A = iC A := rfl
  rw [e3] at k0
  by_cases hB0 : B = []
  · subst hB0
    simp only [bestV, if_true] at k0 ⊢
    cases hpr : provesB Q D c A
    · rw [hpr] at e1
      simp [TE, c47_l1b, hki, hw, hu, e115, hsh, ha, hp0, z1, z1', hl, lgB, k0, hf1, -frz_slice, e1]
    · rw [hpr] at e1
      simp [TE, c47_l1b, hki, hw, hu, e115, hsh, ha, hp0, z1, z1', hl, lgB, k0, hf1, -frz_slice, e1]
  · have hBl0 : ¬ B.length = 0 := fun e => hB0 (List.eq_nil_of_length_eq_zero e)
    have hBl1 : ¬ B.length < A.length := by simpa [hB0] using hBp
    have hBi : ¬ (B.length : Int) < A.length := by omega
    have hBe : B.isEmpty = false := by cases B; contradiction; rfl
    have gB := hB hB0
    have hbl := lt_get gB
    have hf2 := fun X fz => frz_own (b := b) (g := g) (fz := 0) (e := none) (ys := (iC B).map ci) (h := h ++ [.cells (1 + A.length) X fz]) (len := B.length) (by rw [cI_cells, List.getElem?_append_left hbl]; exact gB) (intElems _) (by simp [iC]) none
    simp only [bestV, if_neg hB0] at k0 ⊢
    cases hpr : provesB Q D c A
    · rw [hpr] at e1
      simp [TE, c47_l1b, hki, hw, hu, e115, hsh, ha, hp0, hBl0, hBl1, hBi, z1, z1', hl, lgB, k0, hf1, -frz_slice, e1]
    · rw [hpr] at e1
      by_cases hl1 : A.length < B.length
      · have hl2 : (A.length : Int) < B.length := by omega
        simp [TE, c47_l1b, hki, hw, hu, e115, hsh, ha, hp0, hBl0, hBl1, hBi, z1, z1', hl, lgB, k0, hf1, -frz_slice, e1, hBe, hl1, hl2]
      · have hl2 : ¬ (A.length : Int) < B.length := by omega
        by_cases hz0 : F A B < 0
        · simp [TE, c47_l1b, hki, hw, hu, e115, hsh, ha, hp0, hBl0, hBl1, hBi, z1, z1', hl, lgB, k0, hf1, hf2, -frz_slice, frzFuncs_nil, frzFuncs_c, frzFuncs_slice, e1, e2, hBe, hl1, hl2, hz0]
        · simp [TE, c47_l1b, hki, hw, hu, e115, hsh, ha, hp0, hBl0, hBl1, hBi, z1, z1', hl, lgB, k0, hf1, hf2, -frz_slice, frzFuncs_nil, frzFuncs_c, frzFuncs_slice, e1, e2, hBe, hl1, hl2, hz0]
end LM.GZ
namespace LM.GZ
open Go LM
variable {P : Nat → Option SFunc} [Has P]
variable {N : List Str} {Q : List Int} {D : List Du}
theorem L47_1 (hg : GG N Q D) (c : Nat) (hc : c < N.length) : ∀ (m k : Nat) (B : List Nat) (nb g : Nat) (h : Heap), k + m = 2 ^ N.length → h[0]? = some (lgB N Q D 0) → B.length ≤ 5 → (B ≠ [] → h[nb]? = some (.cells g (cI (iC B)) 0)) →
    ∃ (nb' g' : Nat) (h' : Heap), execS P (limS P) c47_l1 ⟨TE c N.length (bestV nb g B) k, h⟩ = some (.exit 0, ⟨[bestV nb' g' ((List.range' k m).foldl (stepE Q D c fun A B => decide (cmpL (iC A) (iC B) < 0)) B)], h'⟩) ∧ ((List.range' k m).foldl (stepE Q D c fun A B => decide (cmpL (iC A) (iC B) < 0)) B ≠ [] → h'[nb']? = some (.cells g' (cI (iC ((List.range' k m).foldl (stepE Q D c fun A B => decide (cmpL (iC A) (iC B) < 0)) B))) 0)) := by
  have hn5 := hg.n5
  have hlp := hg.lp
  intro m
  induction m with
  | zero =>
    intro k B nb g h hk _ _ hB
    refine ⟨nb, g, h, ?_, hB⟩
    have hke : (2 : Int) ^ N.length = k := by have : k = 2 ^ N.length := by omega
                                              rw [this]; norm_cast
    rw [r47_l1]
    simp [TE, c47_l1b, hke]
  | succ m ih =>
    intro k B nb g h hk hz hBl hB
    have hkl : k < 2 ^ N.length := by omega
    rw [List.range'_succ, List.foldl_cons]
    have h0 := lt_get hz
    have hnl : (numsK Q.length k).length ≤ 5 := by
      have := List.length_filter_le (bitB k) (List.range Q.length)
      simp at this
      unfold numsK
      omega
    by_cases hs : bitB k c = true ∨ (numsK Q.length k).length = 0 ∨ (B ≠ [] ∧ B.length < (numsK Q.length k).length)
    · have e1 : stepE Q D c (fun A B => decide (cmpL (iC A) (iC B) < 0)) B k = B := by
        unfold stepE
        rw [if_pos]
        rcases hs with h | h | ⟨h1, h2⟩
        · simp [h]
        · simp [h]
        · have : B.isEmpty = false := by cases B; contradiction; rfl
          simp [this, h2]
      rw [e1, r47_l1, B47_skip c k N.length (by omega) hn5 hkl nb g B h (by rw [pop_eq hn5 hkl, ← hlp]; exact hs), seqK_normal]
      exact ih (k + 1) B nb g h (by omega) hz hBl hB
    · simp only [not_or] at hs
      obtain ⟨s1, s2, s3⟩ := hs
      have hne : numsK Q.length k ≠ [] := fun e => s2 (by rw [e]; rfl)
      have e1 : stepE Q D c (fun A B => decide (cmpL (iC A) (iC B) < 0)) B k = if (provesB Q D c (numsK Q.length k) && (B.isEmpty || (decide ((numsK Q.length k).length < B.length) || decide (cmpL (iC (numsK Q.length k)) (iC B) < 0)))) = true then numsK Q.length k else B := by
        unfold stepE
        rw [if_neg]
        simp only [Bool.or_eq_true, not_or, Bool.not_eq_true, decide_eq_true_eq, Bool.and_eq_true, not_and, Bool.not_eq_true']
        refine ⟨by simpa using s1, s2, fun h1 => ?_⟩
        have : B ≠ [] := by rintro rfl; simp at h1
        exact fun h2 => s3 ⟨this, h2⟩
      have s3' : ¬ (B ≠ [] ∧ B.length < (numsK N.length k).length) := by rw [← hlp]; exact s3
      have hne' : numsK N.length k ≠ [] := by rw [← hlp]; exact hne
      have hstep := B47_go (P := P) hg (fun A B => cmpL (iC A) (iC B)) (fun A B h1 h2 => S117 _ _ (by simp [iC]; omega) (by simp [iC]; omega)) c k hc hkl nb g B h hz (by omega) hB (by simpa using s1) hne' s3'
      rw [← hlp] at hstep
      rw [e1, r47_l1]
      rw [← hlp] at ih hk ⊢
      rw [hstep, seqK_normal]
      generalize numsK Q.length k = A at *
      have hle : h.length ≤ (h ++ [LB.cells (1 + A.length) (cI (iC A)) 0]).length := by simp
      cases hcc : (provesB Q D c A && (B.isEmpty || (decide (A.length < B.length) || decide (cmpL (iC A) (iC B) < 0))))
      · simp only [Bool.false_eq_true, if_false]
        exact ih (k + 1) B nb g _ (by omega) (by rw [List.getElem?_append_left h0]; exact hz) hBl (fun hne => by rw [List.getElem?_append_left (lt_get (hB hne))]; exact hB hne)
      · simp only [if_true]
        have hAne : A ≠ [] := hne
        have hbv : LV.slice h.length (1 + A.length) 0 A.length none none = bestV h.length (1 + A.length) A := by unfold bestV; rw [if_neg hAne]
        rw [hbv]
        exact ih (k + 1) A h.length (1 + A.length) _ (by omega) (by rw [List.getElem?_append_left h0]; exact hz) (by omega) (fun _ => by simp)
end LM.GZ
namespace LM.GZ
open Go LM
variable {P : Nat → Option SFunc} [Has P]
variable {N : List Str} {Q : List Int} {D : List Du}
def cmpE (A B : List Nat) : Bool := decide (cmpL (iC A) (iC B) < 0)
theorem shl_all : (List.range 6).all (fun p => match shiftInt .shl .i64 1 ((p : Nat) : Int) with | some (.int .i64 v) => v == ((2 ^ p : Nat) : Int) | _ => false) = true := by decide +kernel
theorem shl1 {p : Nat} (hp : p < 6) : shiftInt .shl .i64 1 (p : Int) = some (.int .i64 ((2 ^ p : Nat) : Int)) := by
  have := List.all_eq_true.1 shl_all p (List.mem_range.2 hp)
  split at this
  · rename_i v e
    rw [e, eq_of_beq this]
  · cases this
theorem S47 (hg : GG N Q D) {c : Nat} (hc : c < N.length) : fn P 47 [lgE N Q D, ci c] = some (.tuple [.slice ((iC (elimL Q D c cmpE)).map ci), ci (if elimL Q D c cmpE = [] then 7 else 0)]) := by
  have e1 := S113 (P := P) hg hc
  have hn5 := hg.n5
  have hlp := hg.lp
  have h8 : ¬ (8 : Int) < N.length := by omega
  have hsh := shl1 (p := N.length) (by omega)
  obtain ⟨nb, g, h', k1, k2⟩ := L47_1 (P := P) hg c hc (2 ^ N.length) 0 [] 0 0 [lgB N Q D 0, .cells 1 [] 0, .dead] (by omega) rfl (by simp) (fun h => absurd rfl h)
  have er : (List.range' 0 (2 ^ N.length)).foldl (stepE Q D c fun A B => decide (cmpL (iC A) (iC B) < 0)) [] = elimL Q D c cmpE := by
    unfold elimL
    rw [← List.range_eq_range', hlp]
    rfl
  rw [er] at k1 k2
  simp [lgE] at e1
  have hb0 : bestV 0 0 [] = .nil := rfl
  simp only [TE, hb0, lgB] at k1
  rw [u47]
  generalize elimL Q D c cmpE = E at *
  by_cases hE : E = []
  · subst hE
    have hb1 : bestV nb g [] = .nil := rfl
    rw [hb1] at k1
    simp at k1
    simp [c47, lgE, e1, h8, whenE, firstE, hsh, k1]
    rfl
  · have hE0 : ¬ E.length = 0 := fun e => hE (List.eq_nil_of_length_eq_zero e)
    have hb1 : bestV nb g E = .slice nb g 0 E.length none none := by unfold bestV; rw [if_neg hE]
    rw [hb1] at k1
    simp at k1
    have hr := resV_own (b := nb) (g := g) (fz := 0) (e := none) (ys := (iC E).map ci) (h := h') (len := E.length) (by rw [cI_cells]; exact k2 hE) (intElems _) (by simp [iC]) none (ci 0)
    simp [c47, lgE, e1, h8, whenE, firstE, hsh, k1, hE, hE0, hr]
end LM.GZ
namespace LM.GZ
open Go LM
variable {P : Nat → Option SFunc} [Has P] [HasP P]
theorem lg_good {l : Lg} (h : LgG l) (h5 : l.names.length ≤ 5) (h7 : l.duels.length ≤ 7) (hso : ∀ s ∈ l.names, s.length < 9223372036854775807) : ∃ D : List Du, l.enc = lgE l.names l.pts D ∧ l.duels.map encI = D.map encD ∧ D.length = l.duels.length ∧ GG l.names l.pts D := by
  have e : (l.duels.map fun d => (d.1.toNat, d.2.toNat)).map encD = l.duels.map encI := by
    rw [List.map_map]
    refine List.map_congr_left fun d hd => ?_
    have := h.du d hd
    simp only [Function.comp, encD, encI]
    rw [Int.toNat_of_nonneg this.1, Int.toNat_of_nonneg this.2.2.1]
  refine ⟨l.duels.map fun d => (d.1.toNat, d.2.toNat), ?_, e.symm, by simp, h.ne, h5, h.nm, hso, h.lp, h.pr, by simpa using h7, fun d hd => ?_⟩
  · rw [lgE, e]; rfl
  · obtain ⟨x, hx, rfl⟩ := List.mem_map.1 hd
    have := h.du x hx
    omega
variable {N : List Str} {Q : List Int} {D : List Du}
theorem app0 (X : List Int) (h : Heap) (hX : X ≠ []) (hl : X.length < 1000) : appendOp none none 8 (.slice h.length 1 0 0 none (some 0)) (.c (.slice (X.map ci))) (h ++ [.cells 1 [] 0]) = some (.slice (h.length + 1) 1 0 X.length none none, h ++ [.cells 1 [] 0, .cells 1 (cI X) 0]) := by
  have h1 : sliceCells none (h ++ [LB.cells 1 [] 0]) (.c (.slice (X.map ci))) = some ((X.map ci).length, cellsOf (X.map ci)) := rfl
  have h2 := cellsOf_length (intElems X)
  have hn : (X.map ci).length ≠ 0 := by simpa using hX
  have hz : szOf none = 1 := rfl
  simp only [appendOp, h1, flatAll_cellsOf (intElems X)]
  rw [if_neg (by simp), if_neg (by rw [h2]; simp)]
  simp [cI_cells, newId, newAt, hz, ok, hX]
  omega
def T1 (D : List Du) (c k pb n y : Nat) (can : Bool) (i : Nat) : List LV := [.c (ci c), .ptr 0 0 0, .ptr 1 0 0, .c (.bool can), .c (ci k), .slice pb 1 0 n none none, .c (ci (2 ^ y)), .c (ci k), .c (.slice (D.map encD)), .c (ci D.length), .c (ci i)]
theorem and1' {k c : Nat} (h : k < 128) : IntKind.i64.wrap (((((k : Nat) : Int) / 2 ^ c % 2 ^ IntKind.i64.bits).toNat &&& 1 % 2 ^ IntKind.i64.bits : Nat) : Int) = if bitB k c = true then 1 else 0 := by
  have key : ∀ v : Nat, v < 128 → IntKind.i64.wrap ((((v : Int) % 2 ^ IntKind.i64.bits).toNat &&& 1 % 2 ^ IntKind.i64.bits : Nat) : Int) = if v % 2 = 1 then 1 else 0 := by decide +kernel
  have := key (k / 2 ^ c) (Nat.lt_of_le_of_lt (Nat.div_le_self _ _) h)
  have e : (((k / 2 ^ c : Nat)) : Int) = (k : Int) / 2 ^ c := by norm_cast
  rw [e] at this
  simp only [bitB, decide_eq_true_eq]
  exact this
theorem B7_1 (c k i pb y : Nat) (can : Bool) (h : Heap) (V : List Int) (hz : h[0]? = some (lgB N Q D 0)) (hk : k < 128) (hi : i < D.length) (hD : D.length ≤ 7) (w : Nat) (hwe : w = if bitB k i = true then (dAt D i).1 else (dAt D i).2) (hw : w < V.length) (hp : h[pb]? = some (.cells 1 (cI V) 0)) (hww : IntKind.i64.wrap (rAt V w + 1) = rAt V w + 1) :
    execS P (limS P) c7_l1b ⟨T1 D c k pb V.length y can i, h⟩ = some (.normal, ⟨T1 D c k pb V.length y can (i + 1), h.set pb (.cells 1 (cI (V.set w (rAt V w + 1))) 0) ++ [.cells 0 [.c (ci (dAt D i).1), .c (ci (dAt D i).2)] 0]⟩) := by
  have gd : D[i]? = some (dAt D i) := by simp [dAt, List.getD_eq_getElem?_getD, List.getElem?_eq_getElem hi]
  have hii : (i : Int) < D.length := by omega
  have hwi : IntKind.i64.wrap ((i : Int) + 1) = (i : Int) + 1 := wrap64 (by omega) (by omega)
  have gd' := (List.getElem?_eq_some_iff.1 gd).2
  have hsh := shrI (v := k) (p := i) (by omega)
  have ha := and1' (c := i) hk
  have p1 : ∀ X, (h ++ X)[pb]? = some (.cells 1 (cI V) 0) := fun X => by rw [List.getElem?_append_left (lt_get hp)]; exact hp
  have p1' := fun X => (List.getElem?_eq_some_iff.1 (p1 X)).2
  have hpl := lt_get hp
  have hpl1 : pb < h.length + 1 := by omega
  have e4 : ∀ X Y : LB, (h ++ [X]).set pb Y = h.set pb Y ++ [X] := fun X Y => List.set_append_left _ _ hpl
  have gV := rI_get (R := V) hw
  have gV' := (List.getElem?_eq_some_iff.1 gV).2
  have hVl := cI_length V
  have e3 := rI_set V w (rAt V w + 1)
  have hw1 : w + 1 ≤ V.length := hw
  cases hb : bitB k i
  · rw [hb] at ha hwe
    simp at ha hwe
    subst hwe
    simp [T1, c7_l1b, hi, hii, hwi, gd, gd', encD, hsh, ha, p1, p1', hpl, hpl1, e4, gV, gV', hVl, e3, hw, hw1, hww]
  · rw [hb] at ha hwe
    simp at ha hwe
    subst hwe
    simp [T1, c7_l1b, hi, hii, hwi, gd, gd', encD, hsh, ha, p1, p1', hpl, hpl1, e4, gV, gV', hVl, e3, hw, hw1, hww]
theorem L7_1 (hg : GG N Q D) (X : Heap) (hX : X[0]? = some (lgB N Q D 0)) (hX2 : 2 ≤ X.length) (c k pb y : Nat) (hpb : X.length ≤ pb) (hk : k < 128) (can : Bool) : ∀ (r pre : List Du) (V : List Int) (h : Heap), D = pre ++ r → V.length = Q.length → (∀ j, 0 ≤ rAt V j ∧ rAt V j ≤ 99999 + pre.length) → h[pb]? = some (.cells 1 (cI V) 0) → Same X.length X h →
    ∃ h', execS P (limS P) c7_l1 ⟨T1 D c k pb Q.length y can pre.length, h⟩ = some (.exit 4, ⟨[.c (ci c), .ptr 0 0 0, .ptr 1 0 0, .c (.bool can), .slice pb 1 0 Q.length none none, .c (ci (2 ^ y)), .c (ci k)], h'⟩) ∧ h'[pb]? = some (.cells 1 (cI (addP (winK r pre.length k) V)) 0) ∧ Same X.length X h' := by
  have hdl := hg.dl
  have hlp := hg.lp
  have hX0 := lt_get hX
  intro r
  induction r with
  | nil =>
    intro pre V h hp hV hb hpp hs
    have hp' : D = pre := by simpa using hp
    subst hp'
    refine ⟨h, ?_, hpp, hs⟩
    rw [r7_l1]
    simp [T1, c7_l1b]
  | cons d r ih =>
    intro pre V h hp hV hb hpp hs
    have hpl : pre.length < D.length := by rw [hp]; simp
    have hde : dAt D pre.length = d := by rw [hp]; simp [dAt, List.getD_eq_getElem?_getD]
    have hdm := hg.du _ (dAt_mem hpl)
    rw [hde] at hdm
    have hz : h[0]? = some (lgB N Q D 0) := (hs.2 0 hX0).trans hX
    have hwl : (if bitB k pre.length = true then d.1 else d.2) < V.length := by split <;> omega
    have hbw := hb (if bitB k pre.length = true then d.1 else d.2)
    have hst := B7_1 (P := P) c k pre.length pb y can h V hz hk hpl hdl _ rfl (by rw [hde]; exact hwl) hpp (by rw [hde]; exact wrap64 (by omega) (by omega))
    rw [hde] at hst
    rw [winK, addP]
    generalize (if bitB k pre.length = true then d.1 else d.2) = w at *
    have hpbl := lt_get hpp
    have und : ∀ v ∈ T1 D c k pb V.length y can (pre.length + 1), v.under h.length = true := by
      intro v hv
      have := hs.1
      simp only [T1, List.mem_cons, List.not_mem_nil, or_false] at hv
      rcases hv with rfl | rfl | rfl | rfl | rfl | rfl | rfl | rfl | rfl | rfl | rfl <;> simp [LV.under] <;> omega
    obtain ⟨hg', hg1, hg2⟩ := gc_any (n := h.length) (ts := T1 D c k pb V.length y can (pre.length + 1)) (h := h.set pb (.cells 1 (cI (V.set w (rAt V w + 1))) 0) ++ [.cells 0 [.c (ci d.1), .c (ci d.2)] 0]) (by simp) und
    have hpg : hg'[pb]? = some (.cells 1 (cI (V.set w (rAt V w + 1))) 0) := by
      rw [hg2.2 pb hpbl, List.getElem?_append_left (by simpa using hpbl), List.getElem?_set_self hpbl]
    have hsg : Same X.length X hg' := ⟨by have := hg2.1; have := hs.1; omega, fun i hi => by
      have := hs.1
      rw [hg2.2 i (by omega), List.getElem?_append_left (by simp; omega), List.getElem?_set_ne (by omega)]
      exact hs.2 i hi⟩
    obtain ⟨h', i1, i2, i3⟩ := ih (pre ++ [d]) (V.set w (rAt V w + 1)) hg' (by simp [hp]) (by simpa using hV) (fun j => by
      rw [rAt_set hwl]
      have := hb j
      simp
      split <;> omega) hpg hsg
    have e1 : (pre ++ [d]).length = pre.length + 1 := by simp
    rw [e1] at i1 i2
    refine ⟨h', ?_, i2, i3⟩
    rw [r7_l1]
    rw [hV] at hst hg1
    rw [hst, seqK_normal]
    show execS P (limS P) c7_l1 (gc h.length _) = _
    rw [hg1]
    exact i1
def T2 (c n pb y k : Nat) (can best : Bool) (i : Nat) : List LV := [.c (ci c), .ptr 0 0 0, .ptr 1 0 0, .c (.bool can), .slice pb 1 0 n none none, .c (.bool best), .c (ci (2 ^ y)), .c (ci k), .slice pb 1 0 n none none, .c (ci n), .c (ci i)]
theorem L7_2 (c pb y k : Nat) (can : Bool) (V : List Int) (h : Heap) (hl : V.length < 1000) (hc : c < V.length) (hp : h[pb]? = some (.cells 1 (cI V) 0)) (h2 : 2 ≤ h.length) : ∀ (r pre : List Int) (best : Bool), V = pre ++ r →
    execS P (limS P) c7_l2 ⟨T2 c V.length pb y k can best pre.length, h⟩ = some (.exit 6, ⟨[.c (ci c), .ptr 0 0 0, .ptr 1 0 0, .c (.bool can), .c (.bool (best && r.all fun p => decide (p ≤ rAt V c))), .c (ci (2 ^ y)), .c (ci k)], h⟩) := by
  have hpl := lt_get hp
  have p1' := (List.getElem?_eq_some_iff.1 hp).2
  have hVl := cI_length V
  have gC := rI_get (R := V) hc
  have gC' := (List.getElem?_eq_some_iff.1 gC).2
  intro r
  induction r with
  | nil =>
    intro pre best hpr
    have hp' : V = pre := by simpa using hpr
    subst hp'
    rw [r7_l2]
    simp [T2, c7_l2b]
  | cons p r ih =>
    intro pre best hpr
    have hil : pre.length < V.length := by rw [hpr]; simp
    have hii : (pre.length : Int) < V.length := by omega
    have hw : IntKind.i64.wrap ((pre.length : Int) + 1) = (pre.length : Int) + 1 := wrap64 (by omega) (by omega)
    have gx := rI_get (R := V) hil
    have hx : rAt V pre.length = p := by rw [hpr]; simp [rAt, List.getD_eq_getElem?_getD]
    rw [hx] at gx
    have gx' := (List.getElem?_eq_some_iff.1 gx).2
    have ih := ih (pre ++ [p]) (best && decide (p ≤ rAt V c)) (by simp [hpr])
    have e1 : (pre ++ [p]).length = pre.length + 1 := by simp
    rw [e1] at ih
    have und : ∀ v ∈ T2 c V.length pb y k can (best && decide (p ≤ rAt V c)) (pre.length + 1), v.under h.length = true := by
      intro v hv
      simp only [T2, List.mem_cons, List.not_mem_nil, or_false] at hv
      rcases hv with rfl | rfl | rfl | rfl | rfl | rfl | rfl | rfl | rfl | rfl | rfl <;> simp [LV.under] <;> omega
    have hgc := gc_full (h := h) rfl und
    have e2 : (best && (p :: r).all fun p => decide (p ≤ rAt V c)) = ((best && decide (p ≤ rAt V c)) && r.all fun p => decide (p ≤ rAt V c)) := by simp [Bool.and_assoc]
    rw [e2, ← ih, ← hgc, r7_l2]
    cases best
    · simp [T2, c7_l2b, hil, hii, hw, hp, hpl, p1', hVl, gx, gx', -gc]
    · by_cases h1 : p ≤ rAt V c
      · simp [T2, c7_l2b, hil, hii, hw, hp, hpl, p1', hVl, gx, gx', gC, gC', hc, h1, -gc]
      · simp [T2, c7_l2b, hil, hii, hw, hp, hpl, p1', hVl, gx, gx', gC, gC', hc, h1, -gc]
def T3 (c : Nat) (can : Bool) (y k : Nat) : List LV := [.c (ci c), .ptr 0 0 0, .ptr 1 0 0, .c (.bool can), .c (ci (2 ^ y)), .c (ci k)]
theorem L7_3 (hg : GG N Q D) (X : Heap) (hX : X[0]? = some (lgB N Q D 0)) (hX2 : 2 ≤ X.length) (c : Nat) (hc : c < N.length) : ∀ (m k : Nat) (can : Bool) (h : Heap), k + m = 2 ^ D.length → Same X.length X h →
    ∃ h', execS P (limS P) c7_l3 ⟨T3 c can D.length k, h⟩ = some (.exit 2, ⟨[.c (ci c), .ptr 1 0 0, .c (.bool (can || (List.range' k m).any fun k => bestB c (addP (winK D 0 k) Q)))], h'⟩) ∧ Same X.length X h' := by
  have hdl := hg.dl
  have hlp := hg.lp
  have hn5 := hg.n5
  have hne := hg.ne
  have hQ : Q ≠ [] := by rintro rfl; exact hne (List.eq_nil_of_length_eq_zero hlp.symm)
  have h27 : 2 ^ D.length ≤ 2 ^ 7 := Nat.pow_le_pow_right (by decide) hdl
  have hX0 := lt_get hX
  intro m
  induction m with
  | zero =>
    intro k can h hk hs
    refine ⟨h, ?_, hs⟩
    have hke : (2 : Int) ^ D.length = k := by
      have : k = 2 ^ D.length := by omega
      rw [this]; norm_cast
    rw [r7_l3]
    simp [T3, c7_l3b, hke]
  | succ m ih =>
    intro k can h hk hs
    have hkl : k < 2 ^ D.length := by omega
    have hki : (k : Int) < 2 ^ D.length := by exact_mod_cast hkl
    have hw : IntKind.i64.wrap ((k : Int) + 1) = (k : Int) + 1 := wrap64 (by omega) (by omega)
    have hz : h[0]? = some (lgB N Q D 0) := (hs.2 0 hX0).trans hX
    have z1 : ∀ X, (h ++ X)[0]? = some (lgB N Q D 0) := fun X => by rw [List.getElem?_append_left (lt_get hz)]; exact hz
    have z1' := fun X => (List.getElem?_eq_some_iff.1 (z1 X)).2
    have z0' := (List.getElem?_eq_some_iff.1 hz).2
    have hl := lt_get hz
    have hap := app0 Q h hQ (by omega)
    have hhl := hs.1
    obtain ⟨h1, k1, k2, k3⟩ := L7_1 (P := P) hg X hX hX2 c k (h.length + 1) D.length (by omega) (by omega) can D [] Q (h ++ [.cells 1 [] 0, .cells 1 (cI Q) 0]) rfl rfl (fun j => by have := hg.at j; simp; omega) (by rw [List.getElem?_append_right (by omega)]; simp) (hs.app _)
    have hVl := addP_len (winK D ([] : List Du).length k) Q
    have kk := k3.1
    have k4 := L7_2 (P := P) c (h.length + 1) D.length k can (addP (winK D ([] : List Du).length k) Q) h1 (by omega) (by omega) k2 (by omega) (addP (winK D ([] : List Du).length k) Q) [] true rfl
    have e0 : ([] : List Du).length = 0 := rfl
    have hbd : bestB c (addP (winK D 0 k) Q) = (addP (winK D 0 k) Q).all fun p => decide (p ≤ rAt (addP (winK D 0 k) Q) c) := rfl
    rw [e0] at hVl k4
    rw [hVl] at k4
    rw [Bool.true_and, ← hbd] at k4
    have kp1 := (List.getElem?_eq_some_iff.1 k2).2
    have kpl := lt_get k2
    have e2 : (can || (List.range' k (m + 1)).any fun k => bestB c (addP (winK D 0 k) Q)) = ((can || bestB c (addP (winK D 0 k) Q)) || (List.range' (k + 1) m).any fun k => bestB c (addP (winK D 0 k) Q)) := by rw [List.range'_succ, List.any_cons, Bool.or_assoc]
    rw [e2]
    generalize bestB c (addP (winK D 0 k) Q) = bst at *
    obtain ⟨hg', hg1, hg2⟩ := gc_any (n := h.length) (ts := T3 c (can || bst) D.length (k + 1)) (h := h1) (by omega) (by
      intro v hv
      simp only [T3, List.mem_cons, List.not_mem_nil, or_false] at hv
      rcases hv with rfl | rfl | rfl | rfl | rfl | rfl <;> simp [LV.under] <;> omega)
    obtain ⟨h', i1, i2⟩ := ih (k + 1) (can || bst) hg' (by omega) ⟨by have := hg2.1; omega, fun i hi => by rw [hg2.2 i (by omega)]; exact k3.2 i hi⟩
    refine ⟨h', ?_, i2⟩
    rw [← i1, ← hg1, r7_l3]
    simp only [T1, T2] at k1 k4
    simp at k1 k4
    cases can
    · simp [T3, c7_l3b, hki, hw, z1, z1', hz, z0', hl, lgB, hap, k1, k4, -gc]
    · simp [T3, c7_l3b, hki, hw, z1, z1', hz, z0', hl, lgB, hap, k1, k4, -gc]
end LM.GZ
namespace LM.GZ
open Go LM
variable {P : Nat → Option SFunc} [Has P] [HasP P]
variable {N : List Str} {Q : List Int} {D : List Du}
def dV (D : List Du) : LV := if D = [] then .nil else .slice 3 D.length 0 D.length (some 2) none
theorem dV_c (D : List Du) : allC [dV D] = none := by unfold dV; split <;> rfl
structure OwnH (N : List Str) (Q : List Int) (D : List Du) (h : Heap) : Prop where
  own : h[1]? = some (.cells 0 [.c (.slice (N.map CV.str)), .c (.slice (Q.map ci)), dV D] 0)
  row : D ≠ [] → ∃ fz, h[3]? = some (.cells D.length (cellsOf (D.map encD)) fz)
theorem encElems (D : List Du) : ∀ x ∈ D.map encD, Elem (some 2) x := by
  intro x hx
  obtain ⟨d, _, rfl⟩ := List.mem_map.1 hx
  exact ⟨_, rfl, rfl, by simp [CV.flat]⟩
abbrev ownA (N : List Str) (Q : List Int) (D : List Du) : LV := .agg [.c (.slice (N.map CV.str)), .c (.slice (Q.map ci)), dV D]
theorem OwnH.app {h : Heap} (H : OwnH N Q D h) (X : Heap) : OwnH N Q D (h ++ X) :=
  ⟨by rw [List.getElem?_append_left (lt_get H.own)]; exact H.own, fun hD => by obtain ⟨fz, e⟩ := H.row hD; exact ⟨fz, by rw [List.getElem?_append_left (lt_get e)]; exact e⟩⟩
theorem OwnH.frz {h : Heap} (H0 : OwnH N Q D h) (X : Heap) : ∃ h', frz frzDepth (.agg [.c (.slice (N.map CV.str)), .c (.slice (Q.map ci)), dV D]) (h ++ X) = some (lgE N Q D, h') ∧ OwnH N Q D h' ∧ ∀ i, h.length ≤ i → h'[i]? = (h ++ X)[i]? := by
  have H := H0.app X
  rw [frz_agg]
  by_cases hD : D = []
  · subst hD
    refine ⟨h ++ X, ?_, H, fun _ _ => rfl⟩
    simp [dV, lgE, frz_39_nil]
  · obtain ⟨fz0, hr0⟩ := H0.row hD
    have h3 := lt_get hr0
    obtain ⟨fz, hr⟩ := H.row hD
    have h1 := frz_own39 (b := 3) (g := D.length) (fz := fz) (e := some 2) (ys := D.map encD) (h := h ++ X) (len := D.length) hr (encElems D) (by simp) none
    have e : dV D = .slice 3 D.length 0 D.length (some 2) none := by unfold dV; rw [if_neg hD]
    refine ⟨LM.bump 3 (D.length * szOf (some 2)) (h ++ X), ?_, ?_⟩
    · rw [e]
      simp [mapH_cons, h1, lgE, -frz_39_slice, -bump]
    · have e2 : LM.bump 3 (D.length * szOf (some 2)) (h ++ X) = (h ++ X).set 3 (.cells D.length (cellsOf (D.map encD)) (Nat.max fz (D.length * szOf (some 2)))) := by unfold LM.bump; rw [hr]
      rw [e2]
      refine ⟨⟨by rw [List.getElem?_set_ne (by decide)]; exact H.own, fun _ => ⟨_, by rw [List.getElem?_set_self (lt_get hr)]⟩⟩, fun i hi => by rw [List.getElem?_set_ne (by omega)]⟩
theorem apA (h : Heap) (p : Option Nat) (X : Heap) : appendOp p none 8 (.slice h.length 1 0 0 none (some 0)) (.c (.slice [])) (h ++ .cells 1 [] 0 :: X) = some (.slice h.length 1 0 0 none (some 0), h ++ .cells 1 [] 0 :: X) := by
  simp [appendOp, sliceCells, ok]
theorem apB (h : Heap) (Xs : List Int) (hx : Xs ≠ []) (hl : Xs.length < 1000) : appendOp (some (h.length + 1)) none 8 (.slice h.length 1 0 0 none (some 0)) (.c (.slice (Xs.map ci))) (h ++ [.cells 1 [] 0, .dead, .dead]) = some (.slice (h.length + 1) 1 0 Xs.length none none, h ++ [.cells 1 [] 0, .cells 1 (cI Xs) 0, .dead]) := by
  have h1 : ∀ H : Heap, sliceCells none H (.c (.slice (Xs.map ci))) = some ((Xs.map ci).length, cellsOf (Xs.map ci)) := fun _ => rfl
  have h2 := cellsOf_length (intElems Xs)
  have hz : szOf none = 1 := rfl
  simp only [appendOp, h1, flatAll_cellsOf (intElems Xs)]
  rw [if_neg (by simp), if_neg (by rw [h2]; simp)]
  simp [cI_cells, newId, newAt, hz, ok, hx]
  omega
theorem apC (h : Heap) (Xs : List Int) (hx : Xs ≠ []) (hl : Xs.length < 1000) : appendOp (some (h.length + 2)) none 8 (.slice h.length 1 0 0 none (some 0)) (.c (.slice (Xs.map ci))) (h ++ [.cells 1 [] 0, .dead, .dead]) = some (.slice (h.length + 2) 1 0 Xs.length none none, h ++ [.cells 1 [] 0, .dead, .cells 1 (cI Xs) 0]) := by
  have h1 : ∀ H : Heap, sliceCells none H (.c (.slice (Xs.map ci))) = some ((Xs.map ci).length, cellsOf (Xs.map ci)) := fun _ => rfl
  have h2 := cellsOf_length (intElems Xs)
  have hz : szOf none = 1 := rfl
  simp only [appendOp, h1, flatAll_cellsOf (intElems Xs)]
  rw [if_neg (by simp), if_neg (by rw [h2]; simp)]
  simp [cI_cells, newId, newAt, hz, ok, hx]
  omega
theorem apD (h : Heap) (Xs : List Int) (p : Option Nat) (A B : LB) (hl : Xs.length < 1000) : appendOp p none 8 (.slice (h.length + 1) 1 0 Xs.length none none) (.c (.slice [])) (h ++ [A, .cells 1 (cI Xs) 0, B]) = some (.slice (h.length + 1) 1 0 Xs.length none none, h ++ [A, .cells 1 (cI Xs) 0, B]) := by
  have hz : szOf none = 1 := rfl
  simp [appendOp, sliceCells, ok, hz, cI_length]
  omega
theorem apE (h : Heap) (Xs Ys : List Int) (p : Option Nat) (A B : LB) (hy : Ys ≠ []) (hl : Xs.length + Ys.length < 1000) : appendOp p none 8 (.slice (h.length + 1) 1 0 Xs.length none none) (.c (.slice (Ys.map ci))) (h ++ [A, .cells 1 (cI Xs) 0, B]) = some (.slice (h.length + 1) 2 0 (Xs.length + Ys.length) none none, h ++ [A, .cells 2 (cI (Xs ++ Ys)) 0, B]) := by
  have := append_ownP p (b := h.length + 1) (g := 1) (bytes := 8) (e := none) (ys := Xs.map ci) (xs := Ys.map ci) (h := h ++ [A, .cells 1 (cI Xs) 0, B]) (len := Xs.length) (fz := 0) (by rw [cI_cells]; simp) (intElems _) (intElems _) (by simp) (Nat.zero_le _) (by simpa using hy) (by simp; omega) (by simp; omega)
  rw [this, ← List.map_append, cI_cells]
  simp
theorem B7_4 (hg : GG N Q D) (c k : Nat) (h : Heap) (H : OwnH N Q D h) (E : List Nat) (hk : k < E.length) (hE : E.length < 100) (e : Int) (he : e ≠ 0) (e49 : fn P 49 [lgE N Q D, ci c, .slice ((iC (E.take k ++ E.drop (k + 1))).map ci)] = some (ci e)) :
    ∃ h', execS P (limS P) c7_l4b ⟨[.c (ci c), .ptr 1 0 0, .c (.slice ((iC E).map ci)), .c (ci E.length), .c (ci k)], h⟩ = some (.normal, ⟨[.c (ci c), .ptr 1 0 0, .c (.slice ((iC E).map ci)), .c (ci E.length), .c (ci ((k : Int) + 1))], h'⟩) ∧ Same h.length h h' := by
  have hil : (iC E).length = E.length := by simp [iC]
  have hki : (k : Int) < E.length := by omega
  have hw : IntKind.i64.wrap ((k : Int) + 1) = (k : Int) + 1 := wrap64 (by omega) (by omega)
  have z2' := (List.getElem?_eq_some_iff.1 H.own).2
  have hl2 := lt_get H.own
  have hsz : szFits 1 ((iC E).map ci) = true := by cases E <;> rfl
  have hk1 : k ≤ E.length := by omega
  have hk2 : (k : Int) ≤ E.length := by omega
  have hk3 : k + 1 ≤ E.length := by omega
  have hk4 : (k : Int) + 1 ≤ E.length := by omega
  have ht : ((iC E).map ci).take k = (iC (E.take k)).map ci := by simp [iC, List.map_take]
  have hd : ((iC E).map ci).drop (k + 1) = (iC (E.drop (k + 1))).map ci := by simp [iC, List.map_drop]
  have hcat : iC (E.take k ++ E.drop (k + 1)) = iC (E.take k) ++ iC (E.drop (k + 1)) := by simp [iC]
  have hXl : (iC (E.take k)).length + (iC (E.drop (k + 1))).length < 1000 := by simp [iC]; omega
  have hYl : (iC (E.drop (k + 1))).length = E.length - (k + 1) := by simp [iC]
  have hYt : List.take (E.length - (k + 1)) ((iC (E.drop (k + 1))).map ci) = (iC (E.drop (k + 1))).map ci := by rw [List.take_of_length_le]; rw [List.length_map, hYl]; exact Nat.le_refl _
  have h0k : (0 : Int) ≤ (k : Int) + 1 := by omega
  rw [hcat] at e49
  generalize iC (E.take k) = Xs at *
  generalize iC (E.drop (k + 1)) = Ys at *
  have fin : ∀ (X : Heap) (g b : Nat) (cp : Option Nat) (Zs : List Int), h.length ≤ b → (h ++ X)[b]? = some (.cells g (cI Zs) 0) → ∃ h1, frz frzDepth (ownA N Q D) (h ++ X) = some (lgE N Q D, h1) ∧ frz frzDepth (.slice b g 0 Zs.length none cp) h1 = some (.slice (Zs.map ci), LM.bump b (Zs.length * szOf none) h1) := by
    intro X g b cp Zs hb hX
    obtain ⟨h1, f1, _, f2⟩ := H.frz X
    exact ⟨h1, f1, frz_own (b := b) (g := g) (fz := 0) (e := none) (ys := Zs.map ci) (h := h1) (len := Zs.length) (by rw [f2 b hb, cI_cells]; exact hX) (intElems _) (by simp) cp⟩
  by_cases hx : Xs = []
  · subst hx
    have a1 := apA h (some (h.length + 1)) [.dead, .dead]
    by_cases hy : Ys = []
    · subst hy
      have a2 := apA h (some (h.length + 2)) [.dead, .dead]
      obtain ⟨h1, f1, f2⟩ := fin [.cells 1 [] 0, .dead, .dead] 1 h.length (some 0) [] (Nat.le_refl _) (by simp; rfl)
      simp [-frz_slice, -bump] at e49 f2
      refine ⟨h ++ [.cells 1 [] 0, .dead, .dead], ?_, (Same.rfl' (Nat.le_refl _)).app _⟩
      simp [c7_l4b, dV_c, hk, hki, hil, hw, H.own, z2', hl2, hsz, hk1, hk2, hk3, hk4, h0k, hYt, ht, hd, a1, a2, frzArgs_cons, f1, f2, e49, he, -frz_slice, -frz_agg, -bump]
    · have a2 := apC h Ys hy (by omega)
      obtain ⟨h1, f1, f2⟩ := fin [.cells 1 [] 0, .dead, .cells 1 (cI Ys) 0] 1 (h.length + 2) none Ys (by omega) (by simp)
      simp [-frz_slice, -bump] at e49 f2
      refine ⟨h ++ [.cells 1 [] 0, .dead, .cells 1 (cI Ys) 0], ?_, (Same.rfl' (Nat.le_refl _)).app _⟩
      simp [c7_l4b, dV_c, hk, hki, hil, hw, H.own, z2', hl2, hsz, hk1, hk2, hk3, hk4, h0k, hYt, ht, hd, a1, a2, frzArgs_cons, f1, f2, e49, he, -frz_slice, -frz_agg, -bump]
  · have a1 := apB h Xs hx (by omega)
    by_cases hy : Ys = []
    · subst hy
      have a2 := apD h Xs (some (h.length + 2)) (.cells 1 [] 0) .dead (by omega)
      obtain ⟨h1, f1, f2⟩ := fin [.cells 1 [] 0, .cells 1 (cI Xs) 0, .dead] 1 (h.length + 1) none Xs (by omega) (by simp)
      simp [-frz_slice, -bump] at e49 f2
      refine ⟨h ++ [.cells 1 [] 0, .cells 1 (cI Xs) 0, .dead], ?_, (Same.rfl' (Nat.le_refl _)).app _⟩
      simp [c7_l4b, dV_c, hk, hki, hil, hw, H.own, z2', hl2, hsz, hk1, hk2, hk3, hk4, h0k, hYt, ht, hd, a1, a2, frzArgs_cons, f1, f2, e49, he, -frz_slice, -frz_agg, -bump]
    · have a2 := apE h Xs Ys (some (h.length + 2)) (.cells 1 [] 0) .dead hy hXl
      obtain ⟨h1, f1, f2⟩ := fin [.cells 1 [] 0, .cells 2 (cI (Xs ++ Ys)) 0, .dead] 2 (h.length + 1) none (Xs ++ Ys) (by omega) (by simp)
      simp [-frz_slice, -bump] at e49 f2
      refine ⟨h ++ [.cells 1 [] 0, .cells 2 (cI (Xs ++ Ys)) 0, .dead], ?_, (Same.rfl' (Nat.le_refl _)).app _⟩
      simp [c7_l4b, dV_c, hk, hki, hil, hw, H.own, z2', hl2, hsz, hk1, hk2, hk3, hk4, h0k, hYt, ht, hd, a1, a2, frzArgs_cons, f1, f2, e49, he, -frz_slice, -frz_agg, -bump]
end LM.GZ
namespace LM.GZ
open Go LM
variable {P : Nat → Option SFunc} [Has P] [HasP P]
variable {N : List Str} {Q : List Int} {D : List Du}
theorem OwnH.near {h h' : Heap} (H : OwnH N Q D h) (hs : Same h.length h h') : OwnH N Q D h' :=
  ⟨(hs.2 _ (lt_get H.own)).trans H.own, fun hD => by obtain ⟨fz, e⟩ := H.row hD; exact ⟨fz, (hs.2 _ (lt_get e)).trans e⟩⟩
theorem L7_4 (hg : GG N Q D) (c : Nat) (E : List Nat) (hE : E.length < 100) (hno : ∀ i, i < E.length → ∃ e : Int, e ≠ 0 ∧ fn P 49 [lgE N Q D, ci c, .slice ((iC (E.take i ++ E.drop (i + 1))).map ci)] = some (ci e)) : ∀ (m k : Nat) (h : Heap), k + m = E.length → OwnH N Q D h →
    ∃ h', execS P (limS P) c7_l4 ⟨[.c (ci c), .ptr 1 0 0, .c (.slice ((iC E).map ci)), .c (ci E.length), .c (ci k)], h⟩ = some (.exit 8, ⟨[], h'⟩) := by
  intro m
  induction m with
  | zero =>
    intro k h hk H
    have hk' : k = E.length := by omega
    refine ⟨h, ?_⟩
    rw [r7_l4]
    simp [c7_l4b, hk']
  | succ m ih =>
    intro k h hk H
    have hkl : k < E.length := by omega
    obtain ⟨e, he, e49⟩ := hno k hkl
    obtain ⟨h1, k1, k2⟩ := B7_4 (P := P) hg c k h H E hkl hE e he e49
    have h2 := lt_get H.own
    obtain ⟨hg', hg1, hg2⟩ := gc_any (n := h.length) (ts := [.c (ci c), .ptr 1 0 0, .c (.slice ((iC E).map ci)), .c (ci E.length), .c (ci ((k : Int) + 1))]) (h := h1) k2.1 (by
      intro v hv
      simp only [List.mem_cons, List.not_mem_nil, or_false] at hv
      rcases hv with rfl | rfl | rfl | rfl | rfl <;> simp [LV.under] <;> omega)
    obtain ⟨h', i1⟩ := ih (k + 1) hg' (by omega) (H.near (k2.trans hg2))
    refine ⟨h', ?_⟩
    have ek : ((k + 1 : Nat) : Int) = (k : Int) + 1 := by omega
    rw [ek] at i1
    rw [r7_l4, k1, seqK_normal]
    show execS P (limS P) c7_l4 (gc h.length _) = _
    rw [hg1]
    exact i1
theorem tail_yes (c : Nat) (h : Heap) (H : OwnH N Q D h) (X : List CV) (Y : List CV) (e46 : fn P 46 [lgE N Q D, ci c] = some (.tuple [.slice X, ci 0])) (e47 : fn P 47 [lgE N Q D, ci c] = some (.tuple [.slice Y, ci 7])) (e48 : fn P 48 [lgE N Q D, ci c, .slice X] = some (ci 0)) (h38 : fn P 38 [] = some (.bool true)) :
    resK [LRes.tmp 0] (execS P (limS P) c7_n44 ⟨[.c (ci c), .ptr 1 0 0, .c (.bool true)], h⟩) = some (.bool true) := by
  obtain ⟨h1, f1, H1, _⟩ := H.frz []
  obtain ⟨h2, f2, H2, _⟩ := H1.frz []
  obtain ⟨h3, f3, _, _⟩ := H2.frz []
  rw [List.append_nil] at f1 f2 f3
  have z0' := (List.getElem?_eq_some_iff.1 H.own).2
  have hl := lt_get H.own
  have z1' := (List.getElem?_eq_some_iff.1 H1.own).2
  have hl1 := lt_get H1.own
  have z2' := (List.getElem?_eq_some_iff.1 H2.own).2
  have hl2 := lt_get H2.own
  simp [c7_n44, dV_c, H.own, z0', hl, frzArgs_cons, f1, f2, f3, -frz_agg, e46, e47, H1.own, z1', hl1, H2.own, z2', hl2, e48, h38]
theorem tail_no (hg : GG N Q D) (c : Nat) (h : Heap) (H : OwnH N Q D h) (X : List CV) (E : List Nat) (hE : E.length < 100) (e46 : fn P 46 [lgE N Q D, ci c] = some (.tuple [.slice X, ci 23])) (e47 : fn P 47 [lgE N Q D, ci c] = some (.tuple [.slice ((iC E).map ci), ci 0])) (e49 : fn P 49 [lgE N Q D, ci c, .slice ((iC E).map ci)] = some (ci 0)) (hno : ∀ i, i < E.length → ∃ e : Int, e ≠ 0 ∧ fn P 49 [lgE N Q D, ci c, .slice ((iC (E.take i ++ E.drop (i + 1))).map ci)] = some (ci e)) (h38 : fn P 38 [] = some (.bool true)) :
    resK [LRes.tmp 0] (execS P (limS P) c7_n44 ⟨[.c (ci c), .ptr 1 0 0, .c (.bool false)], h⟩) = some (.bool true) := by
  obtain ⟨h1, f1, H1, _⟩ := H.frz []
  obtain ⟨h2, f2, H2, _⟩ := H1.frz []
  obtain ⟨h3, f3, _, _⟩ := H2.frz []
  rw [List.append_nil] at f1 f2 f3
  obtain ⟨h4, k4⟩ := L7_4 (P := P) hg c E hE hno E.length 0 h2 (by omega) H2
  have hil : (iC E).length = E.length := by simp [iC]
  have z0' := (List.getElem?_eq_some_iff.1 H.own).2
  have hl := lt_get H.own
  have z1' := (List.getElem?_eq_some_iff.1 H1.own).2
  have hl1 := lt_get H1.own
  have z2' := (List.getElem?_eq_some_iff.1 H2.own).2
  have hl2 := lt_get H2.own
  simp at k4
  simp [c7_n44, dV_c, H.own, z0', hl, frzArgs_cons, f1, f2, f3, -frz_agg, e46, e47, H1.own, z1', hl1, H2.own, z2', hl2, e49, hil, k4, h38]
def dB (d : Du) : LB := .cells 0 [.c (ci d.1), .c (ci d.2)] 0
def ownB (N : List Str) (Q : List Int) (O : List Du) : LB := .cells 0 [.c (.slice (N.map CV.str)), .c (.slice (Q.map ci)), dV O] 0
def T0' (D : List Du) (c k : Nat) : List LV := [.c (ci c), .ptr 0 0 0, .ptr 1 0 0, .c (.slice (D.map encD)), .c (ci D.length), .c (ci k)]
theorem dV_cons (d : Du) (O : List Du) : dV (d :: O) = .slice 3 (O.length + 1) 0 (O.length + 1) (some 2) none := by unfold dV; rw [if_neg (by simp)]; rfl
theorem B7_0a (c : Nat) (d : Du) (r : List Du) (hD : D = d :: r) : execS P (limS P) c7_l0b ⟨T0' D c 0, [lgB N Q D 0, ownB N Q []]⟩ = some (.normal, ⟨T0' D c 1, [lgB N Q D 0, ownB N Q [d], dB d, .cells 1 [.c (ci d.1), .c (ci d.2)] 0]⟩) := by
  have gd : D[0]? = some d := by rw [hD]; rfl
  have gd' := (List.getElem?_eq_some_iff.1 gd).2
  have h0 : 0 < D.length := by rw [hD]; simp
  have hap : ∀ (X0 X1 X2 : LB), appendOp none (some 2) 16 .nil (.c (.slice [.agg [ci d.1, ci d.2]])) [X0, X1, X2] = some (.slice 3 1 0 1 (some 2) none, [X0, X1, X2, .cells 1 [.c (ci d.1), .c (ci d.2)] 0]) := fun _ _ _ => rfl
  have hw : IntKind.i64.wrap 1 = 1 := rfl
  have e1 : dV [d] = .slice 3 1 0 1 (some 2) none := dV_cons d []
  have e2 : dV [] = .nil := rfl
  simp [T0', c7_l0b, h0, gd, gd', encD, ownB, dB, e1, e2, hap, hw]
theorem B7_0b (c : Nat) (d : Du) (O : List Du) (k : Nat) (x : Du) (hk : D[k]? = some x) (hl : O.length < 100) (hD : D.length ≤ 7) : execS P (limS P) c7_l0b ⟨T0' D c k, [lgB N Q D 0, ownB N Q (d :: O), dB d, .cells (d :: O).length (cellsOf ((d :: O).map encD)) 0]⟩ = some (.normal, ⟨T0' D c (k + 1), [lgB N Q D 0, ownB N Q (d :: (O ++ [x])), dB d, .cells (d :: (O ++ [x])).length (cellsOf ((d :: (O ++ [x])).map encD)) 0, dB x]⟩) := by
  have gd' := (List.getElem?_eq_some_iff.1 hk).2
  have hkl := (List.getElem?_eq_some_iff.1 hk).1
  have hki : (k : Int) < D.length := by omega
  have hw : IntKind.i64.wrap ((k : Int) + 1) = (k : Int) + 1 := wrap64 (by omega) (by omega)
  have hap := fun X0 X1 X2 X4 => append_own (b := 3) (g := (d :: O).length) (bytes := 16) (e := some 2) (ys := (d :: O).map encD) (xs := [encD x]) (h := [X0, X1, X2, .cells (d :: O).length (cellsOf ((d :: O).map encD)) 0, X4]) (len := (d :: O).length) (fz := 0) rfl (encElems _) (encElems [x]) (by simp) (Nat.zero_le _) (by simp) (by simp; omega) (by simp; omega)
  have e1 : (d :: O).map encD ++ [encD x] = (d :: (O ++ [x])).map encD := by simp
  rw [e1] at hap
  have e2 := dV_cons d O
  have e3 := dV_cons d (O ++ [x])
  simp only [encD] at hap
  simp [-List.map_cons, -List.map_append] at hap
  generalize cellsOf ((d :: (O ++ [x])).map encD) = C2 at *
  generalize cellsOf ((d :: O).map encD) = C1 at *
  simp [T0', c7_l0b, hki, hkl, hk, gd', encD, ownB, dB, e2, e3, hap, hw]
def xF (N : List Str) (Q : List Int) : List Du → Heap
  | [] => [lgB N Q [] 0, ownB N Q []]
  | d :: O => [lgB N Q (d :: O) 0, ownB N Q (d :: O), dB d, .cells (d :: O).length (cellsOf ((d :: O).map encD)) 0]
theorem L7_0 (c : Nat) (d : Du) (hl : D.length ≤ 7) : ∀ (r O : List Du), D = d :: (O ++ r) →
    execS P (limS P) c7_l0 ⟨T0' D c (O.length + 1), [lgB N Q D 0, ownB N Q (d :: O), dB d, .cells (d :: O).length (cellsOf ((d :: O).map encD)) 0]⟩ = some (.exit 0, ⟨[.c (ci c), .ptr 0 0 0, .ptr 1 0 0], [lgB N Q D 0, ownB N Q D, dB d, .cells D.length (cellsOf (D.map encD)) 0]⟩) := by
  intro r
  induction r with
  | nil =>
    intro O hD
    rw [List.append_nil] at hD
    subst hD
    rw [r7_l0]
    simp [T0', c7_l0b]
  | cons x r ih =>
    intro O hD
    have hOl : O.length < 100 := by have := congrArg List.length hD; simp at this; omega
    have gx : D[O.length + 1]? = some x := by rw [hD]; simp
    have ih := ih (O ++ [x]) (by rw [hD]; simp)
    have e1 : (O ++ [x]).length = O.length + 1 := by simp
    rw [e1] at ih
    rw [r7_l0, B7_0b c d O (O.length + 1) x gx hOl hl, seqK_normal, ← ih]
    have hu := underL_cellsOf 4 ((d :: (O ++ [x])).map encD)
    have e2 := dV_cons d (O ++ [x])
    have hgc : gc 4 ⟨T0' D c (O.length + 1 + 1), [lgB N Q D 0, ownB N Q (d :: (O ++ [x])), dB d, .cells (d :: (O ++ [x])).length (cellsOf ((d :: (O ++ [x])).map encD)) 0, dB x]⟩ = ⟨T0' D c (O.length + 1 + 1), [lgB N Q D 0, ownB N Q (d :: (O ++ [x])), dB d, .cells (d :: (O ++ [x])).length (cellsOf ((d :: (O ++ [x])).map encD)) 0]⟩ := by
      generalize cellsOf ((d :: (O ++ [x])).map encD) = C at *
      simp [T0', lgB, ownB, dB, e2, hu]
    show execS P (limS P) c7_l0 (gc 4 _) = _
    rw [hgc]
theorem L7_0' (c : Nat) (hl : D.length ≤ 7) : execS P (limS P) c7_l0 ⟨T0' D c 0, [lgB N Q D 0, ownB N Q []]⟩ = some (.exit 0, ⟨[.c (ci c), .ptr 0 0 0, .ptr 1 0 0], xF N Q D⟩) := by
  cases hD : D with
  | nil =>
    rw [r7_l0]
    simp [T0', c7_l0b, xF]
  | cons d r =>
    have := L7_0 (P := P) (N := N) (Q := Q) (D := d :: r) c d (by rw [← hD]; exact hl) r [] rfl
    rw [r7_l0, B7_0a c d r rfl, seqK_normal]
    have e2 := dV_cons d []
    have hgc : gc 2 ⟨T0' (d :: r) c 1, [lgB N Q (d :: r) 0, ownB N Q [d], dB d, .cells 1 [.c (ci d.1), .c (ci d.2)] 0]⟩ = ⟨T0' (d :: r) c 1, [lgB N Q (d :: r) 0, ownB N Q [d], dB d, .cells 1 [.c (ci d.1), .c (ci d.2)] 0]⟩ := by
      unfold gc
      rw [if_neg]
      simp [lgB, ownB, e2]
    show execS P (limS P) c7_l0 (gc 2 _) = _
    rw [hgc]
    exact this
theorem xF_own (D : List Du) : OwnH N Q D (xF N Q D) := by
  cases D with
  | nil => exact ⟨rfl, fun h => absurd rfl h⟩
  | cons d r => exact ⟨rfl, fun _ => ⟨0, rfl⟩⟩
theorem xF_z (D : List Du) : (xF N Q D)[0]? = some (lgB N Q D 0) := by cases D <;> rfl
theorem xF_2 (D : List Du) : 2 ≤ (xF N Q D).length := by cases D <;> simp [xF]
theorem S7g (h38 : fn P 38 [] = some (.bool true)) (hg : GG N Q D) (c : Nat) (hc : c < N.length) (e44 : fn P 44 [lgE N Q D] = some (.bool true)) (e45 : fn P 45 [lgE N Q D] = some (ci 0)) : fn P 7 [lgE N Q D, ci c] = some (.bool true) := by
  have hn5 := hg.n5
  have hdl := hg.dl
  have hlp := hg.lp
  have a1 : ¬ (5 : Int) < N.length := by omega
  have a2 : ¬ (7 : Int) < D.length := by omega
  have a3 : ¬ N.length ≤ c := by omega
  have a4 : ¬ (c : Int) < 0 := by omega
  have hDq : ∀ d ∈ D, d.1 < Q.length ∧ d.2 < Q.length := fun d hd => by have := hg.du d hd; omega
  have k0 := L7_0' (P := P) (N := N) (Q := Q) (D := D) c hdl
  obtain ⟨h1, k1, s1⟩ := L7_3 (P := P) hg (xF N Q D) (xF_z D) (xF_2 D) c hc (2 ^ D.length) 0 false (xF N Q D) (by omega) (Same.rfl' (Nat.le_refl _))
  have H1 := (xF_own (N := N) (Q := Q) D).near s1
  have hcan : (List.range' 0 (2 ^ D.length)).any (fun k => bestB c (addP (winK D 0 k) Q)) = canB Q D c := by rw [← List.range_eq_range']; rfl
  rw [hcan, Bool.false_or] at k1
  have hsh : shiftInt BinOp.shl IntKind.i64 1 D.length = some (.int .i64 ((2 ^ D.length : Nat) : Int)) := by
    have key : (List.range 8).all (fun p => match shiftInt .shl .i64 1 ((p : Nat) : Int) with | some (.int .i64 v) => v == ((2 ^ p : Nat) : Int) | _ => false) = true := by decide +kernel
    have := List.all_eq_true.1 key D.length (List.mem_range.2 (by omega))
    split at this
    · rename_i v e
      rw [e, eq_of_beq this]
    · cases this
  have x0 := xF_z (N := N) (Q := Q) D
  have x0' := (List.getElem?_eq_some_iff.1 x0).2
  have x0l := lt_get x0
  have hspec := out_spec (P := Q) (D := D) (cl := c) (cmp := cmpE) hDq (by omega)
  have e46 := S46 (P := P) hg hc
  have e47 := S47 (P := P) hg hc
  have hfin : resK [LRes.tmp 0] (execS P (limS P) c7_n44 ⟨[.c (ci c), .ptr 1 0 0, .c (.bool (canB Q D c))], h1⟩) = some (.bool true) := by
    cases hcb : canB Q D c
    · obtain ⟨t1, t2, t3⟩ := hspec.2 hcb
      rw [t1] at e46
      rw [if_neg t2.ne] at e47
      have hlt : ∀ x ∈ elimL Q D c cmpE, x < N.length := fun x hx => by have := List.mem_range.1 (t2.sub.subset hx); omega
      have hpw : (elimL Q D c cmpE).Pairwise (· < ·) := List.Pairwise.sublist t2.sub List.pairwise_lt_range
      have hEl : (elimL Q D c cmpE).length ≤ 5 := by have := t2.sub.length_le; simp at this; omega
      have e49 := S49 (P := P) hg hc (elimL Q D c cmpE) (by omega) t2.own hpw hlt
      rw [if_neg t2.ne, if_pos t2.prove] at e49
      refine tail_no hg c h1 H1 [] (elimL Q D c cmpE) (by omega) e46 e47 e49 (fun i hi => ?_) h38
      have hsub : (elimL Q D c cmpE).take i ++ (elimL Q D c cmpE).drop (i + 1) = (elimL Q D c cmpE).eraseIdx i := (List.eraseIdx_eq_take_drop_succ _ _).symm
      have hss : ((elimL Q D c cmpE).eraseIdx i).Sublist (elimL Q D c cmpE) := List.eraseIdx_sublist _ _
      have hlen : ((elimL Q D c cmpE).eraseIdx i).length + 1 = (elimL Q D c cmpE).length := by rw [List.length_eraseIdx]; rw [if_pos hi]; omega
      have e49' := S49 (P := P) hg hc ((elimL Q D c cmpE).eraseIdx i) (by omega) (fun h => t2.own (hss.subset h)) (List.Pairwise.sublist hss hpw) (fun x hx => hlt x (hss.subset hx))
      rw [hsub]
      refine ⟨_, ?_, e49'⟩
      split
      · omega
      · rename_i hne
        split
        · rename_i hpr
          have := t3 _ ⟨hss.trans t2.sub, hne, fun h => t2.own (hss.subset h), hpr⟩
          omega
        · omega
    · obtain ⟨W, t1, t2, t3⟩ := hspec.1 hcb
      rw [t1] at e46
      rw [if_pos t3] at e47
      exact tail_yes c h1 H1 (W.map ci) _ e46 e47 (S48 hg hc t2) h38
  simp only [T0', ownB, lgB] at k0
  simp only [T3] at k1
  have e2 : dV [] = .nil := rfl
  rw [e2] at k0
  simp at k0 k1
  simp [lgE] at e44 e45
  generalize canB Q D c = can at *
  rw [u7]
  simp [c7, lgE, a1, a2, a3, a4, e44, e45, h38, k0, hsh, x0, x0', x0l, lgB, k1]
  exact hfin
theorem S7 (h38 : fn P 38 [] = some (.bool true)) (l : Lg) (c : Int) (hso : ∀ s ∈ l.names, s.length < 9223372036854775807) : fn P 7 [l.enc, ci c] = some (.bool true) := by
  obtain ⟨b, e44⟩ := S44 (P := P) l
  obtain ⟨e, e45, hgood⟩ := S45 (P := P) l
  by_cases h1 : (5 : Int) < l.names.length
  · rw [u7]
    simp [c7, Lg.enc, h1, h38]
  by_cases h2 : (7 : Int) < l.duels.length
  · rw [u7]
    simp [c7, Lg.enc, h1, h2, h38]
  cases hb : b
  · rw [hb] at e44
    simp [Lg.enc] at e44
    rw [u7]
    simp [c7, Lg.enc, h1, h2, e44, h38]
  rw [hb] at e44
  by_cases he : e = 0
  case neg =>
    simp [Lg.enc] at e44 e45
    rw [u7]
    simp [c7, Lg.enc, h1, h2, e44, e45, he, h38]
  subst he
  by_cases c1 : c < 0
  · simp [Lg.enc] at e44 e45
    rw [u7]
    simp [c7, Lg.enc, h1, h2, e44, e45, c1, h38]
  by_cases c2 : (l.names.length : Int) ≤ c
  · simp [Lg.enc] at e44 e45
    rw [u7]
    simp [c7, Lg.enc, h1, h2, e44, e45, c1, c2, h38]
  obtain ⟨k, rfl⟩ : ∃ k : Nat, c = k := ⟨c.toNat, by omega⟩
  obtain ⟨D, d1, _, _, hg⟩ := lg_good (hgood rfl) (by omega) (by omega) hso
  rw [d1] at e44 e45 ⊢
  exact S7g h38 hg k (by omega) e44 e45
end LM.GZ
