/- Part 9 of what YtlnejpgfiopjjaaGreatCompletions leans on. -/
import Derived.Test.YtlnejpgfiopjjaaGreatRows
import Derived.WalkKit
import Derived.ProofKit
import Derived.SizedLaws
import Derived.Test.YtlnejpgfiopjjaaGreatCompletionsL1
import Derived.Test.YtlnejpgfiopjjaaGreatCompletionsL2
import Derived.Test.YtlnejpgfiopjjaaGreatCompletionsL3
import Derived.Test.YtlnejpgfiopjjaaGreatCompletions1
import Derived.Test.YtlnejpgfiopjjaaGreatCompletions2
import Derived.Test.YtlnejpgfiopjjaaGreatCompletions3
import Derived.Test.YtlnejpgfiopjjaaGreatCompletions4
import Derived.Test.YtlnejpgfiopjjaaGreatCompletions5
set_option linter.all false
namespace Go.Proofs.YtlnejpgfiopjjaaGreat
open Go.ChangeShapes Go.WideShapes Go.ChangeAt Go.RowKit
theorem own_knob : ownKnob Tryz.prog.godebug = none := by kernel_rfl
theorem laid_out : laidOutB Tryz.prog = true := by kernel_rfl
theorem maps_rowed : mapsRowed Tryz.prog = true := by kernel_rfl
theorem slices_full : LM.slicesFullB Tryz.prog = true := by kernel_rfl
theorem typed_map {α : Type} {enc : α → LM.CV} {p : α → Prop} {e : LM.CTy} (h : ∀ x, LM.Typed e x → ∃ a, x = enc a ∧ p a) : ∀ {xs : List LM.CV}, (∀ x ∈ xs, LM.Typed e x) → ∃ l : List α, xs = l.map enc ∧ ∀ a ∈ l, p a
  | [], _ => ⟨[], rfl, by simp⟩
  | x :: xs, hx => by
    obtain ⟨a, ha, hp⟩ := h x (hx x (by simp))
    obtain ⟨l, hl, hq⟩ := typed_map h (xs := xs) fun y hy => hx y (by simp [hy])
    exact ⟨a :: l, by rw [ha, hl]; rfl, fun b hb => by rcases List.mem_cons.1 hb with rfl | hb; exact hp; exact hq b hb⟩
theorem typed_slice {α : Type} {enc : α → LM.CV} {p : α → Prop} {e : LM.CTy} {b : Nat} (h : ∀ x, LM.Typed e x → ∃ a, x = enc a ∧ p a) {v : LM.CV} (hv : LM.Typed (.slice b e) v) : ∃ l : List α, v = .slice (l.map enc) ∧ (∀ a ∈ l, p a) ∧ l.length * b ≤ 2 ^ 47 := by
  simp only [LM.Typed] at hv
  obtain ⟨xs, rfl, _, hb, hx⟩ := hv
  obtain ⟨l, rfl, hp⟩ := typed_map h hx
  refine ⟨l, rfl, hp, ?_⟩
  rw [List.length_map] at hb
  exact Nat.le_trans hb (by decide)
theorem typed_str {v : LM.CV} (hv : LM.Typed .str v) : ∃ s : LM.Str, v = .str s ∧ s.length < 9223372036854775807 := by
  simp only [LM.Typed] at hv
  obtain ⟨s, rfl, h⟩ := hv
  exact ⟨s, rfl, Nat.lt_of_le_of_lt h (by decide)⟩
theorem typed_int {v : LM.CV} (hv : LM.Typed (.int .i64) v) : ∃ n, v = LM.ci n ∧ -9223372036854775808 ≤ n ∧ n ≤ 9223372036854775807 := by
  simp only [LM.Typed] at hv
  obtain ⟨n, rfl, h⟩ := hv
  refine ⟨n, rfl, ?_⟩
  simp [Lit.wf, IntKind.min, IntKind.max, IntKind.bits, IntKind.signed] at h
  omega
end Go.Proofs.YtlnejpgfiopjjaaGreat
namespace LM.GZ
open Go LM
variable {P : Nat → Option SFunc} [Has P]
@[simp] theorem S157 (c : Nat) : fn P 157 [.int .i32 c] = some (.bool (letterN c)) := by
  rw [u157]; simp [c157, letterN]
  rw [show decide ((97 : Int) ≤ c) = decide (97 ≤ c) from decide_eq_decide.2 (by omega), show decide ((c : Int) ≤ 122) = decide (c ≤ 122) from decide_eq_decide.2 (by omega),
    show decide ((65 : Int) ≤ c) = decide (65 ≤ c) from decide_eq_decide.2 (by omega), show decide ((c : Int) ≤ 90) = decide (c ≤ 90) from decide_eq_decide.2 (by omega)]
theorem L61 (s : Str) (hs : s.length ≤ 24) : ∀ (l pre : Str), s = pre ++ l → execS P (limS P) c61_l0 ⟨[.c (.str s), .c (ci pre.length)], []⟩ = if nameFrom pre.length l then some (.exit 0, ⟨[], []⟩) else some (.ret, ⟨[.c (.bool false)], []⟩) := by
  intro l
  induction l with
  | nil =>
    intro pre h
    rw [r61_l0]
    simp [c61_l0b, h, nameFrom]
  | cons c r ih =>
    intro pre h
    have ih := ih (pre ++ [c]) (by simp [h])
    simp at ih
    rw [h] at hs
    simp at hs
    have hw : IntKind.i64.wrap (↑pre.length + 1) = ↑pre.length + 1 := wrap64 (by omega) (by omega)
    have hlt : (pre.length : Int) < pre.length + (r.length + 1) := by omega
    have hn : (((↑c.toNat : Int) < 97 ∨ 122 < (↑c.toNat : Int)) ∧ ((↑c.toNat : Int) < 65 ∨ 90 < (↑c.toNat : Int))) ∧ (pre = [] ∨ ((↑c.toNat : Int) < 48 ∨ 57 < (↑c.toNat : Int)) ∧ ¬(↑c.toNat : Int) = 95) ↔ nameN pre.length c.toNat = false := by
      have hp : pre = [] ↔ pre.length = 0 := by simp
      unfold nameN letterN digitN
      cases pre with
      | nil => simp; omega
      | cons x y => simp; omega
    rw [r61_l0]
    simp [c61_l0b, h, nameFrom, hw, hlt, hn]
    rw [← h, ih]
    cases nameN pre.length c.toNat <;> simp
@[simp] theorem S61 (s : Str) : fn P 61 [.str s] = some (.bool (isName s)) := by
  rw [u61]
  by_cases h1 : s.length < 1
  · have : s = [] := List.eq_nil_of_length_eq_zero (by omega)
    subst this
    simp [c61, isName]
  · by_cases h2 : s.length > 24
    · have h3 : ¬ (s.length : Int) < 1 := by omega
      have h4 : (24 : Int) < (s.length : Int) := by omega
      have h5 : ¬ s.length ≤ 24 := by omega
      simp [c61, isName, h3, h4, h5]
    · have := L61 (P := P) s (by omega) s [] rfl
      simp at this
      have h3 : ¬ (s.length : Int) < 1 := by omega
      have h4 : ¬ (24 : Int) < (s.length : Int) := by omega
      have h5 : s.length ≤ 24 := by omega
      have h6 : 1 ≤ s.length := by omega
      simp [c61, isName, h3, h4, h5, h6, this]
      cases nameFrom 0 s <;> simp
theorem L85 (s : Str) (hs : s.length < 9223372036854775807) : ∀ (l pre : Str), s = pre ++ l → ∃ q, execS P (limS P) c85_l0 ⟨[.c (.str s), .ptr 0 0 0], [.iter s pre.length]⟩ = if nameFrom pre.length l then some (.exit 0, ⟨[.c (.str s)], [.iter s s.length]⟩) else some (.ret, ⟨[.c (.bool false)], [.iter s q]⟩) := by
  intro l
  induction l with
  | nil =>
    intro pre h
    refine ⟨0, ?_⟩
    rw [r85_l0]
    simp [c85_l0b, h, nameFrom]
  | cons c r ih =>
    intro pre h
    obtain ⟨q, ih⟩ := ih (pre ++ [c]) (by simp [h])
    simp at ih
    have hc : s[pre.length]? = some c := by simp [h]
    rw [r85_l0]
    rcases Nat.lt_or_ge c.toNat 128 with hlo | hhi
    · have hd := decode_lo hc hlo
      rw [h] at hd
      have hn : (letterN c.toNat = false ∧ (pre = [] ∨ ¬(↑c.toNat : Int) = 95 ∧ ((↑c.toNat : Int) < 48 ∨ 57 < (↑c.toNat : Int)))) ↔ nameN pre.length c.toNat = false := by
        unfold nameN digitN
        cases pre with
        | nil => simp
        | cons x y => simp; cases letterN c.toNat <;> simp; omega
      refine ⟨if nameN pre.length c.toNat = false then pre.length + 1 else q, ?_⟩
      simp [c85_l0b, h, nameFrom, hd, hn]
      rw [h] at ih
      simp at ih
      cases nameN pre.length c.toNat <;> simp [ih]
    · have hd := decode_hi hc hhi
      rw [h] at hd
      have hl : letterN (Utf8.decode { data := List.toArray (pre ++ c :: r) } pre.length).fst = false := by
        have := nameN_hi (i := 0) hd
        simpa [nameN] using this
      have h1 : ¬ (↑(Utf8.decode { data := List.toArray (pre ++ c :: r) } pre.length).fst : Int) = 95 := by omega
      have h2 : (57 : Int) < (↑(Utf8.decode { data := List.toArray (pre ++ c :: r) } pre.length).fst : Int) := by omega
      refine ⟨pre.length + (Utf8.decode { data := List.toArray (pre ++ c :: r) } pre.length).snd, ?_⟩
      simp [c85_l0b, h, nameFrom, hl, h1, h2, nameN_hi hhi]
@[simp] theorem S85 (s : Str) (hs : s.length < 9223372036854775807) : fn P 85 [.str s] = some (.bool (isName s)) := by
  rw [u85]
  obtain ⟨q, this⟩ := L85 (P := P) s hs s [] rfl
  simp at this
  simp [c85, this]
  cases hn : nameFrom 0 s
  · simp [isName, hn]
  · cases s with
    | nil => simp [isName]
    | cons c r =>
      simp [isName, hn]
      omega
end LM.GZ
namespace LM.GZ
open Go LM
variable {P : Nat → Option SFunc} [Has P]
structure Lic where
  name : Str
  frm : Int
  to : Int
def Lic.enc (x : Lic) : CV := .agg [.str x.name, ci x.frm, ci x.to]
def Lic.ok (x : Lic) : Prop := x.name.length < 9223372036854775807
def eachE {α : Type} (chk : List α → α → Int) : List α → List α → Int
  | _, [] => 0
  | pre, x :: r => if chk pre x ≠ 0 then chk pre x else eachE chk (pre ++ [x]) r
end LM.GZ
namespace LM.GZ
open Go LM
def idxF {α : Type} (p : α → Bool) : Nat → List α → Int
  | _, [] => -1
  | n, x :: r => if p x then n else idxF p (n + 1) r
theorem idxF_lt {α : Type} (p : α → Bool) : ∀ (l : List α) (n : Nat), (idxF p n l < 0) ↔ l.any p = false
  | [], n => by simp [idxF]
  | x :: r, n => by
    unfold idxF
    cases h : p x
    · simp [h, idxF_lt p r (n + 1)]
    · simp [h]
theorem idxF_none {α : Type} {p : α → Bool} : ∀ {l : List α} {n : Nat}, l.any p = false → idxF p n l = -1
  | [], n, _ => rfl
  | x :: r, n, h => by
    simp only [List.any_cons, Bool.or_eq_false_iff] at h
    rw [idxF, if_neg (by simp [h.1]), idxF_none h.2]
theorem idxF_dec {α : Type} (p : α → Bool) (l : List α) (n : Nat) : decide (0 ≤ idxF p n l) = l.any p := by
  have := idxF_lt p l n
  cases h : l.any p
  · have := this.2 h
    simp; omega
  · have : ¬ idxF p n l < 0 := fun q => by rw [this.1 q] at h; cases h
    simp; omega
end LM.GZ
namespace LM.GZ
open Go LM
variable {P : Nat → Option SFunc} [Has P]
def Str.is (s : Str) (x : Str) : Bool := x == s
theorem Str.is_eq (s x : Str) : Str.is s x = decide (x = s) := by unfold Str.is; by_cases h : x = s <;> simp [h]
theorem Str.is_eq' (s x : Str) : Str.is s x = decide (s = x) := by rw [Str.is_eq]; exact decide_eq_decide.2 eq_comm
theorem L158 (s : Str) : ∀ (l pre : List Str), ((pre ++ l).length : Int) < 9223372036854775807 →
    execS P (limS P) c158_l0 ⟨[.c (.slice ((pre ++ l).map CV.str)), .c (.str s), .c (ci (pre ++ l).length), .c (ci pre.length)], []⟩ = if l.any (Str.is s) then some (.ret, ⟨[.c (ci (idxF (Str.is s) pre.length l))], []⟩) else some (.exit 0, ⟨[], []⟩) := by
  intro l
  induction l with
  | nil =>
    intro pre h
    rw [r158_l0]
    simp [c158_l0b]
  | cons x r ih =>
    intro pre h
    have ih := ih (pre ++ [x]) (by simpa using h)
    simp at ih h
    have hw : IntKind.i64.wrap (↑pre.length + 1) = ↑pre.length + 1 := wrap64 (by omega) (by omega)
    have hlt : (pre.length : Int) < pre.length + (r.length + 1) := by omega
    have e := Str.is_eq' s x
    rw [r158_l0]
    by_cases h0 : s = x
    · simp only [h0, decide_true] at e
      simp [c158_l0b, hw, hlt, idxF, h0, e]
    · simp only [h0, decide_false] at e
      simp [c158_l0b, hw, hlt, idxF, h0, e, ih]
theorem S86 (s : Str) (l : List Str) (h : (l.length : Int) < 9223372036854775807) : fn P 86 [.slice (l.map CV.str), .str s] = some (.bool (l.any (Str.is s))) := by
  have hl := L158 (P := P) s l [] (by simpa using h)
  have h2 : fn P 158 [.slice (l.map CV.str), .str s] = some (ci (idxF (Str.is s) 0 l)) := by
    rw [u158]
    simp at hl
    simp [c158, hl]
    exact fun hx => (idxF_none (by simpa using hx)).symm
  rw [u86]
  simp [c86, h2, idxF_dec]
end LM.GZ
namespace LM.GZ
open Go LM
variable {P : Nat → Option SFunc} [Has P]
def cI (xs : List Int) : List LV := xs.map fun v => LV.c (ci v)
theorem cI_length (xs : List Int) : (cI xs).length = xs.length := by simp [cI]
theorem cellsOf_ints (xs : List Int) : cellsOf (xs.map ci) = cI xs := by
  induction xs with
  | nil => rfl
  | cons x r ih =>
    have : cellsOf ((x :: r).map ci) = .c (ci x) :: cellsOf (r.map ci) := rfl
    rw [this, ih]
    rfl
theorem intElems (l : List Int) : ∀ x ∈ l.map ci, Elem none x := by
  intro x hx
  obtain ⟨y, _, rfl⟩ := List.mem_map.1 hx
  exact ⟨rfl, rfl⟩
theorem under_cI (n : Nat) (xs : List Int) : underL n (cI xs) = true := by rw [← cellsOf_ints]; exact underL_cellsOf _ _
end LM.GZ
namespace LM.GZ
open Go LM
variable {P : Nat → Option SFunc} [Has P]
theorem frzFuncs_nil (h : Heap) : frzFuncs [] h = some ([], h) := by rw [frzFuncs]
theorem frzFuncs_c (v : CV) (l : List LV) (h : Heap) : frzFuncs (.c v :: l) h = bnd (frzFuncs l h) fun a => some (.c v :: a.1, a.2) := by
  rw [frzFuncs]
  rcases frzFuncs l h with _ | ⟨x, y⟩ <;> rfl
  all_goals simp
theorem frzFuncs_slice (b g o n : Nat) (e c : Option Nat) (l : List LV) (h : Heap) : frzFuncs (.slice b g o n e c :: l) h = bnd (frzFuncs l h) fun a => some (.slice b g o n e c :: a.1, a.2) := by
  rw [frzFuncs]
  rcases frzFuncs l h with _ | ⟨x, y⟩ <;> rfl
  all_goals simp
end LM.GZ
namespace LM.GZ
open Go LM
variable {P : Nat → Option SFunc} [Has P]
structure Rs where
  who : Str
  state : Str
  vals : List Int
def Rs.enc (x : Rs) : CV := .agg [.str x.who, .str x.state, .slice (x.vals.map ci)]
def Rs.ptr (x : Rs) : CV := .ptr [.str x.who, .str x.state, .slice (x.vals.map ci)] 0
def Rs.ok (x : Rs) : Prop := x.who.length < 9223372036854775807 ∧ x.state.length < 9223372036854775807 ∧ (x.vals.length : Int) < 9223372036854775807
theorem Rs.elem (x : Rs) : Elem (some 3) x.enc := ⟨_, rfl, rfl, by simp [CV.flat]⟩
theorem Rs.elems (l : List Rs) : ∀ x ∈ l.map Rs.enc, Elem (some 3) x := by
  intro x hx
  obtain ⟨y, _, rfl⟩ := List.mem_map.1 hx
  exact y.elem
def isS (x : Rs) : Bool := decide (x.state = [])
end LM.GZ
namespace LM.GZ
open Go LM
variable {P : Nat → Option SFunc} [Has P]
def farI (n : Int) : Bool := decide (n < -999999999) || decide (n > 999999999)
def statesL : List Str := [[], [100, 110, 115], [100, 110, 102], [100, 115, 113]]
def stateOk (s : Str) : Bool := statesL.any (Str.is s)
def RB3 (x : Rs) (z : Nat) : LB := .cells 0 [.c (.str x.who), .c (.str x.state), .c (.slice (x.vals.map ci))] z
end LM.GZ
namespace LM.GZ
open Go LM
variable {P : Nat → Option SFunc} [Has P]
def cntR (pre : List Rs) : Int := match pre.find? isS with
  | some y => y.vals.length
  | none => -1
theorem cntR_snoc (pre : List Rs) (x : Rs) : cntR (pre ++ [x]) = if cntR pre < 0 ∧ isS x = true then (x.vals.length : Int) else cntR pre := by
  unfold cntR
  rw [List.find?_append]
  cases h : pre.find? isS with
  | some y => simp; omega
  | none => cases h2 : isS x <;> simp [h2]
end LM.GZ
namespace LM.GZ
open Go LM
variable {P : Nat → Option SFunc} [Has P]
def CellOk {α : Type} (enc : α → CV) : Prop := ∀ x, Elem none (enc x)
theorem CellOk.cells {α : Type} {enc : α → CV} (h : CellOk enc) (x : α) : CV.cells (enc x) = [enc x] := (h x).1
theorem CellOk.flat {α : Type} {enc : α → CV} (h : CellOk enc) (x : α) : flatAll [LV.c (enc x)] = true := by have := (h x).2; simpa [flatAll] using this
def ltC {α : Type} (c : α → α → Int) (x y : α) : Bool := decide (c x y < 0)
variable {α : Type} {enc : α → CV} {f : Nat} {B : List CV} {c : α → α → Int} {H : Heap} {b g : Nat} {cp : Option Nat}
theorem take_set (X : LB) : List.take H.length (H.set b X) = H.set b X := List.take_of_length_le (by simp)
end LM.GZ
namespace LM.GZ
open Go LM
variable {P : Nat → Option SFunc} [Has P]
def cel3 (x : Rs) : List LV := [.c (.str x.who), .c (.str x.state), .c (.slice (x.vals.map ci))]
def cR (xs : List Rs) : List LV := xs.flatMap cel3
theorem cR_length (xs : List Rs) : (cR xs).length = xs.length * 3 := by
  induction xs with
  | nil => rfl
  | cons x r ih => simp [cR, cel3] at ih ⊢; omega
theorem cellsOf_rs (xs : List Rs) : cellsOf (xs.map Rs.enc) = cR xs := by
  induction xs with
  | nil => rfl
  | cons x r ih =>
    have : cellsOf ((x :: r).map Rs.enc) = cel3 x ++ cellsOf (r.map Rs.enc) := rfl
    rw [this, ih]
    rfl
theorem under_cR (n : Nat) (xs : List Rs) : underL n (cR xs) = true := by rw [← cellsOf_rs]; exact underL_cellsOf _ _
def Rs.vok (x : Rs) : Prop := (x.vals.length : Int) < 9223372036854775807
variable {f : Nat} {B : List CV} {c : Rs → Rs → Int} {H : Heap} {b g : Nat} {cp : Option Nat} {W : List LV}
end LM.GZ
namespace LM.GZ
open Go LM
variable {P : Nat → Option SFunc} [Has P]
def cmpJ (a b : Int) : Int := if a < b then -1 else if b < a then 1 else 0
theorem S96j (a b : Int) : fn P 60 [ci a, ci b] = some (ci (cmpJ a b)) := by
  have e : ∀ x : Int, fn P 133 [ci x] = some (.bool false) := fun x => by rw [u133]; simp [c133]
  rw [u60]
  unfold cmpJ
  by_cases h1 : a < b <;> by_cases h2 : b < a <;> simp [c60, e, h1, h2]
theorem cmpJ_zero (a b : Int) : cmpJ a b = 0 ↔ a = b := by unfold cmpJ; (repeat' split) <;> omega
def cmpL : List Int → List Int → Int
  | [], [] => 0
  | [], _ :: _ => -1
  | _ :: _, [] => 1
  | a :: x, b :: y => if a = b then cmpL x y else cmpJ a b
def loopC : List Int → List Int → Option Int
  | [], _ => none
  | _ :: _, [] => some 1
  | a :: x, b :: y => if a = b then loopC x y else some (cmpJ a b)
theorem cmpL_loop : ∀ x y : List Int, cmpL x y = match loopC x y with
    | some v => v
    | none => if x.length < y.length then -1 else 0
  | [], [] => rfl
  | [], b :: y => by simp [cmpL, loopC]
  | a :: x, [] => rfl
  | a :: x, b :: y => by
    have ih := cmpL_loop x y
    simp only [cmpL, loopC]
    by_cases h : a = b
    · rw [if_pos h, if_pos h, ih]
      cases loopC x y <;> simp
    · rw [if_neg h, if_neg h]
theorem L117 : ∀ (x y pa pb : List Int), pa.length = pb.length → ((pa ++ x).length : Int) < 9223372036854775807 → ((pb ++ y).length : Int) < 9223372036854775807 →
    execS P (limS P) c117_l0 ⟨[.c (.slice ((pa ++ x).map ci)), .c (.slice ((pb ++ y).map ci)), .c (.slice ((pa ++ x).map ci)), .c (ci (pa ++ x).length), .c (ci pa.length)], []⟩ =
      match loopC x y with
      | some v => some (.ret, ⟨[.c (ci v)], []⟩)
      | none => some (.exit 0, ⟨[.c (.slice ((pa ++ x).map ci)), .c (.slice ((pb ++ y).map ci))], []⟩) := by
  intro x
  induction x with
  | nil =>
    intro y pa pb hp h1 h2
    rw [r117_l0]
    simp [c117_l0b, loopC]
  | cons a x ih =>
    intro y pa pb hp h1 h2
    simp at h1 h2
    have hw : IntKind.i64.wrap (↑pa.length + 1) = ↑pa.length + 1 := wrap64 (by omega) (by omega)
    have hlt : (pa.length : Int) < pa.length + (x.length + 1) := by omega
    cases y with
    | nil =>
      have hge : (pb.length : Int) ≤ pa.length := by omega
      rw [r117_l0]
      simp [c117_l0b, loopC, hlt, hge]
    | cons b y =>
      have ih := ih y (pa ++ [a]) (pb ++ [b]) (by simp [hp]) (by simp; omega) (by simp at h2 ⊢; omega)
      have e96 := S96j (P := P) a b
      simp at h2
      have hge : ¬ (pb.length : Int) + (y.length + 1) ≤ pa.length := by omega
      have hlt2 : (pa.length : Int) < pb.length + (y.length + 1) := by omega
      have g1 : (pb.map ci ++ ci b :: y.map ci)[pa.length]? = some (ci b) := by rw [hp]; simp
      obtain ⟨_, g1'⟩ := List.getElem?_eq_some_iff.1 g1
      simp at ih
      rw [r117_l0]
      simp only [loopC]
      by_cases h : a = b
      · have e0 : cmpJ a b = 0 := (cmpJ_zero a b).2 h
        rw [e0] at e96
        rw [if_pos h]
        simp [c117_l0b, hw, hlt, hge, hlt2, g1, g1', e96, ih]
      · have e0 : ¬ cmpJ a b = 0 := fun q => h ((cmpJ_zero a b).1 q)
        rw [if_neg h]
        simp [c117_l0b, hw, hlt, hge, hlt2, g1, g1', e96, e0]
theorem S117 (x y : List Int) (h1 : (x.length : Int) < 9223372036854775807) (h2 : (y.length : Int) < 9223372036854775807) : fn P 117 [.slice (x.map ci), .slice (y.map ci)] = some (ci (cmpL x y)) := by
  have hL := L117 (P := P) x y [] [] rfl (by simpa using h1) (by simpa using h2)
  simp at hL
  rw [u117, cmpL_loop]
  cases h : loopC x y with
  | some v =>
    rw [h] at hL
    simp at hL
    simp [c117, hL]
  | none =>
    rw [h] at hL
    simp at hL
    by_cases hl : x.length < y.length
    · simp [c117, hL, hl]
    · simp [c117, hL, hl]
def cmpRs (x y : Rs) : Int := cmpL y.vals x.vals
end LM.GZ
namespace LM.GZ
open Go LM
theorem strElem (s : Str) : Elem none (CV.str s) := ⟨rfl, rfl⟩
theorem strElems (l : List Str) : ∀ x ∈ l.map CV.str, Elem none x := by
  intro x hx
  obtain ⟨y, _, rfl⟩ := List.mem_map.1 hx
  exact strElem y
end LM.GZ
namespace LM.GZ
open Go LM
variable {P : Nat → Option SFunc} [Has P]
def fwdR (quota : Int) : Int → Int → Option Rs → List Rs → List Str
  | _, _, _, [] => []
  | i, rank, prev, x :: r =>
    let rk := match prev with
      | some y => if x.vals = y.vals then rank else i + 1
      | none => i + 1
    (if rk ≤ quota then [x.who] else []) ++ fwdR quota (i + 1) rk (some x) r
end LM.GZ
namespace LM.GZ
open Go LM
variable {P : Nat → Option SFunc} [Has P]
def fwdL (l : List Rs) (quota : Int) : List Str := fwdR quota 0 0 none (sortI (ltC cmpRs) [] (l.filter isS))
end LM.GZ
namespace LM.GZ
open Go LM
variable {P : Nat → Option SFunc} [Has P]
def inW (out : List Str) (x : Rs) : Bool := out.any (Str.is x.who)
def restL (l : List Rs) (out : List Str) : List Rs := l.filter (fun x => !inW out x)
end LM.GZ
namespace LM.GZ
open Go LM
variable {P : Nat → Option SFunc} [Has P]
theorem cmpL_zero : ∀ a b : List Int, cmpL a b = 0 ↔ a = b
  | [], [] => by simp [cmpL]
  | [], b :: y => by simp [cmpL]
  | a :: x, [] => by simp [cmpL]
  | a :: x, b :: y => by
    have ih := cmpL_zero x y
    simp only [cmpL]
    by_cases h : a = b
    · subst h; simp [ih]
    · rw [if_neg h]
      have := cmpJ_zero a b
      simp [h, this]
theorem cmpL_anti : ∀ a b : List Int, cmpL a b < 0 ↔ 0 < cmpL b a
  | [], [] => by simp [cmpL]
  | [], b :: y => by simp [cmpL]
  | a :: x, [] => by simp [cmpL]
  | a :: x, b :: y => by
    have ih := cmpL_anti x y
    simp only [cmpL]
    by_cases h : a = b
    · subst h; simp [ih]
    · have h' : ¬ b = a := fun q => h q.symm
      rw [if_neg h, if_neg h']
      unfold cmpJ
      (repeat' split) <;> omega
theorem cmpL_split : ∀ a b c : List Int, cmpL a c < 0 → cmpL a b < 0 ∨ cmpL b c < 0
  | [], [], [], h => by simp [cmpL] at h
  | [], [], c :: z, _ => .inr (by simp [cmpL])
  | [], b :: y, _, _ => .inl (by simp [cmpL])
  | a :: x, _, [], h => by simp [cmpL] at h
  | a :: x, [], c :: z, _ => .inr (by simp [cmpL])
  | a :: x, b :: y, c :: z, h => by
    have ih := cmpL_split x y z
    simp only [cmpL] at h ⊢
    by_cases h1 : a = b
    · subst h1
      by_cases h2 : a = c
      · subst h2
        simp at h ⊢
        exact ih h
      · rw [if_neg h2] at h ⊢
        simp
        exact .inr h
    · by_cases h2 : b = c
      · subst h2
        rw [if_neg h1] at h ⊢
        exact .inl h
      · rw [if_neg h1, if_neg h2]
        by_cases h3 : a = c
        · subst h3
          unfold cmpJ
          (repeat' split) <;> omega
        · rw [if_neg h3] at h
          unfold cmpJ at h ⊢
          (repeat' split at h) <;> (repeat' split) <;> omega
def btr (x y : Rs) : Bool := decide (cmpL y.vals x.vals < 0)
theorem btr_eq : ltC cmpRs = btr := rfl
theorem swoR : Swo btr := by
  refine ⟨?_, ?_⟩
  · intro x y h
    unfold btr at h ⊢
    simp only [decide_eq_true_eq, decide_eq_false_iff_not] at h ⊢
    have := (cmpL_anti y.vals x.vals).1 h
    omega
  · intro x y z h
    unfold btr at h ⊢
    simp only [decide_eq_true_eq] at h ⊢
    rcases cmpL_split _ y.vals _ h with q | q
    · exact .inr q
    · exact .inl q
def cntB (S : List Rs) (x : Rs) : Int := ((S.filter (fun y => btr y x)).length : Nat)
theorem btr_total {x y : Rs} (h : ¬ x.vals = y.vals) (h2 : btr x y = false) : btr y x = true := by
  unfold btr at h2 ⊢
  simp only [decide_eq_true_eq, decide_eq_false_iff_not] at h2 ⊢
  have h3 := cmpL_anti x.vals y.vals
  have h4 := cmpL_zero y.vals x.vals
  have h5 : ¬ cmpL y.vals x.vals = 0 := fun q => h (h4.1 q).symm
  omega
theorem fwdR_cnt (quota : Int) (S : List Rs) (hS : Srt btr S) : ∀ (r pre : List Rs) (rank : Int), S = pre ++ r → (∀ y, pre.getLast? = some y → rank = cntB S y + 1) →
    fwdR quota pre.length rank pre.getLast? r = (r.filter (fun x => decide (cntB S x < quota))).map (·.who)
  | [], pre, rank, _, _ => by simp [fwdR]
  | x :: r, pre, rank, hs, hr => by
    have hrk : (match pre.getLast? with
      | some y => if x.vals = y.vals then rank else (pre.length : Int) + 1
      | none => (pre.length : Int) + 1) = cntB S x + 1 := by
      have hall : (∀ z ∈ pre, btr z x = true) → (pre.length : Int) = cntB S x := by
        intro hz
        unfold cntB
        have hs2 := hS
        unfold Srt at hs2
        rw [hs] at hs2
        obtain ⟨p1, p2, p3⟩ := List.pairwise_append.1 hs2
        obtain ⟨p4, p5⟩ := List.pairwise_cons.1 p2
        rw [hs, List.filter_append]
        have e1 : pre.filter (fun y => btr y x) = pre := List.filter_eq_self.2 hz
        have e2 : (x :: r).filter (fun y => btr y x) = [] := by
          rw [List.filter_eq_nil_iff]
          intro y hy
          rcases List.mem_cons.1 hy with rfl | hy
          · simp [swoR.irr y]
          · simp [p4 y hy]
        rw [e1, e2]
        simp
      rcases List.eq_nil_or_concat pre with hpre | ⟨pre', y, hpre⟩
      · subst hpre
        have := hall (by simp)
        simp at this ⊢
        omega
      · rw [List.concat_eq_append] at hpre
        have hlast : pre.getLast? = some y := by rw [hpre]; simp
        rw [hlast]
        simp only
        by_cases hv : x.vals = y.vals
        · rw [if_pos hv, hr y hlast]
          have : cntB S x = cntB S y := by unfold cntB btr; rw [hv]
          rw [this]
        · rw [if_neg hv]
          have hs2 := hS
          unfold Srt at hs2
          rw [hs] at hs2
          obtain ⟨p1, p2, p3⟩ := List.pairwise_append.1 hs2
          have hyx : btr y x = true := btr_total hv (p3 y (by rw [hpre]; simp) x (by simp))
          rw [← hall (fun z hz => by
            rw [hpre] at hz
            rcases List.mem_append.1 hz with q | q
            · rw [hpre] at p1
              have := (List.pairwise_append.1 p1).2.2 z q y (by simp)
              exact swoR.lel this hyx
            · simp at q; rw [q]; exact hyx)]
    have ih := fwdR_cnt quota S hS r (pre ++ [x]) (cntB S x + 1) (by simp [hs]) (fun y hy => by simp at hy; rw [hy])
    simp at ih
    have hF : fwdR quota pre.length rank pre.getLast? (x :: r) = (if cntB S x + 1 ≤ quota then [x.who] else []) ++ fwdR quota (pre.length + 1) (cntB S x + 1) (some x) r := by
      rw [← hrk]
      cases pre.getLast? <;> rfl
    rw [hF, ih]
    by_cases hq : cntB S x + 1 ≤ quota
    · have : cntB S x < quota := by omega
      simp [hq, this]
    · have : ¬ cntB S x < quota := by omega
      simp [hq, this]
theorem fwdL_cnt (l : List Rs) (quota : Int) : fwdL l quota = ((sortI btr [] (l.filter isS)).filter (fun x => decide (cntB (sortI btr [] (l.filter isS)) x < quota))).map (·.who) := by
  unfold fwdL
  rw [btr_eq]
  exact fwdR_cnt quota _ (sortI_srt swoR [] _ (by simp [Srt])) _ [] 0 rfl (by simp)
end LM.GZ
namespace LM.GZ
open Go LM
variable {P : Nat → Option SFunc} [Has P]
def Like (l : List Rs) : Prop := ∀ x ∈ l, ∀ y ∈ l, isS x = true → isS y = true → x.vals.length = y.vals.length
end LM.GZ
namespace LM.GZ
open Go LM
variable {P : Nat → Option SFunc} [Has P]
theorem firstE_zC (e : Int) (r : List Int) : firstE (e :: r) = 0 ↔ e = 0 ∧ firstE r = 0 := by
  rw [firstE]
  by_cases h : e = 0 <;> simp [h]
theorem whenE_zC {b : Bool} {e : Int} (h : e ≠ 0) : whenE b e = 0 ↔ b = false := by cases b <;> simp [whenE, h]
end LM.GZ
namespace LM.GZ
open Go LM
structure RG (l : List Rs) : Prop where
  one : ∀ x ∈ l, isName x.who = true ∧ stateOk x.state = true ∧ (!isS x && decide (0 < x.vals.length)) = false ∧ decide (8 < x.vals.length) = false ∧ x.vals.any farI = false
  uniq : l.Pairwise fun x y => x.who ≠ y.who
  like : Like l
theorem RG.filter {l : List Rs} (p : Rs → Bool) (h : RG l) : RG (l.filter p) :=
  ⟨fun x hx => h.one x (List.mem_filter.1 hx).1, h.uniq.sublist List.filter_sublist, fun x hx y hy => h.like x (List.mem_filter.1 hx).1 y (List.mem_filter.1 hy).1⟩
theorem pair_who : ∀ {l : List Rs}, l.Pairwise (fun x y => x.who ≠ y.who) → ∀ {x y : Rs}, x ∈ l → y ∈ l → x.who = y.who → x = y
  | [], _, x, y, hx, _, _ => by cases hx
  | a :: l, h, x, y, hx, hy, e => by
    obtain ⟨h1, h2⟩ := List.pairwise_cons.1 h
    rcases List.mem_cons.1 hx with rfl | kx
    · rcases List.mem_cons.1 hy with rfl | ky
      · rfl
      · exact absurd e (h1 y ky)
    · rcases List.mem_cons.1 hy with rfl | ky
      · exact absurd e.symm (h1 x kx)
      · exact pair_who h2 kx ky e
section
variable {α : Type} {lt : α → α → Bool}
theorem insS_filter (h : Swo lt) (p : α → Bool) (x : α) {S : List α} (hs : Srt lt S) : (insS lt x S).filter p = if p x then insS lt x (S.filter p) else S.filter p := by
  obtain ⟨A, B, rfl, e2, e3, e4⟩ := insS_split h x hs
  rw [e2]
  cases q : p x
  · simp [q]
  · rw [List.filter_append, List.filter_append, List.filter_cons, q]
    simp only [if_true]
    rw [insS_eq (fun y hy => e3 y (List.mem_filter.1 hy).1) (fun y hy => e4 y (List.mem_filter.1 hy).1)]
theorem sortI_filter (h : Swo lt) (p : α → Bool) : ∀ (S U : List α), Srt lt S → sortI lt (S.filter p) (U.filter p) = (sortI lt S U).filter p
  | S, [], _ => rfl
  | S, x :: U, hs => by
    have ih := sortI_filter h p (insS lt x S) U (insS_srt h x hs)
    have hi := insS_filter h p x hs
    rw [sortI, ← ih, hi]
    cases q : p x
    · simp [q]
    · simp [q, sortI]
theorem filter_len_mono {a b : α → Bool} : ∀ (l : List α), (∀ x ∈ l, a x = true → b x = true) → (l.filter a).length ≤ (l.filter b).length
  | [], _ => Nat.le_refl _
  | x :: l, h => by
    have ih := filter_len_mono l (fun y hy => h y (by simp [hy]))
    have hx := h x (by simp)
    rw [List.filter_cons, List.filter_cons]
    cases q1 : a x
    · cases b x <;> simp <;> omega
    · rw [hx q1]; simp; exact ih
end
def FW (l : List Rs) (q : Int) : List Rs := (sortI btr [] (l.filter isS)).filter (fun x => decide (cntB (sortI btr [] (l.filter isS)) x < q))
theorem fwdL_FW (l : List Rs) (q : Int) : fwdL l q = (FW l q).map (·.who) := fwdL_cnt l q
theorem FW_mem {l : List Rs} {q : Int} {x : Rs} : x ∈ FW l q ↔ (x ∈ l ∧ isS x = true) ∧ cntB (sortI btr [] (l.filter isS)) x < q := by
  unfold FW
  rw [List.mem_filter, (sortI_perm (lt := btr) [] (l.filter isS)).mem_iff, List.nil_append, List.mem_filter, decide_eq_true_eq]
theorem sort_rest (l : List Rs) (p : Rs → Bool) : sortI btr [] ((l.filter p).filter isS) = (sortI btr [] (l.filter isS)).filter p := by
  have := sortI_filter swoR p [] (l.filter isS) (by simp [Srt])
  rw [← this]
  congr 1
  rw [List.filter_filter, List.filter_filter]
  congr 1
  funext x
  rw [Bool.and_comm]
theorem FW_same {l : List Rs} (hl : RG l) (q : Int) (p : Rs → Bool) (hp : ∀ x ∈ l, p x = false → x ∉ FW l q) (h1 : ∀ x ∈ l, ∀ y ∈ l, p x = false → p y = false → x = y) : FW (l.filter p) q = FW l q := by
  have hm := fun x => FW_mem (l := l) (q := q) (x := x)
  have hmem : ∀ x, x ∈ sortI btr [] (l.filter isS) → x ∈ l ∧ isS x = true := fun x hx => by
    have := (sortI_perm (lt := btr) [] (l.filter isS)).mem_iff.1 hx
    simpa using this
  unfold FW
  rw [sort_rest]
  generalize sortI btr [] (l.filter isS) = T at *
  rw [List.filter_filter]
  apply List.filter_congr
  intro z hz
  have hzl := hmem z hz
  cases hpz : p z
  · have := hp z hzl.1 hpz
    rw [hm] at this
    have h2 : ¬ cntB T z < q := fun c => this ⟨hzl, c⟩
    simp [h2]
  · simp only [Bool.and_true]
    apply decide_eq_decide.2
    have hle : cntB (T.filter p) z ≤ cntB T z := by
      unfold cntB
      rw [List.filter_filter]
      have := filter_len_mono (a := fun a => btr a z && p a) (b := fun y => btr y z) T (fun x _ h => by simp at h; exact h.1)
      omega
    constructor
    · intro hlt
      refine Int.not_le.1 (fun hge => ?_)
      suffices q ≤ cntB (T.filter p) z by omega
      by_cases hr : ∃ r ∈ T, p r = false ∧ btr r z = true
      · obtain ⟨r, hrT, hpr, hrz⟩ := hr
        have hrl := hmem r hrT
        have := hp r hrl.1 hpr
        rw [hm] at this
        have h2 : ¬ cntB T r < q := fun c => this ⟨hrl, c⟩
        have h3 : cntB T r ≤ cntB (T.filter p) z := by
          unfold cntB
          rw [List.filter_filter]
          have := filter_len_mono (a := fun y => btr y r) (b := fun a => btr a z && p a) T (fun y hy h => by
            have e1 : btr y z = true := swoR.lel (swoR.asym _ _ h) hrz
            cases hpy : p y
            · have := h1 y (hmem y hy).1 r hrl.1 hpy hpr
              subst this
              rw [swoR.irr] at h
              cases h
            · simp [e1])
          omega
        omega
      · have h3 : cntB T z ≤ cntB (T.filter p) z := by
          unfold cntB
          rw [List.filter_filter]
          have := filter_len_mono (a := fun y => btr y z) (b := fun a => btr a z && p a) T (fun y hy h => by
            cases hpy : p y
            · exact absurd ⟨y, hy, hpy, h⟩ hr
            · simp [h])
          omega
        omega
    · intro h; omega
theorem inW_one (s : Str) (x : Rs) : inW [s] x = decide (x.who = s) := by
  unfold inW
  simp only [List.any_cons, List.any_nil, Bool.or_false]
  exact Str.is_eq' _ _
theorem gone (l : List Rs) (q : Int) (s : Str) : (fwdL (restL l [s]) q).any (Str.is s) = false := by
  rw [List.any_eq_false, fwdL_FW]
  intro n hn
  obtain ⟨x, hx, rfl⟩ := List.mem_map.1 hn
  have := (FW_mem.1 hx).1.1
  have := (List.mem_filter.1 this).2
  rw [inW_one] at this
  rw [Str.is_eq]
  simpa using this
theorem same {l : List Rs} (hl : RG l) (q : Int) (s : Str) (h : (fwdL l q).any (Str.is s) = false) : fwdL (restL l [s]) q = fwdL l q := by
  rw [fwdL_FW, fwdL_FW]
  unfold restL
  rw [FW_same hl]
  · intro x hx hp hf
    rw [inW_one] at hp
    simp at hp
    rw [List.any_eq_false] at h
    have := h x.who (by rw [fwdL_FW]; exact List.mem_map.2 ⟨x, hf, rfl⟩)
    rw [Str.is_eq] at this
    simp [hp] at this
  · intro x hx y hy px py
    rw [inW_one] at px py
    simp at px py
    exact pair_who hl.uniq hx hy (by rw [px, py])
end LM.GZ
namespace LM.GZ
open Go LM
def gradeR (x : Rs) : Int := idxF (Str.is x.state) 0 statesL
def cmpT (x y : Rs) : Int := if cmpJ (gradeR x) (gradeR y) ≠ 0 then cmpJ (gradeR x) (gradeR y) else cmpL y.vals x.vals
def btT (x y : Rs) : Bool := decide (cmpT x y < 0)
def cntT (l : List Rs) (x : Rs) : Int := ((l.filter (fun y => btT y x)).length : Nat)
def rankT (l : List Rs) (x : Rs) : Int := 1 + cntT l x
section
variable {α : Type} {lt lt' : α → α → Bool}
theorem filter_len_lt {a b : α → Bool} : ∀ (l : List α), (∀ x ∈ l, a x = true → b x = true) → (∃ x ∈ l, b x = true ∧ a x = false) → (l.filter a).length < (l.filter b).length
  | [], _, h => by obtain ⟨x, hx, _⟩ := h; cases hx
  | x :: l, h, ⟨y, hy, h1, h2⟩ => by
    have hx := h x (by simp)
    rcases List.mem_cons.1 hy with rfl | hy
    · have := filter_len_mono l (fun z hz => h z (by simp [hz]))
      simp [h1, h2]
      omega
    · have ih := filter_len_lt l (fun z hz => h z (by simp [hz])) ⟨y, hy, h1, h2⟩
      rw [List.filter_cons, List.filter_cons]
      cases q1 : a x
      · cases b x <;> simp <;> omega
      · rw [hx q1]; simp; exact ih
end
end LM.GZ
namespace LM.GZ
open Go LM
structure Op where
  who : Str
  low : Int
  high : Int
def Op.enc (x : Op) : CV := .agg [.str x.who, ci x.low, ci x.high]
def cntA {α : Type} (c : Nat) (p : α → Bool) : Nat → List α → Int
  | _, [] => 0
  | i, x :: r => (if i ≠ c ∧ p x = true then 1 else 0) + cntA c p (i + 1) r
theorem cntA_le {α : Type} (c : Nat) (p : α → Bool) : ∀ (l : List α) (i : Nat), 0 ≤ cntA c p i l ∧ cntA c p i l ≤ l.length
  | [], _ => by simp [cntA]
  | x :: r, i => by
    have := cntA_le c p r (i + 1)
    rw [cntA]
    simp only [List.length_cons]
    split <;> omega
theorem cntA_congr {α : Type} (c : Nat) {p q : α → Bool} : ∀ (l : List α) (i : Nat), (∀ x ∈ l, p x = q x) → cntA c p i l = cntA c q i l
  | [], _, _ => rfl
  | x :: r, i, h => by rw [cntA, cntA, cntA_congr c r (i + 1) (fun y hy => h y (by simp [hy])), h x (by simp)]
def leastP (v : Int) (x : Op) : Bool := decide (x.low > v)
def mostP (v : Int) (x : Op) : Bool := decide (x.high > v)
def leastL (l : List Op) (c : Nat) (v : Int) : Int := cntA c (leastP v) 0 l
def mostL (l : List Op) (c : Nat) (v : Int) : Int := cntA c (mostP v) 0 l
def okV (l : List Op) (c : Nat) (rank v : Int) : Bool := decide (leastL l c v < rank) && decide (rank ≤ mostL l c v + 1)
structure OG (l : List Op) : Prop where
  one : ∀ x ∈ l, isName x.who = true ∧ 0 ≤ x.low ∧ x.low ≤ 99999 ∧ 0 ≤ x.high ∧ x.high ≤ 99999 ∧ x.low ≤ x.high
  uniq : l.Pairwise fun x y => x.who ≠ y.who
def Box : List Op → List Int → Prop
  | [], [] => True
  | x :: r, v :: vs => x.low ≤ v ∧ v ≤ x.high ∧ Box r vs
  | _, _ => False
theorem Box.len : ∀ {l : List Op} {vs : List Int}, Box l vs → vs.length = l.length
  | [], [], _ => rfl
  | x :: r, v :: vs, h => by simp [Box.len h.2.2]
  | [], v :: vs, h => h.elim
  | x :: r, [], h => h.elim
def gtP (v w : Int) : Bool := decide (w > v)
theorem leastP_iff (v : Int) (x : Op) : leastP v x = true ↔ x.low > v := decide_eq_true_iff
theorem mostP_iff (v : Int) (x : Op) : mostP v x = true ↔ x.high > v := decide_eq_true_iff
theorem gtP_iff (v w : Int) : gtP v w = true ↔ w > v := decide_eq_true_iff
theorem box_cnt (c : Nat) (v : Int) : ∀ (l : List Op) (vs : List Int) (i : Nat), Box l vs → cntA c (leastP v) i l ≤ cntA c (gtP v) i vs ∧ cntA c (gtP v) i vs ≤ cntA c (mostP v) i l
  | [], [], i, _ => by simp [cntA]
  | x :: r, w :: vs, i, h => by
    obtain ⟨h1, h2, h3⟩ := h
    have ih := box_cnt c v r vs (i + 1) h3
    simp only [cntA, leastP_iff, mostP_iff, gtP_iff]
    (repeat' split) <;> constructor <;> omega
  | [], _ :: _, _, h => h.elim
  | _ :: _, [], _, h => h.elim
theorem box_reach (c : Nat) (v : Int) : ∀ (l : List Op) (i : Nat) (k : Int), (∀ x ∈ l, x.low ≤ x.high) → (∀ x, l[c - i]? = some x → i ≤ c → x.low ≤ v ∧ v ≤ x.high) → cntA c (leastP v) i l ≤ k → k ≤ cntA c (mostP v) i l →
    ∃ vs, Box l vs ∧ cntA c (gtP v) i vs = k ∧ (i ≤ c → c - i < l.length → vs[c - i]? = some v)
  | [], i, k, _, _, h1, h2 => ⟨[], trivial, by simp only [cntA] at *; omega, by simp⟩
  | x :: r, i, k, hl, hv, h1, h2 => by
    have hx := hl x (by simp)
    have hr : ∀ y, r[c - (i + 1)]? = some y → i + 1 ≤ c → y.low ≤ v ∧ v ≤ y.high := fun y hy hi => hv y (by
      have : c - i = (c - (i + 1)) + 1 := by omega
      rw [this]; simpa using hy) (by omega)
    have hb := cntA_le c (leastP v) r (i + 1)
    have tail : ∀ vs w, (i + 1 ≤ c → c - (i + 1) < r.length → vs[c - (i + 1)]? = some v) → i ≠ c → (i ≤ c → c - i < (x :: r).length → (w :: vs)[c - i]? = some v) := by
      intro vs w h hne hi hl2
      have : c - i = (c - (i + 1)) + 1 := by omega
      rw [this]
      simp only [List.getElem?_cons_succ]
      exact h (by omega) (by simp at hl2; omega)
    simp only [cntA] at h1 h2
    by_cases hc : i = c
    · subst hc
      simp only [ne_eq, not_true, false_and, if_false] at h1 h2
      obtain ⟨vs, b1, b2, _⟩ := box_reach i v r (i + 1) k (fun y hy => hl y (by simp [hy])) hr (by omega) (by omega)
      have hxv := hv x (by simp) (Nat.le_refl _)
      refine ⟨v :: vs, ⟨hxv.1, hxv.2, b1⟩, ?_, by simp⟩
      rw [cntA, b2]
      simp
    · simp only [ne_eq, hc, not_false_eq_true, true_and, leastP_iff, mostP_iff] at h1 h2
      by_cases q1 : x.low > v
      · rw [if_pos q1] at h1
        rw [if_pos (by omega)] at h2
        obtain ⟨vs, b1, b2, b3⟩ := box_reach c v r (i + 1) (k - 1) (fun y hy => hl y (by simp [hy])) hr (by omega) (by omega)
        refine ⟨x.low :: vs, ⟨by omega, hx, b1⟩, ?_, tail vs _ b3 hc⟩
        rw [cntA, b2, if_pos ⟨hc, by simp [gtP]; omega⟩]
        omega
      · rw [if_neg q1] at h1
        by_cases q2 : k ≤ cntA c (mostP v) (i + 1) r
        · obtain ⟨vs, b1, b2, b3⟩ := box_reach c v r (i + 1) k (fun y hy => hl y (by simp [hy])) hr (by omega) q2
          refine ⟨x.low :: vs, ⟨by omega, hx, b1⟩, ?_, tail vs _ b3 hc⟩
          rw [cntA, b2, if_neg (fun z => by have := z.2; simp [gtP] at this; omega)]
          omega
        · by_cases q3 : x.high > v
          · rw [if_pos q3] at h2
            have hlm : cntA c (leastP v) (i + 1) r ≤ cntA c (mostP v) (i + 1) r := by
              have hbx : Box r (r.map (·.low)) := by
                have : ∀ r : List Op, (∀ y ∈ r, y.low ≤ y.high) → Box r (r.map (·.low)) := by
                  intro r
                  induction r with
                  | nil => intro _; trivial
                  | cons y r ih => intro h; exact ⟨Int.le_refl _, h y (by simp), ih (fun z hz => h z (by simp [hz]))⟩
                exact this r (fun y hy => hl y (by simp [hy]))
              have := box_cnt c v r _ (i + 1) hbx
              omega
            obtain ⟨vs, b1, b2, b3⟩ := box_reach c v r (i + 1) (k - 1) (fun y hy => hl y (by simp [hy])) hr (by omega) (by omega)
            refine ⟨x.high :: vs, ⟨hx, by omega, b1⟩, ?_, tail vs _ b3 hc⟩
            rw [cntA, b2, if_pos ⟨hc, by simp [gtP]; omega⟩]
            omega
          · rw [if_neg q3] at h2
            omega
def rankV (vs : List Int) (v : Int) : Int := 1 + ((vs.filter (gtP v)).length : Nat)
theorem rankV_cnt (c : Nat) (v : Int) : ∀ (vs : List Int) (i : Nat), (∀ w, vs[c - i]? = some w → i ≤ c → w = v) → ((vs.filter (gtP v)).length : Int) = cntA c (gtP v) i vs
  | [], i, _ => by simp [cntA]
  | w :: vs, i, h => by
    have ih := rankV_cnt c v vs (i + 1) (fun u hu hi => h u (by
      have : c - i = (c - (i + 1)) + 1 := by omega
      rw [this]; simpa using hu) (by omega))
    rw [cntA, ← ih]
    by_cases hc : i = c
    · subst hc
      have := h w (by simp) (Nat.le_refl _)
      subst this
      have hg : gtP w w = false := by simp [gtP]
      simp [hg]
    · cases hg : gtP v w
      · simp [hg]
      · simp [hg, hc]; omega
theorem rank_iff {l : List Op} (hl : ∀ x ∈ l, x.low ≤ x.high) {c : Nat} {o : Op} (hc : l[c]? = some o) (r : Int) : (∃ vs v, Box l vs ∧ vs[c]? = some v ∧ rankV vs v = r) ↔ ∃ v, o.low ≤ v ∧ v ≤ o.high ∧ okV l c r v = true := by
  have hcl := (List.getElem?_eq_some_iff.1 hc).1
  constructor
  · rintro ⟨vs, v, hb, hv, hr⟩
    refine ⟨v, ?_⟩
    have hbound : ∀ (l : List Op) (vs : List Int) (c : Nat), Box l vs → ∀ o v, l[c]? = some o → vs[c]? = some v → o.low ≤ v ∧ v ≤ o.high := by
      intro l
      induction l with
      | nil => intro vs c _ o v h _; simp at h
      | cons x l ih =>
        intro vs c hb o v h1 h2
        cases vs with
        | nil => simp at h2
        | cons w vs =>
          cases c with
          | zero => simp at h1 h2; subst h1 h2; exact ⟨hb.1, hb.2.1⟩
          | succ c => exact ih vs c hb.2.2 o v (by simpa using h1) (by simpa using h2)
    have h1 := hbound l vs c hb o v hc hv
    refine ⟨h1.1, h1.2, ?_⟩
    have h2 := box_cnt c v l vs 0 hb
    have h3 := rankV_cnt c v vs 0 (fun w hw _ => by simp at hw; rw [hv] at hw; simpa using hw.symm)
    unfold okV leastL mostL
    unfold rankV at hr
    simp
    omega
  · rintro ⟨v, h1, h2, h3⟩
    unfold okV leastL mostL at h3
    simp at h3
    obtain ⟨vs, b1, b2, b3⟩ := box_reach c v l 0 (r - 1) hl (fun x hx _ => by simp at hx; rw [hc] at hx; simp at hx; subst hx; exact ⟨h1, h2⟩) (by omega) (by omega)
    have b3 := b3 (Nat.zero_le _) (by simpa using hcl)
    simp at b3
    refine ⟨vs, v, b1, b3, ?_⟩
    have h4 := rankV_cnt c v vs 0 (fun w hw _ => by simp at hw; rw [b3] at hw; simpa using hw.symm)
    unfold rankV
    omega
end LM.GZ
namespace LM.GZ
open Go LM
def dd (p : Int) : List Int → List Int
  | [] => []
  | x :: r => if x = p then dd p r else x :: dd x r
def compactL : List Int → List Int
  | [] => []
  | x :: r => x :: dd x r
theorem dd_mem (x : Int) : ∀ (r : List Int) (p : Int), x ∈ p :: dd p r ↔ x ∈ p :: r
  | [], p => Iff.rfl
  | y :: r, p => by
    rw [dd]
    by_cases h : y = p
    · subst h
      rw [if_pos rfl, dd_mem x r y]
      simp
    · rw [if_neg h, List.mem_cons, dd_mem x r y]
      simp
theorem compactL_mem (x : Int) : ∀ l : List Int, x ∈ compactL l ↔ x ∈ l
  | [] => Iff.rfl
  | y :: r => dd_mem x r y
theorem dd_lt : ∀ (r : List Int) (p : Int), (p :: r).Pairwise (· ≤ ·) → (p :: dd p r).Pairwise (· < ·)
  | [], p, _ => by simp [dd]
  | y :: r, p, h => by
    obtain ⟨h1, h2⟩ := List.pairwise_cons.1 h
    rw [dd]
    by_cases e : y = p
    · subst e
      rw [if_pos rfl]
      exact dd_lt r y h2
    · rw [if_neg e]
      have ih := dd_lt r y h2
      have hpy := h1 y (by simp)
      refine List.Pairwise.cons (fun z hz => ?_) ih
      rcases List.mem_cons.1 hz with rfl | hz
      · omega
      · have := (List.pairwise_cons.1 ih).1 z hz
        omega
theorem compactL_lt {l : List Int} (h : l.Pairwise (· ≤ ·)) : (compactL l).Pairwise (· < ·) := by
  cases l with
  | nil => exact List.Pairwise.nil
  | cons y r => exact dd_lt r y h
def ltN (a b : Int) : Bool := decide (a < b)
theorem swoI : Swo ltN := swo_key id
def sortN (l : List Int) : List Int := sortI ltN [] l
theorem sortN_le (l : List Int) : (sortN l).Pairwise (· ≤ ·) := by
  have := sortI_srt swoI [] l (by simp [Srt])
  unfold Srt at this
  refine this.imp (fun {a b} h => ?_)
  simp [ltN] at h
  omega
theorem sortN_mem (x : Int) (l : List Int) : x ∈ sortN l ↔ x ∈ l := by
  have := (sortI_perm (lt := ltN) [] l).mem_iff (a := x)
  simpa [sortN] using this
def inP (own : Op) (n : Int) : Bool := decide (n > own.low) && decide (n ≤ own.high)
def rawP (own : Op) (l : List Op) : List Int := own.low :: l.flatMap fun o => [o.low, o.high].filter (inP own)
def partsL (own : Op) (l : List Op) : List Int := compactL (sortN (rawP own l))
theorem partsL_mem (own : Op) (l : List Op) (x : Int) : x ∈ partsL own l ↔ x = own.low ∨ ∃ o ∈ l, (x = o.low ∨ x = o.high) ∧ own.low < x ∧ x ≤ own.high := by
  unfold partsL
  rw [compactL_mem, sortN_mem]
  unfold rawP
  rw [List.mem_cons, List.mem_flatMap]
  constructor
  · rintro (h | ⟨o, ho, h⟩)
    · exact .inl h
    · rw [List.mem_filter] at h
      obtain ⟨h1, h2⟩ := h
      simp [inP] at h1 h2
      exact .inr ⟨o, ho, h1, h2.1, h2.2⟩
  · rintro (h | ⟨o, ho, h1, h2, h3⟩)
    · exact .inl h
    · refine .inr ⟨o, ho, ?_⟩
      rw [List.mem_filter]
      exact ⟨by simpa using h1, by simp [inP]; omega⟩
theorem partsL_lt (own : Op) (l : List Op) : (partsL own l).Pairwise (· < ·) := compactL_lt (sortN_le _)
theorem partsL_range {own : Op} (h : own.low ≤ own.high) (l : List Op) {x : Int} (hx : x ∈ partsL own l) : own.low ≤ x ∧ x ≤ own.high := by
  rcases (partsL_mem own l x).1 hx with rfl | ⟨o, _, _, h1, h2⟩ <;> omega
theorem partsL_head {own : Op} (h : own.low ≤ own.high) (l : List Op) : ∃ r, partsL own l = own.low :: r := by
  have hm : own.low ∈ partsL own l := (partsL_mem own l _).2 (.inl rfl)
  have hp := partsL_lt own l
  cases hB : partsL own l with
  | nil => rw [hB] at hm; cases hm
  | cons x r =>
    have hx := partsL_range h l (x := x) (by rw [hB]; simp)
    rw [hB] at hm hp
    rcases List.mem_cons.1 hm with e | e
    · exact ⟨r, by rw [e]⟩
    · have := (List.pairwise_cons.1 hp).1 _ e
      omega
section
variable {own : Op} {l : List Op} {c : Nat}
theorem part_same (hown : own ∈ l) {f t : Int} (h1 : own.low ≤ f) (h2 : t ≤ own.high) (h3 : f ≤ t) (hn : ∀ x ∈ partsL own l, ¬ (f < x ∧ x ≤ t)) : leastL l c f = leastL l c t ∧ mostL l c f = mostL l c t := by
  have key : ∀ o ∈ l, ∀ x, (x = o.low ∨ x = o.high) → ¬ (f < x ∧ x ≤ t) := by
    intro o ho x hx hb
    exact hn x ((partsL_mem own l x).2 (.inr ⟨o, ho, hx, by omega, by omega⟩)) hb
  constructor
  · apply cntA_congr
    intro o ho
    have := key o ho o.low (.inl rfl)
    exact decide_eq_decide.2 (by omega)
  · apply cntA_congr
    intro o ho
    have := key o ho o.high (.inr rfl)
    exact decide_eq_decide.2 (by omega)
theorem part_below (h : own.low ≤ own.high) {v : Int} (h1 : own.low ≤ v) : ∃ p ∈ partsL own l, p ≤ v ∧ ∀ x ∈ partsL own l, ¬ (p < x ∧ x ≤ v) := by
  obtain ⟨r, hr⟩ := partsL_head h l
  have hp := partsL_lt own l
  rw [hr] at hp ⊢
  have key : ∀ (r : List Int) (a : Int), (a :: r).Pairwise (· < ·) → a ≤ v → ∃ p ∈ a :: r, p ≤ v ∧ ∀ x ∈ a :: r, ¬ (p < x ∧ x ≤ v) := by
    intro r
    induction r with
    | nil => intro a _ ha; exact ⟨a, by simp, ha, by simp⟩
    | cons b r ih =>
      intro a hp ha
      obtain ⟨p1, p2⟩ := List.pairwise_cons.1 hp
      by_cases hb : b ≤ v
      · obtain ⟨p, q1, q2, q3⟩ := ih b p2 hb
        refine ⟨p, List.mem_cons_of_mem _ q1, q2, ?_⟩
        intro x hx
        rcases List.mem_cons.1 hx with rfl | hx
        · have := p1 p q1
          omega
        · exact q3 x hx
      · refine ⟨a, by simp, ha, ?_⟩
        intro x hx hxv
        rcases List.mem_cons.1 hx with rfl | hx
        · omega
        · rcases List.mem_cons.1 hx with rfl | hx
          · omega
          · have := (List.pairwise_cons.1 p2).1 x hx
            omega
  exact key r own.low hp h1
def isV (own : Op) (l : List Op) (c : Nat) (rank : Int) : Bool := (partsL own l).any (okV l c rank)
theorem isV_iff (hown : own ∈ l) (h : own.low ≤ own.high) (rank : Int) : isV own l c rank = true ↔ ∃ v, own.low ≤ v ∧ v ≤ own.high ∧ okV l c rank v = true := by
  unfold isV
  rw [List.any_eq_true]
  constructor
  · rintro ⟨v, hv, hk⟩
    have := partsL_range h l hv
    exact ⟨v, this.1, this.2, hk⟩
  · rintro ⟨v, h1, h2, h3⟩
    obtain ⟨p, q1, q2, q3⟩ := part_below h h1 (l := l)
    refine ⟨p, q1, ?_⟩
    have hpl := (partsL_range h l q1).1
    have := part_same (c := c) hown hpl h2 q2 q3
    unfold okV at h3 ⊢
    rw [this.1, this.2]
    exact h3
end
structure Bar where
  frm : Int
  to : Int
  up : Bool
def aboveS : Str := [97, 98, 111, 118, 101]
def belowS : Str := [98, 101, 108, 111, 119]
def Bar.word (b : Bar) : Str := if b.up then aboveS else belowS
def Bar.enc (b : Bar) : CV := .agg [ci b.frm, ci b.to, .str b.word]
def barOk (l : List Op) (c : Nat) (rank : Int) (b : Bar) : Bool := if b.up then decide (leastL l c b.to ≥ rank) else decide (mostL l c b.frm ≤ rank - 2)
def barOf (l : List Op) (c : Nat) (rank f t : Int) : Bar := ⟨f, t, decide (leastL l c t ≥ rank)⟩
def addBar (out : List Bar) (b : Bar) : List Bar := match out.getLast? with
  | some y => if b.up && y.up then out.dropLast ++ [⟨y.frm, b.to, true⟩] else out ++ [b]
  | none => out ++ [b]
def toOf (high : Int) : List Int → Int
  | [] => high
  | b :: _ => b - 1
def barsF (l : List Op) (c : Nat) (rank high : Int) : List Bar → List Int → List Bar
  | out, [] => out
  | out, f :: r => barsF l c rank high (addBar out (barOf l c rank f (toOf high r))) r
def Okb (l : List Op) (c : Nat) (rank : Int) : Int → List Bar → Int → Prop
  | a, [], e => a = e
  | a, b :: r, e => b.frm = a ∧ b.frm ≤ b.to ∧ barOk l c rank b = true ∧ Okb l c rank (b.to + 1) r e
theorem Okb.snoc {l : List Op} {c : Nat} {rank : Int} {b : Bar} : ∀ {out : List Bar} {a e : Int}, Okb l c rank a out e → b.frm = e → b.frm ≤ b.to → barOk l c rank b = true → Okb l c rank a (out ++ [b]) (b.to + 1)
  | [], a, e, h, h1, h2, h3 => ⟨h1.trans h.symm, h2, h3, rfl⟩
  | y :: out, a, e, h, h1, h2, h3 => ⟨h.1, h.2.1, h.2.2.1, h.2.2.2.snoc h1 h2 h3⟩
theorem Okb.last {l : List Op} {c : Nat} {rank : Int} {y : Bar} : ∀ {out : List Bar} {a e : Int}, Okb l c rank a (out ++ [y]) e → ∃ e', Okb l c rank a out e' ∧ y.frm = e' ∧ y.frm ≤ y.to ∧ e = y.to + 1
  | [], a, e, h => ⟨a, rfl, h.1, h.2.1, h.2.2.2.symm⟩
  | x :: out, a, e, h => by
    obtain ⟨e', h1, h2, h3, h4⟩ := (h.2.2.2).last
    exact ⟨e', ⟨h.1, h.2.1, h.2.2.1, h1⟩, h2, h3, h4⟩
theorem Okb.add {l : List Op} {c : Nat} {rank : Int} {b : Bar} {out : List Bar} {a e : Int} (h : Okb l c rank a out e) (h1 : b.frm = e) (h2 : b.frm ≤ b.to) (h3 : barOk l c rank b = true) : Okb l c rank a (addBar out b) (b.to + 1) ∧ addBar out b ≠ [] := by
  unfold addBar
  rcases List.eq_nil_or_concat out with hn | ⟨o', y, hc⟩
  · subst hn
    exact ⟨h.snoc h1 h2 h3, by simp⟩
  · rw [List.concat_eq_append] at hc
    subst hc
    simp only [List.getLast?_append, List.getLast?_singleton, Option.some_or]
    split
    · rename_i q
      simp at q
      obtain ⟨e', g1, g2, g3, g4⟩ := h.last
      refine ⟨?_, by simp⟩
      rw [List.dropLast_concat]
      refine g1.snoc (b := ⟨y.frm, b.to, true⟩) g2 (by simp only; omega) ?_
      unfold barOk at h3 ⊢
      rw [q.1] at h3
      simpa using h3
    · exact ⟨h.snoc h1 h2 h3, by simp⟩
theorem barsF_ok {own : Op} {l : List Op} {c : Nat} {rank : Int} (hown : own ∈ l) (h : own.low ≤ own.high) (hv : isV own l c rank = false) : ∀ (r pre : List Int) (out : List Bar) (e : Int), partsL own l = pre ++ r → (∀ f r', r = f :: r' → e = f) → (r = [] → e = own.high + 1 ∧ out ≠ []) → Okb l c rank own.low out e → Okb l c rank own.low (barsF l c rank own.high out r) (own.high + 1) ∧ barsF l c rank own.high out r ≠ []
  | [], pre, out, e, _, _, he, ho => by
    obtain ⟨e1, e2⟩ := he rfl
    subst e1
    exact ⟨ho, e2⟩
  | f :: r, pre, out, e, hp, hf, _, ho => by
    have hfe := hf f r rfl
    subst hfe
    have hlt := partsL_lt own l
    have hfm : e ∈ partsL own l := by rw [hp]; simp
    have hfr := partsL_range h l hfm
    have hto : e ≤ toOf own.high r ∧ toOf own.high r ≤ own.high ∧ ∀ x ∈ partsL own l, ¬ (e < x ∧ x ≤ toOf own.high r) := by
      rw [hp] at hlt
      obtain ⟨p1, p2, p3⟩ := List.pairwise_append.1 hlt
      obtain ⟨p4, p5⟩ := List.pairwise_cons.1 p2
      cases r with
      | nil =>
        refine ⟨hfr.2, Int.le_refl _, ?_⟩
        intro x hx
        rw [hp] at hx
        rcases List.mem_append.1 hx with q | q
        · have := p3 x q e (by simp); omega
        · simp at q; omega
      | cons b r =>
        have hb := p4 b (by simp)
        have hbr := partsL_range h l (x := b) (by rw [hp]; simp)
        refine ⟨by simp only [toOf]; omega, by simp only [toOf]; omega, ?_⟩
        intro x hx
        simp only [toOf]
        rw [hp] at hx
        rcases List.mem_append.1 hx with q | q
        · have := p3 x q e (by simp); omega
        · rcases List.mem_cons.1 q with rfl | q
          · omega
          · rcases List.mem_cons.1 q with rfl | q
            · omega
            · have := (List.pairwise_cons.1 p5).1 x q; omega
    obtain ⟨t1, t2, t3⟩ := hto
    have hsame := part_same (c := c) hown hfr.1 t2 t1 t3
    have hnk : okV l c rank e = false := by
      unfold isV at hv
      rw [List.any_eq_false] at hv
      simpa using hv e hfm
    have hb : barOk l c rank (barOf l c rank e (toOf own.high r)) = true := by
      unfold barOk barOf
      simp only
      by_cases q : leastL l c (toOf own.high r) ≥ rank
      · rw [decide_eq_true q]; simp
      · rw [decide_eq_false q]
        unfold okV at hnk
        simp at hnk ⊢
        have := hnk (by omega)
        omega
    obtain ⟨o1, o2⟩ := ho.add (b := barOf l c rank e (toOf own.high r)) rfl t1 hb
    rw [barsF]
    refine barsF_ok hown h hv r (pre ++ [e]) _ _ (by simp [hp]) ?_ ?_ o1
    · intro f' r' hr
      subst hr
      simp [barOf, toOf]
    · intro hr
      subst hr
      exact ⟨rfl, o2⟩
end LM.GZ
namespace LM.GZ
open Go LM
def szO (x : Op) : Nat := (x.high - x.low + 1).toNat
def totO : List Op → Nat
  | [] => 1
  | x :: r => szO x * totO r
def comp : List Op → Nat → List Int
  | [], _ => []
  | x :: r, n => (x.low + (n % szO x : Nat)) :: comp r (n / szO x)
theorem comp_length : ∀ (l : List Op) (n : Nat), (comp l n).length = l.length
  | [], _ => rfl
  | x :: r, n => by simp [comp, comp_length r]
theorem szO_pos {x : Op} (h : x.low ≤ x.high) : 0 < szO x := by unfold szO; omega
theorem comp_box : ∀ (l : List Op) (n : Nat), (∀ x ∈ l, x.low ≤ x.high) → Box l (comp l n)
  | [], _, _ => trivial
  | x :: r, n, h => by
    have h1 := h x (by simp)
    have h2 := Nat.mod_lt n (szO_pos h1)
    refine ⟨?_, ?_, comp_box r _ (fun y hy => h y (by simp [hy]))⟩
    · omega
    · unfold szO at h2 ⊢; omega
theorem comp_surj : ∀ (l : List Op) (vs : List Int), (∀ x ∈ l, x.low ≤ x.high) → Box l vs → ∃ n, n < totO l ∧ comp l n = vs
  | [], [], _, _ => ⟨0, by simp [totO], rfl⟩
  | x :: r, v :: vs, h, hb => by
    obtain ⟨h1, h2, h3⟩ := hb
    obtain ⟨n, n1, n2⟩ := comp_surj r vs (fun y hy => h y (by simp [hy])) h3
    have hd : (v - x.low).toNat < szO x := by unfold szO; omega
    have hs := szO_pos (h x (by simp))
    refine ⟨(v - x.low).toNat + szO x * n, ?_, ?_⟩
    · rw [totO]
      calc (v - x.low).toNat + szO x * n < szO x + szO x * n := by omega
        _ = szO x * (n + 1) := by rw [Nat.mul_add]; omega
        _ ≤ szO x * totO r := Nat.mul_le_mul_left _ n1
    · rw [comp, Nat.add_mul_mod_self_left, Nat.mod_eq_of_lt hd, Nat.add_mul_div_left _ _ hs, Nat.div_eq_of_lt hd, Nat.zero_add, n2]
      congr 1
      omega
  | [], _ :: _, _, h => h.elim
  | _ :: _, [], _, h => h.elim
def insK (ks : List Int) (k : Int) : List Int := if k ∈ ks then ks else ks ++ [k]
theorem insK_mem (ks : List Int) (k x : Int) : x ∈ insK ks k ↔ x ∈ ks ∨ x = k := by
  unfold insK
  split
  · constructor
    · exact .inl
    · rintro (h | rfl) <;> assumption
  · simp
theorem insK_nodup {ks : List Int} (h : ks.Nodup) (k : Int) : (insK ks k).Nodup := by
  unfold insK
  split
  · exact h
  · rename_i hk
    exact List.nodup_append.2 ⟨h, by simp, fun a ha b hb e => by simp at hb; subst hb; subst e; exact hk ha⟩
def rankAt (l : List Op) (c n : Nat) : Int := rankV (comp l n) ((comp l n).getD c 0)
def seenL (l : List Op) (c : Nat) : Nat → List Int
  | 0 => []
  | n + 1 => insK (seenL l c n) (rankAt l c n)
theorem seenL_mem (l : List Op) (c : Nat) (x : Int) : ∀ n, x ∈ seenL l c n ↔ ∃ m, m < n ∧ rankAt l c m = x
  | 0 => by simp [seenL]
  | n + 1 => by
    rw [seenL, insK_mem, seenL_mem l c x n]
    constructor
    · rintro (⟨m, h1, h2⟩ | rfl)
      · exact ⟨m, by omega, h2⟩
      · exact ⟨n, by omega, rfl⟩
    · rintro ⟨m, h1, h2⟩
      by_cases h : m = n
      · subst h; exact .inr h2.symm
      · exact .inl ⟨m, by omega, h2⟩
theorem seenL_nodup (l : List Op) (c : Nat) : ∀ n, (seenL l c n).Nodup
  | 0 => List.Pairwise.nil
  | n + 1 => insK_nodup (seenL_nodup l c n) _
theorem rankV_range (vs : List Int) (v : Int) : 1 ≤ rankV vs v ∧ rankV vs v ≤ vs.length + 1 := by
  unfold rankV
  have := List.length_filter_le (gtP v) vs
  omega
theorem rankV_le {vs : List Int} {v : Int} (h : v ∈ vs) : rankV vs v ≤ vs.length := by
  have h1 := filter_len_lt (a := gtP v) (b := fun _ => true) vs (fun _ _ _ => rfl) ⟨v, h, rfl, by simp [gtP]⟩
  have e : (vs.filter fun _ => true).length = vs.length := by simp
  unfold rankV
  omega
section
variable {l : List Op} {c : Nat} {own : Op}
theorem seen_iff (hl : ∀ x ∈ l, x.low ≤ x.high) (hc : l[c]? = some own) (r : Int) : r ∈ seenL l c (totO l) ↔ isV own l c r = true := by
  have hown := List.mem_of_getElem? hc
  rw [seenL_mem, isV_iff hown (hl own hown), ← rank_iff hl hc]
  constructor
  · rintro ⟨m, _, hm⟩
    have hcl := (List.getElem?_eq_some_iff.1 hc).1
    have hl2 : c < (comp l m).length := by rw [comp_length]; exact hcl
    refine ⟨comp l m, (comp l m)[c], comp_box l m hl, List.getElem?_eq_getElem hl2, ?_⟩
    unfold rankAt at hm
    rw [List.getD_eq_getElem?_getD, List.getElem?_eq_getElem hl2] at hm
    exact hm
  · rintro ⟨vs, v, hb, hv, hr⟩
    obtain ⟨n, n1, n2⟩ := comp_surj l vs hl hb
    refine ⟨n, n1, ?_⟩
    unfold rankAt
    rw [n2, List.getD_eq_getElem?_getD, hv]
    exact hr
def possL (own : Op) (l : List Op) (c : Nat) : List Int := ((List.range l.length).map fun i : Nat => (i : Int) + 1).filter (isV own l c)
theorem seen_range (hl : ∀ x ∈ l, x.low ≤ x.high) (hc : l[c]? = some own) {r : Int} (h : r ∈ seenL l c (totO l)) : 1 ≤ r ∧ r ≤ l.length := by
  rw [seenL_mem] at h
  obtain ⟨m, _, rfl⟩ := h
  have hcl := (List.getElem?_eq_some_iff.1 hc).1
  have hl2 : c < (comp l m).length := by rw [comp_length]; exact hcl
  unfold rankAt
  rw [List.getD_eq_getElem?_getD, List.getElem?_eq_getElem hl2]
  simp only [Option.getD_some]
  have h1 := rankV_range (comp l m) (comp l m)[c]
  have h2 := rankV_le (List.getElem_mem hl2)
  rw [comp_length] at h2
  omega
theorem poss_perm (hl : ∀ x ∈ l, x.low ≤ x.high) (hc : l[c]? = some own) : (possL own l c).Perm (seenL l c (totO l)) := by
  have hnd : (possL own l c).Nodup := by
    unfold possL
    refine List.Pairwise.sublist List.filter_sublist ?_
    rw [List.pairwise_map]
    exact (List.nodup_range (n := l.length)).imp (fun {a b} h e => h (by omega))
  rw [List.perm_ext_iff_of_nodup hnd (seenL_nodup _ _ _)]
  intro r
  constructor
  · intro h
    exact (seen_iff hl hc r).2 (List.mem_filter.1 h).2
  · intro h
    have := seen_range hl hc h
    refine List.mem_filter.2 ⟨List.mem_map.2 ⟨(r - 1).toNat, by simp; omega, by omega⟩, (seen_iff hl hc r).1 h⟩
end
end LM.GZ
namespace LM.GZ
open Go LM
variable {P : Nat → Option SFunc} [Has P]
@[simp] theorem S112 (b : Bool) (e : Int) : fn P 112 [.bool b, ci e] = some (ci (whenE b e)) := by
  rw [u112]; cases b <;> simp [c112, whenE]
theorem L111 : ∀ (l pre : List Int), (l.length : Int) + pre.length < 9223372036854775807 → execS P (limS P) c111_l0 ⟨[.c (.slice ((pre ++ l).map ci)), .c (ci (pre ++ l).length), .c (ci pre.length)], []⟩ = if firstE l = 0 then some (.exit 0, ⟨[], []⟩) else some (.ret, ⟨[.c (ci (firstE l))], []⟩) := by
  intro l
  induction l with
  | nil =>
    intro pre h
    rw [r111_l0]
    simp [c111_l0b, firstE]
  | cons c r ih =>
    intro pre h
    have ih := ih (pre ++ [c]) (by simp at h ⊢; omega)
    simp at ih h
    have hw : IntKind.i64.wrap (↑pre.length + 1) = ↑pre.length + 1 := wrap64 (by omega) (by omega)
    have hlt : (pre.length : Int) < pre.length + (r.length + 1) := by omega
    rw [r111_l0]
    by_cases hc : c = 0
    · subst hc
      simp [c111_l0b, firstE, hw, hlt, ih]
    · simp [c111_l0b, firstE, hw, hlt, hc]
@[simp] theorem S111 (l : List Int) (h : l.length < 9223372036854775807) : fn P 111 [.slice (l.map ci)] = some (ci (firstE l)) := by
  have := L111 (P := P) l [] (by simp; omega)
  rw [u111]
  simp at this
  simp [c111, this]
  by_cases hc : firstE l = 0 <;> simp [hc]
@[simp] theorem S111_1 (a : Int) : fn P 111 [.slice [ci a]] = some (ci (firstE [a])) := S111 [a] (by simp)
@[simp] theorem S111_2 (a b : Int) : fn P 111 [.slice [ci a, ci b]] = some (ci (firstE [a, b])) := S111 [a, b] (by simp)
@[simp] theorem S111_3 (a b c : Int) : fn P 111 [.slice [ci a, ci b, ci c]] = some (ci (firstE [a, b, c])) := S111 [a, b, c] (by simp)
@[simp] theorem S111_4 (a b c d : Int) : fn P 111 [.slice [ci a, ci b, ci c, ci d]] = some (ci (firstE [a, b, c, d])) := S111 [a, b, c, d] (by simp)
@[simp] theorem S111_5 (a b c d e : Int) : fn P 111 [.slice [ci a, ci b, ci c, ci d, ci e]] = some (ci (firstE [a, b, c, d, e])) := S111 [a, b, c, d, e] (by simp)
@[simp] theorem S111_6 (a b c d e f : Int) : fn P 111 [.slice [ci a, ci b, ci c, ci d, ci e, ci f]] = some (ci (firstE [a, b, c, d, e, f])) := S111 [a, b, c, d, e, f] (by simp)
@[simp] theorem S168 (n a b : Int) : fn P 168 [ci n, ci a, ci b] = some (ci (whenE (outside n a b) 3)) := by
  rw [u168]
  unfold outside
  by_cases h1 : n < a <;> by_cases h2 : b < n <;> simp [c168, h1, h2]
theorem S202 (n : Int) : fn P 202 [ci n] = some (.bool (farI n)) := by
  rw [u202]
  unfold farI
  by_cases h1 : n < -999999999 <;> by_cases h2 : n > 999999999 <;> simp [c202, h1, h2]
theorem L77b : ∀ (l pre : List Int), ((pre ++ l).length : Int) < 9223372036854775807 →
    ∃ k : Nat, execS P (limS P) c210_l0 ⟨[.c (.slice ((pre ++ l).map ci)), .c (.func 202 [] []), .c (ci (pre ++ l).length), .c (ci pre.length)], []⟩ = if l.any farI then some (.ret, ⟨[.c (ci k)], []⟩) else some (.exit 0, ⟨[], []⟩) := by
  intro l
  induction l with
  | nil =>
    intro pre h
    refine ⟨0, ?_⟩
    rw [r210_l0]
    simp [c210_l0b]
  | cons x r ih =>
    intro pre h
    obtain ⟨k, ih⟩ := ih (pre ++ [x]) (by simpa using h)
    have es := S202 (P := P) x
    simp [-List.any_eq_true] at ih h
    have hw : IntKind.i64.wrap (↑pre.length + 1) = ↑pre.length + 1 := wrap64 (by omega) (by omega)
    have hlt : (pre.length : Int) < pre.length + (r.length + 1) := by omega
    cases h0 : farI x
    · refine ⟨k, ?_⟩
      rw [h0] at es
      rw [r210_l0]
      simp [c210_l0b, hw, hlt, es, h0, ih, -List.any_eq_true]
    · refine ⟨pre.length, ?_⟩
      rw [h0] at es
      rw [r210_l0]
      simp [c210_l0b, hw, hlt, es, h0, -List.any_eq_true]
theorem S66b (l : List Int) (h : (l.length : Int) < 9223372036854775807) : fn P 184 [.slice (l.map ci), .func 202 [] []] = some (.bool (l.any farI)) := by
  obtain ⟨k, hl⟩ := L77b (P := P) l [] (by simpa using h)
  simp [-List.any_eq_true] at hl
  have e170 : fn P 210 [.slice (l.map ci), .func 202 [] []] = some (ci (if l.any farI then (k : Int) else -1)) := by
    rw [u210]
    cases h0 : l.any farI <;> rw [h0] at hl <;> simp [c210, hl]
  rw [u184]
  cases h0 : l.any farI <;> rw [h0] at e170 <;> simp [c184, e170]
def aloneE (x : Rs) : Int := firstE [whenE (!isName x.who) 8, whenE (!stateOk x.state) 13, whenE (!isS x && decide (0 < x.vals.length)) 1, whenE (decide (8 < x.vals.length)) 5, whenE (x.vals.any farI) 3]
theorem S166 : fn P 166 [] = some (.slice (statesL.map CV.str)) := by
  have hr := resV_own1 (b := 1) (g := 1) (fz := 0) (e := none) (ys := statesL.map CV.str) (h := [.cells 1 [] 0, .cells 1 (cellsOf (statesL.map CV.str)) 0]) (len := 4) rfl (strElems _) rfl (some 4)
  simp [statesL, cellsOf] at hr
  rw [u166]
  simp [c166, statesL, hr]
theorem S165 (x : Rs) (hx : x.ok) : fn P 165 [x.enc] = some (ci (aloneE x)) := by
  obtain ⟨h1, h2, h3⟩ := hx
  have e66 := S66b (P := P) x.vals h3
  have e54 := S166 (P := P)
  have e33 := S86 (P := P) x.state statesL (by decide)
  have e69 := S85 (P := P) x.who h1
  have e24 := S111_5 (P := P)
  have hst : statesL.any (Str.is x.state) = stateOk x.state := rfl
  rw [hst] at e33
  have hS : isS x = decide (x.state = []) := rfl
  have d8 : decide ((8 : Int) < (x.vals.length : Int)) = decide (8 < x.vals.length) := decide_eq_decide.2 (by omega)
  rw [u165]
  unfold aloneE
  by_cases hs : x.state = []
  · rw [hs] at e33
    simp [c165, Rs.enc, e66, e54, e33, e69, e24, hs, hS, d8, -List.any_eq_true]
  · simp [c165, Rs.enc, e66, e54, e33, e69, e24, hs, hS, d8, -List.any_eq_true]
end LM.GZ
namespace LM.GZ
open Go LM
variable {P : Nat → Option SFunc} [Has P]
theorem RG.alone {l : List Rs} (h : RG l) {x : Rs} (hx : x ∈ l) : aloneE x = 0 := by
  obtain ⟨a, b, c, d, e⟩ := h.one x hx
  unfold aloneE
  rw [a, b, c, d, e]
  rfl
theorem RG.fresh {l : List Rs} (h : RG l) {pre r : List Rs} {x : Rs} (hp : l = pre ++ x :: r) : x.who ∉ pre.map (·.who) := by
  intro hm
  obtain ⟨y, hy, e⟩ := List.mem_map.1 hm
  have := h.uniq
  rw [hp] at this
  exact (List.pairwise_append.1 this).2.2 y hy x (by simp) e
theorem RG.count {l : List Rs} (h : RG l) {pre r : List Rs} {x : Rs} (hp : l = pre ++ x :: r) (hs : isS x = true) : (x.vals.length : Int) = cntR (pre ++ [x]) := by
  rw [cntR_snoc]
  by_cases q : cntR pre < 0
  · rw [if_pos ⟨q, hs⟩]
  · rw [if_neg (fun z => q z.1)]
    unfold cntR at q ⊢
    cases hf : pre.find? isS with
    | none => rw [hf] at q; simp at q
    | some y =>
      have h1 := List.find?_some hf
      have h2 := List.mem_of_find?_eq_some hf
      have := h.like x (by rw [hp]; simp) y (by rw [hp]; simp [h2]) hs h1
      simp [this]
def seenB (pre : List Rs) : LB := .map ((pre.map (·.who)).map CV.str) (setV (pre.map (·.who))) false
theorem L102_0 (l : List Rs) (hg : RG l) (hk : ∀ x ∈ l, x.ok) (hl : l.length < 1000) : ∀ (r pre : List Rs), l = pre ++ r →
    execS P (limS P) c102_l0 ⟨[.map 0, .c (ci (cntR pre)), .c (.slice (l.map Rs.enc)), .c (ci l.length), .c (ci pre.length)], [seenB pre]⟩ = some (.exit 0, ⟨[], [seenB l]⟩) := by
  intro r
  induction r with
  | nil =>
    intro pre hp
    have hp' : l = pre := by simpa using hp
    subst hp'
    rw [r102_l0]
    simp [c102_l0b]
  | cons x r ih =>
    intro pre hp
    have ih := ih (pre ++ [x]) (by simp [hp])
    have hx : x ∈ l := by rw [hp]; simp
    have gx : l[pre.length]? = some x := by rw [hp]; simp
    have hpl : pre.length < l.length := (List.getElem?_eq_some_iff.1 gx).1
    obtain ⟨_, gx'⟩ := List.getElem?_eq_some_iff.1 gx
    have e50 := S165 (P := P) x (hk x hx)
    rw [hg.alone hx] at e50
    have hw : IntKind.i64.wrap ((pre.length : Int) + 1) = (pre.length : Int) + 1 := wrap64 (by omega) (by omega)
    have hlt : (pre.length : Int) < l.length := by omega
    have hno := findK_no x.who (hg.fresh hp)
    have hkk := keyOk_str x.who
    have hsv := setV_snoc (pre.map (·.who)) x.who
    have hu := fun n => setV_under n (pre.map (·.who))
    have hu2 := fun n => setV_under n ((pre ++ [x]).map (·.who))
    have hsn := cntR_snoc pre x
    have hcount := fun hs => hg.count hp hs
    have hS : isS x = decide (x.state = []) := rfl
    simp only [seenB, List.map_append, List.map_cons, List.map_nil] at ih hu2 ⊢
    simp only [Rs.enc] at e50
    generalize hN : pre.map (·.who) = N at *
    generalize cntR (pre ++ [x]) = cn at *
    rw [r102_l0]
    by_cases hs : x.state = []
    · rw [hs] at e50
      have hcn := hcount (by simp [isS, hs])
      by_cases q : cntR pre < 0
      · rw [if_pos ⟨q, by simp [isS, hs]⟩] at hsn
        subst hsn
        try simp at ih
        simp [c102_l0b, hlt, hpl, gx, gx', Rs.enc, e50, whenE, firstE, hno, hkk, hsv, hu, hu2, hs, q, hw, ih]
      · rw [if_neg (fun z => q z.1)] at hsn
        subst hsn
        try simp at ih
        simp [c102_l0b, hlt, hpl, gx, gx', Rs.enc, e50, whenE, firstE, hno, hkk, hsv, hu, hu2, hs, q, hcn, hw, ih]
    · rw [if_neg (fun z => hs (by simpa [isS] using z.2))] at hsn
      subst hsn
      try simp at ih
      simp [c102_l0b, hlt, hpl, gx, gx', Rs.enc, e50, whenE, firstE, hno, hkk, hsv, hu, hu2, hs, hw, ih]
theorem S102 (l : List Rs) (hg : RG l) (hk : ∀ x ∈ l, x.ok) (hl : l.length ≤ 160) : fn P 102 [.slice (l.map Rs.enc)] = some (ci 0) := by
  have hL := L102_0 (P := P) l hg hk (by omega) l [] rfl
  have e0 : cntR [] = -1 := rfl
  have e1 : seenB [] = .map [] [] false := rfl
  have hm : ¬ (160 : Int) < (l.length : Int) := by omega
  rw [u102]
  simp [e0, e1] at hL
  simp [c102, hm, hL]
end LM.GZ
namespace LM.GZ
open Go LM
variable {P : Nat → Option SFunc} [Has P]
theorem S158 (s : Str) (l : List Str) (h : (l.length : Int) < 9223372036854775807) : fn P 158 [.slice (l.map CV.str), .str s] = some (ci (idxF (Str.is s) 0 l)) := by
  have hl := L158 (P := P) s l [] (by simpa using h)
  rw [u158]
  simp at hl
  simp [c158, hl]
  exact fun hx => (idxF_none (by simpa using hx)).symm
theorem S104 (x y : Rs) (hx : x.vok) (hy : y.vok) : fn P 104 [x.enc, y.enc] = some (ci (cmpT x y)) := by
  have e54 := S166 (P := P)
  have e1 := S158 (P := P) x.state statesL (by decide)
  have e2 := S158 (P := P) y.state statesL (by decide)
  have e52 := S96j (P := P) (gradeR x) (gradeR y)
  have e48 := S117 (P := P) y.vals x.vals hy hx
  have g1 : idxF (Str.is x.state) 0 statesL = gradeR x := rfl
  have g2 : idxF (Str.is y.state) 0 statesL = gradeR y := rfl
  rw [g1] at e1
  rw [g2] at e2
  rw [u104]
  unfold cmpT
  by_cases h : cmpJ (gradeR x) (gradeR y) = 0
  · rw [h] at e52
    simp [c104, Rs.enc, e54, e1, e2, e52, e48, h]
  · simp [c104, Rs.enc, e54, e1, e2, e52, e48, h]
theorem cntT_snoc (pre : List Rs) (x y : Rs) : cntT (pre ++ [y]) x = if cmpT y x < 0 then cntT pre x + 1 else cntT pre x := by
  unfold cntT btT
  rw [List.filter_append]
  by_cases h : cmpT y x < 0
  · simp [h]
  · simp [h]
theorem L103_0 (l : List Rs) (hv : ∀ x ∈ l, x.vok) (hl : l.length < 1000) (x : Rs) (hx : x.vok) (i : Nat) (O : LV) (hO : O = .slice 1 (1 + i) 0 i none none) (A : List LV) (hA : underL 3 A = true) : ∀ (r pre : List Rs), l = pre ++ r →
    execS P (limS P) c103_l0 ⟨[.c (.slice (l.map Rs.enc)), .c (.func 104 [] []), O, .ptr 2 0 0, .c (ci (1 + cntT pre x)), .c (.slice (l.map Rs.enc)), .c (ci l.length), .c (ci i), .c (.slice (l.map Rs.enc)), .c (ci l.length), .c (ci pre.length)], [.cells 1 [] 0, .cells (1 + i) A 0, RB3 x 0]⟩ =
      some (.exit 2, ⟨[.c (.slice (l.map Rs.enc)), .c (.func 104 [] []), O, .c (ci (1 + cntT l x)), .c (.slice (l.map Rs.enc)), .c (ci l.length), .c (ci i)], [.cells 1 [] 0, .cells (1 + i) A 0, RB3 x 0]⟩) := by
  subst hO
  intro r
  induction r with
  | nil =>
    intro pre hp
    have hp' : l = pre := by simpa using hp
    subst hp'
    rw [r103_l0]
    simp [c103_l0b]
  | cons y r ih =>
    intro pre hp
    have ih := ih (pre ++ [y]) (by simp [hp])
    have hy : y ∈ l := by rw [hp]; simp
    have gy : l[pre.length]? = some y := by rw [hp]; simp
    have hpl : pre.length < l.length := (List.getElem?_eq_some_iff.1 gy).1
    obtain ⟨_, gy'⟩ := List.getElem?_eq_some_iff.1 gy
    have hw : IntKind.i64.wrap ((pre.length : Int) + 1) = (pre.length : Int) + 1 := wrap64 (by omega) (by omega)
    have hlt : (pre.length : Int) < l.length := by omega
    have e28 := S104 (P := P) y x (hv y hy) hx
    have hsn := cntT_snoc pre x y
    have hb : 0 ≤ cntT pre x ∧ cntT pre x ≤ pre.length := by
      unfold cntT
      have := List.length_filter_le (fun z => btT z x) pre
      omega
    have hw2 : IntKind.i64.wrap (1 + cntT pre x + 1) = 1 + (cntT pre x + 1) := by rw [show 1 + cntT pre x + 1 = 1 + (cntT pre x + 1) from by omega]; exact wrap64 (by omega) (by omega)
    simp only [Rs.enc, RB3] at *
    rw [r103_l0]
    by_cases h : cmpT y x < 0
    · rw [if_pos h] at hsn
      rw [hsn] at ih
      simp at ih
      simp [c103_l0b, hlt, hpl, gy, gy', Rs.enc, e28, h, hw, hw2, hA, ih]
    · rw [if_neg h] at hsn
      rw [hsn] at ih
      simp at ih
      simp [c103_l0b, hlt, hpl, gy, gy', Rs.enc, e28, h, hw, hA, ih]
theorem rkElems (l pre : List Rs) : ∀ x ∈ pre.map (fun x => ci (rankT l x)), Elem none x := by
  intro x hx
  obtain ⟨y, _, rfl⟩ := List.mem_map.1 hx
  exact ⟨rfl, rfl⟩
theorem L103_1 (l : List Rs) (hv : ∀ x ∈ l, x.vok) (hl : l.length < 1000) : ∀ (r pre : List Rs), l = pre ++ r →
    execS P (limS P) c103_l1 ⟨[.c (.slice (l.map Rs.enc)), .c (.func 104 [] []), .slice 1 (1 + pre.length) 0 pre.length none none, .c (.slice (l.map Rs.enc)), .c (ci l.length), .c (ci pre.length)], [.cells 1 [] 0, .cells (1 + pre.length) (cellsOf (pre.map (fun x => ci (rankT l x)))) 0]⟩ =
      some (.exit 0, ⟨[.slice 1 (1 + l.length) 0 l.length none none], [.cells 1 [] 0, .cells (1 + l.length) (cellsOf (l.map (fun x => ci (rankT l x)))) 0]⟩) := by
  intro r
  induction r with
  | nil =>
    intro pre hp
    have hp' : l = pre := by simpa using hp
    subst hp'
    rw [r103_l1]
    simp [c103_l1b]
  | cons x r ih =>
    intro pre hp
    have ih := ih (pre ++ [x]) (by simp [hp])
    have hx : x ∈ l := by rw [hp]; simp
    have gx : l[pre.length]? = some x := by rw [hp]; simp
    have hpl : pre.length < l.length := (List.getElem?_eq_some_iff.1 gx).1
    obtain ⟨_, gx'⟩ := List.getElem?_eq_some_iff.1 gx
    have hw : IntKind.i64.wrap ((pre.length : Int) + 1) = (pre.length : Int) + 1 := wrap64 (by omega) (by omega)
    have hlt : (pre.length : Int) < l.length := by omega
    have h0 := L103_0 (P := P) l hv hl x (hv x hx) pre.length _ rfl (cellsOf (pre.map (fun x => ci (rankT l x)))) (underL_cellsOf _ _) l [] rfl
    have hc0 : cntT [] x = 0 := rfl
    have hr : 1 + cntT l x = rankT l x := rfl
    rw [hc0, hr] at h0
    have ha := fun X0 X2 => append_own (b := 1) (g := 1 + pre.length) (bytes := 8) (e := none) (ys := pre.map (fun x => ci (rankT l x))) (xs := [ci (rankT l x)]) (h := [X0, .cells (1 + pre.length) (cellsOf (pre.map (fun x => ci (rankT l x)))) 0, X2]) (len := pre.length) (fz := 0) rfl (rkElems _ _) (by intro y hy; simp at hy; rw [hy]; exact ⟨rfl, rfl⟩) (by simp) (Nat.zero_le _) (by simp) (by simp; omega) (by simp; omega)
    have e1 : 1 + (pre.length + 1) = 1 + pre.length + 1 := by omega
    simp only [RB3, List.map_append, List.map_cons, List.map_nil, List.length_append, List.length_cons, List.length_nil] at h0 ih ha
    have hu1 := underL_cellsOf 2 (pre.map (fun x => ci (rankT l x)) ++ [ci (rankT l x)])
    generalize pre.map (fun x => ci (rankT l x)) = D at *
    rw [r103_l1]
    simp [e1] at h0 ih ha
    simp [c103_l1b, hlt, hpl, gx, gx', Rs.enc, h0, ha, hw, hu1, ih]
theorem S103 (l : List Rs) (hv : ∀ x ∈ l, x.vok) (hl : l.length < 1000) : fn P 103 [.slice (l.map Rs.enc), .func 104 [] []] = some (.slice (l.map (fun x => ci (rankT l x)))) := by
  have hL := L103_1 (P := P) l hv hl l [] rfl
  have hr := resV_own1 (b := 1) (g := 1 + l.length) (fz := 0) (e := none) (ys := l.map (fun x => ci (rankT l x))) (h := [.cells 1 [] 0, .cells (1 + l.length) (cellsOf (l.map (fun x => ci (rankT l x)))) 0]) (len := l.length) rfl (rkElems _ _) (by simp) none
  generalize l.map (fun x => ci (rankT l x)) = D at *
  rw [u103]
  simp at hL
  simp [c103, hL, hr]
end LM.GZ
namespace LM.GZ
open Go LM
variable {P : Nat → Option SFunc} [Has P]
def ranksL (l : List Rs) : List Int := l.map (rankT l)
theorem ranksL_length (l : List Rs) : (ranksL l).length = l.length := by simp [ranksL]
abbrev Nr := Nat × Rs
def Nr.enc (p : Nr) : CV := ci p.1
end LM.GZ
namespace LM.GZ
open Go LM
variable {P : Nat → Option SFunc} [Has P]
theorem S39 (l : List Rs) (hg : RG l) (hk : ∀ x ∈ l, x.ok) (hl : l.length ≤ 160) : fn P 39 [.slice (l.map Rs.enc)] = some (.tuple [.slice ((ranksL l).map ci), ci 0]) := by
  have e25 := S102 (P := P) l hg hk hl
  have e27 := S103 (P := P) l (fun x hx => (hk x hx).2.2) (by omega)
  have hR : l.map (fun x => ci (rankT l x)) = (ranksL l).map ci := by simp [ranksL]
  rw [hR] at e27
  rw [u39]
  simp [c39, e25, e27]
end LM.GZ
namespace LM.GZ
open Go LM
variable {P : Nat → Option SFunc} [Has P]
def Op.ok (x : Op) : Prop := x.who.length < 9223372036854775807
def isO (s : Str) (y : Op) : Bool := decide (y.who = s)
def badR (x : Op) : Bool := outside x.low 0 99999 || outside x.high 0 99999
def openE1 (pre : List Op) (x : Op) : Int := firstE [whenE (!isName x.who) 8, whenE (pre.any (isO x.who)) 9, whenE (badR x) 3, whenE (decide (x.low > x.high)) 11]
def openE (l : List Op) : Int := if l.length = 0 then 12 else if (l.length : Int) > 160 then 5 else eachE openE1 [] l
def OB3 (x : Op) (z : Nat) : LB := .cells 0 [.c (.str x.who), .c (ci x.low), .c (ci x.high)] z
theorem L37_0 (X : List Op) (x : Op) : ∀ (r pre rest : List Op), X = pre ++ r ++ x :: rest → (X.length : Int) < 9223372036854775807 →
    execS P (limS P) c37_l0 ⟨[.c (.slice (X.map Op.enc)), .c (ci (pre ++ r).length), .ptr 0 0 0, .c (ci pre.length)], [OB3 x 0]⟩ = if r.any (isO x.who) then some (.ret, ⟨[.c (ci 9)], [OB3 x 0]⟩) else some (.exit 2, ⟨[.c (.slice (X.map Op.enc)), .c (ci (pre ++ r).length), .ptr 0 0 0], [OB3 x 0]⟩) := by
  intro r
  induction r with
  | nil =>
    intro pre rest hX hl
    rw [r37_l0]
    simp [c37_l0b]
  | cons y r ih =>
    intro pre rest hX hl
    have ih := ih (pre ++ [y]) rest (by simp [hX]) hl
    have gy : X[pre.length]? = some y := by rw [hX]; simp
    have hpl : pre.length < X.length := (List.getElem?_eq_some_iff.1 gy).1
    obtain ⟨_, gy'⟩ := List.getElem?_eq_some_iff.1 gy
    have hw : IntKind.i64.wrap (↑pre.length + 1) = ↑pre.length + 1 := wrap64 (by omega) (by omega)
    have hlt : (pre.length : Int) < pre.length + (r.length + 1) := by omega
    have k1 : (pre.length : Int) < X.length := by omega
    have hO : isO x.who y = decide (y.who = x.who) := rfl
    simp [-List.any_eq_true] at ih
    rw [r37_l0]
    by_cases h : y.who = x.who
    · simp [c37_l0b, hlt, k1, hpl, gy, gy', Op.enc, OB3, hO, h, -List.any_eq_true]
    · simp only [OB3] at ih ⊢
      simp [c37_l0b, hlt, k1, hpl, gy, gy', Op.enc, hO, h, hw, ih, -List.any_eq_true]
theorem L37_1 : ∀ (r pre : List Op), (∀ x ∈ r, x.ok) → ((pre ++ r).length : Int) < 9223372036854775807 →
    ∃ H, execS P (limS P) c37_l1 ⟨[.c (.slice ((pre ++ r).map Op.enc)), .c (ci pre.length)], []⟩ = if eachE openE1 pre r = 0 then some (.exit 0, ⟨[], []⟩) else some (.ret, ⟨[.c (ci (eachE openE1 pre r))], H⟩) := by
  intro r
  induction r with
  | nil =>
    intro pre _ h
    refine ⟨[], ?_⟩
    rw [r37_l1]
    simp [c37_l1b, eachE]
  | cons x r ih =>
    intro pre hk h
    obtain ⟨H, ih⟩ := ih (pre ++ [x]) (fun y hy => hk y (by simp [hy])) (by simpa using h)
    have e61 := S61 (P := P) x.who
    have h0 := L37_0 (P := P) (pre ++ x :: r) x pre [] r (by simp) h
    have hE : eachE openE1 pre (x :: r) = if openE1 pre x ≠ 0 then openE1 pre x else eachE openE1 (pre ++ [x]) r := rfl
    have hR : openE1 pre x = firstE [whenE (!isName x.who) 8, whenE (pre.any (isO x.who)) 9, whenE (badR x) 3, whenE (decide (x.low > x.high)) 11] := rfl
    have hb : badR x = ((decide (x.low < 0) || decide (x.low > 99999)) || (decide (x.high < 0) || decide (x.high > 99999))) := rfl
    simp [OB3, Op.enc, -List.any_eq_true] at ih h h0
    have hw : IntKind.i64.wrap (↑pre.length + 1) = ↑pre.length + 1 := wrap64 (by omega) (by omega)
    have hlt : (pre.length : Int) < pre.length + (r.length + 1) := by omega
    refine ⟨if openE1 pre x ≠ 0 then [OB3 x 0] else H, ?_⟩
    rw [hE, r37_l1]
    by_cases q1 : isName x.who = true
    · cases q2 : pre.any (isO x.who)
      · rw [q2] at h0
        simp at h0
        by_cases q3 : badR x = true
        · have hz : openE1 pre x = 3 := by rw [hR, q1, q2, q3]; simp [whenE, firstE]
          rw [hb] at q3
          by_cases a1 : x.low < 0
          · simp [c37_l1b, hlt, Op.enc, e61, q1, h0, hz, a1, OB3]
          · by_cases a2 : 99999 < x.low
            · simp [c37_l1b, hlt, Op.enc, e61, q1, h0, hz, a1, a2, OB3]
            · by_cases a3 : x.high < 0
              · simp [c37_l1b, hlt, Op.enc, e61, q1, h0, hz, a1, a2, a3, OB3]
              · have a4 : 99999 < x.high := by simp at q3; omega
                simp [c37_l1b, hlt, Op.enc, e61, q1, h0, hz, a1, a2, a3, a4, OB3]
        · have q3' : badR x = false := by simpa using q3
          rw [hb] at q3'
          simp at q3'
          obtain ⟨⟨a1, a2⟩, a3, a4⟩ := q3'
          have b1 : ¬ x.low < 0 := by omega
          have b2 : ¬ 99999 < x.low := by omega
          have b3 : ¬ x.high < 0 := by omega
          have b4 : ¬ 99999 < x.high := by omega
          by_cases q4 : x.high < x.low
          · have hz : openE1 pre x = 11 := by rw [hR, q1, q2]; simp [whenE, firstE, q3, q4]
            simp [c37_l1b, hlt, Op.enc, e61, q1, h0, hz, b1, b2, b3, b4, q4, OB3]
          · have hz : openE1 pre x = 0 := by rw [hR, q1, q2]; simp [whenE, firstE, q3, q4]
            simp [c37_l1b, hlt, Op.enc, e61, q1, h0, hz, b1, b2, b3, b4, q4, hw, ih]
      · rw [q2] at h0
        simp at h0
        have hz : openE1 pre x = 9 := by rw [hR, q1, q2]; simp [whenE, firstE]
        simp [c37_l1b, hlt, Op.enc, e61, q1, h0, hz, OB3]
    · have q1' : isName x.who = false := by simpa using q1
      have hz : openE1 pre x = 8 := by rw [hR, q1']; simp [whenE, firstE]
      simp [c37_l1b, hlt, Op.enc, e61, q1', hz, OB3]
theorem S37 (l : List Op) (hk : ∀ x ∈ l, x.ok) (h : (l.length : Int) < 9223372036854775807) : fn P 37 [.slice (l.map Op.enc)] = some (ci (openE l)) := by
  obtain ⟨H, hL⟩ := L37_1 (P := P) l [] hk (by simpa using h)
  simp at hL
  rw [u37]
  unfold openE
  by_cases h0 : l = []
  · subst h0; simp [c37]
  · have h0' : ¬ l.length = 0 := fun e => h0 (List.eq_nil_of_length_eq_zero e)
    by_cases hm : (l.length : Int) > 160
    · have hm' : (160 : Int) < (l.length : Int) := hm
      simp [c37, h0, h0', hm']
    · have hm' : ¬ (160 : Int) < (l.length : Int) := hm
      simp [c37, h0, h0', hm', hL]
      by_cases h1 : eachE openE1 [] l = 0 <;> simp [h1]
end LM.GZ
namespace LM.GZ
open Go LM
variable {P : Nat → Option SFunc} [Has P]
theorem open_og {l : List Op} (h : openE l = 0) : OG l ∧ l ≠ [] ∧ l.length ≤ 160 := by
  unfold openE at h
  split at h
  · cases h
  · rename_i h0
    split at h
    · cases h
    · rename_i h1
      have key : ∀ (r pre : List Op), eachE openE1 pre r = 0 → (∀ x ∈ r, isName x.who = true ∧ 0 ≤ x.low ∧ x.low ≤ 99999 ∧ 0 ≤ x.high ∧ x.high ≤ 99999 ∧ x.low ≤ x.high) ∧ (∀ x ∈ pre, ∀ y ∈ r, x.who ≠ y.who) ∧ r.Pairwise (fun x y => x.who ≠ y.who) := by
        intro r
        induction r with
        | nil => intro pre _; exact ⟨by simp, by simp, List.Pairwise.nil⟩
        | cons z r ih =>
          intro pre h
          rw [eachE] at h
          split at h
          · rename_i q; exact absurd h q
          · rename_i q
            have q : openE1 pre z = 0 := by simpa using q
            obtain ⟨i1, i2, i3⟩ := ih (pre ++ [z]) h
            unfold openE1 at q
            simp only [firstE_zC, whenE_zC (show (8 : Int) ≠ 0 by decide), whenE_zC (show (9 : Int) ≠ 0 by decide), whenE_zC (show (3 : Int) ≠ 0 by decide), whenE_zC (show (11 : Int) ≠ 0 by decide)] at q
            obtain ⟨q1, q2, q3, q4, _⟩ := q
            unfold badR outside at q3
            simp at q1 q3 q4
            refine ⟨?_, ?_, ?_⟩
            · intro x hx
              rcases List.mem_cons.1 hx with rfl | hx
              · exact ⟨q1, by omega, by omega, by omega, by omega, by omega⟩
              · exact i1 x hx
            · intro x hx y hy
              rcases List.mem_cons.1 hy with rfl | hy
              · rw [List.any_eq_false] at q2
                have := q2 x hx
                simpa [isO] using this
              · exact i2 x (by simp [hx]) y hy
            · exact List.Pairwise.cons (fun y hy => i2 z (by simp) y hy) i3
      obtain ⟨k1, _, k3⟩ := key l [] h
      exact ⟨⟨k1, k3⟩, fun e => h0 (by rw [e]; rfl), by omega⟩
theorem OG.fresh {l : List Op} (h : OG l) {pre r : List Op} {x : Op} (hp : l = pre ++ x :: r) : x.who ∉ pre.map (·.who) := by
  intro hm
  obtain ⟨y, hy, e⟩ := List.mem_map.1 hm
  have := h.uniq
  rw [hp] at this
  exact (List.pairwise_append.1 this).2.2 y hy x (by simp) e
def seenO (pre : List Op) : LB := .map ((pre.map (·.who)).map CV.str) (setV (pre.map (·.who))) false
theorem L167_0 (l : List Op) (hg : OG l) (hk : ∀ x ∈ l, x.ok) (hl : l.length < 1000) : ∀ (r pre : List Op), l = pre ++ r →
    execS P (limS P) c167_l0 ⟨[.map 0, .c (.slice (l.map Op.enc)), .c (ci l.length), .c (ci pre.length)], [seenO pre]⟩ = some (.exit 0, ⟨[], [seenO l]⟩) := by
  intro r
  induction r with
  | nil =>
    intro pre hp
    have hp' : l = pre := by simpa using hp
    subst hp'
    rw [r167_l0]
    simp [c167_l0b]
  | cons x r ih =>
    intro pre hp
    have ih := ih (pre ++ [x]) (by simp [hp])
    have hx : x ∈ l := by rw [hp]; simp
    have gx : l[pre.length]? = some x := by rw [hp]; simp
    have hpl : pre.length < l.length := (List.getElem?_eq_some_iff.1 gx).1
    obtain ⟨_, gx'⟩ := List.getElem?_eq_some_iff.1 gx
    obtain ⟨n1, n2, n3, n4, n5, n6⟩ := hg.one x hx
    have e85 := S85 (P := P) x.who (hk x hx)
    rw [n1] at e85
    have o1 : outside x.low 0 99999 = false := by unfold outside; simp; omega
    have o2 : outside x.high 0 99999 = false := by unfold outside; simp; omega
    have o3 : ¬ x.high < x.low := by omega
    have hw : IntKind.i64.wrap ((pre.length : Int) + 1) = (pre.length : Int) + 1 := wrap64 (by omega) (by omega)
    have hlt : (pre.length : Int) < l.length := by omega
    have hno := findK_no x.who (hg.fresh hp)
    have hkk := keyOk_str x.who
    have hsv := setV_snoc (pre.map (·.who)) x.who
    have hu := fun n => setV_under n (pre.map (·.who))
    have hu2 := fun n => setV_under n ((pre ++ [x]).map (·.who))
    simp only [seenO, List.map_append, List.map_cons, List.map_nil] at ih hu2 ⊢
    generalize hN : pre.map (·.who) = N at *
    simp at ih
    rw [r167_l0]
    simp [c167_l0b, hlt, hpl, gx, gx', Op.enc, e85, o1, o2, o3, whenE, firstE, hno, hkk, hsv, hu, hu2, hw, ih]
theorem S167 (l : List Op) (hg : OG l) (hn : l ≠ []) (hk : ∀ x ∈ l, x.ok) (hl : l.length ≤ 160) : fn P 167 [.slice (l.map Op.enc)] = some (ci 0) := by
  have hL := L167_0 (P := P) l hg hk (by omega) l [] rfl
  have e1 : seenO [] = .map [] [] false := rfl
  have hm : ¬ (160 : Int) < (l.length : Int) := by omega
  have h0 : ¬ (l.length : Int) = 0 := by have := List.length_pos_iff.2 hn; omega
  rw [u167]
  simp [e1] at hL
  simp [c167, hn, hm, whenE, firstE, hL]
theorem S105 (l : List Op) (hg : OG l) (hn : l ≠ []) (hk : ∀ x ∈ l, x.ok) (hl : l.length ≤ 160) (c : Nat) (hc : c < l.length) : fn P 105 [.slice (l.map Op.enc), ci c] = some (ci 0) := by
  have e167 := S167 (P := P) l hg hn hk hl
  have h1 : ¬ (c : Int) < 0 := by omega
  have h2 : ¬ (l.length : Int) ≤ c := by omega
  have h3 : ¬ l.length ≤ c := by omega
  rw [u105]
  simp [c105, e167, h1, h2, h3, whenE, firstE]
theorem S107 (l : List Op) (hg : OG l) (hn : l ≠ []) (hk : ∀ x ∈ l, x.ok) (hl : l.length ≤ 160) (c : Nat) (hc : c < l.length) (rank : Int) (h1 : 1 ≤ rank) (h2 : rank ≤ l.length) : fn P 107 [.slice (l.map Op.enc), ci c, ci rank] = some (ci 0) := by
  have e105 := S105 (P := P) l hg hn hk hl c hc
  have o1 : outside rank 1 l.length = false := by unfold outside; simp; omega
  rw [u107]
  simp [c107, e105, o1, whenE, firstE]
theorem L108_0 (l : List Op) (hl : l.length < 1000) (c : Nat) (v : Int) : ∀ (r pre : List Op) (a b : Int), l = pre ++ r → 0 ≤ a → a ≤ pre.length → 0 ≤ b → b ≤ pre.length →
    execS P (limS P) c108_l0 ⟨[.c (ci c), .c (ci v), .c (ci a), .c (ci b), .c (.slice (l.map Op.enc)), .c (ci l.length), .c (ci pre.length)], []⟩ =
      some (.exit 0, ⟨[.c (ci (a + cntA c (leastP v) pre.length r)), .c (ci (b + cntA c (mostP v) pre.length r))], []⟩) := by
  intro r
  induction r with
  | nil =>
    intro pre a b hp _ _ _ _
    have hp' : l = pre := by simpa using hp
    subst hp'
    rw [r108_l0]
    simp [c108_l0b, cntA]
  | cons x r ih =>
    intro pre a b hp ha1 ha2 hb1 hb2
    have ih := fun a b => ih (pre ++ [x]) a b (by simp [hp])
    have gx : l[pre.length]? = some x := by rw [hp]; simp
    have hpl : pre.length < l.length := (List.getElem?_eq_some_iff.1 gx).1
    obtain ⟨_, gx'⟩ := List.getElem?_eq_some_iff.1 gx
    have hw : IntKind.i64.wrap ((pre.length : Int) + 1) = (pre.length : Int) + 1 := wrap64 (by omega) (by omega)
    have wa : IntKind.i64.wrap (a + 1) = a + 1 := wrap64 (by omega) (by omega)
    have wb : IntKind.i64.wrap (b + 1) = b + 1 := wrap64 (by omega) (by omega)
    have hlt : (pre.length : Int) < l.length := by omega
    simp only [List.length_append, List.length_singleton] at ih
    have hcc : ((pre.length : Int) = (c : Int)) ↔ pre.length = c := by omega
    rw [r108_l0]
    simp only [cntA, leastP_iff, mostP_iff]
    simp at ih
    by_cases h1 : pre.length = c
    · have ih := ih a b ha1 (by omega) hb1 (by omega)
      rw [h1] at ih hlt hw hpl gx
      simp only [h1] at gx'
      simp [c108_l0b, hlt, hpl, gx, gx', Op.enc, h1, hw, ih]
    · by_cases h2 : v < x.low
      · by_cases h3 : v < x.high
        · have ih := ih (a + 1) (b + 1) (by omega) (by omega) (by omega) (by omega)
          simp [c108_l0b, hlt, hpl, gx, gx', Op.enc, h1, h2, h3, hcc, hw, wa, wb, ih, Int.add_assoc]
        · have ih := ih (a + 1) b (by omega) (by omega) (by omega) (by omega)
          simp [c108_l0b, hlt, hpl, gx, gx', Op.enc, h1, h2, h3, hcc, hw, wa, wb, ih, Int.add_assoc]
      · by_cases h3 : v < x.high
        · have ih := ih a (b + 1) (by omega) (by omega) (by omega) (by omega)
          simp [c108_l0b, hlt, hpl, gx, gx', Op.enc, h1, h2, h3, hcc, hw, wa, wb, ih, Int.add_assoc]
        · have ih := ih a b (by omega) (by omega) (by omega) (by omega)
          simp [c108_l0b, hlt, hpl, gx, gx', Op.enc, h1, h2, h3, hcc, hw, wa, wb, ih, Int.add_assoc]
theorem S108 (l : List Op) (hl : l.length < 1000) (c : Nat) (v : Int) : fn P 108 [.slice (l.map Op.enc), ci c, ci v] = some (.tuple [ci (leastL l c v), ci (mostL l c v)]) := by
  have hL := L108_0 (P := P) l hl c v l [] 0 0 rfl (by omega) (by simp) (by omega) (by simp)
  have e1 : cntA c (leastP v) 0 l = leastL l c v := rfl
  have e2 : cntA c (mostP v) 0 l = mostL l c v := rfl
  simp [e1, e2] at hL
  rw [u108]
  simp [c108, hL, resV, mkTuple]
end LM.GZ
namespace LM.GZ
open Go LM
variable {P : Nat → Option SFunc} [Has P]
theorem S248 (a b : Int) : fn P 248 [ci a, ci b] = some (.bool (ltN a b)) := by
  have e : ∀ x : Int, fn P 133 [ci x] = some (.bool false) := fun x => by rw [u133]; simp [c133]
  rw [u248]
  simp [c248, e, ltN]
section
variable {H : Heap} {b g : Nat} {cp : Option Nat}
theorem cI_get1 {A B : List Int} {x : Int} {k : Nat} (h : k = A.length) : (cI (A ++ x :: B))[k]? = some (.c (ci x)) := by subst h; simp [cI]
theorem L242_0 (hb : b < H.length) (hg : g ≠ 0) (bb i : CV) (n : Nat) (hn : n < 1000000) : ∀ (L : List Int) (x : Int) (Q : List Int), n = L.length + 1 + Q.length →
    execS P (limS P) c242_l0 ⟨[.slice b g 0 n none cp, .c (ci 0), .c bb, .c i, .c (ci L.length)], H.set b (.cells g (cI (L.reverse ++ x :: Q)) 0)⟩ =
      some (.exit 2, ⟨[.slice b g 0 n none cp, .c (ci 0), .c bb, .c i], H.set b (.cells g (cI (insL ltN x L Q)) 0)⟩) := by
  intro L
  induction L with
  | nil =>
    intro x Q h
    rw [r242_l0]
    simp [c242_l0b, insL]
  | cons y L ih =>
    intro x Q h
    have ih := ih x (y :: Q) (by simp at h ⊢; omega)
    simp at h
    have hlt : 0 < (L.length : Int) + 1 := by omega
    have hw : IntKind.i64.wrap ((L.length : Int)) = L.length := wrap64 (by omega) (by omega)
    have t1 : ((L.length : Int) + 1).toNat = L.length + 1 := by omega
    have i1 : (L.length : Int) + 1 < n := by omega
    have i2 : (L.length : Int) < n := by omega
    have j1 : 0 ≤ (L.length : Int) + 1 := by omega
    have e : (y :: L).reverse ++ x :: Q = L.reverse ++ y :: x :: Q := by simp
    have g1 : (cI (L.reverse ++ y :: x :: Q))[L.length]? = some (.c (ci y)) := cI_get1 (by simp)
    have g2 : (cI (L.reverse ++ y :: x :: Q))[L.length + 1]? = some (.c (ci x)) := by
      have : L.reverse ++ y :: x :: Q = (L.reverse ++ [y]) ++ x :: Q := by simp
      rw [this]; exact cI_get1 (by simp)
    have hlen : (cI (L.reverse ++ y :: x :: Q)).length = n := by rw [cI_length]; simp; omega
    have gs : ((cI (L.reverse ++ y :: x :: Q)).set (L.length + 1) (.c (ci y))).set L.length (.c (ci x)) = cI (L.reverse ++ x :: y :: Q) := by
      have q : cI (L.reverse ++ y :: x :: Q) = cI L.reverse ++ .c (ci y) :: .c (ci x) :: cI Q := by simp [cI]
      have q2 : cI (L.reverse ++ x :: y :: Q) = cI L.reverse ++ .c (ci x) :: .c (ci y) :: cI Q := by simp [cI]
      have ql : (cI L.reverse).length = L.length := by simp [cI_length]
      rw [q, q2, List.set_append_right _ _ (by omega), ql, show L.length + 1 - L.length = 1 from by omega, List.set_cons_succ, List.set_cons_zero, List.set_append_right _ _ (by omega), ql, Nat.sub_self, List.set_cons_zero]
    obtain ⟨p1, g1'⟩ := List.getElem?_eq_some_iff.1 g1
    obtain ⟨p2, g2'⟩ := List.getElem?_eq_some_iff.1 g2
    have hs := S248 (P := P) x y
    have hl : ltN x y = decide (x < y) := rfl
    have k1 : L.length + 1 + 1 ≤ n := by omega
    have k2 : L.length + 1 ≤ n := by omega
    have k3 : L.length < n := by omega
    have k4 : L.length + 1 < n := by omega
    rw [e, r242_l0]
    simp only [insL]
    generalize hD : cI (L.reverse ++ y :: x :: Q) = D at *
    by_cases hk : x < y
    · rw [hl, decide_eq_true hk] at hs
      simp [c242_l0b, hb, hlt, hw, t1, i1, i2, j1, g1, g2, g1', g2', gs, hs, hl, hk, take_set, hlen, k1, k2, k3, k4, ih]
    · rw [hl, decide_eq_false hk] at hs
      simp [c242_l0b, hb, hlt, hw, t1, i1, i2, j1, g1, g2, g1', g2', hs, hl, hk, take_set, hlen, k1, k2, k3, k4, hD]
theorem L242_1 (hb : b < H.length) (hg : g ≠ 0) (n : Nat) (hn : n < 1000000) : ∀ (U S : List Int), n = S.length + U.length →
    execS P (limS P) c242_l1 ⟨[.slice b g 0 n none cp, .c (ci 0), .c (ci n), .c (ci S.length)], H.set b (.cells g (cI (S ++ U)) 0)⟩ =
      some (.exit 0, ⟨[], H.set b (.cells g (cI (sortI ltN S U)) 0)⟩) := by
  intro U
  induction U with
  | nil =>
    intro S h
    have hlt : ¬ (S.length : Int) < n := by simp at h; omega
    rw [r242_l1]
    simp [c242_l1b, hlt, sortI]
  | cons x U ih =>
    intro S h
    have ih := ih (insS ltN x S) (by rw [insS_length]; simp at h ⊢; omega)
    have hin := L242_0 (P := P) (cp := cp) hb hg (ci n) (ci S.length) n hn S.reverse x U (by simp at h ⊢; omega)
    have e : insL ltN x S.reverse U = insS ltN x S ++ U := insL_append x S.reverse [] U
    rw [e] at hin
    rw [insS_length] at ih
    simp at hin ih h
    have hlt : (S.length : Int) < n := by omega
    have hw : IntKind.i64.wrap ((S.length : Int) + 1) = (S.length : Int) + 1 := wrap64 (by omega) (by omega)
    rw [r242_l1]
    simp only [sortI]
    simp [c242_l1b, hlt, hin, hw, hb, take_set, ih]
theorem S242 (hb : b < H.length) (hg : g ≠ 0) (U : List Int) (n : Nat) (hn : n < 1000000) (h : n = U.length) (hne : U ≠ []) :
    sfn P 242 [.slice b g 0 n none cp, .c (ci 0), .c (ci n)] (H.set b (.cells g (cI U) 0)) = some (.c (.tuple []), H.set b (.cells g (cI (sortN U)) 0)) := by
  cases U with
  | nil => exact absurd rfl hne
  | cons x U =>
    have hL := L242_1 (P := P) (cp := cp) hb hg n hn U [x] (by simp at h ⊢; omega)
    have e : sortN (x :: U) = sortI ltN [x] U := rfl
    have hw : IntKind.i64.wrap 1 = 1 := rfl
    simp at hL
    rw [u242, e]
    simp [c242, hw, hL]
theorem S203 (hb : b < H.length) (hg : g ≠ 0) (U : List Int) (n : Nat) (hn : n ≤ 12) (h : n = U.length) (hne : U ≠ []) (lim : CV) :
    sfn P 203 [.slice b g 0 n none cp, .c (ci 0), .c (ci n), .c lim] (H.set b (.cells g (cI U) 0)) = some (.c (.tuple []), H.set b (.cells g (cI (sortN U)) 0)) := by
  have hs := S242 (P := P) (cp := cp) hb hg U n (by omega) h hne
  have h12 : (n : Int) ≤ 12 := by omega
  have hw : IntKind.i64.wrap (n : Int) = n := wrap64 (by omega) (by omega)
  have hL : ∀ s, execS P (limS P) c203_l0 s = seqK (execS P (limS P) c203_l0b s) fun s' => execS P (limS P) c203_l0 (gc s.heap.length s') := r203_l0
  rw [u203]
  simp [c203]
  rw [hL]
  simp [c203_l0b, hw, h12, hs, frzFuncs_nil, frzFuncs_c, frzFuncs_slice]
end
end LM.GZ
namespace LM.GZ
open Go LM
variable {P : Nat → Option SFunc} [Has P]
set_option maxRecDepth 20000 in
theorem S252 (k : Nat) (h : k < 16) : ∃ v : Int, fn P 252 [.int .u64 k] = some (ci v) := by
  have key : k = 0 ∨ k = 1 ∨ k = 2 ∨ k = 3 ∨ k = 4 ∨ k = 5 ∨ k = 6 ∨ k = 7 ∨ k = 8 ∨ k = 9 ∨ k = 10 ∨ k = 11 ∨ k = 12 ∨ k = 13 ∨ k = 14 ∨ k = 15 := by omega
  have w : ∀ n : Nat, n < 16 → IntKind.u8.wrap (n : Int) = n := by
    intro n hn
    simp only [IntKind.wrap, IntKind.bits, IntKind.signed]
    simp
    omega
  have wk := w k h
  refine ⟨if k = 0 then 0 else if k = 1 then 1 else if k ≤ 3 then 2 else if k ≤ 7 then 3 else 4, ?_⟩
  rcases key with rfl | rfl | rfl | rfl | rfl | rfl | rfl | rfl | rfl | rfl | rfl | rfl | rfl | rfl | rfl | rfl
  all_goals
    rw [u252]
    simp at wk
    simp [c252, wk]
    try rfl
theorem S204 (k : Nat) (h : k < 16) : ∃ v : Int, fn P 204 [.int .u64 k] = some (ci v) := by
  obtain ⟨v, e⟩ := S252 (P := P) k h
  refine ⟨v, ?_⟩
  rw [u204]
  simp [c204, e]
section
variable {H : Heap} {b g : Nat} {cp : Option Nat}
theorem S169 (hb : b < H.length) (hg : g ≠ 0) (U : List Int) (n : Nat) (hn : n ≤ 12) (h : n = U.length) (hne : U ≠ []) :
    sfn P 169 [.slice b g 0 n none cp] (H.set b (.cells g (cI U) 0)) = some (.c (.tuple []), H.set b (.cells g (cI (sortN U)) 0)) := by
  obtain ⟨v, e⟩ := S204 (P := P) n (by omega)
  have hs := S203 (P := P) (cp := cp) hb hg U n hn h hne (ci v)
  have hw : IntKind.u64.wrap (n : Int) = n := by
    simp only [IntKind.wrap, IntKind.bits, IntKind.signed]
    simp
    omega
  rw [u169]
  simp [c169, hw, e, hs, frzFuncs_nil, frzFuncs_c, frzFuncs_slice]
theorem L170_0 (hb : b < H.length) (hg : g ≠ 0) (n : Nat) (hn : n < 1000000) (off : Nat) : ∀ (r D M : List Int) (p : Int), n = D.length + M.length + 1 + r.length → off ≤ D.length + M.length →
    ∃ M', D.length + (dd p r).length + M'.length = n ∧ execS P (limS P) c170_l0 ⟨[.slice b g 0 n none none, .c (ci D.length), .slice b g off (n - off) none none, .c (ci ((D.length + M.length + 1 - off : Nat) : Int))], H.set b (.cells g (cI (D ++ (M ++ p :: r))) 0)⟩ =
      some (.exit 2, ⟨[.slice b g 0 n none none, .c (ci (D ++ dd p r).length)], H.set b (.cells g (cI ((D ++ dd p r) ++ M')) 0)⟩) := by
  intro r
  induction r with
  | nil =>
    intro D M p h ho
    refine ⟨M ++ [p], by simp [dd] at h ⊢; omega, ?_⟩
    have hlt : ¬ (((D.length + M.length + 1 - off : Nat) : Int) < ((n - off : Nat) : Int)) := by simp at h; omega
    rw [r170_l0]
    simp [c170_l0b, hlt, dd]
  | cons x r ih =>
    intro D M p h ho
    simp at h
    have hlt : ((D.length + M.length + 1 - off : Nat) : Int) < ((n - off : Nat) : Int) := by omega
    have g1 : (cI (D ++ (M ++ p :: x :: r)))[off + (D.length + M.length + 1 - off)]? = some (.c (ci x)) := by
      have : D ++ (M ++ p :: x :: r) = (D ++ M ++ [p]) ++ x :: r := by simp
      rw [this]; exact cI_get1 (by simp; omega)
    have g2 : (cI (D ++ (M ++ p :: x :: r)))[off + (D.length + M.length - off)]? = some (.c (ci p)) := by
      have : D ++ (M ++ p :: x :: r) = (D ++ M) ++ p :: x :: r := by simp
      rw [this]; exact cI_get1 (by simp; omega)
    have hlen : (cI (D ++ (M ++ p :: x :: r))).length = n := by rw [cI_length]; simp; omega
    have w1 : IntKind.i64.wrap (((D.length + M.length + 1 - off : Nat) : Int) - 1) = ((D.length + M.length - off : Nat) : Int) := by
      rw [show ((D.length + M.length + 1 - off : Nat) : Int) - 1 = ((D.length + M.length - off : Nat) : Int) from by omega]
      exact wrap64 (by omega) (by omega)
    have w2 : IntKind.i64.wrap (((D.length + M.length + 1 - off : Nat) : Int) + 1) = ((D.length + M.length + 1 + 1 - off : Nat) : Int) := by
      rw [show ((D.length + M.length + 1 - off : Nat) : Int) + 1 = ((D.length + M.length + 1 + 1 - off : Nat) : Int) from by omega]
      exact wrap64 (by omega) (by omega)
    have w3 : IntKind.i64.wrap ((D.length : Int) + 1) = (D.length : Int) + 1 := wrap64 (by omega) (by omega)
    have i1 : ((D.length + M.length - off : Nat) : Int) < ((n - off : Nat) : Int) := by omega
    have i2 : (D.length : Int) < n := by omega
    have i3 : D.length < n := by omega
    have i4 : D.length + 1 ≤ n := by omega
    obtain ⟨p1, g1'⟩ := List.getElem?_eq_some_iff.1 g1
    obtain ⟨p2, g2'⟩ := List.getElem?_eq_some_iff.1 g2
    by_cases hx : x = p
    · subst hx
      obtain ⟨M', m1, m2⟩ := ih D (M ++ [x]) x (by simp; omega) (by simp; omega)
      have e1 : D ++ (M ++ x :: x :: r) = D ++ ((M ++ [x]) ++ x :: r) := by simp
      have e2 : D.length + (M ++ [x]).length + 1 - off = D.length + M.length + 1 + 1 - off := by simp; omega
      rw [e2] at m2
      refine ⟨M', by simpa [dd] using m1, ?_⟩
      have ed : dd x (x :: r) = dd x r := by simp [dd]
      rw [ed]
      rw [← e1] at m2
      rw [r170_l0]
      generalize cI (D ++ (M ++ x :: x :: r)) = Z at *
      generalize D.length + M.length + 1 - off = k at *
      generalize D.length + M.length - off = k' at *
      generalize D.length + M.length + 1 + 1 - off = k'' at *
      simp at m2
      simp [c170_l0b, hlt, hb, g1, g2, g1', g2', hlen, w1, w2, i1, take_set, m2]
    · obtain ⟨M', m1, m2⟩ := ih (D ++ [x]) (M ++ [p]).tail x (by simp; omega) (by simp; omega)
      have e2 : (D ++ [x]).length + (M ++ [p]).tail.length + 1 - off = D.length + M.length + 1 + 1 - off := by simp; omega
      rw [e2] at m2
      have ed : dd p (x :: r) = x :: dd x r := by simp [dd, hx]
      have gs : (cI (D ++ (M ++ p :: x :: r))).set D.length (.c (ci x)) = cI ((D ++ [x]) ++ ((M ++ [p]).tail ++ x :: r)) := by
        have hM : ∃ m T, M ++ [p] = m :: T := by cases M with
          | nil => exact ⟨p, [], rfl⟩
          | cons m T => exact ⟨m, T ++ [p], rfl⟩
        obtain ⟨m, T, hM⟩ := hM
        have q : D ++ (M ++ p :: x :: r) = D ++ m :: (T ++ x :: r) := by
          have : M ++ p :: x :: r = (M ++ [p]) ++ x :: r := by simp
          rw [this, hM]; rfl
        rw [q, hM]
        have ql : (cI D).length = D.length := cI_length D
        have q1 : cI (D ++ m :: (T ++ x :: r)) = cI D ++ .c (ci m) :: cI (T ++ x :: r) := by simp [cI]
        rw [q1, List.set_append_right _ _ (by omega), ql, Nat.sub_self, List.set_cons_zero]
        simp [cI]
      refine ⟨M', by rw [ed]; simp at m1 ⊢; omega, ?_⟩
      rw [ed]
      rw [r170_l0]
      generalize cI ((D ++ [x]) ++ ((M ++ [p]).tail ++ x :: r)) = Z2 at *
      generalize cI (D ++ (M ++ p :: x :: r)) = Z at *
      generalize D.length + M.length + 1 - off = k at *
      generalize D.length + M.length - off = k' at *
      generalize D.length + M.length + 1 + 1 - off = k'' at *
      simp at m2
      simp [c170_l0b, hlt, hb, g1, g2, g1', g2', hlen, w1, w2, w3, i1, i2, i3, i4, hx, gs, take_set, m2]
theorem dd_len : ∀ (r : List Int) (p : Int), (dd p r).length ≤ r.length
  | [], p => by simp [dd]
  | x :: r, p => by
    rw [dd]
    split
    · have := dd_len r p; simp; omega
    · have := dd_len r x; simp; omega
theorem set_allI : ∀ (Z A C : List LV), Z.length = C.length → setCells (A ++ C) A.length Z = A ++ Z
  | [], A, C, h => by
    have : C = [] := List.eq_nil_of_length_eq_zero h.symm
    subst this
    rfl
  | z :: Z, A, [], h => by simp at h
  | z :: Z, A, c :: C, h => by
    have ih := set_allI Z (A ++ [z]) C (by simpa using h)
    have e : (A ++ c :: C).set A.length z = (A ++ [z]) ++ C := by simp
    rw [setCells, e]
    simpa using ih
theorem repeatI_len : ∀ n, (repeatL n [LV.c (.int .i64 0)]).length = n
  | 0 => by simp [repeatL]
  | n + 1 => by
    have := repeatI_len n
    have e : repeatL (n + 1) [LV.c (.int .i64 0)] = .c (.int .i64 0) :: repeatL n [LV.c (.int .i64 0)] := by simp [repeatL, List.replicate_succ]
    rw [e, List.length_cons, this]
theorem repeatI_under (m : Nat) : ∀ n, underL m (repeatL n [LV.c (.int .i64 0)]) = true
  | 0 => rfl
  | n + 1 => by
    have := repeatI_under m n
    have e : repeatL (n + 1) [LV.c (.int .i64 0)] = .c (.int .i64 0) :: repeatL n [LV.c (.int .i64 0)] := by simp [repeatL, List.replicate_succ]
    rw [e, underL_cons, this]
    rfl
theorem L170_1 (hb : b < H.length) (hg : g ≠ 0) (n : Nat) (hn : n < 1000000) : ∀ (r D : List Int) (p : Int), n = D.length + 1 + r.length →
    ∃ W, (∀ m, underL m W = true) ∧ ((dd p r = r ∧ W = [] ∧ execS P (limS P) c170_l1 ⟨[.slice b g 0 n none none, .c (ci (D.length + 1))], H.set b (.cells g (cI (D ++ p :: r)) 0)⟩ = some (.exit 0, ⟨[.slice b g 0 n none none], H.set b (.cells g (cI (D ++ p :: r)) 0)⟩)) ∨
      execS P (limS P) c170_l1 ⟨[.slice b g 0 n none none, .c (ci (D.length + 1))], H.set b (.cells g (cI (D ++ p :: r)) 0)⟩ = some (.ret, ⟨[.slice b g 0 (D ++ p :: dd p r).length none none], H.set b (.cells g (cI (D ++ p :: dd p r) ++ W) 0)⟩)) := by
  intro r
  induction r with
  | nil =>
    intro D p h
    refine ⟨[], fun _ => rfl, .inl ⟨rfl, rfl, ?_⟩⟩
    have hlt : ¬ ((D.length : Int) + 1 < n) := by simp at h; omega
    rw [r170_l1]
    simp [c170_l1b, hlt]
  | cons x r ih =>
    intro D p h
    simp at h
    have hlt : (D.length : Int) + 1 < n := by omega
    have g1 : (cI (D ++ p :: x :: r))[D.length + 1]? = some (.c (ci x)) := by
      have : D ++ p :: x :: r = (D ++ [p]) ++ x :: r := by simp
      rw [this]; exact cI_get1 (by simp)
    have g2 : (cI (D ++ p :: x :: r))[D.length]? = some (.c (ci p)) := cI_get1 rfl
    have hlen : (cI (D ++ p :: x :: r)).length = n := by rw [cI_length]; simp; omega
    have w1 : IntKind.i64.wrap (D.length : Int) = D.length := wrap64 (by omega) (by omega)
    have w2 : IntKind.i64.wrap ((D.length : Int) + 1 + 1) = (D.length : Int) + 1 + 1 := wrap64 (by omega) (by omega)
    have t1 : ((D.length : Int) + 1).toNat = D.length + 1 := by omega
    have j1 : 0 ≤ (D.length : Int) + 1 := by omega
    have i1 : (D.length : Int) < n := by omega
    have i2 : (D.length : Int) + 1 ≤ n := by omega
    have i3 : D.length + 1 < n := by omega
    obtain ⟨p1, g1'⟩ := List.getElem?_eq_some_iff.1 g1
    obtain ⟨p2, g2'⟩ := List.getElem?_eq_some_iff.1 g2
    by_cases hx : x = p
    · subst hx
      obtain ⟨M', m1, m2⟩ := L170_0 (P := P) hb hg n hn (D.length + 1) r (D ++ [x]) [] x (by simp; omega) (by simp)
      have hdl := dd_len r x
      have ed : dd x (x :: r) = dd x r := by simp [dd]
      have e1 : D ++ x :: x :: r = (D ++ [x]) ++ ([] ++ x :: r) := by simp
      have e2 : D ++ x :: dd x r = (D ++ [x]) ++ dd x r := by simp
      have e3 : (D ++ [x]).length + ([] : List Int).length + 1 - (D.length + 1) = 1 := by simp
      rw [e3] at m2
      refine ⟨repeatL M'.length [LV.c (.int .i64 0)], fun m => repeatI_under m _, .inr ?_⟩
      rw [ed, e2]
      rw [← e1] at m2
      have hK : ((D ++ [x]) ++ dd x r).length < n := by simp at m1 ⊢; omega
      have hKn : n - ((D ++ [x]) ++ dd x r).length = M'.length := by simp at m1 ⊢; omega
      have hM0 : ¬ M'.length = 0 := by omega
      have hset := set_allI (repeatL M'.length [LV.c (.int .i64 0)]) (cI ((D ++ [x]) ++ dd x r)) (cI M') (by rw [repeatI_len, cI_length])
      have hcl : (cI ((D ++ [x]) ++ dd x r ++ M')).length = n := by rw [cI_length, List.length_append]; omega
      have hca : cI ((D ++ [x]) ++ dd x r ++ M') = cI ((D ++ [x]) ++ dd x r) ++ cI M' := by simp [cI]
      rw [cI_length, ← hca] at hset
      have hKpos : ¬ ((D ++ [x]) ++ dd x r).length = 0 := by simp
      have hKi : (((D ++ [x]) ++ dd x r).length : Int) ≤ n := by omega
      have hKe : ((D ++ [x]) ++ dd x r).length + M'.length ≤ n := by omega
      have hDx : ((D ++ [x]).length : Int) = (D.length : Int) + 1 := by simp
      rw [hDx] at m2
      generalize cI ((D ++ [x]) ++ dd x r ++ M') = Z3 at *
      generalize cI ((D ++ [x]) ++ dd x r) = Z2 at *
      generalize cI (D ++ x :: x :: r) = Z at *
      generalize hKK : ((D ++ [x]) ++ dd x r).length = K at *
      have hrep : ∀ k, repeatL k [LV.c (.int .i64 0)] = List.replicate k (LV.c (.int .i64 0)) := fun k => by simp [repeatL]
      rw [hrep] at hset
      rw [r170_l1]
      simp at m2
      simp [c170_l1b, hlt, hb, g1, g2, g1', g2', hlen, w1, t1, j1, i1, i2, i3, take_set, m2, hKi, hK, hKn, hM0, hKe, hcl, hKpos, hset]
    · obtain ⟨W, hW, h2⟩ := ih (D ++ [p]) x (by simp; omega)
      refine ⟨W, hW, ?_⟩
      have ed : dd p (x :: r) = x :: dd x r := by simp [dd, hx]
      have e1 : D ++ p :: x :: r = (D ++ [p]) ++ x :: r := by simp
      have e2 : D ++ p :: x :: dd x r = (D ++ [p]) ++ x :: dd x r := by simp
      have e3 : (((D ++ [p]).length : Nat) : Int) + 1 = (D.length : Int) + 1 + 1 := by simp
      rw [e3] at h2
      rw [ed, e2]
      rw [← e1] at h2
      rcases h2 with ⟨q1, q2, q3⟩ | q3
      · refine .inl ⟨by rw [q1], q2, ?_⟩
        generalize cI (D ++ p :: x :: r) = Z at *
        rw [r170_l1]
        simp [c170_l1b, hlt, hb, g1, g2, g1', g2', hlen, w1, w2, t1, j1, i1, i2, i3, hx, take_set, q3]
      · refine .inr ?_
        generalize cI (D ++ p :: x :: r) = Z at *
        generalize cI ((D ++ [p]) ++ x :: dd x r) = Z2 at *
        rw [r170_l1]
        simp at q3
        simp [c170_l1b, hlt, hb, g1, g2, g1', g2', hlen, w1, w2, t1, j1, i1, i2, i3, hx, take_set, q3]
theorem S170 (hb : b < H.length) (hg : g ≠ 0) (U : List Int) (n : Nat) (hn : n < 1000000) (h : n = U.length) (hne : U ≠ []) :
    ∃ W, (∀ m, underL m W = true) ∧ sfn P 170 [.slice b g 0 n none none] (H.set b (.cells g (cI U) 0)) = some (.slice b g 0 (compactL U).length none none, (H ++ [LB.cells 1 [] 0]).set b (.cells g (cI (compactL U) ++ W) 0)) := by
  have hs : ∀ X, H.set b X ++ [LB.cells 1 [] 0] = (H ++ [LB.cells 1 [] 0]).set b X := fun X => (List.set_append_left _ _ hb).symm
  have hb1 : b < (H ++ [LB.cells 1 [] 0]).length := by simp; omega
  cases U with
  | nil => exact absurd rfl hne
  | cons p r =>
    obtain ⟨W, hW, hL⟩ := L170_1 (P := P) (H := H ++ [LB.cells 1 [] 0]) hb1 hg n hn r [] p (by simp at h ⊢; omega)
    simp only [List.nil_append, List.length_nil] at hL
    refine ⟨W, hW, ?_⟩
    have hc : compactL (p :: r) = p :: dd p r := rfl
    rw [hc, u170]
    by_cases h2 : n < 2
    · have hr : r = [] := by simp at h; exact List.eq_nil_of_length_eq_zero (by omega)
      subst hr
      have hn1 : n = 1 := by simpa using h
      subst hn1
      have hd : dd p [] = [] := rfl
      rcases hL with ⟨_, q2, _⟩ | q3
      · subst q2
        simp [c170, hs, hd]
      · have hlt : ¬ ((1 : Int) < (1 : Nat)) := by simp
        rw [r170_l1] at q3
        simp [c170_l1b] at q3
    · have h2' : ¬ (n : Int) < 2 := by omega
      rcases hL with ⟨q1, q2, q3⟩ | q3
      · subst q2
        rw [q1]
        have hnr : n = r.length + 1 := by simpa using h
        subst hnr
        simp at q3
        have h3 : ¬ (r.length : Int) + 1 < 2 := by omega
        simp [c170, hs, h3, q3]
      · simp at q3
        simp [c170, hs, h2', q3]
end
end LM.GZ
namespace LM.GZ
open Go LM
variable {P : Nat → Option SFunc} [Has P]
theorem ciElem (n : Int) : Elem none (ci n) := ⟨rfl, rfl⟩
theorem cI_cells (xs : List Int) : cellsOf (xs.map ci) = cI xs := cellsOf_ints xs
def stepO (own : Op) (O : List Int) (n : Int) : List Int := if inP own n then O ++ [n] else O
theorem stepO_ne {own : Op} {O : List Int} (h : O ≠ []) (n : Int) : stepO own O n ≠ [] := by unfold stepO; split <;> simp [h]
theorem stepO_len (own : Op) (O : List Int) (n : Int) : (stepO own O n).length ≤ O.length + 1 := by unfold stepO; split <;> simp
def hP (own x : Op) (O : List Int) : Heap := [.cells 1 [] 0, OB3 own 0, .cells O.length (cI O) 0, OB3 x 0, .cells 1 [.c (ci x.low), .c (ci x.high)] 0]
theorem L109_s (own x : Op) (Lc N I : CV) (k : Nat) (hk : k < 2) (n : Int) (hn : n = if k = 0 then x.low else x.high) (O : List Int) (hO : O ≠ []) (hl : O.length < 1000) :
    execS P (limS P) c109_l0 ⟨[.ptr 1 0 0, .slice 2 O.length 0 O.length none none, .c Lc, .c N, .c I, .slice 4 1 0 2 none (some 2), .c (ci 2), .c (ci k)], hP own x O⟩ =
      execS P (limS P) c109_l0 ⟨[.ptr 1 0 0, .slice 2 (stepO own O n).length 0 (stepO own O n).length none none, .c Lc, .c N, .c I, .slice 4 1 0 2 none (some 2), .c (ci 2), .c (ci ((k : Int) + 1))], hP own x (stepO own O n)⟩ := by
  have hw : IntKind.i64.wrap ((k : Int) + 1) = (k : Int) + 1 := wrap64 (by omega) (by omega)
  have hlt : (k : Int) < 2 := by omega
  have hap := fun X0 X1 X3 X4 => append_own (b := 2) (g := O.length) (bytes := 8) (e := none) (ys := O.map ci) (xs := [ci n]) (h := [X0, X1, .cells O.length (cellsOf (O.map ci)) 0, X3, X4]) (len := O.length) (fz := 0) rfl (intElems _) (by simpa using ciElem n) (by simp) (Nat.zero_le _) (by simp) (by simp; omega) (by simp; omega)
  have e1 : O.map ci ++ [ci n] = (O ++ [n]).map ci := by simp
  rw [e1, cI_cells, cI_cells] at hap
  have hg : [LV.c (ci x.low), LV.c (ci x.high)][k]? = some (.c (ci n)) := by
    have : k = 0 ∨ k = 1 := by omega
    rcases this with rfl | rfl <;> simp [hn]
  have hu := under_cI 5 O
  have hu2 := under_cI 5 (O ++ [n])
  have hi : inP own n = (decide (n > own.low) && decide (n ≤ own.high)) := rfl
  obtain ⟨hg1, hg2⟩ := List.getElem?_eq_some_iff.1 hg
  rw [r109_l0]
  unfold stepO
  by_cases h1 : own.low < n
  · by_cases h2 : n ≤ own.high
    · have hi' : inP own n = true := by rw [hi]; simp [h1, h2]
      simp [hi']
      simp [c109_l0b, hP, OB3, hlt, hk, hg, hg2, h1, h2, hap, hw, hu2]
    · have hi' : inP own n = false := by rw [hi]; simp [h2]
      simp [hi']
      simp [c109_l0b, hP, OB3, hlt, hk, hg, hg2, h1, h2, hw, hu]
  · have hi' : inP own n = false := by rw [hi]; simp [h1]
    simp [hi']
    simp [c109_l0b, hP, OB3, hlt, hk, hg, hg2, h1, hw, hu]
def stepX (own : Op) (O : List Int) (x : Op) : List Int := stepO own (stepO own O x.low) x.high
theorem stepX_eq (own : Op) (O : List Int) (x : Op) : stepX own O x = O ++ [x.low, x.high].filter (inP own) := by
  unfold stepX stepO
  cases h1 : inP own x.low <;> cases h2 : inP own x.high <;> simp [h1, h2]
theorem L109_0 (own x : Op) (Lc N I : CV) (O : List Int) (hO : O ≠ []) (hl : O.length < 900) :
    execS P (limS P) c109_l0 ⟨[.ptr 1 0 0, .slice 2 O.length 0 O.length none none, .c Lc, .c N, .c I, .slice 4 1 0 2 none (some 2), .c (ci 2), .c (ci 0)], hP own x O⟩ =
      some (.exit 2, ⟨[.ptr 1 0 0, .slice 2 (stepX own O x).length 0 (stepX own O x).length none none, .c Lc, .c N, .c I], hP own x (stepX own O x)⟩) := by
  have h1 := L109_s (P := P) own x Lc N I 0 (by omega) x.low rfl O hO (by omega)
  have l1 := stepO_len own O x.low
  have h2 := L109_s (P := P) own x Lc N I 1 (by omega) x.high rfl (stepO own O x.low) (stepO_ne hO _) (by omega)
  simp at h1 h2
  rw [h1, h2, r109_l0]
  simp [c109_l0b, stepX]
theorem L109_1 (own : Op) (l : List Op) (hl : l.length < 100) : ∀ (r pre : List Op) (O : List Int), l = pre ++ r → O ≠ [] → O.length ≤ 1 + 2 * pre.length →
    execS P (limS P) c109_l1 ⟨[.ptr 1 0 0, .slice 2 O.length 0 O.length none none, .c (.slice (l.map Op.enc)), .c (ci l.length), .c (ci pre.length)], [.cells 1 [] 0, OB3 own 0, .cells O.length (cI O) 0]⟩ =
      some (.exit 0, ⟨[.slice 2 (r.foldl (stepX own) O).length 0 (r.foldl (stepX own) O).length none none], [.cells 1 [] 0, OB3 own 0, .cells (r.foldl (stepX own) O).length (cI (r.foldl (stepX own) O)) 0]⟩) := by
  intro r
  induction r with
  | nil =>
    intro pre O hp hO hOl
    have hp' : l = pre := by simpa using hp
    subst hp'
    rw [r109_l1]
    simp [c109_l1b]
  | cons x r ih =>
    intro pre O hp hO hOl
    have gx : l[pre.length]? = some x := by rw [hp]; simp
    have hpl : pre.length < l.length := (List.getElem?_eq_some_iff.1 gx).1
    obtain ⟨_, gx'⟩ := List.getElem?_eq_some_iff.1 gx
    have hlt : (pre.length : Int) < l.length := by omega
    have hw : IntKind.i64.wrap ((pre.length : Int) + 1) = (pre.length : Int) + 1 := wrap64 (by omega) (by omega)
    have h0 := L109_0 (P := P) own x (.slice (l.map Op.enc)) (ci l.length) (ci pre.length) O hO (by omega)
    have l1 := stepO_len own O x.low
    have l2 := stepO_len own (stepO own O x.low) x.high
    have ih := ih (pre ++ [x]) (stepX own O x) (by simp [hp]) (stepO_ne (stepO_ne hO _) _) (by unfold stepX; simp; omega)
    have hu := under_cI 3 (stepX own O x)
    rw [List.foldl_cons]
    generalize stepX own O x = O2 at *
    generalize r.foldl (stepX own) O2 = R at *
    simp [hP, OB3] at h0 ih
    rw [r109_l1]
    simp [c109_l1b, hlt, hpl, gx, gx', Op.enc, OB3, h0, hw, hu, ih]
theorem foldl_step (own : Op) : ∀ (l : List Op) (O : List Int), l.foldl (stepX own) O = O ++ l.flatMap fun o => [o.low, o.high].filter (inP own)
  | [], O => by simp
  | x :: r, O => by rw [List.foldl_cons, foldl_step own r, stepX_eq]; simp
theorem rawP_len (own : Op) (l : List Op) : (rawP own l).length ≤ 1 + 2 * l.length := by
  unfold rawP
  have : ∀ l : List Op, (l.flatMap fun o => [o.low, o.high].filter (inP own)).length ≤ 2 * l.length := by
    intro l
    induction l with
    | nil => simp
    | cons x r ih =>
      have := List.length_filter_le (inP own) [x.low, x.high]
      simp only [List.flatMap_cons, List.length_append, List.length_cons] at *
      simp at this
      omega
  have := this l
  rw [List.length_cons]
  omega
theorem S109 (own : Op) (l : List Op) (c : Nat) (hc : l[c]? = some own) (hl : l.length ≤ 5) : fn P 109 [.slice (l.map Op.enc), ci c] = some (.slice ((partsL own l).map ci)) := by
  obtain ⟨hcl, gc'⟩ := List.getElem?_eq_some_iff.1 hc
  have hlt : (c : Int) < l.length := by omega
  have hL := L109_1 (P := P) own l (by omega) l [] [own.low] rfl (by simp) (by simp)
  have hf : l.foldl (stepX own) [own.low] = rawP own l := by rw [foldl_step]; rfl
  rw [hf] at hL
  have hrl := rawP_len own l
  have hne : rawP own l ≠ [] := by simp [rawP]
  have h169 := S169 (P := P) (H := [.cells 1 [] 0, OB3 own 0, .dead]) (b := 2) (g := (rawP own l).length) (cp := none) (by simp) (by simpa using hne) (rawP own l) (rawP own l).length (by omega) rfl hne
  have hsn : sortN (rawP own l) ≠ [] := by
    intro e
    have := (sortN_mem own.low (rawP own l)).2 (by simp [rawP])
    rw [e] at this
    cases this
  have hsl : (sortN (rawP own l)).length = (rawP own l).length := by unfold sortN; rw [sortI_length]; simp
  obtain ⟨W, hW, h170⟩ := S170 (P := P) (H := [.cells 1 [] 0, OB3 own 0, .dead]) (b := 2) (g := (rawP own l).length) (by simp) (by simpa using hne) (sortN (rawP own l)) (rawP own l).length (by omega) hsl.symm hsn
  have hp : compactL (sortN (rawP own l)) = partsL own l := rfl
  rw [hp] at h170
  have hfz : ∀ h : Heap, h[2]? = some (.cells (rawP own l).length (cI (partsL own l) ++ W) 0) → ∃ h', frz frzDepth (.slice 2 (rawP own l).length 0 (partsL own l).length none none) h = some (.slice ((partsL own l).map ci), h') := by
    intro h hh
    have hch := chunk_cellsOf (intElems (partsL own l))
    rw [frz_slice, hh]
    simp only [Nat.zero_add, List.drop_zero]
    have hz : szOf none = 1 := rfl
    rw [hz, if_pos ⟨trivial, by rw [List.length_append, cI_length]; omega⟩]
    have : (cI (partsL own l) ++ W).take ((partsL own l).length * 1) = cellsOf ((partsL own l).map ci) := by rw [List.take_left' (by rw [cI_length]; omega), cI_cells]
    rw [this]
    unfold cellsOf
    rw [mapH_map_c 38]
    rw [List.length_map] at hch
    simp only [bnd_some, hch]
    exact ⟨_, rfl⟩
  obtain ⟨h', hfz⟩ := hfz [.cells 1 [] 0, OB3 own 0, .cells (rawP own l).length (cI (partsL own l) ++ W) 0, .cells 1 [] 0] rfl
  have hc1 : cI [own.low] = [.c (ci own.low)] := rfl
  generalize sortN (rawP own l) = Q at *
  generalize rawP own l = R at *
  generalize partsL own l = T at *
  simp [OB3, hc1] at hL h169 h170
  simp only [OB3] at hfz
  rw [u109]
  simp [c109, hlt, hcl, hc, gc', Op.enc, hL, h169, h170, frzFuncs_nil, frzFuncs_c, frzFuncs_slice, resV, hfz, -frz_slice]
end LM.GZ
namespace LM.GZ
open Go LM
variable {P : Nat → Option SFunc} [Has P]
theorem L106_0 (l : List Op) (c : Nat) (rank : Int) (hl : l.length < 1000) (T : List Int) (hT : T.length < 1000) : ∀ (r pre : List Int), T = pre ++ r →
    execS P (limS P) c106_l0 ⟨[.c (.slice (l.map Op.enc)), .c (ci c), .c (ci rank), .c (.slice (T.map ci)), .c (ci T.length), .c (ci pre.length)], []⟩ =
      match r.find? (okV l c rank) with
      | some v => some (.ret, ⟨[.c (ci v), .c (.bool true)], []⟩)
      | none => some (.exit 0, ⟨[], []⟩) := by
  intro r
  induction r with
  | nil =>
    intro pre hp
    have hp' : T = pre := by simpa using hp
    subst hp'
    rw [r106_l0]
    simp [c106_l0b]
  | cons v r ih =>
    intro pre hp
    have ih := ih (pre ++ [v]) (by simp [hp])
    have gx : T[pre.length]? = some v := by rw [hp]; simp
    have hpl : pre.length < T.length := (List.getElem?_eq_some_iff.1 gx).1
    obtain ⟨_, gx'⟩ := List.getElem?_eq_some_iff.1 gx
    have hw : IntKind.i64.wrap ((pre.length : Int) + 1) = (pre.length : Int) + 1 := wrap64 (by omega) (by omega)
    have hlt : (pre.length : Int) < T.length := by omega
    have e108 := S108 (P := P) l hl c v
    have hb1 := cntA_le c (mostP v) l 0
    have hm : IntKind.i64.wrap (mostL l c v + 1) = mostL l c v + 1 := by unfold mostL; exact wrap64 (by omega) (by omega)
    have hk : okV l c rank v = (decide (leastL l c v < rank) && decide (rank ≤ mostL l c v + 1)) := rfl
    simp at ih
    rw [r106_l0, List.find?_cons]
    by_cases h1 : leastL l c v < rank
    · by_cases h2 : rank ≤ mostL l c v + 1
      · simp [c106_l0b, hlt, hpl, gx, gx', e108, hm, hk, h1, h2]
      · simp [c106_l0b, hlt, hpl, gx, gx', e108, hm, hk, h1, h2, hw, ih]
    · simp [c106_l0b, hlt, hpl, gx, gx', e108, hm, hk, h1, hw, ih]
theorem partsL_len (own : Op) (l : List Op) : (partsL own l).length ≤ 1 + 2 * l.length := by
  have h1 := rawP_len own l
  have h2 : ∀ U : List Int, (compactL U).length ≤ U.length := by
    intro U
    cases U with
    | nil => simp [compactL]
    | cons x r => have := dd_len r x; simp [compactL]; omega
  have h3 := h2 (sortN (rawP own l))
  have h4 : (sortN (rawP own l)).length = (rawP own l).length := by unfold sortN; rw [sortI_length]; simp
  unfold partsL
  omega
section
variable {own : Op} {l : List Op} {c : Nat}
theorem S106 (hc : l[c]? = some own) (hl : l.length ≤ 5) (rank : Int) : fn P 106 [.slice (l.map Op.enc), ci c, ci rank] = some (.tuple (match (partsL own l).find? (okV l c rank) with
      | some v => [ci v, .bool true]
      | none => [ci 0, .bool false])) := by
  have e109 := S109 (P := P) own l c hc hl
  have hpl := partsL_len own l
  have hL := L106_0 (P := P) l c rank (by omega) (partsL own l) (by omega) (partsL own l) [] rfl
  simp at hL
  rw [u106]
  cases hf : (partsL own l).find? (okV l c rank) with
  | some v =>
    rw [hf] at hL
    simp at hL
    simp [c106, e109, hL, resV, mkTuple]
  | none =>
    rw [hf] at hL
    simp at hL
    simp [c106, e109, hL, resV, mkTuple]
theorem isV_find (rank : Int) : isV own l c rank = ((partsL own l).find? (okV l c rank)).isSome := by
  unfold isV
  cases h : (partsL own l).find? (okV l c rank) with
  | none =>
    rw [List.find?_eq_none] at h
    rw [List.any_eq_false.2 h]
    rfl
  | some v =>
    have h1 := List.find?_some h
    have h2 := List.mem_of_find?_eq_some h
    rw [List.any_eq_true.2 ⟨v, h2, h1⟩]
    rfl
def posR (own : Op) (l : List Op) (c : Nat) : Nat → Int → List Int
  | 0, _ => []
  | k + 1, r => if isV own l c r then r :: posR own l c k (r + 1) else posR own l c k (r + 1)
theorem posR_eq : ∀ (k : Nat) (r : Int), posR own l c k r = ((List.range k).map fun i : Nat => (i : Int) + r).filter (isV own l c)
  | 0, r => rfl
  | k + 1, r => by
    rw [posR, posR_eq k (r + 1), List.range_succ_eq_map, List.map_cons, List.map_map, List.filter_cons]
    have e : (fun i : Nat => (i : Int) + r) ∘ Nat.succ = fun i : Nat => (i : Int) + (r + 1) := by funext i; simp; omega
    rw [e]
    simp
theorem poss_posR : possL own l c = posR own l c l.length 1 := by rw [posR_eq]; rfl
theorem posR_len : ∀ (k : Nat) (r : Int), (posR own l c k r).length ≤ k
  | 0, r => by simp [posR]
  | k + 1, r => by
    have := posR_len k (r + 1)
    rw [posR]
    split <;> simp <;> omega
theorem L40_0 (hc : l[c]? = some own) (hl : l.length ≤ 5) : ∀ (k : Nat) (i : Nat) (O : List Int), i + k = l.length → O.length ≤ i →
    execS P (limS P) c40_l0 ⟨[.c (.slice (l.map Op.enc)), .c (ci c), .slice 1 (1 + O.length) 0 O.length none none, .c (ci ((i : Int) + 1))], [.cells 1 [] 0, .cells (1 + O.length) (cI O) 0]⟩ =
      some (.exit 0, ⟨[.slice 1 (1 + (O ++ posR own l c k ((i : Int) + 1)).length) 0 (O ++ posR own l c k ((i : Int) + 1)).length none none], [.cells 1 [] 0, .cells (1 + (O ++ posR own l c k ((i : Int) + 1)).length) (cI (O ++ posR own l c k ((i : Int) + 1))) 0]⟩) := by
  intro k
  induction k with
  | zero =>
    intro i O h hO
    have hlt : ¬ (i : Int) + 1 ≤ l.length := by omega
    rw [r40_l0]
    simp [c40_l0b, hlt, posR]
  | succ k ih =>
    intro i O h hO
    have e106 := S106 (P := P) hc hl ((i : Int) + 1)
    have hv := isV_find (own := own) (l := l) (c := c) ((i : Int) + 1)
    have ihA := ih (i + 1) (O ++ [(i : Int) + 1]) (by omega) (by simp; omega)
    have ihB := ih (i + 1) O (by omega) (by omega)
    have hlt : (i : Int) + 1 ≤ l.length := by omega
    have hw : IntKind.i64.wrap ((i : Int) + 1 + 1) = (i : Int) + 1 + 1 := wrap64 (by omega) (by omega)
    have hap := append_own (b := 1) (g := 1 + O.length) (bytes := 8) (e := none) (ys := O.map ci) (xs := [ci ((i : Int) + 1)]) (h := [.cells 1 [] 0, .cells (1 + O.length) (cellsOf (O.map ci)) 0]) (len := O.length) (fz := 0) rfl (intElems _) (by simpa using ciElem _) (by simp) (Nat.zero_le _) (by simp) (by simp; omega) (by simp; omega)
    have e1 : O.map ci ++ [ci ((i : Int) + 1)] = (O ++ [(i : Int) + 1]).map ci := by simp
    rw [e1, cI_cells, cI_cells] at hap
    have hu := under_cI 2 O
    have hu2 := under_cI 2 (O ++ [(i : Int) + 1])
    have e2 : 1 + (O.length + 1) = 1 + O.length + 1 := by omega
    rw [r40_l0, posR]
    have ec : ((i + 1 : Nat) : Int) = (i : Int) + 1 := by simp
    rw [ec] at ihA ihB
    cases hf : (partsL own l).find? (okV l c ((i : Int) + 1)) with
    | some v =>
      rw [hf] at e106 hv
      simp at hv e106
      generalize posR own l c k ((i : Int) + 1 + 1) = Z at *
      simp [e2] at ihA hap
      simp [c40_l0b, hlt, e106, hv, hap, hw, hu2, ihA, e2]
      try omega
    | none =>
      rw [hf] at e106 hv
      simp at hv e106
      generalize posR own l c k ((i : Int) + 1 + 1) = Z at *
      simp at ihB
      simp [c40_l0b, hlt, e106, hv, hw, hu, ihB]
theorem S40 (hg : OG l) (hk : ∀ x ∈ l, x.ok) (hc : l[c]? = some own) (hl : l.length ≤ 5) : fn P 40 [.slice (l.map Op.enc), ci c] = some (.tuple [.slice ((possL own l c).map ci), ci 0]) := by
  have hcl := (List.getElem?_eq_some_iff.1 hc).1
  have e105 := S105 (P := P) l hg (fun e => by rw [e] at hcl; simp at hcl) hk (by omega) c hcl
  have hL := L40_0 (P := P) hc hl l.length 0 [] (by omega) (by simp)
  have h1 : ((0 : Nat) : Int) + 1 = 1 := rfl
  rw [h1, ← poss_posR] at hL
  have hr := fun X0 => resV_own (b := 1) (g := 1 + (possL own l c).length) (fz := 0) (e := none) (ys := (possL own l c).map ci) (h := [X0, .cells (1 + (possL own l c).length) (cI (possL own l c)) 0]) (len := (possL own l c).length) (by rw [cI_cells]; rfl) (intElems _) (by simp) none (ci 0)
  have hc0 : cI [] = [] := rfl
  generalize possL own l c = T at *
  simp [hc0, mkTuple] at hL hr
  rw [u40]
  simp [c40, e105, hL, hr, mkTuple]
end
end LM.GZ
namespace LM.GZ
open Go LM
variable {P : Nat → Option SFunc} [Has P]
section
variable {own : Op} {l : List Op} {c : Nat}
theorem L41_0 (l : List Op) (hl : l.length < 100) (c : Nat) (v : Int) : ∀ (r pre : List Op) (O : List Int) (more : Int), l = pre ++ r → O.length = pre.length → -1000 < more → more < 1000 →
    ∃ O' : List Int, O'.length = l.length ∧ execS P (limS P) c41_l0 ⟨[.c (ci c), .c (ci v), .c (ci more), .slice 1 (1 + O.length) 0 O.length none none, .c (.slice (l.map Op.enc)), .c (ci l.length), .c (ci pre.length)], [.cells 1 [] 0, .cells (1 + O.length) (cI O) 0]⟩ =
      some (.exit 0, ⟨[.slice 1 (1 + l.length) 0 l.length none none], [.cells 1 [] 0, .cells (1 + l.length) (cI O') 0]⟩) := by
  intro r
  induction r with
  | nil =>
    intro pre O more hp hO _ _
    have hp' : l = pre := by simpa using hp
    subst hp'
    refine ⟨O, hO, ?_⟩
    rw [r41_l0]
    simp [c41_l0b, hO]
  | cons x r ih =>
    intro pre O more hp hO hm1 hm2
    have gx : l[pre.length]? = some x := by rw [hp]; simp
    have hpl : pre.length < l.length := (List.getElem?_eq_some_iff.1 gx).1
    obtain ⟨_, gx'⟩ := List.getElem?_eq_some_iff.1 gx
    have hlt : (pre.length : Int) < l.length := by omega
    have hw : IntKind.i64.wrap ((pre.length : Int) + 1) = (pre.length : Int) + 1 := wrap64 (by omega) (by omega)
    have hwm : IntKind.i64.wrap (more - 1) = more - 1 := wrap64 (by omega) (by omega)
    have hap := fun n X0 X3 => append_own (b := 1) (g := 1 + O.length) (bytes := 8) (e := none) (ys := O.map ci) (xs := [ci n]) (h := [X0, .cells (1 + O.length) (cellsOf (O.map ci)) 0, X3]) (len := O.length) (fz := 0) rfl (intElems _) (by simpa using ciElem n) (by simp) (Nat.zero_le _) (by simp) (by simp; omega) (by simp; omega)
    have e1 : ∀ n, O.map ci ++ [ci n] = (O ++ [n]).map ci := fun n => by simp
    simp only [e1, cI_cells] at hap
    have hu := fun n => under_cI 2 (O ++ [n])
    have e2 : 1 + (O.length + 1) = 1 + O.length + 1 := by omega
    simp at hap
    have hci : (pre.length : Int) = c ↔ pre.length = c := by omega
    by_cases hc : pre.length = c
    · obtain ⟨O', hO', ih⟩ := ih (pre ++ [x]) (O ++ [v]) more (by simp [hp]) (by simp [hO]) hm1 hm2
      refine ⟨O', hO', ?_⟩
      simp [e2] at ih
      subst hc
      rw [r41_l0]
      simp [c41_l0b, hlt, hpl, gx, gx', Op.enc, hap, hw, hu, ih]
    · by_cases hm : (0 < more ∧ x.low ≤ v) ∧ v < x.high
      · obtain ⟨O', hO', ih⟩ := ih (pre ++ [x]) (O ++ [x.high]) (more - 1) (by simp [hp]) (by simp [hO]) (by omega) (by omega)
        refine ⟨O', hO', ?_⟩
        simp [e2] at ih
        rw [r41_l0]
        simp [c41_l0b, hlt, hpl, gx, gx', Op.enc, hci, hc, hm, hap, hw, hwm, hu, ih]
      · obtain ⟨O', hO', ih⟩ := ih (pre ++ [x]) (O ++ [x.low]) more (by simp [hp]) (by simp [hO]) hm1 hm2
        refine ⟨O', hO', ?_⟩
        simp [e2] at ih
        rw [r41_l0]
        simp [c41_l0b, hlt, hpl, gx, gx', Op.enc, hci, hc, hm, hap, hw, hwm, hu, ih]
theorem S41 (hg : OG l) (hk : ∀ x ∈ l, x.ok) (hc : l[c]? = some own) (hl : l.length ≤ 5) (rank : Int) (h1 : 1 ≤ rank) (h2 : rank ≤ l.length) : ∃ X, fn P 41 [.slice (l.map Op.enc), ci c, ci rank] = some (.tuple [.slice X, ci (if isV own l c rank then 0 else 23)]) := by
  have hcl := (List.getElem?_eq_some_iff.1 hc).1
  have e107 := S107 (P := P) l hg (fun e => by rw [e] at hcl; simp at hcl) hk (by omega) c hcl rank h1 h2
  have e106 := S106 (P := P) hc hl rank
  have hv := isV_find (own := own) (l := l) (c := c) rank
  cases hf : (partsL own l).find? (okV l c rank) with
  | none =>
    rw [hf] at e106 hv
    simp at hv e106
    refine ⟨[], ?_⟩
    rw [u41]
    simp [c41, e107, e106, hv, resV, mkTuple]
  | some v =>
    rw [hf] at e106 hv
    simp at hv e106
    have e108 := S108 (P := P) l (by omega) c v
    have hb := cntA_le c (leastP v) l 0
    have w1 : IntKind.i64.wrap (rank - 1) = rank - 1 := wrap64 (by omega) (by omega)
    have w2 : IntKind.i64.wrap (rank - 1 - leastL l c v) = rank - 1 - leastL l c v := by unfold leastL; exact wrap64 (by omega) (by omega)
    obtain ⟨O', hlen, hL⟩ := L41_0 (P := P) l (by omega) c v l [] [] (rank - 1 - leastL l c v) rfl rfl (by unfold leastL; omega) (by unfold leastL; omega)
    have hc0 : cI [] = [] := rfl
    simp [hc0] at hL
    have hr := fun X0 => resV_own (b := 1) (g := 1 + l.length) (fz := 0) (e := none) (ys := O'.map ci) (h := [X0, .cells (1 + l.length) (cI O') 0]) (len := l.length) (by rw [cI_cells]; rfl) (intElems _) (by simp [hlen]) none (ci 0)
    simp [mkTuple] at hr
    refine ⟨O'.map ci, ?_⟩
    rw [u41]
    simp [c41, e107, e106, hv, e108, w1, w2, hL, hr, mkTuple]
end
end LM.GZ
namespace LM.GZ
open Go LM
variable {P : Nat → Option SFunc} [Has P]
section
variable {own : Op} {l : List Op} {c : Nat}
theorem S110 (hl : l.length ≤ 5) (rank : Int) (h1 : 1 ≤ rank) (h2 : rank ≤ 5) (b : Bar) : fn P 110 [b.enc, .slice (l.map Op.enc), ci c, ci rank] = some (.bool (barOk l c rank b)) := by
  have e1 := S108 (P := P) l (by omega) c b.to
  have e2 := S108 (P := P) l (by omega) c b.frm
  have w : IntKind.i64.wrap (rank - 2) = rank - 2 := wrap64 (by omega) (by omega)
  rw [u110]
  unfold barOk
  obtain ⟨f, t, up⟩ := b
  cases up
  · simp [c110, Bar.enc, Bar.word, belowS, e2, w]
  · simp [c110, Bar.enc, Bar.word, aboveS, e1]
theorem barElems (B : List Bar) : ∀ x ∈ B.map Bar.enc, Elem (some 3) x := by
  intro x hx
  obtain ⟨y, _, rfl⟩ := List.mem_map.1 hx
  exact ⟨_, rfl, rfl, by simp [CV.flat]⟩
def cB (B : List Bar) : List LV := B.flatMap fun b => [.c (ci b.frm), .c (ci b.to), .c (.str b.word)]
theorem cB_cells (B : List Bar) : cellsOf (B.map Bar.enc) = cB B := by
  induction B with
  | nil => rfl
  | cons x r ih =>
    have e : cellsOf ((x :: r).map Bar.enc) = [.c (ci x.frm), .c (ci x.to), .c (.str x.word)] ++ cellsOf (r.map Bar.enc) := rfl
    rw [e, ih]; rfl
theorem cB_length (B : List Bar) : (cB B).length = B.length * 3 := by
  induction B with
  | nil => rfl
  | cons x r ih => simp [cB] at ih ⊢; omega
theorem cB_under (n : Nat) (B : List Bar) : underL n (cB B) = true := by rw [← cB_cells]; exact underL_cellsOf _ _
theorem cB_append (A B : List Bar) : cB (A ++ B) = cB A ++ cB B := by simp [cB]
def bC (b : Bar) : List LV := [.c (ci b.frm), .c (ci b.to), .c (.str b.word)]
theorem cB_one (b : Bar) : cB [b] = bC b := by simp [cB, bC]
theorem word_up {b : Bar} : (b.word = aboveS) ↔ b.up = true := by
  unfold Bar.word
  cases b.up <;> simp [aboveS, belowS]
theorem B12 (L C R T F N I : CV) (b : Bar) (O : List Bar) (hO : O.length < 1000) :
    ∃ ex, (ex = .normal ∨ ex = .exit 1) ∧ execS P (limS P) c42_n12 ⟨[.c L, .c C, .c R, .slice 1 (1 + O.length) 0 O.length (some 3) none, .c T, .c (ci b.frm), .ptr 2 0 0, .c T, .c N, .c I], [.cells 1 [] 0, .cells (1 + O.length) (cB O) 0, .cells 0 (bC b) 0]⟩ =
      some (ex, ⟨[.c L, .c C, .c R, .slice 1 (1 + (addBar O b).length) 0 (addBar O b).length (some 3) none, .c T, .c T, .c N, .c I], [.cells 1 [] 0, .cells (1 + (addBar O b).length) (cB (addBar O b)) 0, .cells 0 (bC b) 0, .cells 0 [.c (ci b.frm), .c (ci b.to), .c (.str aboveS)] 0]⟩) := by
  have w1 : IntKind.i64.wrap ((O.length : Int) - 1) = (O.length : Int) - 1 := wrap64 (by omega) (by omega)
  have hap := fun X2 X3 => append_own (b := 1) (g := 1 + O.length) (bytes := 32) (e := some 3) (ys := O.map Bar.enc) (xs := [b.enc]) (h := [.cells 1 [] 0, .cells (1 + O.length) (cellsOf (O.map Bar.enc)) 0, X2, X3]) (len := O.length) (fz := 0) rfl (barElems _) (by simpa using barElems [b]) (by simp) (Nat.zero_le _) (by simp) (by simp; omega) (by simp; omega)
  have e1 : O.map Bar.enc ++ [b.enc] = (O ++ [b]).map Bar.enc := by simp
  rw [e1, cB_cells, cB_cells] at hap
  have heq : ∀ (f t : Int) (u v : Str), eqK (.many [0, 0, 1]) (.agg [ci f, ci t, .str u]) (.agg [ci f, ci t, .str v]) = some (decide (u = v)) := by
    intro f t u v
    by_cases h : u = v <;> simp [eqK, keyOk, kindsOk, kindOf, eqCells, eqS, h]
  have hba : b.word = aboveS ↔ b.up = true := word_up
  have e2 : 1 + (O.length + 1) = 1 + O.length + 1 := by omega
  have hw := word_up (b := b)
  have hbw : decide (b.word = aboveS) = b.up := by cases h : b.up <;> simp [word_up, h]
  rcases List.eq_nil_or_concat O with hn | ⟨O', y, hy⟩
  · subst hn
    have ha : addBar [] b = [b] := rfl
    have w0 : IntKind.i64.wrap (-1) = -1 := rfl
    refine ⟨.normal, .inl rfl, ?_⟩
    rw [ha]
    simp [Bar.enc] at hap
    simp only [bC, aboveS] at *
    simp [w0, hap]
  · rw [List.concat_eq_append] at hy
    subst hy
    have hyw : decide (y.word = aboveS) = y.up := by cases h : y.up <;> simp [word_up, h]
    have hlen : (O' ++ [y]).length = O'.length + 1 := by simp
    have ha : addBar (O' ++ [y]) b = if b.up && y.up then O' ++ [⟨y.frm, b.to, true⟩] else (O' ++ [y]) ++ [b] := by simp [addBar]
    have hcl : (cB (O' ++ [y])).length = O'.length * 3 + 3 := by rw [cB_length]; simp; omega
    have g2 : (cB (O' ++ [y]))[O'.length * 3 + 2]? = some (.c (.str y.word)) := by
      rw [cB_append, List.getElem?_append_right (by rw [cB_length]; omega), cB_length, cB_one, show O'.length * 3 + 2 - O'.length * 3 = 2 from by omega]
      rfl
    have gs : y.up = true → (cB (O' ++ [y])).set (O'.length * 3 + 1) (.c (ci b.to)) = cB (O' ++ [⟨y.frm, b.to, true⟩]) := by
      intro hu
      rw [cB_append, cB_append, List.set_append_right _ _ (by rw [cB_length]; omega), cB_length, cB_one, cB_one, show O'.length * 3 + 1 - O'.length * 3 = 1 from by omega]
      simp [bC, Bar.word, hu]
    obtain ⟨p2, g2'⟩ := List.getElem?_eq_some_iff.1 g2
    have i1 : (O'.length : Int) < O'.length + 1 := by omega
    have i0 : 0 ≤ (O'.length : Int) := by omega
    have k1 : O'.length * 3 + 1 < O'.length * 3 + 3 := by omega
    have k2 : O'.length * 3 + 2 < O'.length * 3 + 3 := by omega
    have k3 : O'.length * 3 + 1 + 1 ≤ O'.length * 3 + 3 := by omega
    have w0 : IntKind.i64.wrap (O'.length : Int) = O'.length := wrap64 (by simp at hO; omega) (by omega)
    rw [hlen] at *
    rw [ha]
    simp only [List.length_append, List.length_singleton] at hap
    cases hb : b.up
    · rw [hb] at hbw
      have hbn : ¬ b.word = aboveS := by simpa using hbw
      refine ⟨.normal, .inl rfl, ?_⟩
      simp [Bar.enc] at hap
      simp only [bC] at *
      simp only [aboveS] at *
      generalize cB (O' ++ [y]) = D at *
      simp [w0, i0, heq, hbn, hap]
      omega
    · rw [hb] at hbw
      have hbn : b.word = aboveS := by simpa using hbw
      cases hyu : y.up
      · rw [hyu] at hyw
        have hyn : ¬ y.word = aboveS := by simpa using hyw
        refine ⟨.normal, .inl rfl, ?_⟩
        simp [Bar.enc] at hap
        simp only [bC, hbn] at *
        simp only [aboveS] at *
        generalize cB (O' ++ [y]) = D at *
        simp [w0, i0, i1, heq, hcl, k1, k2, k3, g2, g2', hyn, hap]
        omega
      · rw [hyu] at hyw
        have hyn : y.word = aboveS := by simpa using hyw
        have gs := gs hyu
        refine ⟨.exit 1, .inr rfl, ?_⟩
        simp only [bC, hbn, hyn] at *
        simp only [aboveS] at *
        simp only [hb, hyu, Bool.and_self, if_true, List.length_append, List.length_singleton]
        generalize cB (O' ++ [⟨y.frm, b.to, true⟩]) = D2 at *
        generalize cB (O' ++ [y]) = D at *
        simp [w0, i0, i1, heq, hcl, k1, k2, k3, g2, g2', gs]
theorem addBar_len (O : List Bar) (b : Bar) : (addBar O b).length ≤ O.length + 1 := by
  unfold addBar
  split
  · split
    · simp
    · simp
  · simp
theorem L42_0 (hl : l.length ≤ 5) (rank : Int) (h1 : 1 ≤ rank) (h2 : rank ≤ 5) (hc : l[c]? = some own) (T : List Int) (hT : T.length < 100) (hTr : ∀ x ∈ T, -1000000 < x ∧ x < 1000000) : ∀ (r pre : List Int) (O : List Bar), T = pre ++ r → O.length ≤ pre.length →
    execS P (limS P) c42_l0 ⟨[.c (.slice (l.map Op.enc)), .c (ci c), .c (ci rank), .slice 1 (1 + O.length) 0 O.length (some 3) none, .c (.slice (T.map ci)), .c (.slice (T.map ci)), .c (ci T.length), .c (ci pre.length)], [.cells 1 [] 0, .cells (1 + O.length) (cB O) 0]⟩ =
      some (.exit 0, ⟨[.slice 1 (1 + (barsF l c rank own.high O r).length) 0 (barsF l c rank own.high O r).length (some 3) none], [.cells 1 [] 0, .cells (1 + (barsF l c rank own.high O r).length) (cB (barsF l c rank own.high O r)) 0]⟩) := by
  intro r
  induction r with
  | nil =>
    intro pre O hp hO
    have hp' : T = pre := by simpa using hp
    subst hp'
    rw [r42_l0]
    simp [c42_l0b, barsF]
  | cons f r ih =>
    intro pre O hp hO
    have gx : T[pre.length]? = some f := by rw [hp]; simp
    have hpl : pre.length < T.length := (List.getElem?_eq_some_iff.1 gx).1
    obtain ⟨_, gx'⟩ := List.getElem?_eq_some_iff.1 gx
    have hlt : (pre.length : Int) < T.length := by omega
    obtain ⟨hcl, gc'⟩ := List.getElem?_eq_some_iff.1 hc
    have hcl' : (c : Int) < l.length := by omega
    have hw : IntKind.i64.wrap ((pre.length : Int) + 1) = (pre.length : Int) + 1 := wrap64 (by omega) (by omega)
    have hj : 0 ≤ (pre.length : Int) + 1 := by omega
    have ht : ((pre.length : Int) + 1).toNat = pre.length + 1 := by omega
    have al := addBar_len O (barOf l c rank f (toOf own.high r))
    have ih := ih (pre ++ [f]) (addBar O (barOf l c rank f (toOf own.high r))) (by simp [hp]) (by simp; omega)
    obtain ⟨ex, hex, hB⟩ := B12 (P := P) (.slice (l.map Op.enc)) (ci c) (ci rank) (.slice (T.map ci)) (ci f) (ci T.length) (ci pre.length) (barOf l c rank f (toOf own.high r)) O (by omega)
    have e110 := S110 (P := P) (c := c) hl rank h1 h2 ⟨f, toOf own.high r, true⟩
    have hok : barOk l c rank ⟨f, toOf own.high r, true⟩ = (barOf l c rank f (toOf own.high r)).up := rfl
    rw [hok] at e110
    have hfr : (barOf l c rank f (toOf own.high r)).frm = f := rfl
    have hto : (barOf l c rank f (toOf own.high r)).to = toOf own.high r := rfl
    have hu := cB_under 2 (addBar O (barOf l c rank f (toOf own.high r)))
    have hwd : ∀ u, (barOf l c rank f (toOf own.high r)).up = u → (barOf l c rank f (toOf own.high r)).word = if u then aboveS else belowS := fun u h => by rw [← h]; rfl
    rw [barsF]
    simp only [bC, hfr, hto] at hB
    generalize barOf l c rank f (toOf own.high r) = bb at *
    simp only [Bar.enc, Bar.word, if_true] at e110
    have hcase : (r = [] ∧ toOf own.high r = own.high ∧ ¬ (pre.length : Int) + 1 < T.length) ∨ (∃ b2, T[pre.length + 1]? = some b2 ∧ toOf own.high r = b2 - 1 ∧ (pre.length : Int) + 1 < T.length) := by
      cases r with
      | nil => exact .inl ⟨rfl, rfl, by rw [hp]; simp⟩
      | cons b2 r => exact .inr ⟨b2, by rw [hp]; simp, rfl, by rw [hp]; simp; omega⟩
    generalize barsF l c rank own.high (addBar O bb) r = R at *
    generalize addBar O bb = O2 at *
    generalize toOf own.high r = t at *
    simp only [List.length_append, List.length_singleton] at ih
    rw [r42_l0]
    rcases hcase with ⟨_, rfl, hlast⟩ | ⟨b2, g2, rfl, hnext⟩
    · cases hup : bb.up
      · rw [hup] at e110
        rw [hwd _ hup] at hB
        simp [aboveS, belowS] at hB e110 ih
        rcases hex with rfl | rfl
        · simp [c42_l0b, hlt, hpl, gx, gx', Op.enc, hc, gc', hcl, hcl', hw, hj, ht, hlast, e110, hB, hu, ih]
        · simp [c42_l0b, hlt, hpl, gx, gx', Op.enc, hc, gc', hcl, hcl', hw, hj, ht, hlast, e110, hB, hu, ih]
      · rw [hup] at e110
        rw [hwd _ hup] at hB
        simp [aboveS] at hB e110 ih
        rcases hex with rfl | rfl
        · simp [c42_l0b, hlt, hpl, gx, gx', Op.enc, hc, gc', hcl, hcl', hw, hj, ht, hlast, e110, hB, hu, ih]
        · simp [c42_l0b, hlt, hpl, gx, gx', Op.enc, hc, gc', hcl, hcl', hw, hj, ht, hlast, e110, hB, hu, ih]
    · obtain ⟨p2, g2'⟩ := List.getElem?_eq_some_iff.1 g2
      have hb2 := hTr b2 (List.mem_of_getElem? g2)
      have hwb : IntKind.i64.wrap (b2 - 1) = b2 - 1 := wrap64 (by omega) (by omega)
      cases hup : bb.up
      · rw [hup] at e110
        rw [hwd _ hup] at hB
        simp [aboveS, belowS] at hB e110 ih
        rcases hex with rfl | rfl
        · simp [c42_l0b, hlt, hpl, gx, gx', Op.enc, hc, gc', hcl, hcl', hw, hj, ht, hnext, p2, g2, g2', hwb, e110, hB, hu, ih]
        · simp [c42_l0b, hlt, hpl, gx, gx', Op.enc, hc, gc', hcl, hcl', hw, hj, ht, hnext, p2, g2, g2', hwb, e110, hB, hu, ih]
      · rw [hup] at e110
        rw [hwd _ hup] at hB
        simp [aboveS] at hB e110 ih
        rcases hex with rfl | rfl
        · simp [c42_l0b, hlt, hpl, gx, gx', Op.enc, hc, gc', hcl, hcl', hw, hj, ht, hnext, p2, g2, g2', hwb, e110, hB, hu, ih]
        · simp [c42_l0b, hlt, hpl, gx, gx', Op.enc, hc, gc', hcl, hcl', hw, hj, ht, hnext, p2, g2, g2', hwb, e110, hB, hu, ih]
theorem S42 (hg : OG l) (hk : ∀ x ∈ l, x.ok) (hc : l[c]? = some own) (hl : l.length ≤ 5) (rank : Int) (h1 : 1 ≤ rank) (h2 : rank ≤ l.length) : fn P 42 [.slice (l.map Op.enc), ci c, ci rank] = some (.tuple (if isV own l c rank then [.slice [], ci 7] else [.slice ((barsF l c rank own.high [] (partsL own l)).map Bar.enc), ci 0])) := by
  have hcl := (List.getElem?_eq_some_iff.1 hc).1
  have e107 := S107 (P := P) l hg (fun e => by rw [e] at hcl; simp at hcl) hk (by omega) c hcl rank h1 h2
  have e106 := S106 (P := P) hc hl rank
  have e109 := S109 (P := P) own l c hc hl
  have hv := isV_find (own := own) (l := l) (c := c) rank
  have ho := hg.one own (List.mem_of_getElem? hc)
  cases hf : (partsL own l).find? (okV l c rank) with
  | some v =>
    rw [hf] at e106 hv
    simp at hv e106
    rw [u42]
    simp [c42, e107, e106, hv, resV, mkTuple]
  | none =>
    rw [hf] at e106 hv
    simp at hv e106
    have hpl := partsL_len own l
    have hL := L42_0 (P := P) hl rank h1 (by omega) hc (partsL own l) (by omega) (fun x hx => by have := partsL_range (by omega) l hx; omega) (partsL own l) [] [] rfl (by simp)
    have hr := fun X0 => resV_own (b := 1) (g := 1 + (barsF l c rank own.high [] (partsL own l)).length) (fz := 0) (e := some 3) (ys := (barsF l c rank own.high [] (partsL own l)).map Bar.enc) (h := [X0, .cells (1 + (barsF l c rank own.high [] (partsL own l)).length) (cB (barsF l c rank own.high [] (partsL own l))) 0]) (len := (barsF l c rank own.high [] (partsL own l)).length) (by rw [cB_cells]; rfl) (barElems _) (by simp) none (ci 0)
    have hc0 : cB [] = [] := rfl
    generalize barsF l c rank own.high [] (partsL own l) = B at *
    simp [hc0, mkTuple] at hL hr
    rw [u42]
    simp [c42, e107, e106, hv, e109, hL, hr, mkTuple]
end
end LM.GZ
namespace LM.GZ
open Go LM
variable {P : Nat → Option SFunc} [Has P]
section
variable {own : Op} {l : List Op} {c : Nat}
theorem Okb.bound {l : List Op} {c : Nat} {rank : Int} : ∀ {B : List Bar} {a e : Int}, Okb l c rank a B e → a ≤ e ∧ ∀ b ∈ B, a ≤ b.to ∧ b.to < e
  | [], a, e, h => by
    have h : a = e := h
    exact ⟨by omega, by simp⟩
  | b :: r, a, e, h => by
    obtain ⟨h1, h2, _, h4⟩ := h
    obtain ⟨i1, i2⟩ := h4.bound
    refine ⟨by omega, ?_⟩
    intro x hx
    rcases List.mem_cons.1 hx with rfl | hx
    · omega
    · have := i2 x hx; omega
theorem L43_0 (hl : l.length ≤ 5) (rank : Int) (h1 : 1 ≤ rank) (h2 : rank ≤ 5) (hc : l[c]? = some own) (B : List Bar) (hB : B.length < 1000) (hb : ∀ b ∈ B, -1000000 < b.to ∧ b.to < 1000000) (E : Int) : ∀ (r pre : List Bar) (e : Int), B = pre ++ r → Okb l c rank e r E → (pre = [] → e = own.low) → (∀ y, pre.getLast? = some y → e = y.to + 1) →
    execS P (limS P) c43_l0 ⟨[.c (.slice (l.map Op.enc)), .c (ci c), .c (ci rank), .c (.slice (B.map Bar.enc)), .c (.slice (B.map Bar.enc)), .c (ci B.length), .c (ci pre.length)], []⟩ = some (.exit 0, ⟨[.c (.slice (l.map Op.enc)), .c (ci c), .c (.slice (B.map Bar.enc))], []⟩) := by
  intro r
  induction r with
  | nil =>
    intro pre e hp _ _ _
    have hp' : B = pre := by simpa using hp
    subst hp'
    rw [r43_l0]
    simp [c43_l0b]
  | cons b r ih =>
    intro pre e hp ho hn hla
    obtain ⟨o1, o2, o3, o4⟩ := ho
    have ih := ih (pre ++ [b]) (b.to + 1) (by simp [hp]) o4 (by simp) (by simp)
    have gb : B[pre.length]? = some b := by rw [hp]; simp
    have hpl : pre.length < B.length := (List.getElem?_eq_some_iff.1 gb).1
    obtain ⟨_, gb'⟩ := List.getElem?_eq_some_iff.1 gb
    have hlt : (pre.length : Int) < B.length := by omega
    obtain ⟨hcl, gc'⟩ := List.getElem?_eq_some_iff.1 hc
    have hcl' : (c : Int) < l.length := by omega
    have hw : IntKind.i64.wrap ((pre.length : Int) + 1) = (pre.length : Int) + 1 := wrap64 (by omega) (by omega)
    have e110 := S110 (P := P) (c := c) hl rank h1 h2 b
    rw [o3] at e110
    have hwd : b.word = aboveS ∨ b.word = belowS := by unfold Bar.word; cases b.up <;> simp
    have hft : ¬ b.to < b.frm := by omega
    simp only [Bar.enc] at e110
    simp at ih
    rcases List.eq_nil_or_concat pre with hpre | ⟨pre', y, hpre⟩
    · subst hpre
      have he := hn rfl
      subst he
      simp only [List.length_nil] at *
      have gb0 : B[0]? = some b := gb
      have w1 : IntKind.i64.wrap 1 = 1 := rfl
      simp at ih hlt hpl
      rw [o1] at e110 hft
      rw [r43_l0]
      rcases hwd with hwd | hwd <;> rw [hwd] at e110 <;> simp [aboveS, belowS] at e110 hwd <;>
        simp [c43_l0b, hpl, gb0, gb', Bar.enc, hc, gc', hcl, hcl', Op.enc, o1, hft, hwd, e110, whenE, firstE, w1, ih]
    · rw [List.concat_eq_append] at hpre
      have hpl' : pre.length = pre'.length + 1 := by rw [hpre]; simp
      have he := hla y (by rw [hpre]; simp)
      have gy : B[pre'.length]? = some y := by rw [hp, hpre]; simp
      obtain ⟨hyl, gy'⟩ := List.getElem?_eq_some_iff.1 gy
      have hby := hb y (List.mem_of_getElem? gy)
      have hyl' : (pre'.length : Int) < B.length := by omega
      have hpos : 0 < (pre.length : Int) := by omega
      have hposn : 0 < pre.length := by omega
      have wl : IntKind.i64.wrap ((pre.length : Int) - 1) = pre'.length := by rw [show (pre.length : Int) - 1 = pre'.length from by omega]; exact wrap64 (by omega) (by omega)
      have wt : IntKind.i64.wrap (y.to + 1) = y.to + 1 := wrap64 (by omega) (by omega)
      have hmax : ¬ y.to = 9223372036854775807 := by omega
      have hfe : b.frm = y.to + 1 := by omega
      have hpn : pre ≠ [] := by rw [hpre]; simp
      rw [hfe] at e110 hft
      rw [r43_l0]
      rcases hwd with hwd | hwd <;> rw [hwd] at e110 <;> simp [aboveS, belowS] at e110 hwd <;>
        simp [c43_l0b, hlt, hpl, gb, gb', Bar.enc, hc, gc', hcl, hcl', Op.enc, hpos, hposn, hpn, wl, hyl, hyl', gy, gy', wt, hmax, hfe, hft, hwd, e110, whenE, firstE, hw, ih]
theorem S43 (hg : OG l) (hk : ∀ x ∈ l, x.ok) (hc : l[c]? = some own) (hl : l.length ≤ 5) (rank : Int) (h1 : 1 ≤ rank) (h2 : rank ≤ l.length) (B : List Bar) (hB : B.length < 1000) (hn : B ≠ []) (ho : Okb l c rank own.low B (own.high + 1)) : fn P 43 [.slice (l.map Op.enc), ci c, ci rank, .slice (B.map Bar.enc)] = some (ci 0) := by
  obtain ⟨hcl, gc'⟩ := List.getElem?_eq_some_iff.1 hc
  have hcl' : (c : Int) < l.length := by omega
  have e107 := S107 (P := P) l hg (fun e => by rw [e] at hcl; simp at hcl) hk (by omega) c hcl rank h1 h2
  have hog := hg.one own (List.mem_of_getElem? hc)
  have hbd := ho.bound
  have hL := L43_0 (P := P) hl rank h1 (by omega) hc B hB (fun b hb => by have := hbd.2 b hb; omega) (own.high + 1) B [] own.low rfl ho (fun _ => rfl) (by simp)
  have hlen : B.length ≠ 0 := fun e => hn (List.eq_nil_of_length_eq_zero e)
  rcases List.eq_nil_or_concat B with hz | ⟨B', y, hy⟩
  · exact absurd hz hn
  · rw [List.concat_eq_append] at hy
    have hBl : B.length = B'.length + 1 := by rw [hy]; simp
    have gy : B[B'.length]? = some y := by rw [hy]; simp
    obtain ⟨hyl, gy'⟩ := List.getElem?_eq_some_iff.1 gy
    have hyt : y.to = own.high := by
      rw [hy] at ho
      obtain ⟨_, _, _, _, h4⟩ := ho.last
      omega
    have wl : IntKind.i64.wrap ((B.length : Int) - 1) = B'.length := by rw [show (B.length : Int) - 1 = B'.length from by omega]; exact wrap64 (by omega) (by omega)
    have hyl' : (B'.length : Int) < B.length := by omega
    simp at hL
    rw [u43]
    simp [c43, e107, hn, whenE, firstE, hL, wl, hyl, hyl', gy, gy', Bar.enc, hc, gc', hcl, hcl', Op.enc, hyt]
end
end LM.GZ
namespace LM.GZ
open Go LM
variable {P : Nat → Option SFunc} [Has P] [HasP P]
def fewO (x : Op) : Bool := decide (x.high - x.low ≤ 3) && decide (x.who.length ≤ 40)
theorem opElems (l : List Op) : ∀ x ∈ l.map Op.enc, Elem (some 3) x := by
  intro x hx
  obtain ⟨y, _, rfl⟩ := List.mem_map.1 hx
  exact ⟨_, rfl, rfl, by simp [CV.flat]⟩
theorem L6_0 (h38 : fn P 38 [] = some (.bool true)) (l : List Op) (hlo : ∀ x ∈ l, 0 ≤ x.low ∧ x.low ≤ x.high ∧ x.high ≤ 99999) (hk : ∀ x ∈ l, x.ok) (hl : l.length ≤ 4) (c : CV) : ∀ (r pre : List Op) (t : Nat), l = pre ++ r → t ≤ 4 ^ pre.length →
    ∃ H, execS P (limS P) c6_l0 ⟨[.c (.slice (l.map Op.enc)), .c c, .slice 0 (1 + pre.length) 0 pre.length (some 3) none, .c (ci t), .c (.slice (l.map Op.enc)), .c (ci l.length), .c (ci pre.length)], [.cells (1 + pre.length) (cellsOf (pre.map Op.enc)) 0]⟩ =
      if r.all fewO then some (.exit 0, ⟨[.c (.slice (l.map Op.enc)), .c c, .slice 0 (1 + l.length) 0 l.length (some 3) none, .c (ci ((t * totO r : Nat) : Int))], [.cells (1 + l.length) (cellsOf (l.map Op.enc)) 0]⟩) else some (.ret, ⟨[.c (.bool true)], H⟩) := by
  intro r
  induction r with
  | nil =>
    intro pre t hp _
    have hp' : l = pre := by simpa using hp
    subst hp'
    refine ⟨[], ?_⟩
    rw [r6_l0]
    simp [c6_l0b, totO]
  | cons x r ih =>
    intro pre t hp ht
    have hx : x ∈ l := by rw [hp]; simp
    obtain ⟨x1, x2, x3⟩ := hlo x hx
    have gx : l[pre.length]? = some x := by rw [hp]; simp
    have hpl : pre.length < l.length := (List.getElem?_eq_some_iff.1 gx).1
    obtain ⟨_, gx'⟩ := List.getElem?_eq_some_iff.1 gx
    have hlt : (pre.length : Int) < l.length := by omega
    have hw : IntKind.i64.wrap ((pre.length : Int) + 1) = (pre.length : Int) + 1 := wrap64 (by omega) (by omega)
    have hw1 : IntKind.i64.wrap (x.high - x.low) = x.high - x.low := wrap64 (by omega) (by omega)
    have hw2 : IntKind.i64.wrap (x.high - x.low + 1) = x.high - x.low + 1 := wrap64 (by omega) (by omega)
    have hap := fun X1 => append_own (b := 0) (g := 1 + pre.length) (bytes := 32) (e := some 3) (ys := pre.map Op.enc) (xs := [x.enc]) (h := [.cells (1 + pre.length) (cellsOf (pre.map Op.enc)) 0, X1]) (len := pre.length) (fz := 0) rfl (opElems _) (by simpa using opElems [x]) (by simp) (Nat.zero_le _) (by simp) (by simp; omega) (by simp; omega)
    have e1 : pre.map Op.enc ++ [x.enc] = (pre ++ [x]).map Op.enc := by simp
    rw [e1] at hap
    have hu := underL_cellsOf 1 ((pre ++ [x]).map Op.enc)
    have e2 : 1 + (pre.length + 1) = 1 + pre.length + 1 := by omega
    have h4 : 4 ^ pre.length ≤ 4 ^ 3 := Nat.pow_le_pow_right (by decide) (by omega)
    have hfe : fewO x = (decide (x.high - x.low ≤ 3) && decide (x.who.length ≤ 40)) := rfl
    by_cases f1 : x.high - x.low ≤ 3
    · by_cases f2 : x.who.length ≤ 40
      · have hf : fewO x = true := by rw [hfe]; simp [f1, f2]
        have hsz : (szO x : Int) = x.high - x.low + 1 := by unfold szO; omega
        have hsz4 : szO x ≤ 4 := by omega
        have hts : t * szO x ≤ 4 ^ (pre ++ [x]).length := by
          rw [List.length_append, List.length_singleton, Nat.pow_succ]
          exact Nat.mul_le_mul ht hsz4
        obtain ⟨H, ih⟩ := ih (pre ++ [x]) (t * szO x) (by simp [hp]) hts
        refine ⟨H, ?_⟩
        have hmul : IntKind.i64.wrap ((t : Int) * (x.high - x.low + 1)) = ((t * szO x : Nat) : Int) := by
          rw [← hsz]
          have : t * szO x ≤ 64 * 4 := Nat.mul_le_mul (by omega) hsz4
          rw [show (t : Int) * (szO x : Int) = ((t * szO x : Nat) : Int) from by simp]
          exact wrap64 (by omega) (by omega)
        have n1 : ¬ 3 < x.high - x.low := by omega
        have n2 : ¬ 40 < x.who.length := by omega
        have n3 : ¬ (40 : Int) < (x.who.length : Int) := by omega
        have hall : (x :: r).all fewO = r.all fewO := by simp [hf, -List.all_eq_true]
        rw [hall, totO, ← Nat.mul_assoc]
        generalize t * szO x = t2 at *
        simp only [List.length_append, List.length_singleton, e2] at ih
        generalize cellsOf ((pre ++ [x]).map Op.enc) = D2 at *
        simp [Op.enc, -List.all_eq_true] at hap
        rw [r6_l0]
        simp at ih
        simp [c6_l0b, hlt, hpl, gx, gx', Op.enc, hw, hw1, hw2, n1, n2, n3, hmul, hap, hu, ih]
      · have hf : fewO x = false := by rw [hfe]; simp [f2]
        have n1 : ¬ 3 < x.high - x.low := by omega
        have n3 : (40 : Int) < (x.who.length : Int) := by omega
        have hall : (x :: r).all fewO = false := by simp [hf]
        refine ⟨[.cells (1 + pre.length) (cellsOf (pre.map Op.enc)) 0, OB3 x 0], ?_⟩
        rw [hall, r6_l0]
        simp [c6_l0b, hlt, hpl, gx, gx', Op.enc, hw, hw1, hw2, n1, n3, h38, OB3]
    · have hf : fewO x = false := by rw [hfe]; simp [f1]
      have n1 : 3 < x.high - x.low := by omega
      have hall : (x :: r).all fewO = false := by simp [hf]
      refine ⟨[.cells (1 + pre.length) (cellsOf (pre.map Op.enc)) 0, OB3 x 0], ?_⟩
      rw [hall, r6_l0]
      simp [c6_l0b, hlt, hpl, gx, gx', Op.enc, hw, hw1, hw2, n1, h38, OB3]
def rowsOf : List Op → Nat → List Rs
  | [], _ => []
  | x :: r, n => ⟨x.who, [], [x.low + (n % szO x : Nat)]⟩ :: rowsOf r (n / szO x)
theorem rowsOf_length : ∀ (l : List Op) (n : Nat), (rowsOf l n).length = l.length
  | [], _ => rfl
  | x :: r, n => by simp [rowsOf, rowsOf_length r]
theorem rowsOf_who : ∀ (l : List Op) (n : Nat), (rowsOf l n).map (·.who) = l.map (·.who)
  | [], _ => rfl
  | x :: r, n => by simp [rowsOf, rowsOf_who r]
theorem rowsOf_vals : ∀ (l : List Op) (n : Nat), (rowsOf l n).map (·.vals) = (comp l n).map fun v => [v]
  | [], _ => rfl
  | x :: r, n => by simp [rowsOf, comp, rowsOf_vals r]
theorem rowsOf_mem : ∀ {l : List Op} {n : Nat} {y : Rs}, (∀ x ∈ l, 0 ≤ x.low ∧ x.low ≤ x.high ∧ x.high ≤ 99999) → y ∈ rowsOf l n → ∃ x ∈ l, ∃ v, y = ⟨x.who, [], [v]⟩ ∧ 0 ≤ v ∧ v ≤ 99999
  | x :: r, n, y, hl, h => by
    rcases List.mem_cons.1 h with rfl | h
    · have hx := hl x (by simp)
      have := Nat.mod_lt n (szO_pos hx.2.1)
      refine ⟨x, by simp, _, rfl, ?_, ?_⟩
      · omega
      · unfold szO at this ⊢; omega
    · obtain ⟨z, hz, v, h1⟩ := rowsOf_mem (fun z hz => hl z (by simp [hz])) h
      exact ⟨z, by simp [hz], v, h1⟩
  | [], _, _, _, h => by cases h
theorem rowsOf_rg {l : List Op} (hg : OG l) (n : Nat) : RG (rowsOf l n) := by
  have hlo : ∀ x ∈ l, 0 ≤ x.low ∧ x.low ≤ x.high ∧ x.high ≤ 99999 := fun x hx => by have := hg.one x hx; omega
  refine ⟨?_, ?_, ?_⟩
  · intro y hy
    obtain ⟨x, hx, v, rfl, h1, h2⟩ := rowsOf_mem hlo hy
    refine ⟨(hg.one x hx).1, rfl, rfl, rfl, ?_⟩
    unfold farI
    simp
    omega
  · have h1 : (l.map (·.who)).Pairwise (· ≠ ·) := List.pairwise_map.2 hg.uniq
    rw [← rowsOf_who l n] at h1
    exact List.pairwise_map.1 h1
  · intro y hy z hz _ _
    obtain ⟨_, _, _, rfl, _⟩ := rowsOf_mem hlo hy
    obtain ⟨_, _, _, rfl, _⟩ := rowsOf_mem hlo hz
    rfl
theorem rowsOf_state : ∀ (l : List Op) (n : Nat), ∀ y ∈ rowsOf l n, y.state = []
  | x :: r, n, y, h => by
    rcases List.mem_cons.1 h with rfl | h
    · rfl
    · exact rowsOf_state r _ y h
  | [], _, _, h => by cases h
theorem rank_rows {l : List Op} {k n : Nat} (hk : k < l.length) : (ranksL (rowsOf l n))[k]? = some (rankAt l k n) := by
  have hkr : k < (rowsOf l n).length := by rw [rowsOf_length]; exact hk
  have hkc : k < (comp l n).length := by rw [comp_length]; exact hk
  have hv : (rowsOf l n)[k].vals = [(comp l n)[k]] := by
    have h1 : ((rowsOf l n).map (·.vals))[k]? = some (rowsOf l n)[k].vals := by rw [List.getElem?_map, List.getElem?_eq_getElem hkr]; rfl
    rw [rowsOf_vals, List.getElem?_map, List.getElem?_eq_getElem hkc] at h1
    simpa using h1.symm
  have hs : (rowsOf l n)[k].state = [] := rowsOf_state l n _ (List.getElem_mem hkr)
  unfold ranksL
  rw [List.getElem?_map, List.getElem?_eq_getElem hkr]
  unfold rankAt rankT cntT rankV
  rw [List.getD_eq_getElem?_getD, List.getElem?_eq_getElem hkc]
  simp only [Option.map_some, Option.getD_some]
  congr 2
  have key : ∀ (R : List Rs) (V : List Int), R.map (·.vals) = V.map (fun v => [v]) → (∀ y ∈ R, y.state = []) → ((R.filter fun y => btT y (rowsOf l n)[k]).length) = (V.filter (gtP (comp l n)[k])).length := by
    intro R
    induction R with
    | nil => intro V h _; cases V with
      | nil => rfl
      | cons v V => simp at h
    | cons y R ih =>
      intro V h hst
      cases V with
      | nil => simp at h
      | cons v V =>
        simp at h
        obtain ⟨h1, h2⟩ := h
        have ih := ih V h2 (fun z hz => hst z (by simp [hz]))
        have hb : btT y (rowsOf l n)[k] = gtP (comp l n)[k] v := by
          unfold btT cmpT gradeR
          rw [hst y (by simp), hs, hv, h1]
          unfold gtP cmpJ cmpL cmpJ
          simp [cmpL]
          by_cases e : (comp l n)[k] = v
          · simp [e]
          · by_cases e2 : (comp l n)[k] < v
            · simp [e, e2]
            · by_cases e3 : v < (comp l n)[k]
              · simp [e, e2, e3]
              · omega
        rw [List.filter_cons, List.filter_cons, hb]
        cases gtP (comp l n)[k] v <;> simp [ih]
  rw [key (rowsOf l n) (comp l n) (rowsOf_vals l n) (rowsOf_state l n)]
end LM.GZ
namespace LM.GZ
open Go LM
variable {P : Nat → Option SFunc} [Has P] [HasP P]
theorem eqK_int (a b : Int) : eqK (.one 0) (ci a) (ci b) = some (decide (a = b)) := by by_cases h : a = b <;> simp [eqK, keyOk, kindOf, eqS, h]
theorem findI_no (k : Int) : ∀ {ks : List Int}, k ∉ ks → findK (.one 0) (ci k) (ks.map ci) = some none
  | [], _ => rfl
  | x :: r, h => by
    have h1 : ¬ k = x := fun e => h (by simp [e])
    have h2 : k ∉ r := fun e => h (by simp [e])
    have e := eqK_int k x
    simp [findK, e, h1, findI_no k h2]
theorem findI_yes (k : Int) : ∀ {ks : List Int}, k ∈ ks → ∃ i, i < ks.length ∧ findK (.one 0) (ci k) (ks.map ci) = some (some i)
  | [], h => by cases h
  | x :: r, h => by
    have e := eqK_int k x
    by_cases h1 : k = x
    · subst h1; exact ⟨0, by simp, by simp [findK, e]⟩
    · obtain ⟨i, h2, h3⟩ := findI_yes k (ks := r) (by rcases List.mem_cons.1 h with e | e; exact absurd e h1; exact e)
      exact ⟨i + 1, by simpa using h2, by simp [findK, e, h1, h3]⟩
theorem L6_1 (X0 X1 : LB) (hu0 : underB 3 [X0, X1] = true) (l : List Op) (hlo : ∀ x ∈ l, 0 ≤ x.low ∧ x.low ≤ x.high ∧ x.high ≤ 99999) (hl : l.length ≤ 4) (C : CV) (OW : LV) (hOW : ∃ g n cp, OW = .slice 0 g 0 n (some 3) cp) (T N : CV) : ∀ (r pre : List Op) (q : Nat) (R : List Rs), l = pre ++ r → R.length = pre.length → q < 100000 →
    execS P (limS P) c6_l1 ⟨[.c (.slice (l.map Op.enc)), .c C, OW, .map 1, .c (ci q), .slice 2 (1 + R.length) 0 R.length (some 3) none, .c T, .c N, .c (.slice (l.map Op.enc)), .c (ci l.length), .c (ci pre.length)], [X0, X1, .cells (1 + R.length) (cR R) 0]⟩ =
      some (.exit 4, ⟨[.c (.slice (l.map Op.enc)), .c C, OW, .map 1, .slice 2 (1 + (R ++ rowsOf r q).length) 0 (R ++ rowsOf r q).length (some 3) none, .c T, .c N], [X0, X1, .cells (1 + (R ++ rowsOf r q).length) (cR (R ++ rowsOf r q)) 0]⟩) := by
  obtain ⟨g, nn, cp, rfl⟩ := hOW
  intro r
  induction r with
  | nil =>
    intro pre q R hp hR _
    have hp' : l = pre := by simpa using hp
    subst hp'
    rw [r6_l1]
    simp [c6_l1b, rowsOf]
  | cons x r ih =>
    intro pre q R hp hR hq
    have hx : x ∈ l := by rw [hp]; simp
    obtain ⟨x1, x2, x3⟩ := hlo x hx
    have gx : l[pre.length]? = some x := by rw [hp]; simp
    have hpl : pre.length < l.length := (List.getElem?_eq_some_iff.1 gx).1
    obtain ⟨_, gx'⟩ := List.getElem?_eq_some_iff.1 gx
    have hlt : (pre.length : Int) < l.length := by omega
    have hw : IntKind.i64.wrap ((pre.length : Int) + 1) = (pre.length : Int) + 1 := wrap64 (by omega) (by omega)
    have hsz : (szO x : Int) = x.high - x.low + 1 := by unfold szO; omega
    have hsp := szO_pos x2
    have hw1 : IntKind.i64.wrap (x.high - x.low) = x.high - x.low := wrap64 (by omega) (by omega)
    have hw2 : IntKind.i64.wrap (x.high - x.low + 1) = (szO x : Int) := by rw [← hsz]; exact wrap64 (by omega) (by omega)
    have hz : ¬ (szO x : Int) = 0 := by omega
    have hzn : ¬ szO x = 0 := by omega
    have hmod : Int.tmod (q : Int) (szO x : Int) = ((q % szO x : Nat) : Int) := by rw [Int.tmod_eq_emod_of_nonneg (by omega)]; rfl
    have hdiv : Int.tdiv (q : Int) (szO x : Int) = ((q / szO x : Nat) : Int) := by rw [Int.tdiv_eq_ediv_of_nonneg (by omega)]; rfl
    have hml := Nat.mod_lt q hsp
    have hdl := Nat.div_le_self q (szO x)
    have hrow : rowsOf (x :: r) q = ⟨x.who, [], [x.low + (q % szO x : Nat)]⟩ :: rowsOf r (q / szO x) := rfl
    rw [hrow]
    generalize q % szO x = m at *
    generalize q / szO x = d at *
    have wm : IntKind.i64.wrap (m : Int) = m := wrap64 (by omega) (by omega)
    have wd : IntKind.i64.wrap (d : Int) = d := wrap64 (by omega) (by omega)
    have wv : IntKind.i64.wrap (x.low + (m : Int)) = x.low + (m : Int) := wrap64 (by omega) (by omega)
    have ih := ih (pre ++ [x]) d (R ++ [⟨x.who, [], [x.low + m]⟩]) (by simp [hp]) (by simp [hR]) (by omega)
    have hap := fun X3 X4 X5 X6 => append_ownP (some 6) (b := 2) (g := 1 + R.length) (bytes := 56) (e := some 3) (ys := R.map Rs.enc) (xs := [Rs.enc ⟨x.who, [], [x.low + m]⟩]) (h := [X0, X1, .cells (1 + R.length) (cellsOf (R.map Rs.enc)) 0, X3, X4, X5, X6]) (len := R.length) (fz := 0) rfl (Rs.elems _) (by intro y hy; simp at hy; subst hy; exact Rs.elem _) (by simp) (Nat.zero_le _) (by simp) (by simp; omega) (by simp; omega)
    have e1 : R.map Rs.enc ++ [Rs.enc ⟨x.who, [], [x.low + m]⟩] = (R ++ [(⟨x.who, [], [x.low + m]⟩ : Rs)]).map Rs.enc := by simp
    rw [e1, cellsOf_rs, cellsOf_rs] at hap
    have e2 : 1 + (R.length + 1) = 1 + R.length + 1 := by omega
    have hu := under_cR 3 (R ++ [⟨x.who, [], [x.low + m]⟩])
    have hro : R ++ (⟨x.who, [], [x.low + m]⟩ :: rowsOf r d) = (R ++ [⟨x.who, [], [x.low + m]⟩]) ++ rowsOf r d := by simp
    simp only [underB_cons, Bool.and_eq_true, underB_nil, and_true] at hu0
    obtain ⟨u0, u1⟩ := hu0
    unfold LB.under at u0 u1
    rw [hro]
    simp only [List.length_append, List.length_singleton, e2] at ih
    generalize hRR : (R ++ [⟨x.who, [], [x.low + m]⟩]) ++ rowsOf r d = RR at *
    have hRRl : R.length + 1 + (rowsOf r d).length = RR.length := by rw [← hRR]; simp; omega
    simp [Rs.enc] at hap
    simp at ih
    rw [r6_l1]
    simp [c6_l1b, hlt, hpl, gx, gx', Op.enc, hw, hw1, hw2, hz, hzn, hmod, hdiv, wm, wd, wv, hap, u0, u1, hu, ih]
    try omega
theorem frz_rsB {b g fz : Nat} {F : List Rs} {h : Heap} (hb : h[b]? = some (.cells g (cR F) fz)) (cap : Option Nat) : frz frzDepth (.slice b g 0 F.length (some 3) cap) h = some (.slice (F.map Rs.enc), h.set b (.cells g (cR F) (Nat.max fz (F.length * 3)))) := by
  have h3 := chunk_cellsOf (Rs.elems F)
  have hz : szOf (some 3) = 3 := rfl
  rw [frz_slice, hb]
  simp only [Nat.zero_add, List.drop_zero, hz]
  rw [if_pos ⟨trivial, by rw [cR_length]; omega⟩]
  have : (cR F).take (F.length * 3) = cellsOf (F.map Rs.enc) := by rw [List.take_of_length_le (by rw [cR_length]; omega), cellsOf_rs]
  rw [this]
  unfold cellsOf
  rw [mapH_map_c 38]
  rw [List.length_map] at h3
  simp only [bnd_some, h3, bump, hb]
theorem L6_2 (l : List Op) (hg : OG l) (hk : ∀ x ∈ l, x.ok) (hl : l.length ≤ 4) (k : Nat) (hkl : k < l.length) (ht : totO l ≤ 256) : ∀ (m n : Nat), n + m = totO l →
    execS P (limS P) c6_l2 ⟨[.c (.slice (l.map Op.enc)), .c (ci k), .slice 0 (1 + l.length) 0 l.length (some 3) none, .map 1, .c (ci (totO l)), .c (ci n)], [.cells (1 + l.length) (cellsOf (l.map Op.enc)) 0, .map ((seenL l k n).map ci) (setV (seenL l k n)) false]⟩ =
      some (.exit 2, ⟨[.c (.slice (l.map Op.enc)), .c (ci k), .slice 0 (1 + l.length) 0 l.length (some 3) none, .map 1], [.cells (1 + l.length) (cellsOf (l.map Op.enc)) 0, .map ((seenL l k (totO l)).map ci) (setV (seenL l k (totO l))) false]⟩) := by
  have hlo : ∀ x ∈ l, 0 ≤ x.low ∧ x.low ≤ x.high ∧ x.high ≤ 99999 := fun x hx => by have := hg.one x hx; omega
  intro m
  induction m with
  | zero =>
    intro n h
    have : n = totO l := by omega
    subst this
    rw [r6_l2]
    simp [c6_l2b]
  | succ m ih =>
    intro n h
    have hlt : (n : Int) < totO l := by omega
    have hw : IntKind.i64.wrap ((n : Int) + 1) = (n : Int) + 1 := wrap64 (by omega) (by omega)
    have ih := ih (n + 1) (by omega)
    have hrg := rowsOf_rg hg n
    have hrl := rowsOf_length l n
    have hrk : ∀ y ∈ rowsOf l n, y.ok := by
      intro y hy
      obtain ⟨x, hx, v, rfl, _⟩ := rowsOf_mem hlo hy
      exact ⟨hk x hx, by simp, by simp⟩
    have e39 := S39 (P := P) (rowsOf l n) hrg hrk (by omega)
    have hrr := ranksL_length (rowsOf l n)
    have hra := rank_rows (l := l) (k := k) (n := n) hkl
    obtain ⟨hr1, hr2⟩ := List.getElem?_eq_some_iff.1 hra
    have h1 := L6_1 (P := P) (.cells (1 + l.length) (cellsOf (l.map Op.enc)) 0) (.map ((seenL l k n).map ci) (setV (seenL l k n)) false) (by simp [underL_cellsOf, setV_under]) l hlo hl (ci k) (.slice 0 (1 + l.length) 0 l.length (some 3) none) ⟨_, _, _, rfl⟩ (ci (totO l)) (ci n) l [] n [] rfl rfl (by omega)
    have hc0 : cR [] = [] := rfl
    have ef := frz_rsB (b := 2) (g := 1 + (rowsOf l n).length) (fz := 0) (F := rowsOf l n) (h := [.cells (1 + l.length) (cellsOf (l.map Op.enc)) 0, .map ((seenL l k n).map ci) (setV (seenL l k n)) false, .cells (1 + (rowsOf l n).length) (cR (rowsOf l n)) 0]) (by simp) none
    have hkk : keyOk (.one 0) (ci (rankAt l k n)) = true := rfl
    have hki : (k : Int) < (ranksL (rowsOf l n)).length := by omega
    have hsn : seenL l k (n + 1) = insK (seenL l k n) (rankAt l k n) := rfl
    have hu1 := underL_cellsOf 2 (l.map Op.enc)
    have hu2 := setV_under 2 (seenL l k (n + 1))
    have w0 : IntKind.i64.wrap 0 = 0 := rfl
    rw [hsn] at ih hu2
    unfold insK at ih hu2
    generalize seenL l k n = K at *
    generalize rankAt l k n = rk at *
    generalize seenL l k (totO l) = KT at *
    generalize ranksL (rowsOf l n) = RK at *
    generalize rowsOf l n = RW at *
    generalize cellsOf (l.map Op.enc) = OWN at *
    simp [hc0] at h1
    rw [hrl] at ef h1
    rw [r6_l2]
    by_cases hm : rk ∈ K
    · obtain ⟨i, hi, hf⟩ := findI_yes rk hm
      have hss := setV_set K i
      rw [if_pos hm] at ih hu2
      simp at ih
      simp [c6_l2b, hlt, h1, ef, -frz_slice, e39, hrr, hrl, hki, hr1, hra, hr2, hkk, hf, hss, hw, hu1, hu2, ih]
    · have hf := findI_no rk hm
      have hss := setV_snoc K rk
      rw [if_neg hm] at ih hu2
      simp at ih
      simp [c6_l2b, hlt, h1, ef, -frz_slice, e39, hrr, hrl, hki, hr1, hra, hr2, hkk, hf, hss, hw, hu1, hu2, ih]
end LM.GZ
namespace LM.GZ
open Go LM
variable {P : Nat → Option SFunc} [Has P] [HasP P]
theorem frz_op {b g fz : Nat} {F : List Op} {h : Heap} {n : Nat} (hn : n = F.length) (hb : h[b]? = some (.cells g (cellsOf (F.map Op.enc)) fz)) (cap : Option Nat) : frz frzDepth (.slice b g 0 n (some 3) cap) h = some (.slice (F.map Op.enc), bump b (n * 3) h) := by
  have := frz_own (b := b) (g := g) (fz := fz) (e := some 3) (ys := F.map Op.enc) (h := h) (len := n) hb (opElems F) (by simpa using hn) cap
  exact this
theorem L6_3 (Lc C : CV) (OW : LV) (hOW : ∃ g n cp, OW = .slice 0 g 0 n (some 3) cp) (X0 : LB) (KS : List Int) (hu0 : underB 2 [X0] = true) (A : List Int) (hA : A.length < 1000) : ∀ (r pre : List Int), A = pre ++ r → (∀ n ∈ r, n ∈ KS) →
    execS P (limS P) c6_l3 ⟨[.c Lc, .c C, OW, .map 1, .c (.slice (A.map ci)), .c (ci A.length), .c (ci pre.length)], [X0, .map (KS.map ci) (setV KS) false]⟩ = some (.exit 6, ⟨[.c Lc, .c C, OW, .map 1], [X0, .map (KS.map ci) (setV KS) false]⟩) := by
  obtain ⟨g, nn, cp, rfl⟩ := hOW
  intro r
  induction r with
  | nil =>
    intro pre hp _
    have hp' : A = pre := by simpa using hp
    subst hp'
    rw [r6_l3]
    simp [c6_l3b]
  | cons n r ih =>
    intro pre hp hn
    have ih := ih (pre ++ [n]) (by simp [hp]) (fun m hm => hn m (by simp [hm]))
    have gx : A[pre.length]? = some n := by rw [hp]; simp
    have hpl : pre.length < A.length := (List.getElem?_eq_some_iff.1 gx).1
    obtain ⟨_, gx'⟩ := List.getElem?_eq_some_iff.1 gx
    have hw : IntKind.i64.wrap (↑pre.length + 1) = ↑pre.length + 1 := wrap64 (by omega) (by omega)
    have hlt : (pre.length : Int) < A.length := by omega
    obtain ⟨i, hi, hf⟩ := findI_yes n (hn n (by simp))
    have hv := setV_get hi
    have hkk : keyOk (.one 0) (ci n) = true := rfl
    have hu := setV_under 2 KS
    simp only [underB_cons, Bool.and_eq_true, underB_nil, and_true] at hu0
    unfold LB.under at hu0
    simp at ih
    rw [r6_l3]
    simp [c6_l3b, hlt, hpl, gx, gx', hkk, hf, hv, hw, hu, hu0, ih]
section
variable {own : Op} {l : List Op} {k : Nat}
theorem L6_4 (hg : OG l) (hk : ∀ x ∈ l, x.ok) (hl : l.length ≤ 4) (hown : l[k]? = some own) (KS : List Int) (hKS : ∀ r : Int, r ∈ KS ↔ isV own l k r = true) : ∀ (m i : Nat), i + m = l.length →
    execS P (limS P) c6_l4 ⟨[.c (.slice (l.map Op.enc)), .c (ci k), .slice 0 (1 + l.length) 0 l.length (some 3) none, .map 1, .c (ci ((i : Int) + 1))], [.cells (1 + l.length) (cellsOf (l.map Op.enc)) (l.length * 3), .map (KS.map ci) (setV KS) false]⟩ = some (.exit 8, ⟨[], [.cells (1 + l.length) (cellsOf (l.map Op.enc)) (l.length * 3), .map (KS.map ci) (setV KS) false]⟩) := by
  have hlo : ∀ x ∈ l, x.low ≤ x.high := fun x hx => by have := hg.one x hx; omega
  intro m
  induction m with
  | zero =>
    intro i h
    have hlt : ¬ (i : Int) + 1 ≤ l.length := by omega
    rw [r6_l4]
    simp [c6_l4b, hlt]
  | succ m ih =>
    intro i h
    have ih := ih (i + 1) (by omega)
    have ec : ((i + 1 : Nat) : Int) = (i : Int) + 1 := by simp
    rw [ec] at ih
    have hlt : (i : Int) + 1 ≤ l.length := by omega
    have hw : IntKind.i64.wrap ((i : Int) + 1 + 1) = (i : Int) + 1 + 1 := wrap64 (by omega) (by omega)
    obtain ⟨X, e41⟩ := S41 (P := P) hg hk hown (by omega) ((i : Int) + 1) (by omega) hlt
    have e42 := S42 (P := P) hg hk hown (by omega) ((i : Int) + 1) (by omega) hlt
    have ef := fun fz (X1 : LB) => frz_op (b := 0) (g := 1 + l.length) (fz := fz) (F := l) (n := l.length) (h := [.cells (1 + l.length) (cellsOf (l.map Op.enc)) fz, X1]) rfl rfl none
    have hK := hKS ((i : Int) + 1)
    have hkk : keyOk (.one 0) (ci ((i : Int) + 1)) = true := rfl
    have hu := setV_under 2 KS
    have hu2 := underL_cellsOf 2 (l.map Op.enc)
    rw [r6_l4]
    cases hv : isV own l k ((i : Int) + 1)
    · rw [hv] at e41 e42 hK
      have hno : (i : Int) + 1 ∉ KS := by simpa using hK
      have hf := findI_no _ hno
      have hbk := barsF_ok (c := k) (rank := (i : Int) + 1) (List.mem_of_getElem? hown) (hlo own (List.mem_of_getElem? hown)) hv (partsL own l) [] [] own.low rfl (by
        intro f r' hr
        obtain ⟨r2, hr2⟩ := partsL_head (hlo own (List.mem_of_getElem? hown)) l
        rw [hr2] at hr
        simp at hr
        exact hr.1) (by
        intro hr
        obtain ⟨r2, hr2⟩ := partsL_head (hlo own (List.mem_of_getElem? hown)) l
        rw [hr2] at hr
        cases hr) rfl
      have hBl : (barsF l k ((i : Int) + 1) own.high [] (partsL own l)).length < 1000 := by
        have hpl := partsL_len own l
        have : ∀ (r : List Int) (O : List Bar), (barsF l k ((i : Int) + 1) own.high O r).length ≤ O.length + r.length := by
          intro r
          induction r with
          | nil => intro O; simp [barsF]
          | cons f r ih2 =>
            intro O
            rw [barsF]
            have h1 := ih2 (addBar O (barOf l k ((i : Int) + 1) f (toOf own.high r)))
            have h2 := addBar_len O (barOf l k ((i : Int) + 1) f (toOf own.high r))
            simp
            omega
        have := this (partsL own l) []
        simp at this
        omega
      have e43 := S43 (P := P) hg hk hown (by omega) ((i : Int) + 1) (by omega) hlt _ hBl hbk.2 hbk.1
      generalize barsF l k ((i : Int) + 1) own.high [] (partsL own l) = B at *
      simp at e41 e42
      simp [c6_l4b, hlt, ef, -frz_slice, e41, e42, e43, hkk, hf, hw, hu, hu2, ih]
    · rw [hv] at e41 e42 hK
      have hyes : (i : Int) + 1 ∈ KS := by simpa using hK
      obtain ⟨j, hj, hf⟩ := findI_yes _ hyes
      have hvv := setV_get hj
      simp at e41 e42
      simp [c6_l4b, hlt, ef, -frz_slice, e41, e42, hkk, hf, hvv, hw, hu, hu2, ih]
end
theorem S6 (h38 : fn P 38 [] = some (.bool true)) (l : List Op) (c : Int) (hk : ∀ x ∈ l, x.ok) (hl : (l.length : Int) < 9223372036854775807) : fn P 6 [.slice (l.map Op.enc), ci c] = some (.bool true) := by
  rw [u6]
  by_cases h4 : (4 : Int) < l.length
  · simp [c6, h38, h4]
  have e37 := S37 (P := P) l hk hl
  by_cases h0 : openE l = 0
  case neg => simp [c6, h38, h4, e37, h0]
  rw [h0] at e37
  by_cases c1 : c < 0
  · simp [c6, h38, h4, e37, c1]
  by_cases c2 : (l.length : Int) ≤ c
  · simp [c6, h38, h4, e37, c1, c2]
  obtain ⟨hg, hne, _⟩ := open_og h0
  obtain ⟨k, rfl⟩ : ∃ k : Nat, c = k := ⟨c.toNat, by omega⟩
  have hkl : k < l.length := by omega
  have c2' : ¬ l.length ≤ k := by omega
  have hlo : ∀ x ∈ l, 0 ≤ x.low ∧ x.low ≤ x.high ∧ x.high ≤ 99999 := fun x hx => by have := hg.one x hx; omega
  obtain ⟨H0, hL0⟩ := L6_0 (P := P) h38 l hlo hk (by omega) (ci k) l [] 1 rfl (by simp)
  have hc0 : cellsOf [] = [] := rfl
  cases hall : l.all fewO
  · rw [hall] at hL0
    simp [hc0] at hL0
    simp [c6, h38, h4, e37, c1, c2, c2', hL0]
  rw [hall] at hL0
  simp [hc0] at hL0
  obtain ⟨own, hown⟩ : ∃ own, l[k]? = some own := ⟨_, List.getElem?_eq_getElem hkl⟩
  have hlo2 : ∀ x ∈ l, x.low ≤ x.high := fun x hx => (hlo x hx).2.1
  have htot : totO l ≤ 256 := by
    have key : ∀ r : List Op, r.all fewO = true → (∀ x ∈ r, x.low ≤ x.high) → totO r ≤ 4 ^ r.length := by
      intro r
      induction r with
      | nil => intro _ _; simp [totO]
      | cons x r ih =>
        intro ha hlo
        simp only [List.all_cons, Bool.and_eq_true] at ha
        have hx := ha.1
        unfold fewO at hx
        simp at hx
        have hs : szO x ≤ 4 := by unfold szO; omega
        have := ih ha.2 (fun y hy => hlo y (by simp [hy]))
        rw [totO, List.length_cons, Nat.pow_succ, Nat.mul_comm (4 ^ r.length) 4]
        exact Nat.mul_le_mul hs this
    have h1 := key l hall hlo2
    have h2 : 4 ^ l.length ≤ 4 ^ 4 := Nat.pow_le_pow_right (by decide) (by omega)
    omega
  have hL2 := L6_2 (P := P) l hg hk (by omega) k hkl htot (totO l) 0 (by omega)
  have hs0 : seenL l k 0 = [] := rfl
  have hv0 : setV ([] : List Int) = [] := rfl
  have e40 := S40 (P := P) hg hk hown (by omega)
  have ef1 := frz_op (b := 0) (g := 1 + l.length) (fz := 0) (F := l) (n := l.length) (h := [.cells (1 + l.length) (cellsOf (l.map Op.enc)) 0, .map ((seenL l k (totO l)).map ci) (setV (seenL l k (totO l))) false]) rfl rfl none
  have hpp := poss_perm hlo2 hown
  have hpl := hpp.length_eq
  simp [hs0, hv0] at hL2
  have hpr := posR_len (own := own) (l := l) (c := k) l.length 1
  rw [← poss_posR] at hpr
  have hL3 := L6_3 (P := P) (.slice (l.map Op.enc)) (ci k) (.slice 0 (1 + l.length) 0 l.length (some 3) none) ⟨_, _, _, rfl⟩ (.cells (1 + l.length) (cellsOf (l.map Op.enc)) (l.length * 3)) (seenL l k (totO l)) (by simp [underL_cellsOf]) (possL own l k) (by omega) (possL own l k) [] rfl (fun n hn => hpp.mem_iff.1 hn)
  have hL4 := L6_4 (P := P) hg hk (by omega) hown (seenL l k (totO l)) (seen_iff hlo2 hown) l.length 0 (by omega)
  rw [hpl] at hL3
  generalize cellsOf (l.map Op.enc) = OWN at *
  generalize seenL l k (totO l) = KS at *
  generalize possL own l k = PS at *
  simp at hL3 hL4
  simp [c6, h38, h4, e37, c1, c2, c2', hL0, hL2, ef1, -frz_slice, e40, hpl, hL3, hL4]
end LM.GZ
