/- Part 9 of what YtmhdmbfiiodeoaaGreatLists leans on. -/
import Derived.Test.YtmhdmbfiiodeoaaGreatRows
import Derived.WalkKit
import Derived.ProofKit
import Derived.SizedLaws
import Derived.Test.YtmhdmbfiiodeoaaGreatLib1
import Derived.Test.YtmhdmbfiiodeoaaGreatLib2
import Derived.Test.YtmhdmbfiiodeoaaGreatLib3
import Derived.Test.YtmhdmbfiiodeoaaGreatLists1
import Derived.Test.YtmhdmbfiiodeoaaGreatLists2
import Derived.Test.YtmhdmbfiiodeoaaGreatLists3
import Derived.Test.YtmhdmbfiiodeoaaGreatLists4
import Derived.Test.YtmhdmbfiiodeoaaGreatLists5
set_option linter.all false
namespace Go.Proofs.YtmhdmbfiiodeoaaGreat
open Go.ChangeShapes Go.WideShapes Go.ChangeAt Go.RowKit

theorem own_knob : ownKnob Tryz.prog.godebug = none := by kernel_rfl
theorem laid_out : laidOutB Tryz.prog = true := by kernel_rfl
theorem maps_rowed : mapsRowed Tryz.prog = true := by kernel_rfl
theorem slices_full : LM.slicesFullB Tryz.prog = true := by kernel_rfl

theorem typed_map {α : Type} {enc : α → LM.CV} {p : α → Prop} {e : LM.CTy} (h : ∀ x, LM.Typed e x → ∃ a, x = enc a ∧ p a) : ∀ {xs : List LM.CV}, (∀ x ∈ xs, LM.Typed e x) → ∃ l : List α, xs = l.map enc ∧ ∀ a ∈ l, p a
  | [], _ => ⟨[], rfl, by simp⟩
  | x :: xs, hx => by
    obtain ⟨a, ha, hp⟩ := h x (hx x (by simp))
    obtain ⟨l, hl, hq⟩ := typed_map h (xs := xs) fun y hy => hx y (by simp [hy])
    exact ⟨a :: l, by rw [ha, hl]; rfl, fun b hb => by rcases List.mem_cons.1 hb with rfl | hb; exact hp; exact hq b hb⟩

theorem typed_slice {α : Type} {enc : α → LM.CV} {p : α → Prop} {e : LM.CTy} {b : Nat} (h : ∀ x, LM.Typed e x → ∃ a, x = enc a ∧ p a) {v : LM.CV} (hv : LM.Typed (.slice b e) v) : ∃ l : List α, v = .slice (l.map enc) ∧ (∀ a ∈ l, p a) ∧ l.length * b ≤ 2 ^ 47 := by
  simp only [LM.Typed] at hv
  obtain ⟨xs, rfl, _, hb, hx⟩ := hv
  obtain ⟨l, rfl, hp⟩ := typed_map h hx
  refine ⟨l, rfl, hp, ?_⟩
  rw [List.length_map] at hb
  exact Nat.le_trans hb (by decide)

theorem typed_str {v : LM.CV} (hv : LM.Typed .str v) : ∃ s : LM.Str, v = .str s ∧ s.length < 9223372036854775807 := by
  simp only [LM.Typed] at hv
  obtain ⟨s, rfl, h⟩ := hv
  exact ⟨s, rfl, Nat.lt_of_le_of_lt h (by decide)⟩

theorem typed_int {v : LM.CV} (hv : LM.Typed (.int .i64) v) : ∃ n, v = LM.ci n ∧ -9223372036854775808 ≤ n ∧ n ≤ 9223372036854775807 := by
  simp only [LM.Typed] at hv
  obtain ⟨n, rfl, h⟩ := hv
  refine ⟨n, rfl, ?_⟩
  simp [Lit.wf, IntKind.min, IntKind.max, IntKind.bits, IntKind.signed] at h
  omega

end Go.Proofs.YtmhdmbfiiodeoaaGreat

namespace LM.G6
open Go LM
variable {P : Nat → Option SFunc} [Has P]

@[simp] theorem S89 (b : Bool) (e : Int) : fn P 89 [.bool b, ci e] = some (ci (whenE b e)) := by
  rw [u89]; cases b <;> simp [c89, whenE]

@[simp] theorem S141 (c : Nat) : fn P 141 [.int .i32 c] = some (.bool (letterN c)) := by
  rw [u141]; simp [c141, letterN]
  rw [show decide ((97 : Int) ≤ c) = decide (97 ≤ c) from decide_eq_decide.2 (by omega), show decide ((c : Int) ≤ 122) = decide (c ≤ 122) from decide_eq_decide.2 (by omega),
    show decide ((65 : Int) ≤ c) = decide (65 ≤ c) from decide_eq_decide.2 (by omega), show decide ((c : Int) ≤ 90) = decide (c ≤ 90) from decide_eq_decide.2 (by omega)]

theorem L88 : ∀ (l pre : List Int), (l.length : Int) + pre.length < 9223372036854775807 → execS P (limS P) c88_l0 ⟨[.c (.slice ((pre ++ l).map ci)), .c (ci (pre ++ l).length), .c (ci pre.length)], []⟩ = if firstE l = 0 then some (.exit 0, ⟨[], []⟩) else some (.ret, ⟨[.c (ci (firstE l))], []⟩) := by
  intro l
  induction l with
  | nil =>
    intro pre h
    rw [r88_l0]
    simp [c88_l0b, firstE]
  | cons c r ih =>
    intro pre h
    have ih := ih (pre ++ [c]) (by simp at h ⊢; omega)
    simp at ih h
    have hw : IntKind.i64.wrap (↑pre.length + 1) = ↑pre.length + 1 := wrap64 (by omega) (by omega)
    have hlt : (pre.length : Int) < pre.length + (r.length + 1) := by omega
    rw [r88_l0]
    by_cases hc : c = 0
    · subst hc
      simp [c88_l0b, firstE, hw, hlt, ih]
    · simp [c88_l0b, firstE, hw, hlt, hc]

@[simp] theorem S88 (l : List Int) (h : l.length < 9223372036854775807) : fn P 88 [.slice (l.map ci)] = some (ci (firstE l)) := by
  have := L88 (P := P) l [] (by simp; omega)
  rw [u88]
  simp at this
  simp [c88, this]
  by_cases hc : firstE l = 0 <;> simp [hc]

@[simp] theorem S88_1 (a : Int) : fn P 88 [.slice [ci a]] = some (ci (firstE [a])) := S88 [a] (by simp)
@[simp] theorem S88_2 (a b : Int) : fn P 88 [.slice [ci a, ci b]] = some (ci (firstE [a, b])) := S88 [a, b] (by simp)
@[simp] theorem S88_3 (a b c : Int) : fn P 88 [.slice [ci a, ci b, ci c]] = some (ci (firstE [a, b, c])) := S88 [a, b, c] (by simp)
@[simp] theorem S88_4 (a b c d : Int) : fn P 88 [.slice [ci a, ci b, ci c, ci d]] = some (ci (firstE [a, b, c, d])) := S88 [a, b, c, d] (by simp)
@[simp] theorem S88_5 (a b c d e : Int) : fn P 88 [.slice [ci a, ci b, ci c, ci d, ci e]] = some (ci (firstE [a, b, c, d, e])) := S88 [a, b, c, d, e] (by simp)

theorem L22 : ∀ (l pre : List Int), (l.length : Int) + pre.length < 9223372036854775807 → execS P (limS P) c22_l0 ⟨[.c (.slice ((pre ++ l).map ci)), .c (ci pre.length)], []⟩ = if firstE l = 0 then some (.exit 0, ⟨[], []⟩) else some (.ret, ⟨[.c (ci (firstE l))], []⟩) := by
  intro l
  induction l with
  | nil =>
    intro pre h
    rw [r22_l0]
    simp [c22_l0b, firstE]
  | cons c r ih =>
    intro pre h
    have ih := ih (pre ++ [c]) (by simp at h ⊢; omega)
    simp at ih h
    have hw : IntKind.i64.wrap (↑pre.length + 1) = ↑pre.length + 1 := wrap64 (by omega) (by omega)
    have hlt : (pre.length : Int) < pre.length + (r.length + 1) := by omega
    rw [r22_l0]
    by_cases hc : c = 0
    · subst hc
      simp [c22_l0b, firstE, hw, hlt, ih]
    · simp [c22_l0b, firstE, hw, hlt, hc]

@[simp] theorem S22 (l : List Int) (h : l.length < 9223372036854775807) : fn P 22 [.slice (l.map ci)] = some (ci (firstE l)) := by
  have := L22 (P := P) l [] (by simp; omega)
  rw [u22]
  simp at this
  simp [c22, this]
  by_cases hc : firstE l = 0 <;> simp [hc]

@[simp] theorem S22_2 (a b : Int) : fn P 22 [.slice [ci a, ci b]] = some (ci (firstE [a, b])) := S22 [a, b] (by simp)
@[simp] theorem S22_3 (a b c : Int) : fn P 22 [.slice [ci a, ci b, ci c]] = some (ci (firstE [a, b, c])) := S22 [a, b, c] (by simp)
@[simp] theorem S22_4 (a b c d : Int) : fn P 22 [.slice [ci a, ci b, ci c, ci d]] = some (ci (firstE [a, b, c, d])) := S22 [a, b, c, d] (by simp)

theorem L85 (s : Str) (hs : s.length ≤ 24) : ∀ (l pre : Str), s = pre ++ l → execS P (limS P) c85_l0 ⟨[.c (.str s), .c (ci pre.length)], []⟩ = if nameFrom pre.length l then some (.exit 0, ⟨[], []⟩) else some (.ret, ⟨[.c (.bool false)], []⟩) := by
  intro l
  induction l with
  | nil =>
    intro pre h
    rw [r85_l0]
    simp [c85_l0b, h, nameFrom]
  | cons c r ih =>
    intro pre h
    have ih := ih (pre ++ [c]) (by simp [h])
    simp at ih
    rw [h] at hs
    simp at hs
    have hw : IntKind.i64.wrap (↑pre.length + 1) = ↑pre.length + 1 := wrap64 (by omega) (by omega)
    have hlt : (pre.length : Int) < pre.length + (r.length + 1) := by omega
    have hn : (((↑c.toNat : Int) < 97 ∨ 122 < (↑c.toNat : Int)) ∧ ((↑c.toNat : Int) < 65 ∨ 90 < (↑c.toNat : Int))) ∧ (pre = [] ∨ ((↑c.toNat : Int) < 48 ∨ 57 < (↑c.toNat : Int)) ∧ ¬(↑c.toNat : Int) = 95) ↔ nameN pre.length c.toNat = false := by
      have hp : pre = [] ↔ pre.length = 0 := by simp
      unfold nameN letterN digitN
      cases pre with
      | nil => simp; omega
      | cons x y => simp; omega
    rw [r85_l0]
    simp [c85_l0b, h, nameFrom, hw, hlt, hn]
    rw [← h, ih]
    cases nameN pre.length c.toNat <;> simp

@[simp] theorem S85 (s : Str) : fn P 85 [.str s] = some (.bool (isName s)) := by
  rw [u85]
  by_cases h1 : s.length < 1
  · have : s = [] := List.eq_nil_of_length_eq_zero (by omega)
    subst this
    simp [c85, isName]
  · by_cases h2 : s.length > 24
    · have h3 : ¬ (s.length : Int) < 1 := by omega
      have h4 : (24 : Int) < (s.length : Int) := by omega
      have h5 : ¬ s.length ≤ 24 := by omega
      simp [c85, isName, h3, h4, h5]
    · have := L85 (P := P) s (by omega) s [] rfl
      simp at this
      have h3 : ¬ (s.length : Int) < 1 := by omega
      have h4 : ¬ (24 : Int) < (s.length : Int) := by omega
      have h5 : s.length ≤ 24 := by omega
      have h6 : 1 ≤ s.length := by omega
      simp [c85, isName, h3, h4, h5, h6, this]
      cases nameFrom 0 s <;> simp

theorem L90 (s : Str) (hs : s.length < 9223372036854775807) : ∀ (l pre : Str), s = pre ++ l → ∃ q, execS P (limS P) c90_l0 ⟨[.c (.str s), .ptr 0 0 0], [.iter s pre.length]⟩ = if nameFrom pre.length l then some (.exit 0, ⟨[.c (.str s)], [.iter s s.length]⟩) else some (.ret, ⟨[.c (.bool false)], [.iter s q]⟩) := by
  intro l
  induction l with
  | nil =>
    intro pre h
    refine ⟨0, ?_⟩
    rw [r90_l0]
    simp [c90_l0b, h, nameFrom]
  | cons c r ih =>
    intro pre h
    obtain ⟨q, ih⟩ := ih (pre ++ [c]) (by simp [h])
    simp at ih
    have hc : s[pre.length]? = some c := by simp [h]
    rw [r90_l0]
    rcases Nat.lt_or_ge c.toNat 128 with hlo | hhi
    · have hd := decode_lo hc hlo
      rw [h] at hd
      have hn : (letterN c.toNat = false ∧ (pre = [] ∨ ¬(↑c.toNat : Int) = 95 ∧ ((↑c.toNat : Int) < 48 ∨ 57 < (↑c.toNat : Int)))) ↔ nameN pre.length c.toNat = false := by
        unfold nameN digitN
        cases pre with
        | nil => simp
        | cons x y => simp; cases letterN c.toNat <;> simp; omega
      refine ⟨if nameN pre.length c.toNat = false then pre.length + 1 else q, ?_⟩
      simp [c90_l0b, h, nameFrom, hd, hn]
      rw [h] at ih
      simp at ih
      cases nameN pre.length c.toNat <;> simp [ih]
    · have hd := decode_hi hc hhi
      rw [h] at hd
      have hl : letterN (Utf8.decode { data := List.toArray (pre ++ c :: r) } pre.length).fst = false := by
        have := nameN_hi (i := 0) hd
        simpa [nameN] using this
      have h1 : ¬ (↑(Utf8.decode { data := List.toArray (pre ++ c :: r) } pre.length).fst : Int) = 95 := by omega
      have h2 : (57 : Int) < (↑(Utf8.decode { data := List.toArray (pre ++ c :: r) } pre.length).fst : Int) := by omega
      refine ⟨pre.length + (Utf8.decode { data := List.toArray (pre ++ c :: r) } pre.length).snd, ?_⟩
      simp [c90_l0b, h, nameFrom, hl, h1, h2, nameN_hi hhi]

@[simp] theorem S90 (s : Str) (hs : s.length < 9223372036854775807) : fn P 90 [.str s] = some (.bool (isName s)) := by
  rw [u90]
  obtain ⟨q, this⟩ := L90 (P := P) s hs s [] rfl
  simp at this
  simp [c90, this]
  cases hn : nameFrom 0 s
  · simp [isName, hn]
  · cases s with
    | nil => simp [isName]
    | cons c r =>
      simp [isName, hn]
      omega

end LM.G6

namespace LM.G6
open Go LM
variable {P : Nat → Option SFunc} [Has P]

structure Lic where
  name : Str
  frm : Int
  to : Int
def Lic.enc (x : Lic) : CV := .agg [.str x.name, ci x.frm, ci x.to]
def Lic.ok (x : Lic) : Prop := x.name.length < 9223372036854775807

def checkLic (x : Lic) : Int := firstE [named x.name, dated x.frm, dated x.to, whenE (decide (x.frm > x.to)) 11]

/-- The first error of a list's elements. -/
def eachE {α : Type} (chk : List α → α → Int) : List α → List α → Int
  | _, [] => 0
  | pre, x :: r => if chk pre x ≠ 0 then chk pre x else eachE chk (pre ++ [x]) r

def checkLics (l : List Lic) : Int := if (l.length : Int) > 256 then 5 else eachE (fun _ => checkLic) [] l

end LM.G6

namespace LM.G6
open Go LM

/-- The number of the first element of a kind, or -1. -/
def idxF {α : Type} (p : α → Bool) : Nat → List α → Int
  | _, [] => -1
  | n, x :: r => if p x then n else idxF p (n + 1) r

theorem idxF_lt {α : Type} (p : α → Bool) : ∀ (l : List α) (n : Nat), (idxF p n l < 0) ↔ l.any p = false
  | [], n => by simp [idxF]
  | x :: r, n => by
    unfold idxF
    cases h : p x
    · simp [h, idxF_lt p r (n + 1)]
    · simp [h]

theorem idxF_none {α : Type} {p : α → Bool} : ∀ {l : List α} {n : Nat}, l.any p = false → idxF p n l = -1
  | [], n, _ => rfl
  | x :: r, n, h => by
    simp only [List.any_cons, Bool.or_eq_false_iff] at h
    rw [idxF, if_neg (by simp [h.1]), idxF_none h.2]

theorem idxF_dec {α : Type} (p : α → Bool) (l : List α) (n : Nat) : decide (0 ≤ idxF p n l) = l.any p := by
  have := idxF_lt p l n
  cases h : l.any p
  · have := this.2 h
    simp; omega
  · have : ¬ idxF p n l < 0 := fun q => by rw [this.1 q] at h; cases h
    simp; omega

end LM.G6

namespace LM.G6
open Go LM
variable {P : Nat → Option SFunc} [Has P]

def Str.is (s : Str) (x : Str) : Bool := x == s
theorem Str.is_eq (s x : Str) : Str.is s x = decide (x = s) := by unfold Str.is; by_cases h : x = s <;> simp [h]
theorem Str.is_eq' (s x : Str) : Str.is s x = decide (s = x) := by rw [Str.is_eq]; exact decide_eq_decide.2 eq_comm

theorem L148 (s : Str) : ∀ (l pre : List Str), ((pre ++ l).length : Int) < 9223372036854775807 →
    execS P (limS P) c148_l0 ⟨[.c (.slice ((pre ++ l).map CV.str)), .c (.str s), .c (ci (pre ++ l).length), .c (ci pre.length)], []⟩ = if l.any (Str.is s) then some (.ret, ⟨[.c (ci (idxF (Str.is s) pre.length l))], []⟩) else some (.exit 0, ⟨[], []⟩) := by
  intro l
  induction l with
  | nil =>
    intro pre h
    rw [r148_l0]
    simp [c148_l0b]
  | cons x r ih =>
    intro pre h
    have ih := ih (pre ++ [x]) (by simpa using h)
    simp at ih h
    have hw : IntKind.i64.wrap (↑pre.length + 1) = ↑pre.length + 1 := wrap64 (by omega) (by omega)
    have hlt : (pre.length : Int) < pre.length + (r.length + 1) := by omega
    have e := Str.is_eq' s x
    rw [r148_l0]
    by_cases h0 : s = x
    · simp only [h0, decide_true] at e
      simp [c148_l0b, hw, hlt, idxF, h0, e]
    · simp only [h0, decide_false] at e
      simp [c148_l0b, hw, hlt, idxF, h0, e, ih]

theorem S113 (s : Str) (l : List Str) (h : (l.length : Int) < 9223372036854775807) : fn P 113 [.slice (l.map CV.str), .str s] = some (.bool (l.any (Str.is s))) := by
  have hl := L148 (P := P) s l [] (by simpa using h)
  have h2 : fn P 148 [.slice (l.map CV.str), .str s] = some (ci (idxF (Str.is s) 0 l)) := by
    rw [u148]
    simp at hl
    simp [c148, hl]
    exact fun hx => (idxF_none (by simpa using hx)).symm
  rw [u113]
  simp [c113, h2, idxF_dec]

def once (pre : List Str) (s : Str) : Int := firstE [named s, whenE (pre.any (Str.is s)) 9]

def onceL (m : Int) (l : List Str) : Int := if (l.length : Int) > m then 5 else eachE once [] l

theorem L81 (s : Str) : ∀ (l pre : List Str), ((pre ++ l).length : Int) < 9223372036854775807 →
    execS P (limS P) c81_l0 ⟨[.c (.slice ((pre ++ l).map CV.str)), .c (.str s), .c (ci pre.length)], []⟩ = if l.any (Str.is s) then some (.ret, ⟨[.c (.bool true)], []⟩) else some (.exit 0, ⟨[], []⟩) := by
  intro l
  induction l with
  | nil =>
    intro pre h
    rw [r81_l0]
    simp [c81_l0b]
  | cons x r ih =>
    intro pre h
    have ih := ih (pre ++ [x]) (by simpa using h)
    simp at ih h
    have hw : IntKind.i64.wrap (↑pre.length + 1) = ↑pre.length + 1 := wrap64 (by omega) (by omega)
    have hlt : (pre.length : Int) < pre.length + (r.length + 1) := by omega
    have e := Str.is_eq s x
    rw [r81_l0]
    by_cases h0 : x = s
    · simp only [h0, decide_true] at e
      simp [c81_l0b, hw, hlt, h0, e]
    · simp only [h0, decide_false] at e
      simp [c81_l0b, hw, hlt, h0, e, ih]

theorem S81 (s : Str) (l : List Str) (h : (l.length : Int) < 9223372036854775807) : fn P 81 [.slice (l.map CV.str), .str s] = some (.bool (l.any (Str.is s))) := by
  have hl := L81 (P := P) s l [] (by simpa using h)
  simp [-List.any_eq_true] at hl
  rw [u81]
  cases h0 : l.any (Str.is s) <;> rw [h0] at hl <;> simp [c81, hl]

theorem once_eq (pre : List Str) (s : Str) : once pre s = if isName s = false then 8 else if pre.any (Str.is s) then 9 else 0 := by
  unfold once named whenE
  cases isName s <;> cases pre.any (Str.is s) <;> simp [firstE]

def shortS (s : Str) : Bool := decide (s.length ≤ 40)
def shortL (l : List Str) (n : Int) : Bool := l.all shortS && decide ((l.length : Int) ≤ n)
end LM.G6

namespace LM.G6
open Go LM
variable {P : Nat → Option SFunc} [Has P]

def cI (xs : List Int) : List LV := xs.map fun v => LV.c (ci v)
theorem cI_length (xs : List Int) : (cI xs).length = xs.length := by simp [cI]
theorem cI_get {xs : List Int} {i : Nat} (h : i < xs.length) : (cI xs)[i]'(by rw [cI_length]; exact h) = .c (ci (xs.getD i 0)) := by
  simp [cI, List.getD_eq_getElem?_getD, h]
theorem cI_set (xs : List Int) (i : Nat) (v : Int) : (cI xs).set i (.c (ci v)) = cI (xs.set i v) := by
  unfold cI
  rw [List.map_set]
theorem cellsOf_ints (xs : List Int) : cellsOf (xs.map ci) = cI xs := by
  induction xs with
  | nil => rfl
  | cons x r ih =>
    have : cellsOf ((x :: r).map ci) = .c (ci x) :: cellsOf (r.map ci) := rfl
    rw [this, ih]
    rfl
theorem intElems (l : List Int) : ∀ x ∈ l.map ci, Elem none x := by
  intro x hx
  obtain ⟨y, _, rfl⟩ := List.mem_map.1 hx
  exact ⟨rfl, rfl⟩
theorem under_cI (n : Nat) (xs : List Int) : underL n (cI xs) = true := by rw [← cellsOf_ints]; exact underL_cellsOf _ _

theorem shift_cI (n : Nat) : ∀ xs : List Int, shiftL n (cI xs) = cI xs
  | [] => rfl
  | x :: r => by
    have : cI (x :: r) = .c (ci x) :: cI r := rfl
    rw [this, shiftL, shift_cI n r]
    rfl

def sw (xs : List Int) (i k : Nat) : List Int := (xs.set i (xs.getD k 0)).set k (xs.getD i 0)
theorem sw_length (xs : List Int) (i k : Nat) : (sw xs i k).length = xs.length := by simp [sw]

def nextX (x : Int) : Int := (48271 * x).tmod 2147483647
def drawN (n : Nat) : Nat → Nat → Int → List Int → List Int
  | 0, _, _, xs => xs
  | m + 1, i, x, xs => drawN n m (i + 1) (nextX x) (sw xs i (i + ((nextX x).tmod ((n : Int) - i)).toNat))
def iota (n : Nat) : List Int := (List.range n).map fun (k : Nat) => (k : Int)
def drawL (key : Int) (n : Nat) : List Int := drawN n (n - 1) 0 key (iota n)
theorem iota_length (n : Nat) : (iota n).length = n := by simp [iota]
theorem drawN_length (n : Nat) : ∀ (m i : Nat) (x : Int) (xs : List Int), (drawN n m i x xs).length = xs.length
  | 0, _, _, _ => rfl
  | m + 1, i, x, xs => by rw [drawN, drawN_length, sw_length]
theorem drawL_length (key : Int) (n : Nat) : (drawL key n).length = n := by rw [drawL, drawN_length, iota_length]

theorem nextX_range {x : Int} (h0 : 0 ≤ x) (h1 : x ≤ 2147483646) : 0 ≤ nextX x ∧ nextX x ≤ 2147483646 := by
  unfold nextX
  rw [Int.tmod_eq_emod_of_nonneg (by omega)]
  omega
theorem step_range {x : Int} {n i : Nat} (h0 : 0 ≤ x) (hi : i < n) : 0 ≤ x.tmod ((n : Int) - i) ∧ x.tmod ((n : Int) - i) < (n : Int) - i := by
  rw [Int.tmod_eq_emod_of_nonneg h0]
  exact ⟨Int.emod_nonneg _ (by omega), Int.emod_lt_of_pos _ (by omega)⟩

theorem sw_mem {xs : List Int} {i k : Nat} (hi : i < xs.length) (hk : k < xs.length) : ∀ v ∈ sw xs i k, v ∈ xs := by
  intro v hv
  unfold sw at hv
  rcases List.mem_or_eq_of_mem_set hv with h | h
  · rcases List.mem_or_eq_of_mem_set h with h | h
    · exact h
    · rw [h, List.getD_eq_getElem?_getD, List.getElem?_eq_getElem hk]; exact List.getElem_mem hk
  · rw [h, List.getD_eq_getElem?_getD, List.getElem?_eq_getElem hi]; exact List.getElem_mem hi

theorem drawN_mem (n : Nat) : ∀ (m i : Nat) (x : Int) (xs : List Int), i + m < n → 0 ≤ x → x ≤ 2147483646 → xs.length = n → ∀ v ∈ drawN n m i x xs, v ∈ xs
  | 0, _, _, _, _, _, _, _, v, hv => hv
  | m + 1, i, x, xs, hm, h0, h1, hl, v, hv => by
    rw [drawN] at hv
    have hx := nextX_range h0 h1
    have hs := step_range (n := n) (i := i) hx.1 (by omega)
    have := drawN_mem n m (i + 1) _ _ (by omega) hx.1 hx.2 (by rw [sw_length, hl]) v hv
    exact sw_mem (by omega) (by omega) v this

theorem drawL_range {key : Int} {n : Nat} (h0 : 1 ≤ key) (h1 : key ≤ 2147483646) : ∀ v ∈ drawL key n, 0 ≤ v ∧ v < n := by
  intro v hv
  unfold drawL at hv
  have hv : v ∈ iota n := by
    rcases Nat.eq_zero_or_pos n with h | h
    · subst h; exact hv
    · exact drawN_mem n (n - 1) 0 key _ (by omega) (by omega) h1 (iota_length n) v hv
  unfold iota at hv
  obtain ⟨k, hk, rfl⟩ := List.mem_map.1 hv
  have := List.mem_range.1 hk
  omega

theorem L92_1 (n : Nat) (hn : n ≤ 256) (cap : Option Nat) : ∀ (m i : Nat) (x : Int) (xs : List Int), i + m + 1 = n → 0 ≤ x → x ≤ 2147483646 → xs.length = n →
    execS P (limS P) c92_l1 ⟨[.c (ci n), .slice 1 1 0 n none cap, .c (ci x), .c (ci i)], [.cells 1 [] 0, .cells 1 (cI xs) 0]⟩ =
      some (.exit 2, ⟨[.slice 1 1 0 n none cap], [.cells 1 [] 0, .cells 1 (cI (drawN n m i x xs)) 0]⟩) := by
  intro m
  induction m with
  | zero =>
    intro i x xs hm h0 h1 hl
    have hw : IntKind.i64.wrap ((n : Int) - 1) = (n : Int) - 1 := wrap64 (by omega) (by omega)
    have hlt : ¬ (i : Int) < (n : Int) - 1 := by omega
    rw [r92_l1]
    simp [c92_l1b, hw, hlt, drawN]
  | succ m ih =>
    intro i x xs hm h0 h1 hl
    have hx := nextX_range h0 h1
    have hs := step_range (n := n) (i := i) hx.1 (by omega)
    have ih := ih (i + 1) (nextX x) (sw xs i (i + ((nextX x).tmod ((n : Int) - i)).toNat)) (by omega) hx.1 hx.2 (by rw [sw_length, hl])
    obtain ⟨k, hk⟩ : ∃ k : Nat, (nextX x).tmod ((n : Int) - i) = (k : Int) := ⟨((nextX x).tmod ((n : Int) - i)).toNat, by omega⟩
    rw [hk] at ih hs
    have hw : IntKind.i64.wrap ((n : Int) - 1) = (n : Int) - 1 := wrap64 (by omega) (by omega)
    have hw1 : IntKind.i64.wrap (48271 * x) = 48271 * x := wrap64 (by omega) (by omega)
    have hw2 : (48271 * x).tmod 2147483647 = nextX x := rfl
    have hw3 : IntKind.i64.wrap ((n : Int) - i) = (n : Int) - i := wrap64 (by omega) (by omega)
    have hw4 : IntKind.i64.wrap (k : Int) = k := wrap64 (by omega) (by omega)
    have hw5 : IntKind.i64.wrap ((i : Int) + k) = (i : Int) + k := wrap64 (by omega) (by omega)
    have hw6 : IntKind.i64.wrap ((i : Int) + 1) = (i : Int) + 1 := wrap64 (by omega) (by omega)
    have hlt : (i : Int) < (n : Int) - 1 := by omega
    have hnz : ¬ (n : Int) - i = 0 := by omega
    have hi : i < n := by omega
    have hik : i + k < n := by omega
    have hi' : i < xs.length := by omega
    have hik' : i + k < xs.length := by omega
    have hkt : ((i : Int) + k).toNat = i + k := by omega
    have hk0 : 0 ≤ (i : Int) + k := by omega
    have hk1 : (i : Int) + k < n := by omega
    have hii : (i : Int) < n := by omega
    have g1 := cI_get hi'
    have g2 := cI_get hik'
    have e : drawN n (m + 1) i x xs = drawN n m (i + 1) (nextX x) (sw xs i (i + k)) := by rw [drawN, hk]; rfl
    simp [sw, hi', hik'] at ih
    have hi1 : i + 1 ≤ n := by omega
    have hik1 : i + k + 1 ≤ n := by omega
    rw [e]
    rw [r92_l1]
    simp [c92_l1b, hw, hw1, hw2, hw3, hw4, hw5, hw6, hlt, hk, hnz, hi, hik, hi', hik', hkt, hk0, hk1, hii, g1, g2, cI_length, cI_set, hl, under_cI, sw, hi1, hik1, ih]


theorem iota_set (n i : Nat) (h : i < n) : ((iota i) ++ List.replicate (n - i) 0).set i (i : Int) = iota (i + 1) ++ List.replicate (n - (i + 1)) 0 := by
  rw [List.set_append_right _ _ (by rw [iota_length]; exact Nat.le_refl _), iota_length, Nat.sub_self]
  have e : n - i = (n - (i + 1)) + 1 := by omega
  rw [e, List.replicate_succ, List.set_cons_zero]
  unfold iota
  rw [List.range_succ, List.map_append, List.append_assoc]
  rfl

theorem L92_0 (n : Nat) (key : Int) (hn : n ≤ 256) (cap : Option Nat) : ∀ (m i : Nat), i + m = n →
    execS P (limS P) c92_l0 ⟨[.c (ci key), .c (ci n), .slice 1 1 0 n none cap, .c (ci n), .c (ci i)], [.cells 1 [] 0, .cells 1 (cI (iota i ++ List.replicate (n - i) 0)) 0]⟩ =
      some (.exit 0, ⟨[.c (ci key), .c (ci n), .slice 1 1 0 n none cap], [.cells 1 [] 0, .cells 1 (cI (iota n)) 0]⟩) := by
  intro m
  induction m with
  | zero =>
    intro i hm
    simp at hm
    subst hm
    rw [r92_l0]
    simp [c92_l0b]
  | succ m ih =>
    intro i hm
    have ih := ih (i + 1) (by omega)
    have hs := iota_set n i (by omega)
    have hw : IntKind.i64.wrap ((i : Int) + 1) = (i : Int) + 1 := wrap64 (by omega) (by omega)
    have hlt : (i : Int) < n := by omega
    have hi : i < i + (n - i) := by omega
    simp at ih
    rw [r92_l0]
    have hni : ¬ n - i = 0 := by omega
    simp [c92_l0b, hw, hlt, hi, hni, cI_length, iota_length, cI_set, hs, under_cI, ih]

/-- The error of a draw. -/
def drawE (key : Int) (n : Int) : Int := if key < 1 ∨ key > 2147483646 ∨ n < 0 ∨ n > 256 then 3 else 0

theorem S24 (key n : Int) : fn P 24 [ci key, ci n] = some (ci (drawE key n)) := by
  rw [u24]
  unfold drawE
  by_cases h1 : key < 1 <;> by_cases h2 : 2147483646 < key <;> by_cases h3 : n < 0 <;> by_cases h4 : (256 : Int) < n <;> simp [c24, h1, h2, h3, h4]

theorem S90e (key n : Int) (h : drawE key n ≠ 0) : ffn P 92 [ci key, ci n] = some (.tuple [.slice 1 1 0 0 none none, .c (ci 3)], [.cells 1 [] 0, .cells 1 [] 0]) := by
  rw [u92]
  unfold drawE at h
  by_cases h1 : key < 1 <;> by_cases h2 : 2147483646 < key <;> by_cases h3 : n < 0 <;> by_cases h4 : (256 : Int) < n <;> simp [h1, h2, h3, h4] at h <;> simp [c92, h1, h2, h3, h4, mkTuple]

theorem S92 (key : Int) (n : Nat) (h : drawE key n = 0) : ffn P 92 [ci key, ci n] = some (.tuple [.slice 1 1 0 n none (some n), .c (ci 0)], [.cells 1 [] 0, .cells 1 (cI (drawL key n)) 0]) := by
  unfold drawE at h
  split at h
  · cases h
  · rename_i hx
    have h1 : ¬ key < 1 := fun e => hx (.inl e)
    have h2 : ¬ 2147483646 < key := fun e => hx (.inr (.inl e))
    have h3 : ¬ (n : Int) < 0 := by omega
    have h4 : ¬ (256 : Int) < n := fun e => hx (.inr (.inr (.inr e)))
    have l0 := L92_0 (P := P) n key (by omega) (some n) n 0 (by omega)
    have hz : cI (iota 0 ++ List.replicate (n - 0) 0) = List.replicate n (.c (ci 0)) := by simp [iota, cI]
    rw [hz] at l0
    simp at l0
    rw [u92]
    rcases Nat.eq_zero_or_pos n with hn | hn
    · subst hn
      have hw : IntKind.i64.wrap (-1) = -1 := wrap64 (by omega) (by omega)
      have l1 : execS P (limS P) c92_l1 ⟨[.c (ci 0), .slice 1 1 0 0 none (some 0), .c (ci key), .c (ci 0)], [.cells 1 [] 0, .cells 1 [] 0]⟩ = some (.exit 2, ⟨[.slice 1 1 0 0 none (some 0)], [.cells 1 [] 0, .cells 1 [] 0]⟩) := by
        rw [r92_l1]
        simp [c92_l1b, hw]
      have e : drawL key 0 = [] := rfl
      have e0 : cI (iota 0) = [] := rfl
      rw [e0] at l0
      simp at l0
      simp [c92, h1, h2, l0, l1, mkTuple, e, allC]
      rfl
    · have l1 := L92_1 (P := P) n (by omega) (some n) (n - 1) 0 key (iota n) (by omega) (by omega) (by omega) (iota_length n)
      simp at l1
      have q1 : (n : Int) * 8 ≤ 140737488355328 := by omega
      have q2 : (n : Int) ≤ 9223372036854775807 := by omega
      simp [c92, h1, h2, h4, l0, l1, q1, q2, mkTuple, drawL]

end LM.G6

namespace LM.G6
open Go LM
variable {P : Nat → Option SFunc} [Has P]

@[simp] theorem S47 (b : Bool) (e : Int) : fn P 47 [.bool b, ci e] = some (ci (whenE b e)) := by
  rw [u47]; cases b <;> simp [c47, whenE]

end LM.G6

namespace LM.G6
open Go LM
variable {P : Nat → Option SFunc} [Has P]

@[simp] theorem S23 (n a b : Int) : fn P 23 [ci n, ci a, ci b] = some (ci (whenE (outside n a b) 3)) := by
  rw [u23]
  unfold outside whenE
  by_cases h1 : n < a <;> by_cases h2 : b < n <;> simp [c23, h1, h2]
@[simp] theorem S91 (n a b : Int) : fn P 91 [ci n, ci a, ci b] = some (ci (whenE (outside n a b) 3)) := by
  rw [u91]
  unfold outside
  by_cases h1 : n < a <;> by_cases h2 : b < n <;> simp [c91, h1, h2]

theorem L153 : ∀ (r pre : List Int) (m : Int), ((pre ++ r).length : Int) < 9223372036854775807 →
    execS P (limS P) c153_l0 ⟨[.c (.slice ((pre ++ r).map ci)), .c (ci m), .c (ci pre.length)], []⟩ = some (.exit 0, ⟨[.c (ci (r.foldl min m))], []⟩) := by
  intro r
  induction r with
  | nil =>
    intro pre m h
    rw [r153_l0]
    simp [c153_l0b]
  | cons x r ih =>
    intro pre m h
    have ih := fun m => ih (pre ++ [x]) m (by simpa using h)
    simp at ih h
    have hw : IntKind.i64.wrap (↑pre.length + 1) = ↑pre.length + 1 := wrap64 (by omega) (by omega)
    have hlt : (pre.length : Int) < pre.length + (r.length + 1) := by omega
    have hm : (if x < m then x else m) = min m x := by split <;> omega
    rw [r153_l0]
    simp [c153_l0b, hw, hlt, foldInt, hm, ih]
theorem S153 (x : Int) (l : List Int) (h : (l.length : Int) < 1000) : fn P 153 [.slice ((x :: l).map ci)] = some (ci (l.foldl min x)) := by
  have := L153 (P := P) l [x] x (by simp; omega)
  simp at this
  rw [u153]
  have h1 : ¬ (l.length : Int) + 1 < 1 := by omega
  simp [c153, h1, this]
theorem L154 : ∀ (r pre : List Int) (m : Int), ((pre ++ r).length : Int) < 9223372036854775807 →
    execS P (limS P) c154_l0 ⟨[.c (.slice ((pre ++ r).map ci)), .c (ci m), .c (ci pre.length)], []⟩ = some (.exit 0, ⟨[.c (ci (r.foldl max m))], []⟩) := by
  intro r
  induction r with
  | nil =>
    intro pre m h
    rw [r154_l0]
    simp [c154_l0b]
  | cons x r ih =>
    intro pre m h
    have ih := fun m => ih (pre ++ [x]) m (by simpa using h)
    simp at ih h
    have hw : IntKind.i64.wrap (↑pre.length + 1) = ↑pre.length + 1 := wrap64 (by omega) (by omega)
    have hlt : (pre.length : Int) < pre.length + (r.length + 1) := by omega
    have hm : (if m < x then x else m) = max m x := by split <;> omega
    rw [r154_l0]
    simp [c154_l0b, hw, hlt, foldInt, hm, ih]
theorem S154 (x : Int) (l : List Int) (h : (l.length : Int) < 1000) : fn P 154 [.slice ((x :: l).map ci)] = some (ci (l.foldl max x)) := by
  have := L154 (P := P) l [x] x (by simp; omega)
  simp at this
  rw [u154]
  have h1 : ¬ (l.length : Int) + 1 < 1 := by omega
  simp [c154, h1, this]

/-- Is a time of some out of its bounds? -/
def badT (x : Int) : Bool := outside x 0 86399999
theorem S124 (x : Int) (l : List Int) (h : (l.length : Int) < 1000) : fn P 124 [.slice ((x :: l).map ci)] = some (ci (whenE ((x :: l).any badT) 3)) := by
  have e1 := S153 (P := P) x l h
  have e2 := S154 (P := P) x l h
  have hmin : ∀ (l : List Int) (x : Int), l.foldl min x < 0 ↔ (x < 0 ∨ ∃ y ∈ l, y < 0) := by
    intro l
    induction l with
    | nil => simp
    | cons a r ih => intro x; have q : min x a < 0 ↔ x < 0 ∨ a < 0 := by omega
                     rw [List.foldl_cons, ih, q]; simp [or_assoc]
  have hmax : ∀ (l : List Int) (x : Int), 86399999 < l.foldl max x ↔ (86399999 < x ∨ ∃ y ∈ l, 86399999 < y) := by
    intro l
    induction l with
    | nil => simp
    | cons a r ih => intro x; have q : 86399999 < max x a ↔ 86399999 < x ∨ 86399999 < a := by omega
                     rw [List.foldl_cons, ih, q]; simp [or_assoc]
  have e : (x :: l).any badT = (decide (l.foldl min x < 0) || decide (86399999 < l.foldl max x)) := by
    rw [Bool.eq_iff_iff]
    simp only [Bool.or_eq_true, decide_eq_true_eq, hmin, hmax, List.any_eq_true, badT, outside]
    constructor
    · rintro ⟨y, hy, h⟩
      simp at h hy
      rcases hy with rfl | hy
      · rcases h with h | h
        · exact .inl (.inl h)
        · exact .inr (.inl h)
      · rcases h with h | h
        · exact .inl (.inr ⟨y, hy, h⟩)
        · exact .inr (.inr ⟨y, hy, h⟩)
    · rintro ((h | ⟨y, hy, h⟩) | (h | ⟨y, hy, h⟩))
      · exact ⟨x, by simp, by simp [h]⟩
      · exact ⟨y, by simp [hy], by simp [h]⟩
      · exact ⟨x, by simp, by simp [h]⟩
      · exact ⟨y, by simp [hy], by simp [h]⟩
  rw [e, u124]
  simp at e1 e2
  by_cases h1 : l.foldl min x < 0 <;> by_cases h2 : 86399999 < l.foldl max x <;> simp [c124, e1, e2, h1, h2]

/-- Would the last start be too late? -/
def lateE (n f e : Int) : Int := whenE (decide (0 < n) && decide (86399999 < IntKind.i64.wrap (f + IntKind.i64.wrap (IntKind.i64.wrap (n - 1) * e)))) 4
@[simp] theorem S42 (n f e : Int) : fn P 42 [ci n, ci f, ci e] = some (ci (lateE n f e)) := by
  rw [u42]
  unfold lateE whenE
  by_cases h1 : 0 < n <;> by_cases h2 : 86399999 < IntKind.i64.wrap (f + IntKind.i64.wrap (IntKind.i64.wrap (n - 1) * e)) <;> simp [c42, h1, h2]
def callsE (n f e : Int) : Int := whenE (outside n 0 160 || badT f || badT e) 3
@[simp] theorem S41 (n f e : Int) : fn P 41 [ci n, ci f, ci e] = some (ci (callsE n f e)) := by
  rw [u41]
  unfold callsE badT
  have w0 : IntKind.i64.wrap 0 = 0 := rfl
  have w3 : IntKind.i64.wrap 3 = 3 := rfl
  have w6 : IntKind.i64.wrap 6 = 6 := rfl
  have w9 : IntKind.i64.wrap 9 = 9 := rfl
  cases h1 : outside n 0 160 <;> cases h2 : outside f 0 86399999 <;> cases h3 : outside e 0 86399999 <;> simp [c41, h1, h2, h3, whenE, w0, w3, w6, w9]

theorem frzFuncs_nil (h : Heap) : frzFuncs [] h = some ([], h) := by rw [frzFuncs]
theorem frzFuncs_c (v : CV) (l : List LV) (h : Heap) : frzFuncs (.c v :: l) h = bnd (frzFuncs l h) fun a => some (.c v :: a.1, a.2) := by
  rw [frzFuncs]
  rcases frzFuncs l h with _ | ⟨x, y⟩ <;> rfl
  all_goals simp
theorem frzFuncs_slice (b g o n : Nat) (e c : Option Nat) (l : List LV) (h : Heap) : frzFuncs (.slice b g o n e c :: l) h = bnd (frzFuncs l h) fun a => some (.slice b g o n e c :: a.1, a.2) := by
  rw [frzFuncs]
  rcases frzFuncs l h with _ | ⟨x, y⟩ <;> rfl
  all_goals simp

/-- The error of the starts' numbers: of a time besides the first one and the step. -/
def startsE (n f e : Int) (ts : List Int) : Int := firstE [whenE (outside n 0 160) 3, whenE ((ts ++ [f, e]).any badT) 3, lateE n f e]
theorem app1 (w f e : Int) : appendOp none none 8 (.slice 1 1 0 1 none (some 1)) (.c (.slice [ci f, ci e])) [.cells 1 [] 0, .cells 1 [.c (ci w)] 0] = some (.slice 2 1 0 3 none none, [.cells 1 [] 0, .cells 1 [.c (ci w)] 0, .cells 1 [.c (ci w), .c (ci f), .c (ci e)] 0]) := by
  rfl
theorem app2 (w t f e : Int) : appendOp none none 8 (.slice 1 1 0 2 none (some 2)) (.c (.slice [ci f, ci e])) [.cells 1 [] 0, .cells 1 [.c (ci w), .c (ci t)] 0] = some (.slice 2 1 0 4 none none, [.cells 1 [] 0, .cells 1 [.c (ci w), .c (ci t)] 0, .cells 1 [.c (ci w), .c (ci t), .c (ci f), .c (ci e)] 0]) := by
  rfl
theorem S108_1 (n f e w : Int) : sfn P 108 [.c (ci n), .c (ci f), .c (ci e), .slice 1 1 0 1 none (some 1)] [.cells 1 [] 0, .cells 1 [.c (ci w)] 0] = some (.c (ci (startsE n f e [w])), [.cells 1 [] 0, .cells 1 [.c (ci w)] 0, .cells 1 [.c (ci w), .c (ci f), .c (ci e)] 0]) := by
  have a := S124 (P := P) w [f, e] (by simp)
  simp [-List.any_cons] at a
  rw [u108]
  unfold startsE
  by_cases h1 : 0 < n
  · simp [c108, a, app1, h1, lateE, -List.any_cons]
  · simp [c108, a, app1, h1, lateE, -List.any_cons]
theorem S108_2 (n f e w t : Int) : sfn P 108 [.c (ci n), .c (ci f), .c (ci e), .slice 1 1 0 2 none (some 2)] [.cells 1 [] 0, .cells 1 [.c (ci w), .c (ci t)] 0] = some (.c (ci (startsE n f e [w, t])), [.cells 1 [] 0, .cells 1 [.c (ci w), .c (ci t)] 0, .cells 1 [.c (ci w), .c (ci t), .c (ci f), .c (ci e)] 0]) := by
  have a := S124 (P := P) w [t, f, e] (by simp)
  simp [-List.any_cons] at a
  rw [u108]
  unfold startsE
  by_cases h1 : 0 < n
  · simp [c108, a, app2, h1, lateE, -List.any_cons]
  · simp [c108, a, app2, h1, lateE, -List.any_cons]
end LM.G6

namespace LM.G6
open Go LM
variable {P : Nat → Option SFunc} [Has P]

structure Stt where
  name : Str
  nation : Str
  seed : Int
def Stt.enc (x : Stt) : CV := .agg [.str x.name, .str x.nation, ci x.seed]
def Stt.ptr (x : Stt) : CV := .ptr [.str x.name, .str x.nation, ci x.seed] 0
def Stt.ok (x : Stt) : Prop := x.name.length < 9223372036854775807 ∧ x.nation.length < 9223372036854775807
theorem Stt.elem (x : Stt) : Elem (some 3) x.enc := ⟨_, rfl, rfl, by simp [CV.flat]⟩
theorem Stt.elems (l : List Stt) : ∀ x ∈ l.map Stt.enc, Elem (some 3) x := by
  intro x hx
  obtain ⟨y, _, rfl⟩ := List.mem_map.1 hx
  exact y.elem

def Stt.is (n : Str) (x : Stt) : Bool := x.name == n

theorem S87 (x c : Stt) : fn P 87 [x.enc, c.ptr] = some (.bool (Stt.is c.name x)) := by
  rw [u87]
  simp [c87, Stt.enc, Stt.ptr, Stt.is]

theorem L140 (c : Stt) : ∀ (l pre : List Stt), ((pre ++ l).length : Int) < 9223372036854775807 →
    execS P (limS P) c140_l0 ⟨[.c (.slice ((pre ++ l).map Stt.enc)), .c (.func 87 [] [c.ptr]), .c (ci (pre ++ l).length), .c (ci pre.length)], []⟩ = if l.any (Stt.is c.name) then some (.ret, ⟨[.c (ci (idxF (Stt.is c.name) pre.length l))], []⟩) else some (.exit 0, ⟨[], []⟩) := by
  intro l
  induction l with
  | nil =>
    intro pre h
    rw [r140_l0]
    simp [c140_l0b]
  | cons x r ih =>
    intro pre h
    have ih := ih (pre ++ [x]) (by simpa using h)
    have hc := S87 (P := P) x c
    simp [Stt.enc] at ih h hc
    have hw : IntKind.i64.wrap (↑pre.length + 1) = ↑pre.length + 1 := wrap64 (by omega) (by omega)
    have hlt : (pre.length : Int) < pre.length + (r.length + 1) := by omega
    rw [r140_l0]
    cases h0 : Stt.is c.name x
    · simp [c140_l0b, hw, hlt, Stt.enc, hc, idxF, h0, ih]
    · simp [c140_l0b, hw, hlt, Stt.enc, hc, idxF, h0]

theorem S86 (c : Stt) (l : List Stt) (h : (l.length : Int) < 9223372036854775807) : fn P 86 [.slice (l.map Stt.enc), .func 87 [] [c.ptr]] = some (.bool (l.any (Stt.is c.name))) := by
  have hl := L140 (P := P) c l [] (by simpa using h)
  have h2 : fn P 140 [.slice (l.map Stt.enc), .func 87 [] [c.ptr]] = some (ci (idxF (Stt.is c.name) 0 l)) := by
    rw [u140]
    simp at hl
    simp [c140, hl]
    exact fun hx => (idxF_none (by simpa using hx)).symm
  rw [u86]
  simp [c86, h2, idxF_dec]

/-- A starter's error behind others. -/
def stE (pre : List Stt) (x : Stt) : Int := firstE [whenE (!isName x.name) 8, whenE (pre.any (Stt.is x.name)) 9, whenE (!isName x.nation) 8, whenE (outside x.seed 0 999999999) 3]
def startersE (l : List Stt) : Int := if (l.length : Int) > 160 then 5 else eachE stE [] l

def XB (x : Stt) (z : Nat) : LB := .cells 0 [.c (.str x.name), .c (.str x.nation), .c (ci x.seed)] z
theorem L19 : ∀ (r pre : List Stt), (∀ x ∈ r, x.ok) → ((pre ++ r).length : Int) < 9223372036854775807 →
    ∃ H, execS P (limS P) c19_l0 ⟨[.c (.slice ((pre ++ r).map Stt.enc)), .c (.slice ((pre ++ r).map Stt.enc)), .c (ci (pre ++ r).length), .c (ci pre.length)], []⟩ = if eachE stE pre r = 0 then some (.exit 0, ⟨[], []⟩) else some (.ret, ⟨[.c (ci (eachE stE pre r))], H⟩) := by
  intro r
  induction r with
  | nil =>
    intro pre hl h
    refine ⟨[], ?_⟩
    rw [r19_l0]
    simp [c19_l0b, eachE]
  | cons x r ih =>
    intro pre hl h
    obtain ⟨H, ih⟩ := ih (pre ++ [x]) (fun y hy => hl y (by simp [hy])) (by simpa using h)
    have hx := hl x (by simp)
    unfold Stt.ok at hx
    have e86 := S86 (P := P) x pre (by simp at h; omega)
    have e90a := S90 (P := P) x.name hx.1
    have e90b := S90 (P := P) x.nation hx.2
    have ht : List.take pre.length (List.map Stt.enc pre ++ x.enc :: List.map Stt.enc r) = pre.map Stt.enc := by simp
    simp [Stt.enc, Stt.ptr, -List.any_eq_true] at ih h e86 ht
    have hw : IntKind.i64.wrap (↑pre.length + 1) = ↑pre.length + 1 := wrap64 (by omega) (by omega)
    have hlt : (pre.length : Int) < pre.length + (r.length + 1) := by omega
    have hz : szFits 3 (List.map Stt.enc pre ++ CV.agg [.str x.name, .str x.nation, ci x.seed] :: List.map Stt.enc r) = true := by cases pre <;> rfl
    have hb : (pre.length : Int) ≤ pre.length + (r.length + 1) := by omega
    have hE : eachE stE pre (x :: r) = if stE pre x ≠ 0 then stE pre x else eachE stE (pre ++ [x]) r := rfl
    have hS : firstE [whenE (!isName x.name) 8, whenE (pre.any (Stt.is x.name)) 9, whenE (!isName x.nation) 8, whenE (outside x.seed 0 999999999) 3] = stE pre x := rfl
    rw [hE, r19_l0]
    by_cases h0 : stE pre x = 0
    · refine ⟨H, ?_⟩
      simp [c19_l0b, hw, hlt, hz, hb, ht, Stt.enc, e86, e90a, e90b, hS, h0, ih, -List.any_eq_true]
    · refine ⟨[XB x 0, .dead], ?_⟩
      simp [c19_l0b, hw, hlt, hz, hb, ht, Stt.enc, e86, e90a, e90b, hS, h0, XB, -List.any_eq_true]
theorem S19 (l : List Stt) (hl : ∀ x ∈ l, x.ok) (h : (l.length : Int) < 9223372036854775807) : fn P 19 [.slice (l.map Stt.enc)] = some (ci (startersE l)) := by
  obtain ⟨H, hL⟩ := L19 (P := P) l [] hl (by simpa using h)
  simp at hL
  rw [u19]
  unfold startersE
  by_cases hm : (l.length : Int) > 160
  · have hm' : (160 : Int) < (l.length : Int) := hm
    simp [c19, hm']
  · have hm' : ¬ (160 : Int) < (l.length : Int) := hm
    simp [c19, hm', hL]
    by_cases h0 : eachE stE [] l = 0 <;> simp [h0]

def Stt.short (x : Stt) : Bool := decide (x.name.length ≤ 40) && decide (x.nation.length ≤ 40)
theorem L17 : ∀ (r pre : List Stt), ((pre ++ r).length : Int) < 9223372036854775807 →
    execS P (limS P) c17_l0 ⟨[.c (.slice ((pre ++ r).map Stt.enc)), .c (ci pre.length)], []⟩ = if r.all Stt.short then some (.exit 0, ⟨[], []⟩) else some (.ret, ⟨[.c (.bool false)], []⟩) := by
  intro r
  induction r with
  | nil =>
    intro pre h
    rw [r17_l0]
    simp [c17_l0b]
  | cons x r ih =>
    intro pre h
    have ih := ih (pre ++ [x]) (by simpa using h)
    simp [Stt.enc, -List.all_eq_true] at ih h
    have hw : IntKind.i64.wrap (↑pre.length + 1) = ↑pre.length + 1 := wrap64 (by omega) (by omega)
    have hlt : (pre.length : Int) < pre.length + (r.length + 1) := by omega
    have e : x.short = (decide (x.name.length ≤ 40) && decide (x.nation.length ≤ 40)) := rfl
    have q1 : (40 : Int) < x.name.length ↔ ¬ x.name.length ≤ 40 := by omega
    have q2 : (40 : Int) < x.nation.length ↔ ¬ x.nation.length ≤ 40 := by omega
    rw [r17_l0]
    by_cases h1 : x.name.length ≤ 40 <;> by_cases h2 : x.nation.length ≤ 40 <;> simp [c17_l0b, hw, hlt, Stt.enc, e, q1, q2, h1, h2, ih, -List.all_eq_true, -Nat.not_le]
def shortStt (l : List Stt) (n : Int) : Bool := !((decide ((l.length : Int) > n) && decide ((l.length : Int) ≤ 160)) || decide ((l.length : Int) > 162)) && l.all Stt.short
theorem S17 (l : List Stt) (n : Int) (h : (l.length : Int) < 9223372036854775807) : fn P 17 [.slice (l.map Stt.enc), ci n] = some (.bool (shortStt l n)) := by
  have hl := L17 (P := P) l [] (by simpa using h)
  simp [-List.all_eq_true] at hl
  rw [u17]
  unfold shortStt
  by_cases h1 : n < (l.length : Int) <;> by_cases h2 : (l.length : Int) ≤ 160 <;> by_cases h3 : (162 : Int) < l.length <;> cases h0 : l.all Stt.short <;> rw [h0] at hl <;> simp [c17, h1, h2, h3, hl]

theorem L18_0 (X : List Stt) (x : Stt) : ∀ (r pre rest : List Stt), X = pre ++ r ++ x :: rest → (X.length : Int) < 9223372036854775807 →
    execS P (limS P) c18_l0 ⟨[.c (.slice (X.map Stt.enc)), .c (ci (pre ++ r).length), .c (ci pre.length)], []⟩ = if r.any (Stt.is x.name) then some (.ret, ⟨[.c (ci 9)], []⟩) else some (.exit 2, ⟨[.c (.slice (X.map Stt.enc)), .c (ci (pre ++ r).length)], []⟩) := by
  intro r
  induction r with
  | nil =>
    intro pre rest hX h
    rw [r18_l0]
    simp [c18_l0b]
  | cons y r ih =>
    intro pre rest hX h
    have ih := ih (pre ++ [y]) rest (by simp [hX]) h
    subst hX
    simp [Stt.enc, -List.any_eq_true] at ih h
    have hw : IntKind.i64.wrap (↑pre.length + 1) = ↑pre.length + 1 := wrap64 (by omega) (by omega)
    have hlt : (pre.length : Int) < pre.length + (r.length + 1) := by omega
    have k1 : (pre.length : Int) < pre.length + (r.length + (rest.length + 1) + 1) := by omega
    have k2 : (pre.length : Int) + (r.length + 1) < pre.length + (r.length + (rest.length + 1) + 1) := by omega
    have t1 : ((pre.length : Int) + (r.length + 1)).toNat = pre.length + (r.length + 1) := by omega
    have j2 : 0 ≤ (pre.length : Int) + (r.length + 1) := by omega
    have hu : Stt.is x.name y = decide (y.name = x.name) := by by_cases q : y.name = x.name <;> simp [Stt.is, q]
    rw [r18_l0]
    by_cases h0 : y.name = x.name
    · simp [c18_l0b, hw, hlt, k1, k2, t1, j2, Stt.enc, hu, h0, -List.any_eq_true]
    · simp [c18_l0b, hw, hlt, k1, k2, t1, j2, Stt.enc, hu, h0, ih, -List.any_eq_true]
theorem L18_1 : ∀ (r pre : List Stt), ((pre ++ r).length : Int) < 9223372036854775807 →
    execS P (limS P) c18_l1 ⟨[.c (.slice ((pre ++ r).map Stt.enc)), .c (ci pre.length)], []⟩ = if eachE stE pre r = 0 then some (.exit 0, ⟨[], []⟩) else some (.ret, ⟨[.c (ci (eachE stE pre r))], []⟩) := by
  intro r
  induction r with
  | nil =>
    intro pre h
    rw [r18_l1]
    simp [c18_l1b, eachE]
  | cons x r ih =>
    intro pre h
    have ih := ih (pre ++ [x]) (by simpa using h)
    have h0 := L18_0 (P := P) (pre ++ x :: r) x pre [] r (by simp) h
    simp [Stt.enc, -List.any_eq_true] at ih h h0
    have hw : IntKind.i64.wrap (↑pre.length + 1) = ↑pre.length + 1 := wrap64 (by omega) (by omega)
    have hlt : (pre.length : Int) < pre.length + (r.length + 1) := by omega
    have hE : eachE stE pre (x :: r) = if stE pre x ≠ 0 then stE pre x else eachE stE (pre ++ [x]) r := rfl
    have hS : stE pre x = firstE [whenE (!isName x.name) 8, whenE (pre.any (Stt.is x.name)) 9, whenE (!isName x.nation) 8, whenE (outside x.seed 0 999999999) 3] := rfl
    rw [hE, r18_l1]
    cases q1 : isName x.name
    · simp [c18_l1b, hw, hlt, Stt.enc, hS, q1, whenE, firstE]
    · cases q2 : pre.any (Stt.is x.name)
      · rw [q2] at h0
        cases q3 : isName x.nation
        · simp [c18_l1b, hw, hlt, Stt.enc, hS, q1, q2, q3, h0, whenE, firstE]
        · cases q4 : outside x.seed 0 999999999
          · simp [c18_l1b, hw, hlt, Stt.enc, hS, q1, q2, q3, q4, h0, whenE, firstE, ih]
          · simp [c18_l1b, hw, hlt, Stt.enc, hS, q1, q2, q3, q4, h0, whenE, firstE]
      · rw [q2] at h0
        simp [c18_l1b, hw, hlt, Stt.enc, hS, q1, q2, h0, whenE, firstE]
theorem S18 (l : List Stt) (h : (l.length : Int) < 9223372036854775807) : fn P 18 [.slice (l.map Stt.enc)] = some (ci (startersE l)) := by
  have hL := L18_1 (P := P) l [] (by simpa using h)
  simp at hL
  rw [u18]
  unfold startersE
  by_cases hm : (l.length : Int) > 160
  · have hm' : (160 : Int) < (l.length : Int) := hm
    simp [c18, hm']
  · have hm' : ¬ (160 : Int) < (l.length : Int) := hm
    simp [c18, hm', hL]
    by_cases h0 : eachE stE [] l = 0 <;> simp [h0]

theorem L15 : ∀ (l pre : List Stt), (pre ++ l).length * 40 ≤ 2 ^ 47 →
    execS P (limS P) c15_l0 ⟨[.c (.slice ((pre ++ l).map Stt.enc)), .slice 1 (1 + pre.length) 0 pre.length (some 3) none, .c (ci pre.length)], [.cells 1 [] 0, .cells (1 + pre.length) (cellsOf (pre.map Stt.enc)) 0]⟩ =
      some (.exit 0, ⟨[.slice 1 (1 + (pre ++ l).length) 0 (pre ++ l).length (some 3) none], [.cells 1 [] 0, .cells (1 + (pre ++ l).length) (cellsOf ((pre ++ l).map Stt.enc)) 0]⟩) := by
  intro l
  induction l with
  | nil =>
    intro pre h
    rw [r15_l0]
    simp [c15_l0b]
  | cons c r ih =>
    intro pre h
    have ih := ih (pre ++ [c]) (by simpa using h)
    have ha := append_own (b := 1) (g := 1 + pre.length) (bytes := 40) (e := some 3) (ys := pre.map Stt.enc) (xs := [c.enc]) (h := [.cells 1 [] 0, .cells (1 + pre.length) (cellsOf (pre.map Stt.enc)) 0]) (len := pre.length) (fz := 0) rfl (Stt.elems _) (by simpa using c.elem) (by simp) (Nat.zero_le _) (by simp) (by simp at h ⊢; omega) (by simp at h ⊢; omega)
    simp at h
    simp [Stt.enc] at ih ha
    have hw : IntKind.i64.wrap (↑pre.length + 1) = ↑pre.length + 1 := wrap64 (by omega) (by omega)
    have hlt : (pre.length : Int) < pre.length + (r.length + 1) := by omega
    have e1 : 1 + (pre.length + 1) = 1 + pre.length + 1 := by omega
    rw [r15_l0]
    rw [e1] at ih
    simp [c15_l0b, Stt.enc, hw, hlt, ha, ih]

@[simp] theorem S15 (l : List Stt) (h : l.length * 40 ≤ 2 ^ 47) : fn P 15 [.slice (l.map Stt.enc)] = some (.slice (l.map Stt.enc)) := by
  rw [u15]
  have := L15 (P := P) l [] (by simpa using h)
  have hf := frz_own (b := 1) (g := 1 + l.length) (fz := 0) (e := some 3) (ys := l.map Stt.enc) (h := [.cells 1 [] 0, .cells (1 + l.length) (cellsOf (l.map Stt.enc)) 0]) (len := l.length) rfl (Stt.elems _) (by simp) none
  simp at this
  simp [c15, this, resV, hf, -frz_slice]

end LM.G6

namespace LM.G6
open Go LM
variable {P : Nat → Option SFunc} [Has P]

theorem L97_0 (key : Int) (n : Nat) (hn : n ≤ 256) : ∀ (m i : Nat), i + m = n →
    execS P (limS P) c97_l0 ⟨[.c (ci key), .c (ci n), .slice 1 (1 + i) 0 i none none, .c (ci i)], [.cells 1 [] 0, .cells (1 + i) (cI (iota i)) 0]⟩ =
      some (.exit 0, ⟨[.c (ci key), .c (ci n), .slice 1 (1 + n) 0 n none none], [.cells 1 [] 0, .cells (1 + n) (cI (iota n)) 0]⟩) := by
  intro m
  induction m with
  | zero =>
    intro i hm
    simp at hm
    subst hm
    rw [r97_l0]
    simp [c97_l0b]
  | succ m ih =>
    intro i hm
    have ih := ih (i + 1) (by omega)
    have ha := append_own (b := 1) (g := 1 + i) (bytes := 8) (e := none) (ys := (iota i).map ci) (xs := [ci i]) (h := [.cells 1 [] 0, .cells (1 + i) (cellsOf ((iota i).map ci)) 0]) (len := i) (fz := 0) rfl (intElems _) (intElems [(i : Int)]) (by simp [iota_length]) (Nat.zero_le _) (by simp) (by simp [iota_length]; omega) (by simp [iota_length]; omega)
    have e0 : (iota i).map ci ++ [ci i] = (iota (i + 1)).map ci := by
      unfold iota
      rw [List.range_succ, List.map_append, List.map_append]
      rfl
    rw [e0, cellsOf_ints, cellsOf_ints] at ha
    have e1 : 1 + (i + 1) = 1 + i + 1 := by omega
    rw [e1] at ih
    simp at ih ha
    have hw : IntKind.i64.wrap ((i : Int) + 1) = (i : Int) + 1 := wrap64 (by omega) (by omega)
    have hlt : (i : Int) < n := by omega
    rw [r97_l0]
    simp [c97_l0b, hw, hlt, ha, under_cI, ih]

theorem L97_1 (n : Nat) (hn : n ≤ 256) (g : Nat) : ∀ (m i : Nat) (x : Int) (xs : List Int), i + m + 1 = n → 0 ≤ x → x ≤ 2147483646 → xs.length = n →
    execS P (limS P) c97_l1 ⟨[.c (ci x), .c (ci n), .slice 1 g 0 n none none, .c (ci i)], [.cells 1 [] 0, .cells g (cI xs) 0]⟩ =
      some (.exit 2, ⟨[.slice 1 g 0 n none none], [.cells 1 [] 0, .cells g (cI (drawN n m i x xs)) 0]⟩) := by
  intro m
  induction m with
  | zero =>
    intro i x xs hm h0 h1 hl
    have hw : IntKind.i64.wrap ((i : Int) + 1) = (i : Int) + 1 := wrap64 (by omega) (by omega)
    have hlt : ¬ (i : Int) + 1 < n := by omega
    rw [r97_l1]
    simp [c97_l1b, hw, hlt, drawN]
  | succ m ih =>
    intro i x xs hm h0 h1 hl
    have hx := nextX_range h0 h1
    have hs := step_range (n := n) (i := i) hx.1 (by omega)
    have ih := ih (i + 1) (nextX x) (sw xs i (i + ((nextX x).tmod ((n : Int) - i)).toNat)) (by omega) hx.1 hx.2 (by rw [sw_length, hl])
    obtain ⟨k, hk⟩ : ∃ k : Nat, (nextX x).tmod ((n : Int) - i) = (k : Int) := ⟨((nextX x).tmod ((n : Int) - i)).toNat, by omega⟩
    rw [hk] at ih hs
    have hw1 : IntKind.i64.wrap (48271 * x) = 48271 * x := wrap64 (by omega) (by omega)
    have hw2 : (48271 * x).tmod 2147483647 = nextX x := rfl
    have hw3 : IntKind.i64.wrap ((n : Int) - i) = (n : Int) - i := wrap64 (by omega) (by omega)
    have hw5 : IntKind.i64.wrap ((i : Int) + k) = (i : Int) + k := wrap64 (by omega) (by omega)
    have hw6 : IntKind.i64.wrap ((i : Int) + 1) = (i : Int) + 1 := wrap64 (by omega) (by omega)
    have hlt : (i : Int) + 1 < n := by omega
    have hnz : ¬ (n : Int) - i = 0 := by omega
    have hi : i < n := by omega
    have hik : i + k < n := by omega
    have hi' : i < xs.length := by omega
    have hik' : i + k < xs.length := by omega
    have hkt : ((i : Int) + k).toNat = i + k := by omega
    have hk0 : 0 ≤ (i : Int) + k := by omega
    have hk1 : (i : Int) + k < n := by omega
    have hii : (i : Int) < n := by omega
    have g1 := cI_get hi'
    have g2 := cI_get hik'
    have e : drawN n (m + 1) i x xs = drawN n m (i + 1) (nextX x) (sw xs i (i + k)) := by rw [drawN, hk]; rfl
    simp [sw, hi', hik'] at ih
    have hi1 : i + 1 ≤ n := by omega
    have hik1 : i + k + 1 ≤ n := by omega
    rw [e]
    rw [r97_l1]
    simp [c97_l1b, hw1, hw2, hw3, hw5, hw6, hlt, hk, hnz, hi, hik, hi', hik', hkt, hk0, hk1, hii, g1, g2, cI_length, cI_set, hl, under_cI, sw, hi1, hik1, ih]

theorem S97 (key : Int) (n : Nat) (h : drawE key n = 0) : fn P 97 [ci key, ci n] = some (.slice ((drawL key n).map ci)) := by
  unfold drawE at h
  split at h
  · cases h
  · rename_i hx
    have h1 : ¬ key < 1 := fun e => hx (.inl e)
    have h2 : ¬ 2147483646 < key := fun e => hx (.inr (.inl e))
    have h4 : ¬ (256 : Int) < n := fun e => hx (.inr (.inr (.inr e)))
    have l0 := L97_0 (P := P) key n (by omega) n 0 (by omega)
    have e0 : cI (iota 0) = [] := rfl
    rw [e0] at l0
    simp at l0
    have hf := resV_own1 (b := 1) (g := 1 + n) (fz := 0) (e := none) (ys := (drawL key n).map ci) (h := [.cells 1 [] 0, .cells (1 + n) (cellsOf ((drawL key n).map ci)) 0]) (len := n) rfl (intElems _) (by simp [drawL_length]) none
    rw [cellsOf_ints] at hf
    rw [u97]
    rcases Nat.eq_zero_or_pos n with hn | hn
    · subst hn
      have l1 : execS P (limS P) c97_l1 ⟨[.c (ci key), .c (ci 0), .slice 1 1 0 0 none none, .c (ci 0)], [.cells 1 [] 0, .cells 1 [] 0]⟩ = some (.exit 2, ⟨[.slice 1 1 0 0 none none], [.cells 1 [] 0, .cells 1 [] 0]⟩) := by
        have hw : IntKind.i64.wrap 1 = 1 := wrap64 (by omega) (by omega)
        rw [r97_l1]
        simp [c97_l1b, hw]
      have e : drawL key 0 = [] := rfl
      have e1 : cI [] = [] := rfl
      rw [e0] at l0
      simp at l0
      simp [c97, l0, l1, e]
    · have l1 := L97_1 (P := P) n (by omega) (1 + n) (n - 1) 0 key (iota n) (by omega) (by omega) (by omega) (iota_length n)
      simp at l1
      have e : drawN n (n - 1) 0 key (iota n) = drawL key n := rfl
      rw [e] at l1
      simp [c97, l0, l1, hf]

theorem sw_perm {xs : List Int} {i k : Nat} (hi : i < xs.length) (hk : k < xs.length) : (sw xs i k).Perm xs := by
  unfold sw
  have e1 : xs.getD k 0 = xs[k] := by simp [List.getD_eq_getElem?_getD, hk]
  have e2 : xs.getD i 0 = xs[i] := by simp [List.getD_eq_getElem?_getD, hi]
  rw [e1, e2]
  exact List.set_set_perm hi hk
theorem drawN_perm (n : Nat) : ∀ (m i : Nat) (x : Int) (xs : List Int), i + m < n → 0 ≤ x → x ≤ 2147483646 → xs.length = n → (drawN n m i x xs).Perm xs
  | 0, _, _, _, _, _, _, _ => .refl _
  | m + 1, i, x, xs, hm, h0, h1, hl => by
    rw [drawN]
    have hx := nextX_range h0 h1
    have hs := step_range (n := n) (i := i) hx.1 (by omega)
    exact (drawN_perm n m (i + 1) _ _ (by omega) hx.1 hx.2 (by rw [sw_length, hl])).trans (sw_perm (by omega) (by omega))
theorem drawL_perm {key : Int} {n : Nat} (h0 : 1 ≤ key) (h1 : key ≤ 2147483646) : (drawL key n).Perm (iota n) := by
  unfold drawL
  rcases Nat.eq_zero_or_pos n with h | h
  · subst h; exact .refl _
  · exact drawN_perm n (n - 1) 0 key _ (by omega) (by omega) h1 (iota_length n)

end LM.G6

namespace LM.G6
open Go LM
variable {P : Nat → Option SFunc} [Has P]

/-- The cells of a list whose elements are cells. -/
def cA {α : Type} (enc : α → CV) (xs : List α) : List LV := xs.map fun x => LV.c (enc x)
theorem cA_length {α : Type} (enc : α → CV) (xs : List α) : (cA enc xs).length = xs.length := by simp [cA]
theorem cA_append {α : Type} (enc : α → CV) (xs ys : List α) : cA enc (xs ++ ys) = cA enc xs ++ cA enc ys := by simp [cA]
theorem cA_cons {α : Type} (enc : α → CV) (x : α) (ys : List α) : cA enc (x :: ys) = .c (enc x) :: cA enc ys := by simp [cA]

/-- A comparison, whatever the heap is. -/
def CmpOk (P : Nat → Option SFunc) {α : Type} (enc : α → CV) (f : Nat) (B : List CV) (c : α → α → Int) : Prop :=
  ∀ (pos : Option Nat) (q : Bool) (x y : α) (h : Heap), callS P (limS P) pos q f (.c (enc x) :: .c (enc y) :: B.map .c) h = some (.c (ci (c x y)), h)
/-- Elements of one cell. -/
def CellOk {α : Type} (enc : α → CV) : Prop := ∀ x, Elem none (enc x)
theorem CellOk.cells {α : Type} {enc : α → CV} (h : CellOk enc) (x : α) : CV.cells (enc x) = [enc x] := (h x).1
theorem CellOk.flat {α : Type} {enc : α → CV} (h : CellOk enc) (x : α) : flatAll [LV.c (enc x)] = true := by have := (h x).2; simpa [flatAll] using this
def ltC {α : Type} (c : α → α → Int) (x y : α) : Bool := decide (c x y < 0)

variable {α : Type} {enc : α → CV} {f : Nat} {B : List CV} {c : α → α → Int} {H : Heap} {b g : Nat} {cp : Option Nat}

theorem take_set (X : LB) : List.take H.length (H.set b X) = H.set b X := List.take_of_length_le (by simp)

theorem L167_0 (hE : CellOk enc) (hC : CmpOk P enc f B c) (hb : b < H.length) (hg : g ≠ 0) (A : List α) (a bb i : Int) (ha : a = A.length) (n : Nat) (hn : n < 9223372036854775807) : ∀ (L : List α) (x : α) (Q : List α), n = A.length + L.length + 1 + Q.length →
    execS P (limS P) c167_l0 ⟨[.slice b g 0 n none cp, .c (ci a), .c (ci bb), .c (.func f [] B), .c (ci i), .c (ci (A.length + L.length))], H.set b (.cells g (cA enc (A ++ L.reverse ++ x :: Q)) 0)⟩ =
      some (.exit 2, ⟨[.slice b g 0 n none cp, .c (ci a), .c (ci bb), .c (.func f [] B), .c (ci i)], H.set b (.cells g (cA enc (A ++ insL (ltC c) x L Q)) 0)⟩) := by
  subst ha
  intro L
  induction L with
  | nil =>
    intro x Q h
    rw [r167_l0]
    simp [c167_l0b, insL]
  | cons y L ih =>
    intro x Q h
    have ih := ih x (y :: Q) (by simp at h ⊢; omega)
    simp at h
    have hlt : (A.length : Int) < A.length + (L.length + 1) := by omega
    have hw : IntKind.i64.wrap ((A.length : Int) + (L.length + 1) - 1) = A.length + L.length := by
      rw [show (A.length : Int) + (L.length + 1) - 1 = A.length + L.length from by omega]; exact wrap64 (by omega) (by omega)
    have t1 : ((A.length : Int) + (L.length + 1)).toNat = A.length + (L.length + 1) := by omega
    have t2 : ((A.length : Int) + L.length).toNat = A.length + L.length := by omega
    have i1 : (A.length : Int) + (L.length + 1) < n := by omega
    have i2 : (A.length : Int) + L.length < n := by omega
    have j1 : 0 ≤ (A.length : Int) + (L.length + 1) := by omega
    have j2 : 0 ≤ (A.length : Int) + L.length := by omega
    have e : A ++ (y :: L).reverse ++ x :: Q = A ++ (L.reverse ++ y :: x :: Q) := by simp
    have g1 : (cA enc (A ++ (L.reverse ++ y :: x :: Q)))[A.length + L.length]? = some (.c (enc y)) := by
      unfold cA; rw [List.getElem?_map, List.getElem?_append_right (by omega), List.getElem?_append_right (by simp)]; simp
    have g2 : (cA enc (A ++ (L.reverse ++ y :: x :: Q)))[A.length + (L.length + 1)]? = some (.c (enc x)) := by
      unfold cA; rw [List.getElem?_map, List.getElem?_append_right (by omega), List.getElem?_append_right (by simp), List.length_reverse, show A.length + (L.length + 1) - A.length - L.length = 1 from by omega]; simp
    have gs : ((cA enc (A ++ (L.reverse ++ y :: x :: Q))).set (A.length + (L.length + 1)) (.c (enc y))).set (A.length + L.length) (.c (enc x)) = cA enc (A ++ (L.reverse ++ x :: y :: Q)) := by
      have q : cA enc (A ++ (L.reverse ++ y :: x :: Q)) = (cA enc A ++ cA enc L.reverse) ++ .c (enc y) :: .c (enc x) :: cA enc Q := by simp [cA]
      have q2 : cA enc (A ++ (L.reverse ++ x :: y :: Q)) = (cA enc A ++ cA enc L.reverse) ++ .c (enc x) :: .c (enc y) :: cA enc Q := by simp [cA]
      have ql : (cA enc A ++ cA enc L.reverse).length = A.length + L.length := by simp [cA_length]
      rw [q, q2, List.set_append_right _ _ (by omega), ql, show A.length + (L.length + 1) - (A.length + L.length) = 1 from by omega, List.set_cons_succ, List.set_cons_zero, List.set_append_right _ _ (by omega), ql, Nat.sub_self, List.set_cons_zero]
    obtain ⟨_, g1⟩ := List.getElem?_eq_some_iff.1 g1
    obtain ⟨_, g2⟩ := List.getElem?_eq_some_iff.1 g2
    have k1 : A.length + (L.length + 1) + 1 ≤ A.length + (L.length + (Q.length + 1 + 1)) := by omega
    have k2 : A.length + L.length + 1 ≤ A.length + (L.length + (Q.length + 1 + 1)) := by omega
    have hc := fun pos q h => hC pos q x y h
    have m1 := hE.cells
    simp only [CV.cells] at m1
    have m2 := hE.flat
    rw [e]
    rw [r167_l0]
    simp only [insL]
    by_cases hk : c x y < 0
    · have hl : ltC c x y = true := decide_eq_true hk
      have ih' := ih
      simp at ih
      simp [c167_l0b, hb, hlt, hw, t1, t2, i1, i2, j1, j2, g1, g2, gs, hc, hk, hl, m1, m2, take_set, cA_length, k1, k2, ih]
    · have hl : ltC c x y = false := decide_eq_false hk
      simp [c167_l0b, hb, hlt, hw, t1, t2, i1, i2, j1, j2, g1, g2, hc, hk, hl, take_set, cA_length]

theorem L167_1 (hE : CellOk enc) (hC : CmpOk P enc f B c) (hb : b < H.length) (hg : g ≠ 0) (A T : List α) (n : Nat) (hn : n < 9223372036854775807) (bb : Int) : ∀ (U S : List α), n = A.length + S.length + U.length + T.length → bb = A.length + S.length + U.length →
    execS P (limS P) c167_l1 ⟨[.slice b g 0 n none cp, .c (ci A.length), .c (ci bb), .c (.func f [] B), .c (ci (A.length + S.length))], H.set b (.cells g (cA enc (A ++ (S ++ (U ++ T)))) 0)⟩ =
      some (.exit 0, ⟨[], H.set b (.cells g (cA enc (A ++ (sortI (ltC c) S U ++ T))) 0)⟩) := by
  intro U
  induction U with
  | nil =>
    intro S h1 h2
    have hlt : ¬ (A.length : Int) + S.length < bb := by simp at h2; omega
    rw [r167_l1]
    simp [c167_l1b, hlt, sortI]
  | cons x U ih =>
    intro S h1 h2
    have ih := ih (insS (ltC c) x S) (by rw [insS_length]; simp at h1 ⊢; omega) (by rw [insS_length]; simp at h2 ⊢; omega)
    have hin := L167_0 (P := P) (cp := cp) hE hC hb hg A A.length bb (A.length + S.length) rfl n hn S.reverse x (U ++ T) (by simp at h1 ⊢; omega)
    have e : insL (ltC c) x S.reverse (U ++ T) = insS (ltC c) x S ++ (U ++ T) := insL_append x S.reverse [] (U ++ T)
    rw [e] at hin
    rw [insS_length] at ih
    simp at hin ih h1 h2
    have hlt : (A.length : Int) + S.length < bb := by omega
    have hw : IntKind.i64.wrap ((A.length : Int) + S.length + 1) = (A.length : Int) + (S.length + 1) := by
      rw [Int.add_assoc]; exact wrap64 (by omega) (by omega)
    rw [r167_l1]
    simp only [sortI]
    simp [c167_l1b, hlt, hin, hw, hb, take_set, ih]

theorem S167 (hE : CellOk enc) (hC : CmpOk P enc f B c) (hb : b < H.length) (hg : g ≠ 0) (A U T : List α) (n : Nat) (hn : n < 9223372036854775807) (h : n = A.length + U.length + T.length) :
    sfn P 167 [.slice b g 0 n none cp, .c (ci A.length), .c (ci (A.length + U.length)), .c (.func f [] B)] (H.set b (.cells g (cA enc (A ++ (U ++ T))) 0)) = some (.c (.tuple []), H.set b (.cells g (cA enc (A ++ (sortI (ltC c) [] U ++ T))) 0)) := by
  have hw : IntKind.i64.wrap ((A.length : Int) + 1) = (A.length : Int) + 1 := wrap64 (by omega) (by omega)
  rw [u167]
  cases U with
  | nil =>
    have hlt : ¬ (A.length : Int) + 1 < A.length := by omega
    have hL : execS P (limS P) c167_l1 ⟨[.slice b g 0 n none cp, .c (ci A.length), .c (ci A.length), .c (.func f [] B), .c (ci ((A.length : Int) + 1))], H.set b (.cells g (cA enc (A ++ T)) 0)⟩ = some (.exit 0, ⟨[], H.set b (.cells g (cA enc (A ++ T)) 0)⟩) := by
      rw [r167_l1]
      simp [c167_l1b, hlt]
    simp [c167, hw, hL, sortI]
  | cons x U =>
    have hL := L167_1 (P := P) (cp := cp) hE hC hb hg A T n hn (A.length + (U.length + 1)) U [x] (by simp at h ⊢; omega) (by simp; omega)
    have e : insS (ltC c) x [] = [x] := rfl
    simp at hL
    simp [c167, hw, hL, sortI, e]

end LM.G6

namespace LM.G6
open Go LM
variable {P : Nat → Option SFunc} [Has P]
variable {α : Type} {enc : α → CV} {f : Nat} {B : List CV} {c : α → α → Int} {H : Heap} {b g : Nat} {cp : Option Nat}

theorem cA_get {l P R : List α} {x : α} {k : Nat} (hl : l = P ++ x :: R) (h : k = P.length) : ∃ q : k < (cA enc l).length, (cA enc l)[k]'q = .c (enc x) := by
  subst hl
  subst h
  refine ⟨by simp [cA], by simp [cA]⟩
theorem cA_set {P R : List α} {x y : α} {k : Nat} (h : k = P.length) : (cA enc (P ++ x :: R)).set k (.c (enc y)) = cA enc (P ++ y :: R) := by
  subst h
  simp [cA]

theorem L175 (hE : CellOk enc) (hb : b < H.length) (hg : g ≠ 0) (A M T : List α) (F : CV) (n a bb len : Nat) (hn : n < 9223372036854775807) (ha : a = A.length) : ∀ (X2 Y2 X1 Y1 : List α), X1.length = Y1.length → X2.length = Y2.length → len = X1.length + X2.length → bb = A.length + len + M.length → n = bb + len + T.length →
    execS P (limS P) c175_l0 ⟨[.slice b g 0 n none cp, .c (ci a), .c (ci bb), .c (ci len), .c (ci Y1.length)], H.set b (.cells g (cA enc ((A ++ Y1) ++ (X2 ++ (M ++ X1 ++ (Y2 ++ T))))) 0)⟩ =
      some (.exit 0, ⟨[], H.set b (.cells g (cA enc ((A ++ Y1 ++ Y2) ++ (M ++ X1 ++ (X2 ++ T)))) 0)⟩) := by
  intro X2
  induction X2 with
  | nil =>
    intro Y2 X1 Y1 h1 h2 h3 h4 h5
    have : Y2 = [] := List.eq_nil_of_length_eq_zero h2.symm
    subst this
    have hlt : ¬ (Y1.length : Int) < len := by simp at h3; omega
    rw [r175_l0]
    simp [c175_l0b, hlt]
  | cons x X2 ih =>
    intro Y2 X1 Y1 h1 h2 h3 h4 h5
    cases Y2 with
    | nil => simp at h2
    | cons y Y2 =>
      have ih := ih Y2 (X1 ++ [x]) (Y1 ++ [y]) (by simp [h1]) (by simpa using h2) (by simp at h3 ⊢; omega) h4 h5
      simp at h2 h3
      have hlt : (Y1.length : Int) < len := by omega
      have w1 : IntKind.i64.wrap ((a : Int) + Y1.length) = ((a + Y1.length : Nat) : Int) := by rw [Int.natCast_add]; exact wrap64 (by omega) (by omega)
      have w2 : IntKind.i64.wrap ((bb : Int) + Y1.length) = ((bb + Y1.length : Nat) : Int) := by rw [Int.natCast_add]; exact wrap64 (by omega) (by omega)
      have w3 : IntKind.i64.wrap ((Y1.length : Int) + 1) = (Y1.length : Int) + 1 := wrap64 (by omega) (by omega)
      have i1 : ((a + Y1.length : Nat) : Int) < n := by omega
      have i2 : ((bb + Y1.length : Nat) : Int) < n := by omega
      have e0 : (A ++ Y1) ++ (x :: X2 ++ (M ++ X1 ++ (y :: Y2 ++ T))) = (A ++ Y1) ++ x :: (X2 ++ (M ++ X1 ++ (y :: Y2 ++ T))) := by simp
      have e1 : (A ++ Y1) ++ x :: (X2 ++ (M ++ X1 ++ (y :: Y2 ++ T))) = ((A ++ Y1) ++ x :: (X2 ++ (M ++ X1))) ++ y :: (Y2 ++ T) := by simp
      have e2 : (A ++ Y1) ++ y :: (X2 ++ (M ++ X1 ++ (y :: Y2 ++ T))) = ((A ++ Y1) ++ y :: (X2 ++ (M ++ X1))) ++ y :: (Y2 ++ T) := by simp
      obtain ⟨q1, g1⟩ := cA_get (enc := enc) (P := A ++ Y1) (R := X2 ++ (M ++ X1 ++ (y :: Y2 ++ T))) (x := x) (k := a + Y1.length) rfl (by simp [ha])
      obtain ⟨q2, g2⟩ := cA_get (enc := enc) (P := (A ++ Y1) ++ x :: (X2 ++ (M ++ X1))) (R := Y2 ++ T) (x := y) (k := bb + Y1.length) e1 (by simp; omega)
      have s1 : (cA enc ((A ++ Y1) ++ x :: (X2 ++ (M ++ X1 ++ (y :: Y2 ++ T))))).set (a + Y1.length) (.c (enc y)) = cA enc ((A ++ Y1) ++ y :: (X2 ++ (M ++ X1 ++ (y :: Y2 ++ T)))) := cA_set (by simp [ha])
      have s2 : (cA enc ((A ++ Y1) ++ y :: (X2 ++ (M ++ X1 ++ (y :: Y2 ++ T))))).set (bb + Y1.length) (.c (enc x)) = cA enc ((A ++ Y1 ++ [y]) ++ (X2 ++ (M ++ (X1 ++ [x]) ++ (Y2 ++ T)))) := by
        rw [e2, cA_set (by simp; omega)]
        congr 1
        simp
      have m1 := hE.cells
      simp only [CV.cells] at m1
      have m2 := hE.flat
      have hD : (cA enc ((A ++ Y1) ++ x :: (X2 ++ (M ++ X1 ++ (y :: Y2 ++ T))))).length = n := by rw [cA_length]; simp; omega
      have hD2 : (cA enc ((A ++ Y1) ++ y :: (X2 ++ (M ++ X1 ++ (y :: Y2 ++ T))))).length = n := by rw [cA_length]; simp; omega
      have e3 : (A ++ (Y1 ++ [y]) ++ Y2) = A ++ Y1 ++ y :: Y2 := by simp
      have e4 : (M ++ (X1 ++ [x]) ++ (X2 ++ T)) = (M ++ X1 ++ (x :: X2 ++ T)) := by simp
      have e5 : (A ++ (Y1 ++ [y])) = A ++ Y1 ++ [y] := by simp
      rw [e3, e4, e5] at ih
      rw [e0, r175_l0]
      generalize cA enc ((A ++ Y1) ++ x :: (X2 ++ (M ++ X1 ++ (y :: Y2 ++ T)))) = D at *
      generalize cA enc ((A ++ Y1) ++ y :: (X2 ++ (M ++ X1 ++ (y :: Y2 ++ T)))) = D2 at *
      generalize cA enc ((A ++ Y1 ++ [y]) ++ (X2 ++ (M ++ (X1 ++ [x]) ++ (Y2 ++ T)))) = D3 at *
      generalize cA enc (A ++ Y1 ++ y :: Y2 ++ (M ++ X1 ++ (x :: X2 ++ T))) = D4 at *
      have g1 := List.getElem?_eq_some_iff.2 ⟨q1, g1⟩
      have g2 := List.getElem?_eq_some_iff.2 ⟨q2, g2⟩
      have k1 : a + Y1.length + 1 ≤ n := by omega
      have k2 : bb + Y1.length + 1 ≤ n := by omega
      have t1 : ((a : Int) + Y1.length).toNat = a + Y1.length := by omega
      have t2 : ((bb : Int) + Y1.length).toNat = bb + Y1.length := by omega
      have j1 : 0 ≤ (a : Int) + Y1.length := by omega
      have j2 : 0 ≤ (bb : Int) + Y1.length := by omega
      simp at i1 i2 w1 w2 ih
      simp [c175_l0b, hlt, w1, w2, w3, hb, i1, i2, g1, g2, s1, s2, hD, hD2, m1, m2, take_set, k1, k2, t1, t2, j1, j2, ih]

theorem S175 (hE : CellOk enc) (hb : b < H.length) (hg : g ≠ 0) (A X M Y T : List α) (F : CV) (n a bb len : Nat) (hn : n < 9223372036854775807) (ha : a = A.length) (h1 : len = X.length) (h2 : len = Y.length) (h3 : bb = A.length + X.length + M.length) (h4 : n = bb + Y.length + T.length) :
    sfn P 175 [.slice b g 0 n none cp, .c (ci a), .c (ci bb), .c (ci len), .c F] (H.set b (.cells g (cA enc (A ++ (X ++ (M ++ (Y ++ T))))) 0)) = some (.c (.tuple []), H.set b (.cells g (cA enc (A ++ (Y ++ (M ++ (X ++ T))))) 0)) := by
  have hL := L175 (P := P) (cp := cp) hE hb hg A M T F n a bb len hn ha X Y [] [] rfl (by omega) (by simpa using h1) (by omega) (by omega)
  simp at hL
  rw [u175]
  simp [c175, hL]
end LM.G6

namespace LM.G6
open Go LM
variable {P : Nat → Option SFunc} [Has P]
variable {α : Type} {enc : α → CV} {f : Nat} {B : List CV} {c : α → α → Int} {H : Heap} {b g : Nat} {cp : Option Nat}

theorem split_at {l : List α} {k : Nat} (h : k ≤ l.length) : ∃ x y, l = x ++ y ∧ x.length = k := ⟨l.take k, l.drop k, (List.take_append_drop k l).symm, by simp; omega⟩

theorem L172 (hE : CellOk enc) (hb : b < H.length) (hg : g ≠ 0) (F : CV) (n m : Nat) (hn : n < 4611686018427387904) : ∀ (k : Nat) (A U V T : List α), U.length + V.length ≤ k → U ≠ [] → V ≠ [] → m = A.length + U.length → n = A.length + U.length + V.length + T.length →
    ∃ A' U' V' T' : List α, U'.length = V'.length ∧ m = A'.length + U'.length ∧ A'.length + U'.length + V'.length + T'.length = n ∧ A' ++ (V' ++ (U' ++ T')) = A ++ (V ++ (U ++ T)) ∧
    execS P (limS P) c172_l0 ⟨[.slice b g 0 n none cp, .c (ci m), .c F, .c (ci U.length), .c (ci V.length)], H.set b (.cells g (cA enc (A ++ (U ++ (V ++ T)))) 0)⟩ =
      some (.exit 0, ⟨[.slice b g 0 n none cp, .c (ci m), .c F, .c (ci U'.length)], H.set b (.cells g (cA enc (A' ++ (U' ++ (V' ++ T')))) 0)⟩) := by
  intro k
  induction k with
  | zero =>
    intro A U V T h hU
    have : U = [] := List.eq_nil_of_length_eq_zero (by omega)
    exact absurd this hU
  | succ k ih =>
    intro A U V T h hU hV hm hl
    have uz : U.length ≠ 0 := fun q => hU (List.eq_nil_of_length_eq_zero q)
    have v0 : V.length ≠ 0 := fun q => hV (List.eq_nil_of_length_eq_zero q)
    have w1 : IntKind.i64.wrap ((m : Int) - U.length) = (m : Int) - U.length := wrap64 (by omega) (by omega)
    have e1 : ((m : Int) - U.length) = ((A.length : Nat) : Int) := by omega
    by_cases hlt : V.length < U.length
    · obtain ⟨U1, U2, rfl, hu⟩ := split_at (l := U) (k := V.length) (by omega)
      simp only [List.length_append] at *
      obtain ⟨A', U', V', T', h1, h2, h3, h4, h5⟩ := ih (A ++ V) U2 U1 T (by omega) (by intro q; subst q; simp at hlt; omega) (by intro q; subst q; simp at hu; omega) (by simp; omega) (by simp; omega)
      refine ⟨A', U', V', T', h1, h2, h3, by rw [h4]; simp, ?_⟩
      have hs := S175 (P := P) (cp := cp) hE hb hg A U1 U2 V T F n A.length m V.length (by omega) rfl hu.symm rfl (by omega) (by omega)
      have e2 : A ++ (U1 ++ U2 ++ (V ++ T)) = A ++ (U1 ++ (U2 ++ (V ++ T))) := by simp
      have e3 : A ++ V ++ (U2 ++ (U1 ++ T)) = A ++ (V ++ (U2 ++ (U1 ++ T))) := by simp
      rw [e3] at h5
      rw [hu] at h5
      have c1 : ((U1.length : Int) + U2.length ≠ V.length) := by omega
      have c2 : (V.length : Int) < (U1.length : Int) + U2.length := by omega
      have c3 : ¬ ((U1.length : Int) + U2.length = V.length) := by omega
      have w2 : IntKind.i64.wrap ((U1.length : Int) + U2.length - V.length) = U2.length := by
        rw [show ((U1.length : Int) + U2.length - V.length) = U2.length from by omega]; exact wrap64 (by omega) (by omega)
      simp at w1 e1
      rw [e1] at w1
      rw [e2, r172_l0]
      simp [c172_l0b, c1, c2, c3, w1, e1, w2, hs, hb, take_set, frzFuncs_nil, frzFuncs_c, frzFuncs_slice, h5]
    · by_cases he : U.length = V.length
      · refine ⟨A, U, V, T, he, hm, hl.symm, rfl, ?_⟩
        rw [r172_l0]
        simp [c172_l0b, he]
      · obtain ⟨V1, V2, rfl, hv⟩ := split_at (l := V) (k := V.length - U.length) (by omega)
        simp only [List.length_append] at *
        have z1 : V1.length ≠ 0 := by omega
        have z2 : V2.length ≠ 0 := by omega
        obtain ⟨A', U', V', T', h1, h2, h3, h4, h5⟩ := ih A V2 V1 (U ++ T) (by omega) (by intro q; rw [q] at z2; simp at z2) (by intro q; rw [q] at z1; simp at z1) (by omega) (by simp; omega)
        refine ⟨A', U', V', T', h1, h2, h3, by rw [h4]; simp, ?_⟩
        have hs := S175 (P := P) (cp := cp) hE hb hg A U V1 V2 T F n A.length (A.length + U.length + V1.length) U.length (by omega) rfl rfl (by omega) rfl (by omega)
        have e2 : A ++ (U ++ (V1 ++ V2 ++ T)) = A ++ (U ++ (V1 ++ (V2 ++ T))) := by simp
        rw [show V2.length = U.length from by omega] at h5
        have c1 : ((U.length : Int) ≠ (V1.length : Int) + V2.length) := by omega
        have c2 : ¬ (V1.length : Int) + V2.length < U.length := by omega
        have c3 : ¬ ((U.length : Int) = (V1.length : Int) + V2.length) := by omega
        have w2 : IntKind.i64.wrap ((V1.length : Int) + V2.length - U.length) = V1.length := by
          rw [show ((V1.length : Int) + V2.length - U.length) = V1.length from by omega]; exact wrap64 (by omega) (by omega)
        have w3 : IntKind.i64.wrap ((m : Int) + (V1.length + V2.length)) = (m : Int) + (V1.length + V2.length) := wrap64 (by omega) (by omega)
        have w4 : IntKind.i64.wrap ((m : Int) + (V1.length + V2.length) - U.length) = (m : Int) + (V1.length + V2.length) - U.length := wrap64 (by omega) (by omega)
        have e4 : (m : Int) + (V1.length + V2.length) - U.length = (A.length : Int) + U.length + V1.length := by omega
        simp at hs
        rw [e1] at w1
        rw [e4] at w4
        rw [e2, r172_l0]
        simp [c172_l0b, c1, c2, c3, w1, e1, w2, w3, w4, e4, hs, hb, take_set, frzFuncs_nil, frzFuncs_c, frzFuncs_slice, h5]

theorem S172 (hE : CellOk enc) (hb : b < H.length) (hg : g ≠ 0) (A U V T : List α) (F : CV) (n a m bb : Nat) (hn : n < 4611686018427387904) (hU : U ≠ []) (hV : V ≠ []) (h1 : a = A.length) (h2 : m = A.length + U.length) (h3 : bb = A.length + U.length + V.length) (h4 : n = A.length + U.length + V.length + T.length) :
    sfn P 172 [.slice b g 0 n none cp, .c (ci a), .c (ci m), .c (ci bb), .c F] (H.set b (.cells g (cA enc (A ++ (U ++ (V ++ T)))) 0)) = some (.c (.tuple []), H.set b (.cells g (cA enc (A ++ (V ++ (U ++ T)))) 0)) := by
  obtain ⟨A', U', V', T', k1, k2, k3, k4, k5⟩ := L172 (P := P) (cp := cp) hE hb hg F n m hn _ A U V T (Nat.le_refl _) hU hV h2 h4
  have w1 : IntKind.i64.wrap ((m : Int) - a) = U.length := by rw [show ((m : Int) - a) = U.length from by omega]; exact wrap64 (by omega) (by omega)
  have w2 : IntKind.i64.wrap ((bb : Int) - m) = V.length := by rw [show ((bb : Int) - m) = V.length from by omega]; exact wrap64 (by omega) (by omega)
  have w3 : IntKind.i64.wrap ((m : Int) - U'.length) = A'.length := by rw [show ((m : Int) - U'.length) = A'.length from by omega]; exact wrap64 (by omega) (by omega)
  have hs := S175 (P := P) (cp := cp) hE hb hg A' U' [] V' T' F n A'.length m U'.length (by omega) rfl rfl k1 (by simp; omega) (by omega)
  simp only [List.nil_append] at hs
  rw [k4] at hs
  rw [u172]
  simp [c172, w1, w2, w3, k5, hs, hb, take_set, frzFuncs_nil, frzFuncs_c, frzFuncs_slice]
end LM.G6

namespace LM.G6
open Go LM
variable {P : Nat → Option SFunc} [Has P]
variable {α : Type} {enc : α → CV} {f : Nat} {B : List CV} {c : α → α → Int} {H : Heap} {b g : Nat} {cp : Option Nat}

/-- A search by halves. -/
def bs (p : Nat → Bool) : Nat → Nat → Nat → Nat
  | 0, i, _ => i
  | k + 1, i, j => if i < j then if p ((i + j) / 2) then bs p k ((i + j) / 2 + 1) j else bs p k i ((i + j) / 2) else i
theorem bs_spec (p : Nat → Bool) (i0 j0 : Nat) : ∀ (k i j : Nat), j - i ≤ k → i ≤ j → (i = i0 ∨ p (i - 1) = true) → (j = j0 ∨ p j = false) → i ≤ bs p k i j ∧ bs p k i j ≤ j ∧ (bs p k i j = i0 ∨ p (bs p k i j - 1) = true) ∧ (bs p k i j = j0 ∨ p (bs p k i j) = false)
  | 0, i, j, h, h1, h2, h3 => by
    have : i = j := by omega
    subst this
    exact ⟨Nat.le_refl _, Nat.le_refl _, h2, h3⟩
  | k + 1, i, j, h, h1, h2, h3 => by
    rw [bs]
    split
    · rename_i hl
      split
      · rename_i hp
        obtain ⟨a1, a2, a3, a4⟩ := bs_spec p i0 j0 k ((i + j) / 2 + 1) j (by omega) (by omega) (.inr (by simpa using hp)) h3
        exact ⟨by omega, a2, a3, a4⟩
      · rename_i hp
        obtain ⟨a1, a2, a3, a4⟩ := bs_spec p i0 j0 k i ((i + j) / 2) (by omega) (by omega) h2 (.inr (by simpa using hp))
        exact ⟨a1, by omega, a3, a4⟩
    · have : i = j := by omega
      subst this
      exact ⟨Nat.le_refl _, Nat.le_refl _, h2, h3⟩

def sp0 (c : α → α → Int) (D : List α) (a : Nat) (h : Nat) : Bool := match D[h]?, D[a]? with
  | some x, some y => ltC c x y
  | _, _ => false

def sp2 (c : α → α → Int) (D : List α) (a : Nat) (h : Nat) : Bool := match D[h]?, D[a]? with
  | some x, some y => !ltC c y x
  | _, _ => false
def sp4 (c : α → α → Int) (D : List α) (p : Nat) (h : Nat) : Bool := match D[p - h]?, D[h]? with
  | some x, some y => !ltC c x y
  | _, _ => false

theorem half {i j : Nat} (h : i + j < 9223372036854775808) : IntKind.u64.wrap ((i : Int) + j) = ((i + j : Nat) : Int) ∧ IntKind.i64.wrap (((i + j) / 2 : Nat) : Int) = (((i + j) / 2 : Nat) : Int) := by
  refine ⟨?_, wrap64 (by omega) (by omega)⟩
  simp only [IntKind.wrap, IntKind.bits, IntKind.signed]
  simp
  omega
theorem shr1 (i j : Nat) : shiftInt .shr .u64 ((i : Int) + j) 1 = some (.int .u64 (((i + j) / 2 : Nat) : Int)) := by
  have e : Nat.min (1 : Int).toNat IntKind.u64.bits = 1 := by decide
  unfold shiftInt
  rw [if_neg (by decide)]
  simp only [e]
  congr 2
  rw [Int.fdiv_eq_ediv_of_nonneg _ (by decide), Int.natCast_ediv, Int.natCast_add]
  rfl
theorem cA_at {D : List α} {x : α} {k : Nat} (h : D[k]? = some x) : (cA enc D)[k]? = some (.c (enc x)) := by simp [cA, h]

theorem L168_0 (hC : CmpOk P enc f B c) (hb : b < H.length) (hg : g ≠ 0) (D : List α) (n a : Nat) (hD : D.length = n) (hn : n < 4611686018427387904) (ha : a < n) : ∀ (k i j : Nat), j ≤ n →
    j - i ≤ k → execS P (limS P) c168_l0 ⟨[.slice b g 0 n none cp, .c (ci a), .c (.func f [] B), .c (ci i), .c (ci j)], H.set b (.cells g (cA enc D) 0)⟩ =
      some (.exit 0, ⟨[.slice b g 0 n none cp, .c (ci a), .c (ci (bs (sp0 c D a) k i j))], H.set b (.cells g (cA enc D) 0)⟩) := by
  intro k
  induction k with
  | zero =>
    intro i j hj h
    have hlt : ¬ (i : Int) < j := by omega
    rw [r168_l0]
    simp [c168_l0b, hlt, bs]
  | succ k ih =>
    intro i j hj h
    by_cases hlt : i < j
    · have hl2 : (i : Int) < j := by omega
      obtain ⟨w1, w2⟩ := half (i := i) (j := j) (by omega)
      have w3 : IntKind.i64.wrap ((i : Int) + j) = ((i + j : Nat) : Int) := by rw [Int.natCast_add]; exact wrap64 (by omega) (by omega)
      have w4 : IntKind.i64.wrap ((((i + j) / 2 : Nat) : Int) + 1) = (((i + j) / 2 + 1 : Nat) : Int) := by rw [Int.natCast_add]; exact wrap64 (by omega) (by omega)
      obtain ⟨x, hx⟩ : ∃ x, D[(i + j) / 2]? = some x := ⟨_, List.getElem?_eq_getElem (by omega)⟩
      obtain ⟨y, hy⟩ : ∃ y, D[a]? = some y := ⟨_, List.getElem?_eq_getElem (by omega)⟩
      have g1 := cA_at (enc := enc) hx
      have g2 := cA_at (enc := enc) hy
      have i1 : (((i + j) / 2 : Nat) : Int) < n := by omega
      have i2 : (a : Int) < n := by omega
      have hc := fun pos q h => hC pos q x y h
      have hp : sp0 c D a ((i + j) / 2) = ltC c x y := by unfold sp0; rw [hx, hy]
      rw [r168_l0]
      simp only [bs, if_pos hlt, hp]
      have sh := shr1 i j
      have b1 : i ≤ (i + j) / 2 := by omega
      have b2 : (i + j) / 2 < j := by omega
      rw [Int.natCast_add] at w1 w3
      generalize (i + j) / 2 = q at *
      rw [Int.natCast_add] at w4
      generalize cA enc D = DD at *
      by_cases hk : c x y < 0
      · have hl : ltC c x y = true := decide_eq_true hk
        have ih := ih (q + 1) j hj (by omega)
        push_cast at ih
        simp [c168_l0b, hl2, w1, w2, w3, w4, sh, hb, g1, g2, i1, i2, hc, hk, hl, take_set, ih]
      · have hl : ltC c x y = false := decide_eq_false hk
        have ih := ih i q (by omega) (by omega)
        simp [c168_l0b, hl2, w1, w2, w3, w4, sh, hb, g1, g2, i1, i2, hc, hk, hl, take_set, ih]
    · have hl2 : ¬ (i : Int) < j := by omega
      rw [r168_l0]
      simp [c168_l0b, hl2, bs, hlt]
theorem L168_2 (hC : CmpOk P enc f B c) (hb : b < H.length) (hg : g ≠ 0) (D : List α) (n a : Nat) (hD : D.length = n) (hn : n < 4611686018427387904) (ha : a < n) : ∀ (k i j : Nat), j ≤ n →
    j - i ≤ k → execS P (limS P) c168_l2 ⟨[.slice b g 0 n none cp, .c (ci a), .c (.func f [] B), .c (ci i), .c (ci j)], H.set b (.cells g (cA enc D) 0)⟩ =
      some (.exit 4, ⟨[.slice b g 0 n none cp, .c (ci a), .c (ci (bs (sp2 c D a) k i j))], H.set b (.cells g (cA enc D) 0)⟩) := by
  intro k
  induction k with
  | zero =>
    intro i j hj h
    have hlt : ¬ (i : Int) < j := by omega
    rw [r168_l2]
    simp [c168_l2b, hlt, bs]
  | succ k ih =>
    intro i j hj h
    by_cases hlt : i < j
    · have hl2 : (i : Int) < j := by omega
      obtain ⟨w1, w2⟩ := half (i := i) (j := j) (by omega)
      have w3 : IntKind.i64.wrap ((i : Int) + j) = ((i + j : Nat) : Int) := by rw [Int.natCast_add]; exact wrap64 (by omega) (by omega)
      have w4 : IntKind.i64.wrap ((((i + j) / 2 : Nat) : Int) + 1) = (((i + j) / 2 + 1 : Nat) : Int) := by rw [Int.natCast_add]; exact wrap64 (by omega) (by omega)
      obtain ⟨x, hx⟩ : ∃ x, D[(i + j) / 2]? = some x := ⟨_, List.getElem?_eq_getElem (by omega)⟩
      obtain ⟨y, hy⟩ : ∃ y, D[a]? = some y := ⟨_, List.getElem?_eq_getElem (by omega)⟩
      have g1 := cA_at (enc := enc) hx
      have g2 := cA_at (enc := enc) hy
      have i1 : (((i + j) / 2 : Nat) : Int) < n := by omega
      have i2 : (a : Int) < n := by omega
      have hc := fun pos q h => hC pos q y x h
      have hp : sp2 c D a ((i + j) / 2) = !ltC c y x := by unfold sp2; rw [hx, hy]
      rw [r168_l2]
      simp only [bs, if_pos hlt, hp]
      have sh := shr1 i j
      have b1 : i ≤ (i + j) / 2 := by omega
      have b2 : (i + j) / 2 < j := by omega
      rw [Int.natCast_add] at w1 w3
      generalize (i + j) / 2 = q at *
      rw [Int.natCast_add] at w4
      generalize cA enc D = DD at *
      by_cases hk : ¬ c y x < 0
      · have hl : ltC c y x = false := decide_eq_false hk
        have ih := ih (q + 1) j hj (by omega)
        push_cast at ih
        simp [c168_l2b, hl2, w1, w2, w3, w4, sh, hb, g1, g2, i1, i2, hc, hk, hl, take_set, ih]
      · have hk : c y x < 0 := by omega
        have hl : ltC c y x = true := decide_eq_true hk
        have ih := ih i q (by omega) (by omega)
        simp [c168_l2b, hl2, w1, w2, w3, w4, sh, hb, g1, g2, i1, i2, hc, hk, hl, take_set, ih]
    · have hl2 : ¬ (i : Int) < j := by omega
      rw [r168_l2]
      simp [c168_l2b, hl2, bs, hlt]
theorem L168_4 (hC : CmpOk P enc f B c) (hb : b < H.length) (hg : g ≠ 0) (D : List α) (n p : Nat) (v1 v2 v3 v4 v5 : CV) (hD : D.length = n) (hn : n < 4611686018427387904) (hp : p < 9223372036854775807) : ∀ (k i j : Nat), j ≤ n → j ≤ p + 1 → p < n + i →
    j - i ≤ k → execS P (limS P) c168_l4 ⟨[.slice b g 0 n none cp, .c v1, .c v2, .c v3, .c (.func f [] B), .c v4, .c v5, .c (ci i), .c (ci j), .c (ci p)], H.set b (.cells g (cA enc D) 0)⟩ =
      some (.exit 8, ⟨[.slice b g 0 n none cp, .c v1, .c v2, .c v3, .c (.func f [] B), .c v4, .c v5, .c (ci (bs (sp4 c D p) k i j))], H.set b (.cells g (cA enc D) 0)⟩) := by
  intro k
  induction k with
  | zero =>
    intro i j hj hj2 hpi h
    have hlt : ¬ (i : Int) < j := by omega
    rw [r168_l4]
    simp [c168_l4b, hlt, bs]
  | succ k ih =>
    intro i j hj hj2 hpi h
    by_cases hlt : i < j
    · have hl2 : (i : Int) < j := by omega
      obtain ⟨w1, w2⟩ := half (i := i) (j := j) (by omega)
      have w3 : IntKind.i64.wrap ((i : Int) + j) = ((i + j : Nat) : Int) := by rw [Int.natCast_add]; exact wrap64 (by omega) (by omega)
      have w4 : IntKind.i64.wrap ((((i + j) / 2 : Nat) : Int) + 1) = (((i + j) / 2 + 1 : Nat) : Int) := by rw [Int.natCast_add]; exact wrap64 (by omega) (by omega)
      have w5 : IntKind.i64.wrap ((p : Int) - ((i + j) / 2 : Nat)) = ((p - (i + j) / 2 : Nat) : Int) := by rw [Int.ofNat_sub (by omega)]; exact wrap64 (by omega) (by omega)
      obtain ⟨x, hx⟩ : ∃ x, D[p - (i + j) / 2]? = some x := ⟨_, List.getElem?_eq_getElem (by omega)⟩
      obtain ⟨y, hy⟩ : ∃ y, D[(i + j) / 2]? = some y := ⟨_, List.getElem?_eq_getElem (by omega)⟩
      have g1 := cA_at (enc := enc) hx
      have g2 := cA_at (enc := enc) hy
      have i1 : (((i + j) / 2 : Nat) : Int) < n := by omega
      have i2 : ((p - (i + j) / 2 : Nat) : Int) < n := by omega
      have hc := fun pos q h => hC pos q x y h
      have hp4 : sp4 c D p ((i + j) / 2) = !ltC c x y := by unfold sp4; rw [hx, hy]
      rw [r168_l4]
      simp only [bs, if_pos hlt, hp4]
      have sh := shr1 i j
      have b1 : i ≤ (i + j) / 2 := by omega
      have b2 : (i + j) / 2 < j := by omega
      rw [Int.natCast_add] at w1 w3
      generalize (i + j) / 2 = q at *
      rw [Int.natCast_add] at w4
      generalize p - q = pq at *
      generalize cA enc D = DD at *
      by_cases hk : c x y < 0
      · have hl : ltC c x y = true := decide_eq_true hk
        have ih := ih i q (by omega) (by omega) (by omega) (by omega)
        simp [c168_l4b, hl2, w1, w2, w3, w4, w5, sh, hb, g1, g2, i1, i2, hc, hk, hl, take_set, ih]
      · have hl : ltC c x y = false := decide_eq_false hk
        have ih := ih (q + 1) j hj hj2 (by omega) (by omega)
        push_cast at ih
        simp [c168_l4b, hl2, w1, w2, w3, w4, w5, sh, hb, g1, g2, i1, i2, hc, hk, hl, take_set, ih]
    · have hl2 : ¬ (i : Int) < j := by omega
      rw [r168_l4]
      simp [c168_l4b, hl2, bs, hlt]

theorem L168_1 (hE : CellOk enc) (hb : b < H.length) (hg : g ≠ 0) (T : List α) (u : α) (n i : Nat) (hn : n < 4611686018427387904) : ∀ (V A : List α), i = A.length + 1 + V.length → n = i + T.length →
    execS P (limS P) c168_l1 ⟨[.slice b g 0 n none cp, .c (ci i), .c (ci A.length)], H.set b (.cells g (cA enc (A ++ u :: (V ++ T))) 0)⟩ = some (.exit 2, ⟨[], H.set b (.cells g (cA enc (A ++ (V ++ u :: T))) 0)⟩) := by
  intro V
  induction V with
  | nil =>
    intro A h1 h2
    have w1 : IntKind.i64.wrap ((i : Int) - 1) = A.length := by rw [show ((i : Int) - 1) = A.length from by simp at h1; omega]; exact wrap64 (by omega) (by omega)
    rw [r168_l1]
    simp [c168_l1b, w1]
  | cons v V ih =>
    intro A h1 h2
    have ih := ih (A ++ [v]) (by simp at h1 ⊢; omega) h2
    simp at h1
    have w1 : IntKind.i64.wrap ((i : Int) - 1) = (i : Int) - 1 := wrap64 (by omega) (by omega)
    have w2 : IntKind.i64.wrap ((A.length : Int) + 1) = (A.length : Int) + 1 := wrap64 (by omega) (by omega)
    have c1 : (A.length : Int) < (i : Int) - 1 := by omega
    have i1 : (A.length : Int) < n := by omega
    have i2 : (A.length : Int) + 1 < n := by omega
    have j2 : 0 ≤ (A.length : Int) + 1 := by omega
    have t2 : ((A.length : Int) + 1).toNat = A.length + 1 := by omega
    have e0 : A ++ u :: (v :: V ++ T) = A ++ u :: (v :: (V ++ T)) := rfl
    have e1 : A ++ u :: (v :: (V ++ T)) = (A ++ [u]) ++ v :: (V ++ T) := by simp
    have e3 : A ++ v :: (v :: (V ++ T)) = (A ++ [v]) ++ v :: (V ++ T) := by simp
    obtain ⟨q1, g1⟩ := cA_get (enc := enc) (l := A ++ u :: (v :: (V ++ T))) (k := A.length) rfl rfl
    obtain ⟨q2, g2⟩ := cA_get (enc := enc) (l := A ++ u :: (v :: (V ++ T))) (k := A.length + 1) e1 (by simp)
    have g1 := List.getElem?_eq_some_iff.2 ⟨q1, g1⟩
    have g2 := List.getElem?_eq_some_iff.2 ⟨q2, g2⟩
    have s1 : (cA enc (A ++ u :: (v :: (V ++ T)))).set A.length (.c (enc v)) = cA enc (A ++ v :: (v :: (V ++ T))) := cA_set rfl
    have s2 : (cA enc (A ++ v :: (v :: (V ++ T)))).set (A.length + 1) (.c (enc u)) = cA enc ((A ++ [v]) ++ u :: (V ++ T)) := by rw [e3]; exact cA_set (by simp)
    have l1 : (cA enc (A ++ u :: (v :: (V ++ T)))).length = n := by rw [cA_length]; simp; omega
    have l2 : (cA enc (A ++ v :: (v :: (V ++ T)))).length = n := by rw [cA_length]; simp; omega
    have e4 : A ++ (v :: V ++ u :: T) = A ++ [v] ++ (V ++ u :: T) := by simp
    have m1 := hE.cells
    simp only [CV.cells] at m1
    have m2 := hE.flat
    have k1 : A.length + 1 ≤ n := by omega
    have k2 : A.length + 1 + 1 ≤ n := by omega
    rw [e0, e4, r168_l1]
    generalize cA enc (A ++ u :: (v :: (V ++ T))) = D1 at *
    generalize cA enc (A ++ v :: (v :: (V ++ T))) = D2 at *
    generalize cA enc ((A ++ [v]) ++ u :: (V ++ T)) = D3 at *
    generalize cA enc ((A ++ [v]) ++ (V ++ u :: T)) = D4 at *
    simp at ih
    simp [c168_l1b, w1, w2, c1, i1, i2, j2, t2, g1, g2, s1, s2, l1, l2, m1, m2, hb, k1, k2, take_set, ih]

theorem L168_3 (hE : CellOk enc) (hb : b < H.length) (hg : g ≠ 0) (A : List α) (v : α) (n : Nat) (hn : n < 4611686018427387904) : ∀ (L Q : List α), n = A.length + L.length + 1 + Q.length →
    execS P (limS P) c168_l3 ⟨[.slice b g 0 n none cp, .c (ci A.length), .c (ci (A.length + L.length))], H.set b (.cells g (cA enc (A ++ L.reverse ++ v :: Q)) 0)⟩ = some (.exit 6, ⟨[], H.set b (.cells g (cA enc (A ++ v :: (L.reverse ++ Q))) 0)⟩) := by
  intro L
  induction L with
  | nil =>
    intro Q h
    rw [r168_l3]
    simp [c168_l3b]
  | cons u L ih =>
    intro Q h
    have ih := ih (u :: Q) (by simp at h ⊢; omega)
    simp at h
    have w1 : IntKind.i64.wrap ((A.length : Int) + (L.length + 1) - 1) = (A.length : Int) + L.length := by
      rw [show (A.length : Int) + (L.length + 1) - 1 = (A.length : Int) + L.length from by omega]; exact wrap64 (by omega) (by omega)
    have c1 : (A.length : Int) < (A.length : Int) + (L.length + 1) := by omega
    have i1 : (A.length : Int) + L.length < n := by omega
    have i2 : (A.length : Int) + (L.length + 1) < n := by omega
    have j1 : 0 ≤ (A.length : Int) + L.length := by omega
    have j2 : 0 ≤ (A.length : Int) + (L.length + 1) := by omega
    have t1 : ((A.length : Int) + L.length).toNat = A.length + L.length := by omega
    have t2 : ((A.length : Int) + (L.length + 1)).toNat = A.length + (L.length + 1) := by omega
    have e0 : A ++ (u :: L).reverse ++ v :: Q = (A ++ L.reverse) ++ u :: (v :: Q) := by simp
    have e1 : (A ++ L.reverse) ++ u :: (v :: Q) = (A ++ L.reverse ++ [u]) ++ v :: Q := by simp
    have e2 : (A ++ L.reverse) ++ u :: (u :: Q) = (A ++ L.reverse ++ [u]) ++ u :: Q := by simp
    have e4 : A ++ v :: ((u :: L).reverse ++ Q) = A ++ v :: (L.reverse ++ u :: Q) := by simp
    obtain ⟨q1, g1⟩ := cA_get (enc := enc) (l := (A ++ L.reverse) ++ u :: (v :: Q)) (k := A.length + L.length) rfl (by simp)
    obtain ⟨q2, g2⟩ := cA_get (enc := enc) (l := (A ++ L.reverse) ++ u :: (v :: Q)) (k := A.length + (L.length + 1)) e1 (by simp)
    have g1 := List.getElem?_eq_some_iff.2 ⟨q1, g1⟩
    have g2 := List.getElem?_eq_some_iff.2 ⟨q2, g2⟩
    have s1 : (cA enc ((A ++ L.reverse) ++ u :: (v :: Q))).set (A.length + (L.length + 1)) (.c (enc u)) = cA enc ((A ++ L.reverse) ++ u :: (u :: Q)) := by rw [e1, cA_set (by simp), e2]
    have s2 : (cA enc ((A ++ L.reverse) ++ u :: (u :: Q))).set (A.length + L.length) (.c (enc v)) = cA enc ((A ++ L.reverse) ++ v :: (u :: Q)) := cA_set (by simp)
    have l1 : (cA enc ((A ++ L.reverse) ++ u :: (v :: Q))).length = n := by rw [cA_length]; simp; omega
    have l2 : (cA enc ((A ++ L.reverse) ++ u :: (u :: Q))).length = n := by rw [cA_length]; simp; omega
    have m1 := hE.cells
    simp only [CV.cells] at m1
    have m2 := hE.flat
    have k1 : A.length + L.length + 1 ≤ n := by omega
    have k2 : A.length + (L.length + 1) + 1 ≤ n := by omega
    rw [e0, e4, r168_l3]
    generalize cA enc ((A ++ L.reverse) ++ u :: (v :: Q)) = D1 at *
    generalize cA enc ((A ++ L.reverse) ++ u :: (u :: Q)) = D2 at *
    generalize cA enc ((A ++ L.reverse) ++ v :: (u :: Q)) = D3 at *
    generalize cA enc (A ++ v :: (L.reverse ++ u :: Q)) = D4 at *
    simp [c168_l3b, w1, c1, i1, i2, j1, j2, t1, t2, g1, g2, s1, s2, l1, l2, m1, m2, hb, k1, k2, take_set, ih]
end LM.G6

namespace LM.G6
open Go LM
variable {P : Nat → Option SFunc} [Has P]
variable {α : Type} {enc : α → CV} {f : Nat} {B : List CV} {c : α → α → Int} {H : Heap} {b g : Nat} {cp : Option Nat}

theorem get_at {l P R : List α} {x : α} {k : Nat} (hl : l = P ++ x :: R) (h : k = P.length) : l[k]? = some x := by
  subst hl
  subst h
  simp
theorem last_of {l : List α} (h : l ≠ []) : ∃ p x, l = p ++ [x] := ⟨l.dropLast, l.getLast h, (List.dropLast_concat_getLast h).symm⟩

/-- All of the first list's end are greater than the second one's beginning. -/
theorem cut_lt {lt : α → α → Bool} (h : Swo lt) {V1 U2 : List α} (hv : Srt lt V1) (hu : Srt lt U2) (hb : V1 = [] ∨ U2 = [] ∨ ∃ V y x U, V1 = V ++ [y] ∧ U2 = x :: U ∧ lt y x = true) : ∀ v ∈ V1, ∀ u ∈ U2, lt v u = true := by
  rcases hb with rfl | rfl | ⟨V, y, x, U, rfl, rfl, hyx⟩
  · simp
  · simp
  · intro v hv1 u hu1
    have h1 : lt v x = true := by
      rcases List.mem_append.1 hv1 with q | q
      · exact h.lel ((List.pairwise_append.1 hv).2.2 v q y (by simp)) hyx
      · simp at q; rw [q]; exact hyx
    rcases List.mem_cons.1 hu1 with rfl | q
    · exact h1
    · exact h.ltle h1 ((List.pairwise_cons.1 hu).1 u q)
theorem cut_ge {lt : α → α → Bool} (h : Swo lt) {U1 V2 : List α} (hu : Srt lt U1) (hv : Srt lt V2) (hb : U1 = [] ∨ V2 = [] ∨ ∃ U x y V, U1 = U ++ [x] ∧ V2 = y :: V ∧ lt y x = false) : ∀ u ∈ U1, ∀ v ∈ V2, lt v u = false := by
  rcases hb with rfl | rfl | ⟨U, x, y, V, rfl, rfl, hyx⟩
  · simp
  · simp
  · intro u hu1 v hv1
    have h1 : lt v x = false := by
      rcases List.mem_cons.1 hv1 with rfl | q
      · exact hyx
      · exact h.lele hyx ((List.pairwise_cons.1 hv).1 v q)
    rcases List.mem_append.1 hu1 with q | q
    · exact h.lele ((List.pairwise_append.1 hu).2.2 u q x (by simp)) h1
    · simp at q; rw [q]; exact h1

theorem R168 (hE : CellOk enc) (hb : b < H.length) (hg : g ≠ 0) (A U1 U2 V1 V2 T : List α) (F : CV) (n a m bb mid s e : Nat) (hn : n < 4611686018427387904) (hl : n = A.length + U1.length + U2.length + V1.length + V2.length + T.length) (ha : a = A.length) (hs : s = A.length + U1.length) (hm : m = s + U2.length) (he : e = m + V1.length) :
    execS P (limS P) c168_n40 ⟨[.slice b g 0 n none cp, .c (ci a), .c (ci m), .c (ci bb), .c F, .c (ci mid), .c (ci s), .c (ci e)], H.set b (.cells g (cA enc ((A ++ U1) ++ (U2 ++ (V1 ++ (V2 ++ T))))) 0)⟩ =
      some (.normal, ⟨[.slice b g 0 n none cp, .c (ci a), .c (ci bb), .c F, .c (ci mid), .c (ci s), .c (ci e)], H.set b (.cells g (cA enc ((A ++ U1) ++ (V1 ++ (U2 ++ (V2 ++ T))))) 0)⟩) := by
  by_cases h1 : U2 = []
  · subst h1
    have c1 : ¬ (s : Int) < m := by simp at hm; omega
    simp [c1]
  · by_cases h2 : V1 = []
    · subst h2
      have c2 : ¬ (m : Int) < e := by simp at he; omega
      by_cases c1 : (s : Int) < m <;> simp [c1, c2]
    · have z1 : U2.length ≠ 0 := fun q => h1 (List.eq_nil_of_length_eq_zero q)
      have z2 : V1.length ≠ 0 := fun q => h2 (List.eq_nil_of_length_eq_zero q)
      have hr := S172 (P := P) (cp := cp) hE hb hg (A ++ U1) U2 V1 (V2 ++ T) F n s m e hn h1 h2 (by simp; omega) (by simp; omega) (by simp; omega) (by simp; omega)
      have c1 : (s : Int) < m := by omega
      have c2 : (m : Int) < e := by omega
      simp only [List.append_assoc] at hr ⊢
      simp [c1, c2, hr, frzFuncs_nil, frzFuncs_c, frzFuncs_slice]

/-- What a merge of two parts does. -/
def Merges (P : Nat → Option SFunc) (enc : α → CV) (f : Nat) (B : List CV) (c : α → α → Int) (H : Heap) (b g : Nat) (cp : Option Nat) (n : Nat) (k : Nat) : Prop :=
  ∀ (A U V T : List α) (a m bb : Nat), U.length + V.length ≤ k → U ≠ [] → V ≠ [] → Srt (ltC c) U → Srt (ltC c) V → a = A.length → m = a + U.length → bb = m + V.length → n = bb + T.length →
    sfn P 168 [.slice b g 0 n none cp, .c (ci a), .c (ci m), .c (ci bb), .c (.func f [] B)] (H.set b (.cells g (cA enc (A ++ (U ++ (V ++ T)))) 0)) = some (.c (.tuple []), H.set b (.cells g (cA enc (A ++ (mrg (ltC c) U V ++ T))) 0))

theorem M168a {k n : Nat} (hM : Merges P enc f B c H b g cp n k) (A U1 V1 T : List α) (a bb mid s e : Nat) (hk : U1.length + V1.length ≤ k) (hu : Srt (ltC c) U1) (hv : Srt (ltC c) V1) (ha : a = A.length) (hs : s = a + U1.length) (hm : mid = s + V1.length) (hn : n = mid + T.length) :
    execS P (limS P) c168_n42 ⟨[.slice b g 0 n none cp, .c (ci a), .c (ci bb), .c (.func f [] B), .c (ci mid), .c (ci s), .c (ci e)], H.set b (.cells g (cA enc (A ++ (U1 ++ (V1 ++ T)))) 0)⟩ =
      some (.normal, ⟨[.slice b g 0 n none cp, .c (ci bb), .c (.func f [] B), .c (ci mid), .c (ci e)], H.set b (.cells g (cA enc (A ++ (mrg (ltC c) U1 V1 ++ T))) 0)⟩) := by
  by_cases h1 : U1 = []
  · subst h1
    have c1 : ¬ (a : Int) < s := by simp at hs; omega
    simp [c1]
  · by_cases h2 : V1 = []
    · subst h2
      have c2 : ¬ (s : Int) < mid := by simp at hm; omega
      by_cases c1 : (a : Int) < s <;> simp [c1, c2]
    · have z1 : U1.length ≠ 0 := fun q => h1 (List.eq_nil_of_length_eq_zero q)
      have z2 : V1.length ≠ 0 := fun q => h2 (List.eq_nil_of_length_eq_zero q)
      have hr := hM A U1 V1 T a s mid hk h1 h2 hu hv ha hs hm hn
      have c1 : (a : Int) < s := by omega
      have c2 : (s : Int) < mid := by omega
      simp [c1, c2, hr, frzFuncs_nil, frzFuncs_c, frzFuncs_slice]
theorem M168b {k n : Nat} (hM : Merges P enc f B c H b g cp n k) (A U2 V2 T : List α) (bb mid e : Nat) (hk : U2.length + V2.length ≤ k) (hu : Srt (ltC c) U2) (hv : Srt (ltC c) V2) (ha : mid = A.length) (hs : e = mid + U2.length) (hm : bb = e + V2.length) (hn : n = bb + T.length) :
    execS P (limS P) c168_n43 ⟨[.slice b g 0 n none cp, .c (ci bb), .c (.func f [] B), .c (ci mid), .c (ci e)], H.set b (.cells g (cA enc (A ++ (U2 ++ (V2 ++ T)))) 0)⟩ =
      some (.normal, ⟨[], H.set b (.cells g (cA enc (A ++ (mrg (ltC c) U2 V2 ++ T))) 0)⟩) := by
  by_cases h1 : U2 = []
  · subst h1
    have c1 : ¬ (mid : Int) < e := by simp at hs; omega
    simp [c168_n43, c1]
  · by_cases h2 : V2 = []
    · subst h2
      have c2 : ¬ (e : Int) < bb := by simp at hm; omega
      by_cases c1 : (mid : Int) < e <;> simp [c168_n43, c1, c2]
    · have z1 : U2.length ≠ 0 := fun q => h1 (List.eq_nil_of_length_eq_zero q)
      have z2 : V2.length ≠ 0 := fun q => h2 (List.eq_nil_of_length_eq_zero q)
      have hr := hM A U2 V2 T mid e bb hk h1 h2 hu hv ha hs hm hn
      have c1 : (mid : Int) < e := by omega
      have c2 : (e : Int) < bb := by omega
      simp [c168_n43, c1, c2, hr, frzFuncs_nil, frzFuncs_c, frzFuncs_slice]
end LM.G6

namespace LM.G6
open Go LM
variable {P : Nat → Option SFunc} [Has P]
variable {α : Type} {enc : α → CV} {f : Nat} {B : List CV} {c : α → α → Int} {H : Heap} {b g : Nat} {cp : Option Nat}

theorem one168 (hE : CellOk enc) (hS : Swo (ltC c)) (hC : CmpOk P enc f B c) (hb : b < H.length) (hg : g ≠ 0) (A : List α) (u : α) (V T : List α) (n a m bb : Nat) (hn : n < 4611686018427387904) (hv : Srt (ltC c) V) (ha : a = A.length) (hm : m = a + 1) (hbb : bb = m + V.length) (hl : n = bb + T.length) :
    sfn P 168 [.slice b g 0 n none cp, .c (ci a), .c (ci m), .c (ci bb), .c (.func f [] B)] (H.set b (.cells g (cA enc (A ++ ([u] ++ (V ++ T)))) 0)) = some (.c (.tuple []), H.set b (.cells g (cA enc (A ++ (mrg (ltC c) [u] V ++ T))) 0)) := by
  have h0 := L168_0 (P := P) (cp := cp) (enc := enc) hC hb hg (A ++ ([u] ++ (V ++ T))) n a (by simp; omega) hn (by omega) (bb - m) m bb (by omega) (by omega)
  have hspec := bs_spec (sp0 c (A ++ ([u] ++ (V ++ T))) a) m bb (bb - m) m bb (Nat.le_refl _) (by omega) (.inl rfl) (.inl rfl)
  generalize bs (sp0 c (A ++ ([u] ++ (V ++ T))) a) (bb - m) m bb = s at *
  obtain ⟨b1, b2, b3, b4⟩ := hspec
  obtain ⟨V1, V2, rfl, hV1⟩ := split_at (l := V) (k := s - m) (by omega)
  have hv' := List.pairwise_append.1 hv
  have eD : A ++ ([u] ++ ((V1 ++ V2) ++ T)) = (A ++ u :: V1) ++ (V2 ++ T) := by simp
  have ga : (A ++ ([u] ++ ((V1 ++ V2) ++ T)))[a]? = some u := get_at (P := A) (R := V1 ++ V2 ++ T) (by simp) ha
  have q1 : ∀ v ∈ V1, ∀ w ∈ [u], ltC c v w = true := by
    refine cut_lt hS hv'.1 (by simp [Srt]) ?_
    by_cases z : V1 = []
    · exact .inl z
    · obtain ⟨W, w, rfl⟩ := last_of z
      refine .inr (.inr ⟨W, w, u, [], rfl, rfl, ?_⟩)
      have hW : s - 1 = (A ++ u :: W).length := by simp at hV1 ⊢; omega
      have gw : (A ++ ([u] ++ ((W ++ [w] ++ V2) ++ T)))[s - 1]? = some w := get_at (P := A ++ u :: W) (R := V2 ++ T) (by simp) hW
      rcases b3 with b3 | b3
      · simp at hV1; omega
      · unfold sp0 at b3
        rw [gw, ga] at b3
        exact b3
  have q2 : ∀ w ∈ [u], ∀ v ∈ V2, ltC c v w = false := by
    refine cut_ge hS (by simp [Srt]) hv'.2.1 ?_
    cases V2 with
    | nil => exact .inr (.inl rfl)
    | cons y V2 =>
      refine .inr (.inr ⟨[], u, y, V2, rfl, rfl, ?_⟩)
      have gw : (A ++ ([u] ++ ((V1 ++ y :: V2) ++ T)))[s]? = some y := get_at (P := A ++ u :: V1) (R := V2 ++ T) (by simp) (by simp; omega)
      rcases b4 with b4 | b4
      · simp at hbb hV1; omega
      · unfold sp0 at b4
        rw [gw, ga] at b4
        exact b4
  have hmr : mrg (ltC c) [u] (V1 ++ V2) = V1 ++ u :: V2 := by
    have h1 := mrg_split (lt := ltC c) [] V1 [u] V2 q1 (by simp)
    have h2 := mrg_before (lt := ltC c) (U := [u]) (V := V2) q2
    rw [h2] at h1
    simpa using h1
  have h1 := L168_1 (P := P) (cp := cp) hE hb hg (V2 ++ T) u n s hn V1 A (by omega) (by simp at hbb ⊢; omega)
  have w1 : IntKind.i64.wrap ((m : Int) - a) = 1 := by rw [show ((m : Int) - a) = 1 from by omega]; rfl
  have e1 : A ++ u :: (V1 ++ (V2 ++ T)) = A ++ ([u] ++ ((V1 ++ V2) ++ T)) := by simp
  have e2 : A ++ (V1 ++ u :: (V2 ++ T)) = A ++ ((V1 ++ u :: V2) ++ T) := by simp
  rw [e1, e2, ← ha] at h1
  rw [hmr, u168]
  generalize cA enc (A ++ ([u] ++ ((V1 ++ V2) ++ T))) = D at *
  generalize cA enc (A ++ ((V1 ++ u :: V2) ++ T)) = D' at *
  simp [c168, c168_n20, w1, h0, h1]

theorem last168 (hE : CellOk enc) (hS : Swo (ltC c)) (hC : CmpOk P enc f B c) (hb : b < H.length) (hg : g ≠ 0) (A U : List α) (v : α) (T : List α) (n a m bb : Nat) (hn : n < 4611686018427387904) (hu : Srt (ltC c) U) (hU : U.length ≠ 1) (ha : a = A.length) (hm : m = a + U.length) (hbb : bb = m + 1) (hl : n = bb + T.length) :
    sfn P 168 [.slice b g 0 n none cp, .c (ci a), .c (ci m), .c (ci bb), .c (.func f [] B)] (H.set b (.cells g (cA enc (A ++ (U ++ ([v] ++ T)))) 0)) = some (.c (.tuple []), H.set b (.cells g (cA enc (A ++ (mrg (ltC c) U [v] ++ T))) 0)) := by
  have h0 := L168_2 (P := P) (cp := cp) (enc := enc) hC hb hg (A ++ (U ++ ([v] ++ T))) n m (by simp; omega) hn (by omega) (m - a) a m (by omega) (by omega)
  have hspec := bs_spec (sp2 c (A ++ (U ++ ([v] ++ T))) m) a m (m - a) a m (Nat.le_refl _) (by omega) (.inl rfl) (.inl rfl)
  generalize bs (sp2 c (A ++ (U ++ ([v] ++ T))) m) (m - a) a m = s at *
  obtain ⟨b1, b2, b3, b4⟩ := hspec
  obtain ⟨U1, U2, rfl, hU1⟩ := split_at (l := U) (k := s - a) (by omega)
  have hu' := List.pairwise_append.1 hu
  simp only [List.length_append] at hU hm
  have gm : (A ++ ((U1 ++ U2) ++ ([v] ++ T)))[m]? = some v := get_at (P := A ++ (U1 ++ U2)) (R := T) (by simp) (by simp; omega)
  have q1 : ∀ w ∈ [v], ∀ u ∈ U2, ltC c w u = true := by
    refine cut_lt hS (by simp [Srt]) hu'.2.1 ?_
    cases U2 with
    | nil => exact .inr (.inl rfl)
    | cons x U2 =>
      refine .inr (.inr ⟨[], v, x, U2, rfl, rfl, ?_⟩)
      have gw : (A ++ ((U1 ++ x :: U2) ++ ([v] ++ T)))[s]? = some x := get_at (P := A ++ U1) (R := U2 ++ ([v] ++ T)) (by simp) (by simp; omega)
      rcases b4 with b4 | b4
      · simp at hm; omega
      · unfold sp2 at b4
        rw [gw, gm] at b4
        simpa using b4
  have q2 : ∀ u ∈ U1, ∀ w ∈ [v], ltC c w u = false := by
    refine cut_ge hS hu'.1 (by simp [Srt]) ?_
    by_cases z : U1 = []
    · exact .inl z
    · obtain ⟨W, w, rfl⟩ := last_of z
      refine .inr (.inr ⟨W, w, v, [], rfl, rfl, ?_⟩)
      have hW : s - 1 = (A ++ W).length := by simp at hU1 ⊢; omega
      have gw : (A ++ ((W ++ [w] ++ U2) ++ ([v] ++ T)))[s - 1]? = some w := get_at (P := A ++ W) (R := U2 ++ ([v] ++ T)) (by simp) hW
      rcases b3 with b3 | b3
      · simp at hU1; omega
      · unfold sp2 at b3
        rw [gw, gm] at b3
        simpa using b3
  have hmr : mrg (ltC c) (U1 ++ U2) [v] = U1 ++ v :: U2 := by
    have h1 := mrg_split (lt := ltC c) U1 [] U2 [v] (by simp) q2
    have h2 := mrg_behind (lt := ltC c) (U := U2) (V := [v]) q1
    rw [h2] at h1
    simpa using h1
  have h1 := L168_3 (P := P) (cp := cp) hE hb hg (A ++ U1) v n hn U2.reverse T (by simp; omega)
  have w1 : IntKind.i64.wrap ((m : Int) - a) = (m : Int) - a := wrap64 (by omega) (by omega)
  have n1 : ¬ ((m : Int) - a = 1) := by omega
  have w2 : IntKind.i64.wrap ((bb : Int) - m) = 1 := by rw [show ((bb : Int) - m) = 1 from by omega]; rfl
  have e1 : A ++ U1 ++ U2.reverse.reverse ++ v :: T = A ++ ((U1 ++ U2) ++ ([v] ++ T)) := by simp
  have e2 : A ++ U1 ++ v :: (U2.reverse.reverse ++ T) = A ++ ((U1 ++ v :: U2) ++ T) := by simp
  have e3 : (A ++ U1).length = s := by simp; omega
  have e4 : (s : Int) + U2.length = m := by omega
  rw [e1, e2, e3, List.length_reverse, e4] at h1
  rw [hmr, u168]
  generalize cA enc (A ++ ((U1 ++ U2) ++ ([v] ++ T))) = D at *
  generalize cA enc (A ++ ((U1 ++ v :: U2) ++ T)) = D' at *
  simp [c168, c168_n20, c168_n22, w1, w2, n1, h0, h1]
end LM.G6

namespace LM.G6
open Go LM
variable {P : Nat → Option SFunc} [Has P]
variable {α : Type} {enc : α → CV} {f : Nat} {B : List CV} {c : α → α → Int} {H : Heap} {b g : Nat} {cp : Option Nat}

theorem ar168 {a m bb mid s e : Nat} (hmid : mid = (a + bb) / 2) (h1 : a + 2 ≤ m) (h2 : m + 2 ≤ bb) (h3 : bb < 4611686018427387904) (h4 : s ≤ mid + m) (he : e = mid + m - s) :
    IntKind.i64.wrap ((m : Int) - a) = (m : Int) - a ∧ ¬ ((m : Int) - a = 1) ∧ IntKind.i64.wrap ((bb : Int) - m) = (bb : Int) - m ∧ ¬ ((bb : Int) - m = 1) ∧ IntKind.u64.wrap ((a : Int) + bb) = (a : Int) + bb ∧ IntKind.i64.wrap (mid : Int) = mid ∧ IntKind.i64.wrap ((a : Int) + bb) = (a : Int) + bb ∧
    IntKind.i64.wrap ((mid : Int) + m) = (mid : Int) + m ∧ IntKind.i64.wrap ((mid : Int) + m - 1) = ((mid + m - 1 : Nat) : Int) ∧ IntKind.i64.wrap ((mid : Int) + m - s) = e ∧ IntKind.i64.wrap ((mid : Int) + m - bb) = (mid : Int) + m - bb := by
  obtain ⟨w3, w4⟩ := half (i := a) (j := bb) (by omega)
  rw [← hmid] at w4
  rw [Int.natCast_add] at w3
  refine ⟨wrap64 (by omega) (by omega), by omega, wrap64 (by omega) (by omega), by omega, w3, w4, wrap64 (by omega) (by omega), wrap64 (by omega) (by omega), ?_, ?_, wrap64 (by omega) (by omega)⟩
  · rw [show (mid : Int) + m - 1 = ((mid + m - 1 : Nat) : Int) from by omega]; exact wrap64 (by omega) (by omega)
  · rw [show (mid : Int) + m - s = e from by omega]; exact wrap64 (by omega) (by omega)

set_option maxHeartbeats 2000000 in
theorem gen168 (hE : CellOk enc) (hS : Swo (ltC c)) (hC : CmpOk P enc f B c) (hb : b < H.length) (hg : g ≠ 0) (k n : Nat) (hn : n < 4611686018427387904) (hM : Merges P enc f B c H b g cp n k) (A U V T : List α) (a m bb : Nat) (hk : U.length + V.length ≤ k + 1) (hu : Srt (ltC c) U) (hv : Srt (ltC c) V) (hU : 2 ≤ U.length) (hV : 2 ≤ V.length) (ha : a = A.length) (hm : m = a + U.length) (hbb : bb = m + V.length) (hl : n = bb + T.length) :
    sfn P 168 [.slice b g 0 n none cp, .c (ci a), .c (ci m), .c (ci bb), .c (.func f [] B)] (H.set b (.cells g (cA enc (A ++ (U ++ (V ++ T)))) 0)) = some (.c (.tuple []), H.set b (.cells g (cA enc (A ++ (mrg (ltC c) U V ++ T))) 0)) := by
  obtain ⟨mid, hmid⟩ : ∃ mid, mid = (a + bb) / 2 := ⟨_, rfl⟩
  obtain ⟨st, hst⟩ : ∃ st, st = if m > mid then mid + m - bb else a := ⟨_, rfl⟩
  obtain ⟨r, hr⟩ : ∃ r, r = if m > mid then mid else m := ⟨_, rfl⟩
  have hb1 : st ≤ r ∧ r ≤ n ∧ r ≤ mid + m - 1 + 1 ∧ mid + m - 1 < n + st ∧ a ≤ st ∧ r ≤ m ∧ r ≤ mid ∧ mid + m ≤ bb + st ∧ m ≤ mid + m - r := by
    rw [hst, hr]; split <;> omega
  have h0 := fun v1 v2 v3 v4 v5 => L168_4 (P := P) (cp := cp) (enc := enc) hC hb hg (A ++ (U ++ (V ++ T))) n (mid + m - 1) v1 v2 v3 v4 v5 (by simp; omega) hn (by omega) (r - st) st r hb1.2.1 hb1.2.2.1 hb1.2.2.2.1 (Nat.le_refl _)
  have hspec := bs_spec (sp4 c (A ++ (U ++ (V ++ T))) (mid + m - 1)) st r (r - st) st r (Nat.le_refl _) hb1.1 (.inl rfl) (.inl rfl)
  generalize bs (sp4 c (A ++ (U ++ (V ++ T))) (mid + m - 1)) (r - st) st r = s at *
  obtain ⟨b1, b2, b3, b4⟩ := hspec
  obtain ⟨e, he⟩ : ∃ e, e = mid + m - s := ⟨_, rfl⟩
  obtain ⟨U1, U2, rfl, hU1⟩ := split_at (l := U) (k := s - a) (by omega)
  obtain ⟨V1, V2, rfl, hV1⟩ := split_at (l := V) (k := e - m) (by omega)
  have hu' := List.pairwise_append.1 hu
  have hv' := List.pairwise_append.1 hv
  simp only [List.length_append] at hU hV hm hbb hk
  have q1 : ∀ v ∈ V1, ∀ u ∈ U2, ltC c v u = true := by
    refine cut_lt hS hv'.1 hu'.2.1 ?_
    cases U2 with
    | nil => exact .inr (.inl rfl)
    | cons x U2 =>
      by_cases z : V1 = []
      · exact .inl z
      · obtain ⟨W, w, rfl⟩ := last_of z
        refine .inr (.inr ⟨W, w, x, U2, rfl, rfl, ?_⟩)
        simp only [List.length_append, List.length_cons, List.length_nil] at hV1 hm hbb
        have g1 : (A ++ ((U1 ++ x :: U2) ++ ((W ++ [w] ++ V2) ++ T)))[s]? = some x := get_at (P := A ++ U1) (R := U2 ++ ((W ++ [w] ++ V2) ++ T)) (by simp) (by simp; omega)
        have g2 : (A ++ ((U1 ++ x :: U2) ++ ((W ++ [w] ++ V2) ++ T)))[mid + m - 1 - s]? = some w := get_at (P := A ++ ((U1 ++ x :: U2) ++ W)) (R := V2 ++ T) (by simp) (by simp; omega)
        rcases b4 with b4 | b4
        · rw [hr] at b4; split at b4 <;> omega
        · unfold sp4 at b4
          rw [g1, g2] at b4
          simpa using b4
  have q2 : ∀ u ∈ U1, ∀ v ∈ V2, ltC c v u = false := by
    refine cut_ge hS hu'.1 hv'.2.1 ?_
    cases V2 with
    | nil => exact .inr (.inl rfl)
    | cons y V2 =>
      by_cases z : U1 = []
      · exact .inl z
      · obtain ⟨W, w, rfl⟩ := last_of z
        refine .inr (.inr ⟨W, w, y, V2, rfl, rfl, ?_⟩)
        simp only [List.length_append, List.length_cons, List.length_nil] at hU1 hm hbb
        have g1 : (A ++ ((W ++ [w] ++ U2) ++ ((V1 ++ y :: V2) ++ T)))[s - 1]? = some w := get_at (P := A ++ W) (R := U2 ++ ((V1 ++ y :: V2) ++ T)) (by simp) (by simp; omega)
        have g2 : (A ++ ((W ++ [w] ++ U2) ++ ((V1 ++ y :: V2) ++ T)))[mid + m - 1 - (s - 1)]? = some y := get_at (P := A ++ ((W ++ [w] ++ U2) ++ V1)) (R := V2 ++ T) (by simp) (by simp; omega)
        rcases b3 with b3 | b3
        · rw [hst] at b3; split at b3 <;> omega
        · unfold sp4 at b3
          rw [g1, g2] at b3
          simpa using b3
  have hmr := mrg_split (lt := ltC c) U1 V1 U2 V2 q1 q2
  have hlen1 := (List.merge_perm_append (xs := U1) (ys := V1) (le := fun u v => !ltC c v u)).length_eq
  have hlen2 := (List.merge_perm_append (xs := U2) (ys := V2) (le := fun u v => !ltC c v u)).length_eq
  have hmm1 : (mrg (ltC c) U1 V1).length = U1.length + V1.length := by rw [← List.length_append]; exact hlen1
  have hR := R168 (P := P) (cp := cp) hE hb hg A U1 U2 V1 V2 T (.func f [] B) n a m bb mid s e hn (by omega) ha (by omega) (by omega) (by omega)
  have hM1 := M168a (P := P) (cp := cp) hM A U1 V1 (U2 ++ (V2 ++ T)) a bb mid s e (by omega) hu'.1 hv'.1 ha (by omega) (by omega) (by simp; omega)
  have hM2 : mid < e ∧ e < bb → sfn P 168 [.slice b g 0 n none cp, .c (ci mid), .c (ci e), .c (ci bb), .c (.func f [] B)] (H.set b (.cells g (cA enc (A ++ mrg (ltC c) U1 V1 ++ (U2 ++ (V2 ++ T)))) 0)) = some (.c (.tuple []), H.set b (.cells g (cA enc (A ++ mrg (ltC c) U1 V1 ++ (mrg (ltC c) U2 V2 ++ T))) 0)) := by
    rintro ⟨i1, i2⟩
    exact hM (A ++ mrg (ltC c) U1 V1) U2 V2 T mid e bb (by omega) (by intro q; rw [q] at hm; simp at hm; omega) (by intro q; rw [q] at hbb; simp at hbb; omega) hu'.2.1 hv'.2.1 (by simp; omega) (by omega) (by omega) hl
  have hM3 : ¬ (mid < e ∧ e < bb) → A ++ mrg (ltC c) U1 V1 ++ (U2 ++ (V2 ++ T)) = A ++ mrg (ltC c) U1 V1 ++ (mrg (ltC c) U2 V2 ++ T) := by
    intro hh
    have : U2.length = 0 ∨ V2.length = 0 := by omega
    rcases this with q | q
    · rw [List.eq_nil_of_length_eq_zero q]; simp
    · rw [List.eq_nil_of_length_eq_zero q]; simp
  have e1 : (A ++ U1) ++ (U2 ++ (V1 ++ (V2 ++ T))) = A ++ ((U1 ++ U2) ++ ((V1 ++ V2) ++ T)) := by simp
  have e2 : (A ++ U1) ++ (V1 ++ (U2 ++ (V2 ++ T))) = A ++ (U1 ++ (V1 ++ (U2 ++ (V2 ++ T)))) := by simp
  have e3 : A ++ mrg (ltC c) U1 V1 ++ (U2 ++ (V2 ++ T)) = A ++ (mrg (ltC c) U1 V1 ++ (U2 ++ (V2 ++ T))) := by simp
  have e4 : A ++ mrg (ltC c) U1 V1 ++ (mrg (ltC c) U2 V2 ++ T) = A ++ ((mrg (ltC c) U1 V1 ++ mrg (ltC c) U2 V2) ++ T) := by simp
  rw [e1, e2] at hR
  rw [e3, e4] at hM2 hM3
  rw [hmr, u168]
  obtain ⟨w1, n1, w2, n2, w3, w4, w5, w6, w7, w8, w9⟩ := ar168 (a := a) (m := m) (bb := bb) (mid := mid) (s := s) (e := e) hmid (by omega) (by omega) (by omega) (by omega) he
  have sh := shr1 a bb
  rw [← hmid] at sh
  have hD34 : ¬ (mid < e ∧ e < bb) → cA enc (A ++ (mrg (ltC c) U1 V1 ++ (U2 ++ (V2 ++ T)))) = cA enc (A ++ ((mrg (ltC c) U1 V1 ++ mrg (ltC c) U2 V2) ++ T)) := fun hh => by rw [hM3 hh]
  clear hM3
  generalize mid + m - 1 = p at *
  generalize cA enc (A ++ ((U1 ++ U2) ++ ((V1 ++ V2) ++ T))) = D1 at *
  generalize cA enc (A ++ (U1 ++ (V1 ++ (U2 ++ (V2 ++ T))))) = D2 at *
  generalize cA enc (A ++ (mrg (ltC c) U1 V1 ++ (U2 ++ (V2 ++ T)))) = D3 at *
  generalize cA enc (A ++ ((mrg (ltC c) U1 V1 ++ mrg (ltC c) U2 V2) ++ T)) = D4 at *
  by_cases hmm : m > mid
  · have c1 : (mid : Int) < m := by omega
    rw [if_pos hmm] at hst hr
    have hst' : (st : Int) = (mid : Int) + m - bb := by omega
    subst hr
    rw [hst'] at h0
    simp [c168, c168_n20, c168_n22, c168_n31, w1, n1, w2, n2, w3, w4, w5, sh, w6, w7, w8, w9, c1, h0, hR, hM1, -c168_n40, -c168_n42]
    split
    · rename_i hh
      simp [frzFuncs_nil, frzFuncs_c, frzFuncs_slice, hM2 hh]
    · rename_i hh
      rw [hD34 hh]
  · have c1 : ¬ (mid : Int) < m := by omega
    rw [if_neg hmm] at hst hr
    subst hst
    subst hr
    simp [c168, c168_n20, c168_n22, c168_n31, w1, n1, w2, n2, w3, w4, w5, sh, w6, w7, w8, w9, c1, h0, hR, hM1, -c168_n40, -c168_n42]
    split
    · rename_i hh
      simp [frzFuncs_nil, frzFuncs_c, frzFuncs_slice, hM2 hh]
    · rename_i hh
      rw [hD34 hh]

theorem S168 (hE : CellOk enc) (hS : Swo (ltC c)) (hC : CmpOk P enc f B c) (hb : b < H.length) (hg : g ≠ 0) (n : Nat) (hn : n < 4611686018427387904) : ∀ k, Merges P enc f B c H b g cp n k := by
  intro k
  induction k with
  | zero =>
    intro A U V T a m bb hk hU
    exact absurd (List.eq_nil_of_length_eq_zero (by omega)) hU
  | succ k ih =>
    intro A U V T a m bb hk hU hV hu hv ha hm hbb hl
    have z1 : U.length ≠ 0 := fun q => hU (List.eq_nil_of_length_eq_zero q)
    have z2 : V.length ≠ 0 := fun q => hV (List.eq_nil_of_length_eq_zero q)
    by_cases h1 : U.length = 1
    · obtain ⟨u, rfl⟩ := List.length_eq_one_iff.1 h1
      exact one168 hE hS hC hb hg A u V T n a m bb hn hv ha (by simpa using hm) hbb hl
    · by_cases h2 : V.length = 1
      · obtain ⟨v, rfl⟩ := List.length_eq_one_iff.1 h2
        exact last168 hE hS hC hb hg A U v T n a m bb hn hu h1 ha hm (by simpa using hbb) hl
      · exact gen168 hE hS hC hb hg k n hn ih A U V T a m bb hk hu hv (by omega) (by omega) ha hm hbb hl
end LM.G6

namespace LM.G6
open Go LM
variable {P : Nat → Option SFunc} [Has P]
variable {α : Type} {enc : α → CV} {f : Nat} {B : List CV} {c : α → α → Int} {H : Heap} {b g : Nat} {cp : Option Nat}

theorem S142 (hE : CellOk enc) (hS : Swo (ltC c)) (hC : CmpOk P enc f B c) (hb : b < H.length) (hg : g ≠ 0) (xs : List α) (n : Nat) (hn : n < 40) (h : n = xs.length) :
    sfn P 142 [.slice b g 0 n none cp, .c (ci n), .c (.func f [] B)] (H.set b (.cells g (cA enc xs) 0)) = some (.c (.tuple []), H.set b (.cells g (cA enc (sortI (ltC c) [] xs)) 0)) := by
  by_cases h20 : n < 20
  · have hs := S167 (P := P) (cp := cp) hE hC hb hg [] xs [] n (by omega) (by simpa using h)
    have h1 : ¬ (20 : Int) ≤ n := by omega
    have h2 : ¬ (20 : Int) < n := by omega
    have l0 : ∀ E, execS P (limS P) c142_l0 ⟨[.slice b g 0 n none cp, .c (ci n), .c (.func f [] B), .c (ci 20), .c (ci 0), .c (ci 20)], E⟩ = some (.exit 0, ⟨[.slice b g 0 n none cp, .c (ci n), .c (.func f [] B), .c (ci 20), .c (ci 0)], E⟩) := by
      intro E
      rw [r142_l0]
      simp [c142_l0b, h1]
    have l2 : ∀ E, execS P (limS P) c142_l2 ⟨[.slice b g 0 n none cp, .c (ci n), .c (.func f [] B), .c (ci 20)], E⟩ = some (.exit 2, ⟨[], E⟩) := by
      intro E
      rw [r142_l2]
      simp [c142_l2b, h2]
    simp [← h] at hs
    rw [u142]
    simp [c142, l0, l2, hs, hb, take_set, frzFuncs_nil, frzFuncs_c, frzFuncs_slice]
  · obtain ⟨U, V, rfl, hU⟩ := split_at (l := xs) (k := 20) (by omega)
    simp only [List.length_append] at h
    have s1 := S167 (P := P) (cp := cp) hE hC hb hg [] U V n (by omega) (by simp; omega)
    have s2 := S167 (P := P) (cp := cp) hE hC hb hg (sortI (ltC c) [] U) V [] n (by omega) (by simp [sortI_length]; omega)
    have z1 : sortI (ltC c) [] U ≠ [] := fun q => by have := sortI_length (lt := ltC c) [] U; rw [q] at this; simp at this; omega
    have hmr := sortI_mrg hS U V
    have hsl := sortI_length (lt := ltC c) [] V
    have hsu := sortI_length (lt := ltC c) [] U
    have hM := fun z2 => S168 (P := P) (cp := cp) hE hS hC hb hg n (by omega) (20 + V.length) [] (sortI (ltC c) [] U) (sortI (ltC c) [] V) [] 0 20 n (by simp at hsl hsu; omega) z1 z2 (sortI_srt hS [] U (by simp [Srt])) (sortI_srt hS [] V (by simp [Srt])) rfl (by simp at hsu; omega) (by simp at hsl; omega) (by simp)
    rw [hmr] at hM
    simp only [hsu, List.length_nil, Nat.zero_add, hU] at s2
    have h1 : (20 : Int) ≤ n := by omega
    have h3 : ¬ (40 : Int) ≤ n := by omega
    have e1 : (20 : Int) + V.length = n := by omega
    have l0b : ∀ E, execS P (limS P) c142_l0 ⟨[.slice b g 0 n none cp, .c (ci n), .c (.func f [] B), .c (ci 20), .c (ci 20), .c (ci 40)], E⟩ = some (.exit 0, ⟨[.slice b g 0 n none cp, .c (ci n), .c (.func f [] B), .c (ci 20), .c (ci 20)], E⟩) := by
      intro E
      rw [r142_l0]
      simp [c142_l0b, h3]
    have w40 : IntKind.i64.wrap 40 = 40 := rfl
    simp [hU] at s1
    have e2 : (((20 : Nat) : Int)) = 20 := rfl
    rw [e2, e1] at s2
    simp at s2
    have l0 : execS P (limS P) c142_l0 ⟨[.slice b g 0 n none cp, .c (ci n), .c (.func f [] B), .c (ci 20), .c (ci 0), .c (ci 20)], H.set b (.cells g (cA enc (U ++ V)) 0)⟩ = some (.exit 0, ⟨[.slice b g 0 n none cp, .c (ci n), .c (.func f [] B), .c (ci 20), .c (ci 20)], H.set b (.cells g (cA enc (sortI (ltC c) [] U ++ V)) 0)⟩) := by
      rw [r142_l0]
      simp [c142_l0b, h1, s1, w40, l0b, hb, take_set, frzFuncs_nil, frzFuncs_c, frzFuncs_slice]
    by_cases h4 : n = 20
    · have hV : V = [] := List.eq_nil_of_length_eq_zero (by omega)
      subst hV
      have h2 : ¬ (20 : Int) < n := by omega
      have l2 : ∀ E, execS P (limS P) c142_l2 ⟨[.slice b g 0 n none cp, .c (ci n), .c (.func f [] B), .c (ci 20)], E⟩ = some (.exit 2, ⟨[], E⟩) := by
        intro E
        rw [r142_l2]
        simp [c142_l2b, h2]
      simp [sortI] at s2 l0
      rw [u142]
      simp [c142, l0, l2, s2, hb, take_set, frzFuncs_nil, frzFuncs_c, frzFuncs_slice]
    · have z2 : sortI (ltC c) [] V ≠ [] := fun q => by rw [q] at hsl; simp at hsl; omega
      have hM := hM z2
      have h2 : (20 : Int) < n := by omega
      have h5 : ¬ (40 : Int) < n := by omega
      have l1 : ∀ E, execS P (limS P) c142_l1 ⟨[.slice b g 0 n none cp, .c (ci n), .c (.func f [] B), .c (ci 20), .c (ci 0), .c (ci 40)], E⟩ = some (.exit 4, ⟨[.slice b g 0 n none cp, .c (ci n), .c (.func f [] B), .c (ci 20), .c (ci 0)], E⟩) := by
        intro E
        rw [r142_l1]
        simp [c142_l1b, h3]
      have l2b : ∀ E, execS P (limS P) c142_l2 ⟨[.slice b g 0 n none cp, .c (ci n), .c (.func f [] B), .c (ci 40)], E⟩ = some (.exit 2, ⟨[], E⟩) := by
        intro E
        rw [r142_l2]
        simp [c142_l2b, h5]
      simp at hM
      have l2 : execS P (limS P) c142_l2 ⟨[.slice b g 0 n none cp, .c (ci n), .c (.func f [] B), .c (ci 20)], H.set b (.cells g (cA enc (sortI (ltC c) [] U ++ sortI (ltC c) [] V)) 0)⟩ = some (.exit 2, ⟨[], H.set b (.cells g (cA enc (sortI (ltC c) [] (U ++ V))) 0)⟩) := by
        have w20 : IntKind.i64.wrap 20 = 20 := rfl
        rw [r142_l2]
        simp [c142_l2b, h2, l1, w40, w20, hM, l2b, hb, take_set, frzFuncs_nil, frzFuncs_c, frzFuncs_slice]
      rw [u142]
      simp [c142, l0, l2, s2, hb, take_set, frzFuncs_nil, frzFuncs_c, frzFuncs_slice]

theorem S94 (hE : CellOk enc) (hS : Swo (ltC c)) (hC : CmpOk P enc f B c) (hb : b < H.length) (hg : g ≠ 0) (xs : List α) (n : Nat) (hn : n < 40) (h : n = xs.length) :
    sfn P 94 [.slice b g 0 n none cp, .c (.func f [] B)] (H.set b (.cells g (cA enc xs) 0)) = some (.c (.tuple []), H.set b (.cells g (cA enc (sortI (ltC c) [] xs)) 0)) := by
  have hs := S142 (P := P) (cp := cp) hE hS hC hb hg xs n hn h
  rw [u94]
  simp [c94, hs, hb, take_set, frzFuncs_nil, frzFuncs_c, frzFuncs_slice]
end LM.G6

namespace LM.G6
open Go LM
variable {P : Nat → Option SFunc} [Has P]

/-- A starter's rank among the seeds: those without one come last. -/
def rankS (l : List Stt) (i : Nat) : Int := match l[i]? with
  | some x => if x.seed = 0 then 1000000000 else x.seed
  | none => 0
theorem S93 (l : List Stt) (i : Nat) (h : i < l.length) : fn P 93 [ci i, .ptr [.slice (l.map Stt.enc)] 0] = some (ci (rankS l i)) := by
  have hlt : (i : Int) < l.length := by omega
  have e : l[i]? = some l[i] := List.getElem?_eq_getElem h
  rw [u93]
  unfold rankS
  rw [e]
  generalize hx : l[i] = x
  by_cases h0 : x.seed = 0
  · simp [c93, hlt, h, hx, Stt.enc, h0]
  · simp [c93, hlt, h, hx, Stt.enc, h0]

def cmpI (a b : Int) : Int := if a < b then -1 else if b < a then 1 else 0
theorem cmpI_neg (a b : Int) : cmpI a b < 0 ↔ a < b := by unfold cmpI; (repeat' split) <;> omega
theorem S96c (a b : Int) : fn P 96 [ci a, ci b] = some (ci (cmpI a b)) := by
  have e : ∀ x : Int, fn P 143 [ci x] = some (.bool false) := fun x => by rw [u143]; simp [c143]
  rw [u96]
  unfold cmpI
  by_cases h1 : a < b <;> by_cases h2 : b < a <;> simp [c96, e, h1, h2]

/-- Numbers of a list's elements. -/
def eF (n : Nat) (i : Fin n) : CV := ci (i.val : Int)
theorem eF_ok (n : Nat) : CellOk (eF n) := fun _ => ⟨rfl, rfl⟩
def rankC (l : List Stt) : CV := .func 93 [] [.ptr [.slice (l.map Stt.enc)] 0]
theorem cmp95 (l : List Stt) : CmpOk P (eF l.length) 95 [.ptr [rankC l] 0] fun i j => cmpI (rankS l i) (rankS l j) := by
  intro pos q x y h
  have h1 := S93 (P := P) l x.val x.isLt
  have h2 := S93 (P := P) l y.val y.isLt
  have h3 := S96c (P := P) (rankS l x) (rankS l y)
  have e : fn P 95 [ci x.val, ci y.val, .ptr [rankC l] 0] = some (ci (cmpI (rankS l x) (rankS l y))) := by
    rw [u95]
    simp [c95, rankC, h1, h2, h3]
  simp [eF, e]

theorem frz_38_func (f : Nat) (a b : List LV) (h : Heap) : frz 38 (.func f a b) h = bnd (mapH (frz 37) a h) fun x => bnd (mapH (frz 37) b x.2) fun y => some (.func f x.1 y.1, y.2) := by
  rw [frz]
  rcases mapH (frz 37) a h with _ | ⟨x, h1⟩
  · rfl
  · simp only [bnd]
    rcases mapH (frz 37) b h1 with _ | ⟨y, h2⟩ <;> rfl
theorem frz_37_ptr (b g off : Nat) (h : Heap) : frz 37 (.ptr b g off) h = match h[b]? with
    | some (.cells g' cs _) => if g = g' then bnd (mapH (frz 36) cs (bump b cs.length h)) fun a => some (.ptr a.1 off, a.2) else none
    | _ => none := frz_succ_ptr 36 b g off h

def rankI (l : List Stt) (a : Int) : Int := rankS l a.toNat
def ltR (l : List Stt) (a b : Int) : Bool := decide (rankI l a < rankI l b)
/-- The seeded order. -/
def seedL (l : List Stt) (key : Int) : List Int := sortI (ltR l) [] (drawL key l.length)
theorem swo95 (l : List Stt) : Swo (ltC fun i j : Fin l.length => cmpI (rankS l i) (rankS l j)) := by
  have e : (ltC fun i j : Fin l.length => cmpI (rankS l i) (rankS l j)) = fun i j => decide (rankS l i.val < rankS l j.val) := by
    funext i j
    exact decide_eq_decide.2 (cmpI_neg _ _)
  rw [e]
  exact swo_key fun i : Fin l.length => rankS l i.val

theorem to_fin {n : Nat} : ∀ {xs : List Int}, (∀ x ∈ xs, 0 ≤ x ∧ x < n) → ∃ F : List (Fin n), F.map (fun i => (i.val : Int)) = xs
  | [], _ => ⟨[], rfl⟩
  | x :: xs, h => by
    obtain ⟨F, hF⟩ := to_fin (xs := xs) fun y hy => h y (by simp [hy])
    have hx := h x (by simp)
    refine ⟨⟨x.toNat, by omega⟩ :: F, ?_⟩
    simp [hF]
    omega
theorem cI_fin {n : Nat} (F : List (Fin n)) : cA (eF n) F = cI (F.map fun i => (i.val : Int)) := by simp [cA, cI, eF]
theorem drawE_zero {key : Int} {n : Nat} (h : drawE key n = 0) : 1 ≤ key ∧ key ≤ 2147483646 ∧ n ≤ 256 := by
  unfold drawE at h
  split at h
  · cases h
  · omega
theorem seedL_fin (l : List Stt) (F : List (Fin l.length)) : (sortI (ltC fun i j : Fin l.length => cmpI (rankS l i) (rankS l j)) [] F).map (fun i => (i.val : Int)) = sortI (ltR l) [] (F.map fun i => (i.val : Int)) := by
  have := sortI_map (lt := ltC fun i j : Fin l.length => cmpI (rankS l i) (rankS l j)) (lt' := ltR l) (fun i : Fin l.length => (i.val : Int)) (fun x y => by
    unfold ltR rankI ltC
    simp only [Int.toNat_natCast]
    exact decide_eq_decide.2 (cmpI_neg _ _).symm) [] F
  exact this.symm

def seededE (l : List Stt) (key : Int) : Int := firstE [startersE l, drawE key l.length]
theorem S20 (l : List Stt) (key : Int) (hl : ∀ x ∈ l, x.ok) (hs : (l.length : Int) < 9223372036854775807) (hn : startersE l = 0 → l.length < 40) : fn P 20 [.slice (l.map Stt.enc), ci key] = some (.tuple (if seededE l key = 0 then [.slice ((seedL l key).map ci), ci 0] else [.slice [], ci (seededE l key)])) := by
  have e19 := S19 (P := P) l hl hs
  rw [u20]
  by_cases h1 : startersE l = 0
  · rw [h1] at e19
    by_cases h2 : drawE key l.length = 0
    · have hE : seededE l key = 0 := by unfold seededE; rw [h1, h2]; rfl
      have e92 := S92 (P := P) key l.length h2
      obtain ⟨d1, d2, d3⟩ := drawE_zero h2
      obtain ⟨F, hF⟩ := to_fin (drawL_range d1 d2 (n := l.length))
      have hFl : F.length = l.length := by have := congrArg List.length hF; simpa [drawL_length] using this
      have hsrt := fun X Y => S94 (P := P) (eF_ok l.length) (swo95 l) (cmp95 l) (H := [X, .cells 1 [] 0, .cells 1 [] 0, .dead, Y]) (b := 3) (g := 1) (cp := some l.length) (by simp) (by decide) F l.length (hn h1) hFl.symm
      rw [cI_fin, cI_fin, seedL_fin, hF] at hsrt
      have hd : sortI (ltR l) [] (drawL key l.length) = seedL l key := rfl
      rw [hd] at hsrt
      rw [if_pos hE]
      simp [rankC] at hsrt
      have hlen : l.length = ((seedL l key).map ci).length := by simp [seedL, sortI_length, drawL_length]
      have hres := fun X Y => resV_own (b := 3) (g := 1) (fz := 0) (e := none) (ys := (seedL l key).map ci) (h := [X, .cells 1 [] 0, .cells 1 [] 0, .cells 1 (cI (seedL l key)) 0, Y]) (len := l.length) (by rw [cellsOf_ints]; rfl) (intElems _) hlen (some l.length) (ci 0)
      simp [c20, e19, e92, LV.shift, shiftL, shiftB, LB.shift, shift_cI, frzFuncs_nil, frzFuncs_c, frzFuncs_slice, frzFuncs_func, frz_func, frz_38_func, frz_37_ptr, hsrt, hres]
    · have hE : seededE l key = 3 := by
        unfold seededE
        rw [h1]
        unfold drawE at h2 ⊢
        split at h2
        · rename_i q; rw [if_pos q]; rfl
        · exact absurd rfl h2
      have e92 := S90e (P := P) key l.length h2
      rw [if_neg (by rw [hE]; decide), hE]
      simp [c20, e19, e92, LV.shift, shiftL, shiftB, LB.shift]
  · have hE : seededE l key = startersE l := by unfold seededE; rw [firstE, if_pos h1]
    rw [if_neg (by rw [hE]; exact h1), hE]
    simp [c20, e19, h1]
end LM.G6

namespace LM.G6
open Go LM
variable {P : Nat → Option SFunc} [Has P]

def befS (a b : Int) : Bool := decide (a > 0) && (decide (b = 0) || decide (a < b))
theorem S98 (a b : Int) : fn P 98 [ci a, ci b] = some (.bool (befS a b)) := by
  rw [u98]
  unfold befS
  by_cases h1 : a > 0 <;> by_cases h2 : b = 0 <;> by_cases h3 : a < b <;> simp [c98, h1, h2, h3]

theorem flat_cI (xs : List Int) : flatAll (cI xs) = true := by rw [← cellsOf_ints]; exact flatAll_cellsOf (intElems xs)
/-- Appending integers to a slice of the function's own. -/
theorem appI (pos : Option Nat) {b g : Nat} {ys xs : List Int} {h : Heap} (hb : h[b]? = some (.cells g (cI ys) 0)) (hs : ys.length + xs.length < 1000000) :
    appendOp pos none 8 (.slice b g 0 ys.length none none) (.c (.slice (xs.map ci))) h = if xs = [] then some (.slice b g 0 ys.length none none, h) else some (.slice b (g + 1) 0 (ys.length + xs.length) none none, h.set b (.cells (g + 1) (cI (ys ++ xs)) 0)) := by
  have h1 : sliceCells none h (.c (.slice (xs.map ci))) = some ((xs.map ci).length, cellsOf (xs.map ci)) := rfl
  rw [cellsOf_ints, List.length_map] at h1
  have hz : szOf none = 1 := rfl
  simp only [appendOp, h1, flat_cI, hb, hz]
  rw [if_neg (by simp), if_neg (by simp [cI_length]), if_neg (by simp; omega), if_pos (by simp [cI_length])]
  by_cases hx : xs = []
  · subst hx; simp
  · have : xs.length ≠ 0 := fun e => hx (List.eq_nil_of_length_eq_zero e)
    rw [if_neg this, if_neg hx]
    have : cI (ys ++ xs) = cI ys ++ cI xs := by simp [cI]
    rw [this]
    rfl
theorem appI0 (pos : Option Nat) {b g : Nat} {xs : List Int} {h : Heap} (hb : h[b]? = some (.cells g [] 0)) (hs : xs.length < 1000000) :
    appendOp pos none 8 (.slice b g 0 0 none (some 0)) (.c (.slice (xs.map ci))) h = if xs = [] then some (.slice b g 0 0 none (some 0), h) else some (.slice (newId pos h) 1 0 xs.length none none, newAt pos (.cells 1 (cI xs) 0) h) := by
  have h1 : sliceCells none h (.c (.slice (xs.map ci))) = some ((xs.map ci).length, cellsOf (xs.map ci)) := rfl
  rw [cellsOf_ints, List.length_map] at h1
  have hz : szOf none = 1 := rfl
  simp only [appendOp, h1, flat_cI, hb, hz]
  rw [if_neg (by simp), if_neg (by simp [cI_length]), if_neg (by simp; omega)]
  by_cases hx : xs = []
  · subst hx
    have hid : h.set b (.cells g [] 0) = h := by
      obtain ⟨q, e⟩ := List.getElem?_eq_some_iff.1 hb
      rw [← e]
      simp
    simp [cI, setCells, hid]
  · have : ¬ 0 + xs.length ≤ 0 := fun e => hx (List.eq_nil_of_length_eq_zero (by omega))
    rw [if_neg this, if_neg hx]
    simp

theorem S99 (l : List Int) (at' : Nat) (x : Int) (h : at' ≤ l.length) (hl : l.length < 500000) : fn P 99 [.slice (l.map ci), ci at', ci x] = some (.slice ((l.take at' ++ x :: l.drop at').map ci)) := by
  have h1 : (at' : Int) ≤ l.length := by omega
  have hz : szFits 1 (l.map ci) = true := by cases l <;> rfl
  have e1 : List.take at' (l.map ci) = (l.take at').map ci := by simp
  have e2 : List.drop at' (l.map ci) = (l.drop at').map ci := by simp
  have hX : (l.take at').length < 1000000 := by simp; omega
  have hY : (l.drop at').length < 400000 + 200000 := by simp; omega
  have hxy : (l.take at').length + (l.drop at').length < 500000 := by simp; omega
  have hYl : (l.drop at').length = l.length - at' := by simp
  generalize l.take at' = X at *
  generalize l.drop at' = Y at *
  have e4 : List.take (l.length - at') (Y.map ci) = Y.map ci := List.take_of_length_le (by simp; omega)
  have a1 := appI0 (some 2) (b := 1) (g := 1) (xs := X) (h := [.cells 1 [] 0, .cells 1 [] 0, .dead, .dead, .dead]) rfl hX
  rw [u99]
  by_cases x0 : X = []
  · subst x0
    have a2 := appI0 (some 3) (b := 1) (g := 1) (xs := [x]) (h := [.cells 1 [] 0, .cells 1 [] 0, .dead, .dead, .dead]) rfl (by simp)
    have a3 := appI (some 4) (b := 3) (g := 1) (ys := [x]) (xs := Y) (h := [.cells 1 [] 0, .cells 1 [] 0, .dead, .cells 1 (cI [x]) 0, .dead]) rfl (by simp; omega)
    simp [newId, newAt] at a1 a2 a3
    by_cases y0 : Y = []
    · subst y0
      have hr := resV_own1 (b := 3) (g := 1) (fz := 0) (e := none) (ys := [x].map ci) (h := [.cells 1 [] 0, .cells 1 [] 0, .dead, .cells 1 (cI [x]) 0, .dead]) (len := 1) rfl (intElems _) rfl none
      simp at a3 hr
      simp [c99, h1, hz, e1, e2, e4, a1, a2, a3, hr]
    · rw [if_neg y0] at a3
      have hr := resV_own1 (b := 3) (g := 2) (fz := 0) (e := none) (ys := (x :: Y).map ci) (h := [.cells 1 [] 0, .cells 1 [] 0, .dead, .cells 2 (cI (x :: Y)) 0, .dead]) (len := 1 + Y.length) (by rw [cellsOf_ints]; rfl) (intElems _) (by simp; omega) none
      simp at hr
      simp [c99, h1, hz, e1, e2, e4, a1, a2, a3, hr]
  · rw [if_neg x0] at a1
    have a2 := appI (some 3) (b := 2) (g := 1) (ys := X) (xs := [x]) (h := [.cells 1 [] 0, .cells 1 [] 0, .cells 1 (cI X) 0, .dead, .dead]) rfl (by simp; omega)
    have a3 := appI (some 4) (b := 2) (g := 2) (ys := X ++ [x]) (xs := Y) (h := [.cells 1 [] 0, .cells 1 [] 0, .cells 2 (cI (X ++ [x])) 0, .dead, .dead]) rfl (by simp; omega)
    simp [newId, newAt] at a1 a2 a3
    by_cases y0 : Y = []
    · subst y0
      have hr := resV_own1 (b := 2) (g := 2) (fz := 0) (e := none) (ys := (X ++ [x]).map ci) (h := [.cells 1 [] 0, .cells 1 [] 0, .cells 2 (cI (X ++ [x])) 0, .dead, .dead]) (len := X.length + 1) (by rw [cellsOf_ints]; rfl) (intElems _) (by simp) none
      simp at a3 hr
      simp [c99, h1, hz, e1, e2, e4, a1, a2, a3, hr]
    · rw [if_neg y0] at a3
      have hr := resV_own1 (b := 2) (g := 3) (fz := 0) (e := none) (ys := (X ++ x :: Y).map ci) (h := [.cells 1 [] 0, .cells 1 [] 0, .cells 3 (cI (X ++ x :: Y)) 0, .dead, .dead]) (len := X.length + 1 + Y.length) (by rw [cellsOf_ints]; rfl) (intElems _) (by simp; omega) none
      simp at hr
      simp [c99, h1, hz, e1, e2, e4, a1, a2, a3, hr]

def sdI (l : List Stt) (a : Int) : Int := match l[a.toNat]? with
  | some x => x.seed
  | none => 0
theorem rank_bef {l : List Stt} (h : ∀ x ∈ l, 0 ≤ x.seed ∧ x.seed ≤ 999999999) {a b : Int} (ha : 0 ≤ a ∧ a < l.length) (hb : 0 ≤ b ∧ b < l.length) : befS (sdI l a) (sdI l b) = ltR l a b := by
  have e1 : l[a.toNat]? = some l[a.toNat] := List.getElem?_eq_getElem (by omega)
  have e2 : l[b.toNat]? = some l[b.toNat] := List.getElem?_eq_getElem (by omega)
  have h1 := h l[a.toNat] (List.getElem_mem _)
  have h2 := h l[b.toNat] (List.getElem_mem _)
  unfold befS ltR rankI rankS sdI
  rw [e1, e2]
  generalize l[a.toNat] = x at *
  generalize l[b.toNat] = y at *
  by_cases q1 : x.seed = 0 <;> by_cases q2 : y.seed = 0 <;> simp [q1, q2]
  · omega
  · omega
  · omega
theorem sdI_get {l : List Stt} {a : Int} (ha : 0 ≤ a ∧ a < l.length) : ∃ x, l[a.toNat]? = some x ∧ x.seed = sdI l a := by
  have e1 : l[a.toNat]? = some l[a.toNat] := List.getElem?_eq_getElem (by omega)
  refine ⟨_, e1, ?_⟩
  unfold sdI
  rw [e1]

/-- The walk to the left in a list. -/
theorem L26_0 (l : List Stt) (D : List Int) (i : Nat) (X : List LB) (x : Int) (hx : D[i]? = some x) (hi : i < D.length) (hn : D.length < 1000) (hD : ∀ y ∈ D, 0 ≤ y ∧ y < l.length) (hs : ∀ x ∈ l, 0 ≤ x.seed ∧ x.seed ≤ 999999999) : ∀ (L Q O : List Int), O = L.reverse ++ Q → (∀ y ∈ O, 0 ≤ y ∧ y < l.length) → O.length < 1000 → ∃ k, k ≤ O.length ∧ O.take k ++ x :: O.drop k = insL (ltR l) x L Q ∧
    execS P (limS P) c26_l0 ⟨[.c (.slice (l.map Stt.enc)), .c (.slice (D.map ci)), .c (.slice (O.map ci)), .c (ci i), .c (ci L.length)], X⟩ = some (.exit 2, ⟨[.c (.slice (l.map Stt.enc)), .c (.slice (D.map ci)), .c (.slice (O.map ci)), .c (ci i), .c (ci k)], X⟩) := by
  intro L
  induction L with
  | nil =>
    intro Q O hO hO2 hO3
    refine ⟨0, by omega, by simp [insL, hO], ?_⟩
    rw [r26_l0]
    simp [c26_l0b]
  | cons y L ih =>
    intro Q O hO hO2 hO3
    obtain ⟨k, k1, k2, k3⟩ := ih (y :: Q) O (by simp [hO]) hO2 hO3
    have gy : O[L.length]? = some y := get_at (P := L.reverse) (R := Q) (by simp [hO]) (by simp)
    have hlO : O.length = L.length + 1 + Q.length := by rw [hO]; simp; omega
    obtain ⟨sx, gsx, esx⟩ := sdI_get (hD x (List.mem_of_getElem? hx))
    obtain ⟨sy, gsy, esy⟩ := sdI_get (hO2 y (List.mem_of_getElem? gy))
    have hby := rank_bef hs (hD x (List.mem_of_getElem? hx)) (hO2 y (List.mem_of_getElem? gy))
    have e98 := S98 (P := P) sx.seed sy.seed
    rw [esx, esy, hby] at e98
    have hxr := hD x (List.mem_of_getElem? hx)
    have hyr := hO2 y (List.mem_of_getElem? gy)
    have w1 : IntKind.i64.wrap (L.length : Int) = L.length := wrap64 (by omega) (by omega)
    have c1 : (0 : Int) < (L.length : Int) + 1 := by omega
    have c2 : (L.length : Int) < O.length := by omega
    have c3 : (i : Int) < D.length := by omega
    obtain ⟨q1, hx'⟩ := List.getElem?_eq_some_iff.1 hx
    obtain ⟨q2, gy'⟩ := List.getElem?_eq_some_iff.1 gy
    obtain ⟨q3, gsx'⟩ := List.getElem?_eq_some_iff.1 gsx
    obtain ⟨q4, gsy'⟩ := List.getElem?_eq_some_iff.1 gsy
    cases hr : ltR l x y
    · rw [hr] at e98
      refine ⟨L.length + 1, by omega, ?_, ?_⟩
      · simp only [insL, hr]
        have : O = (L.reverse ++ [y]) ++ Q := by rw [hO]; simp
        rw [this, List.take_left' (by simp), List.drop_left' (by simp)]
        simp
      · rw [r26_l0]
        simp [c26_l0b, w1, c1, c2, c3, hx, gy, gsx', gsy', hxr, hyr, Stt.enc, esx, esy, e98]
    · rw [hr] at e98
      refine ⟨k, k1, ?_, ?_⟩
      · simp only [insL, hr, if_true]
        exact k2
      · rw [r26_l0]
        simp [c26_l0b, w1, c1, c2, c3, hx, gy, gsx', gsy', hxr, hyr, Stt.enc, esx, esy, e98, k3]
end LM.G6

namespace LM.G6
open Go LM

theorem strElem (s : Str) : Elem none (CV.str s) := ⟨rfl, rfl⟩
theorem strElems (l : List Str) : ∀ x ∈ l.map CV.str, Elem none x := by
  intro x hx
  obtain ⟨y, _, rfl⟩ := List.mem_map.1 hx
  exact strElem y

end LM.G6

namespace LM.G6
open Go LM
variable {P : Nat → Option SFunc} [Has P]

structure Pr where
  a : Int
  b : Int
def Pr.enc (x : Pr) : CV := .agg [ci x.a, ci x.b]
theorem Pr.elem (x : Pr) : Elem (some 2) x.enc := ⟨_, rfl, rfl, by simp⟩
theorem Pr.elems (l : List Pr) : ∀ x ∈ l.map Pr.enc, Elem (some 2) x := by
  intro x hx
  obtain ⟨y, _, rfl⟩ := List.mem_map.1 hx
  exact y.elem
def callP (f e w : Int) (i : Nat) : Pr := ⟨max 0 (f + i * e - w), f + i * e⟩
def callsL (f e w : Int) (n : Nat) : List Pr := (List.range n).map (callP f e w)
theorem callsL_succ (f e w : Int) (i : Nat) : (callsL f e w (i + 1)).map Pr.enc = (callsL f e w i).map Pr.enc ++ [(callP f e w i).enc] := by
  unfold callsL
  rw [List.range_succ, List.map_append, List.map_append]
  rfl
def isoL (f e w t : Int) (n : Nat) : List Int := ((List.range n).filter fun (i : Nat) => decide (w ≤ t ∧ t < f + (i : Int) * e)).map fun (i : Nat) => (i : Int)
theorem isoL_succ (f e w t : Int) (i : Nat) : isoL f e w t (i + 1) = if w ≤ t ∧ t < f + i * e then isoL f e w t i ++ [(i : Int)] else isoL f e w t i := by
  unfold isoL
  rw [List.range_succ, List.filter_append, List.map_append]
  by_cases h : w ≤ t ∧ t < f + i * e <;> simp [h]
theorem isoL_le (f e w t : Int) (i : Nat) : (isoL f e w t i).length ≤ i := by
  unfold isoL
  rw [List.length_map]
  exact Nat.le_trans (List.length_filter_le _ _) (by simp)

theorem L44 (n : Nat) (hn : n ≤ 160) (f e w : Int) (hf : 0 ≤ f ∧ f ≤ 86399999) (he : 0 ≤ e ∧ e ≤ 86399999) (hw : 0 ≤ w ∧ w ≤ 86399999) : ∀ (m i : Nat), i + m = n →
    execS P (limS P) c44_l0 ⟨[.c (ci n), .c (ci f), .c (ci e), .c (ci w), .slice 1 (1 + i) 0 i (some 2) none, .c (ci i)], [.cells 1 [] 0, .cells (1 + i) (cellsOf ((callsL f e w i).map Pr.enc)) 0]⟩ =
      some (.exit 0, ⟨[.slice 1 (1 + n) 0 n (some 2) none], [.cells 1 [] 0, .cells (1 + n) (cellsOf ((callsL f e w n).map Pr.enc)) 0]⟩) := by
  intro m
  induction m with
  | zero =>
    intro i h
    simp at h
    subst h
    rw [r44_l0]
    simp [c44_l0b]
  | succ m ih =>
    intro i h
    have ih := ih (i + 1) (by omega)
    have hi : (0 : Int) ≤ i := by omega
    have hi2 : (i : Int) ≤ 160 := by omega
    have hm0 : 0 ≤ (i : Int) * e := Int.mul_nonneg hi he.1
    have hm1 : (i : Int) * e ≤ 160 * 86399999 := Int.mul_le_mul hi2 he.2 he.1 (by omega)
    have w1 : IntKind.i64.wrap ((i : Int) * e) = i * e := wrap64 (by omega) (by omega)
    have w2 : IntKind.i64.wrap (f + i * e) = f + i * e := wrap64 (by omega) (by omega)
    have w3 : IntKind.i64.wrap (f + i * e - w) = f + i * e - w := wrap64 (by omega) (by omega)
    have w4 : IntKind.i64.wrap ((i : Int) + 1) = i + 1 := wrap64 (by omega) (by omega)
    have hlt : (i : Int) < n := by omega
    have hmx : (if w < f + i * e then f + i * e - w else 0) = max 0 (f + i * e - w) := by split <;> omega
    have hl : (callsL f e w i).length = i := by simp [callsL]
    have ha := append_own (b := 1) (g := 1 + i) (bytes := 16) (e := some 2) (ys := (callsL f e w i).map Pr.enc) (xs := [(callP f e w i).enc]) (h := [.cells 1 [] 0, .cells (1 + i) (cellsOf ((callsL f e w i).map Pr.enc)) 0]) (len := i) (fz := 0) rfl (Pr.elems _) (by simpa using (callP f e w i).elem) (by simp [hl]) (Nat.zero_le _) (by simp) (by simp [hl]; omega) (by simp [hl]; omega)
    have e1 : 1 + (i + 1) = 1 + i + 1 := by omega
    rw [← callsL_succ] at ha
    simp [callP, Pr.enc] at ha
    simp [e1, Pr.enc] at ih
    have hu : ∀ n ys, underL n (cellsOf ys) = true := fun n ys => underL_cellsOf n ys
    rw [r44_l0]
    simp [c44_l0b, w1, w2, w3, w4, hlt, foldInt, hmx, ha, hu, Pr.enc, ih]

theorem L39 (n : Nat) (hn : n ≤ 160) (f e w : Int) (hf : 0 ≤ f ∧ f ≤ 86399999) (he : 0 ≤ e ∧ e ≤ 86399999) (hw : 0 ≤ w ∧ w ≤ 86399999) : ∀ (m i : Nat), i + m = n →
    execS P (limS P) c39_l0 ⟨[.c (ci f), .c (ci e), .c (ci w), .slice 3 (1 + i) 0 i (some 2) none, .c (ci n), .c (ci i)], [.cells 1 [] 0, .cells 1 [.c (ci w)] 0, .cells 1 [.c (ci w), .c (ci f), .c (ci e)] 0, .cells (1 + i) (cellsOf ((callsL f e w i).map Pr.enc)) 0]⟩ =
      some (.exit 0, ⟨[.slice 3 (1 + n) 0 n (some 2) none], [.cells 1 [] 0, .cells 1 [.c (ci w)] 0, .cells 1 [.c (ci w), .c (ci f), .c (ci e)] 0, .cells (1 + n) (cellsOf ((callsL f e w n).map Pr.enc)) 0]⟩) := by
  intro m
  induction m with
  | zero =>
    intro i h
    simp at h
    subst h
    rw [r39_l0]
    simp [c39_l0b]
  | succ m ih =>
    intro i h
    have ih := ih (i + 1) (by omega)
    have hi : (0 : Int) ≤ i := by omega
    have hi2 : (i : Int) ≤ 160 := by omega
    have hm0 : 0 ≤ (i : Int) * e := Int.mul_nonneg hi he.1
    have hm1 : (i : Int) * e ≤ 160 * 86399999 := Int.mul_le_mul hi2 he.2 he.1 (by omega)
    have w1 : IntKind.i64.wrap ((i : Int) * e) = i * e := wrap64 (by omega) (by omega)
    have w2 : IntKind.i64.wrap (f + i * e) = f + i * e := wrap64 (by omega) (by omega)
    have w3 : IntKind.i64.wrap (f + i * e - w) = f + i * e - w := wrap64 (by omega) (by omega)
    have w4 : IntKind.i64.wrap ((i : Int) + 1) = i + 1 := wrap64 (by omega) (by omega)
    have hlt : (i : Int) < n := by omega
    have hmx : (if w < f + i * e then f + i * e - w else 0) = max 0 (f + i * e - w) := by split <;> omega
    have hl : (callsL f e w i).length = i := by simp [callsL]
    have ha := append_own (b := 3) (g := 1 + i) (bytes := 16) (e := some 2) (ys := (callsL f e w i).map Pr.enc) (xs := [(callP f e w i).enc]) (h := [.cells 1 [] 0, .cells 1 [.c (ci w)] 0, .cells 1 [.c (ci w), .c (ci f), .c (ci e)] 0, .cells (1 + i) (cellsOf ((callsL f e w i).map Pr.enc)) 0]) (len := i) (fz := 0) rfl (Pr.elems _) (by simpa using (callP f e w i).elem) (by simp [hl]) (Nat.zero_le _) (by simp) (by simp [hl]; omega) (by simp [hl]; omega)
    have e1 : 1 + (i + 1) = 1 + i + 1 := by omega
    rw [← callsL_succ] at ha
    simp [callP, Pr.enc] at ha
    simp [e1, Pr.enc] at ih
    have hu : ∀ n ys, underL n (cellsOf ys) = true := fun n ys => underL_cellsOf n ys
    rw [r39_l0]
    simp [c39_l0b, w1, w2, w3, w4, hlt, foldInt, hmx, ha, hu, Pr.enc, ih]

theorem L43 (n : Nat) (hn : n ≤ 160) (f e w t : Int) (hf : 0 ≤ f ∧ f ≤ 86399999) (he : 0 ≤ e ∧ e ≤ 86399999) : ∀ (m i : Nat), i + m = n →
    execS P (limS P) c43_l0 ⟨[.c (ci n), .c (ci f), .c (ci e), .c (ci w), .c (ci t), .slice 1 (1 + (isoL f e w t i).length) 0 (isoL f e w t i).length none none, .c (ci i)], [.cells 1 [] 0, .cells (1 + (isoL f e w t i).length) (cI (isoL f e w t i)) 0]⟩ =
      some (.exit 0, ⟨[.slice 1 (1 + (isoL f e w t n).length) 0 (isoL f e w t n).length none none], [.cells 1 [] 0, .cells (1 + (isoL f e w t n).length) (cI (isoL f e w t n)) 0]⟩) := by
  intro m
  induction m with
  | zero =>
    intro i h
    simp at h
    subst h
    rw [r43_l0]
    simp [c43_l0b]
  | succ m ih =>
    intro i h
    have ih := ih (i + 1) (by omega)
    have hi : (0 : Int) ≤ i := by omega
    have hi2 : (i : Int) ≤ 160 := by omega
    have hm0 : 0 ≤ (i : Int) * e := Int.mul_nonneg hi he.1
    have hm1 : (i : Int) * e ≤ 160 * 86399999 := Int.mul_le_mul hi2 he.2 he.1 (by omega)
    have w1 : IntKind.i64.wrap ((i : Int) * e) = i * e := wrap64 (by omega) (by omega)
    have w2 : IntKind.i64.wrap (f + i * e) = f + i * e := wrap64 (by omega) (by omega)
    have w4 : IntKind.i64.wrap ((i : Int) + 1) = i + 1 := wrap64 (by omega) (by omega)
    have hlt : (i : Int) < n := by omega
    have hl : (isoL f e w t i).length ≤ i := isoL_le f e w t i
    have es := isoL_succ f e w t i
    rw [r43_l0]
    by_cases q1 : w ≤ t
    · by_cases q2 : t < f + i * e
      · rw [if_pos ⟨q1, q2⟩] at es
        have ha := append_own (b := 1) (g := 1 + (isoL f e w t i).length) (bytes := 8) (e := none) (ys := (isoL f e w t i).map ci) (xs := [ci i]) (h := [.cells 1 [] 0, .cells (1 + (isoL f e w t i).length) (cellsOf ((isoL f e w t i).map ci)) 0]) (len := (isoL f e w t i).length) (fz := 0) rfl (intElems _) (intElems [(i : Int)]) (by simp) (Nat.zero_le _) (by simp) (by simp; omega) (by simp; omega)
        have e2 : (isoL f e w t i).map ci ++ [ci i] = (isoL f e w t i ++ [(i : Int)]).map ci := by simp
        rw [e2, cellsOf_ints, cellsOf_ints] at ha
        have e1 : 1 + ((isoL f e w t i).length + 1) = 1 + (isoL f e w t i).length + 1 := by omega
        simp [es, e1] at ih ha
        simp [c43_l0b, w1, w2, w4, hlt, q1, q2, ha, under_cI, ih]
      · rw [if_neg (fun q => q2 q.2)] at es
        simp [es] at ih
        simp [c43_l0b, w1, w2, w4, hlt, q1, q2, under_cI, ih]
    · rw [if_neg (fun q => q1 q.1)] at es
      simp [es] at ih
      simp [c43_l0b, w1, w2, w4, hlt, q1, under_cI, ih]

theorem L40 (n : Nat) (hn : n ≤ 160) (f e w t : Int) (hf : 0 ≤ f ∧ f ≤ 86399999) (he : 0 ≤ e ∧ e ≤ 86399999) : ∀ (m i : Nat), i + m = n →
    execS P (limS P) c40_l0 ⟨[.c (ci f), .c (ci e), .c (ci w), .c (ci t), .slice 3 (1 + (isoL f e w t i).length) 0 (isoL f e w t i).length none none, .c (ci n), .c (ci i)], [.cells 1 [] 0, .cells 1 [.c (ci w), .c (ci t)] 0, .cells 1 [.c (ci w), .c (ci t), .c (ci f), .c (ci e)] 0, .cells (1 + (isoL f e w t i).length) (cI (isoL f e w t i)) 0]⟩ =
      some (.exit 0, ⟨[.slice 3 (1 + (isoL f e w t n).length) 0 (isoL f e w t n).length none none], [.cells 1 [] 0, .cells 1 [.c (ci w), .c (ci t)] 0, .cells 1 [.c (ci w), .c (ci t), .c (ci f), .c (ci e)] 0, .cells (1 + (isoL f e w t n).length) (cI (isoL f e w t n)) 0]⟩) := by
  intro m
  induction m with
  | zero =>
    intro i h
    simp at h
    subst h
    rw [r40_l0]
    simp [c40_l0b]
  | succ m ih =>
    intro i h
    have ih := ih (i + 1) (by omega)
    have hi : (0 : Int) ≤ i := by omega
    have hi2 : (i : Int) ≤ 160 := by omega
    have hm0 : 0 ≤ (i : Int) * e := Int.mul_nonneg hi he.1
    have hm1 : (i : Int) * e ≤ 160 * 86399999 := Int.mul_le_mul hi2 he.2 he.1 (by omega)
    have w1 : IntKind.i64.wrap ((i : Int) * e) = i * e := wrap64 (by omega) (by omega)
    have w2 : IntKind.i64.wrap (f + i * e) = f + i * e := wrap64 (by omega) (by omega)
    have w4 : IntKind.i64.wrap ((i : Int) + 1) = i + 1 := wrap64 (by omega) (by omega)
    have hlt : (i : Int) < n := by omega
    have hl : (isoL f e w t i).length ≤ i := isoL_le f e w t i
    have es := isoL_succ f e w t i
    rw [r40_l0]
    by_cases q1 : w ≤ t
    · by_cases q2 : t < f + i * e
      · rw [if_pos ⟨q1, q2⟩] at es
        have ha := append_own (b := 3) (g := 1 + (isoL f e w t i).length) (bytes := 8) (e := none) (ys := (isoL f e w t i).map ci) (xs := [ci i]) (h := [.cells 1 [] 0, .cells 1 [.c (ci w), .c (ci t)] 0, .cells 1 [.c (ci w), .c (ci t), .c (ci f), .c (ci e)] 0, .cells (1 + (isoL f e w t i).length) (cellsOf ((isoL f e w t i).map ci)) 0]) (len := (isoL f e w t i).length) (fz := 0) rfl (intElems _) (intElems [(i : Int)]) (by simp) (Nat.zero_le _) (by simp) (by simp; omega) (by simp; omega)
        have e2 : (isoL f e w t i).map ci ++ [ci i] = (isoL f e w t i ++ [(i : Int)]).map ci := by simp
        rw [e2, cellsOf_ints, cellsOf_ints] at ha
        have e1 : 1 + ((isoL f e w t i).length + 1) = 1 + (isoL f e w t i).length + 1 := by omega
        simp [es, e1] at ih ha
        simp [c40_l0b, w1, w2, w4, hlt, q1, q2, ha, under_cI, ih]
      · rw [if_neg (fun q => q2 q.2)] at es
        simp [es] at ih
        simp [c40_l0b, w1, w2, w4, hlt, q1, q2, under_cI, ih]
    · rw [if_neg (fun q => q1 q.1)] at es
      simp [es] at ih
      simp [c40_l0b, w1, w2, w4, hlt, q1, under_cI, ih]

end LM.G6

namespace LM.G6
open Go LM
variable {P : Nat → Option SFunc} [Has P]

theorem firstE_zB (e : Int) (r : List Int) : firstE (e :: r) = 0 ↔ e = 0 ∧ firstE r = 0 := by
  rw [firstE]
  by_cases h : e = 0 <;> simp [h]
theorem whenE_z {b : Bool} {e : Int} (he : e ≠ 0) : whenE b e = 0 ↔ b = false := by
  unfold whenE
  cases b <;> simp [he]
theorem outside_f {x a b : Int} : outside x a b = false ↔ a ≤ x ∧ x ≤ b := by
  unfold outside
  by_cases h1 : x < a <;> by_cases h2 : x > b <;> simp [h1, h2] <;> omega
theorem startsE_zero {n f e : Int} {ts : List Int} (h : startsE n f e ts = 0) : (0 ≤ n ∧ n ≤ 160) ∧ (∀ t ∈ ts, 0 ≤ t ∧ t ≤ 86399999) ∧ (0 ≤ f ∧ f ≤ 86399999) ∧ (0 ≤ e ∧ e ≤ 86399999) := by
  unfold startsE at h
  simp only [firstE_zB, whenE_z (show (3 : Int) ≠ 0 by decide), outside_f] at h
  obtain ⟨h1, h2, _⟩ := h
  rw [List.any_eq_false] at h2
  have key : ∀ t ∈ ts ++ [f, e], 0 ≤ t ∧ t ≤ 86399999 := fun t ht => by
    have := h2 t ht
    exact outside_f.1 (by simpa [badT] using this)
  exact ⟨h1, fun t ht => key t (by simp [ht]), key f (by simp), key e (by simp)⟩

theorem S39 (n f e w : Int) : fn P 39 [ci n, ci f, ci e, ci w] = some (if startsE n f e [w] = 0 then .tuple [.slice ((callsL f e w n.toNat).map Pr.enc), ci 0] else .tuple [.slice [], ci (startsE n f e [w])]) := by
  have a := S108_1 (P := P) n f e w
  rw [u39]
  by_cases h : startsE n f e [w] = 0
  · obtain ⟨hn, ht, hf, he⟩ := startsE_zero h
    have hw := ht w (by simp)
    obtain ⟨k, rfl⟩ : ∃ k : Nat, n = k := ⟨n.toNat, by omega⟩
    have hL := L39 (P := P) k (by omega) f e w hf he hw k 0 (by omega)
    have hl : (callsL f e w k).length = k := by simp [callsL]
    have e0 : callsL f e w 0 = [] := rfl
    have hr := resV_own (b := 3) (g := 1 + k) (fz := 0) (e := some 2) (ys := (callsL f e w k).map Pr.enc) (h := [.cells 1 [] 0, .cells 1 [.c (ci w)] 0, .cells 1 [.c (ci w), .c (ci f), .c (ci e)] 0, .cells (1 + k) (cellsOf ((callsL f e w k).map Pr.enc)) 0]) (len := k) rfl (Pr.elems _) (by simp [hl]) none (ci 0)
    have c0 : cellsOf [] = [] := rfl
    simp [e0, c0] at hL
    simp [c39, a, frzFuncs_nil, frzFuncs_c, frzFuncs_slice, h, hL, hr]
  · simp [c39, a, frzFuncs_nil, frzFuncs_c, frzFuncs_slice, h]
theorem S40 (n f e w t : Int) : fn P 40 [ci n, ci f, ci e, ci w, ci t] = some (if startsE n f e [w, t] = 0 then .tuple [.slice ((isoL f e w t n.toNat).map ci), ci 0] else .tuple [.slice [], ci (startsE n f e [w, t])]) := by
  have a := S108_2 (P := P) n f e w t
  rw [u40]
  by_cases h : startsE n f e [w, t] = 0
  · obtain ⟨hn, ht, hf, he⟩ := startsE_zero h
    obtain ⟨k, rfl⟩ : ∃ k : Nat, n = k := ⟨n.toNat, by omega⟩
    have hL := L40 (P := P) k (by omega) f e w t hf he k 0 (by omega)
    have e0 : isoL f e w t 0 = [] := rfl
    have hr := resV_own (b := 3) (g := 1 + (isoL f e w t k).length) (fz := 0) (e := none) (ys := (isoL f e w t k).map ci) (h := [.cells 1 [] 0, .cells 1 [.c (ci w), .c (ci t)] 0, .cells 1 [.c (ci w), .c (ci t), .c (ci f), .c (ci e)] 0, .cells (1 + (isoL f e w t k).length) (cellsOf ((isoL f e w t k).map ci)) 0]) (len := (isoL f e w t k).length) rfl (intElems _) (by simp) none (ci 0)
    have c0 : cI [] = [] := rfl
    rw [cellsOf_ints] at hr
    simp [e0, c0] at hL
    simp [c40, a, frzFuncs_nil, frzFuncs_c, frzFuncs_slice, h, hL, hr]
  · simp [c40, a, frzFuncs_nil, frzFuncs_c, frzFuncs_slice, h]
theorem S44 (n f e w : Int) (hn : 0 ≤ n ∧ n ≤ 160) (hf : 0 ≤ f ∧ f ≤ 86399999) (he : 0 ≤ e ∧ e ≤ 86399999) (hw : 0 ≤ w ∧ w ≤ 86399999) : fn P 44 [ci n, ci f, ci e, ci w] = some (.slice ((callsL f e w n.toNat).map Pr.enc)) := by
  obtain ⟨k, rfl⟩ : ∃ k : Nat, n = k := ⟨n.toNat, by omega⟩
  have hL := L44 (P := P) k (by omega) f e w hf he hw k 0 (by omega)
  have hl : (callsL f e w k).length = k := by simp [callsL]
  have e0 : callsL f e w 0 = [] := rfl
  have hr := resV_own1 (b := 1) (g := 1 + k) (fz := 0) (e := some 2) (ys := (callsL f e w k).map Pr.enc) (h := [.cells 1 [] 0, .cells (1 + k) (cellsOf ((callsL f e w k).map Pr.enc)) 0]) (len := k) rfl (Pr.elems _) (by simp [hl]) none
  have c0 : cellsOf [] = [] := rfl
  simp [e0, c0] at hL
  rw [u44]
  simp [c44, hL, hr]
theorem S43 (n f e w t : Int) (hn : 0 ≤ n ∧ n ≤ 160) (hf : 0 ≤ f ∧ f ≤ 86399999) (he : 0 ≤ e ∧ e ≤ 86399999) : fn P 43 [ci n, ci f, ci e, ci w, ci t] = some (.slice ((isoL f e w t n.toNat).map ci)) := by
  obtain ⟨k, rfl⟩ : ∃ k : Nat, n = k := ⟨n.toNat, by omega⟩
  have hL := L43 (P := P) k (by omega) f e w t hf he k 0 (by omega)
  have e0 : isoL f e w t 0 = [] := rfl
  have hr := resV_own1 (b := 1) (g := 1 + (isoL f e w t k).length) (fz := 0) (e := none) (ys := (isoL f e w t k).map ci) (h := [.cells 1 [] 0, .cells (1 + (isoL f e w t k).length) (cellsOf ((isoL f e w t k).map ci)) 0]) (len := (isoL f e w t k).length) rfl (intElems _) (by simp) none
  have c0 : cI [] = [] := rfl
  rw [cellsOf_ints] at hr
  simp [e0, c0] at hL
  rw [u43]
  simp [c43, hL, hr]

theorem L28 : ∀ (l p m q : List Int), p.length = q.length → l.length = m.length → ((p ++ l).length : Int) < 9223372036854775807 →
    execS P (limS P) c28_l0 ⟨[.c (.slice ((p ++ l).map ci)), .c (.slice ((q ++ m).map ci)), .c (ci p.length)], []⟩ = if l = m then some (.exit 0, ⟨[], []⟩) else some (.ret, ⟨[.c (.bool false)], []⟩) := by
  intro l
  induction l with
  | nil =>
    intro p m q hp hl h
    have : m = [] := List.eq_nil_of_length_eq_zero hl.symm
    subst this
    rw [r28_l0]
    simp [c28_l0b]
  | cons c r ih =>
    intro p m q hp hl h
    cases m with
    | nil => simp at hl
    | cons d m =>
      have ih := ih (p ++ [c]) m (q ++ [d]) (by simp [hp]) (by simpa using hl) (by simpa using h)
      simp at ih h hl
      have hw : IntKind.i64.wrap (↑p.length + 1) = ↑p.length + 1 := wrap64 (by omega) (by omega)
      have hlt : (p.length : Int) < p.length + (r.length + 1) := by omega
      have hlt2 : p.length < q.length + (m.length + 1) := by omega
      have hlt3 : (p.length : Int) < q.length + (m.length + 1) := by omega
      have hg : (List.map ci q ++ ci d :: List.map ci m)[p.length]'(by simpa using hlt2) = ci d := by simp [hp]
      rw [r28_l0]
      by_cases h0 : c = d
      · subst h0
        simp [c28_l0b, hw, hlt, hlt2, hlt3, hg]
        exact ih
      · simp [c28_l0b, hw, hlt, hlt2, hlt3, hg, h0]

@[simp] theorem S28 (l m : List Int) (h : (l.length : Int) < 9223372036854775807) : fn P 28 [.slice (l.map ci), .slice (m.map ci)] = some (.bool (decide (l = m))) := by
  rw [u28]
  by_cases hl : l.length = m.length
  · have := L28 (P := P) l [] m [] rfl hl (by simpa using h)
    simp at this
    by_cases h0 : l = m
    · rw [if_pos h0] at this
      rw [decide_eq_true h0]
      simp [c28, hl, this]
    · rw [if_neg h0] at this
      rw [decide_eq_false h0]
      simp [c28, hl, this]
  · have h1 : ¬ (l.length : Int) = m.length := by omega
    have h2 : ¬ l = m := fun e => hl (by rw [e])
    simp [c28, h1, h2]

theorem S25 (l m : List Int) (e bad : Int) (h : (l.length : Int) < 9223372036854775807) : fn P 25 [.slice (l.map ci), ci e, ci bad, .slice (m.map ci)] = some (.bool (if bad ≠ 0 then l.isEmpty && (e == bad) else (e == 0) && decide (l = m))) := by
  have e28 := S28 (P := P) l m h
  rw [u25]
  by_cases hb : bad = 0
  · by_cases he : e = 0
    · simp [c25, hb, he, e28]
    · simp [c25, hb, he]
  · cases l with
    | nil => simp [c25, hb] <;> rfl
    | cons x r =>
      have : ¬ (r.length : Int) + 1 = 0 := by omega
      simp [c25, hb, this]
end LM.G6

namespace LM.G6
open Go LM
variable {P : Nat → Option SFunc} [Has P]

theorem sortI_mem_range {lt : Int → Int → Bool} {n : Nat} {S U : List Int} (h1 : ∀ y ∈ S, 0 ≤ y ∧ y < n) (h2 : ∀ y ∈ U, 0 ≤ y ∧ y < n) : ∀ y ∈ sortI lt S U, 0 ≤ y ∧ y < n := by
  intro y hy
  have := (sortI_perm (lt := lt) S U).mem_iff.1 hy
  rcases List.mem_append.1 this with q | q
  · exact h1 y q
  · exact h2 y q

theorem L26_1 (l : List Stt) (hs : ∀ x ∈ l, 0 ≤ x.seed ∧ x.seed ≤ 999999999) (X : List LB) (hX : underB X.length X = true) : ∀ (r pre : List Int) (O : List Int), (pre ++ r).length < 1000 → (∀ y ∈ pre ++ r, 0 ≤ y ∧ y < l.length) → (∀ y ∈ O, 0 ≤ y ∧ y < l.length) → O.length = pre.length →
    execS P (limS P) c26_l1 ⟨[.c (.slice (l.map Stt.enc)), .c (.slice ((pre ++ r).map ci)), .c (.slice (O.map ci)), .c (ci pre.length)], X⟩ = some (.exit 0, ⟨[.c (.slice ((sortI (ltR l) O r).map ci))], X⟩) := by
  intro r
  induction r with
  | nil =>
    intro pre O h1 h2 h3 h4
    rw [r26_l1]
    simp [c26_l1b, sortI]
  | cons x r ih =>
    intro pre O h1 h2 h3 h4
    have hxr := h2 x (by simp)
    have ih := ih (pre ++ [x]) (insS (ltR l) x O) (by simpa using h1) (by simpa using h2) (by
      intro y hy
      rcases List.mem_cons.1 ((insS_perm x O).mem_iff.1 hy) with rfl | q
      · exact hxr
      · exact h3 y q) (by rw [insS_length]; simp [h4])
    obtain ⟨k, k1, k2, k3⟩ := L26_0 (P := P) l (pre ++ x :: r) pre.length X x (by simp) (by simp) h1 h2 hs O.reverse [] O (by simp) h3 (by simp at h1; omega)
    have e99 := S99 (P := P) O k x k1 (by simp at h1; omega)
    have ek : insL (ltR l) x O.reverse [] = insS (ltR l) x O := rfl
    rw [k2, ek] at e99
    rw [sortI]
    simp at h1 k3 ih
    have hw : IntKind.i64.wrap (↑pre.length + 1) = ↑pre.length + 1 := wrap64 (by omega) (by omega)
    have hlt : (pre.length : Int) < pre.length + (r.length + 1) := by omega
    have ht : List.take X.length X = X := List.take_length
    rw [r26_l1]
    simp [c26_l1b, hlt, hw, k3, e99, hX, ht, ih]

theorem L26_nil (l : List Stt) (D : List Int) (i : Nat) (hi : (i : Int) < D.length) (X : List LB) (b g : Nat) (cp : Option Nat) : execS P (limS P) c26_l0 ⟨[.c (.slice (l.map Stt.enc)), .c (.slice (D.map ci)), .slice b g 0 0 none cp, .c (ci i), .c (ci 0)], X⟩ = some (.exit 2, ⟨[.c (.slice (l.map Stt.enc)), .c (.slice (D.map ci)), .slice b g 0 0 none cp, .c (ci i), .c (ci 0)], X⟩) := by
  rw [r26_l0]
  simp [c26_l0b]
theorem S26 (l : List Stt) (key : Int) (hs : ∀ x ∈ l, 0 ≤ x.seed ∧ x.seed ≤ 999999999) (hd : drawE key l.length = 0) : fn P 26 [.slice (l.map Stt.enc), ci key] = some (.slice ((seedL l key).map ci)) := by
  have e97 := S97 (P := P) key l.length hd
  obtain ⟨d1, d2, d3⟩ := drawE_zero hd
  have hr := drawL_range d1 d2 (n := l.length)
  have hlen := drawL_length key l.length
  unfold seedL
  rw [u26]
  cases hD : drawL key l.length with
  | nil =>
    rw [hD] at e97
    have hL : ∀ E, execS P (limS P) c26_l1 ⟨[.c (.slice (l.map Stt.enc)), .c (.slice []), .slice 1 1 0 0 none none, .c (ci 0)], E⟩ = some (.exit 0, ⟨[.slice 1 1 0 0 none none], E⟩) := by
      intro E
      rw [r26_l1]
      simp [c26_l1b]
    simp at e97
    simp [c26, e97, hL, sortI]
  | cons x r =>
    rw [hD] at e97 hr hlen
    have hL := L26_1 (P := P) l hs [.cells 1 [] 0, .cells 1 [] 0] rfl r [x] [x] (by simp at hlen ⊢; omega) (by simpa using hr) (by
      intro y hy
      simp at hy
      subst hy
      exact hr y (by simp)) (by simp)
    have h0 := L26_nil (P := P) l (x :: r) 0 (by simp) [.cells 1 [] 0, .cells 1 [] 0] 1 1 none
    have e99 := S99 (P := P) [] 0 x (by simp) (by simp)
    have w1 : IntKind.i64.wrap 1 = 1 := rfl
    have hlt : (0 : Int) < (r.length : Int) + 1 := by omega
    simp at e97 hL h0 e99
    have hL1 : execS P (limS P) c26_l1 ⟨[.c (.slice (l.map Stt.enc)), .c (.slice (ci x :: r.map ci)), .slice 1 1 0 0 none none, .c (ci 0)], [.cells 1 [] 0, .cells 1 [] 0]⟩ = some (.exit 0, ⟨[.c (.slice ((sortI (ltR l) [x] r).map ci))], [.cells 1 [] 0, .cells 1 [] 0]⟩) := by
      rw [r26_l1]
      simp [c26_l1b, hlt, w1, h0, e99, hL]
    have ei : insS (ltR l) x [] = [x] := rfl
    simp [c26, e97, hL1, sortI, ei]

theorem starters_seeds {l : List Stt} (h : startersE l = 0) : l.length ≤ 160 ∧ ∀ x ∈ l, 0 ≤ x.seed ∧ x.seed ≤ 999999999 := by
  unfold startersE at h
  split at h
  · cases h
  · rename_i hl
    refine ⟨by omega, ?_⟩
    have key : ∀ (r pre : List Stt), eachE stE pre r = 0 → ∀ x ∈ r, 0 ≤ x.seed ∧ x.seed ≤ 999999999 := by
      intro r
      induction r with
      | nil => simp
      | cons a r ih =>
        intro pre h x hx
        rw [eachE] at h
        split at h
        · rename_i q; exact absurd h q
        · rename_i q
          rcases List.mem_cons.1 hx with rfl | hx
          · have q : stE pre x = 0 := by simpa using q
            unfold stE at q
            simp only [firstE_zB, whenE_z (show (3 : Int) ≠ 0 by decide), outside_f] at q
            exact q.2.2.2.1
          · exact ih _ h x hx
    exact key l [] h
end LM.G6

namespace LM.G6
open Go LM
variable {P : Nat → Option SFunc} [Has P]

/-- A row: where its block lies, and its numbers. -/
abbrev Row := Option Nat × List Int
def rowV : Row → LV
  | (none, _) => .nil
  | (some j, xs) => .slice (j + 1 + 1) xs.length 0 xs.length none none
structure RInv (T : List LB) (R : List Row) : Prop where
  ne : ∀ (k j : Nat) (xs : List Int), R[k]? = some (some j, xs) → xs ≠ []
  empty : ∀ (k : Nat) (xs : List Int), R[k]? = some (none, xs) → xs = []
  own : ∀ (k j : Nat) (xs : List Int), R[k]? = some (some j, xs) → T[j]? = some (.cells xs.length (cI xs) 0)
  one : ∀ (k k' j : Nat) (xs xs' : List Int), R[k]? = some (some j, xs) → R[k']? = some (some j, xs') → k = k'

theorem RInv.lt {T : List LB} {R : List Row} (h : RInv T R) {k j : Nat} {xs : List Int} (hk : R[k]? = some (some j, xs)) : j < T.length := (List.getElem?_eq_some_iff.1 (h.own k j xs hk)).1
theorem RInv.start (n : Nat) : RInv [] (List.replicate n (none, [])) := by
  have : ∀ (k : Nat) (o : Option Nat) (xs : List Int), (List.replicate n ((none, []) : Row))[k]? = some (o, xs) → o = none ∧ xs = [] := by
    intro k o xs h
    rw [List.getElem?_replicate] at h
    split at h
    · simp at h; exact ⟨h.1.symm, h.2⟩
    · cases h
  exact ⟨fun k j xs h => (by cases (this k _ xs h).1), fun k xs h => (this k _ xs h).2, fun k j xs h => (by cases (this k _ xs h).1), fun k k' j xs xs' h _ => (by cases (this k _ xs h).1)⟩
theorem RInv.new {T : List LB} {R : List Row} (h : RInv T R) (a : Nat) (ha : a < R.length) (i : Int) (W : List LB) : RInv (T ++ W ++ [.cells 1 (cI [i]) 0]) (R.set a (some (T.length + W.length), [i])) := by
  have hget : ∀ (k : Nat) (o : Option Nat) (xs : List Int), (R.set a (some (T.length + W.length), [i]))[k]? = some (o, xs) → (k = a ∧ o = some (T.length + W.length) ∧ xs = [i]) ∨ (k ≠ a ∧ R[k]? = some (o, xs)) := by
    intro k o xs hk
    rw [List.getElem?_set] at hk
    split at hk
    · rename_i e
      subst e
      simp at hk
      exact .inl ⟨rfl, hk.1.symm, hk.2.symm⟩
    · rename_i e
      exact .inr ⟨fun q => e q.symm, hk⟩
  refine ⟨?_, ?_, ?_, ?_⟩
  · intro k j xs hk
    rcases hget k (some j) xs hk with ⟨_, _, rfl⟩ | ⟨_, q⟩
    · simp
    · exact h.ne k j xs q
  · intro k xs hk
    rcases hget k none xs hk with ⟨_, q, _⟩ | ⟨_, q⟩
    · cases q
    · exact h.empty k xs q
  · intro k j xs hk
    rcases hget k (some j) xs hk with ⟨_, q, rfl⟩ | ⟨_, q⟩
    · have q : j = T.length + W.length := by simpa using q
      subst q
      rw [List.getElem?_append_right (by simp)]
      simp
    · have := h.lt q
      rw [List.append_assoc, List.getElem?_append_left this]
      exact h.own k j xs q
  · intro k k' j xs xs' h1 h2
    rcases hget k (some j) xs h1 with ⟨a1, q1, _⟩ | ⟨a1, q1⟩ <;> rcases hget k' (some j) xs' h2 with ⟨a2, q2, _⟩ | ⟨a2, q2⟩
    · rw [a1, a2]
    · have e : j = T.length + W.length := by simpa using q1
      have := h.lt q2
      omega
    · have e : j = T.length + W.length := by simpa using q2
      have := h.lt q1
      omega
    · exact h.one k k' j xs xs' q1 q2
theorem RInv.more {T : List LB} {R : List Row} (h : RInv T R) (a j : Nat) (xs : List Int) (ha : R[a]? = some (some j, xs)) (i : Int) (W : List LB) : RInv (T.set j (.cells (xs.length + 1) (cI (xs ++ [i])) 0) ++ W) (R.set a (some j, xs ++ [i])) := by
  have hal : a < R.length := (List.getElem?_eq_some_iff.1 ha).1
  have hj := h.lt ha
  have hget : ∀ (k : Nat) (o : Option Nat) (ys : List Int), (R.set a (some j, xs ++ [i]))[k]? = some (o, ys) → (k = a ∧ o = some j ∧ ys = xs ++ [i]) ∨ (k ≠ a ∧ R[k]? = some (o, ys)) := by
    intro k o ys hk
    rw [List.getElem?_set] at hk
    split at hk
    · rename_i e
      subst e
      simp at hk
      exact .inl ⟨rfl, hk.1.symm, hk.2.symm⟩
    · rename_i e
      exact .inr ⟨fun q => e q.symm, hk⟩
  refine ⟨?_, ?_, ?_, ?_⟩
  · intro k j' ys hk
    rcases hget k (some j') ys hk with ⟨_, _, rfl⟩ | ⟨_, q⟩
    · simp
    · exact h.ne k j' ys q
  · intro k ys hk
    rcases hget k none ys hk with ⟨_, q, _⟩ | ⟨_, q⟩
    · cases q
    · exact h.empty k ys q
  · intro k j' ys hk
    rcases hget k (some j') ys hk with ⟨_, q, rfl⟩ | ⟨hne, q⟩
    · have q : j' = j := by simpa using q
      subst q
      rw [List.getElem?_append_left (by simpa using hj), List.getElem?_set_self hj]
      simp
    · have hlt := h.lt q
      have hne2 : j ≠ j' := by
        intro e
        subst e
        exact hne (h.one k a j ys xs q ha)
      rw [List.getElem?_append_left (by simpa using hlt), List.getElem?_set_ne hne2]
      exact h.own k j' ys q
  · intro k k' j' ys ys' h1 h2
    rcases hget k (some j') ys h1 with ⟨a1, q1, _⟩ | ⟨a1, q1⟩ <;> rcases hget k' (some j') ys' h2 with ⟨a2, q2, _⟩ | ⟨a2, q2⟩
    · rw [a1, a2]
    · have e : j' = j := by simpa using q1
      subst e
      rw [a1]
      exact h.one a k' j' xs ys' ha q2
    · have e : j' = j := by simpa using q2
      subst e
      rw [a2]
      exact h.one k a j' ys xs q1 ha
    · exact h.one k k' j' ys ys' q1 q2

theorem bump_get {h : Heap} {k g z : Nat} {cs : List LV} (b t : Nat) (hk : h[k]? = some (.cells g cs z)) : ∃ z', (bump b t h)[k]? = some (.cells g cs z') := by
  unfold bump
  by_cases e : b = k
  · subst e
    rw [hk]
    exact ⟨_, List.getElem?_set_self (List.getElem?_eq_some_iff.1 hk).1⟩
  · split
    · rw [List.getElem?_set_ne e]
      exact ⟨z, hk⟩
    · exact ⟨z, hk⟩

/-- Rows that are frozen. -/
theorem mapH_rows (m : Nat) (hF : ∀ (b g z : Nat) (xs : List Int) (h : Heap), h[b]? = some (.cells g (cI xs) z) → frz m (.slice b g 0 xs.length none none) h = some (.slice (xs.map ci), bump b (xs.length * szOf none) h)) (hn : ∀ h, frz m .nil h = some (.slice [], h)) : ∀ (R : List Row) (h : Heap), (∀ o xs, (o, xs) ∈ R → match o with
      | none => xs = []
      | some j => ∃ z, h[j + 1 + 1]? = some (.cells xs.length (cI xs) z)) → ∃ h', mapH (frz m) (R.map rowV) h = some (R.map fun r => .slice (r.2.map ci), h')
  | [], h, _ => ⟨h, by simp⟩
  | (none, xs) :: R, h, hR => by
    have h0 := hR none xs (by simp)
    simp only at h0
    subst h0
    obtain ⟨h', ih⟩ := mapH_rows m hF hn R h (fun o xs hx => hR o xs (by simp [hx]))
    refine ⟨h', ?_⟩
    simp [mapH_cons, rowV, hn, ih]
  | (some j, xs) :: R, h, hR => by
    have hz := hR (some j) xs (by simp)
    simp only at hz
    obtain ⟨z, hz⟩ := hz
    obtain ⟨h', ih⟩ := mapH_rows m hF hn R (bump (j + 1 + 1) (xs.length * szOf none) h) (fun o ys hx => by
      have := hR o ys (by simp [hx])
      cases o with
      | none => exact this
      | some j' =>
        obtain ⟨z', hz'⟩ := this
        exact bump_get _ _ hz')
    refine ⟨h', ?_⟩
    rw [List.map_cons, mapH_cons]
    simp only [rowV]
    rw [hF _ _ _ _ _ hz]
    simp only [bnd_some, ih, List.map_cons]
theorem frzI39 (b g z : Nat) (xs : List Int) (h : Heap) (hb : h[b]? = some (.cells g (cI xs) z)) : frz 39 (.slice b g 0 xs.length none none) h = some (.slice (xs.map ci), bump b (xs.length * szOf none) h) :=
  frz_own39 (ys := xs.map ci) (by rw [cellsOf_ints]; exact hb) (intElems _) (by simp) none
theorem frzI38 (b g z : Nat) (xs : List Int) (h : Heap) (hb : h[b]? = some (.cells g (cI xs) z)) : frz 38 (.slice b g 0 xs.length none none) h = some (.slice (xs.map ci), bump b (xs.length * szOf none) h) := by
  have h3 := cellsOf_length (intElems xs)
  have h4 := chunk_cellsOf (intElems xs)
  have hz : szOf none = 1 := rfl
  rw [frz_38_slice, hb]
  simp only [Nat.zero_add, List.drop_zero, hz, Nat.mul_one]
  rw [if_pos ⟨trivial, by rw [cI_length]; omega⟩]
  have : (cI xs).take xs.length = cellsOf (xs.map ci) := by rw [← cellsOf_ints]; rw [List.take_of_length_le]; rw [cellsOf_ints, cI_length]; omega
  rw [this]
  unfold cellsOf
  rw [mapH_map_c 36]
  rw [List.length_map] at h4
  simp only [bnd_some, h4]

/-- The groups, filled one after another. -/
def atG (n p : Nat) : Nat := if p / n % 2 = 1 then n - 1 - p % n else p % n
def fillG (n : Nat) : Nat → List Int → List (List Int) → List (List Int)
  | _, [], G => G
  | p, i :: r, G => fillG n (p + 1) r (G.set (atG n p) (G.getD (atG n p) [] ++ [i]))
theorem atG_lt {n p : Nat} (h : 0 < n) : atG n p < n := by
  have := Nat.mod_lt p h
  unfold atG
  split <;> omega
end LM.G6

namespace LM.G6
open Go LM
variable {P : Nat → Option SFunc} [Has P]

def RH (T : List LB) (R : List Row) (cp : Nat) : Heap := .cells 1 [] 0 :: .cells 1 (R.map rowV) 0 :: T

theorem appNil (i : Int) (h : Heap) : appendOp none none 8 .nil (.c (.slice [ci i])) h = some (.slice h.length 1 0 1 none none, h ++ [.cells 1 (cI [i]) 0]) := rfl
theorem appNilP (p : Nat) (i : Int) (h : Heap) : appendOp (some p) none 8 .nil (.c (.slice [ci i])) h = some (.slice p 1 0 1 none none, h.set p (.cells 1 (cI [i]) 0)) := rfl
theorem underL_no {n : Nat} {v : LV} (hv : v.under n = false) : ∀ {l : List LV}, v ∈ l → underL n l = false
  | [], h => by cases h
  | w :: l, h => by
    rw [underL]
    rcases List.mem_cons.1 h with rfl | h
    · rw [hv]; rfl
    · rw [underL_no hv h]; simp
theorem under_rows {n a : Nat} {R : List Row} {v : LV} (ha : a < R.length) (hv : v.under n = false) : underL n ((R.map rowV).set a v) = false :=
  underL_no hv (List.mem_set (by simpa using ha) _)
theorem L21 (n : Nat) (hn : 0 < n) (hn2 : n ≤ 16) : ∀ (r pre : List Int) (R : List Row) (T : List LB), RInv T R → R.length = n → (∀ w ∈ R, w.2.length ≤ pre.length) → (pre ++ r).length < 1000 →
    ∃ T' R', RInv T' R' ∧ R'.length = n ∧ R'.map (·.2) = fillG n pre.length r (R.map (·.2)) ∧
    execS P (limS P) c21_l0 ⟨[.c (ci n), .slice 1 1 0 n none (some n), .c (.slice ((pre ++ r).map ci)), .c (ci (pre ++ r).length), .c (ci pre.length)], RH T R n⟩ = some (.exit 0, ⟨[.slice 1 1 0 n none (some n)], RH T' R' n⟩) := by
  intro r
  induction r with
  | nil =>
    intro pre R T hI hR hB h
    refine ⟨T, R, hI, hR, rfl, ?_⟩
    rw [r21_l0]
    simp [c21_l0b]
  | cons i r ih =>
    intro pre R T hI hR hB h
    have hlt : (pre.length : Int) < pre.length + (r.length + 1) := by omega
    simp at h
    have hw : IntKind.i64.wrap (↑pre.length + 1) = ↑pre.length + 1 := wrap64 (by omega) (by omega)
    have ha := atG_lt (p := pre.length) hn
    obtain ⟨row, hrow⟩ : ∃ row, R[atG n pre.length]? = some row := ⟨_, List.getElem?_eq_getElem (by omega)⟩
    obtain ⟨o, xs⟩ := row
    obtain ⟨x, hx⟩ : ∃ x, x = pre.length % n := ⟨_, rfl⟩
    obtain ⟨y, hy⟩ : ∃ y, y = pre.length / n := ⟨_, rfl⟩
    have m1 : (pre.length : Int) % n = x := by rw [hx]; rfl
    have m2 : (pre.length : Int) / n = y := by rw [hy]; rfl
    have m4 : (pre.length : Int).tmod n = x := by rw [hx]; rfl
    have m5 : (pre.length : Int).tdiv n = y := by rw [hy]; rfl
    have m6 : (y : Int).tmod 2 = ((y % 2 : Nat) : Int) := rfl
    have w1 : IntKind.i64.wrap (y : Int) = y := wrap64 (by have := Nat.div_le_self pre.length n; omega) (by have := Nat.div_le_self pre.length n; omega)
    have hn0 : ¬ (n : Int) = 0 := by omega
    have hn0' : n ≠ 0 := by omega
    have hml := Nat.mod_lt pre.length hn
    rw [← hx] at hml
    have hat : atG n pre.length = if y % 2 = 1 then n - 1 - x else x := by rw [hx, hy]; rfl
    have hG : fillG n pre.length (i :: r) (R.map (·.2)) = fillG n (pre.length + 1) r ((R.map (·.2)).set (atG n pre.length) ((R.map (·.2)).getD (atG n pre.length) [] ++ [i])) := rfl
    have hgd : (R.map (·.2)).getD (atG n pre.length) [] = xs := by simp [List.getD_eq_getElem?_getD, hrow]
    rw [hgd] at hG
    have hvl : ∀ w, (R.map rowV).set (atG n pre.length) (rowV w) = (R.set (atG n pre.length) w).map rowV := fun w => by rw [List.map_set]
    have hsl : ∀ w : Row, (R.map (·.2)).set (atG n pre.length) w.2 = (R.set (atG n pre.length) w).map (·.2) := fun w => by rw [List.map_set]
    have hrv : (R.map rowV)[atG n pre.length]? = some (rowV (o, xs)) := by simp [hrow]
    generalize atG n pre.length = a at *
    have hai : (a : Int) < n := by omega
    have hwa : IntKind.i64.wrap ((n : Int) - 1) = (n : Int) - 1 := wrap64 (by omega) (by omega)
    cases o with
    | none =>
      have hx := hI.empty a xs hrow
      subst hx
      obtain ⟨T', R', i1, i2, i3, i4⟩ := ih (pre ++ [i]) (R.set a (some (T.length + 0), [i])) (T ++ [] ++ [.cells 1 (cI [i]) 0]) (hI.new a (by omega) i []) (by simpa using hR) (fun w hw => by
        rcases List.mem_or_eq_of_mem_set hw with q | q
        · have := hB w q; simp; omega
        · subst q; simp; try omega) (by simpa using h)
      refine ⟨T', R', i1, i2, ?_, ?_⟩
      · rw [hG, i3]
        simp
      · have hgc := under_rows (n := T.length + 1 + 1) (a := a) (R := R) (v := .slice (T.length + 1 + 1) 1 0 1 none none) (by omega) (by simp)
        have e2 : 2 + T.length = T.length + 1 + 1 := by omega
        simp [RH, rowV] at i4
        have hv := hvl (some T.length, [i])
        simp only [rowV, List.length_cons, List.length_nil] at hv
        simp [rowV] at hrv
        have hnx : a < R.length := by omega
        have hnx1 : a + 1 ≤ R.length := by omega
        obtain ⟨_, hra⟩ := List.getElem?_eq_some_iff.1 hrow
        rw [r21_l0]
        by_cases hq : y % 2 = 1
        · rw [if_pos hq] at hat
          have hwb : IntKind.i64.wrap ((n : Int) - 1 - x) = a := by rw [show (n : Int) - 1 - x = a from by omega]; exact wrap64 (by omega) (by omega)
          simp [c21_l0b, hlt, RH, m1, m2, m4, m5, m6, hq, hn0', w1, hw, hwa, hwb, hai, hrow, rowV, hrv, appNil, hgc, hnx, hnx1, hra, i4]
        · rw [if_neg hq] at hat
          have hq2 : y % 2 = 0 := by omega
          subst hat
          simp [c21_l0b, hlt, RH, m1, m2, m4, m5, m6, hq2, hn0', w1, hw, hai, hrow, rowV, hrv, appNil, hgc, hnx, hnx1, hra, i4]
    | some j =>
      have hT := hI.own a j xs hrow
      have hjl := hI.lt hrow
      have hxb := hB _ (List.mem_of_getElem? hrow)
      simp at hxb
      obtain ⟨T', R', i1, i2, i3, i4⟩ := ih (pre ++ [i]) (R.set a (some j, xs ++ [i])) (T.set j (.cells (xs.length + 1) (cI (xs ++ [i])) 0) ++ []) (hI.more a j xs hrow i []) (by simpa using hR) (fun w hw => by
        rcases List.mem_or_eq_of_mem_set hw with q | q
        · have := hB w q; simp; omega
        · subst q; simp; try omega) (by simpa using h)
      have hxl : xs.length + 1 < 1000000 := by have := hB _ (List.mem_of_getElem? hrow); simp at this; omega
      have hap := appI none (b := j + 1 + 1) (g := xs.length) (ys := xs) (xs := [i]) (h := RH T R n) (by simp [RH, hT]) hxl
      refine ⟨T', R', i1, i2, ?_, ?_⟩
      · rw [hG, i3]
        simp
      · simp [RH, rowV] at i4
        simp [RH] at hap
        simp [rowV] at hrv
        have hnx : a < R.length := by omega
        have hnx1 : a + 1 ≤ R.length := by omega
        obtain ⟨_, hra⟩ := List.getElem?_eq_some_iff.1 hrow
        have htk : ∀ (A B : LB) (X : List LB), X.length = T.length → List.take (T.length + 1 + 1) (A :: B :: X) = A :: B :: X := fun A B X hX => List.take_of_length_le (by simp; omega)
        rw [r21_l0]
        by_cases hq : y % 2 = 1
        · rw [if_pos hq] at hat
          have hwb : IntKind.i64.wrap ((n : Int) - 1 - x) = a := by rw [show (n : Int) - 1 - x = a from by omega]; exact wrap64 (by omega) (by omega)
          simp [c21_l0b, hlt, RH, m1, m2, m4, m5, m6, hq, hn0', w1, hw, hwa, hwb, hai, hrow, rowV, hrv, hap, hnx, hnx1, hra, htk, i4]
        · rw [if_neg hq] at hat
          have hq2 : y % 2 = 0 := by omega
          subst hat
          simp [c21_l0b, hlt, RH, m1, m2, m4, m5, m6, hq2, hn0', w1, hw, hai, hrow, rowV, hrv, hap, hnx, hnx1, hra, htk, i4]

def encG (G : List (List Int)) : List CV := G.map fun xs => .slice (xs.map ci)
theorem encG_elems (G : List (List Int)) : ∀ x ∈ encG G, Elem none x := by
  intro x hx
  obtain ⟨y, _, rfl⟩ := List.mem_map.1 hx
  exact ⟨rfl, rfl⟩
theorem chunkG (G : List (List Int)) : chunk none G.length (encG G) = some (encG G) := by
  have h := chunk_cellsOf (encG_elems G)
  have e : (encG G).flatMap CV.cells = encG G := by
    unfold encG
    induction G with
    | nil => rfl
    | cons x r ih => rw [List.map_cons, List.flatMap_cons, ih (chunk_cellsOf (encG_elems r))]; rfl
  rw [e] at h
  have : (encG G).length = G.length := by simp [encG]
  rw [this] at h
  exact h
theorem rows_heap {T : List LB} {R : List Row} (hI : RInv T R) (cp : Nat) (t : Nat) : ∀ o xs, (o, xs) ∈ R → match o with
      | none => xs = []
      | some j => ∃ z, (bump 1 t (RH T R cp))[j + 1 + 1]? = some (.cells xs.length (cI xs) z) := by
  intro o xs h
  obtain ⟨k, hk⟩ := List.mem_iff_getElem?.1 h
  cases o with
  | none => exact hI.empty k xs hk
  | some j => exact bump_get (h := RH T R cp) 1 t (by simp [RH]; exact hI.own k j xs hk)
theorem resRows {T : List LB} {R : List Row} (hI : RInv T R) (k : Nat) (hR : R.length = k) (cap : Option Nat) (v : CV) (G : List (List Int)) (hG : R.map (·.2) = G) :
    resV (some (mkTuple [.slice 1 1 0 k none cap, .c v])) (RH T R k) = some (.tuple [.slice (encG G), v]) := by
  have h1 : mkTuple [.slice 1 1 0 k none cap, .c v] = .tuple [.slice 1 1 0 k none cap, .c v] := rfl
  obtain ⟨h', hm⟩ := mapH_rows 38 frzI38 (fun _ => frz_38_nil _) R (bump 1 k (RH T R k)) (rows_heap hI k k)
  have hz : szOf none = 1 := rfl
  have e1 : (R.map fun r : Row => CV.slice (r.2.map ci)) = encG G := by rw [← hG]; simp [encG]
  rw [e1] at hm
  have hc := chunkG G
  have hl : G.length = k := by rw [← hG]; simpa using hR
  rw [hl] at hc
  have hf : frz 39 (.slice 1 1 0 k none cap) (RH T R k) = some (.slice (encG G), h') := by
    rw [frz_39_slice]
    have e2 : (RH T R k)[1]? = some (.cells 1 (R.map rowV) 0) := rfl
    rw [e2]
    simp only [Nat.zero_add, List.drop_zero, hz, Nat.mul_one]
    rw [if_pos ⟨trivial, by simp [hR]⟩]
    have e3 : (R.map rowV).take k = R.map rowV := List.take_of_length_le (by simp [hR])
    rw [e3, hm]
    simp only [bnd_some, hc]
  unfold resV
  rw [bnd_some, h1, frz_tuple]
  simp only [mapH_cons, hf, bnd_some, mapH_nil]
  rfl

def groupsE (l : List Stt) (n key : Int) : Int := firstE [startersE l, whenE (outside n 1 16) 3, drawE key l.length]
def groupsL (l : List Stt) (n : Nat) (key : Int) : List (List Int) := fillG n 0 (seedL l key) (List.replicate n [])
theorem S21 (l : List Stt) (n key : Int) (hl : ∀ x ∈ l, x.ok) (hs : (l.length : Int) < 9223372036854775807) (hn : startersE l = 0 → l.length < 40) : fn P 21 [.slice (l.map Stt.enc), ci n, ci key] = some (.tuple (if groupsE l n key = 0 then [.slice (encG (groupsL l n.toNat key)), ci 0] else [.slice [], ci (groupsE l n key)])) := by
  have e19 := S19 (P := P) l hl hs
  have e20 := S20 (P := P) l key hl hs hn
  have e91 := S91 (P := P) n 1 16
  have e88 := S88_2 (P := P) (startersE l) (whenE (outside n 1 16) 3)
  rw [u21]
  by_cases h1 : firstE [startersE l, whenE (outside n 1 16) 3] = 0
  · rw [h1] at e88
    have h1' := h1
    simp only [firstE_zB, whenE_z (show (3 : Int) ≠ 0 by decide), outside_f] at h1'
    obtain ⟨z1, z2, _⟩ := h1'
    by_cases h2 : seededE l key = 0
    · have hE : groupsE l n key = 0 := by
        unfold seededE at h2
        simp only [firstE_zB] at h2
        unfold groupsE
        simp only [firstE_zB] at h1 ⊢
        exact ⟨h1.1, h1.2.1, h2.2.1, rfl⟩
      rw [if_pos h2] at e20
      rw [if_pos hE]
      obtain ⟨k, rfl⟩ : ∃ k : Nat, n = k := ⟨n.toNat, by omega⟩
      have hll := starters_seeds z1
      have hsl : (seedL l key).length = l.length := by simp [seedL, sortI_length, drawL_length]
      obtain ⟨T', R', i1, i2, i3, i4⟩ := L21 (P := P) k (by omega) (by omega) (seedL l key) [] (List.replicate k (none, [])) [] (RInv.start k) (by simp) (by simp) (by simp [hsl]; omega)
      simp [RH, rowV] at i4
      have hG : R'.map (·.2) = groupsL l k key := by rw [i3]; simp [groupsL]
      have hr := resRows i1 k i2 (some k) (ci 0) (groupsL l k key) hG
      simp [RH] at hr
      have k1 : (k : Int) * 24 ≤ 140737488355328 := by omega
      have k2 : (k : Int) ≤ 9223372036854775807 := by omega
      simp [c21, e19, e91, e88, e20, i4, k1, k2, hr]
    · have hE : groupsE l n key = seededE l key := by
        unfold groupsE seededE
        simp only [firstE_zB] at h1
        rw [h1.1, h1.2.1]
        rfl
      rw [if_neg h2] at e20
      rw [hE, if_neg h2]
      simp [c21, e19, e91, e88, e20, h2]
  · have hE : groupsE l n key = firstE [startersE l, whenE (outside n 1 16) 3] := by
      unfold groupsE
      by_cases z1 : startersE l = 0
      · rw [z1] at h1 ⊢
        by_cases z2 : whenE (outside n 1 16) 3 = 0
        · rw [z2] at h1; exact absurd rfl h1
        · simp [firstE, z2]
      · simp [firstE, z1]
    rw [hE, if_neg h1]
    simp [c21, e19, e91, e88, h1]
end LM.G6

namespace LM.G6
open Go LM
variable {P : Nat → Option SFunc} [Has P]

theorem L27 (n : Nat) (hn : 0 < n) (hn2 : n ≤ 16) : ∀ (r pre : List Int) (R : List Row) (T : List LB), RInv T R → R.length = n → (∀ w ∈ R, w.2.length ≤ pre.length) → (pre ++ r).length < 1000 →
    ∃ T' R', RInv T' R' ∧ R'.length = n ∧ R'.map (·.2) = fillG n pre.length r (R.map (·.2)) ∧
    execS P (limS P) c27_l0 ⟨[.c (ci n), .c (.slice ((pre ++ r).map ci)), .slice 1 1 0 n none (some n), .c (ci pre.length)], RH T R n⟩ = some (.exit 0, ⟨[.slice 1 1 0 n none (some n)], RH T' R' n⟩) := by
  intro r
  induction r with
  | nil =>
    intro pre R T hI hR hB h
    refine ⟨T, R, hI, hR, rfl, ?_⟩
    rw [r27_l0]
    simp [c27_l0b]
  | cons i r ih =>
    intro pre R T hI hR hB h
    have hlt : (pre.length : Int) < pre.length + (r.length + 1) := by omega
    simp at h
    have hw : IntKind.i64.wrap (↑pre.length + 1) = ↑pre.length + 1 := wrap64 (by omega) (by omega)
    have ha := atG_lt (p := pre.length) hn
    obtain ⟨row, hrow⟩ : ∃ row, R[atG n pre.length]? = some row := ⟨_, List.getElem?_eq_getElem (by omega)⟩
    obtain ⟨o, xs⟩ := row
    obtain ⟨x, hx⟩ : ∃ x, x = pre.length % n := ⟨_, rfl⟩
    obtain ⟨y, hy⟩ : ∃ y, y = pre.length / n := ⟨_, rfl⟩
    have m1 : (pre.length : Int) % n = x := by rw [hx]; rfl
    have m2 : (pre.length : Int) / n = y := by rw [hy]; rfl
    have m4 : (pre.length : Int).tmod n = x := by rw [hx]; rfl
    have m5 : (pre.length : Int).tdiv n = y := by rw [hy]; rfl
    have m6 : (y : Int).tmod 2 = ((y % 2 : Nat) : Int) := rfl
    have w1 : IntKind.i64.wrap (y : Int) = y := wrap64 (by have := Nat.div_le_self pre.length n; omega) (by have := Nat.div_le_self pre.length n; omega)
    have hn0 : ¬ (n : Int) = 0 := by omega
    have hn0' : n ≠ 0 := by omega
    have hml := Nat.mod_lt pre.length hn
    rw [← hx] at hml
    have hat : atG n pre.length = if y % 2 = 1 then n - 1 - x else x := by rw [hx, hy]; rfl
    have hG : fillG n pre.length (i :: r) (R.map (·.2)) = fillG n (pre.length + 1) r ((R.map (·.2)).set (atG n pre.length) ((R.map (·.2)).getD (atG n pre.length) [] ++ [i])) := rfl
    have hgd : (R.map (·.2)).getD (atG n pre.length) [] = xs := by simp [List.getD_eq_getElem?_getD, hrow]
    rw [hgd] at hG
    have hvl : ∀ w, (R.map rowV).set (atG n pre.length) (rowV w) = (R.set (atG n pre.length) w).map rowV := fun w => by rw [List.map_set]
    have hsl : ∀ w : Row, (R.map (·.2)).set (atG n pre.length) w.2 = (R.set (atG n pre.length) w).map (·.2) := fun w => by rw [List.map_set]
    have hrv : (R.map rowV)[atG n pre.length]? = some (rowV (o, xs)) := by simp [hrow]
    generalize atG n pre.length = a at *
    have hai : (a : Int) < n := by omega
    have hwa : IntKind.i64.wrap ((n : Int) - 1) = (n : Int) - 1 := wrap64 (by omega) (by omega)
    cases o with
    | none =>
      have hx := hI.empty a xs hrow
      subst hx
      obtain ⟨T', R', i1, i2, i3, i4⟩ := ih (pre ++ [i]) (R.set a (some (T.length + 1), [i])) (T ++ [.dead] ++ [.cells 1 (cI [i]) 0]) (hI.new a (by omega) i [.dead]) (by simpa using hR) (fun w hw => by
        rcases List.mem_or_eq_of_mem_set hw with q | q
        · have := hB w q; simp; omega
        · subst q; simp; try omega) (by simpa using h)
      refine ⟨T', R', i1, i2, ?_, ?_⟩
      · rw [hG, i3]
        simp
      · have hgc := under_rows (n := T.length + 1 + 1) (a := a) (R := R) (v := .slice (T.length + 1 + 1 + 1) 1 0 1 none none) (by omega) (by simp)
        simp [RH, rowV] at i4
        simp [rowV] at hrv
        have hnx : a < R.length := by omega
        have hnx1 : a + 1 ≤ R.length := by omega
        obtain ⟨_, hra⟩ := List.getElem?_eq_some_iff.1 hrow
        rw [r27_l0]
        by_cases hq : y % 2 = 1
        · rw [if_pos hq] at hat
          have hwb : IntKind.i64.wrap ((n : Int) - 1 - x) = a := by rw [show (n : Int) - 1 - x = a from by omega]; exact wrap64 (by omega) (by omega)
          simp [c27_l0b, hlt, RH, m1, m2, m4, m5, m6, hq, hn0', w1, hw, hwa, hwb, hai, hrow, rowV, hrv, appNilP, hgc, hnx, hnx1, hra, i4]
        · rw [if_neg hq] at hat
          have hq2 : y % 2 = 0 := by omega
          subst hat
          simp [c27_l0b, hlt, RH, m1, m2, m4, m5, m6, hq2, hn0', w1, hw, hai, hrow, rowV, hrv, appNilP, hgc, hnx, hnx1, hra, i4]
    | some j =>
      have hT := hI.own a j xs hrow
      have hjl := hI.lt hrow
      have hxb := hB _ (List.mem_of_getElem? hrow)
      simp at hxb
      have hne := hI.ne a j xs hrow
      have hset : (T ++ [LB.dead, LB.dead]).set j (.cells (xs.length + 1) (cI (xs ++ [i])) 0) = T.set j (.cells (xs.length + 1) (cI (xs ++ [i])) 0) ++ [.dead, .dead] := List.set_append_left _ _ hjl
      have htk : List.take T.length (T.set j (.cells (xs.length + 1) (cI (xs ++ [i])) 0) ++ [LB.dead, .dead]) = T.set j (.cells (xs.length + 1) (cI (xs ++ [i])) 0) := by rw [List.take_left' (by simp)]
      have hif : ∃ W : List LB, ∀ (X1 X2 : LB) (tm : List LV), (if underL (T.length + 1 + 1) ((List.map rowV R).set a (LV.slice (j + 1 + 1) (xs.length + 1) 0 (xs.length + 1) none none)) = true ∧ underB (T.length + 1 + 1) (T.set j (.cells (xs.length + 1) (cI (xs ++ [i])) 0)) = true then (⟨tm, X1 :: X2 :: T.set j (.cells (xs.length + 1) (cI (xs ++ [i])) 0)⟩ : St) else ⟨tm, X1 :: X2 :: (T.set j (.cells (xs.length + 1) (cI (xs ++ [i])) 0) ++ [.dead, .dead])⟩) = ⟨tm, X1 :: X2 :: (T.set j (.cells (xs.length + 1) (cI (xs ++ [i])) 0) ++ W)⟩ := by
        by_cases hc : underL (T.length + 1 + 1) ((List.map rowV R).set a (LV.slice (j + 1 + 1) (xs.length + 1) 0 (xs.length + 1) none none)) = true ∧ underB (T.length + 1 + 1) (T.set j (.cells (xs.length + 1) (cI (xs ++ [i])) 0)) = true
        · exact ⟨[], fun X1 X2 tm => by rw [if_pos hc]; simp⟩
        · exact ⟨[.dead, .dead], fun X1 X2 tm => by rw [if_neg hc]⟩
      obtain ⟨W, hif⟩ := hif
      obtain ⟨T', R', i1, i2, i3, i4⟩ := ih (pre ++ [i]) (R.set a (some j, xs ++ [i])) (T.set j (.cells (xs.length + 1) (cI (xs ++ [i])) 0) ++ W) (hI.more a j xs hrow i W) (by simpa using hR) (fun w hw => by
        rcases List.mem_or_eq_of_mem_set hw with q | q
        · have := hB w q; simp; omega
        · subst q; simp; try omega) (by simpa using h)
      have hxl : xs.length + 1 < 1000000 := by have := hB _ (List.mem_of_getElem? hrow); simp at this; omega
      have hap := appI (some (T.length + 1 + 1 + 1)) (b := j + 1 + 1) (g := xs.length) (ys := xs) (xs := [i]) (h := RH (T ++ [.dead, .dead]) R n) (by simp only [RH, List.getElem?_cons_succ]; rw [List.getElem?_append_left hjl]; exact hT) hxl
      refine ⟨T', R', i1, i2, ?_, ?_⟩
      · rw [hG, i3]
        simp
      · simp [RH, rowV] at i4
        simp [RH] at hap
        simp [rowV] at hrv
        have hnx : a < R.length := by omega
        have hnx1 : a + 1 ≤ R.length := by omega
        obtain ⟨_, hra⟩ := List.getElem?_eq_some_iff.1 hrow
        rw [r27_l0]
        by_cases hq : y % 2 = 1
        · rw [if_pos hq] at hat
          have hwb : IntKind.i64.wrap ((n : Int) - 1 - x) = a := by rw [show (n : Int) - 1 - x = a from by omega]; exact wrap64 (by omega) (by omega)
          simp [c27_l0b, hlt, RH, m1, m2, m4, m5, m6, hq, hn0', w1, hw, hwa, hwb, hai, hrow, rowV, hrv, hap, hnx, hnx1, hra, hjl, hne, hset, htk, hif, i4]
        · rw [if_neg hq] at hat
          have hq2 : y % 2 = 0 := by omega
          subst hat
          simp [c27_l0b, hlt, RH, m1, m2, m4, m5, m6, hq2, hn0', w1, hw, hai, hrow, rowV, hrv, hap, hnx, hnx1, hra, hjl, hne, hset, htk, hif, i4]


theorem resRows1 {T : List LB} {R : List Row} (hI : RInv T R) (k : Nat) (hR : R.length = k) (cap : Option Nat) (G : List (List Int)) (hG : R.map (·.2) = G) :
    resV (some (.slice 1 1 0 k none cap)) (RH T R k) = some (.slice (encG G)) := by
  obtain ⟨h', hm⟩ := mapH_rows 39 frzI39 (fun _ => frz_39_nil _) R (bump 1 k (RH T R k)) (rows_heap hI k k)
  have hz : szOf none = 1 := rfl
  have e1 : (R.map fun r : Row => CV.slice (r.2.map ci)) = encG G := by rw [← hG]; simp [encG]
  rw [e1] at hm
  have hc := chunkG G
  have hl : G.length = k := by rw [← hG]; simpa using hR
  rw [hl] at hc
  have hf : frz frzDepth (.slice 1 1 0 k none cap) (RH T R k) = some (.slice (encG G), h') := by
    rw [frz_slice]
    have e2 : (RH T R k)[1]? = some (.cells 1 (R.map rowV) 0) := rfl
    rw [e2]
    simp only [Nat.zero_add, List.drop_zero, hz, Nat.mul_one]
    rw [if_pos ⟨trivial, by simp [hR]⟩]
    have e3 : (R.map rowV).take k = R.map rowV := List.take_of_length_le (by simp [hR])
    rw [e3, hm]
    simp only [bnd_some, hc]
  unfold resV
  rw [bnd_some, hf]
  rfl
theorem S27 (l : List Stt) (k : Nat) (key : Int) (hk : 0 < k) (hk2 : k ≤ 16) (hs : ∀ x ∈ l, 0 ≤ x.seed ∧ x.seed ≤ 999999999) (hd : drawE key l.length = 0) : fn P 27 [.slice (l.map Stt.enc), ci k, ci key] = some (.slice (encG (groupsL l k key))) := by
  have e26 := S26 (P := P) l key hs hd
  obtain ⟨d1, d2, d3⟩ := drawE_zero hd
  have hsl : (seedL l key).length = l.length := by simp [seedL, sortI_length, drawL_length]
  obtain ⟨T', R', i1, i2, i3, i4⟩ := L27 (P := P) k hk hk2 (seedL l key) [] (List.replicate k (none, [])) [] (RInv.start k) (by simp) (by simp) (by simp [hsl]; omega)
  simp [RH, rowV] at i4
  have hG : R'.map (·.2) = groupsL l k key := by rw [i3]; simp [groupsL]
  have hr := resRows1 i1 k i2 (some k) (groupsL l k key) hG
  simp [RH] at hr
  have k1 : (k : Int) * 24 ≤ 140737488355328 := by omega
  have k2 : (k : Int) ≤ 9223372036854775807 := by omega
  rw [u27]
  simp [c27, e26, i4, k1, k2, hr]
end LM.G6

namespace LM.G6
open Go LM
variable {P : Nat → Option SFunc} [Has P] [HasP P]

theorem firstE_one (e : Int) : firstE [0, e] = e := by by_cases h : e = 0 <;> simp [firstE, h]
theorem drawE_cases (key n : Int) : drawE key n = 0 ∨ drawE key n = 3 := by unfold drawE; split <;> simp
theorem L3 (r pre : List (List Int)) (h : (pre ++ r).length < 1000) (hx : ∀ x ∈ r, (x.length : Int) < 9223372036854775807) : execS P (limS P) c3_l0 ⟨[.c (.slice (encG (pre ++ r))), .c (.slice (encG (pre ++ r))), .c (ci pre.length)], []⟩ = some (.exit 0, ⟨[], []⟩) := by
  induction r generalizing pre with
  | nil =>
    rw [r3_l0]
    simp [c3_l0b, encG]
  | cons x r ih =>
    have ih := ih (pre ++ [x]) (by simpa using h) (fun y hy => hx y (by simp [hy]))
    have e28 := S28 (P := P) x x (hx x (by simp))
    simp [encG] at ih h e28
    have hw : IntKind.i64.wrap (↑pre.length + 1) = ↑pre.length + 1 := wrap64 (by omega) (by omega)
    have hlt : (pre.length : Int) < pre.length + (r.length + 1) := by omega
    rw [r3_l0]
    simp [c3_l0b, encG, hw, hlt, e28, ih]

theorem fillG_len (n : Nat) : ∀ (r : List Int) (p : Nat) (G : List (List Int)), (fillG n p r G).length = G.length
  | [], p, G => rfl
  | i :: r, p, G => by rw [fillG, fillG_len n r]; simp
theorem fillG_small (n m : Nat) : ∀ (r : List Int) (p : Nat) (G : List (List Int)), (∀ x ∈ G, x.length + r.length ≤ m) → ∀ x ∈ fillG n p r G, x.length ≤ m
  | [], p, G, h => fun x hx => by have := h x hx; simp at this; omega
  | i :: r, p, G, h => by
    rw [fillG]
    refine fillG_small n m r (p + 1) _ ?_
    intro x hx
    rcases List.mem_or_eq_of_mem_set hx with q | q
    · have := h x q; simp at this; omega
    · subst q
      by_cases hg : atG n p < G.length
      · have := h _ (List.getElem_mem hg)
        simp at this
        simp [List.getD_eq_getElem?_getD, hg]
        omega
      · have e : G.set (atG n p) (G.getD (atG n p) [] ++ [i]) = G := List.set_eq_of_length_le (by omega)
        rw [e] at hx
        have := h _ hx
        simp only [List.length_cons] at this
        omega

theorem S3 (h16 : fn P 16 [] = some (.bool true)) (l : List Stt) (n key : Int) (hl : ∀ x ∈ l, x.ok) (hb : l.length * 40 ≤ 2 ^ 47) : fn P 3 [.slice (l.map Stt.enc), ci n, ci key] = some (.bool true) := by
  have hs : (l.length : Int) < 9223372036854775807 := by omega
  have e15 := S15 (P := P) l hb
  have e17 := S17 (P := P) l 24 hs
  rw [u3]
  cases g : shortStt l 24
  · rw [g] at e17
    simp [c3, h16, e15, e17]
  · rw [g] at e17
    have hn : startersE l = 0 → l.length < 40 := by
      intro h
      have := (starters_seeds h).1
      unfold shortStt at g
      simp at g
      omega
    have e18 := S18 (P := P) l hs
    have e19 := S19 (P := P) l hl hs
    have e20 := S20 (P := P) l key hl hs hn
    have e21 := S21 (P := P) l n key hl hs hn
    have e24 := S24 (P := P) key l.length
    by_cases z1 : startersE l = 0
    · obtain ⟨q1, q2⟩ := starters_seeds z1
      have hnn := hn z1
      have eE : seededE l key = drawE key l.length := by unfold seededE; rw [z1]; exact firstE_one _
      have eG : groupsE l n key = firstE [whenE (outside n 1 16) 3, drawE key l.length] := by unfold groupsE; rw [z1]; rfl
      rw [eE] at e20
      rw [eG] at e21
      rw [z1] at e18 e19
      rcases drawE_cases key l.length with d | d
      · have e26 := S26 (P := P) l key q2 d
        rw [d] at e20 e21 e24
        have hsl : (seedL l key).length = l.length := by simp [seedL, sortI_length, drawL_length]
        have e25 := S25 (P := P) (seedL l key) (seedL l key) 0 0 (by omega)
        by_cases z2 : whenE (outside n 1 16) 3 = 0
        · have z2' := z2
          rw [whenE_z (by decide), outside_f] at z2'
          obtain ⟨k, rfl⟩ : ∃ k : Nat, n = k := ⟨n.toNat, by omega⟩
          have e27 := S27 (P := P) l k key (by omega) (by omega) q2 d
          have hL := L3 (P := P) (groupsL l k key) [] (by simp [groupsL, fillG_len]; omega) (fun x hx => by
            have := fillG_small k 1000 (seedL l key) 0 (List.replicate k []) (by intro y hy; rw [List.eq_of_mem_replicate hy]; simp; omega) x hx
            omega)
          rw [z2] at e21
          simp [firstE] at e20 e21 e25 hL
          simp [c3, h16, e15, e17, e18, e19, e20, e21, e24, e25, e26, e27, z2, firstE, hL]
        · have z3 : whenE (outside n 1 16) 3 = 3 := by unfold whenE at z2 ⊢; split <;> simp_all
          rw [z3] at e21
          simp [firstE] at e20 e21 e25
          simp [c3, h16, e15, e17, e18, e19, e20, e21, e24, e25, e26, z3, firstE]
      · rw [d] at e20 e21 e24
        have e25 := S25 (P := P) [] [] 3 3 (by simp)
        by_cases z2 : whenE (outside n 1 16) 3 = 0
        · rw [z2] at e21
          simp [firstE] at e20 e21 e25
          simp [c3, h16, e15, e17, e18, e19, e20, e21, e24, e25, z2, firstE]
        · have z3 : whenE (outside n 1 16) 3 = 3 := by unfold whenE at z2 ⊢; split <;> simp_all
          rw [z3] at e21
          simp [firstE] at e20 e21 e25
          simp [c3, h16, e15, e17, e18, e19, e20, e21, e24, e25, z3, firstE]
    · have eE : seededE l key = startersE l := by unfold seededE; rw [firstE, if_pos z1]
      have eG : groupsE l n key = startersE l := by unfold groupsE; rw [firstE, if_pos z1]
      rw [eE, if_neg z1] at e20
      rw [eG, if_neg z1] at e21
      have e25 := S25 (P := P) [] [] (startersE l) (startersE l) (by simp)
      simp [z1] at e25
      simp [c3, h16, e15, e17, e18, e19, e20, e21, e25, z1, firstE]
end LM.G6

