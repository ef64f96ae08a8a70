/- Part 9 of what YtmhdmbfiiodeoaaGreatRaces leans on. -/
import Derived.Test.YtmhdmbfiiodeoaaGreatRows
import Derived.WalkKit
import Derived.ProofKit
import Derived.SizedLaws
import Derived.Test.YtmhdmbfiiodeoaaGreatLib1
import Derived.Test.YtmhdmbfiiodeoaaGreatLib2
import Derived.Test.YtmhdmbfiiodeoaaGreatLib3
import Derived.Test.YtmhdmbfiiodeoaaGreatRaces1
import Derived.Test.YtmhdmbfiiodeoaaGreatRaces2
import Derived.Test.YtmhdmbfiiodeoaaGreatRaces3
import Derived.Test.YtmhdmbfiiodeoaaGreatRaces4
import Derived.Test.YtmhdmbfiiodeoaaGreatRaces5
set_option linter.all false
namespace Go.Proofs.YtmhdmbfiiodeoaaGreat
open Go.ChangeShapes Go.WideShapes Go.ChangeAt Go.RowKit

theorem own_knob : ownKnob Tryz.prog.godebug = none := by kernel_rfl
theorem laid_out : laidOutB Tryz.prog = true := by kernel_rfl
theorem maps_rowed : mapsRowed Tryz.prog = true := by kernel_rfl
theorem slices_full : LM.slicesFullB Tryz.prog = true := by kernel_rfl

theorem typed_map {α : Type} {enc : α → LM.CV} {p : α → Prop} {e : LM.CTy} (h : ∀ x, LM.Typed e x → ∃ a, x = enc a ∧ p a) : ∀ {xs : List LM.CV}, (∀ x ∈ xs, LM.Typed e x) → ∃ l : List α, xs = l.map enc ∧ ∀ a ∈ l, p a
  | [], _ => ⟨[], rfl, by simp⟩
  | x :: xs, hx => by
    obtain ⟨a, ha, hp⟩ := h x (hx x (by simp))
    obtain ⟨l, hl, hq⟩ := typed_map h (xs := xs) fun y hy => hx y (by simp [hy])
    exact ⟨a :: l, by rw [ha, hl]; rfl, fun b hb => by rcases List.mem_cons.1 hb with rfl | hb; exact hp; exact hq b hb⟩

theorem typed_slice {α : Type} {enc : α → LM.CV} {p : α → Prop} {e : LM.CTy} {b : Nat} (h : ∀ x, LM.Typed e x → ∃ a, x = enc a ∧ p a) {v : LM.CV} (hv : LM.Typed (.slice b e) v) : ∃ l : List α, v = .slice (l.map enc) ∧ (∀ a ∈ l, p a) ∧ l.length * b ≤ 2 ^ 47 := by
  simp only [LM.Typed] at hv
  obtain ⟨xs, rfl, _, hb, hx⟩ := hv
  obtain ⟨l, rfl, hp⟩ := typed_map h hx
  refine ⟨l, rfl, hp, ?_⟩
  rw [List.length_map] at hb
  exact Nat.le_trans hb (by decide)

theorem typed_str {v : LM.CV} (hv : LM.Typed .str v) : ∃ s : LM.Str, v = .str s ∧ s.length < 9223372036854775807 := by
  simp only [LM.Typed] at hv
  obtain ⟨s, rfl, h⟩ := hv
  exact ⟨s, rfl, Nat.lt_of_le_of_lt h (by decide)⟩

theorem typed_int {v : LM.CV} (hv : LM.Typed (.int .i64) v) : ∃ n, v = LM.ci n ∧ -9223372036854775808 ≤ n ∧ n ≤ 9223372036854775807 := by
  simp only [LM.Typed] at hv
  obtain ⟨n, rfl, h⟩ := hv
  refine ⟨n, rfl, ?_⟩
  simp [Lit.wf, IntKind.min, IntKind.max, IntKind.bits, IntKind.signed] at h
  omega

end Go.Proofs.YtmhdmbfiiodeoaaGreat

namespace LM.G6
open Go LM
variable {P : Nat → Option SFunc} [Has P]

@[simp] theorem S89 (b : Bool) (e : Int) : fn P 89 [.bool b, ci e] = some (ci (whenE b e)) := by
  rw [u89]; cases b <;> simp [c89, whenE]

@[simp] theorem S141 (c : Nat) : fn P 141 [.int .i32 c] = some (.bool (letterN c)) := by
  rw [u141]; simp [c141, letterN]
  rw [show decide ((97 : Int) ≤ c) = decide (97 ≤ c) from decide_eq_decide.2 (by omega), show decide ((c : Int) ≤ 122) = decide (c ≤ 122) from decide_eq_decide.2 (by omega),
    show decide ((65 : Int) ≤ c) = decide (65 ≤ c) from decide_eq_decide.2 (by omega), show decide ((c : Int) ≤ 90) = decide (c ≤ 90) from decide_eq_decide.2 (by omega)]

theorem L88 : ∀ (l pre : List Int), (l.length : Int) + pre.length < 9223372036854775807 → execS P (limS P) c88_l0 ⟨[.c (.slice ((pre ++ l).map ci)), .c (ci (pre ++ l).length), .c (ci pre.length)], []⟩ = if firstE l = 0 then some (.exit 0, ⟨[], []⟩) else some (.ret, ⟨[.c (ci (firstE l))], []⟩) := by
  intro l
  induction l with
  | nil =>
    intro pre h
    rw [r88_l0]
    simp [c88_l0b, firstE]
  | cons c r ih =>
    intro pre h
    have ih := ih (pre ++ [c]) (by simp at h ⊢; omega)
    simp at ih h
    have hw : IntKind.i64.wrap (↑pre.length + 1) = ↑pre.length + 1 := wrap64 (by omega) (by omega)
    have hlt : (pre.length : Int) < pre.length + (r.length + 1) := by omega
    rw [r88_l0]
    by_cases hc : c = 0
    · subst hc
      simp [c88_l0b, firstE, hw, hlt, ih]
    · simp [c88_l0b, firstE, hw, hlt, hc]

@[simp] theorem S88 (l : List Int) (h : l.length < 9223372036854775807) : fn P 88 [.slice (l.map ci)] = some (ci (firstE l)) := by
  have := L88 (P := P) l [] (by simp; omega)
  rw [u88]
  simp at this
  simp [c88, this]
  by_cases hc : firstE l = 0 <;> simp [hc]

@[simp] theorem S88_1 (a : Int) : fn P 88 [.slice [ci a]] = some (ci (firstE [a])) := S88 [a] (by simp)
@[simp] theorem S88_2 (a b : Int) : fn P 88 [.slice [ci a, ci b]] = some (ci (firstE [a, b])) := S88 [a, b] (by simp)
@[simp] theorem S88_3 (a b c : Int) : fn P 88 [.slice [ci a, ci b, ci c]] = some (ci (firstE [a, b, c])) := S88 [a, b, c] (by simp)
@[simp] theorem S88_4 (a b c d : Int) : fn P 88 [.slice [ci a, ci b, ci c, ci d]] = some (ci (firstE [a, b, c, d])) := S88 [a, b, c, d] (by simp)
@[simp] theorem S88_5 (a b c d e : Int) : fn P 88 [.slice [ci a, ci b, ci c, ci d, ci e]] = some (ci (firstE [a, b, c, d, e])) := S88 [a, b, c, d, e] (by simp)

theorem L22 : ∀ (l pre : List Int), (l.length : Int) + pre.length < 9223372036854775807 → execS P (limS P) c22_l0 ⟨[.c (.slice ((pre ++ l).map ci)), .c (ci pre.length)], []⟩ = if firstE l = 0 then some (.exit 0, ⟨[], []⟩) else some (.ret, ⟨[.c (ci (firstE l))], []⟩) := by
  intro l
  induction l with
  | nil =>
    intro pre h
    rw [r22_l0]
    simp [c22_l0b, firstE]
  | cons c r ih =>
    intro pre h
    have ih := ih (pre ++ [c]) (by simp at h ⊢; omega)
    simp at ih h
    have hw : IntKind.i64.wrap (↑pre.length + 1) = ↑pre.length + 1 := wrap64 (by omega) (by omega)
    have hlt : (pre.length : Int) < pre.length + (r.length + 1) := by omega
    rw [r22_l0]
    by_cases hc : c = 0
    · subst hc
      simp [c22_l0b, firstE, hw, hlt, ih]
    · simp [c22_l0b, firstE, hw, hlt, hc]

@[simp] theorem S22 (l : List Int) (h : l.length < 9223372036854775807) : fn P 22 [.slice (l.map ci)] = some (ci (firstE l)) := by
  have := L22 (P := P) l [] (by simp; omega)
  rw [u22]
  simp at this
  simp [c22, this]
  by_cases hc : firstE l = 0 <;> simp [hc]

@[simp] theorem S22_2 (a b : Int) : fn P 22 [.slice [ci a, ci b]] = some (ci (firstE [a, b])) := S22 [a, b] (by simp)
@[simp] theorem S22_3 (a b c : Int) : fn P 22 [.slice [ci a, ci b, ci c]] = some (ci (firstE [a, b, c])) := S22 [a, b, c] (by simp)
@[simp] theorem S22_4 (a b c d : Int) : fn P 22 [.slice [ci a, ci b, ci c, ci d]] = some (ci (firstE [a, b, c, d])) := S22 [a, b, c, d] (by simp)

theorem L85 (s : Str) (hs : s.length ≤ 24) : ∀ (l pre : Str), s = pre ++ l → execS P (limS P) c85_l0 ⟨[.c (.str s), .c (ci pre.length)], []⟩ = if nameFrom pre.length l then some (.exit 0, ⟨[], []⟩) else some (.ret, ⟨[.c (.bool false)], []⟩) := by
  intro l
  induction l with
  | nil =>
    intro pre h
    rw [r85_l0]
    simp [c85_l0b, h, nameFrom]
  | cons c r ih =>
    intro pre h
    have ih := ih (pre ++ [c]) (by simp [h])
    simp at ih
    rw [h] at hs
    simp at hs
    have hw : IntKind.i64.wrap (↑pre.length + 1) = ↑pre.length + 1 := wrap64 (by omega) (by omega)
    have hlt : (pre.length : Int) < pre.length + (r.length + 1) := by omega
    have hn : (((↑c.toNat : Int) < 97 ∨ 122 < (↑c.toNat : Int)) ∧ ((↑c.toNat : Int) < 65 ∨ 90 < (↑c.toNat : Int))) ∧ (pre = [] ∨ ((↑c.toNat : Int) < 48 ∨ 57 < (↑c.toNat : Int)) ∧ ¬(↑c.toNat : Int) = 95) ↔ nameN pre.length c.toNat = false := by
      have hp : pre = [] ↔ pre.length = 0 := by simp
      unfold nameN letterN digitN
      cases pre with
      | nil => simp; omega
      | cons x y => simp; omega
    rw [r85_l0]
    simp [c85_l0b, h, nameFrom, hw, hlt, hn]
    rw [← h, ih]
    cases nameN pre.length c.toNat <;> simp

@[simp] theorem S85 (s : Str) : fn P 85 [.str s] = some (.bool (isName s)) := by
  rw [u85]
  by_cases h1 : s.length < 1
  · have : s = [] := List.eq_nil_of_length_eq_zero (by omega)
    subst this
    simp [c85, isName]
  · by_cases h2 : s.length > 24
    · have h3 : ¬ (s.length : Int) < 1 := by omega
      have h4 : (24 : Int) < (s.length : Int) := by omega
      have h5 : ¬ s.length ≤ 24 := by omega
      simp [c85, isName, h3, h4, h5]
    · have := L85 (P := P) s (by omega) s [] rfl
      simp at this
      have h3 : ¬ (s.length : Int) < 1 := by omega
      have h4 : ¬ (24 : Int) < (s.length : Int) := by omega
      have h5 : s.length ≤ 24 := by omega
      have h6 : 1 ≤ s.length := by omega
      simp [c85, isName, h3, h4, h5, h6, this]
      cases nameFrom 0 s <;> simp

theorem L90 (s : Str) (hs : s.length < 9223372036854775807) : ∀ (l pre : Str), s = pre ++ l → ∃ q, execS P (limS P) c90_l0 ⟨[.c (.str s), .ptr 0 0 0], [.iter s pre.length]⟩ = if nameFrom pre.length l then some (.exit 0, ⟨[.c (.str s)], [.iter s s.length]⟩) else some (.ret, ⟨[.c (.bool false)], [.iter s q]⟩) := by
  intro l
  induction l with
  | nil =>
    intro pre h
    refine ⟨0, ?_⟩
    rw [r90_l0]
    simp [c90_l0b, h, nameFrom]
  | cons c r ih =>
    intro pre h
    obtain ⟨q, ih⟩ := ih (pre ++ [c]) (by simp [h])
    simp at ih
    have hc : s[pre.length]? = some c := by simp [h]
    rw [r90_l0]
    rcases Nat.lt_or_ge c.toNat 128 with hlo | hhi
    · have hd := decode_lo hc hlo
      rw [h] at hd
      have hn : (letterN c.toNat = false ∧ (pre = [] ∨ ¬(↑c.toNat : Int) = 95 ∧ ((↑c.toNat : Int) < 48 ∨ 57 < (↑c.toNat : Int)))) ↔ nameN pre.length c.toNat = false := by
        unfold nameN digitN
        cases pre with
        | nil => simp
        | cons x y => simp; cases letterN c.toNat <;> simp; omega
      refine ⟨if nameN pre.length c.toNat = false then pre.length + 1 else q, ?_⟩
      simp [c90_l0b, h, nameFrom, hd, hn]
      rw [h] at ih
      simp at ih
      cases nameN pre.length c.toNat <;> simp [ih]
    · have hd := decode_hi hc hhi
      rw [h] at hd
      have hl : letterN (Utf8.decode { data := List.toArray (pre ++ c :: r) } pre.length).fst = false := by
        have := nameN_hi (i := 0) hd
        simpa [nameN] using this
      have h1 : ¬ (↑(Utf8.decode { data := List.toArray (pre ++ c :: r) } pre.length).fst : Int) = 95 := by omega
      have h2 : (57 : Int) < (↑(Utf8.decode { data := List.toArray (pre ++ c :: r) } pre.length).fst : Int) := by omega
      refine ⟨pre.length + (Utf8.decode { data := List.toArray (pre ++ c :: r) } pre.length).snd, ?_⟩
      simp [c90_l0b, h, nameFrom, hl, h1, h2, nameN_hi hhi]

@[simp] theorem S90 (s : Str) (hs : s.length < 9223372036854775807) : fn P 90 [.str s] = some (.bool (isName s)) := by
  rw [u90]
  obtain ⟨q, this⟩ := L90 (P := P) s hs s [] rfl
  simp at this
  simp [c90, this]
  cases hn : nameFrom 0 s
  · simp [isName, hn]
  · cases s with
    | nil => simp [isName]
    | cons c r =>
      simp [isName, hn]
      omega

end LM.G6

namespace LM.G6
open Go LM
variable {P : Nat → Option SFunc} [Has P]

structure Lic where
  name : Str
  frm : Int
  to : Int
def Lic.enc (x : Lic) : CV := .agg [.str x.name, ci x.frm, ci x.to]
def Lic.ok (x : Lic) : Prop := x.name.length < 9223372036854775807

def checkLic (x : Lic) : Int := firstE [named x.name, dated x.frm, dated x.to, whenE (decide (x.frm > x.to)) 11]

/-- The first error of a list's elements. -/
def eachE {α : Type} (chk : List α → α → Int) : List α → List α → Int
  | _, [] => 0
  | pre, x :: r => if chk pre x ≠ 0 then chk pre x else eachE chk (pre ++ [x]) r

def checkLics (l : List Lic) : Int := if (l.length : Int) > 256 then 5 else eachE (fun _ => checkLic) [] l

end LM.G6

namespace LM.G6
open Go LM

/-- The number of the first element of a kind, or -1. -/
def idxF {α : Type} (p : α → Bool) : Nat → List α → Int
  | _, [] => -1
  | n, x :: r => if p x then n else idxF p (n + 1) r

theorem idxF_lt {α : Type} (p : α → Bool) : ∀ (l : List α) (n : Nat), (idxF p n l < 0) ↔ l.any p = false
  | [], n => by simp [idxF]
  | x :: r, n => by
    unfold idxF
    cases h : p x
    · simp [h, idxF_lt p r (n + 1)]
    · simp [h]

theorem idxF_none {α : Type} {p : α → Bool} : ∀ {l : List α} {n : Nat}, l.any p = false → idxF p n l = -1
  | [], n, _ => rfl
  | x :: r, n, h => by
    simp only [List.any_cons, Bool.or_eq_false_iff] at h
    rw [idxF, if_neg (by simp [h.1]), idxF_none h.2]

theorem idxF_dec {α : Type} (p : α → Bool) (l : List α) (n : Nat) : decide (0 ≤ idxF p n l) = l.any p := by
  have := idxF_lt p l n
  cases h : l.any p
  · have := this.2 h
    simp; omega
  · have : ¬ idxF p n l < 0 := fun q => by rw [this.1 q] at h; cases h
    simp; omega

end LM.G6

namespace LM.G6
open Go LM
variable {P : Nat → Option SFunc} [Has P]

def Str.is (s : Str) (x : Str) : Bool := x == s
theorem Str.is_eq (s x : Str) : Str.is s x = decide (x = s) := by unfold Str.is; by_cases h : x = s <;> simp [h]
theorem Str.is_eq' (s x : Str) : Str.is s x = decide (s = x) := by rw [Str.is_eq]; exact decide_eq_decide.2 eq_comm

theorem L148 (s : Str) : ∀ (l pre : List Str), ((pre ++ l).length : Int) < 9223372036854775807 →
    execS P (limS P) c148_l0 ⟨[.c (.slice ((pre ++ l).map CV.str)), .c (.str s), .c (ci (pre ++ l).length), .c (ci pre.length)], []⟩ = if l.any (Str.is s) then some (.ret, ⟨[.c (ci (idxF (Str.is s) pre.length l))], []⟩) else some (.exit 0, ⟨[], []⟩) := by
  intro l
  induction l with
  | nil =>
    intro pre h
    rw [r148_l0]
    simp [c148_l0b]
  | cons x r ih =>
    intro pre h
    have ih := ih (pre ++ [x]) (by simpa using h)
    simp at ih h
    have hw : IntKind.i64.wrap (↑pre.length + 1) = ↑pre.length + 1 := wrap64 (by omega) (by omega)
    have hlt : (pre.length : Int) < pre.length + (r.length + 1) := by omega
    have e := Str.is_eq' s x
    rw [r148_l0]
    by_cases h0 : s = x
    · simp only [h0, decide_true] at e
      simp [c148_l0b, hw, hlt, idxF, h0, e]
    · simp only [h0, decide_false] at e
      simp [c148_l0b, hw, hlt, idxF, h0, e, ih]

theorem S113 (s : Str) (l : List Str) (h : (l.length : Int) < 9223372036854775807) : fn P 113 [.slice (l.map CV.str), .str s] = some (.bool (l.any (Str.is s))) := by
  have hl := L148 (P := P) s l [] (by simpa using h)
  have h2 : fn P 148 [.slice (l.map CV.str), .str s] = some (ci (idxF (Str.is s) 0 l)) := by
    rw [u148]
    simp at hl
    simp [c148, hl]
    exact fun hx => (idxF_none (by simpa using hx)).symm
  rw [u113]
  simp [c113, h2, idxF_dec]

def once (pre : List Str) (s : Str) : Int := firstE [named s, whenE (pre.any (Str.is s)) 9]

def onceL (m : Int) (l : List Str) : Int := if (l.length : Int) > m then 5 else eachE once [] l

theorem L81 (s : Str) : ∀ (l pre : List Str), ((pre ++ l).length : Int) < 9223372036854775807 →
    execS P (limS P) c81_l0 ⟨[.c (.slice ((pre ++ l).map CV.str)), .c (.str s), .c (ci pre.length)], []⟩ = if l.any (Str.is s) then some (.ret, ⟨[.c (.bool true)], []⟩) else some (.exit 0, ⟨[], []⟩) := by
  intro l
  induction l with
  | nil =>
    intro pre h
    rw [r81_l0]
    simp [c81_l0b]
  | cons x r ih =>
    intro pre h
    have ih := ih (pre ++ [x]) (by simpa using h)
    simp at ih h
    have hw : IntKind.i64.wrap (↑pre.length + 1) = ↑pre.length + 1 := wrap64 (by omega) (by omega)
    have hlt : (pre.length : Int) < pre.length + (r.length + 1) := by omega
    have e := Str.is_eq s x
    rw [r81_l0]
    by_cases h0 : x = s
    · simp only [h0, decide_true] at e
      simp [c81_l0b, hw, hlt, h0, e]
    · simp only [h0, decide_false] at e
      simp [c81_l0b, hw, hlt, h0, e, ih]

theorem S81 (s : Str) (l : List Str) (h : (l.length : Int) < 9223372036854775807) : fn P 81 [.slice (l.map CV.str), .str s] = some (.bool (l.any (Str.is s))) := by
  have hl := L81 (P := P) s l [] (by simpa using h)
  simp [-List.any_eq_true] at hl
  rw [u81]
  cases h0 : l.any (Str.is s) <;> rw [h0] at hl <;> simp [c81, hl]

theorem once_eq (pre : List Str) (s : Str) : once pre s = if isName s = false then 8 else if pre.any (Str.is s) then 9 else 0 := by
  unfold once named whenE
  cases isName s <;> cases pre.any (Str.is s) <;> simp [firstE]

def shortS (s : Str) : Bool := decide (s.length ≤ 40)
def shortL (l : List Str) (n : Int) : Bool := l.all shortS && decide ((l.length : Int) ≤ n)
end LM.G6

namespace LM.G6
open Go LM
variable {P : Nat → Option SFunc} [Has P]

def cI (xs : List Int) : List LV := xs.map fun v => LV.c (ci v)
theorem cI_length (xs : List Int) : (cI xs).length = xs.length := by simp [cI]
theorem cI_get {xs : List Int} {i : Nat} (h : i < xs.length) : (cI xs)[i]'(by rw [cI_length]; exact h) = .c (ci (xs.getD i 0)) := by
  simp [cI, List.getD_eq_getElem?_getD, h]
theorem cI_set (xs : List Int) (i : Nat) (v : Int) : (cI xs).set i (.c (ci v)) = cI (xs.set i v) := by
  unfold cI
  rw [List.map_set]
theorem cellsOf_ints (xs : List Int) : cellsOf (xs.map ci) = cI xs := by
  induction xs with
  | nil => rfl
  | cons x r ih =>
    have : cellsOf ((x :: r).map ci) = .c (ci x) :: cellsOf (r.map ci) := rfl
    rw [this, ih]
    rfl
theorem intElems (l : List Int) : ∀ x ∈ l.map ci, Elem none x := by
  intro x hx
  obtain ⟨y, _, rfl⟩ := List.mem_map.1 hx
  exact ⟨rfl, rfl⟩
theorem under_cI (n : Nat) (xs : List Int) : underL n (cI xs) = true := by rw [← cellsOf_ints]; exact underL_cellsOf _ _

theorem shift_cI (n : Nat) : ∀ xs : List Int, shiftL n (cI xs) = cI xs
  | [] => rfl
  | x :: r => by
    have : cI (x :: r) = .c (ci x) :: cI r := rfl
    rw [this, shiftL, shift_cI n r]
    rfl

def sw (xs : List Int) (i k : Nat) : List Int := (xs.set i (xs.getD k 0)).set k (xs.getD i 0)
theorem sw_length (xs : List Int) (i k : Nat) : (sw xs i k).length = xs.length := by simp [sw]

def nextX (x : Int) : Int := (48271 * x).tmod 2147483647
def drawN (n : Nat) : Nat → Nat → Int → List Int → List Int
  | 0, _, _, xs => xs
  | m + 1, i, x, xs => drawN n m (i + 1) (nextX x) (sw xs i (i + ((nextX x).tmod ((n : Int) - i)).toNat))
def iota (n : Nat) : List Int := (List.range n).map fun (k : Nat) => (k : Int)
def drawL (key : Int) (n : Nat) : List Int := drawN n (n - 1) 0 key (iota n)
theorem iota_length (n : Nat) : (iota n).length = n := by simp [iota]
theorem drawN_length (n : Nat) : ∀ (m i : Nat) (x : Int) (xs : List Int), (drawN n m i x xs).length = xs.length
  | 0, _, _, _ => rfl
  | m + 1, i, x, xs => by rw [drawN, drawN_length, sw_length]
theorem drawL_length (key : Int) (n : Nat) : (drawL key n).length = n := by rw [drawL, drawN_length, iota_length]

theorem nextX_range {x : Int} (h0 : 0 ≤ x) (h1 : x ≤ 2147483646) : 0 ≤ nextX x ∧ nextX x ≤ 2147483646 := by
  unfold nextX
  rw [Int.tmod_eq_emod_of_nonneg (by omega)]
  omega
theorem step_range {x : Int} {n i : Nat} (h0 : 0 ≤ x) (hi : i < n) : 0 ≤ x.tmod ((n : Int) - i) ∧ x.tmod ((n : Int) - i) < (n : Int) - i := by
  rw [Int.tmod_eq_emod_of_nonneg h0]
  exact ⟨Int.emod_nonneg _ (by omega), Int.emod_lt_of_pos _ (by omega)⟩

theorem sw_mem {xs : List Int} {i k : Nat} (hi : i < xs.length) (hk : k < xs.length) : ∀ v ∈ sw xs i k, v ∈ xs := by
  intro v hv
  unfold sw at hv
  rcases List.mem_or_eq_of_mem_set hv with h | h
  · rcases List.mem_or_eq_of_mem_set h with h | h
    · exact h
    · rw [h, List.getD_eq_getElem?_getD, List.getElem?_eq_getElem hk]; exact List.getElem_mem hk
  · rw [h, List.getD_eq_getElem?_getD, List.getElem?_eq_getElem hi]; exact List.getElem_mem hi

theorem drawN_mem (n : Nat) : ∀ (m i : Nat) (x : Int) (xs : List Int), i + m < n → 0 ≤ x → x ≤ 2147483646 → xs.length = n → ∀ v ∈ drawN n m i x xs, v ∈ xs
  | 0, _, _, _, _, _, _, _, v, hv => hv
  | m + 1, i, x, xs, hm, h0, h1, hl, v, hv => by
    rw [drawN] at hv
    have hx := nextX_range h0 h1
    have hs := step_range (n := n) (i := i) hx.1 (by omega)
    have := drawN_mem n m (i + 1) _ _ (by omega) hx.1 hx.2 (by rw [sw_length, hl]) v hv
    exact sw_mem (by omega) (by omega) v this

theorem drawL_range {key : Int} {n : Nat} (h0 : 1 ≤ key) (h1 : key ≤ 2147483646) : ∀ v ∈ drawL key n, 0 ≤ v ∧ v < n := by
  intro v hv
  unfold drawL at hv
  have hv : v ∈ iota n := by
    rcases Nat.eq_zero_or_pos n with h | h
    · subst h; exact hv
    · exact drawN_mem n (n - 1) 0 key _ (by omega) (by omega) h1 (iota_length n) v hv
  unfold iota at hv
  obtain ⟨k, hk, rfl⟩ := List.mem_map.1 hv
  have := List.mem_range.1 hk
  omega

theorem L92_1 (n : Nat) (hn : n ≤ 256) (cap : Option Nat) : ∀ (m i : Nat) (x : Int) (xs : List Int), i + m + 1 = n → 0 ≤ x → x ≤ 2147483646 → xs.length = n →
    execS P (limS P) c92_l1 ⟨[.c (ci n), .slice 1 1 0 n none cap, .c (ci x), .c (ci i)], [.cells 1 [] 0, .cells 1 (cI xs) 0]⟩ =
      some (.exit 2, ⟨[.slice 1 1 0 n none cap], [.cells 1 [] 0, .cells 1 (cI (drawN n m i x xs)) 0]⟩) := by
  intro m
  induction m with
  | zero =>
    intro i x xs hm h0 h1 hl
    have hw : IntKind.i64.wrap ((n : Int) - 1) = (n : Int) - 1 := wrap64 (by omega) (by omega)
    have hlt : ¬ (i : Int) < (n : Int) - 1 := by omega
    rw [r92_l1]
    simp [c92_l1b, hw, hlt, drawN]
  | succ m ih =>
    intro i x xs hm h0 h1 hl
    have hx := nextX_range h0 h1
    have hs := step_range (n := n) (i := i) hx.1 (by omega)
    have ih := ih (i + 1) (nextX x) (sw xs i (i + ((nextX x).tmod ((n : Int) - i)).toNat)) (by omega) hx.1 hx.2 (by rw [sw_length, hl])
    obtain ⟨k, hk⟩ : ∃ k : Nat, (nextX x).tmod ((n : Int) - i) = (k : Int) := ⟨((nextX x).tmod ((n : Int) - i)).toNat, by omega⟩
    rw [hk] at ih hs
    have hw : IntKind.i64.wrap ((n : Int) - 1) = (n : Int) - 1 := wrap64 (by omega) (by omega)
    have hw1 : IntKind.i64.wrap (48271 * x) = 48271 * x := wrap64 (by omega) (by omega)
    have hw2 : (48271 * x).tmod 2147483647 = nextX x := rfl
    have hw3 : IntKind.i64.wrap ((n : Int) - i) = (n : Int) - i := wrap64 (by omega) (by omega)
    have hw4 : IntKind.i64.wrap (k : Int) = k := wrap64 (by omega) (by omega)
    have hw5 : IntKind.i64.wrap ((i : Int) + k) = (i : Int) + k := wrap64 (by omega) (by omega)
    have hw6 : IntKind.i64.wrap ((i : Int) + 1) = (i : Int) + 1 := wrap64 (by omega) (by omega)
    have hlt : (i : Int) < (n : Int) - 1 := by omega
    have hnz : ¬ (n : Int) - i = 0 := by omega
    have hi : i < n := by omega
    have hik : i + k < n := by omega
    have hi' : i < xs.length := by omega
    have hik' : i + k < xs.length := by omega
    have hkt : ((i : Int) + k).toNat = i + k := by omega
    have hk0 : 0 ≤ (i : Int) + k := by omega
    have hk1 : (i : Int) + k < n := by omega
    have hii : (i : Int) < n := by omega
    have g1 := cI_get hi'
    have g2 := cI_get hik'
    have e : drawN n (m + 1) i x xs = drawN n m (i + 1) (nextX x) (sw xs i (i + k)) := by rw [drawN, hk]; rfl
    simp [sw, hi', hik'] at ih
    have hi1 : i + 1 ≤ n := by omega
    have hik1 : i + k + 1 ≤ n := by omega
    rw [e]
    rw [r92_l1]
    simp [c92_l1b, hw, hw1, hw2, hw3, hw4, hw5, hw6, hlt, hk, hnz, hi, hik, hi', hik', hkt, hk0, hk1, hii, g1, g2, cI_length, cI_set, hl, under_cI, sw, hi1, hik1, ih]


theorem iota_set (n i : Nat) (h : i < n) : ((iota i) ++ List.replicate (n - i) 0).set i (i : Int) = iota (i + 1) ++ List.replicate (n - (i + 1)) 0 := by
  rw [List.set_append_right _ _ (by rw [iota_length]; exact Nat.le_refl _), iota_length, Nat.sub_self]
  have e : n - i = (n - (i + 1)) + 1 := by omega
  rw [e, List.replicate_succ, List.set_cons_zero]
  unfold iota
  rw [List.range_succ, List.map_append, List.append_assoc]
  rfl

theorem L92_0 (n : Nat) (key : Int) (hn : n ≤ 256) (cap : Option Nat) : ∀ (m i : Nat), i + m = n →
    execS P (limS P) c92_l0 ⟨[.c (ci key), .c (ci n), .slice 1 1 0 n none cap, .c (ci n), .c (ci i)], [.cells 1 [] 0, .cells 1 (cI (iota i ++ List.replicate (n - i) 0)) 0]⟩ =
      some (.exit 0, ⟨[.c (ci key), .c (ci n), .slice 1 1 0 n none cap], [.cells 1 [] 0, .cells 1 (cI (iota n)) 0]⟩) := by
  intro m
  induction m with
  | zero =>
    intro i hm
    simp at hm
    subst hm
    rw [r92_l0]
    simp [c92_l0b]
  | succ m ih =>
    intro i hm
    have ih := ih (i + 1) (by omega)
    have hs := iota_set n i (by omega)
    have hw : IntKind.i64.wrap ((i : Int) + 1) = (i : Int) + 1 := wrap64 (by omega) (by omega)
    have hlt : (i : Int) < n := by omega
    have hi : i < i + (n - i) := by omega
    simp at ih
    rw [r92_l0]
    have hni : ¬ n - i = 0 := by omega
    simp [c92_l0b, hw, hlt, hi, hni, cI_length, iota_length, cI_set, hs, under_cI, ih]

/-- The error of a draw. -/
def drawE (key : Int) (n : Int) : Int := if key < 1 ∨ key > 2147483646 ∨ n < 0 ∨ n > 256 then 3 else 0

theorem S24 (key n : Int) : fn P 24 [ci key, ci n] = some (ci (drawE key n)) := by
  rw [u24]
  unfold drawE
  by_cases h1 : key < 1 <;> by_cases h2 : 2147483646 < key <;> by_cases h3 : n < 0 <;> by_cases h4 : (256 : Int) < n <;> simp [c24, h1, h2, h3, h4]

theorem S90e (key n : Int) (h : drawE key n ≠ 0) : ffn P 92 [ci key, ci n] = some (.tuple [.slice 1 1 0 0 none none, .c (ci 3)], [.cells 1 [] 0, .cells 1 [] 0]) := by
  rw [u92]
  unfold drawE at h
  by_cases h1 : key < 1 <;> by_cases h2 : 2147483646 < key <;> by_cases h3 : n < 0 <;> by_cases h4 : (256 : Int) < n <;> simp [h1, h2, h3, h4] at h <;> simp [c92, h1, h2, h3, h4, mkTuple]

theorem S92 (key : Int) (n : Nat) (h : drawE key n = 0) : ffn P 92 [ci key, ci n] = some (.tuple [.slice 1 1 0 n none (some n), .c (ci 0)], [.cells 1 [] 0, .cells 1 (cI (drawL key n)) 0]) := by
  unfold drawE at h
  split at h
  · cases h
  · rename_i hx
    have h1 : ¬ key < 1 := fun e => hx (.inl e)
    have h2 : ¬ 2147483646 < key := fun e => hx (.inr (.inl e))
    have h3 : ¬ (n : Int) < 0 := by omega
    have h4 : ¬ (256 : Int) < n := fun e => hx (.inr (.inr (.inr e)))
    have l0 := L92_0 (P := P) n key (by omega) (some n) n 0 (by omega)
    have hz : cI (iota 0 ++ List.replicate (n - 0) 0) = List.replicate n (.c (ci 0)) := by simp [iota, cI]
    rw [hz] at l0
    simp at l0
    rw [u92]
    rcases Nat.eq_zero_or_pos n with hn | hn
    · subst hn
      have hw : IntKind.i64.wrap (-1) = -1 := wrap64 (by omega) (by omega)
      have l1 : execS P (limS P) c92_l1 ⟨[.c (ci 0), .slice 1 1 0 0 none (some 0), .c (ci key), .c (ci 0)], [.cells 1 [] 0, .cells 1 [] 0]⟩ = some (.exit 2, ⟨[.slice 1 1 0 0 none (some 0)], [.cells 1 [] 0, .cells 1 [] 0]⟩) := by
        rw [r92_l1]
        simp [c92_l1b, hw]
      have e : drawL key 0 = [] := rfl
      have e0 : cI (iota 0) = [] := rfl
      rw [e0] at l0
      simp at l0
      simp [c92, h1, h2, l0, l1, mkTuple, e, allC]
      rfl
    · have l1 := L92_1 (P := P) n (by omega) (some n) (n - 1) 0 key (iota n) (by omega) (by omega) (by omega) (iota_length n)
      simp at l1
      have q1 : (n : Int) * 8 ≤ 140737488355328 := by omega
      have q2 : (n : Int) ≤ 9223372036854775807 := by omega
      simp [c92, h1, h2, h4, l0, l1, q1, q2, mkTuple, drawL]

end LM.G6

namespace LM.G6
open Go LM

def brkF : Nat → List Int
  | 0 => [1]
  | k + 1 => (brkF k).flatMap fun s => [s, (2 : Int) ^ (k + 1) + 1 - s]
/-- How many rounds a bracket has. -/
def levN (n : Nat) : Nat := if n ≤ 1 then 0 else if n ≤ 2 then 1 else if n ≤ 4 then 2 else if n ≤ 8 then 3 else if n ≤ 16 then 4 else if n ≤ 32 then 5 else 6
/-- The seeds of the slots. -/
def brk (n : Nat) : List Int := (brkF (levN n)).map fun (s : Int) => if s > (n : Int) then 0 else s
theorem brk_length' (n : Nat) : (brk n).length = (brkF (levN n)).length := by simp [brk]

def eqI : List LV → List Int → Bool
  | .c (.int .i64 v) :: r, x :: s => v == x && eqI r s
  | [], [] => true
  | _, _ => false
theorem eqI_eq : ∀ {cs : List LV} {xs : List Int}, eqI cs xs = true → cs = cI xs
  | [], [], _ => rfl
  | .c (.int .i64 v) :: r, x :: s, h => by
    simp only [eqI, Bool.and_eq_true, beq_iff_eq] at h
    have := eqI_eq h.2
    rw [this, h.1]
    rfl
  | [], _ :: _, h => by simp [eqI] at h
def eqC : List CV → List Int → Bool
  | .int .i64 v :: r, x :: s => v == x && eqC r s
  | [], [] => true
  | _, _ => false
theorem eqC_eq : ∀ {cs : List CV} {xs : List Int}, eqC cs xs = true → cs = xs.map ci
  | [], [], _ => rfl
  | .int .i64 v :: r, x :: s, h => by
    simp only [eqC, Bool.and_eq_true, beq_iff_eq] at h
    have := eqC_eq h.2
    rw [this, h.1]
    rfl
  | [], _ :: _, h => by simp [eqC] at h
def constL : List LV → Bool
  | [] => true
  | .c _ :: r => constL r
  | _ => false
def constH : Heap → Bool
  | [] => true
  | .cells _ cs _ :: r => constL cs && constH r
  | .dead :: r => constH r
  | _ => false
theorem under_const : ∀ {l : List LV} (n : Nat), constL l = true → underL n l = true
  | [], _, _ => rfl
  | .c v :: r, n, h => by
    simp only [constL] at h
    simp only [underL, LV.under, under_const n h, Bool.and_self]
theorem shift_const : ∀ {l : List LV} (k : Nat), constL l = true → shiftL k l = l
  | [], _, _ => rfl
  | .c v :: r, k, h => by
    simp only [constL] at h
    simp only [shiftL, LV.shift, shift_const k h]
theorem underB_const : ∀ {H : Heap} (n : Nat), constH H = true → underB n H = true
  | [], _, _ => rfl
  | .cells g cs fz :: r, n, h => by
    simp only [constH, Bool.and_eq_true] at h
    simp only [underB, LB.under, under_const n h.1, underB_const n h.2, Bool.and_self]
  | .dead :: r, n, h => by
    simp only [constH] at h
    simp only [underB, LB.under, underB_const n h, Bool.and_self]
theorem shiftB_const : ∀ {H : Heap} (k : Nat), constH H = true → shiftB k H = H
  | [], _, _ => rfl
  | .cells g cs fz :: r, k, h => by
    simp only [constH, Bool.and_eq_true] at h
    simp only [shiftB, LB.shift, shift_const k h.1, shiftB_const k h.2]
  | .dead :: r, k, h => by
    simp only [constH] at h
    simp only [shiftB, LB.shift, shiftB_const k h]

theorem constL_cI : ∀ xs : List Int, constL (cI xs) = true
  | [] => rfl
  | _ :: r => constL_cI r
theorem constH_append : ∀ H K : Heap, constH (H ++ K) = (constH H && constH K)
  | [], K => by simp [constH]
  | .cells g cs fz :: r, K => by simp [constH, constH_append r K, Bool.and_assoc]
  | .map .. :: r, K => by simp [constH]
  | .iter .. :: r, K => by simp [constH]
  | .dead :: r, K => by simp [constH, constH_append r K]
theorem constH_snoc {H : Heap} (h : constH H = true) (g : Nat) (xs : List Int) (fz : Nat) : constH (H ++ [.cells g (cI xs) fz]) = true := by
  rw [constH_append, h]
  simp [constH, constL_cI]

theorem constH_set : ∀ {H : Heap} (b g : Nat) (xs : List Int) (fz : Nat), constH H = true → constH (H.set b (.cells g (cI xs) fz)) = true
  | [], _, _, _, _, _ => rfl
  | .cells g' cs fz' :: r, 0, g, xs, fz, h => by
    simp only [constH, Bool.and_eq_true] at h
    simp [constH, constL_cI, h.2]
  | .cells g' cs fz' :: r, b + 1, g, xs, fz, h => by
    simp only [constH, Bool.and_eq_true] at h
    simp [constH, h.1, constH_set b g xs fz h.2]
  | .dead :: r, 0, g, xs, fz, h => by
    simp only [constH] at h
    simp [constH, constL_cI, h]
  | .dead :: r, b + 1, g, xs, fz, h => by
    simp only [constH] at h
    simp [constH, constH_set b g xs fz h]
theorem constH_dead : ∀ n, constH (List.replicate n .dead) = true
  | 0 => rfl
  | n + 1 => by simp [List.replicate_succ, constH, constH_dead n]

theorem brkF_length : ∀ k, (brkF k).length = 2 ^ k
  | 0 => rfl
  | k + 1 => by
    have h := brkF_length k
    have : ∀ (l : List Int) (c : Int), (l.flatMap fun s => [s, c - s]).length = 2 * l.length := by
      intro l c
      induction l with
      | nil => rfl
      | cons a r ih => simp [List.flatMap_cons] at ih ⊢; omega
    rw [brkF, this, h, Nat.pow_succ]
    omega
theorem brkF_bound : ∀ k, ∀ x ∈ brkF k, 1 ≤ x ∧ x ≤ (2 : Int) ^ k
  | 0, x, h => by simp [brkF] at h; subst h; decide
  | k + 1, x, h => by
    rw [brkF, List.mem_flatMap] at h
    obtain ⟨s, hs, hx⟩ := h
    have := brkF_bound k s hs
    have e : (2 : Int) ^ (k + 1) = 2 * 2 ^ k := by rw [Int.pow_succ]; omega
    simp at hx
    rcases hx with rfl | rfl <;> omega
theorem levN_lt {n k : Nat} (hn : n ≤ 64) (h1 : 1 ≤ n) (hk : k ≤ 6) : 2 ^ k < n ↔ k < levN n := by
  unfold levN
  have h : k = 0 ∨ k = 1 ∨ k = 2 ∨ k = 3 ∨ k = 4 ∨ k = 5 ∨ k = 6 := by omega
  rcases h with rfl | rfl | rfl | rfl | rfl | rfl | rfl <;> (repeat' split) <;> omega
theorem levN_le (n : Nat) : levN n ≤ 6 := by
  unfold levN
  (repeat' split) <;> omega
def cut (n : Nat) (s : Int) : Int := if s > (n : Int) then 0 else s

def chkB (r : Option (LV × List LB)) (xs : List Int) : Bool := match r with
  | some (.slice b g 0 n none _, H) => n == xs.length && (match H[b]? with
    | some (.cells g' cs 0) => g' == g && eqI cs xs
    | _ => false) && constH H
  | _ => false
theorem chkB_eq {r : Option (LV × List LB)} {xs : List Int} (h : chkB r xs = true) : ∃ b g cap H, r = some (.slice b g 0 xs.length none cap, H) ∧ H[b]? = some (.cells g (cI xs) 0) ∧ constH H = true := by
  unfold chkB at h
  split at h
  · rename_i b g n cap H
    simp only [Bool.and_eq_true, beq_iff_eq] at h
    obtain ⟨⟨h1, h2⟩, h3⟩ := h
    subst h1
    split at h2
    · rename_i g' cs hb
      simp only [Bool.and_eq_true, beq_iff_eq] at h2
      obtain ⟨rfl, h2⟩ := h2
      exact ⟨b, g', cap, H, rfl, by rw [hb, eqI_eq h2], h3⟩
    · cases h2
  · cases h
def chkC (r : Option CV) (xs : List Int) : Bool := match r with
  | some (.slice l) => eqC l xs
  | _ => false
theorem chkC_eq {r : Option CV} {xs : List Int} (h : chkC r xs = true) : r = some (.slice (xs.map ci)) := by
  unfold chkC at h
  split at h
  · rw [eqC_eq h]
  · cases h
def chkI (r : Option CV) (x : Int) : Bool := match r with
  | some (.int .i64 v) => v == x
  | _ => false
theorem chkI_eq {r : Option CV} {x : Int} (h : chkI r x = true) : r = some (ci x) := by
  unfold chkI at h
  split at h
  · simp only [beq_iff_eq] at h; rw [h]
  · cases h

/-- How many bits a number has. -/
def blen : Nat → Nat → Nat
  | 0, _ => 0
  | f + 1, x => if x = 0 then 0 else blen f (x / 2) + 1
def pops : Nat → Nat → Nat
  | 0, _ => 0
  | f + 1, x => x % 2 + pops f (x / 2)

/-- What the program's small functions answer, reckoned. -/
structure Tabs (P : Nat → Option SFunc) : Prop where
  len : ∀ x : Nat, x < 64 → fn P 111 [.int .u64 x] = some (ci (blen 7 x))
  pop : ∀ x : Nat, x ≤ 64 → fn P 117 [.int .u64 x] = some (ci (pops 7 x))
end LM.G6

namespace LM.G6
open Go LM
theorem all_range {p : Nat → Bool} {n : Nat} (h : (List.range n).all p = true) : ∀ k, k < n → p k = true := by
  intro k hk
  rw [List.all_eq_true] at h
  exact h k (List.mem_range.2 hk)
theorem ev111 : (List.range 64).all (fun k => chkI (pcallS prog 1000 111 [.int .u64 (k : Nat)]) (blen 7 k)) = true := by kernel_rfl
theorem ev117 : (List.range 65).all (fun k => chkI (pcallS prog 1000 117 [.int .u64 (k : Nat)]) (pops 7 k)) = true := by kernel_rfl
theorem tabs : Tabs prog where
  len x hx := pcallS_fn (chkI_eq (all_range ev111 x hx))
  pop x hx := pcallS_fn (chkI_eq (all_range ev117 x (by omega)))
end LM.G6

namespace LM.G6
open Go LM
variable {P : Nat → Option SFunc} [Has P]

@[simp] theorem S47 (b : Bool) (e : Int) : fn P 47 [.bool b, ci e] = some (ci (whenE b e)) := by
  rw [u47]; cases b <;> simp [c47, whenE]

end LM.G6

namespace LM.G6
open Go LM
variable {P : Nat → Option SFunc} [Has P]

@[simp] theorem S23 (n a b : Int) : fn P 23 [ci n, ci a, ci b] = some (ci (whenE (outside n a b) 3)) := by
  rw [u23]
  unfold outside whenE
  by_cases h1 : n < a <;> by_cases h2 : b < n <;> simp [c23, h1, h2]
@[simp] theorem S91 (n a b : Int) : fn P 91 [ci n, ci a, ci b] = some (ci (whenE (outside n a b) 3)) := by
  rw [u91]
  unfold outside
  by_cases h1 : n < a <;> by_cases h2 : b < n <;> simp [c91, h1, h2]

theorem L153 : ∀ (r pre : List Int) (m : Int), ((pre ++ r).length : Int) < 9223372036854775807 →
    execS P (limS P) c153_l0 ⟨[.c (.slice ((pre ++ r).map ci)), .c (ci m), .c (ci pre.length)], []⟩ = some (.exit 0, ⟨[.c (ci (r.foldl min m))], []⟩) := by
  intro r
  induction r with
  | nil =>
    intro pre m h
    rw [r153_l0]
    simp [c153_l0b]
  | cons x r ih =>
    intro pre m h
    have ih := fun m => ih (pre ++ [x]) m (by simpa using h)
    simp at ih h
    have hw : IntKind.i64.wrap (↑pre.length + 1) = ↑pre.length + 1 := wrap64 (by omega) (by omega)
    have hlt : (pre.length : Int) < pre.length + (r.length + 1) := by omega
    have hm : (if x < m then x else m) = min m x := by split <;> omega
    rw [r153_l0]
    simp [c153_l0b, hw, hlt, foldInt, hm, ih]
theorem S153 (x : Int) (l : List Int) (h : (l.length : Int) < 1000) : fn P 153 [.slice ((x :: l).map ci)] = some (ci (l.foldl min x)) := by
  have := L153 (P := P) l [x] x (by simp; omega)
  simp at this
  rw [u153]
  have h1 : ¬ (l.length : Int) + 1 < 1 := by omega
  simp [c153, h1, this]
theorem L154 : ∀ (r pre : List Int) (m : Int), ((pre ++ r).length : Int) < 9223372036854775807 →
    execS P (limS P) c154_l0 ⟨[.c (.slice ((pre ++ r).map ci)), .c (ci m), .c (ci pre.length)], []⟩ = some (.exit 0, ⟨[.c (ci (r.foldl max m))], []⟩) := by
  intro r
  induction r with
  | nil =>
    intro pre m h
    rw [r154_l0]
    simp [c154_l0b]
  | cons x r ih =>
    intro pre m h
    have ih := fun m => ih (pre ++ [x]) m (by simpa using h)
    simp at ih h
    have hw : IntKind.i64.wrap (↑pre.length + 1) = ↑pre.length + 1 := wrap64 (by omega) (by omega)
    have hlt : (pre.length : Int) < pre.length + (r.length + 1) := by omega
    have hm : (if m < x then x else m) = max m x := by split <;> omega
    rw [r154_l0]
    simp [c154_l0b, hw, hlt, foldInt, hm, ih]
theorem S154 (x : Int) (l : List Int) (h : (l.length : Int) < 1000) : fn P 154 [.slice ((x :: l).map ci)] = some (ci (l.foldl max x)) := by
  have := L154 (P := P) l [x] x (by simp; omega)
  simp at this
  rw [u154]
  have h1 : ¬ (l.length : Int) + 1 < 1 := by omega
  simp [c154, h1, this]

/-- Is a time of some out of its bounds? -/
def badT (x : Int) : Bool := outside x 0 86399999
theorem S124 (x : Int) (l : List Int) (h : (l.length : Int) < 1000) : fn P 124 [.slice ((x :: l).map ci)] = some (ci (whenE ((x :: l).any badT) 3)) := by
  have e1 := S153 (P := P) x l h
  have e2 := S154 (P := P) x l h
  have hmin : ∀ (l : List Int) (x : Int), l.foldl min x < 0 ↔ (x < 0 ∨ ∃ y ∈ l, y < 0) := by
    intro l
    induction l with
    | nil => simp
    | cons a r ih => intro x; have q : min x a < 0 ↔ x < 0 ∨ a < 0 := by omega
                     rw [List.foldl_cons, ih, q]; simp [or_assoc]
  have hmax : ∀ (l : List Int) (x : Int), 86399999 < l.foldl max x ↔ (86399999 < x ∨ ∃ y ∈ l, 86399999 < y) := by
    intro l
    induction l with
    | nil => simp
    | cons a r ih => intro x; have q : 86399999 < max x a ↔ 86399999 < x ∨ 86399999 < a := by omega
                     rw [List.foldl_cons, ih, q]; simp [or_assoc]
  have e : (x :: l).any badT = (decide (l.foldl min x < 0) || decide (86399999 < l.foldl max x)) := by
    rw [Bool.eq_iff_iff]
    simp only [Bool.or_eq_true, decide_eq_true_eq, hmin, hmax, List.any_eq_true, badT, outside]
    constructor
    · rintro ⟨y, hy, h⟩
      simp at h hy
      rcases hy with rfl | hy
      · rcases h with h | h
        · exact .inl (.inl h)
        · exact .inr (.inl h)
      · rcases h with h | h
        · exact .inl (.inr ⟨y, hy, h⟩)
        · exact .inr (.inr ⟨y, hy, h⟩)
    · rintro ((h | ⟨y, hy, h⟩) | (h | ⟨y, hy, h⟩))
      · exact ⟨x, by simp, by simp [h]⟩
      · exact ⟨y, by simp [hy], by simp [h]⟩
      · exact ⟨x, by simp, by simp [h]⟩
      · exact ⟨y, by simp [hy], by simp [h]⟩
  rw [e, u124]
  simp at e1 e2
  by_cases h1 : l.foldl min x < 0 <;> by_cases h2 : 86399999 < l.foldl max x <;> simp [c124, e1, e2, h1, h2]

/-- Would the last start be too late? -/
def lateE (n f e : Int) : Int := whenE (decide (0 < n) && decide (86399999 < IntKind.i64.wrap (f + IntKind.i64.wrap (IntKind.i64.wrap (n - 1) * e)))) 4
@[simp] theorem S42 (n f e : Int) : fn P 42 [ci n, ci f, ci e] = some (ci (lateE n f e)) := by
  rw [u42]
  unfold lateE whenE
  by_cases h1 : 0 < n <;> by_cases h2 : 86399999 < IntKind.i64.wrap (f + IntKind.i64.wrap (IntKind.i64.wrap (n - 1) * e)) <;> simp [c42, h1, h2]
def callsE (n f e : Int) : Int := whenE (outside n 0 160 || badT f || badT e) 3
@[simp] theorem S41 (n f e : Int) : fn P 41 [ci n, ci f, ci e] = some (ci (callsE n f e)) := by
  rw [u41]
  unfold callsE badT
  have w0 : IntKind.i64.wrap 0 = 0 := rfl
  have w3 : IntKind.i64.wrap 3 = 3 := rfl
  have w6 : IntKind.i64.wrap 6 = 6 := rfl
  have w9 : IntKind.i64.wrap 9 = 9 := rfl
  cases h1 : outside n 0 160 <;> cases h2 : outside f 0 86399999 <;> cases h3 : outside e 0 86399999 <;> simp [c41, h1, h2, h3, whenE, w0, w3, w6, w9]

theorem frzFuncs_nil (h : Heap) : frzFuncs [] h = some ([], h) := by rw [frzFuncs]
theorem frzFuncs_c (v : CV) (l : List LV) (h : Heap) : frzFuncs (.c v :: l) h = bnd (frzFuncs l h) fun a => some (.c v :: a.1, a.2) := by
  rw [frzFuncs]
  rcases frzFuncs l h with _ | ⟨x, y⟩ <;> rfl
  all_goals simp
theorem frzFuncs_slice (b g o n : Nat) (e c : Option Nat) (l : List LV) (h : Heap) : frzFuncs (.slice b g o n e c :: l) h = bnd (frzFuncs l h) fun a => some (.slice b g o n e c :: a.1, a.2) := by
  rw [frzFuncs]
  rcases frzFuncs l h with _ | ⟨x, y⟩ <;> rfl
  all_goals simp

/-- The error of the starts' numbers: of a time besides the first one and the step. -/
def startsE (n f e : Int) (ts : List Int) : Int := firstE [whenE (outside n 0 160) 3, whenE ((ts ++ [f, e]).any badT) 3, lateE n f e]
theorem app1 (w f e : Int) : appendOp none none 8 (.slice 1 1 0 1 none (some 1)) (.c (.slice [ci f, ci e])) [.cells 1 [] 0, .cells 1 [.c (ci w)] 0] = some (.slice 2 1 0 3 none none, [.cells 1 [] 0, .cells 1 [.c (ci w)] 0, .cells 1 [.c (ci w), .c (ci f), .c (ci e)] 0]) := by
  rfl
theorem app2 (w t f e : Int) : appendOp none none 8 (.slice 1 1 0 2 none (some 2)) (.c (.slice [ci f, ci e])) [.cells 1 [] 0, .cells 1 [.c (ci w), .c (ci t)] 0] = some (.slice 2 1 0 4 none none, [.cells 1 [] 0, .cells 1 [.c (ci w), .c (ci t)] 0, .cells 1 [.c (ci w), .c (ci t), .c (ci f), .c (ci e)] 0]) := by
  rfl
theorem S108_1 (n f e w : Int) : sfn P 108 [.c (ci n), .c (ci f), .c (ci e), .slice 1 1 0 1 none (some 1)] [.cells 1 [] 0, .cells 1 [.c (ci w)] 0] = some (.c (ci (startsE n f e [w])), [.cells 1 [] 0, .cells 1 [.c (ci w)] 0, .cells 1 [.c (ci w), .c (ci f), .c (ci e)] 0]) := by
  have a := S124 (P := P) w [f, e] (by simp)
  simp [-List.any_cons] at a
  rw [u108]
  unfold startsE
  by_cases h1 : 0 < n
  · simp [c108, a, app1, h1, lateE, -List.any_cons]
  · simp [c108, a, app1, h1, lateE, -List.any_cons]
theorem S108_2 (n f e w t : Int) : sfn P 108 [.c (ci n), .c (ci f), .c (ci e), .slice 1 1 0 2 none (some 2)] [.cells 1 [] 0, .cells 1 [.c (ci w), .c (ci t)] 0] = some (.c (ci (startsE n f e [w, t])), [.cells 1 [] 0, .cells 1 [.c (ci w), .c (ci t)] 0, .cells 1 [.c (ci w), .c (ci t), .c (ci f), .c (ci e)] 0]) := by
  have a := S124 (P := P) w [t, f, e] (by simp)
  simp [-List.any_cons] at a
  rw [u108]
  unfold startsE
  by_cases h1 : 0 < n
  · simp [c108, a, app2, h1, lateE, -List.any_cons]
  · simp [c108, a, app2, h1, lateE, -List.any_cons]
end LM.G6

namespace LM.G6
open Go LM
variable {P : Nat → Option SFunc} [Has P]

/-- Both slots that a slot becomes. -/
def two (m : Nat) (s : Int) : List Int := [s, 2 * (m : Int) + 1 - s]

theorem L110_0 (n : Int) (H : Heap) (hU : constH H = true) (b g : Nat) (cap : Option Nat) (xs : List Int) (hb : H[b]? = some (.cells g (cI xs) 0)) (hx : ∀ x ∈ xs, 0 ≤ x ∧ x ≤ 1000) (hl : xs.length ≤ 64) : ∀ (r pre : List Int) (ys : List Int) (z : Nat), xs = pre ++ r → ys.length = 2 * pre.length → z = 1 + pre.length →
    execS P (limS P) c110_l0 ⟨[.c (ci n), .slice b g 0 xs.length none cap, .slice H.length z 0 ys.length none none, .slice b g 0 xs.length none cap, .c (ci xs.length), .c (ci pre.length)], H ++ [.cells z (cI ys) 0]⟩ =
      some (.exit 2, ⟨[.c (ci n), .slice H.length (1 + xs.length) 0 (ys ++ r.flatMap (two xs.length)).length none none], H ++ [.cells (1 + xs.length) (cI (ys ++ r.flatMap (two xs.length))) 0]⟩) := by
  intro r
  induction r with
  | nil =>
    intro pre ys z hp hy hz
    have hp : xs = pre := by simpa using hp
    subst hp hz
    rw [r110_l0]
    simp [c110_l0b]
  | cons x r ih =>
    intro pre ys z hp hy hz
    have hpl : xs.length = pre.length + (r.length + 1) := by rw [hp]; simp
    have ih := ih (pre ++ [x]) (ys ++ two xs.length x) (z + 1) (by simp [hp]) (by simp [two]; omega) (by simp; omega)
    have hx0 := hx x (by rw [hp]; simp)
    have hw : IntKind.i64.wrap (↑pre.length + 1) = ↑pre.length + 1 := wrap64 (by omega) (by omega)
    have hw2 : IntKind.i64.wrap (2 * (xs.length : Int)) = 2 * xs.length := wrap64 (by omega) (by omega)
    have hw3 : IntKind.i64.wrap (2 * (xs.length : Int) + 1) = 2 * xs.length + 1 := wrap64 (by omega) (by omega)
    have hw4 : IntKind.i64.wrap (2 * (xs.length : Int) + 1 - x) = 2 * xs.length + 1 - x := wrap64 (by omega) (by omega)
    have hlt : (pre.length : Int) < xs.length := by omega
    have hltN : pre.length < xs.length := by omega
    have hbl : b < H.length := (List.getElem?_eq_some_iff.1 hb).1
    have hb2 : (H ++ [LB.cells z (cI ys) 0])[b]? = some (.cells g (cI xs) 0) := by rw [List.getElem?_append_left hbl]; exact hb
    have g1 : (cI xs)[pre.length]? = some (.c (ci x)) := by rw [hp]; unfold cI; simp
    have ha := append_own (b := H.length) (g := z) (bytes := 8) (e := none) (ys := ys.map ci) (xs := [ci x, ci (2 * xs.length + 1 - x)]) (h := H ++ [.cells z (cellsOf (ys.map ci)) 0]) (len := ys.length) (fz := 0) (by simp) (intElems _) (intElems [x, 2 * (xs.length : Int) + 1 - x]) (by simp) (Nat.zero_le _) (by simp) (by simp; omega) (by simp; omega)
    have e2 : ys.map ci ++ [ci x, ci (2 * xs.length + 1 - x)] = (ys ++ two xs.length x).map ci := by simp [two]
    rw [e2, cellsOf_ints, cellsOf_ints] at ha
    have hu : ∀ n, underB n (H ++ [LB.cells (z + 1) (cI (ys ++ two xs.length x)) 0]) = true := by
      intro n
      exact underB_const n (constH_snoc hU _ _ _)
    have htk : List.take (H.length + 1) (H ++ [LB.cells (z + 1) (cI (ys ++ two xs.length x)) 0]) = H ++ [LB.cells (z + 1) (cI (ys ++ two xs.length x)) 0] := List.take_of_length_le (by simp)
    have hbl1 : b < H.length + 1 := by omega
    have hb3 := (List.getElem?_eq_some_iff.1 hb2).2
    have el : (ys ++ two xs.length x).length = ys.length + 2 := by simp [two]
    rw [el] at ih
    simp at ih ha
    rw [r110_l0]
    simp [c110_l0b, hw, hw2, hw3, hw4, hlt, hltN, hb2, hb3, g1, ha, hu, htk, hbl1, ih]
theorem two_flat (k : Nat) : (brkF k).flatMap (two (brkF k).length) = brkF (k + 1) := by
  rw [brkF_length, brkF]
  congr 1
  funext s
  unfold two
  congr 2
  have : (2 : Int) ^ (k + 1) = 2 * ((2 ^ k : Nat) : Int) := by rw [Int.pow_succ]; push_cast; omega
  omega
theorem brkF_len64 {k : Nat} (h : k ≤ 6) : (brkF k).length ≤ 64 := by
  rw [brkF_length]
  exact Nat.le_trans (Nat.pow_le_pow_right (by omega) h) (by decide)
theorem brkF_1000 {k : Nat} (h : k ≤ 6) : ∀ x ∈ brkF k, 0 ≤ x ∧ x ≤ 1000 := by
  intro x hx
  have h1 := brkF_bound k x hx
  have h2 := brkF_len64 h
  rw [brkF_length] at h2
  have : ((2 ^ k : Nat) : Int) = (2 : Int) ^ k := by push_cast; rfl
  omega

theorem L110_1 (n : Nat) (hn : n ≤ 64) (hn1 : 1 ≤ n) : ∀ (m k : Nat), k + m = levN n → ∀ (H : Heap) (b g : Nat) (cap : Option Nat), constH H = true → H[b]? = some (.cells g (cI (brkF k)) 0) →
    ∃ H' b' g' cap', execS P (limS P) c110_l1 ⟨[.c (ci n), .slice b g 0 (brkF k).length none cap], H⟩ = some (.exit 0, ⟨[.c (ci n), .slice b' g' 0 (brkF (levN n)).length none cap'], H'⟩) ∧ constH H' = true ∧ H'[b']? = some (.cells g' (cI (brkF (levN n))) 0) := by
  intro m
  induction m with
  | zero =>
    intro k hk H b g cap hU hb
    have hk : k = levN n := by omega
    subst hk
    refine ⟨H, b, g, cap, ?_, hU, hb⟩
    have hlt : ¬ ((brkF (levN n)).length : Int) < n := by
      have : ¬ 2 ^ levN n < n := fun q => Nat.lt_irrefl _ ((levN_lt hn hn1 (levN_le n)).1 q)
      rw [brkF_length]
      omega
    rw [r110_l1]
    simp [c110_l1b, hlt]
  | succ m ih =>
    intro k hk H b g cap hU hb
    have hk6 : k ≤ 6 := by have := levN_le n; omega
    have hlt : ((brkF k).length : Int) < n := by
      have := (levN_lt hn hn1 hk6).2 (by omega)
      rw [brkF_length]
      omega
    have h0 := L110_0 (P := P) n H hU b g cap (brkF k) hb (brkF_1000 hk6) (brkF_len64 hk6) (brkF k) [] [] 1 rfl rfl rfl
    simp only [List.nil_append, two_flat] at h0
    obtain ⟨H', b', g', cap', h1, h2, h3⟩ := ih (k + 1) (by omega) (H ++ [.cells (1 + (brkF k).length) (cI (brkF (k + 1))) 0]) H.length (1 + (brkF k).length) none (constH_snoc hU _ _ _) (by simp)
    refine ⟨H', b', g', cap', ?_, h2, h3⟩
    have e0 : cI [] = [] := rfl
    simp [e0] at h0 h1
    rw [r110_l1]
    simp [c110_l1b, c110_n6, hlt, h0, h1]

theorem L110_2 (n : Nat) (b g : Nat) (cap : Option Nat) (len : Nat) (hlen : len ≤ 64) (H : Heap) (hU : constH H = true) (hb : b < H.length) : ∀ (r pre : List Int), len = (pre ++ r).length →
    execS P (limS P) c110_l2 ⟨[.c (ci n), .slice b g 0 len none cap, .slice b g 0 len none cap, .c (ci len), .c (ci pre.length)], H.set b (.cells g (cI (pre.map (cut n) ++ r)) 0)⟩ =
      some (.exit 4, ⟨[.slice b g 0 len none cap], H.set b (.cells g (cI ((pre ++ r).map (cut n))) 0)⟩) := by
  intro r
  induction r with
  | nil =>
    intro pre hl
    simp at hl
    rw [r110_l2]
    simp [c110_l2b, hl]
  | cons x r ih =>
    intro pre hl
    have ih := ih (pre ++ [x]) (by simpa using hl)
    simp at hl
    have hw : IntKind.i64.wrap (↑pre.length + 1) = ↑pre.length + 1 := wrap64 (by omega) (by omega)
    have hlt : (pre.length : Int) < len := by omega
    have hltN : pre.length < len := by omega
    have hle : pre.length + 1 ≤ len := by omega
    have g1 : (cI (pre.map (cut n) ++ x :: r))[pre.length]? = some (.c (ci x)) := by unfold cI; simp
    have g2 := (List.getElem?_eq_some_iff.1 g1).2
    have htk : ∀ X : LB, List.take H.length (H.set b X) = H.set b X := fun X => List.take_of_length_le (by simp)
    have hcl : (cI (pre.map (cut n) ++ x :: r)).length = len := by rw [cI_length]; simp; omega
    have gs : (cI (pre.map (cut n) ++ x :: r)).set pre.length (.c (ci 0)) = cI (pre.map (cut n) ++ 0 :: r) := by
      rw [cI_set]; congr 1; simp
    have hu : ∀ m zs, underB m (H.set b (.cells g (cI zs) 0)) = true := fun m zs => underB_const m (constH_set b g zs 0 hU)
    have hc : cut n x = if (n : Int) < x then 0 else x := rfl
    rw [r110_l2]
    by_cases h : (n : Int) < x
    · simp [h] at hc
      simp [hc] at ih
      simp [c110_l2b, hw, hlt, hltN, hb, hle, g1, g2, htk, gs, hcl, hu, h, hc, ih]
    · simp [h] at hc
      simp [hc] at ih
      simp [c110_l2b, hw, hlt, hltN, hb, hle, g1, g2, htk, hcl, hu, h, hc, ih]

theorem S110 (n : Nat) (h1 : 1 ≤ n) (hn : n ≤ 64) : fn P 110 [ci n] = some (.slice ((brk n).map ci)) := by
  obtain ⟨H, b, g, cap, h2, hU, hb⟩ := L110_1 (P := P) n hn h1 (levN n) 0 (by omega) [.cells 1 [] 0, .cells 1 [.c (ci 1)] 0] 1 1 (some 1) rfl rfl
  have hbl : b < H.length := (List.getElem?_eq_some_iff.1 hb).1
  have h3 := L110_2 (P := P) n b g cap (brkF (levN n)).length (brkF_len64 (levN_le n)) H hU hbl (brkF (levN n)) [] rfl
  have hs : H.set b (.cells g (cI (brkF (levN n))) 0) = H := by
    apply List.ext_getElem?
    intro i
    rw [List.getElem?_set]
    split
    · rename_i e
      subst e
      simp [hbl]
      exact (List.getElem?_eq_some_iff.1 hb).2.symm
    · rfl
  have e : (brkF (levN n)).map (cut n) = brk n := rfl
  have hl : (brkF (levN n)).length = (brk n).length := by rw [← e]; simp
  simp only [List.map_nil, List.nil_append, hs, e] at h3
  have hr := resV_own1 (b := b) (g := g) (fz := 0) (e := none) (ys := (brk n).map ci) (h := H.set b (.cells g (cellsOf ((brk n).map ci)) 0)) (len := (brkF (levN n)).length) (by simp [hbl]) (intElems _) (by simp [hl]) cap
  rw [cellsOf_ints] at hr
  have b0 : brkF 0 = [1] := rfl
  simp [b0] at h2 h3
  rw [u110]
  simp [c110, h2, h3, hr]

theorem L48_0 (n : Int) (H : Heap) (hU : constH H = true) (b g : Nat) (cap : Option Nat) (xs : List Int) (hb : H[b]? = some (.cells g (cI xs) 0)) (hx : ∀ x ∈ xs, 0 ≤ x ∧ x ≤ 1000) (hl : xs.length ≤ 64) : ∀ (r pre : List Int) (ys : List Int) (z : Nat), xs = pre ++ r → ys.length = 2 * pre.length → z = 1 + pre.length →
    execS P (limS P) c48_l0 ⟨[.c (ci n), .slice b g 0 xs.length none cap, .c (ci (2 * xs.length)), .slice H.length z 0 ys.length none none, .c (ci pre.length)], H ++ [.cells z (cI ys) 0]⟩ =
      some (.exit 2, ⟨[.c (ci n), .slice H.length (1 + xs.length) 0 (ys ++ r.flatMap (two xs.length)).length none none], H ++ [.cells (1 + xs.length) (cI (ys ++ r.flatMap (two xs.length))) 0]⟩) := by
  intro r
  induction r with
  | nil =>
    intro pre ys z hp hy hz
    have hp : xs = pre := by simpa using hp
    subst hp hz
    rw [r48_l0]
    simp [c48_l0b]
  | cons x r ih =>
    intro pre ys z hp hy hz
    have hpl : xs.length = pre.length + (r.length + 1) := by rw [hp]; simp
    have ih := ih (pre ++ [x]) (ys ++ two xs.length x) (z + 1) (by simp [hp]) (by simp [two]; omega) (by simp; omega)
    have hx0 := hx x (by rw [hp]; simp)
    have hw : IntKind.i64.wrap (↑pre.length + 1) = ↑pre.length + 1 := wrap64 (by omega) (by omega)
    have hw3 : IntKind.i64.wrap (2 * (xs.length : Int) + 1) = 2 * xs.length + 1 := wrap64 (by omega) (by omega)
    have hw4 : IntKind.i64.wrap (2 * (xs.length : Int) + 1 - x) = 2 * xs.length + 1 - x := wrap64 (by omega) (by omega)
    have hlt : (pre.length : Int) < xs.length := by omega
    have hltN : pre.length < xs.length := by omega
    have hbl : b < H.length := (List.getElem?_eq_some_iff.1 hb).1
    have hb2 : (H ++ [LB.cells z (cI ys) 0, .dead, .dead])[b]? = some (.cells g (cI xs) 0) := by rw [List.getElem?_append_left hbl]; exact hb
    have g1 : (cI xs)[pre.length]? = some (.c (ci x)) := by rw [hp]; unfold cI; simp
    have ha := fun q => append_ownP (some q) (b := H.length) (g := z) (bytes := 8) (e := none) (ys := ys.map ci) (xs := [ci x, ci (2 * xs.length + 1 - x)]) (h := H ++ [.cells z (cellsOf (ys.map ci)) 0, .dead, .dead]) (len := ys.length) (fz := 0) (by simp) (intElems _) (intElems [x, 2 * (xs.length : Int) + 1 - x]) (by simp) (Nat.zero_le _) (by simp) (by simp; omega) (by simp; omega)
    have e2 : ys.map ci ++ [ci x, ci (2 * xs.length + 1 - x)] = (ys ++ two xs.length x).map ci := by simp [two]
    rw [e2, cellsOf_ints, cellsOf_ints] at ha
    have hu : ∀ n, underB n (H ++ [LB.cells (z + 1) (cI (ys ++ two xs.length x)) 0]) = true := by
      intro n
      exact underB_const n (constH_snoc hU _ _ _)
    have htk : List.take (H.length + 1) (H ++ [LB.cells (z + 1) (cI (ys ++ two xs.length x)) 0, .dead, .dead]) = H ++ [LB.cells (z + 1) (cI (ys ++ two xs.length x)) 0] := by
      rw [List.take_append, List.take_of_length_le (by omega)]
      simp
    have hz0 : ¬ z = 0 := by omega
    have hd : (H ++ [LB.cells z (cI ys) 0, .dead, .dead])[H.length + 1 + 1]? = some .dead := by rw [List.getElem?_append_right (by omega)]; simp [Nat.add_assoc]
    have hd3 := (List.getElem?_eq_some_iff.1 hd).2
    have hbl1 : b < H.length + 1 := by omega
    have hbl3 : b < H.length + 3 := by omega
    have hb3 := (List.getElem?_eq_some_iff.1 hb2).2
    have el : (ys ++ two xs.length x).length = ys.length + 2 := by simp [two]
    rw [el] at ih
    simp at ih ha
    rw [r48_l0]
    simp [c48_l0b, hw, hw3, hw4, hlt, hltN, hb2, hb3, g1, ha, hu, htk, hbl1, hbl3, hz0, hd, hd3, ih]
theorem L48_1 (n : Nat) (hn : n ≤ 64) (hn1 : 1 ≤ n) : ∀ (m k : Nat), k + m = levN n → ∀ (H : Heap) (b g : Nat) (cap : Option Nat), constH H = true → H[b]? = some (.cells g (cI (brkF k)) 0) →
    ∃ H' b' g' cap', execS P (limS P) c48_l1 ⟨[.c (ci n), .slice b g 0 (brkF k).length none cap], H⟩ = some (.exit 0, ⟨[.c (ci n), .slice b' g' 0 (brkF (levN n)).length none cap'], H'⟩) ∧ constH H' = true ∧ H'[b']? = some (.cells g' (cI (brkF (levN n))) 0) ∧ H'.length = H.length + m := by
  intro m
  induction m with
  | zero =>
    intro k hk H b g cap hU hb
    have hk : k = levN n := by omega
    subst hk
    refine ⟨H, b, g, cap, ?_, hU, hb, rfl⟩
    have hlt : ¬ ((brkF (levN n)).length : Int) < n := by
      have : ¬ 2 ^ levN n < n := fun q => Nat.lt_irrefl _ ((levN_lt hn hn1 (levN_le n)).1 q)
      rw [brkF_length]
      omega
    rw [r48_l1]
    simp [c48_l1b, hlt]
  | succ m ih =>
    intro k hk H b g cap hU hb
    have hk6 : k ≤ 6 := by have := levN_le n; omega
    have hlt : ((brkF k).length : Int) < n := by
      have := (levN_lt hn hn1 hk6).2 (by omega)
      rw [brkF_length]
      omega
    have h0 := L48_0 (P := P) n H hU b g cap (brkF k) hb (brkF_1000 hk6) (brkF_len64 hk6) (brkF k) [] [] 1 rfl rfl rfl
    simp only [List.nil_append, two_flat] at h0
    obtain ⟨H', b', g', cap', h1, h2, h3, h4⟩ := ih (k + 1) (by omega) (H ++ [.cells (1 + (brkF k).length) (cI (brkF (k + 1))) 0]) H.length (1 + (brkF k).length) none (constH_snoc hU _ _ _) (by simp)
    refine ⟨H', b', g', cap', ?_, h2, h3, by rw [h4]; simp; omega⟩
    have hb64 := brkF_len64 hk6
    have hw : IntKind.i64.wrap (2 * ((brkF k).length : Int)) = 2 * (brkF k).length := wrap64 (by omega) (by omega)
    have e0 : cI [] = [] := rfl
    simp [e0] at h0 h1
    rw [r48_l1]
    simp [c48_l1b, c48_n4, c48_n3, hlt, hw, h0, h1]

theorem L48_2 (n : Nat) (b g : Nat) (cap : Option Nat) (len : Nat) (hlen : len ≤ 64) (H : Heap) (hU : constH H = true) (hb : b < H.length) : ∀ (r pre : List Int), len = (pre ++ r).length →
    execS P (limS P) c48_l2 ⟨[.c (ci n), .slice b g 0 len none cap, .c (ci pre.length)], H.set b (.cells g (cI (pre.map (cut n) ++ r)) 0)⟩ =
      some (.exit 4, ⟨[.slice b g 0 len none cap], H.set b (.cells g (cI ((pre ++ r).map (cut n))) 0)⟩) := by
  intro r
  induction r with
  | nil =>
    intro pre hl
    simp at hl
    rw [r48_l2]
    simp [c48_l2b, hl]
  | cons x r ih =>
    intro pre hl
    have ih := ih (pre ++ [x]) (by simpa using hl)
    simp at hl
    have hw : IntKind.i64.wrap (↑pre.length + 1) = ↑pre.length + 1 := wrap64 (by omega) (by omega)
    have hlt : (pre.length : Int) < len := by omega
    have hltN : pre.length < len := by omega
    have hle : pre.length + 1 ≤ len := by omega
    have g1 : (cI (pre.map (cut n) ++ x :: r))[pre.length]? = some (.c (ci x)) := by unfold cI; simp
    have g2 := (List.getElem?_eq_some_iff.1 g1).2
    have htk : ∀ X : LB, List.take H.length (H.set b X) = H.set b X := fun X => List.take_of_length_le (by simp)
    have hcl : (cI (pre.map (cut n) ++ x :: r)).length = len := by rw [cI_length]; simp; omega
    have gs : (cI (pre.map (cut n) ++ x :: r)).set pre.length (.c (ci 0)) = cI (pre.map (cut n) ++ 0 :: r) := by
      rw [cI_set]; congr 1; simp
    have hu : ∀ m zs, underB m (H.set b (.cells g (cI zs) 0)) = true := fun m zs => underB_const m (constH_set b g zs 0 hU)
    have hc : cut n x = if (n : Int) < x then 0 else x := rfl
    rw [r48_l2]
    by_cases h : (n : Int) < x
    · simp [h] at hc
      simp [hc] at ih
      simp [c48_l2b, hw, hlt, hltN, hb, hle, g1, g2, htk, gs, hcl, hu, h, hc, ih]
    · simp [h] at hc
      simp [hc] at ih
      simp [c48_l2b, hw, hlt, hltN, hb, hle, g1, g2, htk, hcl, hu, h, hc, ih]


theorem S48 (n : Nat) (h1 : 1 ≤ n) (hn : n ≤ 64) : ∃ b g cap H, ffn P 48 [ci n] = some (.slice b g 0 (brk n).length none cap, H) ∧ H[b]? = some (.cells g (cI (brk n)) 0) ∧ constH H = true ∧ H.length ≤ 30 := by
  obtain ⟨H, b, g, cap, h2, hU, hb, hHl⟩ := L48_1 (P := P) n hn h1 (levN n) 0 (by omega) [.cells 1 [] 0, .cells 1 [.c (ci 1)] 0] 1 1 (some 1) rfl rfl
  have hbl : b < H.length := (List.getElem?_eq_some_iff.1 hb).1
  have h3 := L48_2 (P := P) n b g cap (brkF (levN n)).length (brkF_len64 (levN_le n)) H hU hbl (brkF (levN n)) [] rfl
  have hs : H.set b (.cells g (cI (brkF (levN n))) 0) = H := by
    apply List.ext_getElem?
    intro i
    rw [List.getElem?_set]
    split
    · rename_i e
      subst e
      simp [hbl]
      exact (List.getElem?_eq_some_iff.1 hb).2.symm
    · rfl
  have e : (brkF (levN n)).map (cut n) = brk n := rfl
  have hl : (brkF (levN n)).length = (brk n).length := by rw [← e]; simp
  simp only [List.map_nil, List.nil_append, hs, e] at h3
  have b0 : brkF 0 = [1] := rfl
  refine ⟨b, g, cap, H.set b (.cells g (cI (brk n)) 0), ?_, by simp [hbl], constH_set b g _ 0 hU, by have := levN_le n; simp at hHl ⊢; omega⟩
  simp [b0, hl] at h2 h3
  rw [u48]
  simp [c48, h2, h3]
end LM.G6

namespace LM.G6
open Go LM

/-- The first place of a seed. -/
def ix (a : Int) : List Int → Nat
  | [] => 0
  | x :: r => if x = a then 0 else ix a r + 1
/-- The last place of a seed. -/
def lastI (a : Int) : Nat → Nat → List Int → Nat
  | acc, _, [] => acc
  | acc, i, x :: r => lastI a (if x = a then i else acc) (i + 1) r
theorem cut_eq {n : Nat} {a s : Int} (h1 : 1 ≤ a) (h2 : a ≤ n) : cut n s = a ↔ s = a := by
  unfold cut
  split <;> omega
theorem ix_cut {n : Nat} {a : Int} (h1 : 1 ≤ a) (h2 : a ≤ n) : ∀ l, ix a (l.map (cut n)) = ix a l
  | [] => rfl
  | x :: r => by
    simp only [List.map_cons, ix]
    rw [ix_cut h1 h2 r]
    by_cases h : x = a
    · rw [if_pos h, if_pos ((cut_eq h1 h2).2 h)]
    · rw [if_neg h, if_neg (fun q => h ((cut_eq h1 h2).1 q))]
theorem lastI_cut {n : Nat} {a : Int} (h1 : 1 ≤ a) (h2 : a ≤ n) : ∀ l acc i, lastI a acc i (l.map (cut n)) = lastI a acc i l
  | [], _, _ => rfl
  | x :: r, acc, i => by
    simp only [List.map_cons, lastI]
    rw [lastI_cut h1 h2 r]
    by_cases h : x = a
    · rw [if_pos h, if_pos ((cut_eq h1 h2).2 h)]
    · rw [if_neg h, if_neg (fun q => h ((cut_eq h1 h2).1 q))]
def placesOk (k : Nat) : Bool := (List.range (2 ^ k)).all fun a => decide (ix ((a : Nat) + 1) (brkF k) < 2 ^ k) && (lastI ((a : Nat) + 1) 0 0 (brkF k) == ix ((a : Nat) + 1) (brkF k)) && (brkF k).contains (((a : Nat) : Int) + 1)
theorem places_all : (List.range 7).all placesOk = true := by decide +kernel
theorem brk_eq (n : Nat) : brk n = (brkF (levN n)).map (cut n) := rfl
theorem le_lev {n : Nat} (h1 : 1 ≤ n) (hn : n ≤ 64) : n ≤ 2 ^ levN n := by
  have h := (levN_lt hn h1 (levN_le n))
  have : ¬ 2 ^ levN n < n := fun q => Nat.lt_irrefl _ (h.1 q)
  omega
theorem brk_place {n : Nat} {a : Int} (h1 : 1 ≤ a) (h2 : a ≤ n) (hn : n ≤ 64) : ix a (brk n) < 64 ∧ lastI a 0 0 (brk n) = ix a (brk n) ∧ a ∈ brk n := by
  have hk := levN_le n
  have hp := places_all
  rw [List.all_eq_true] at hp
  have hp := hp (levN n) (List.mem_range.2 (by omega))
  unfold placesOk at hp
  rw [List.all_eq_true] at hp
  have hle := le_lev (n := n) (by omega) hn
  have ea : ((a.toNat - 1 : Nat) : Int) + 1 = a := by omega
  have hp := hp (a.toNat - 1) (List.mem_range.2 (by omega))
  simp only [Bool.and_eq_true, decide_eq_true_eq, beq_iff_eq, ea, List.contains_iff_mem] at hp
  obtain ⟨⟨q1, q2⟩, q3⟩ := hp
  have h64 : 2 ^ levN n ≤ 64 := Nat.le_trans (Nat.pow_le_pow_right (by omega) hk) (by decide)
  rw [brk_eq, ix_cut h1 h2, lastI_cut h1 h2]
  exact ⟨by omega, q2, List.mem_map.2 ⟨a, q3, (cut_eq h1 h2).2 rfl⟩⟩

/-- How often two places are halved until they are one. -/
def halv : Nat → Nat → Nat → Nat
  | 0, _, _ => 0
  | f + 1, x, y => if x = y then 0 else halv f (x / 2) (y / 2) + 1
theorem halv_all : (List.range 64).all (fun x => (List.range 64).all fun y => blen 7 (x ^^^ y) == halv 7 x y) = true := by decide +kernel
theorem xor_all : (List.range 64).all (fun x => (List.range 64).all fun y => IntKind.i64.wrap ((BitVec.ofInt 64 (x : Nat) ^^^ BitVec.ofInt 64 (y : Nat)).toNat : Nat) == ((x ^^^ y : Nat) : Int) && decide (x ^^^ y < 64)) = true := by decide +kernel
theorem u64_all : (List.range 64).all (fun x => IntKind.u64.wrap ((x : Nat) : Int) == ((x : Nat) : Int)) = true := by decide +kernel
theorem all2 {p : Nat → Nat → Bool} {n : Nat} (h : (List.range n).all (fun x => (List.range n).all fun y => p x y) = true) {x y : Nat} (hx : x < n) (hy : y < n) : p x y = true := by
  rw [List.all_eq_true] at h
  have := h x (List.mem_range.2 hx)
  rw [List.all_eq_true] at this
  exact this y (List.mem_range.2 hy)
/-- The round in which two seeds meet. -/
def meet (n : Nat) (a b : Int) : Nat := halv 7 (ix a (brk n)) (ix b (brk n))
end LM.G6

namespace LM.G6
open Go LM

theorem strElem (s : Str) : Elem none (CV.str s) := ⟨rfl, rfl⟩
theorem strElems (l : List Str) : ∀ x ∈ l.map CV.str, Elem none x := by
  intro x hx
  obtain ⟨y, _, rfl⟩ := List.mem_map.1 hx
  exact strElem y

end LM.G6

namespace LM.G6
open Go LM
variable {P : Nat → Option SFunc} [Has P]

structure Pr where
  a : Int
  b : Int
def Pr.enc (x : Pr) : CV := .agg [ci x.a, ci x.b]
theorem Pr.elem (x : Pr) : Elem (some 2) x.enc := ⟨_, rfl, rfl, by simp⟩
theorem Pr.elems (l : List Pr) : ∀ x ∈ l.map Pr.enc, Elem (some 2) x := by
  intro x hx
  obtain ⟨y, _, rfl⟩ := List.mem_map.1 hx
  exact y.elem
def callP (f e w : Int) (i : Nat) : Pr := ⟨max 0 (f + i * e - w), f + i * e⟩
def callsL (f e w : Int) (n : Nat) : List Pr := (List.range n).map (callP f e w)
theorem callsL_succ (f e w : Int) (i : Nat) : (callsL f e w (i + 1)).map Pr.enc = (callsL f e w i).map Pr.enc ++ [(callP f e w i).enc] := by
  unfold callsL
  rw [List.range_succ, List.map_append, List.map_append]
  rfl
def isoL (f e w t : Int) (n : Nat) : List Int := ((List.range n).filter fun (i : Nat) => decide (w ≤ t ∧ t < f + (i : Int) * e)).map fun (i : Nat) => (i : Int)
theorem isoL_succ (f e w t : Int) (i : Nat) : isoL f e w t (i + 1) = if w ≤ t ∧ t < f + i * e then isoL f e w t i ++ [(i : Int)] else isoL f e w t i := by
  unfold isoL
  rw [List.range_succ, List.filter_append, List.map_append]
  by_cases h : w ≤ t ∧ t < f + i * e <;> simp [h]
theorem isoL_le (f e w t : Int) (i : Nat) : (isoL f e w t i).length ≤ i := by
  unfold isoL
  rw [List.length_map]
  exact Nat.le_trans (List.length_filter_le _ _) (by simp)

theorem L44 (n : Nat) (hn : n ≤ 160) (f e w : Int) (hf : 0 ≤ f ∧ f ≤ 86399999) (he : 0 ≤ e ∧ e ≤ 86399999) (hw : 0 ≤ w ∧ w ≤ 86399999) : ∀ (m i : Nat), i + m = n →
    execS P (limS P) c44_l0 ⟨[.c (ci n), .c (ci f), .c (ci e), .c (ci w), .slice 1 (1 + i) 0 i (some 2) none, .c (ci i)], [.cells 1 [] 0, .cells (1 + i) (cellsOf ((callsL f e w i).map Pr.enc)) 0]⟩ =
      some (.exit 0, ⟨[.slice 1 (1 + n) 0 n (some 2) none], [.cells 1 [] 0, .cells (1 + n) (cellsOf ((callsL f e w n).map Pr.enc)) 0]⟩) := by
  intro m
  induction m with
  | zero =>
    intro i h
    simp at h
    subst h
    rw [r44_l0]
    simp [c44_l0b]
  | succ m ih =>
    intro i h
    have ih := ih (i + 1) (by omega)
    have hi : (0 : Int) ≤ i := by omega
    have hi2 : (i : Int) ≤ 160 := by omega
    have hm0 : 0 ≤ (i : Int) * e := Int.mul_nonneg hi he.1
    have hm1 : (i : Int) * e ≤ 160 * 86399999 := Int.mul_le_mul hi2 he.2 he.1 (by omega)
    have w1 : IntKind.i64.wrap ((i : Int) * e) = i * e := wrap64 (by omega) (by omega)
    have w2 : IntKind.i64.wrap (f + i * e) = f + i * e := wrap64 (by omega) (by omega)
    have w3 : IntKind.i64.wrap (f + i * e - w) = f + i * e - w := wrap64 (by omega) (by omega)
    have w4 : IntKind.i64.wrap ((i : Int) + 1) = i + 1 := wrap64 (by omega) (by omega)
    have hlt : (i : Int) < n := by omega
    have hmx : (if w < f + i * e then f + i * e - w else 0) = max 0 (f + i * e - w) := by split <;> omega
    have hl : (callsL f e w i).length = i := by simp [callsL]
    have ha := append_own (b := 1) (g := 1 + i) (bytes := 16) (e := some 2) (ys := (callsL f e w i).map Pr.enc) (xs := [(callP f e w i).enc]) (h := [.cells 1 [] 0, .cells (1 + i) (cellsOf ((callsL f e w i).map Pr.enc)) 0]) (len := i) (fz := 0) rfl (Pr.elems _) (by simpa using (callP f e w i).elem) (by simp [hl]) (Nat.zero_le _) (by simp) (by simp [hl]; omega) (by simp [hl]; omega)
    have e1 : 1 + (i + 1) = 1 + i + 1 := by omega
    rw [← callsL_succ] at ha
    simp [callP, Pr.enc] at ha
    simp [e1, Pr.enc] at ih
    have hu : ∀ n ys, underL n (cellsOf ys) = true := fun n ys => underL_cellsOf n ys
    rw [r44_l0]
    simp [c44_l0b, w1, w2, w3, w4, hlt, foldInt, hmx, ha, hu, Pr.enc, ih]

theorem L39 (n : Nat) (hn : n ≤ 160) (f e w : Int) (hf : 0 ≤ f ∧ f ≤ 86399999) (he : 0 ≤ e ∧ e ≤ 86399999) (hw : 0 ≤ w ∧ w ≤ 86399999) : ∀ (m i : Nat), i + m = n →
    execS P (limS P) c39_l0 ⟨[.c (ci f), .c (ci e), .c (ci w), .slice 3 (1 + i) 0 i (some 2) none, .c (ci n), .c (ci i)], [.cells 1 [] 0, .cells 1 [.c (ci w)] 0, .cells 1 [.c (ci w), .c (ci f), .c (ci e)] 0, .cells (1 + i) (cellsOf ((callsL f e w i).map Pr.enc)) 0]⟩ =
      some (.exit 0, ⟨[.slice 3 (1 + n) 0 n (some 2) none], [.cells 1 [] 0, .cells 1 [.c (ci w)] 0, .cells 1 [.c (ci w), .c (ci f), .c (ci e)] 0, .cells (1 + n) (cellsOf ((callsL f e w n).map Pr.enc)) 0]⟩) := by
  intro m
  induction m with
  | zero =>
    intro i h
    simp at h
    subst h
    rw [r39_l0]
    simp [c39_l0b]
  | succ m ih =>
    intro i h
    have ih := ih (i + 1) (by omega)
    have hi : (0 : Int) ≤ i := by omega
    have hi2 : (i : Int) ≤ 160 := by omega
    have hm0 : 0 ≤ (i : Int) * e := Int.mul_nonneg hi he.1
    have hm1 : (i : Int) * e ≤ 160 * 86399999 := Int.mul_le_mul hi2 he.2 he.1 (by omega)
    have w1 : IntKind.i64.wrap ((i : Int) * e) = i * e := wrap64 (by omega) (by omega)
    have w2 : IntKind.i64.wrap (f + i * e) = f + i * e := wrap64 (by omega) (by omega)
    have w3 : IntKind.i64.wrap (f + i * e - w) = f + i * e - w := wrap64 (by omega) (by omega)
    have w4 : IntKind.i64.wrap ((i : Int) + 1) = i + 1 := wrap64 (by omega) (by omega)
    have hlt : (i : Int) < n := by omega
    have hmx : (if w < f + i * e then f + i * e - w else 0) = max 0 (f + i * e - w) := by split <;> omega
    have hl : (callsL f e w i).length = i := by simp [callsL]
    have ha := append_own (b := 3) (g := 1 + i) (bytes := 16) (e := some 2) (ys := (callsL f e w i).map Pr.enc) (xs := [(callP f e w i).enc]) (h := [.cells 1 [] 0, .cells 1 [.c (ci w)] 0, .cells 1 [.c (ci w), .c (ci f), .c (ci e)] 0, .cells (1 + i) (cellsOf ((callsL f e w i).map Pr.enc)) 0]) (len := i) (fz := 0) rfl (Pr.elems _) (by simpa using (callP f e w i).elem) (by simp [hl]) (Nat.zero_le _) (by simp) (by simp [hl]; omega) (by simp [hl]; omega)
    have e1 : 1 + (i + 1) = 1 + i + 1 := by omega
    rw [← callsL_succ] at ha
    simp [callP, Pr.enc] at ha
    simp [e1, Pr.enc] at ih
    have hu : ∀ n ys, underL n (cellsOf ys) = true := fun n ys => underL_cellsOf n ys
    rw [r39_l0]
    simp [c39_l0b, w1, w2, w3, w4, hlt, foldInt, hmx, ha, hu, Pr.enc, ih]

theorem L43 (n : Nat) (hn : n ≤ 160) (f e w t : Int) (hf : 0 ≤ f ∧ f ≤ 86399999) (he : 0 ≤ e ∧ e ≤ 86399999) : ∀ (m i : Nat), i + m = n →
    execS P (limS P) c43_l0 ⟨[.c (ci n), .c (ci f), .c (ci e), .c (ci w), .c (ci t), .slice 1 (1 + (isoL f e w t i).length) 0 (isoL f e w t i).length none none, .c (ci i)], [.cells 1 [] 0, .cells (1 + (isoL f e w t i).length) (cI (isoL f e w t i)) 0]⟩ =
      some (.exit 0, ⟨[.slice 1 (1 + (isoL f e w t n).length) 0 (isoL f e w t n).length none none], [.cells 1 [] 0, .cells (1 + (isoL f e w t n).length) (cI (isoL f e w t n)) 0]⟩) := by
  intro m
  induction m with
  | zero =>
    intro i h
    simp at h
    subst h
    rw [r43_l0]
    simp [c43_l0b]
  | succ m ih =>
    intro i h
    have ih := ih (i + 1) (by omega)
    have hi : (0 : Int) ≤ i := by omega
    have hi2 : (i : Int) ≤ 160 := by omega
    have hm0 : 0 ≤ (i : Int) * e := Int.mul_nonneg hi he.1
    have hm1 : (i : Int) * e ≤ 160 * 86399999 := Int.mul_le_mul hi2 he.2 he.1 (by omega)
    have w1 : IntKind.i64.wrap ((i : Int) * e) = i * e := wrap64 (by omega) (by omega)
    have w2 : IntKind.i64.wrap (f + i * e) = f + i * e := wrap64 (by omega) (by omega)
    have w4 : IntKind.i64.wrap ((i : Int) + 1) = i + 1 := wrap64 (by omega) (by omega)
    have hlt : (i : Int) < n := by omega
    have hl : (isoL f e w t i).length ≤ i := isoL_le f e w t i
    have es := isoL_succ f e w t i
    rw [r43_l0]
    by_cases q1 : w ≤ t
    · by_cases q2 : t < f + i * e
      · rw [if_pos ⟨q1, q2⟩] at es
        have ha := append_own (b := 1) (g := 1 + (isoL f e w t i).length) (bytes := 8) (e := none) (ys := (isoL f e w t i).map ci) (xs := [ci i]) (h := [.cells 1 [] 0, .cells (1 + (isoL f e w t i).length) (cellsOf ((isoL f e w t i).map ci)) 0]) (len := (isoL f e w t i).length) (fz := 0) rfl (intElems _) (intElems [(i : Int)]) (by simp) (Nat.zero_le _) (by simp) (by simp; omega) (by simp; omega)
        have e2 : (isoL f e w t i).map ci ++ [ci i] = (isoL f e w t i ++ [(i : Int)]).map ci := by simp
        rw [e2, cellsOf_ints, cellsOf_ints] at ha
        have e1 : 1 + ((isoL f e w t i).length + 1) = 1 + (isoL f e w t i).length + 1 := by omega
        simp [es, e1] at ih ha
        simp [c43_l0b, w1, w2, w4, hlt, q1, q2, ha, under_cI, ih]
      · rw [if_neg (fun q => q2 q.2)] at es
        simp [es] at ih
        simp [c43_l0b, w1, w2, w4, hlt, q1, q2, under_cI, ih]
    · rw [if_neg (fun q => q1 q.1)] at es
      simp [es] at ih
      simp [c43_l0b, w1, w2, w4, hlt, q1, under_cI, ih]

theorem L40 (n : Nat) (hn : n ≤ 160) (f e w t : Int) (hf : 0 ≤ f ∧ f ≤ 86399999) (he : 0 ≤ e ∧ e ≤ 86399999) : ∀ (m i : Nat), i + m = n →
    execS P (limS P) c40_l0 ⟨[.c (ci f), .c (ci e), .c (ci w), .c (ci t), .slice 3 (1 + (isoL f e w t i).length) 0 (isoL f e w t i).length none none, .c (ci n), .c (ci i)], [.cells 1 [] 0, .cells 1 [.c (ci w), .c (ci t)] 0, .cells 1 [.c (ci w), .c (ci t), .c (ci f), .c (ci e)] 0, .cells (1 + (isoL f e w t i).length) (cI (isoL f e w t i)) 0]⟩ =
      some (.exit 0, ⟨[.slice 3 (1 + (isoL f e w t n).length) 0 (isoL f e w t n).length none none], [.cells 1 [] 0, .cells 1 [.c (ci w), .c (ci t)] 0, .cells 1 [.c (ci w), .c (ci t), .c (ci f), .c (ci e)] 0, .cells (1 + (isoL f e w t n).length) (cI (isoL f e w t n)) 0]⟩) := by
  intro m
  induction m with
  | zero =>
    intro i h
    simp at h
    subst h
    rw [r40_l0]
    simp [c40_l0b]
  | succ m ih =>
    intro i h
    have ih := ih (i + 1) (by omega)
    have hi : (0 : Int) ≤ i := by omega
    have hi2 : (i : Int) ≤ 160 := by omega
    have hm0 : 0 ≤ (i : Int) * e := Int.mul_nonneg hi he.1
    have hm1 : (i : Int) * e ≤ 160 * 86399999 := Int.mul_le_mul hi2 he.2 he.1 (by omega)
    have w1 : IntKind.i64.wrap ((i : Int) * e) = i * e := wrap64 (by omega) (by omega)
    have w2 : IntKind.i64.wrap (f + i * e) = f + i * e := wrap64 (by omega) (by omega)
    have w4 : IntKind.i64.wrap ((i : Int) + 1) = i + 1 := wrap64 (by omega) (by omega)
    have hlt : (i : Int) < n := by omega
    have hl : (isoL f e w t i).length ≤ i := isoL_le f e w t i
    have es := isoL_succ f e w t i
    rw [r40_l0]
    by_cases q1 : w ≤ t
    · by_cases q2 : t < f + i * e
      · rw [if_pos ⟨q1, q2⟩] at es
        have ha := append_own (b := 3) (g := 1 + (isoL f e w t i).length) (bytes := 8) (e := none) (ys := (isoL f e w t i).map ci) (xs := [ci i]) (h := [.cells 1 [] 0, .cells 1 [.c (ci w), .c (ci t)] 0, .cells 1 [.c (ci w), .c (ci t), .c (ci f), .c (ci e)] 0, .cells (1 + (isoL f e w t i).length) (cellsOf ((isoL f e w t i).map ci)) 0]) (len := (isoL f e w t i).length) (fz := 0) rfl (intElems _) (intElems [(i : Int)]) (by simp) (Nat.zero_le _) (by simp) (by simp; omega) (by simp; omega)
        have e2 : (isoL f e w t i).map ci ++ [ci i] = (isoL f e w t i ++ [(i : Int)]).map ci := by simp
        rw [e2, cellsOf_ints, cellsOf_ints] at ha
        have e1 : 1 + ((isoL f e w t i).length + 1) = 1 + (isoL f e w t i).length + 1 := by omega
        simp [es, e1] at ih ha
        simp [c40_l0b, w1, w2, w4, hlt, q1, q2, ha, under_cI, ih]
      · rw [if_neg (fun q => q2 q.2)] at es
        simp [es] at ih
        simp [c40_l0b, w1, w2, w4, hlt, q1, q2, under_cI, ih]
    · rw [if_neg (fun q => q1 q.1)] at es
      simp [es] at ih
      simp [c40_l0b, w1, w2, w4, hlt, q1, under_cI, ih]

end LM.G6

namespace LM.G6
open Go LM
variable {P : Nat → Option SFunc} [Has P]

theorem firstE_zB (e : Int) (r : List Int) : firstE (e :: r) = 0 ↔ e = 0 ∧ firstE r = 0 := by
  rw [firstE]
  by_cases h : e = 0 <;> simp [h]
theorem whenE_z {b : Bool} {e : Int} (he : e ≠ 0) : whenE b e = 0 ↔ b = false := by
  unfold whenE
  cases b <;> simp [he]
theorem outside_f {x a b : Int} : outside x a b = false ↔ a ≤ x ∧ x ≤ b := by
  unfold outside
  by_cases h1 : x < a <;> by_cases h2 : x > b <;> simp [h1, h2] <;> omega
theorem startsE_zero {n f e : Int} {ts : List Int} (h : startsE n f e ts = 0) : (0 ≤ n ∧ n ≤ 160) ∧ (∀ t ∈ ts, 0 ≤ t ∧ t ≤ 86399999) ∧ (0 ≤ f ∧ f ≤ 86399999) ∧ (0 ≤ e ∧ e ≤ 86399999) := by
  unfold startsE at h
  simp only [firstE_zB, whenE_z (show (3 : Int) ≠ 0 by decide), outside_f] at h
  obtain ⟨h1, h2, _⟩ := h
  rw [List.any_eq_false] at h2
  have key : ∀ t ∈ ts ++ [f, e], 0 ≤ t ∧ t ≤ 86399999 := fun t ht => by
    have := h2 t ht
    exact outside_f.1 (by simpa [badT] using this)
  exact ⟨h1, fun t ht => key t (by simp [ht]), key f (by simp), key e (by simp)⟩

theorem S39 (n f e w : Int) : fn P 39 [ci n, ci f, ci e, ci w] = some (if startsE n f e [w] = 0 then .tuple [.slice ((callsL f e w n.toNat).map Pr.enc), ci 0] else .tuple [.slice [], ci (startsE n f e [w])]) := by
  have a := S108_1 (P := P) n f e w
  rw [u39]
  by_cases h : startsE n f e [w] = 0
  · obtain ⟨hn, ht, hf, he⟩ := startsE_zero h
    have hw := ht w (by simp)
    obtain ⟨k, rfl⟩ : ∃ k : Nat, n = k := ⟨n.toNat, by omega⟩
    have hL := L39 (P := P) k (by omega) f e w hf he hw k 0 (by omega)
    have hl : (callsL f e w k).length = k := by simp [callsL]
    have e0 : callsL f e w 0 = [] := rfl
    have hr := resV_own (b := 3) (g := 1 + k) (fz := 0) (e := some 2) (ys := (callsL f e w k).map Pr.enc) (h := [.cells 1 [] 0, .cells 1 [.c (ci w)] 0, .cells 1 [.c (ci w), .c (ci f), .c (ci e)] 0, .cells (1 + k) (cellsOf ((callsL f e w k).map Pr.enc)) 0]) (len := k) rfl (Pr.elems _) (by simp [hl]) none (ci 0)
    have c0 : cellsOf [] = [] := rfl
    simp [e0, c0] at hL
    simp [c39, a, frzFuncs_nil, frzFuncs_c, frzFuncs_slice, h, hL, hr]
  · simp [c39, a, frzFuncs_nil, frzFuncs_c, frzFuncs_slice, h]
theorem S40 (n f e w t : Int) : fn P 40 [ci n, ci f, ci e, ci w, ci t] = some (if startsE n f e [w, t] = 0 then .tuple [.slice ((isoL f e w t n.toNat).map ci), ci 0] else .tuple [.slice [], ci (startsE n f e [w, t])]) := by
  have a := S108_2 (P := P) n f e w t
  rw [u40]
  by_cases h : startsE n f e [w, t] = 0
  · obtain ⟨hn, ht, hf, he⟩ := startsE_zero h
    obtain ⟨k, rfl⟩ : ∃ k : Nat, n = k := ⟨n.toNat, by omega⟩
    have hL := L40 (P := P) k (by omega) f e w t hf he k 0 (by omega)
    have e0 : isoL f e w t 0 = [] := rfl
    have hr := resV_own (b := 3) (g := 1 + (isoL f e w t k).length) (fz := 0) (e := none) (ys := (isoL f e w t k).map ci) (h := [.cells 1 [] 0, .cells 1 [.c (ci w), .c (ci t)] 0, .cells 1 [.c (ci w), .c (ci t), .c (ci f), .c (ci e)] 0, .cells (1 + (isoL f e w t k).length) (cellsOf ((isoL f e w t k).map ci)) 0]) (len := (isoL f e w t k).length) rfl (intElems _) (by simp) none (ci 0)
    have c0 : cI [] = [] := rfl
    rw [cellsOf_ints] at hr
    simp [e0, c0] at hL
    simp [c40, a, frzFuncs_nil, frzFuncs_c, frzFuncs_slice, h, hL, hr]
  · simp [c40, a, frzFuncs_nil, frzFuncs_c, frzFuncs_slice, h]
theorem S44 (n f e w : Int) (hn : 0 ≤ n ∧ n ≤ 160) (hf : 0 ≤ f ∧ f ≤ 86399999) (he : 0 ≤ e ∧ e ≤ 86399999) (hw : 0 ≤ w ∧ w ≤ 86399999) : fn P 44 [ci n, ci f, ci e, ci w] = some (.slice ((callsL f e w n.toNat).map Pr.enc)) := by
  obtain ⟨k, rfl⟩ : ∃ k : Nat, n = k := ⟨n.toNat, by omega⟩
  have hL := L44 (P := P) k (by omega) f e w hf he hw k 0 (by omega)
  have hl : (callsL f e w k).length = k := by simp [callsL]
  have e0 : callsL f e w 0 = [] := rfl
  have hr := resV_own1 (b := 1) (g := 1 + k) (fz := 0) (e := some 2) (ys := (callsL f e w k).map Pr.enc) (h := [.cells 1 [] 0, .cells (1 + k) (cellsOf ((callsL f e w k).map Pr.enc)) 0]) (len := k) rfl (Pr.elems _) (by simp [hl]) none
  have c0 : cellsOf [] = [] := rfl
  simp [e0, c0] at hL
  rw [u44]
  simp [c44, hL, hr]
theorem S43 (n f e w t : Int) (hn : 0 ≤ n ∧ n ≤ 160) (hf : 0 ≤ f ∧ f ≤ 86399999) (he : 0 ≤ e ∧ e ≤ 86399999) : fn P 43 [ci n, ci f, ci e, ci w, ci t] = some (.slice ((isoL f e w t n.toNat).map ci)) := by
  obtain ⟨k, rfl⟩ : ∃ k : Nat, n = k := ⟨n.toNat, by omega⟩
  have hL := L43 (P := P) k (by omega) f e w t hf he k 0 (by omega)
  have e0 : isoL f e w t 0 = [] := rfl
  have hr := resV_own1 (b := 1) (g := 1 + (isoL f e w t k).length) (fz := 0) (e := none) (ys := (isoL f e w t k).map ci) (h := [.cells 1 [] 0, .cells (1 + (isoL f e w t k).length) (cellsOf ((isoL f e w t k).map ci)) 0]) (len := (isoL f e w t k).length) rfl (intElems _) (by simp) none
  have c0 : cI [] = [] := rfl
  rw [cellsOf_ints] at hr
  simp [e0, c0] at hL
  rw [u43]
  simp [c43, hL, hr]

theorem L28 : ∀ (l p m q : List Int), p.length = q.length → l.length = m.length → ((p ++ l).length : Int) < 9223372036854775807 →
    execS P (limS P) c28_l0 ⟨[.c (.slice ((p ++ l).map ci)), .c (.slice ((q ++ m).map ci)), .c (ci p.length)], []⟩ = if l = m then some (.exit 0, ⟨[], []⟩) else some (.ret, ⟨[.c (.bool false)], []⟩) := by
  intro l
  induction l with
  | nil =>
    intro p m q hp hl h
    have : m = [] := List.eq_nil_of_length_eq_zero hl.symm
    subst this
    rw [r28_l0]
    simp [c28_l0b]
  | cons c r ih =>
    intro p m q hp hl h
    cases m with
    | nil => simp at hl
    | cons d m =>
      have ih := ih (p ++ [c]) m (q ++ [d]) (by simp [hp]) (by simpa using hl) (by simpa using h)
      simp at ih h hl
      have hw : IntKind.i64.wrap (↑p.length + 1) = ↑p.length + 1 := wrap64 (by omega) (by omega)
      have hlt : (p.length : Int) < p.length + (r.length + 1) := by omega
      have hlt2 : p.length < q.length + (m.length + 1) := by omega
      have hlt3 : (p.length : Int) < q.length + (m.length + 1) := by omega
      have hg : (List.map ci q ++ ci d :: List.map ci m)[p.length]'(by simpa using hlt2) = ci d := by simp [hp]
      rw [r28_l0]
      by_cases h0 : c = d
      · subst h0
        simp [c28_l0b, hw, hlt, hlt2, hlt3, hg]
        exact ih
      · simp [c28_l0b, hw, hlt, hlt2, hlt3, hg, h0]

@[simp] theorem S28 (l m : List Int) (h : (l.length : Int) < 9223372036854775807) : fn P 28 [.slice (l.map ci), .slice (m.map ci)] = some (.bool (decide (l = m))) := by
  rw [u28]
  by_cases hl : l.length = m.length
  · have := L28 (P := P) l [] m [] rfl hl (by simpa using h)
    simp at this
    by_cases h0 : l = m
    · rw [if_pos h0] at this
      rw [decide_eq_true h0]
      simp [c28, hl, this]
    · rw [if_neg h0] at this
      rw [decide_eq_false h0]
      simp [c28, hl, this]
  · have h1 : ¬ (l.length : Int) = m.length := by omega
    have h2 : ¬ l = m := fun e => hl (by rw [e])
    simp [c28, h1, h2]

theorem S25 (l m : List Int) (e bad : Int) (h : (l.length : Int) < 9223372036854775807) : fn P 25 [.slice (l.map ci), ci e, ci bad, .slice (m.map ci)] = some (.bool (if bad ≠ 0 then l.isEmpty && (e == bad) else (e == 0) && decide (l = m))) := by
  have e28 := S28 (P := P) l m h
  rw [u25]
  by_cases hb : bad = 0
  · by_cases he : e = 0
    · simp [c25, hb, he, e28]
    · simp [c25, hb, he]
  · cases l with
    | nil => simp [c25, hb] <;> rfl
    | cons x r =>
      have : ¬ (r.length : Int) + 1 = 0 := by omega
      simp [c25, hb, this]
end LM.G6

namespace LM.G6
open Go LM
variable {P : Nat → Option SFunc} [Has P]

theorem L112 (a : Int) : ∀ (l pre : List Int), ((pre ++ l).length : Int) < 9223372036854775807 → a ∈ l →
    execS P (limS P) c112_l0 ⟨[.c (.slice ((pre ++ l).map ci)), .c (ci a), .c (ci (pre ++ l).length), .c (ci pre.length)], []⟩ = some (.ret, ⟨[.c (ci (pre.length + ix a l : Nat))], []⟩) := by
  intro l
  induction l with
  | nil => intro pre h hm; simp at hm
  | cons x r ih =>
    intro pre h hm
    have ih := ih (pre ++ [x]) (by simpa using h)
    simp at ih h
    have hw : IntKind.i64.wrap (↑pre.length + 1) = ↑pre.length + 1 := wrap64 (by omega) (by omega)
    have hlt : (pre.length : Int) < pre.length + (r.length + 1) := by omega
    rw [r112_l0]
    by_cases h0 : a = x
    · simp [c112_l0b, hw, hlt, ix, h0]
    · have h0' : ¬ x = a := fun e => h0 e.symm
      have hr : a ∈ r := by
        rcases List.mem_cons.1 hm with e | e
        · exact absurd e h0
        · exact e
      have ih := ih hr
      have e1 : ((pre.length : Int) + 1 + (ix a r : Nat)) = pre.length + ((ix a r : Nat) + 1) := by omega
      rw [e1] at ih
      simp [c112_l0b, hw, hlt, ix, h0, h0', ih]
theorem S112 (a : Int) (l : List Int) (h : (l.length : Int) < 9223372036854775807) (hm : a ∈ l) : fn P 112 [.slice (l.map ci), ci a] = some (ci (ix a l)) := by
  have := L112 (P := P) a l [] (by simpa using h) hm
  simp at this
  rw [u112]
  simp [c112, this]

theorem S109 (n : Int) : fn P 109 [ci n] = some (ci (whenE (outside n 1 64) 3)) := by
  rw [u109]
  simp [c109]

def meetE (n a b : Int) : Int := firstE [whenE (outside n 1 64) 3, whenE (decide (min a b < 1) || decide (n < max a b)) 10, whenE (a == b) 9]
theorem S46 (T : Tabs P) (n a b : Int) : fn P 46 [ci n, ci a, ci b] = some (.tuple [ci (if meetE n a b = 0 then meet n.toNat a b else 0), ci (meetE n a b)]) := by
  have e109 := S109 (P := P) n
  have m1 : (if b < a then b else a) = min a b := by split <;> omega
  have m2 : (if a < b then b else a) = max a b := by split <;> omega
  rw [u46]
  by_cases h : meetE n a b = 0
  · have h' := h
    unfold meetE at h'
    simp only [firstE_zB, whenE_z (show (3 : Int) ≠ 0 by decide), whenE_z (show (10 : Int) ≠ 0 by decide), whenE_z (show (9 : Int) ≠ 0 by decide), outside_f, Bool.or_eq_false_iff, decide_eq_false_iff_not, beq_eq_false_iff_ne] at h'
    obtain ⟨h1, h2, h3, _⟩ := h'
    obtain ⟨k, rfl⟩ : ∃ k : Nat, n = k := ⟨n.toNat, by omega⟩
    have hk : k ≤ 64 := by omega
    have e110 := S110 (P := P) k (by omega) hk
    obtain ⟨qa1, qa2, qa3⟩ := brk_place (n := k) (a := a) (by omega) (by omega) hk
    obtain ⟨qb1, qb2, qb3⟩ := brk_place (n := k) (a := b) (by omega) (by omega) hk
    have hl : ((brk k).length : Int) < 9223372036854775807 := by
      have := brkF_len64 (levN_le k)
      rw [brk_length']
      omega
    have ea := S112 (P := P) a (brk k) hl qa3
    have eb := S112 (P := P) b (brk k) hl qb3
    have x1 := all2 xor_all qa1 qb1
    simp only [Bool.and_eq_true, beq_iff_eq, decide_eq_true_eq] at x1
    have x2 := all2 halv_all qa1 qb1
    simp only [beq_iff_eq] at x2
    have x3 := u64_all
    rw [List.all_eq_true] at x3
    have x3 := x3 (ix a (brk k) ^^^ ix b (brk k)) (List.mem_range.2 x1.2)
    simp only [beq_iff_eq] at x3
    have eT := T.len (ix a (brk k) ^^^ ix b (brk k)) x1.2
    rw [x2] at eT
    have hm : meet k a b = halv 7 (ix a (brk k)) (ix b (brk k)) := rfl
    have hma : ix a (brk k) % 2 ^ IntKind.i64.bits = ix a (brk k) := Nat.mod_eq_of_lt (Nat.lt_trans qa1 (by decide))
    have hmb : ix b (brk k) % 2 ^ IntKind.i64.bits = ix b (brk k) := Nat.mod_eq_of_lt (Nat.lt_trans qb1 (by decide))
    have hx : IntKind.i64.wrap ((ix a (brk k) ^^^ ix b (brk k) : Nat) : Int) = ((ix a (brk k) ^^^ ix b (brk k) : Nat) : Int) := wrap64 (by omega) (by omega)
    unfold meetE at h ⊢
    simp [c46, e109, e110, foldInt, m1, m2, h, ea, eb, hm, hma, hmb, hx, x3, eT]
  · unfold meetE at h ⊢
    simp [c46, e109, foldInt, m1, m2, h]

theorem L49_0 (a b' : Int) (H : Heap) (hU : constH H = true) (b g : Nat) (cap : Option Nat) (xs : List Int) (hb : H[b]? = some (.cells g (cI xs) 0)) (hl : xs.length ≤ 64) : ∀ (r pre : List Int) (x y : Nat), xs = pre ++ r →
    execS P (limS P) c49_l0 ⟨[.c (ci a), .c (ci b'), .slice b g 0 xs.length none cap, .c (ci x), .c (ci y), .c (ci pre.length)], H⟩ =
      some (.exit 0, ⟨[.c (ci (lastI a x pre.length r)), .c (ci (lastI b' y pre.length r))], H⟩) := by
  intro r
  induction r with
  | nil =>
    intro pre x y hp
    have hp : xs = pre := by simpa using hp
    subst hp
    rw [r49_l0]
    simp [c49_l0b, lastI]
  | cons s r ih =>
    intro pre x y hp
    have hpl : xs.length = pre.length + (r.length + 1) := by rw [hp]; simp
    have ih := fun x y => ih (pre ++ [s]) x y (by simp [hp])
    have hw : IntKind.i64.wrap (↑pre.length + 1) = ↑pre.length + 1 := wrap64 (by omega) (by omega)
    have hlt : (pre.length : Int) < xs.length := by omega
    have hltN : pre.length < xs.length := by omega
    have hbl : b < H.length := (List.getElem?_eq_some_iff.1 hb).1
    have hb3 := (List.getElem?_eq_some_iff.1 hb).2
    have g1 : (cI xs)[pre.length]? = some (.c (ci s)) := by rw [hp]; unfold cI; simp
    have hu : ∀ n, underB n H = true := fun n => underB_const n hU
    simp at ih
    rw [r49_l0]
    by_cases h1 : s = a
    · subst h1
      by_cases h2 : s = b'
      · subst h2
        simp [c49_l0b, hw, hlt, hltN, hb, hb3, hbl, g1, hu, lastI, ih]
      · simp [c49_l0b, hw, hlt, hltN, hb, hb3, hbl, g1, hu, h2, lastI, ih]
    · by_cases h2 : s = b'
      · subst h2
        simp [c49_l0b, hw, hlt, hltN, hb, hb3, hbl, g1, hu, h1, lastI, ih]
      · simp [c49_l0b, hw, hlt, hltN, hb, hb3, hbl, g1, hu, h1, h2, lastI, ih]

theorem L49_1 (H : Heap) (hU : ∀ n, underB n H = true) : ∀ (f x y r : Nat), x < 2 ^ f → y < 2 ^ f → f ≤ 10 → r + f ≤ 100 →
    execS P (limS P) c49_l1 ⟨[.c (ci x), .c (ci y), .c (ci r)], H⟩ = some (.exit 2, ⟨[.c (ci (r + halv f x y : Nat))], H⟩) := by
  intro f
  induction f with
  | zero =>
    intro x y r hx hy _ _
    have : x = 0 := by simpa using hx
    have : y = 0 := by simpa using hy
    subst x y
    rw [r49_l1]
    simp [c49_l1b, halv]
  | succ f ih =>
    intro x y r hx hy hf hr
    have hp : 2 ^ (f + 1) = 2 * 2 ^ f := by rw [Nat.pow_succ]; omega
    have ih := ih (x / 2) (y / 2) (r + 1) (by omega) (by omega) (by omega) (by omega)
    have h10 : 2 ^ (f + 1) ≤ 2 ^ 10 := Nat.pow_le_pow_right (by omega) hf
    have dx : (x : Int).tdiv 2 = ((x / 2 : Nat) : Int) := by rw [Int.tdiv_eq_ediv_of_nonneg (by omega)]; omega
    have dy : (y : Int).tdiv 2 = ((y / 2 : Nat) : Int) := by rw [Int.tdiv_eq_ediv_of_nonneg (by omega)]; omega
    have w1 : IntKind.i64.wrap ((x : Int) / 2) = (x : Int) / 2 := wrap64 (by omega) (by omega)
    have w2 : IntKind.i64.wrap ((y : Int) / 2) = (y : Int) / 2 := wrap64 (by omega) (by omega)
    have e1 : (r : Int) + 1 + (halv f (x / 2) (y / 2) : Nat) = r + ((halv f (x / 2) (y / 2) : Nat) + 1) := by omega
    simp [e1] at ih
    have w3 : IntKind.i64.wrap ((r : Int) + 1) = r + 1 := wrap64 (by omega) (by omega)
    rw [r49_l1]
    by_cases h : x = y
    · simp [c49_l1b, c49_n6, halv, h]
    · have h' : ¬ (x : Int) = y := by omega
      simp [c49_l1b, c49_n6, halv, h, h', dx, dy, w1, w2, w3, ih]

theorem S49 (n : Nat) (a b : Int) (hn : n ≤ 64) (ha : 1 ≤ a) (ha2 : a ≤ n) (hb : 1 ≤ b) (hb2 : b ≤ n) : fn P 49 [ci n, ci a, ci b] = some (ci (meet n a b)) := by
  obtain ⟨bb, g, cap, H, e48, hH, hU, hHl⟩ := S48 (P := P) n (by omega) hn
  obtain ⟨qa1, qa2, qa3⟩ := brk_place ha ha2 hn
  obtain ⟨qb1, qb2, qb3⟩ := brk_place hb hb2 hn
  have hl : (brk n).length ≤ 64 := by
    have := brkF_len64 (levN_le n)
    rw [brk_length']
    omega
  have hbl : bb < H.length := (List.getElem?_eq_some_iff.1 hH).1
  have hU2 : constH (H ++ List.replicate (30 - H.length) .dead) = true := by rw [constH_append, hU, constH_dead]; rfl
  have hH2 : (H ++ List.replicate (30 - H.length) LB.dead)[bb]? = some (.cells g (cI (brk n)) 0) := by rw [List.getElem?_append_left hbl]; exact hH
  have h0 := L49_0 (P := P) a b (H ++ List.replicate (30 - H.length) .dead) hU2 bb g cap (brk n) hH2 hl (brk n) [] 0 0 rfl
  have h1 := L49_1 (P := P) (H ++ List.replicate (30 - H.length) .dead) (fun n => underB_const n hU2) 7 (ix a (brk n)) (ix b (brk n)) 0 (by omega) (by omega) (by omega) (by omega)
  have hs : shiftB 0 H = H := shiftB_const 0 hU
  have hu := fun n => underB_const n hU2
  have htk : List.take (H.length + (30 - H.length)) (H ++ List.replicate (30 - H.length) LB.dead) = H ++ List.replicate (30 - H.length) .dead := List.take_of_length_le (by simp)
  simp [qa2, qb2] at h0
  simp at h1
  rw [u49]
  simp [c49, e48, LV.shift, hs, hHl, h0, h1, hu, htk, meet]
end LM.G6

namespace LM.G6
open Go LM
variable {P : Nat → Option SFunc} [Has P]

structure Rc where
  a : Str
  b : Str
  w : Int
def Rc.enc (x : Rc) : CV := .agg [.str x.a, .str x.b, ci x.w]
theorem Rc.elem (x : Rc) : Elem (some 3) x.enc := ⟨_, rfl, rfl, by simp⟩
theorem Rc.elems (l : List Rc) : ∀ x ∈ l.map Rc.enc, Elem (some 3) x := by
  intro x hx
  obtain ⟨y, _, rfl⟩ := List.mem_map.1 hx
  exact y.elem
/-- Who wins a race from the beginning. -/
def walkV (a b : Str) : Int := if a = [] ∧ b = [] then 3 else if b = [] then 1 else if a = [] then 2 else 0
def decR (a b : Str) : Rc := ⟨a, b, walkV a b⟩
def pairsL : List Str → List Rc
  | a :: b :: r => decR a b :: pairsL r
  | _ => []

@[simp] theorem S116 (a b : Str) : fn P 116 [.str a, .str b] = some (ci (walkV a b)) := by
  rw [u116]
  unfold walkV
  by_cases h1 : a = [] <;> by_cases h2 : b = [] <;> simp [c116, h1, h2]
@[simp] theorem S118 (a b : Str) : fn P 118 [.str a, .str b] = some (decR a b).enc := by
  rw [u118]
  have w1 : IntKind.i64.wrap 1 = 1 := rfl
  have w2 : IntKind.i64.wrap 2 = 2 := rfl
  have w3 : IntKind.i64.wrap 3 = 3 := rfl
  unfold decR walkV
  by_cases h1 : a = [] <;> by_cases h2 : b = [] <;> simp [c118, h1, h2, w1, w2, w3, Rc.enc]
  all_goals rfl

theorem L114 : ∀ (k : Nat) (r pre : List Str) (ys : List Rc), r.length ≤ k → ((pre ++ r).length : Int) < 1000 → ys.length ≤ 1000 - r.length →
    execS P (limS P) c114_l0 ⟨[.c (.slice ((pre ++ r).map CV.str)), .slice 1 (1 + ys.length) 0 ys.length (some 3) none, .c (ci pre.length)], [.cells 1 [] 0, .cells (1 + ys.length) (cellsOf (ys.map Rc.enc)) 0]⟩ =
      some (.exit 0, ⟨[.slice 1 (1 + (ys ++ pairsL r).length) 0 (ys ++ pairsL r).length (some 3) none], [.cells 1 [] 0, .cells (1 + (ys ++ pairsL r).length) (cellsOf ((ys ++ pairsL r).map Rc.enc)) 0]⟩) := by
  intro k
  induction k with
  | zero =>
    intro r pre ys hr h hy
    have : r = [] := by simpa using hr
    subst this
    simp at h
    have hw : IntKind.i64.wrap (↑pre.length + 1) = ↑pre.length + 1 := wrap64 (by omega) (by omega)
    have hlt : ¬ (pre.length : Int) + 1 < pre.length := by omega
    rw [r114_l0]
    simp [c114_l0b, pairsL, hw, hlt]
  | succ k ih =>
    intro r pre ys hr h hy
    simp at h
    have hw : IntKind.i64.wrap (↑pre.length + 1) = ↑pre.length + 1 := wrap64 (by omega) (by omega)
    rcases r with _ | ⟨a, _ | ⟨b, r⟩⟩
    · have hlt : ¬ (pre.length : Int) + 1 < pre.length := by omega
      rw [r114_l0]
      simp [c114_l0b, pairsL, hw, hlt]
    · rw [r114_l0]
      simp [c114_l0b, pairsL, hw]
    · simp at h hr hy
      have ih := ih r (pre ++ [a, b]) (ys ++ [decR a b]) (by omega) (by simp; omega) (by simp; omega)
      have hw2 : IntKind.i64.wrap (↑pre.length + 2) = ↑pre.length + 2 := wrap64 (by omega) (by omega)
      have hlt : (pre.length : Int) + 1 < pre.length + (r.length + 1 + 1) := by omega
      have hlt2 : (pre.length : Int) < pre.length + (r.length + 1 + 1) := by omega
      have ha := fun q => append_ownP (some q) (b := 1) (g := 1 + ys.length) (bytes := 40) (e := some 3) (ys := ys.map Rc.enc) (xs := [(decR a b).enc]) (h := [.cells 1 [] 0, .cells (1 + ys.length) (cellsOf (ys.map Rc.enc)) 0, .dead, .dead]) (len := ys.length) (fz := 0) rfl (Rc.elems _) (by simpa using (decR a b).elem) (by simp) (Nat.zero_le _) (by simp) (by simp; omega) (by simp; omega)
      have e1 : 1 + (ys.length + 1) = 1 + ys.length + 1 := by omega
      have hu : ∀ n ys, underL n (cellsOf ys) = true := fun n ys => underL_cellsOf n ys
      have tn : ((pre.length : Int) + 1).toNat = pre.length + 1 := by omega
      have n0 : 0 ≤ (pre.length : Int) + 1 := by omega
      simp [Rc.enc] at ih ha
      rw [e1] at ih
      rw [r114_l0]
      simp [c114_l0b, pairsL, hw, hw2, hlt, hlt2, tn, n0, ha, hu, Rc.enc, ih]
theorem L115 : ∀ (k : Nat) (r pre : List Str) (ys : List Rc), r.length ≤ k → ((pre ++ r).length : Int) < 1000 → ys.length ≤ 1000 - r.length →
    execS P (limS P) c115_l0 ⟨[.c (.slice ((pre ++ r).map CV.str)), .slice 1 (1 + ys.length) 0 ys.length (some 3) none, .c (ci pre.length)], [.cells 1 [] 0, .cells (1 + ys.length) (cellsOf (ys.map Rc.enc)) 0]⟩ =
      some (.exit 0, ⟨[.slice 1 (1 + (ys ++ pairsL r).length) 0 (ys ++ pairsL r).length (some 3) none], [.cells 1 [] 0, .cells (1 + (ys ++ pairsL r).length) (cellsOf ((ys ++ pairsL r).map Rc.enc)) 0]⟩) := by
  intro k
  induction k with
  | zero =>
    intro r pre ys hr h hy
    have : r = [] := by simpa using hr
    subst this
    simp at h
    have hw : IntKind.i64.wrap (↑pre.length + 1) = ↑pre.length + 1 := wrap64 (by omega) (by omega)
    have hlt : ¬ (pre.length : Int) + 1 < pre.length := by omega
    rw [r115_l0]
    simp [c115_l0b, pairsL, hw, hlt]
  | succ k ih =>
    intro r pre ys hr h hy
    simp at h
    have hw : IntKind.i64.wrap (↑pre.length + 1) = ↑pre.length + 1 := wrap64 (by omega) (by omega)
    rcases r with _ | ⟨a, _ | ⟨b, r⟩⟩
    · have hlt : ¬ (pre.length : Int) + 1 < pre.length := by omega
      rw [r115_l0]
      simp [c115_l0b, pairsL, hw, hlt]
    · rw [r115_l0]
      simp [c115_l0b, pairsL, hw]
    · simp at h hr hy
      have ih := ih r (pre ++ [a, b]) (ys ++ [decR a b]) (by omega) (by simp; omega) (by simp; omega)
      have hw2 : IntKind.i64.wrap (↑pre.length + 2) = ↑pre.length + 2 := wrap64 (by omega) (by omega)
      have hlt : (pre.length : Int) + 1 < pre.length + (r.length + 1 + 1) := by omega
      have hlt2 : (pre.length : Int) < pre.length + (r.length + 1 + 1) := by omega
      have ha := fun q => append_ownP (some q) (b := 1) (g := 1 + ys.length) (bytes := 40) (e := some 3) (ys := ys.map Rc.enc) (xs := [(decR a b).enc]) (h := [.cells 1 [] 0, .cells (1 + ys.length) (cellsOf (ys.map Rc.enc)) 0, .dead, .dead]) (len := ys.length) (fz := 0) rfl (Rc.elems _) (by simpa using (decR a b).elem) (by simp) (Nat.zero_le _) (by simp) (by simp; omega) (by simp; omega)
      have e1 : 1 + (ys.length + 1) = 1 + ys.length + 1 := by omega
      have hu : ∀ n ys, underL n (cellsOf ys) = true := fun n ys => underL_cellsOf n ys
      have tn : ((pre.length : Int) + 1).toNat = pre.length + 1 := by omega
      have n0 : 0 ≤ (pre.length : Int) + 1 := by omega
      simp [decR, Rc.enc] at ih ha
      rw [e1] at ih
      rw [r115_l0]
      simp [c115_l0b, pairsL, hw, hw2, hlt, hlt2, tn, n0, ha, hu, decR, Rc.enc, ih]

theorem S114 (l : List Str) (h : l.length < 500) : fn P 114 [.slice (l.map CV.str)] = some (.slice ((pairsL l).map Rc.enc)) := by
  have hL := L114 (P := P) l.length l [] [] (Nat.le_refl _) (by simp; omega) (by simp)
  have hr := resV_own1 (b := 1) (g := 1 + (pairsL l).length) (fz := 0) (e := some 3) (ys := (pairsL l).map Rc.enc) (h := [.cells 1 [] 0, .cells (1 + (pairsL l).length) (cellsOf ((pairsL l).map Rc.enc)) 0]) (len := (pairsL l).length) rfl (Rc.elems _) (by simp) none
  have c0 : cellsOf [] = [] := rfl
  simp [c0] at hL
  rw [u114]
  simp [c114, hL, hr]
theorem S115 (l : List Str) (h : l.length < 500) : fn P 115 [.slice (l.map CV.str)] = some (.slice ((pairsL l).map Rc.enc)) := by
  have hL := L115 (P := P) l.length l [] [] (Nat.le_refl _) (by simp; omega) (by simp)
  have hr := resV_own1 (b := 1) (g := 1 + (pairsL l).length) (fz := 0) (e := some 3) (ys := (pairsL l).map Rc.enc) (h := [.cells 1 [] 0, .cells (1 + (pairsL l).length) (cellsOf ((pairsL l).map Rc.enc)) 0]) (len := (pairsL l).length) rfl (Rc.elems _) (by simp) none
  have c0 : cellsOf [] = [] := rfl
  simp [c0] at hL
  rw [u115]
  simp [c115, hL, hr]

/-- The error of a bracket's names. -/
def namesE (l : List Str) : Int := if l.length = 0 then 12 else if l.length > 64 then 5 else eachE once [] l

theorem L51_0 (x : Str) (q : List Str) : ∀ (r pre : List Str), ((pre ++ r ++ x :: q).length : Int) < 9223372036854775807 →
    execS P (limS P) c51_l0 ⟨[.c (.slice ((pre ++ r ++ x :: q).map CV.str)), .c (ci (pre ++ r).length), .c (ci pre.length)], []⟩ =
      if r.any (Str.is x) then some (.ret, ⟨[.c (ci 9)], []⟩) else some (.exit 2, ⟨[.c (.slice ((pre ++ r ++ x :: q).map CV.str)), .c (ci (pre ++ r).length)], []⟩) := by
  intro r
  induction r with
  | nil =>
    intro pre h
    rw [r51_l0]
    simp [c51_l0b]
  | cons y r ih =>
    intro pre h
    have ih := ih (pre ++ [y]) (by simpa using h)
    simp [-List.any_eq_true] at ih h
    have hw : IntKind.i64.wrap (↑pre.length + 1) = ↑pre.length + 1 := wrap64 (by omega) (by omega)
    have hlt : (pre.length : Int) < pre.length + (r.length + 1) := by omega
    have b1 : (pre.length : Int) < pre.length + (r.length + (q.length + 1) + 1) := by omega
    have b2 : (pre.length : Int) + (r.length + 1) < pre.length + (r.length + (q.length + 1) + 1) := by omega
    have n0 : 0 ≤ (pre.length : Int) + (r.length + 1) := by omega
    have tn : ((pre.length : Int) + (r.length + 1)).toNat = pre.length + (r.length + 1) := by omega
    have g1 : (pre ++ y :: (r ++ x :: q))[pre.length + (r.length + 1)]? = some x := by
      rw [List.getElem?_append_right (by omega), show pre.length + (r.length + 1) - pre.length = r.length + 1 from by omega]
      simp
    have g2 := (List.getElem?_eq_some_iff.1 g1)
    have e := Str.is_eq x y
    rw [r51_l0]
    by_cases h0 : y = x
    · simp only [h0, decide_true] at e
      simp [c51_l0b, hw, hlt, b1, b2, n0, tn, h0, e, -List.any_eq_true]
    · simp only [h0, decide_false] at e
      simp [c51_l0b, hw, hlt, b1, b2, n0, tn, h0, e, ih, -List.any_eq_true]

theorem L51_1 : ∀ (r pre : List Str), ((pre ++ r).length : Int) < 9223372036854775807 →
    execS P (limS P) c51_l1 ⟨[.c (.slice ((pre ++ r).map CV.str)), .c (ci pre.length)], []⟩ = if eachE once pre r = 0 then some (.exit 0, ⟨[], []⟩) else some (.ret, ⟨[.c (ci (eachE once pre r))], []⟩) := by
  intro r
  induction r with
  | nil =>
    intro pre h
    rw [r51_l1]
    simp [c51_l1b, eachE]
  | cons x r ih =>
    intro pre h
    have ih := ih (pre ++ [x]) (by simpa using h)
    have h0 := L51_0 (P := P) x r pre [] (by simpa using h)
    have ho := once_eq pre x
    simp [-List.any_eq_true] at ih h h0
    have hw : IntKind.i64.wrap (↑pre.length + 1) = ↑pre.length + 1 := wrap64 (by omega) (by omega)
    have hlt : (pre.length : Int) < pre.length + (r.length + 1) := by omega
    rw [r51_l1]
    cases h1 : isName x
    · rw [h1] at ho
      simp at ho
      simp [c51_l1b, hw, hlt, h1, eachE, ho]
    · rw [h1] at ho
      simp [-List.any_eq_true] at ho
      cases h2 : pre.any (Str.is x)
      · rw [h2] at ho h0
        simp at ho h0
        simp [c51_l1b, hw, hlt, h1, eachE, ho, h0, ih]
      · rw [h2] at ho h0
        simp at ho h0
        simp [c51_l1b, hw, hlt, h1, eachE, ho, h0]
theorem S51 (l : List Str) (h : (l.length : Int) < 9223372036854775807) : fn P 51 [.slice (l.map CV.str)] = some (ci (namesE l)) := by
  have hL := L51_1 (P := P) l [] (by simpa using h)
  simp at hL
  rw [u51]
  unfold namesE
  by_cases h1 : l.length = 0
  · simp [c51, h1]
  · by_cases h2 : 64 < l.length
    · have h2' : (64 : Int) < l.length := by omega
      have h1' : ¬ (l.length : Int) = 0 := by omega
      simp [c51, h1, h1', h2, h2']
    · have h2' : ¬ (64 : Int) < l.length := by omega
      have h1' : ¬ (l.length : Int) = 0 := by omega
      simp [c51, h1, h1', h2, h2', hL]
      intro h; exact h.symm

theorem L52 : ∀ (r pre : List Rc), ((pre ++ r).length : Int) < 9223372036854775807 →
    execS P (limS P) c52_l0 ⟨[.c (.slice ((pre ++ r).map Rc.enc)), .c (.slice ((pre ++ r).map Rc.enc)), .c (ci pre.length)], []⟩ = some (.exit 0, ⟨[], []⟩) := by
  intro r
  induction r with
  | nil =>
    intro pre h
    rw [r52_l0]
    simp [c52_l0b]
  | cons x r ih =>
    intro pre h
    have ih := ih (pre ++ [x]) (by simpa using h)
    simp [Rc.enc] at ih h
    have hw : IntKind.i64.wrap (↑pre.length + 1) = ↑pre.length + 1 := wrap64 (by omega) (by omega)
    have hlt : (pre.length : Int) < pre.length + (r.length + 1) := by omega
    have hk : eqK (.many [1, 1, 0]) (CV.agg [.str x.a, .str x.b, ci x.w]) (CV.agg [.str x.a, .str x.b, ci x.w]) = some true := by simp [eqK, keyOk, kindsOk, kindOf, eqCells, eqS]
    rw [r52_l0]
    simp [c52_l0b, hw, hlt, Rc.enc, hk, ih]
theorem S52_ok (l : List Rc) (h : (l.length : Int) < 9223372036854775807) : fn P 52 [.slice (l.map Rc.enc), ci 0, ci 0, .slice (l.map Rc.enc)] = some (.bool true) := by
  have hL := L52 (P := P) l [] (by simpa using h)
  simp at hL
  rw [u52]
  simp [c52, hL]
theorem S52_bad (e : Int) (w : List CV) (h : e ≠ 0) : fn P 52 [.slice [], ci e, ci e, .slice w] = some (.bool true) := by
  rw [u52]
  simp [c52, h]
end LM.G6

namespace LM.G6
open Go LM
variable {P : Nat → Option SFunc} [Has P]

/-- The name of a slot. -/
def slotF (l : List Str) (s : Int) : Str := if s = 0 then [] else l.getD (s.toNat - 1) []
def slotsL (l : List Str) : List Str := (brk l.length).map (slotF l) ++ if l.length = 1 then [[]] else []
def racesL (l : List Str) : List Rc := pairsL (slotsL l)
theorem brk_bound {n : Nat} (h1 : 1 ≤ n) (hn : n ≤ 64) : ∀ s ∈ brk n, s = 0 ∨ (1 ≤ s ∧ s ≤ n) := by
  intro s hs
  rw [brk_eq, List.mem_map] at hs
  obtain ⟨t, ht, rfl⟩ := hs
  have := brkF_bound _ t ht
  unfold cut
  split <;> omega
theorem brk_len64 (n : Nat) : (brk n).length ≤ 64 := by
  have := brkF_len64 (levN_le n)
  rw [brk_length']
  omega
theorem brk_len1 {n : Nat} (h1 : 1 ≤ n) (hn : n ≤ 64) : (brk n).length = 1 ↔ n = 1 := by
  rw [brk_length', brkF_length]
  have h := levN_lt (k := 0) hn h1 (by omega)
  constructor
  · intro e
    rcases Nat.eq_or_lt_of_le h1 with q | q
    · exact q.symm
    · have := h.1 q
      have : 2 ^ 1 ≤ 2 ^ levN n := Nat.pow_le_pow_right (by omega) this
      omega
  · rintro rfl; rfl

theorem L50_0 : ∀ (r pre : List Str), ((pre ++ r).length : Int) < 9223372036854775807 → (∀ x ∈ r, x.length < 9223372036854775807) →
    execS P (limS P) c50_l0 ⟨[.c (.slice ((pre ++ r).map CV.str)), .c (.slice ((pre ++ r).map CV.str)), .c (ci (pre ++ r).length), .c (ci pre.length)], [.cells 1 [] 0]⟩ =
      if eachE once pre r = 0 then some (.exit 0, ⟨[.c (.slice ((pre ++ r).map CV.str))], [.cells 1 [] 0]⟩) else some (.ret, ⟨[.slice 2 1 0 0 (some 3) none, .c (ci (eachE once pre r))], [.cells 1 [] 0, .dead, .cells 1 [] 0]⟩) := by
  intro r
  induction r with
  | nil =>
    intro pre h _
    rw [r50_l0]
    simp [c50_l0b, eachE]
  | cons x r ih =>
    intro pre h hx
    have ih := ih (pre ++ [x]) (by simpa using h) (fun y hy => hx y (by simp [hy]))
    have ho := once_eq pre x
    simp [-List.any_eq_true] at ih h
    have e113 := S113 (P := P) x pre (by omega)
    have e90 := S90 (P := P) x (hx x (by simp))
    have hw : IntKind.i64.wrap (↑pre.length + 1) = ↑pre.length + 1 := wrap64 (by omega) (by omega)
    have hlt : (pre.length : Int) < pre.length + (r.length + 1) := by omega
    have hle : (pre.length : Int) ≤ pre.length + (r.length + 1) := by omega
    have hz : szFits 1 (List.map CV.str pre ++ CV.str x :: List.map CV.str r) = true := by cases pre <;> rfl
    rw [r50_l0]
    cases h1 : isName x
    · rw [h1] at ho e90
      simp at ho
      cases h2 : pre.any (Str.is x) <;> rw [h2] at e113 <;> simp [c50_l0b, hw, hlt, hle, hz, e90, e113, eachE, ho, firstE, whenE]
    · rw [h1] at ho e90
      simp [-List.any_eq_true] at ho
      cases h2 : pre.any (Str.is x)
      · rw [h2] at ho e113
        simp at ho
        simp [c50_l0b, hw, hlt, hle, hz, e90, e113, eachE, ho, firstE, whenE, ih]
      · rw [h2] at ho e113
        simp at ho
        simp [c50_l0b, hw, hlt, hle, hz, e90, e113, eachE, ho, firstE, whenE]

theorem L50_1 (l : List Str) (hl : l.length ≤ 64) : ∀ (r pre : List Int) (ys : List Str), (∀ s ∈ r, s = 0 ∨ (1 ≤ s ∧ s ≤ l.length)) → ys.length = pre.length → (pre ++ r).length ≤ 64 →
    execS P (limS P) c50_l1 ⟨[.c (.slice (l.map CV.str)), .slice 1 (1 + ys.length) 0 ys.length none none, .c (.slice ((pre ++ r).map ci)), .c (ci (pre ++ r).length), .c (ci pre.length)], [.cells 1 [] 0, .cells (1 + ys.length) (cellsOf (ys.map CV.str)) 0]⟩ =
      some (.exit 2, ⟨[.slice 1 (1 + (ys ++ r.map (slotF l)).length) 0 (ys ++ r.map (slotF l)).length none none], [.cells 1 [] 0, .cells (1 + (ys ++ r.map (slotF l)).length) (cellsOf ((ys ++ r.map (slotF l)).map CV.str)) 0]⟩) := by
  intro r
  induction r with
  | nil =>
    intro pre ys _ hy h
    rw [r50_l1]
    simp [c50_l1b]
  | cons s r ih =>
    intro pre ys hs hy h
    have ih := ih (pre ++ [s]) (ys ++ [slotF l s]) (fun t ht => hs t (by simp [ht])) (by simp [hy]) (by simpa using h)
    have hs0 := hs s (by simp)
    simp at ih h
    have hw : IntKind.i64.wrap (↑pre.length + 1) = ↑pre.length + 1 := wrap64 (by omega) (by omega)
    have hlt : (pre.length : Int) < pre.length + (r.length + 1) := by omega
    have ha := append_own (b := 1) (g := 1 + ys.length) (bytes := 16) (e := none) (ys := ys.map CV.str) (xs := [.str (slotF l s)]) (h := [.cells 1 [] 0, .cells (1 + ys.length) (cellsOf (ys.map CV.str)) 0]) (len := ys.length) (fz := 0) rfl (strElems _) (by simpa using strElem (slotF l s)) (by simp) (Nat.zero_le _) (by simp) (by simp; omega) (by simp; omega)
    have e1 : 1 + (ys.length + 1) = 1 + ys.length + 1 := by omega
    have hu : ∀ n ys, underL n (cellsOf ys) = true := fun n ys => underL_cellsOf n ys
    simp at ha
    rw [e1] at ih
    rw [r50_l1]
    by_cases q : s = 0
    · subst q
      have eF : slotF l 0 = [] := rfl
      rw [eF] at ih ha
      simp [c50_l1b, hw, hlt, ha, hu, eF, ih]
    · have hs1 : 1 ≤ s ∧ s ≤ l.length := by omega
      have w2 : IntKind.i64.wrap (s - 1) = s - 1 := wrap64 (by omega) (by omega)
      have hn : s.toNat - 1 < l.length := by omega
      have n1 : s - 1 < l.length := by omega
      have g1 : l[s.toNat - 1]? = some (slotF l s) := by unfold slotF; rw [if_neg q]; simp [List.getD_eq_getElem?_getD, hn]
      have g2 := (List.getElem?_eq_some_iff.1 g1).2
      simp [c50_l1b, hw, hlt, q, w2, hs1.1, hn, n1, g1, g2, ha, hu, ih]

theorem L53_0 (l : List Str) (hl : l.length ≤ 64) (H : Heap) (hU : constH H = true) (b g : Nat) (cap : Option Nat) (xs : List Int) (hb : H[b]? = some (.cells g (cI xs) 0)) (hxl : xs.length ≤ 64) : ∀ (r pre : List Int) (ys : List Str), xs = pre ++ r → (∀ s ∈ r, s = 0 ∨ (1 ≤ s ∧ s ≤ l.length)) → ys.length = pre.length →
    execS P (limS P) c53_l0 ⟨[.c (.slice (l.map CV.str)), .slice b g 0 xs.length none cap, .slice H.length (1 + ys.length) 0 ys.length none none, .c (ci pre.length)], H ++ [.cells (1 + ys.length) (cellsOf (ys.map CV.str)) 0]⟩ =
      some (.exit 0, ⟨[.slice H.length (1 + (ys ++ r.map (slotF l)).length) 0 (ys ++ r.map (slotF l)).length none none], H ++ [.cells (1 + (ys ++ r.map (slotF l)).length) (cellsOf ((ys ++ r.map (slotF l)).map CV.str)) 0]⟩) := by
  intro r
  induction r with
  | nil =>
    intro pre ys hp _ hy
    have hp : xs = pre := by simpa using hp
    subst hp
    rw [r53_l0]
    simp [c53_l0b]
  | cons s r ih =>
    intro pre ys hp hs hy
    have hpl : xs.length = pre.length + (r.length + 1) := by rw [hp]; simp
    have ih := ih (pre ++ [s]) (ys ++ [slotF l s]) (by simp [hp]) (fun t ht => hs t (by simp [ht])) (by simp [hy])
    have hs0 := hs s (by simp)
    simp at ih
    have hw : IntKind.i64.wrap (↑pre.length + 1) = ↑pre.length + 1 := wrap64 (by omega) (by omega)
    have hlt : (pre.length : Int) < xs.length := by omega
    have hltN : pre.length < xs.length := by omega
    have hbl : b < H.length := (List.getElem?_eq_some_iff.1 hb).1
    have hbl1 : b < H.length + 1 := by omega
    have hb2 : (H ++ [LB.cells (1 + ys.length) (cellsOf (ys.map CV.str)) 0])[b]? = some (.cells g (cI xs) 0) := by rw [List.getElem?_append_left hbl]; exact hb
    have hb3 := (List.getElem?_eq_some_iff.1 hb2).2
    have g0 : (cI xs)[pre.length]? = some (.c (ci s)) := by rw [hp]; unfold cI; simp
    have ha := append_own (b := H.length) (g := 1 + ys.length) (bytes := 16) (e := none) (ys := ys.map CV.str) (xs := [.str (slotF l s)]) (h := H ++ [.cells (1 + ys.length) (cellsOf (ys.map CV.str)) 0]) (len := ys.length) (fz := 0) (by simp) (strElems _) (by simpa using strElem (slotF l s)) (by simp) (Nat.zero_le _) (by simp) (by simp; omega) (by simp; omega)
    have e1 : 1 + (ys.length + 1) = 1 + ys.length + 1 := by omega
    have hu : ∀ n g zs, underB n (H ++ [LB.cells g (cellsOf zs) 0]) = true := by
      intro n g zs
      have : ∀ K : Heap, underB n (K ++ [LB.cells g (cellsOf zs) 0]) = (underB n K && underB n [LB.cells g (cellsOf zs) 0]) := by
        intro K
        induction K with
        | nil => simp [underB]
        | cons a r ih => simp only [List.cons_append, underB, ih, Bool.and_assoc]
      rw [this, underB_const n hU]
      simp [underB, LB.under, underL_cellsOf]
    have htk : ∀ X : LB, List.take (H.length + 1) (H ++ [X]) = H ++ [X] := fun X => List.take_of_length_le (by simp)
    simp at ha hu
    rw [e1] at ih
    rw [r53_l0]
    by_cases q : s = 0
    · subst q
      have eF : slotF l 0 = [] := rfl
      rw [eF] at ih ha
      simp [c53_l0b, hw, hlt, hltN, hb2, hb3, hbl1, g0, ha, hu, htk, eF, ih]
    · have hs1 : 1 ≤ s ∧ s ≤ l.length := by omega
      have w2 : IntKind.i64.wrap (s - 1) = s - 1 := wrap64 (by omega) (by omega)
      have hn : s.toNat - 1 < l.length := by omega
      have n1 : s - 1 < l.length := by omega
      have g1 : l[s.toNat - 1]? = some (slotF l s) := by unfold slotF; rw [if_neg q]; simp [List.getD_eq_getElem?_getD, hn]
      have g2 := (List.getElem?_eq_some_iff.1 g1).2
      simp [c53_l0b, hw, hlt, hltN, hb2, hb3, hbl1, g0, q, w2, hs1.1, hn, n1, g1, g2, ha, hu, htk, ih]

theorem S48_1 : ffn P 48 [ci 1] = some (.slice 1 1 0 1 none (some 1), [.cells 1 [] 0, .cells 1 [.c (ci 1)] 0]) := by
  have l1 : execS P (limS P) c48_l1 ⟨[.c (ci 1), .slice 1 1 0 1 none (some 1)], [.cells 1 [] 0, .cells 1 [.c (ci 1)] 0]⟩ = some (.exit 0, ⟨[.c (ci 1), .slice 1 1 0 1 none (some 1)], [.cells 1 [] 0, .cells 1 [.c (ci 1)] 0]⟩) := by
    rw [r48_l1]; simp [c48_l1b]
  have w : IntKind.i64.wrap 1 = 1 := rfl
  have l2 : execS P (limS P) c48_l2 ⟨[.c (ci 1), .slice 1 1 0 1 none (some 1), .c (ci 1)], [.cells 1 [] 0, .cells 1 [.c (ci 1)] 0]⟩ = some (.exit 4, ⟨[.slice 1 1 0 1 none (some 1)], [.cells 1 [] 0, .cells 1 [.c (ci 1)] 0]⟩) := by
    rw [r48_l2]; simp [c48_l2b]
  have l3 : execS P (limS P) c48_l2 ⟨[.c (ci 1), .slice 1 1 0 1 none (some 1), .c (ci 0)], [.cells 1 [] 0, .cells 1 [.c (ci 1)] 0]⟩ = some (.exit 4, ⟨[.slice 1 1 0 1 none (some 1)], [.cells 1 [] 0, .cells 1 [.c (ci 1)] 0]⟩) := by
    rw [r48_l2]; simp [c48_l2b, l2, w, underL, LV.under]
  rw [u48]
  simp [c48, l1, l3]

theorem S53 (l : List Str) (hl : l.length ≤ 64) (h0 : ¬ l.length = 0) : fn P 53 [.slice (l.map CV.str)] = some (.slice ((racesL l).map Rc.enc)) := by
  by_cases h1 : l.length = 1
  · obtain ⟨s, rfl⟩ : ∃ s, l = [s] := by
      match l, h1 with
      | [s], _ => exact ⟨s, rfl⟩
    have e48 := S48_1 (P := P)
    have happ : appendOp none none 8 (.slice 2 1 0 1 none (some 1)) (.c (.slice [.int .i64 0])) (.cells 1 [] 0 :: .cells 1 [] 0 :: .cells 1 [.c (ci 1)] 0 :: List.replicate 28 .dead) = some (.slice 31 1 0 2 none none, .cells 1 [] 0 :: .cells 1 [] 0 :: .cells 1 [.c (ci 1)] 0 :: (List.replicate 28 .dead ++ [.cells 1 [.c (ci 1), .c (ci 0)] 0])) := by rfl
    have hL := L53_0 (P := P) [s] (by simp) (.cells 1 [] 0 :: .cells 1 [] 0 :: .cells 1 [.c (ci 1)] 0 :: (List.replicate 28 .dead ++ [.cells 1 [.c (ci 1), .c (ci 0)] 0])) rfl 31 1 none [1, 0] rfl (by simp) [1, 0] [] [] rfl (by simp) rfl
    have e115 := S115 (P := P) [s, []] (by simp)
    have eR : racesL [s] = pairsL [s, []] := rfl
    have eS : slotF [s] 1 = s := rfl
    have eS0 : slotF [s] 0 = [] := rfl
    have c0 : cellsOf [] = [] := rfl
    have hf := frz_own (b := 32) (g := 3) (fz := 0) (e := none) (ys := [CV.str s, CV.str []]) (h := .cells 1 [] 0 :: .cells 1 [] 0 :: .cells 1 [.c (ci 1)] 0 :: (List.replicate 28 .dead ++ [.cells 1 [.c (ci 1), .c (ci 0)] 0, .cells 3 (cellsOf [CV.str s, CV.str []]) 0])) (len := 2) rfl (strElems [s, []]) rfl none
    simp [c0, eS, eS0, List.replicate_succ] at hL happ
    simp [List.replicate_succ, -frz_slice] at hf
    simp at e115
    rw [u53]
    simp [c53, e48, LV.shift, shiftL, shiftB, LB.shift, happ, hL, hf, e115, eR, -frz_slice]
  · obtain ⟨b, g, cap, H, e48, hH, hU, hHl⟩ := S48 (P := P) l.length (by omega) hl
    have hne : ¬ (brk l.length).length = 1 := fun e => h1 ((brk_len1 (by omega) hl).1 e)
    have hne' : ¬ ((brk l.length).length : Int) = 1 := by omega
    have hbl : b < H.length := (List.getElem?_eq_some_iff.1 hH).1
    have hU2 : constH (.cells 1 [] 0 :: (H ++ List.replicate (30 - H.length) .dead)) = true := by simp [constH, constL, constH_append, hU, constH_dead]
    have hH2 : (LB.cells 1 [] 0 :: (H ++ List.replicate (30 - H.length) LB.dead))[b + 1]? = some (.cells g (cI (brk l.length)) 0) := by simp [List.getElem?_append_left hbl]; exact hH
    have hL := L53_0 (P := P) l hl _ hU2 (b + 1) g cap (brk l.length) hH2 (brk_len64 _) (brk l.length) [] [] rfl (brk_bound (by omega) hl) rfl
    have hs : shiftB 1 H = H := shiftB_const 1 hU
    have e30 : H.length + (30 - H.length) = 30 := by omega
    have hsl : (brk l.length).map (slotF l) = slotsL l := by unfold slotsL; rw [if_neg h1]; simp
    have e115 := S115 (P := P) (slotsL l) (by rw [← hsl]; have := brk_len64 l.length; simp; omega)
    have c0 : cellsOf [] = [] := rfl
    have hg : (LB.cells 1 [] 0 :: (H ++ (List.replicate (30 - H.length) LB.dead ++ [LB.cells (1 + (slotsL l).length) (cellsOf ((slotsL l).map CV.str)) 0])))[31]? = some (.cells (1 + (slotsL l).length) (cellsOf ((slotsL l).map CV.str)) 0) := by
      rw [← List.append_assoc, ← List.cons_append, List.getElem?_append_right (by simp; omega)]
      simp [e30]
    have hf := frz_own (b := 31) (g := 1 + (slotsL l).length) (fz := 0) (e := none) (ys := (slotsL l).map CV.str) (h := .cells 1 [] 0 :: (H ++ (List.replicate (30 - H.length) .dead ++ [.cells (1 + (slotsL l).length) (cellsOf ((slotsL l).map CV.str)) 0]))) (len := (slotsL l).length) hg (strElems _) (by simp) none
    simp only [hsl, List.nil_append] at hL
    simp [c0, e30] at hL
    simp [-frz_slice] at hf
    rw [u53]
    simp [c53, e48, LV.shift, hs, hHl, hne', hL, hf, e115, racesL, -frz_slice]

theorem S50_one (s : Str) (hs : s.length < 9223372036854775807) (h2 : namesE [s] = 0) : fn P 50 [.slice [.str s]] = some (.tuple [.slice ((racesL [s]).map Rc.enc), ci 0]) := by
  have hL := L50_0 (P := P) [s] [] (by simp) (by simpa using hs)
  have hn : namesE [s] = eachE once [] [s] := rfl
  rw [← hn, if_pos h2] at hL
  have e110 := S110 (P := P) 1 (by omega) (by omega)
  have eb : brk 1 = [1] := rfl
  have hK := L50_1 (P := P) [s] (by simp) [1] [] [] (by simp) rfl (by simp)
  have c0 : cellsOf [] = [] := rfl
  have eS : slotF [s] 1 = s := rfl
  have eR : racesL [s] = pairsL [s, []] := rfl
  have e114 := S114 (P := P) [s, []] (by simp)
  have ha := append_own (b := 1) (g := 2) (bytes := 16) (e := none) (ys := [CV.str s]) (xs := [.str []]) (h := [.cells 1 [] 0, .cells 2 (cellsOf [CV.str s]) 0]) (len := 1) (fz := 0) rfl (strElems [s]) (strElems [[]]) rfl (Nat.zero_le _) (by simp) (by simp) (by simp)
  have hf := frz_own (b := 1) (g := 3) (fz := 0) (e := none) (ys := [CV.str s, CV.str []]) (h := [.cells 1 [] 0, .cells 3 (cellsOf [CV.str s, CV.str []]) 0]) (len := 2) rfl (strElems [s, []]) rfl none
  rw [eb] at e110
  simp [eS, c0] at hK hL ha
  simp at e110
  simp [-frz_slice] at hf
  simp at e114
  rw [u50]
  simp [c50, firstE, whenE, hL, e110, hK, ha, hf, e114, eR, -frz_slice]

theorem S50' (l : List Str) (hne1 : ¬ l.length = 1) (hl : (l.length : Int) < 9223372036854775807) (hx : ∀ x ∈ l, x.length < 9223372036854775807) : fn P 50 [.slice (l.map CV.str)] = some (.tuple (if namesE l = 0 then [.slice ((racesL l).map Rc.enc), ci 0] else [.slice [], ci (namesE l)])) := by
  have hn : namesE l = if l.length = 0 then 12 else if l.length > 64 then 5 else eachE once [] l := rfl
  rw [u50]
  by_cases h0 : l.length = 0
  · have h0' : l = [] := List.eq_nil_of_length_eq_zero h0
    subst h0'
    simp [c50, firstE, whenE, hn]
  · have h0' : ¬ (l.length : Int) = 0 := by omega
    rw [if_neg h0] at hn
    by_cases h1 : l.length > 64
    · have h1' : (64 : Int) < l.length := by omega
      rw [if_pos h1] at hn
      simp [c50, firstE, whenE, hn, h0, h0', h1']
    · have h1' : ¬ (64 : Int) < l.length := by omega
      rw [if_neg h1] at hn
      have hL := L50_0 (P := P) l [] (by simpa using hl) hx
      rw [← hn] at hL
      by_cases h2 : namesE l = 0
      · rw [if_pos h2] at hL ⊢
        have e110 := S110 (P := P) l.length (by omega) (by omega)
        have hK := L50_1 (P := P) l (by omega) (brk l.length) [] [] (brk_bound (by omega) (by omega)) rfl (brk_len64 _)
        have c0 : cellsOf [] = [] := rfl
        by_cases h3 : l.length = 1
        · exact absurd h3 hne1
        · have hne : ¬ (brk l.length).length = 1 := fun e => h3 ((brk_len1 (by omega) (by omega)).1 e)
          have hsl : (brk l.length).map (slotF l) = slotsL l := by unfold slotsL; rw [if_neg h3]; simp
          have hsn : ¬ (slotsL l).length = 1 := by rw [← hsl]; simpa using hne
          have hsn' : ¬ ((slotsL l).length : Int) = 1 := by omega
          have e114 := S114 (P := P) (slotsL l) (by rw [← hsl]; have := brk_len64 l.length; simp; omega)
          have hf := frz_own (b := 1) (g := 1 + (slotsL l).length) (fz := 0) (e := none) (ys := (slotsL l).map CV.str) (h := [.cells 1 [] 0, .cells (1 + (slotsL l).length) (cellsOf ((slotsL l).map CV.str)) 0]) (len := (slotsL l).length) rfl (strElems _) (by simp) none
          simp only [hsl, List.nil_append] at hK
          simp [c0] at hK
          simp at hL
          simp [-frz_slice] at hf
          simp [c50, firstE, whenE, h0, h0', h1', hL, e110, hK, hf, hsn', e114, racesL, -frz_slice]
      · rw [if_neg h2] at hL ⊢
        simp at hL
        simp [c50, firstE, whenE, h0, h0', h1', hL]

theorem S50 (l : List Str) (hl : (l.length : Int) < 9223372036854775807) (hx : ∀ x ∈ l, x.length < 9223372036854775807) : fn P 50 [.slice (l.map CV.str)] = some (.tuple (if namesE l = 0 then [.slice ((racesL l).map Rc.enc), ci 0] else [.slice [], ci (namesE l)])) := by
  by_cases h : l.length = 1
  · by_cases h2 : namesE l = 0
    · obtain ⟨s, rfl⟩ := List.length_eq_one_iff.1 h
      rw [if_pos h2]
      exact S50_one s (hx s (by simp)) h2
    · have hn : namesE l = eachE once [] l := by unfold namesE; rw [if_neg (by omega), if_neg (by omega)]
      have hL := L50_0 (P := P) l [] (by simpa using hl) hx
      rw [← hn, if_neg h2] at hL
      have h0' : ¬ (l.length : Int) = 0 := by omega
      have h1' : ¬ (64 : Int) < l.length := by omega
      rw [if_neg h2]
      simp at hL
      rw [u50]
      have h0 : ¬ l = [] := fun e => by subst e; simp at h
      simp [c50, firstE, whenE, h0, h0', h1', hL]
  · exact S50' l h hl hx
end LM.G6

namespace LM.G6
open Go LM
variable {P : Nat → Option SFunc} [Has P]

/-- A map from texts to truth values. -/
abbrev Mb := List (Str × Bool)
def bKs (M : Mb) : List CV := M.map fun p => CV.str p.1
def bVs (M : Mb) : List LV := M.map fun p => .c (.bool p.2)
def bIdx (k : Str) : Mb → Option Nat
  | [] => none
  | p :: r => if k = p.1 then some 0 else (bIdx k r).map (· + 1)
def bGet (k : Str) : Mb → Bool
  | [] => false
  | p :: r => if k = p.1 then p.2 else bGet k r
def bPut (M : Mb) (k : Str) (v : Bool) : Mb := match bIdx k M with
  | some i => M.set i (k, v)
  | none => M ++ [(k, v)]

theorem findK_mb (k : Str) : ∀ M : Mb, findK (.one 1) (.str k) (bKs M) = some (bIdx k M)
  | [] => rfl
  | p :: r => by
    have ih := findK_mb k r
    unfold bKs at ih ⊢
    simp only [List.map_cons, findK]
    have e : eqK (.one 1) (.str k) (.str p.1) = some (decide (k = p.1)) := by by_cases h : k = p.1 <;> simp [eqK, keyOk, kindOf, eqS, h]
    rw [e, bIdx]
    by_cases h : k = p.1
    · simp [h]
    · simp only [h, decide_false, if_false]
      rw [ih]
      cases bIdx k r <;> rfl
theorem bIdx_some {k : Str} : ∀ {M : Mb} {i : Nat}, bIdx k M = some i → M[i]? = some (k, bGet k M)
  | [], _, h => by simp [bIdx] at h
  | p :: r, i, h => by
    rw [bIdx] at h
    split at h
    · rename_i hk
      simp at h
      subst h
      simp [bGet, hk]
    · rename_i hk
      cases h2 : bIdx k r with
      | none => rw [h2] at h; simp at h
      | some i' =>
        rw [h2] at h
        simp at h
        subst h
        have := bIdx_some h2
        simpa [bGet, hk] using this
theorem bIdx_none {k : Str} : ∀ {M : Mb}, bIdx k M = none → bGet k M = false
  | [], _ => rfl
  | p :: r, h => by
    rw [bIdx] at h
    split at h
    · cases h
    · rename_i hk
      cases h2 : bIdx k r with
      | none => rw [bGet, if_neg hk]; exact bIdx_none h2
      | some i' => rw [h2] at h; simp at h
theorem bGet_append (k k' : Str) (v : Bool) : ∀ M : Mb, bIdx k M = none → bGet k' (M ++ [(k, v)]) = if k' = k then v else bGet k' M
  | [], _ => by simp [bGet]
  | p :: r, h => by
    rw [bIdx] at h
    split at h
    · cases h
    · rename_i hk
      have h2 : bIdx k r = none := by
        cases h2 : bIdx k r with
        | none => rfl
        | some i => rw [h2] at h; simp at h
      simp only [List.cons_append, bGet]
      by_cases e : k' = p.1
      · rw [if_pos e, if_pos e, if_neg (fun q => hk (by rw [← q, e]))]
      · rw [if_neg e, if_neg e]
        exact bGet_append k k' v r h2
theorem bGet_set {k : Str} (k' : Str) (v : Bool) : ∀ {M : Mb} {i : Nat}, bIdx k M = some i → bGet k' (M.set i (k, v)) = if k' = k then v else bGet k' M
  | [], _, h => by simp [bIdx] at h
  | p :: r, i, h => by
    rw [bIdx] at h
    split at h
    · rename_i hk
      simp at h
      subst h
      simp only [List.set_cons_zero, bGet]
      by_cases e : k' = k
      · simp [e]
      · have : ¬ k' = p.1 := by rw [← hk]; exact e
        simp [e, this]
    · rename_i hk
      cases h2 : bIdx k r with
      | none => rw [h2] at h; simp at h
      | some i' =>
        rw [h2] at h
        simp at h
        subst h
        have ih := bGet_set k' v h2
        simp only [List.set_cons_succ, bGet, ih]
        by_cases e : k' = p.1
        · have : ¬ k' = k := fun q => hk (by rw [← q, e])
          simp [e, this]
          intro q
          exact absurd (q ▸ rfl) hk
        · simp [e]
theorem bGet_put (M : Mb) (k k' : Str) (v : Bool) : bGet k' (bPut M k v) = if k' = k then v else bGet k' M := by
  unfold bPut
  cases h : bIdx k M with
  | some i => exact bGet_set k' v h
  | none => exact bGet_append k k' v M h
theorem bKs_put (M : Mb) (k : Str) (v : Bool) : bKs (bPut M k v) = match bIdx k M with | some _ => bKs M | none => bKs M ++ [.str k] := by
  unfold bPut
  cases h : bIdx k M with
  | none => simp [bKs]
  | some i =>
    have hw := bIdx_some h
    obtain ⟨hi, hw⟩ := List.getElem?_eq_some_iff.1 hw
    simp only
    unfold bKs
    rw [List.map_set]
    apply List.ext_getElem
    · simp
    · intro j h1 h2
      rw [List.getElem_set]
      by_cases e : i = j
      · subst e; simp [hw]
      · simp [e]
theorem bVs_put (M : Mb) (k : Str) (v : Bool) : bVs (bPut M k v) = match bIdx k M with | some i => (bVs M).set i (.c (.bool v)) | none => bVs M ++ [.c (.bool v)] := by
  unfold bPut
  cases h : bIdx k M with
  | none => simp [bVs]
  | some i =>
    simp only
    unfold bVs
    rw [List.map_set]
theorem bVs_get {M : Mb} {k : Str} {i : Nat} (h : bIdx k M = some i) : (bVs M)[i]? = some (.c (.bool (bGet k M))) := by
  have := bIdx_some h
  simp [bVs, this]
theorem under_bVs (n : Nat) (M : Mb) : underL n (bVs M) = true := by
  unfold bVs
  induction M with
  | nil => rfl
  | cons p r ih => simpa [underL, LV.under] using ih

-- ------------------------------------------------------------------ races
/-- The names that were there. -/
def namesR (l : List Rc) : List Str := l.flatMap fun r => [r.a, r.b].filter fun s => decide (s ≠ [])
def strangeR (r : Rc) : Bool := (decide (r.a ≠ []) && !isName r.a) || (decide (r.b ≠ []) && !isName r.b)
def twiceR (s : List Str) (r : Rc) : Bool := (decide (r.a ≠ []) && s.any (Str.is r.a)) || (decide (r.b ≠ []) && s.any (Str.is r.b)) || (decide (r.a ≠ []) && decide (r.a = r.b))
def rcE (pre : List Rc) (r : Rc) : Int := if strangeR r then 8 else if twiceR (namesR pre) r then 9 else if outside r.w 0 3 then 3 else if decide (0 < walkV r.a r.b) && decide (r.w ≠ walkV r.a r.b) then 19 else 0
/-- The error of races. -/
def racesE (l : List Rc) : Int := if l.length = 1 ∨ l.length = 2 ∨ l.length = 4 ∨ l.length = 8 ∨ l.length = 16 ∨ l.length = 32 then eachE rcE [] l else 2
/-- The map that the program keeps, of the names that were there. -/
def seenM (M : Mb) (s : List Str) : Prop := ∀ k, bGet k M = (decide (k ≠ []) && s.any (Str.is k))
def putR (M : Mb) (r : Rc) : Mb := bPut (bPut M r.a (decide (r.a ≠ []))) r.b (decide (r.b ≠ []))
theorem seenM_put {M : Mb} {s : List Str} (h : seenM M s) (r : Rc) (ht : twiceR s r = false) : seenM (putR M r) (s ++ [r.a, r.b].filter fun x => decide (x ≠ [])) := by
  intro k
  unfold putR
  rw [bGet_put, bGet_put, h k, List.any_append]
  by_cases e1 : k = r.b
  · subst e1
    by_cases e2 : r.b = []
    · simp [e2]
    · simp [e2, Str.is]
  · by_cases e2 : k = r.a
    · subst e2
      by_cases e3 : r.a = []
      · simp [e3, e1]
      · simp [e1, e3, Str.is]
    · have e1' : ¬ r.b = k := fun q => e1 q.symm
      have e2' : ¬ r.a = k := fun q => e2 q.symm
      have f1 : (r.b == k) = false := beq_eq_false_iff_ne.2 e1'
      have f2 : (r.a == k) = false := beq_eq_false_iff_ne.2 e2'
      rw [if_neg e1, if_neg e2]
      by_cases e3 : r.a = [] <;> by_cases e4 : r.b = [] <;> simp [e3, e4, Str.is, f1, f2]
end LM.G6

namespace LM.G6
open Go LM
variable {P : Nat → Option SFunc} [Has P]

def RB (x : Rc) : LB := .cells 0 [.c (.str x.a), .c (.str x.b), .c (ci x.w)] 0
def MB (M : Mb) : LB := .map (bKs M) (bVs M) false

theorem seg6 (x : Rc) (hxa : x.a.length < 9223372036854775807) (hxb : x.b.length < 9223372036854775807) (M : Mb) (L N I : CV) :
    execS P (limS P) c57_n6 ⟨[.map 0, .ptr 1 0 0, .c L, .c N, .c I], [MB M, RB x]⟩ = some (.normal, ⟨[.map 0, .ptr 1 0 0, .c (.bool (strangeR x)), .c L, .c N, .c I], [MB M, RB x]⟩) := by
  have ea := S90 (P := P) x.a hxa
  have eb := S90 (P := P) x.b hxb
  unfold strangeR RB
  by_cases ha : x.a = []
  · by_cases hb : x.b = []
    · simp [ha, hb]
    · cases h2 : isName x.b <;> rw [h2] at eb <;> simp [ha, hb, eb]
  · cases h1 : isName x.a
    · rw [h1] at ea
      simp [ha, ea]
    · rw [h1] at ea
      by_cases hb : x.b = []
      · simp [ha, hb, ea]
      · cases h2 : isName x.b <;> rw [h2] at eb <;> simp [ha, hb, ea, eb]

/-- A look into the map. -/
theorem look_cases (k : Str) (M : Mb) : (findK (.one 1) (.str k) (bKs M) = some none ∧ bGet k M = false) ∨ (∃ i, findK (.one 1) (.str k) (bKs M) = some (some i) ∧ (bVs M)[i]? = some (.c (.bool (bGet k M)))) := by
  have hf := findK_mb k M
  cases ia : bIdx k M with
  | none => rw [ia] at hf; exact .inl ⟨hf, bIdx_none ia⟩
  | some i => rw [ia] at hf; exact .inr ⟨i, hf, bVs_get ia⟩

theorem seg8 (x : Rc) (M : Mb) (s : Bool) (L N I : CV) :
    execS P (limS P) c57_n8 ⟨[.map 0, .ptr 1 0 0, .c (.bool s), .c L, .c N, .c I], [MB M, RB x]⟩ = some (.normal, ⟨[.map 0, .ptr 1 0 0, .c (.bool s), .c (.bool (bGet x.a M || bGet x.b M || (decide (x.a ≠ []) && decide (x.a = x.b)))), .c L, .c N, .c I], [MB M, RB x]⟩) := by
  have hk : ∀ s, keyOk (.one 1) (CV.str s) = true := fun _ => rfl
  obtain ⟨a, b, w⟩ := x
  simp only [RB, MB]
  rcases look_cases a M with ⟨fa, ga⟩ | ⟨i, fa, va⟩
  · rcases look_cases b M with ⟨fb, gb⟩ | ⟨j, fb, vb⟩
    · rw [ga, gb]
      by_cases ha : a = []
      · subst ha
        simp [hk, fa, fb]
      · by_cases hab : a = b
        · subst hab
          simp [hk, fa, ha]
        · simp [hk, fa, fb, ha, hab]
    · rw [ga]
      cases gb : bGet b M <;> rw [gb] at vb
      · by_cases ha : a = []
        · subst ha
          simp [hk, fa, fb, vb]
        · by_cases hab : a = b
          · subst hab
            simp [hk, fa, fb, ha] at fb
          · simp [hk, fa, fb, vb, ha, hab]
      · simp [hk, fa, fb, vb]
  · cases ga : bGet a M <;> rw [ga] at va
    · rcases look_cases b M with ⟨fb, gb⟩ | ⟨j, fb, vb⟩
      · rw [gb]
        by_cases ha : a = []
        · subst ha
          simp [hk, fa, fb, va]
        · by_cases hab : a = b
          · subst hab
            simp [fa] at fb
          · simp [hk, fa, fb, va, ha, hab]
      · cases gb : bGet b M <;> rw [gb] at vb
        · by_cases ha : a = []
          · subst ha
            simp [hk, fa, fb, va, vb]
          · by_cases hab : a = b
            · subst hab
              simp [hk, fa, va, ha]
            · simp [hk, fa, fb, va, vb, ha, hab]
        · simp [hk, fa, fb, va, vb]
    · simp [hk, fa, va]

theorem seg10 (x : Rc) (M : Mb) (s t : Bool) (L N I : CV) :
    execS P (limS P) c57_n10 ⟨[.map 0, .ptr 1 0 0, .c (.bool s), .c (.bool t), .c L, .c N, .c I], [MB M, RB x]⟩ = some (.normal, ⟨[.map 0, .ptr 1 0 0, .c (.bool s), .c (.bool t), .ptr 2 0 0, .c L, .c N, .c I], [MB M, RB x, RB (decR x.a x.b)]⟩) := by
  simp [RB, MB, decR, Rc.enc]

def rE (x : Rc) (s t : Bool) : Int := firstE [whenE s 8, whenE t 9, whenE (outside x.w 0 3) 3, whenE (decide (0 < walkV x.a x.b) && decide (x.w ≠ walkV x.a x.b)) 19]
theorem seg12 (x : Rc) (M : Mb) (s t : Bool) (L N I : CV) :
    execS P (limS P) c57_n12 ⟨[.map 0, .ptr 1 0 0, .c (.bool s), .c (.bool t), .ptr 2 0 0, .c L, .c N, .c I], [MB M, RB x, RB (decR x.a x.b)]⟩ = if rE x s t = 0 then some (.normal, ⟨[.map 0, .ptr 1 0 0, .c L, .c N, .c I], [MB M, RB x, RB (decR x.a x.b), .dead]⟩) else some (.ret, ⟨[.c (ci (rE x s t))], [MB M, RB x, RB (decR x.a x.b), .dead]⟩) := by
  obtain ⟨a, b, w⟩ := x
  have hk : eqK (.many [1, 1, 0]) (CV.agg [.str a, .str b, ci w]) (CV.agg [.str a, .str b, ci (walkV a b)]) = some (decide (w = walkV a b)) := by
    by_cases h : w = walkV a b <;> simp [eqK, keyOk, kindsOk, kindOf, eqCells, eqS, h]
  unfold rE
  by_cases h1 : 0 < walkV a b
  · by_cases h2 : w = walkV a b
    · subst h2
      simp at hk
      simp [RB, MB, decR, Rc.enc, hk, h1]
    · simp [RB, MB, decR, Rc.enc, hk, h1, h2]
  · simp [RB, MB, decR, Rc.enc, hk, h1]

theorem put_cases (k : Str) (v : Bool) (M : Mb) : (findK (.one 1) (.str k) (bKs M) = some none ∧ bKs M ++ [.str k] = bKs (bPut M k v) ∧ bVs M ++ [.c (.bool v)] = bVs (bPut M k v)) ∨ (∃ i, findK (.one 1) (.str k) (bKs M) = some (some i) ∧ bKs M = bKs (bPut M k v) ∧ (bVs M).set i (.c (.bool v)) = bVs (bPut M k v) ∧ i < (bVs M).length) := by
  have hf := findK_mb k M
  have h1 := bKs_put M k v
  have h2 := bVs_put M k v
  cases ia : bIdx k M with
  | none => rw [ia] at hf h1 h2; exact .inl ⟨hf, h1.symm, h2.symm⟩
  | some i => rw [ia] at hf h1 h2; exact .inr ⟨i, hf, h1.symm, h2.symm, (List.getElem?_eq_some_iff.1 (bVs_get ia)).1⟩

theorem seg13 (x : Rc) (Y Z : LB) (M : Mb) (L N I : CV) :
    execS P (limS P) c57_n13 ⟨[.map 0, .ptr 1 0 0, .c L, .c N, .c I], [MB M, RB x, Y, Z]⟩ = some (.normal, ⟨[.map 0, .c L, .c N, .c I], [MB (putR M x), RB x, Y, Z]⟩) := by
  have hk : ∀ s, keyOk (.one 1) (CV.str s) = true := fun _ => rfl
  obtain ⟨a, b, w⟩ := x
  simp only [RB, MB, putR]
  have e1 : (a != []) = decide (a ≠ []) := by by_cases h : a = [] <;> simp [h]
  have e2 : (b != []) = decide (b ≠ []) := by by_cases h : b = [] <;> simp [h]
  generalize hva : decide (a ≠ []) = va at e1
  generalize hvb : decide (b ≠ []) = vb at e2
  have e3 : (!decide (a = [])) = va := by rw [← hva]; simp
  have e4 : (!decide (b = [])) = vb := by rw [← hvb]; simp
  have e5 : (!a.isEmpty) = va := by rw [← hva]; cases a <;> rfl
  have e6 : (!b.isEmpty) = vb := by rw [← hvb]; cases b <;> rfl
  rcases put_cases a va M with ⟨f1, k1, v1⟩ | ⟨i, f1, k1, v1, i1⟩
  · rcases put_cases b vb (bPut M a va) with ⟨f2, k2, v2⟩ | ⟨j, f2, k2, v2, i2⟩
    · simp [hk, f1, k1, v1, f2, k2, v2, e5, e6]
    · rw [← k2]
      simp [hk, f1, k1, v1, f2, v2, i2, e5, e6]
  · rcases put_cases b vb (bPut M a va) with ⟨f2, k2, v2⟩ | ⟨j, f2, k2, v2, i2⟩
    · rw [← k1] at f2 k2
      simp [hk, f1, v1, i1, f2, k2, v2, e5, e6]
    · rw [← k1] at f2 k2
      rw [← k2]
      simp [hk, f1, v1, i1, f2, v2, i2, e5, e6]

theorem rE_rcE (x : Rc) (pre : List Rc) (M : Mb) (hM : seenM M (namesR pre)) : rE x (strangeR x) (bGet x.a M || bGet x.b M || (decide (x.a ≠ []) && decide (x.a = x.b))) = rcE pre x := by
  have ha := hM x.a
  have hb := hM x.b
  have ht : twiceR (namesR pre) x = (bGet x.a M || bGet x.b M || (decide (x.a ≠ []) && decide (x.a = x.b))) := by rw [ha, hb]; rfl
  unfold rE rcE
  rw [ht]
  cases strangeR x <;> cases (bGet x.a M || bGet x.b M || (decide (x.a ≠ []) && decide (x.a = x.b))) <;> cases outside x.w 0 3 <;> cases (decide (0 < walkV x.a x.b) && decide (x.w ≠ walkV x.a x.b)) <;> simp [firstE, whenE]
theorem rcE_twice {pre : List Rc} {x : Rc} (h : rcE pre x = 0) : twiceR (namesR pre) x = false := by
  unfold rcE at h
  cases ht : twiceR (namesR pre) x
  · rfl
  · rw [ht] at h
    simp at h
    split at h <;> cases h

theorem L57 : ∀ (r pre : List Rc) (M : Mb), ((pre ++ r).length : Int) < 1000 → (∀ x ∈ r, x.a.length < 9223372036854775807 ∧ x.b.length < 9223372036854775807) → seenM M (namesR pre) →
    ∃ H, execS P (limS P) c57_l0 ⟨[.map 0, .c (.slice ((pre ++ r).map Rc.enc)), .c (ci (pre ++ r).length), .c (ci pre.length)], [MB M]⟩ = if eachE rcE pre r = 0 then some (.exit 0, ⟨[], H⟩) else some (.ret, ⟨[.c (ci (eachE rcE pre r))], H⟩) := by
  intro r
  induction r with
  | nil =>
    intro pre M h _ _
    refine ⟨[MB M], ?_⟩
    rw [r57_l0]
    simp [c57_l0b, eachE]
  | cons x r ih =>
    intro pre M h hx hM
    have hx0 := hx x (by simp)
    have hE := rE_rcE x pre M hM
    have e6 := seg6 (P := P) x hx0.1 hx0.2 M
    have e8 := seg8 (P := P) x M
    generalize (bGet x.a M || bGet x.b M || (decide (x.a ≠ []) && decide (x.a = x.b))) = t at hE e8
    have e10 := seg10 (P := P) x M
    have e12 := seg12 (P := P) x M
    have e13 := fun Y Z => seg13 (P := P) x Y Z M
    simp at h
    have hw : IntKind.i64.wrap (↑pre.length + 1) = ↑pre.length + 1 := wrap64 (by omega) (by omega)
    have hlt : (pre.length : Int) < pre.length + (r.length + 1) := by omega
    have hRB : LB.cells 0 [.c (.str x.a), .c (.str x.b), .c (ci x.w)] 0 = RB x := rfl
    by_cases h0 : rcE pre x = 0
    · have hM' := seenM_put hM x (rcE_twice h0)
      have hn : namesR (pre ++ [x]) = namesR pre ++ [x.a, x.b].filter fun s => decide (s ≠ []) := by simp [namesR]
      rw [← hn] at hM'
      obtain ⟨H, ih⟩ := ih (pre ++ [x]) (putR M x) (by simp; omega) (fun y hy => hx y (by simp [hy])) hM'
      refine ⟨H, ?_⟩
      have hec : eachE rcE pre (x :: r) = eachE rcE (pre ++ [x]) r := by rw [eachE, if_neg (by simpa using h0)]
      rw [h0] at hE
      simp [Rc.enc] at ih
      have hu : ∀ n, underB n [MB (putR M x)] = true := fun n => by simp [MB, underB, LB.under, under_bVs]
      rw [hec, r57_l0]
      simp [c57_l0b, hw, hlt, Rc.enc, hRB, e6, e8, e10, e12, e13, hE, hu, ih, -c57_n6, -c57_n8, -c57_n10, -c57_n12, -c57_n13]
    · have hec : eachE rcE pre (x :: r) = rcE pre x := by rw [eachE, if_pos h0]
      refine ⟨[MB M, RB x, RB (decR x.a x.b), .dead], ?_⟩
      rw [hec, r57_l0, if_neg h0]
      simp [c57_l0b, hw, hlt, Rc.enc, hRB, e6, e8, e10, e12, e13, hE, h0, -c57_n6, -c57_n8, -c57_n10, -c57_n12, -c57_n13]

theorem S57 (T : Tabs P) (l : List Rc) (h : (l.length : Int) < 9223372036854775807) (hx : ∀ x ∈ l, x.a.length < 9223372036854775807 ∧ x.b.length < 9223372036854775807) : fn P 57 [.slice (l.map Rc.enc)] = some (ci (racesE l)) := by
  rw [u57]
  unfold racesE
  by_cases h1 : l.length = 0
  · have : l = [] := List.eq_nil_of_length_eq_zero h1
    subst this
    simp [c57]
  · by_cases h2 : l.length > 32
    · have h2' : (32 : Int) < l.length := by omega
      have h1' : ¬ (l.length : Int) < 1 := by omega
      have : ¬ (l.length = 1 ∨ l.length = 2 ∨ l.length = 4 ∨ l.length = 8 ∨ l.length = 16 ∨ l.length = 32) := by omega
      rw [if_neg this]
      simp [c57, h1', h2']
    · have h2' : ¬ (32 : Int) < l.length := by omega
      have h1' : ¬ (l.length : Int) < 1 := by omega
      have eT := T.pop l.length (by omega)
      have hw : IntKind.u64.wrap (l.length : Int) = l.length := by
        have := u64_all
        rw [List.all_eq_true] at this
        have := this l.length (List.mem_range.2 (by omega))
        simpa using this
      have hp : (pops 7 l.length = 1) ↔ (l.length = 1 ∨ l.length = 2 ∨ l.length = 4 ∨ l.length = 8 ∨ l.length = 16 ∨ l.length = 32) := by
        have key : (List.range 33).all (fun n => decide (pops 7 n = 1) == decide (n = 1 ∨ n = 2 ∨ n = 4 ∨ n = 8 ∨ n = 16 ∨ n = 32)) = true := by decide +kernel
        rw [List.all_eq_true] at key
        have := key l.length (List.mem_range.2 (by omega))
        simp only [beq_iff_eq, decide_eq_decide] at this
        exact this
      by_cases h3 : pops 7 l.length = 1
      · rw [if_pos (hp.1 h3)]
        rw [h3] at eT
        obtain ⟨H, hL⟩ := L57 (P := P) l [] [] (by simp; omega) hx (fun k => by simp [bGet, namesR])
        simp at hL
        have e0 : MB [] = .map [] [] false := rfl
        rw [e0] at hL
        by_cases h4 : eachE rcE [] l = 0
        · rw [if_pos h4] at hL
          simp [c57, h1', h2', hw, eT, hL, h4]
        · rw [if_neg h4] at hL
          simp [c57, h1', h2', hw, eT, hL]
      · rw [if_neg (fun q => h3 (hp.2 q))]
        have h3' : ¬ (pops 7 l.length : Int) = 1 := by omega
        simp [c57, h1', h2', hw, eT, h3']
end LM.G6

namespace LM.G6
open Go LM
variable {P : Nat → Option SFunc} [Has P]

/-- The first power of two that is not less, or 32. -/
def dblN (len : Int) : Nat → Int → Int
  | 0, n => n
  | f + 1, n => if n < len ∧ n < 32 then dblN len f (2 * n) else n
theorem L56_0 (l : List CV) : ∀ (f : Nat) (n : Int), n * 2 ^ f = 32 → 1 ≤ n →
    execS P (limS P) c56_l0 ⟨[.c (.slice l), .c (ci n)], []⟩ = some (.exit 0, ⟨[.c (.slice l), .c (ci (dblN l.length f n))], []⟩) := by
  intro f
  induction f with
  | zero =>
    intro n h h1
    have : n = 32 := by simpa using h
    subst this
    rw [r56_l0]
    by_cases hl : (32 : Int) < l.length <;> simp [c56_l0b, dblN, hl]
  | succ f ih =>
    intro n h h1
    have e : (2 : Int) ^ (f + 1) = 2 * 2 ^ f := by rw [Int.pow_succ]; omega
    rw [e] at h
    have h32 : n ≤ 32 := by
      have : 0 < (2 : Int) ^ f := Int.pow_pos (by omega)
      have h2 : n * 1 ≤ n * (2 * 2 ^ f) := Int.mul_le_mul_of_nonneg_left (by omega) (by omega)
      omega
    have ih := ih (2 * n) (by rw [← h, Int.mul_comm 2 n, Int.mul_assoc]) (by omega)
    have hw : IntKind.i64.wrap (2 * n) = 2 * n := wrap64 (by omega) (by omega)
    rw [r56_l0]
    by_cases h2 : n < l.length
    · by_cases h3 : n < 32
      · have ed : dblN l.length (f + 1) n = dblN l.length f (2 * n) := by rw [dblN, if_pos ⟨h2, h3⟩]
        rw [ed]
        simp [c56_l0b, h2, h3, hw, ih]
      · have ed : dblN l.length (f + 1) n = n := by rw [dblN, if_neg (fun q => h3 q.2)]
        rw [ed]
        simp [c56_l0b, h2, h3]
    · have ed : dblN l.length (f + 1) n = n := by rw [dblN, if_neg (fun q => h2 q.1)]
      rw [ed]
      simp [c56_l0b, h2]
theorem dblN_eq (k : Nat) : ((k : Int) = dblN k 5 1) ↔ (k = 1 ∨ k = 2 ∨ k = 4 ∨ k = 8 ∨ k = 16 ∨ k = 32) := by
  simp only [dblN]
  (repeat' split) <;> omega

def SB (ys : List Str) : LB := .cells (1 + ys.length) (cellsOf (ys.map CV.str)) 0
def NB (x : Rc) : LB := .cells 1 [.c (.str x.a), .c (.str x.b)] 0
theorem SB_under (n : Nat) (ys : List Str) : (SB ys).under n = true := by simp [SB, LB.under, underL_cellsOf]

theorem L56_1 (x : Rc) (ys : List Str) (L : CV) (I : CV) (n : Nat) :
    ∃ H, execS P (limS P) c56_l1 ⟨[.c L, .slice 0 (1 + ys.length) 0 n none none, .c I, .slice 1 1 0 2 none (some 2), .c (ci 0)], [SB ys, NB x]⟩ = if strangeR x then some (.ret, ⟨[.c (ci 8)], H⟩) else some (.exit 4, ⟨[.c L, .slice 0 (1 + ys.length) 0 n none none, .c I, .slice 1 1 0 2 none (some 2)], [SB ys, NB x]⟩) := by
  refine ⟨[SB ys, NB x], ?_⟩
  have hu := fun n => SB_under n ys
  have hun : ∀ n, (NB x).under n = true := fun n => rfl
  have w1 : IntKind.i64.wrap 1 = 1 := rfl
  have w2 : IntKind.i64.wrap 2 = 2 := rfl
  have k2 : execS P (limS P) c56_l1 ⟨[.c L, .slice 0 (1 + ys.length) 0 n none none, .c I, .slice 1 1 0 2 none (some 2), .c (ci 2)], [SB ys, NB x]⟩ = some (.exit 4, ⟨[.c L, .slice 0 (1 + ys.length) 0 n none none, .c I, .slice 1 1 0 2 none (some 2)], [SB ys, NB x]⟩) := by
    rw [r56_l1]; simp [c56_l1b]
  have k1 : execS P (limS P) c56_l1 ⟨[.c L, .slice 0 (1 + ys.length) 0 n none none, .c I, .slice 1 1 0 2 none (some 2), .c (ci 1)], [SB ys, NB x]⟩ = if decide (x.b ≠ []) && !isName x.b then some (.ret, ⟨[.c (ci 8)], [SB ys, NB x]⟩) else some (.exit 4, ⟨[.c L, .slice 0 (1 + ys.length) 0 n none none, .c I, .slice 1 1 0 2 none (some 2)], [SB ys, NB x]⟩) := by
    rw [r56_l1]
    simp only [NB] at hun k2 ⊢
    by_cases hb : x.b = []
    · simp [c56_l1b, hb, w2, hu, hun]
      simp [hb] at k2
      simp [k2]
    · cases hi : isName x.b <;> simp [c56_l1b, hb, hi, w2, hu, hun, k2]
  rw [r56_l1]
  unfold strangeR
  obtain ⟨a, b, w⟩ := x
  simp only [NB] at hun k1 k2 ⊢
  by_cases ha : a = []
  · subst ha
    cases hb : (decide (b ≠ []) && !isName b) <;> rw [hb] at k1 <;> simp at k1 <;> simp [c56_l1b, w1, hu, hun, k1]
  · cases hi : isName a
    · simp [c56_l1b, ha, hi]
    · cases hb : (decide (b ≠ []) && !isName b) <;> rw [hb] at k1 <;> simp at k1 <;> simp [c56_l1b, ha, hi, w1, hu, hun, k1]

theorem L56_2 (x : Rc) (ys : List Str) (L : CV) (I : CV) (hy : ys.length ≤ 1000) :
    ∃ H, execS P (limS P) c56_l2 ⟨[.c L, .slice 0 (1 + ys.length) 0 ys.length none none, .c I, .slice 1 1 0 2 none (some 2), .c (ci 0)], [SB ys, NB x]⟩ = if twiceR ys x then some (.ret, ⟨[.c (ci 9)], H⟩) else some (.exit 6, ⟨[.c L, .slice 0 (1 + (ys ++ [x.a, x.b].filter fun s => decide (s ≠ [])).length) 0 (ys ++ [x.a, x.b].filter fun s => decide (s ≠ [])).length none none, .c I], [SB (ys ++ [x.a, x.b].filter fun s => decide (s ≠ [])), NB x]⟩) := by
  obtain ⟨a, b, w⟩ := x
  have hu := fun n ys => SB_under n ys
  have hun : ∀ n, (NB ⟨a, b, w⟩).under n = true := fun n => rfl
  have w1 : IntKind.i64.wrap 1 = 1 := rfl
  have w2 : IntKind.i64.wrap 2 = 2 := rfl
  have k2 : ∀ zs : List Str, execS P (limS P) c56_l2 ⟨[.c L, .slice 0 (1 + zs.length) 0 zs.length none none, .c I, .slice 1 1 0 2 none (some 2), .c (ci 2)], [SB zs, NB ⟨a, b, w⟩]⟩ = some (.exit 6, ⟨[.c L, .slice 0 (1 + zs.length) 0 zs.length none none, .c I], [SB zs, NB ⟨a, b, w⟩]⟩) := by
    intro zs
    rw [r56_l2]; simp [c56_l2b]
  have app : ∀ (zs : List Str) (s : Str), zs.length ≤ 2000 → appendOp none none 16 (.slice 0 (1 + zs.length) 0 zs.length none none) (.c (.slice [.str s])) [SB zs, NB ⟨a, b, w⟩] = some (.slice 0 (1 + zs.length + 1) 0 (zs.length + 1) none none, [SB (zs ++ [s]), NB ⟨a, b, w⟩]) := by
    intro zs s hz
    have ha := append_own (b := 0) (g := 1 + zs.length) (bytes := 16) (e := none) (ys := zs.map CV.str) (xs := [.str s]) (h := [SB zs, NB ⟨a, b, w⟩]) (len := zs.length) (fz := 0) rfl (strElems _) (by simpa using strElem s) (by simp) (Nat.zero_le _) (by simp) (by simp; omega) (by simp; omega)
    rw [ha]
    simp [SB, Nat.add_assoc]
  have fr : ∀ (zs : List Str), frz frzDepth (.slice 0 (1 + zs.length) 0 zs.length none none) [SB zs, NB ⟨a, b, w⟩] = some (.slice (zs.map CV.str), bump 0 (zs.length * szOf none) [SB zs, NB ⟨a, b, w⟩]) := fun zs => frz_own (b := 0) (g := 1 + zs.length) (fz := 0) (e := none) (ys := zs.map CV.str) (h := [SB zs, NB ⟨a, b, w⟩]) (len := zs.length) rfl (strElems _) (by simp) none
  have k1 : ∀ zs : List Str, zs.length ≤ 1500 → ∃ H, execS P (limS P) c56_l2 ⟨[.c L, .slice 0 (1 + zs.length) 0 zs.length none none, .c I, .slice 1 1 0 2 none (some 2), .c (ci 1)], [SB zs, NB ⟨a, b, w⟩]⟩ = if decide (b ≠ []) && zs.any (Str.is b) then some (.ret, ⟨[.c (ci 9)], H⟩) else some (.exit 6, ⟨[.c L, .slice 0 (1 + (zs ++ if b = [] then [] else [b]).length) 0 (zs ++ if b = [] then [] else [b]).length none none, .c I], [SB (zs ++ if b = [] then [] else [b]), NB ⟨a, b, w⟩]⟩) := by
    intro zs hz
    refine ⟨[SB zs, NB ⟨a, b, w⟩], ?_⟩
    have e81 := S81 (P := P) b zs (by omega)
    have k2z := k2 (zs ++ [b])
    have k2y := k2 zs
    have ap := app zs b (by omega)
    have fz := fr zs
    have e1 : 1 + (zs.length + 1) = 1 + zs.length + 1 := by omega
    simp [e1] at k2z
    simp only [NB] at hun k2z k2y ap fz ⊢
    rw [r56_l2]
    by_cases hb : b = []
    · subst hb
      simp [c56_l2b, w2, hu, hun, k2y]
    · cases h2 : zs.any (Str.is b)
      · rw [h2] at e81
        simp [c56_l2b, hb, w2, hu, hun, fz, e81, ap, k2z, -frz_slice]
        omega
      · rw [h2] at e81
        simp [c56_l2b, hb, fz, e81, -frz_slice]
  by_cases ha : a = []
  · subst ha
    obtain ⟨H, h1⟩ := k1 ys (by omega)
    refine ⟨H, ?_⟩
    have et : twiceR ys ⟨[], b, w⟩ = (decide (b ≠ []) && ys.any (Str.is b)) := by simp [twiceR]
    have ef : ([([] : Str), b].filter fun s => decide (s ≠ [])) = if b = [] then [] else [b] := by by_cases hb : b = [] <;> simp [hb]
    rw [et, ef, ← h1, r56_l2]
    have hyu := hu
    simp only [NB] at hun ⊢
    simp [c56_l2b, w1, hu, hun]
  · have e81 := S81 (P := P) a ys (by omega)
    have ap := app ys a (by omega)
    have fz := fr ys
    cases h2 : ys.any (Str.is a)
    · obtain ⟨H, h1⟩ := k1 (ys ++ [a]) (by simp; omega)
      refine ⟨H, ?_⟩
      have et : twiceR ys ⟨a, b, w⟩ = (decide (b ≠ []) && (ys ++ [a]).any (Str.is b)) := by
        by_cases hab : a = b
        · subst hab
          simp [twiceR, h2, ha, Str.is]
        · have : (a == b) = false := beq_eq_false_iff_ne.2 hab
          simp [twiceR, h2, ha, hab, Str.is, this]
      have ef : ys ++ ([a, b].filter fun s => decide (s ≠ [])) = (ys ++ [a]) ++ if b = [] then [] else [b] := by by_cases hb : b = [] <;> simp [ha, hb]
      rw [et, ef, ← h1, r56_l2]
      rw [h2] at e81
      have e1 : 1 + (ys.length + 1) = 1 + ys.length + 1 := by omega
      simp only [NB] at hun ap fz ⊢
      simp [c56_l2b, ha, w1, hu, hun, fz, e81, ap, e1, -frz_slice]
    · refine ⟨[SB ys, NB ⟨a, b, w⟩], ?_⟩
      have et : twiceR ys ⟨a, b, w⟩ = true := by simp [twiceR, h2, ha]
      rw [h2] at e81
      rw [et, r56_l2]
      simp only [NB] at hun ap fz ⊢
      simp [c56_l2b, ha, fz, e81, -frz_slice]

theorem namesR_le : ∀ pre : List Rc, (namesR pre).length ≤ 2 * pre.length
  | [] => by simp [namesR]
  | a :: t => by
    have h1 : ([a.a, a.b].filter fun s => decide (s ≠ [])).length ≤ 2 := List.length_filter_le _ _
    have h2 := namesR_le t
    have e : namesR (a :: t) = ([a.a, a.b].filter fun s => decide (s ≠ [])) ++ namesR t := rfl
    rw [e, List.length_append, List.length_cons]
    omega

theorem L56_3 : ∀ (r pre : List Rc), ((pre ++ r).length : Int) < 500 → ∃ H, execS P (limS P) c56_l3 ⟨[.c (.slice ((pre ++ r).map Rc.enc)), .slice 0 (1 + (namesR pre).length) 0 (namesR pre).length none none, .c (ci pre.length)], [SB (namesR pre)]⟩ = if eachE rcE pre r = 0 then some (.exit 2, ⟨[], H⟩) else some (.ret, ⟨[.c (ci (eachE rcE pre r))], H⟩) := by
  intro r
  induction r with
  | nil =>
    intro pre h
    refine ⟨[SB (namesR pre)], ?_⟩
    rw [r56_l3]
    simp [c56_l3b, eachE]
  | cons x r ih =>
    intro pre h
    obtain ⟨H', ih⟩ := ih (pre ++ [x]) (by simpa using h)
    have hln := namesR_le pre
    have hn : namesR (pre ++ [x]) = namesR pre ++ [x.a, x.b].filter fun s => decide (s ≠ []) := by simp [namesR]
    rw [hn] at ih
    obtain ⟨H1, h1⟩ := L56_1 (P := P) x (namesR pre) (.slice ((pre ++ x :: r).map Rc.enc)) (ci pre.length) (namesR pre).length
    simp at h
    obtain ⟨H2, h2⟩ := L56_2 (P := P) x (namesR pre) (.slice ((pre ++ x :: r).map Rc.enc)) (ci pre.length) (by omega)
    have hw : IntKind.i64.wrap (↑pre.length + 1) = ↑pre.length + 1 := wrap64 (by omega) (by omega)
    have hlt : (pre.length : Int) < pre.length + (r.length + 1) := by omega
    have hu := fun n ys => SB_under n ys
    have hNB : LB.cells 1 [.c (.str x.a), .c (.str x.b)] 0 = NB x := rfl
    generalize hys : namesR pre ++ [x.a, x.b].filter (fun s => decide (s ≠ [])) = ys at ih h2
    simp [Rc.enc] at ih h1 h2
    have hu2 := hu 1 ys
    unfold LB.under at hu2
    have hE : eachE rcE pre (x :: r) = if rcE pre x ≠ 0 then rcE pre x else eachE rcE (pre ++ [x]) r := rfl
    have hR : rcE pre x = if strangeR x then 8 else if twiceR (namesR pre) x then 9 else if outside x.w 0 3 then 3 else if decide (0 < walkV x.a x.b) && decide (x.w ≠ walkV x.a x.b) then 19 else 0 := rfl
    cases q1 : strangeR x
    · rw [q1] at hR h1
      simp only [Bool.false_eq_true, if_false] at hR h1
      cases q2 : twiceR (namesR pre) x
      · rw [q2] at hR h2
        simp only [Bool.false_eq_true, if_false] at hR h2
        have hNu : ∀ n, (NB x).under n = true := fun n => rfl
        cases q3 : outside x.w 0 3
        · rw [q3] at hR
          simp only [Bool.false_eq_true, if_false] at hR
          by_cases q4 : 0 < walkV x.a x.b
          · by_cases q5 : x.w = walkV x.a x.b
            · have hR0 : rcE pre x = 0 := by rw [hR]; simp [q5]
              have q4' : ¬ walkV x.a x.b = 0 := by omega
              refine ⟨H', ?_⟩
              rw [hE, hR0, r56_l3]
              simp [c56_l3b, hw, hlt, Rc.enc, hNB, h1, h2, q3, q4, q4', ← q5, whenE, hu, hu2, hNu, ih]
            · have hR0 : rcE pre x = 19 := by rw [hR]; simp [q4, q5]
              have q4' : ¬ walkV x.a x.b = 0 := by omega
              refine ⟨[SB ys, NB x], ?_⟩
              rw [hE, hR0, r56_l3]
              simp [c56_l3b, hw, hlt, Rc.enc, hNB, h1, h2, q3, q4, q4', q5, whenE, hu, hNu]
          · have hR0 : rcE pre x = 0 := by rw [hR]; simp [q4]
            have q4' : walkV x.a x.b = 0 := by
              have : 0 ≤ walkV x.a x.b := by unfold walkV; (repeat' split) <;> omega
              omega
            refine ⟨H', ?_⟩
            rw [hE, hR0, r56_l3]
            simp [c56_l3b, hw, hlt, Rc.enc, hNB, h1, h2, q3, q4', whenE, hu, hu2, hNu, ih]
        · rw [q3] at hR
          simp at hR
          refine ⟨[SB ys, NB x], ?_⟩
          rw [hE, hR, r56_l3]
          simp [c56_l3b, hw, hlt, Rc.enc, hNB, h1, h2, q3, whenE]
      · rw [q2] at hR h2
        simp at hR h2
        refine ⟨H2, ?_⟩
        rw [hE, hR, r56_l3]
        simp [c56_l3b, hw, hlt, Rc.enc, hNB, h1, h2]
    · rw [q1] at hR h1
      simp at hR h1
      refine ⟨H1, ?_⟩
      rw [hE, hR, r56_l3]
      simp [c56_l3b, hw, hlt, Rc.enc, hNB, h1]

theorem S56 (l : List Rc) (h : (l.length : Int) < 9223372036854775807) : fn P 56 [.slice (l.map Rc.enc)] = some (ci (racesE l)) := by
  have h0 := L56_0 (P := P) (l.map Rc.enc) 5 1 (by decide) (by omega)
  have hd := dblN_eq l.length
  rw [u56]
  unfold racesE
  simp at h0
  by_cases h1 : l.length = 1 ∨ l.length = 2 ∨ l.length = 4 ∨ l.length = 8 ∨ l.length = 16 ∨ l.length = 32
  · rw [if_pos h1]
    have hd := hd.2 h1
    obtain ⟨H, hL⟩ := L56_3 (P := P) l [] (by simp; omega)
    have e0 : SB (namesR []) = .cells 1 [] 0 := rfl
    have e1 : namesR [] = [] := rfl
    rw [e0, e1] at hL
    simp at hL
    rw [← hd] at h0
    by_cases h2 : eachE rcE [] l = 0
    · rw [if_pos h2] at hL
      simp [c56, h0, hL, h2]
    · rw [if_neg h2] at hL
      simp [c56, h0, hL]
  · rw [if_neg h1]
    have hd : ¬ (l.length : Int) = dblN l.length 5 1 := fun q => h1 (hd.1 q)
    simp [c56, h0, hd]
end LM.G6

namespace LM.G6
open Go LM
variable {P : Nat → Option SFunc} [Has P]

def winR (r : Rc) : Str := if r.w = 1 then r.a else if r.w = 2 then r.b else []
def losR (r : Rc) : Str := if r.w = 1 then r.b else if r.w = 2 then r.a else []
def Rc.opn (r : Rc) : Bool := decide (r.w = 0)
def nextL (l : List Rc) : List Rc := pairsL (l.map winR)

@[simp] theorem S126 (r : Rc) : fn P 126 [r.enc] = some (.str (winR r)) := by
  rw [u126]
  unfold winR
  by_cases h1 : r.w = 1
  · simp [c126, Rc.enc, h1]
  · by_cases h2 : r.w = 2 <;> simp [c126, Rc.enc, h1, h2]
@[simp] theorem S122 (r : Rc) : fn P 122 [r.enc] = some (.str (winR r)) := by
  rw [u122]
  unfold winR
  by_cases h1 : r.w = 1
  · simp [c122, Rc.enc, h1]
  · by_cases h2 : r.w = 2 <;> simp [c122, Rc.enc, h1, h2]
@[simp] theorem S121 (r : Rc) : fn P 121 [r.enc] = some (.str (losR r)) := by
  rw [u121]
  unfold losR
  by_cases h1 : r.w = 1
  · simp [c121, Rc.enc, h1]
  · by_cases h2 : r.w = 2 <;> simp [c121, Rc.enc, h1, h2]
@[simp] theorem S123 (r : Rc) : fn P 123 [r.enc] = some (.str (losR r)) := by
  rw [u123]
  unfold losR
  by_cases h1 : r.w = 1
  · simp [c123, Rc.enc, h1]
  · by_cases h2 : r.w = 2 <;> simp [c123, Rc.enc, h1, h2]
theorem S152 (r : Rc) : fn P 152 [r.enc] = some (.bool r.opn) := by
  rw [u152]
  unfold Rc.opn
  by_cases h : r.w = 0 <;> simp [c152, Rc.enc, h]

theorem L60 : ∀ (r pre : List Rc), ((pre ++ r).length : Int) < 9223372036854775807 →
    execS P (limS P) c60_l0 ⟨[.c (.slice ((pre ++ r).map Rc.enc)), .c (ci pre.length)], []⟩ = if r.any Rc.opn then some (.ret, ⟨[.c (.bool true)], []⟩) else some (.exit 0, ⟨[], []⟩) := by
  intro r
  induction r with
  | nil =>
    intro pre h
    rw [r60_l0]
    simp [c60_l0b]
  | cons x r ih =>
    intro pre h
    have ih := ih (pre ++ [x]) (by simpa using h)
    simp [Rc.enc, -List.any_eq_true] at ih h
    have hw : IntKind.i64.wrap (↑pre.length + 1) = ↑pre.length + 1 := wrap64 (by omega) (by omega)
    have hlt : (pre.length : Int) < pre.length + (r.length + 1) := by omega
    have e : x.opn = decide (x.w = 0) := rfl
    rw [r60_l0]
    by_cases h0 : x.w = 0
    · simp [c60_l0b, hw, hlt, Rc.enc, e, h0, -List.any_eq_true]
    · simp [c60_l0b, hw, hlt, Rc.enc, e, h0, ih, -List.any_eq_true]
theorem S60 (l : List Rc) (h : (l.length : Int) < 9223372036854775807) : fn P 60 [.slice (l.map Rc.enc)] = some (.bool (l.any Rc.opn)) := by
  have hl := L60 (P := P) l [] (by simpa using h)
  simp [-List.any_eq_true] at hl
  rw [u60]
  cases h0 : l.any Rc.opn <;> rw [h0] at hl <;> simp [c60, hl]

theorem L169 : ∀ (l pre : List Rc), ((pre ++ l).length : Int) < 9223372036854775807 →
    ∃ k : Nat, execS P (limS P) c169_l0 ⟨[.c (.slice ((pre ++ l).map Rc.enc)), .c (.func 152 [] []), .c (ci (pre ++ l).length), .c (ci pre.length)], []⟩ = if l.any Rc.opn then some (.ret, ⟨[.c (ci k)], []⟩) else some (.exit 0, ⟨[], []⟩) := by
  intro l
  induction l with
  | nil =>
    intro pre h
    refine ⟨0, ?_⟩
    rw [r169_l0]
    simp [c169_l0b]
  | cons x r ih =>
    intro pre h
    obtain ⟨k, ih⟩ := ih (pre ++ [x]) (by simpa using h)
    have es := S152 (P := P) x
    simp [Rc.enc, -List.any_eq_true] at ih h es
    have hw : IntKind.i64.wrap (↑pre.length + 1) = ↑pre.length + 1 := wrap64 (by omega) (by omega)
    have hlt : (pre.length : Int) < pre.length + (r.length + 1) := by omega
    cases h0 : x.opn
    · refine ⟨k, ?_⟩
      rw [h0] at es
      rw [r169_l0]
      simp [c169_l0b, hw, hlt, Rc.enc, es, h0, ih, -List.any_eq_true]
    · refine ⟨pre.length, ?_⟩
      rw [h0] at es
      rw [r169_l0]
      simp [c169_l0b, hw, hlt, Rc.enc, es, h0, -List.any_eq_true]
theorem S119 (l : List Rc) (h : (l.length : Int) < 9223372036854775807) : fn P 119 [.slice (l.map Rc.enc)] = some (.bool (l.any Rc.opn)) := by
  obtain ⟨k, hl⟩ := L169 (P := P) l [] (by simpa using h)
  simp [-List.any_eq_true] at hl
  have e169 : fn P 169 [.slice (l.map Rc.enc), .func 152 [] []] = some (ci (if l.any Rc.opn then (k : Int) else -1)) := by
    rw [u169]
    cases h0 : l.any Rc.opn <;> rw [h0] at hl <;> simp [c169, hl]
  have e151 : fn P 151 [.slice (l.map Rc.enc), .func 152 [] []] = some (.bool (l.any Rc.opn)) := by
    rw [u151]
    cases h0 : l.any Rc.opn <;> rw [h0] at e169 <;> simp [c151, e169]
  rw [u119]
  simp [c119, e151]

theorem L61 : ∀ (r pre : List Rc) (ys : List Str), ys.length = pre.length → ((pre ++ r).length : Int) < 1000 →
    execS P (limS P) c61_l0 ⟨[.c (.slice ((pre ++ r).map Rc.enc)), .slice 1 (1 + ys.length) 0 ys.length none none, .c (ci pre.length)], [.cells 1 [] 0, SB ys]⟩ = some (.exit 0, ⟨[.slice 1 (1 + (ys ++ r.map winR).length) 0 (ys ++ r.map winR).length none none], [.cells 1 [] 0, SB (ys ++ r.map winR)]⟩) := by
  intro r
  induction r with
  | nil =>
    intro pre ys _ h
    rw [r61_l0]
    simp [c61_l0b]
  | cons x r ih =>
    intro pre ys hy h
    have ih := ih (pre ++ [x]) (ys ++ [winR x]) (by simp [hy]) (by simpa using h)
    have ha := append_own (b := 1) (g := 1 + ys.length) (bytes := 16) (e := none) (ys := ys.map CV.str) (xs := [.str (winR x)]) (h := [.cells 1 [] 0, SB ys]) (len := ys.length) (fz := 0) rfl (strElems _) (by simpa using strElem (winR x)) (by simp) (Nat.zero_le _) (by simp) (by simp at h ⊢; omega) (by simp at h ⊢; omega)
    have eS : LB.cells (1 + ys.length + 1) (cellsOf (ys.map CV.str ++ [CV.str (winR x)])) 0 = SB (ys ++ [winR x]) := by simp [SB, Nat.add_assoc]
    have es := S122 (P := P) x
    simp [Rc.enc] at ih h es
    simp at ha
    rw [eS] at ha
    have hw : IntKind.i64.wrap (↑pre.length + 1) = ↑pre.length + 1 := wrap64 (by omega) (by omega)
    have hlt : (pre.length : Int) < pre.length + (r.length + 1) := by omega
    have e1 : 1 + (ys.length + 1) = 1 + ys.length + 1 := by omega
    rw [e1] at ih
    have hu2 := SB_under 2 (ys ++ [winR x])
    unfold LB.under at hu2
    rw [r61_l0]
    simp [c61_l0b, hw, hlt, Rc.enc, es, ha, hu2, ih]
theorem L120 : ∀ (r pre : List Rc) (ys : List Str), ys.length = pre.length → ((pre ++ r).length : Int) < 1000 →
    execS P (limS P) c120_l0 ⟨[.slice 1 (1 + ys.length) 0 ys.length none none, .c (.slice ((pre ++ r).map Rc.enc)), .c (ci (pre ++ r).length), .c (ci pre.length)], [.cells 1 [] 0, SB ys]⟩ = some (.exit 0, ⟨[.slice 1 (1 + (ys ++ r.map winR).length) 0 (ys ++ r.map winR).length none none], [.cells 1 [] 0, SB (ys ++ r.map winR)]⟩) := by
  intro r
  induction r with
  | nil =>
    intro pre ys _ h
    rw [r120_l0]
    simp [c120_l0b]
  | cons x r ih =>
    intro pre ys hy h
    have ih := ih (pre ++ [x]) (ys ++ [winR x]) (by simp [hy]) (by simpa using h)
    have ha := append_own (b := 1) (g := 1 + ys.length) (bytes := 16) (e := none) (ys := ys.map CV.str) (xs := [.str (winR x)]) (h := [.cells 1 [] 0, SB ys, .cells 0 [.c (.str x.a), .c (.str x.b), .c (ci x.w)] 0]) (len := ys.length) (fz := 0) rfl (strElems _) (by simpa using strElem (winR x)) (by simp) (Nat.zero_le _) (by simp) (by simp at h ⊢; omega) (by simp at h ⊢; omega)
    have eS : LB.cells (1 + ys.length + 1) (cellsOf (ys.map CV.str ++ [CV.str (winR x)])) 0 = SB (ys ++ [winR x]) := by simp [SB, Nat.add_assoc]
    have es := S126 (P := P) x
    simp [Rc.enc] at ih h es
    simp at ha
    rw [eS] at ha
    have hw : IntKind.i64.wrap (↑pre.length + 1) = ↑pre.length + 1 := wrap64 (by omega) (by omega)
    have hlt : (pre.length : Int) < pre.length + (r.length + 1) := by omega
    have e1 : 1 + (ys.length + 1) = 1 + ys.length + 1 := by omega
    rw [e1] at ih
    have hu2 := SB_under 2 (ys ++ [winR x])
    unfold LB.under at hu2
    rw [r120_l0]
    simp [c120_l0b, hw, hlt, Rc.enc, es, ha, hu2, ih]
theorem S61 (l : List Rc) (h : l.length < 500) : fn P 61 [.slice (l.map Rc.enc)] = some (.slice ((nextL l).map Rc.enc)) := by
  have hL := L61 (P := P) l [] [] rfl (by simp; omega)
  have e0 : SB [] = .cells 1 [] 0 := rfl
  have e115 := S115 (P := P) (l.map winR) (by simpa using h)
  have hf := frz_own (b := 1) (g := 1 + (l.map winR).length) (fz := 0) (e := none) (ys := (l.map winR).map CV.str) (h := [.cells 1 [] 0, SB (l.map winR)]) (len := (l.map winR).length) rfl (strElems _) (by simp) none
  unfold nextL
  generalize l.map winR = W at *
  simp [e0] at hL
  simp [-frz_slice] at hf
  rw [u61]
  simp [c61, hL, hf, e115, -frz_slice]
theorem S120 (l : List Rc) (h : l.length < 500) : fn P 120 [.slice (l.map Rc.enc)] = some (.slice ((nextL l).map Rc.enc)) := by
  have hL := L120 (P := P) l [] [] rfl (by simp; omega)
  have e0 : SB [] = .cells 1 [] 0 := rfl
  have e114 := S114 (P := P) (l.map winR) (by simpa using h)
  have hf := frz_own (b := 1) (g := 1 + (l.map winR).length) (fz := 0) (e := none) (ys := (l.map winR).map CV.str) (h := [.cells 1 [] 0, SB (l.map winR)]) (len := (l.map winR).length) rfl (strElems _) (by simp) none
  unfold nextL
  generalize l.map winR = W at *
  simp [e0] at hL
  simp [-frz_slice] at hf
  rw [u120]
  simp [c120, hL, hf, e114, -frz_slice]
end LM.G6

namespace LM.G6
open Go LM
variable {P : Nat → Option SFunc} [Has P]

def nextE (l : List Rc) : Int := firstE [racesE l, whenE ((l.length : Int) == 1) 20, whenE (l.any Rc.opn) 24]
def smallE (l : List Rc) : Int := firstE [racesE l, whenE ((l.length : Int) != 2) 2, whenE (l.any Rc.opn) 24]
def zeroR : Rc := ⟨[], [], 0⟩
def smallL (l : List Rc) : Rc := decR (losR (l.getD 0 zeroR)) (losR (l.getD 1 zeroR))
theorem racesE_len {l : List Rc} (h : racesE l = 0) : l.length ≤ 32 := by
  unfold racesE at h
  split at h
  · omega
  · cases h

theorem len_two {α : Type} {l : List α} (h : l.length = 2) : ∃ x y, l = [x, y] := by
  rcases l with _ | ⟨x, _ | ⟨y, _ | ⟨z, r⟩⟩⟩
  · simp at h
  · simp at h
  · exact ⟨x, y, rfl⟩
  · simp at h

theorem S58 (T : Tabs P) (l : List Rc) (h : (l.length : Int) < 9223372036854775807) (hx : ∀ x ∈ l, x.a.length < 9223372036854775807 ∧ x.b.length < 9223372036854775807) : fn P 58 [.slice (l.map Rc.enc)] = some (.tuple (if nextE l = 0 then [.slice ((nextL l).map Rc.enc), ci 0] else [.slice [], ci (nextE l)])) := by
  have e57 := S57 (P := P) T l h hx
  have e119 := S119 (P := P) l h
  rw [u58]
  by_cases h0 : nextE l = 0
  · rw [if_pos h0]
    have h1 := h0
    unfold nextE at h0 h1
    simp only [firstE_zB] at h1
    have hl := racesE_len h1.1
    have e120 := S120 (P := P) l (by omega)
    simp [c58, e57, e119, h0, e120, -List.any_eq_true]
  · rw [if_neg h0]
    unfold nextE at h0 ⊢
    simp [c58, e57, e119, h0, -List.any_eq_true]

theorem S59 (T : Tabs P) (l : List Rc) (h : (l.length : Int) < 9223372036854775807) (hx : ∀ x ∈ l, x.a.length < 9223372036854775807 ∧ x.b.length < 9223372036854775807) : fn P 59 [.slice (l.map Rc.enc)] = some (.tuple (if smallE l = 0 then [(smallL l).enc, ci 0] else [zeroR.enc, ci (smallE l)])) := by
  have e57 := S57 (P := P) T l h hx
  have e119 := S119 (P := P) l h
  rw [u59]
  by_cases h0 : smallE l = 0
  · rw [if_pos h0]
    have h1 := h0
    unfold smallE at h1
    simp only [firstE_zB, whenE_z (show (2 : Int) ≠ 0 by decide), bne_eq_false_iff_eq] at h1
    have h2 : l.length = 2 := by omega
    obtain ⟨x, y, rfl⟩ := len_two h2
    have ex := S121 (P := P) x
    have ey := S121 (P := P) y
    unfold smallE at h0
    simp [Rc.enc] at h0 ex ey e57 e119
    simp [c59, e57, e119, h0, ex, ey, Rc.enc, smallL, decR]
    all_goals rfl
  · rw [if_neg h0]
    unfold smallE at h0 ⊢
    simp [c59, e57, e119, h0, zeroR, Rc.enc]
    all_goals rfl

theorem S62 (x y : Rc) : fn P 62 [.slice ([x, y].map Rc.enc)] = some (decR (losR x) (losR y)).enc := by
  have ex := S123 (P := P) x
  have ey := S123 (P := P) y
  have e115 := S115 (P := P) [losR x, losR y] (by simp)
  rw [u62]
  simp [Rc.enc, pairsL] at ex ey e115
  simp [c62, ex, ey, e115, Rc.enc, decR]
  all_goals rfl

def Rc.short (r : Rc) : Bool := decide (r.a.length ≤ 40) && decide (r.b.length ≤ 40)
theorem L55 : ∀ (r pre : List Rc), ((pre ++ r).length : Int) < 9223372036854775807 →
    execS P (limS P) c55_l0 ⟨[.c (.slice ((pre ++ r).map Rc.enc)), .c (ci pre.length)], []⟩ = if r.all Rc.short then some (.exit 0, ⟨[], []⟩) else some (.ret, ⟨[.c (.bool false)], []⟩) := by
  intro r
  induction r with
  | nil =>
    intro pre h
    rw [r55_l0]
    simp [c55_l0b]
  | cons x r ih =>
    intro pre h
    have ih := ih (pre ++ [x]) (by simpa using h)
    simp [Rc.enc, -List.all_eq_true] at ih h
    have hw : IntKind.i64.wrap (↑pre.length + 1) = ↑pre.length + 1 := wrap64 (by omega) (by omega)
    have hlt : (pre.length : Int) < pre.length + (r.length + 1) := by omega
    have e : x.short = (decide (x.a.length ≤ 40) && decide (x.b.length ≤ 40)) := rfl
    have q1 : (40 : Int) < x.a.length ↔ ¬ x.a.length ≤ 40 := by omega
    have q2 : (40 : Int) < x.b.length ↔ ¬ x.b.length ≤ 40 := by omega
    rw [r55_l0]
    by_cases h1 : x.a.length ≤ 40 <;> by_cases h2 : x.b.length ≤ 40 <;> simp [c55_l0b, hw, hlt, Rc.enc, e, q1, q2, h1, h2, ih, -List.all_eq_true, -Nat.not_le]
theorem S55 (l : List Rc) (h : (l.length : Int) < 9223372036854775807) : fn P 55 [.slice (l.map Rc.enc)] = some (.bool (decide ((l.length : Int) ≤ 34) && l.all Rc.short)) := by
  have hl := L55 (P := P) l [] (by simpa using h)
  simp [-List.all_eq_true] at hl
  rw [u55]
  by_cases h1 : (34 : Int) < l.length
  · have : ¬ (l.length : Int) ≤ 34 := by omega
    simp [c55, h1, this]
  · have : (l.length : Int) ≤ 34 := by omega
    cases h0 : l.all Rc.short <;> rw [h0] at hl <;> simp [c55, h1, this, hl]

theorem L54 : ∀ (l pre : List Rc), (pre ++ l).length * 40 ≤ 2 ^ 47 →
    execS P (limS P) c54_l0 ⟨[.c (.slice ((pre ++ l).map Rc.enc)), .slice 1 (1 + pre.length) 0 pre.length (some 3) none, .c (ci pre.length)], [.cells 1 [] 0, .cells (1 + pre.length) (cellsOf (pre.map Rc.enc)) 0]⟩ =
      some (.exit 0, ⟨[.slice 1 (1 + (pre ++ l).length) 0 (pre ++ l).length (some 3) none], [.cells 1 [] 0, .cells (1 + (pre ++ l).length) (cellsOf ((pre ++ l).map Rc.enc)) 0]⟩) := by
  intro l
  induction l with
  | nil =>
    intro pre h
    rw [r54_l0]
    simp [c54_l0b]
  | cons c r ih =>
    intro pre h
    have ih := ih (pre ++ [c]) (by simpa using h)
    have ha := append_own (b := 1) (g := 1 + pre.length) (bytes := 40) (e := some 3) (ys := pre.map Rc.enc) (xs := [c.enc]) (h := [.cells 1 [] 0, .cells (1 + pre.length) (cellsOf (pre.map Rc.enc)) 0]) (len := pre.length) (fz := 0) rfl (Rc.elems _) (by simpa using c.elem) (by simp) (Nat.zero_le _) (by simp) (by simp at h ⊢; omega) (by simp at h ⊢; omega)
    simp at h
    simp [Rc.enc] at ih ha
    have hw : IntKind.i64.wrap (↑pre.length + 1) = ↑pre.length + 1 := wrap64 (by omega) (by omega)
    have hlt : (pre.length : Int) < pre.length + (r.length + 1) := by omega
    have e1 : 1 + (pre.length + 1) = 1 + pre.length + 1 := by omega
    rw [r54_l0]
    rw [e1] at ih
    simp [c54_l0b, Rc.enc, hw, hlt, ha, ih]
theorem S54 (l : List Rc) (h : l.length * 40 ≤ 2 ^ 47) : fn P 54 [.slice (l.map Rc.enc)] = some (.slice (l.map Rc.enc)) := by
  rw [u54]
  have := L54 (P := P) l [] (by simpa using h)
  have hf := frz_own (b := 1) (g := 1 + l.length) (fz := 0) (e := some 3) (ys := l.map Rc.enc) (h := [.cells 1 [] 0, .cells (1 + l.length) (cellsOf (l.map Rc.enc)) 0]) (len := l.length) rfl (Rc.elems _) (by simp) none
  simp at this
  simp [c54, this, resV, hf, -frz_slice]
end LM.G6

namespace LM.G6
open Go LM
variable {P : Nat → Option SFunc} [Has P] [HasP P]

theorem nextL_len (l : List Rc) : (nextL l).length ≤ l.length := by
  have : ∀ l : List Str, (pairsL l).length ≤ l.length := by
    intro l
    induction l using pairsL.induct with
    | case1 a b r ih => simp [pairsL]; omega
    | case2 l h => cases l with
      | nil => simp [pairsL]
      | cons a r => cases r with
        | nil => simp [pairsL]
        | cons b r => exact absurd rfl (h a b r)
  have h := this (l.map winR)
  simpa [nextL] using h

theorem S7 (h16 : fn P 16 [] = some (.bool true)) (T : Tabs P) (l : List Rc) (hl : l.length * 40 ≤ 2 ^ 47) (hx : ∀ x ∈ l, x.a.length < 9223372036854775807 ∧ x.b.length < 9223372036854775807) : fn P 7 [.slice (l.map Rc.enc)] = some (.bool true) := by
  have hl' : (l.length : Int) < 9223372036854775807 := by omega
  have e54 := S54 (P := P) l hl
  have e55 := S55 (P := P) l hl'
  have e56 := S56 (P := P) l hl'
  have e57 := S57 (P := P) T l hl' hx
  have e58 := S58 (P := P) T l hl' hx
  have e59 := S59 (P := P) T l hl' hx
  have e60 := S60 (P := P) l hl'
  have r1 : firstE [racesE l, whenE ((l.length : Int) == 1) 20, whenE (l.any Rc.opn) 24] = nextE l := rfl
  have r2 : firstE [racesE l, whenE ((l.length : Int) != 2) 2, whenE (l.any Rc.opn) 24] = smallE l := rfl
  rw [u7]
  cases g : (decide ((l.length : Int) ≤ 34) && l.all Rc.short)
  · rw [g] at e55
    simp [c7, h16, e54, e55]
  · rw [g] at e55
    by_cases h1 : nextE l = 0
    · have e61 := S61 (P := P) l (by simp at g; omega)
      have e52 := S52_ok (P := P) (nextL l) (by have := nextL_len l; simp at g; omega)
      rw [if_pos h1] at e58
      rw [h1] at r1
      by_cases h2 : smallE l = 0
      · have h2' := h2
        unfold smallE at h2'
        simp only [firstE_zB, whenE_z (show (2 : Int) ≠ 0 by decide), bne_eq_false_iff_eq] at h2'
        have e62 : fn P 62 [.slice (l.map Rc.enc)] = some (smallL l).enc := by
          obtain ⟨x, y, rfl⟩ := len_two (l := l) (by omega)
          exact S62 (P := P) x y
        rw [if_pos h2] at e59
        rw [h2] at r2
        generalize smallL l = z at e59 e62
        have hk : eqK (.many [1, 1, 0]) z.enc z.enc = some true := by simp [Rc.enc, eqK, keyOk, kindsOk, kindOf, eqCells, eqS]
        simp [Rc.enc] at e59 e62 hk
        simp [c7, h16, e54, e55, e56, e57, e58, e59, e60, e61, r1, r2, e52, e62, hk]
      · rw [if_neg h2] at e59
        have hk : eqK (.many [1, 1, 0]) (CV.agg [.str [], .str [], ci 0]) (CV.agg [.str [], .str [], ci 0]) = some true := by simp [eqK, keyOk, kindsOk, kindOf, eqCells, eqS]
        simp [zeroR, Rc.enc] at e59
        simp [c7, h16, Rc.enc, e54, e55, e56, e57, e58, e59, e60, e61, r1, r2, h2, e52, hk]
    · have e52 := S52_bad (P := P) (nextE l) [] h1
      rw [if_neg h1] at e58
      by_cases h2 : smallE l = 0
      · have h2' := h2
        unfold smallE at h2'
        simp only [firstE_zB, whenE_z (show (2 : Int) ≠ 0 by decide), bne_eq_false_iff_eq] at h2'
        exfalso
        apply h1
        unfold nextE
        simp only [firstE_zB, whenE_z (show (20 : Int) ≠ 0 by decide)]
        exact ⟨h2'.1, by simp; omega, h2'.2.2⟩
      · rw [if_neg h2] at e59
        have hk : eqK (.many [1, 1, 0]) (CV.agg [.str [], .str [], ci 0]) (CV.agg [.str [], .str [], ci 0]) = some true := by simp [eqK, keyOk, kindsOk, kindOf, eqCells, eqS]
        simp [zeroR, Rc.enc] at e59
        simp [c7, h16, Rc.enc, e54, e55, e56, e57, e58, e59, e60, r1, r2, h1, h2, e52, hk]
end LM.G6

