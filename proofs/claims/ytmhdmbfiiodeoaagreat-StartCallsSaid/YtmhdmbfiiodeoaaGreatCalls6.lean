/- Part 9 of what YtmhdmbfiiodeoaaGreatCalls leans on. -/
import Derived.Test.YtmhdmbfiiodeoaaGreatRows
import Derived.WalkKit
import Derived.ProofKit
import Derived.SizedLaws
import Derived.Test.YtmhdmbfiiodeoaaGreatLib1
import Derived.Test.YtmhdmbfiiodeoaaGreatLib2
import Derived.Test.YtmhdmbfiiodeoaaGreatLib3
import Derived.Test.YtmhdmbfiiodeoaaGreatCalls1
import Derived.Test.YtmhdmbfiiodeoaaGreatCalls2
import Derived.Test.YtmhdmbfiiodeoaaGreatCalls3
import Derived.Test.YtmhdmbfiiodeoaaGreatCalls4
import Derived.Test.YtmhdmbfiiodeoaaGreatCalls5
set_option linter.all false
namespace Go.Proofs.YtmhdmbfiiodeoaaGreat
open Go.ChangeShapes Go.WideShapes Go.ChangeAt Go.RowKit

theorem own_knob : ownKnob Tryz.prog.godebug = none := by kernel_rfl
theorem laid_out : laidOutB Tryz.prog = true := by kernel_rfl
theorem maps_rowed : mapsRowed Tryz.prog = true := by kernel_rfl
theorem slices_full : LM.slicesFullB Tryz.prog = true := by kernel_rfl

theorem typed_map {α : Type} {enc : α → LM.CV} {p : α → Prop} {e : LM.CTy} (h : ∀ x, LM.Typed e x → ∃ a, x = enc a ∧ p a) : ∀ {xs : List LM.CV}, (∀ x ∈ xs, LM.Typed e x) → ∃ l : List α, xs = l.map enc ∧ ∀ a ∈ l, p a
  | [], _ => ⟨[], rfl, by simp⟩
  | x :: xs, hx => by
    obtain ⟨a, ha, hp⟩ := h x (hx x (by simp))
    obtain ⟨l, hl, hq⟩ := typed_map h (xs := xs) fun y hy => hx y (by simp [hy])
    exact ⟨a :: l, by rw [ha, hl]; rfl, fun b hb => by rcases List.mem_cons.1 hb with rfl | hb; exact hp; exact hq b hb⟩

theorem typed_slice {α : Type} {enc : α → LM.CV} {p : α → Prop} {e : LM.CTy} {b : Nat} (h : ∀ x, LM.Typed e x → ∃ a, x = enc a ∧ p a) {v : LM.CV} (hv : LM.Typed (.slice b e) v) : ∃ l : List α, v = .slice (l.map enc) ∧ (∀ a ∈ l, p a) ∧ l.length * b ≤ 2 ^ 47 := by
  simp only [LM.Typed] at hv
  obtain ⟨xs, rfl, _, hb, hx⟩ := hv
  obtain ⟨l, rfl, hp⟩ := typed_map h hx
  refine ⟨l, rfl, hp, ?_⟩
  rw [List.length_map] at hb
  exact Nat.le_trans hb (by decide)

theorem typed_str {v : LM.CV} (hv : LM.Typed .str v) : ∃ s : LM.Str, v = .str s ∧ s.length < 9223372036854775807 := by
  simp only [LM.Typed] at hv
  obtain ⟨s, rfl, h⟩ := hv
  exact ⟨s, rfl, Nat.lt_of_le_of_lt h (by decide)⟩

theorem typed_int {v : LM.CV} (hv : LM.Typed (.int .i64) v) : ∃ n, v = LM.ci n ∧ -9223372036854775808 ≤ n ∧ n ≤ 9223372036854775807 := by
  simp only [LM.Typed] at hv
  obtain ⟨n, rfl, h⟩ := hv
  refine ⟨n, rfl, ?_⟩
  simp [Lit.wf, IntKind.min, IntKind.max, IntKind.bits, IntKind.signed] at h
  omega

end Go.Proofs.YtmhdmbfiiodeoaaGreat

namespace LM.G6
open Go LM
variable {P : Nat → Option SFunc} [Has P]

@[simp] theorem S89 (b : Bool) (e : Int) : fn P 89 [.bool b, ci e] = some (ci (whenE b e)) := by
  rw [u89]; cases b <;> simp [c89, whenE]

@[simp] theorem S141 (c : Nat) : fn P 141 [.int .i32 c] = some (.bool (letterN c)) := by
  rw [u141]; simp [c141, letterN]
  rw [show decide ((97 : Int) ≤ c) = decide (97 ≤ c) from decide_eq_decide.2 (by omega), show decide ((c : Int) ≤ 122) = decide (c ≤ 122) from decide_eq_decide.2 (by omega),
    show decide ((65 : Int) ≤ c) = decide (65 ≤ c) from decide_eq_decide.2 (by omega), show decide ((c : Int) ≤ 90) = decide (c ≤ 90) from decide_eq_decide.2 (by omega)]

theorem L88 : ∀ (l pre : List Int), (l.length : Int) + pre.length < 9223372036854775807 → execS P (limS P) c88_l0 ⟨[.c (.slice ((pre ++ l).map ci)), .c (ci (pre ++ l).length), .c (ci pre.length)], []⟩ = if firstE l = 0 then some (.exit 0, ⟨[], []⟩) else some (.ret, ⟨[.c (ci (firstE l))], []⟩) := by
  intro l
  induction l with
  | nil =>
    intro pre h
    rw [r88_l0]
    simp [c88_l0b, firstE]
  | cons c r ih =>
    intro pre h
    have ih := ih (pre ++ [c]) (by simp at h ⊢; omega)
    simp at ih h
    have hw : IntKind.i64.wrap (↑pre.length + 1) = ↑pre.length + 1 := wrap64 (by omega) (by omega)
    have hlt : (pre.length : Int) < pre.length + (r.length + 1) := by omega
    rw [r88_l0]
    by_cases hc : c = 0
    · subst hc
      simp [c88_l0b, firstE, hw, hlt, ih]
    · simp [c88_l0b, firstE, hw, hlt, hc]

@[simp] theorem S88 (l : List Int) (h : l.length < 9223372036854775807) : fn P 88 [.slice (l.map ci)] = some (ci (firstE l)) := by
  have := L88 (P := P) l [] (by simp; omega)
  rw [u88]
  simp at this
  simp [c88, this]
  by_cases hc : firstE l = 0 <;> simp [hc]

@[simp] theorem S88_1 (a : Int) : fn P 88 [.slice [ci a]] = some (ci (firstE [a])) := S88 [a] (by simp)
@[simp] theorem S88_2 (a b : Int) : fn P 88 [.slice [ci a, ci b]] = some (ci (firstE [a, b])) := S88 [a, b] (by simp)
@[simp] theorem S88_3 (a b c : Int) : fn P 88 [.slice [ci a, ci b, ci c]] = some (ci (firstE [a, b, c])) := S88 [a, b, c] (by simp)
@[simp] theorem S88_4 (a b c d : Int) : fn P 88 [.slice [ci a, ci b, ci c, ci d]] = some (ci (firstE [a, b, c, d])) := S88 [a, b, c, d] (by simp)
@[simp] theorem S88_5 (a b c d e : Int) : fn P 88 [.slice [ci a, ci b, ci c, ci d, ci e]] = some (ci (firstE [a, b, c, d, e])) := S88 [a, b, c, d, e] (by simp)

theorem L22 : ∀ (l pre : List Int), (l.length : Int) + pre.length < 9223372036854775807 → execS P (limS P) c22_l0 ⟨[.c (.slice ((pre ++ l).map ci)), .c (ci pre.length)], []⟩ = if firstE l = 0 then some (.exit 0, ⟨[], []⟩) else some (.ret, ⟨[.c (ci (firstE l))], []⟩) := by
  intro l
  induction l with
  | nil =>
    intro pre h
    rw [r22_l0]
    simp [c22_l0b, firstE]
  | cons c r ih =>
    intro pre h
    have ih := ih (pre ++ [c]) (by simp at h ⊢; omega)
    simp at ih h
    have hw : IntKind.i64.wrap (↑pre.length + 1) = ↑pre.length + 1 := wrap64 (by omega) (by omega)
    have hlt : (pre.length : Int) < pre.length + (r.length + 1) := by omega
    rw [r22_l0]
    by_cases hc : c = 0
    · subst hc
      simp [c22_l0b, firstE, hw, hlt, ih]
    · simp [c22_l0b, firstE, hw, hlt, hc]

@[simp] theorem S22 (l : List Int) (h : l.length < 9223372036854775807) : fn P 22 [.slice (l.map ci)] = some (ci (firstE l)) := by
  have := L22 (P := P) l [] (by simp; omega)
  rw [u22]
  simp at this
  simp [c22, this]
  by_cases hc : firstE l = 0 <;> simp [hc]

@[simp] theorem S22_2 (a b : Int) : fn P 22 [.slice [ci a, ci b]] = some (ci (firstE [a, b])) := S22 [a, b] (by simp)
@[simp] theorem S22_3 (a b c : Int) : fn P 22 [.slice [ci a, ci b, ci c]] = some (ci (firstE [a, b, c])) := S22 [a, b, c] (by simp)
@[simp] theorem S22_4 (a b c d : Int) : fn P 22 [.slice [ci a, ci b, ci c, ci d]] = some (ci (firstE [a, b, c, d])) := S22 [a, b, c, d] (by simp)

theorem L85 (s : Str) (hs : s.length ≤ 24) : ∀ (l pre : Str), s = pre ++ l → execS P (limS P) c85_l0 ⟨[.c (.str s), .c (ci pre.length)], []⟩ = if nameFrom pre.length l then some (.exit 0, ⟨[], []⟩) else some (.ret, ⟨[.c (.bool false)], []⟩) := by
  intro l
  induction l with
  | nil =>
    intro pre h
    rw [r85_l0]
    simp [c85_l0b, h, nameFrom]
  | cons c r ih =>
    intro pre h
    have ih := ih (pre ++ [c]) (by simp [h])
    simp at ih
    rw [h] at hs
    simp at hs
    have hw : IntKind.i64.wrap (↑pre.length + 1) = ↑pre.length + 1 := wrap64 (by omega) (by omega)
    have hlt : (pre.length : Int) < pre.length + (r.length + 1) := by omega
    have hn : (((↑c.toNat : Int) < 97 ∨ 122 < (↑c.toNat : Int)) ∧ ((↑c.toNat : Int) < 65 ∨ 90 < (↑c.toNat : Int))) ∧ (pre = [] ∨ ((↑c.toNat : Int) < 48 ∨ 57 < (↑c.toNat : Int)) ∧ ¬(↑c.toNat : Int) = 95) ↔ nameN pre.length c.toNat = false := by
      have hp : pre = [] ↔ pre.length = 0 := by simp
      unfold nameN letterN digitN
      cases pre with
      | nil => simp; omega
      | cons x y => simp; omega
    rw [r85_l0]
    simp [c85_l0b, h, nameFrom, hw, hlt, hn]
    rw [← h, ih]
    cases nameN pre.length c.toNat <;> simp

@[simp] theorem S85 (s : Str) : fn P 85 [.str s] = some (.bool (isName s)) := by
  rw [u85]
  by_cases h1 : s.length < 1
  · have : s = [] := List.eq_nil_of_length_eq_zero (by omega)
    subst this
    simp [c85, isName]
  · by_cases h2 : s.length > 24
    · have h3 : ¬ (s.length : Int) < 1 := by omega
      have h4 : (24 : Int) < (s.length : Int) := by omega
      have h5 : ¬ s.length ≤ 24 := by omega
      simp [c85, isName, h3, h4, h5]
    · have := L85 (P := P) s (by omega) s [] rfl
      simp at this
      have h3 : ¬ (s.length : Int) < 1 := by omega
      have h4 : ¬ (24 : Int) < (s.length : Int) := by omega
      have h5 : s.length ≤ 24 := by omega
      have h6 : 1 ≤ s.length := by omega
      simp [c85, isName, h3, h4, h5, h6, this]
      cases nameFrom 0 s <;> simp

theorem L90 (s : Str) (hs : s.length < 9223372036854775807) : ∀ (l pre : Str), s = pre ++ l → ∃ q, execS P (limS P) c90_l0 ⟨[.c (.str s), .ptr 0 0 0], [.iter s pre.length]⟩ = if nameFrom pre.length l then some (.exit 0, ⟨[.c (.str s)], [.iter s s.length]⟩) else some (.ret, ⟨[.c (.bool false)], [.iter s q]⟩) := by
  intro l
  induction l with
  | nil =>
    intro pre h
    refine ⟨0, ?_⟩
    rw [r90_l0]
    simp [c90_l0b, h, nameFrom]
  | cons c r ih =>
    intro pre h
    obtain ⟨q, ih⟩ := ih (pre ++ [c]) (by simp [h])
    simp at ih
    have hc : s[pre.length]? = some c := by simp [h]
    rw [r90_l0]
    rcases Nat.lt_or_ge c.toNat 128 with hlo | hhi
    · have hd := decode_lo hc hlo
      rw [h] at hd
      have hn : (letterN c.toNat = false ∧ (pre = [] ∨ ¬(↑c.toNat : Int) = 95 ∧ ((↑c.toNat : Int) < 48 ∨ 57 < (↑c.toNat : Int)))) ↔ nameN pre.length c.toNat = false := by
        unfold nameN digitN
        cases pre with
        | nil => simp
        | cons x y => simp; cases letterN c.toNat <;> simp; omega
      refine ⟨if nameN pre.length c.toNat = false then pre.length + 1 else q, ?_⟩
      simp [c90_l0b, h, nameFrom, hd, hn]
      rw [h] at ih
      simp at ih
      cases nameN pre.length c.toNat <;> simp [ih]
    · have hd := decode_hi hc hhi
      rw [h] at hd
      have hl : letterN (Utf8.decode { data := List.toArray (pre ++ c :: r) } pre.length).fst = false := by
        have := nameN_hi (i := 0) hd
        simpa [nameN] using this
      have h1 : ¬ (↑(Utf8.decode { data := List.toArray (pre ++ c :: r) } pre.length).fst : Int) = 95 := by omega
      have h2 : (57 : Int) < (↑(Utf8.decode { data := List.toArray (pre ++ c :: r) } pre.length).fst : Int) := by omega
      refine ⟨pre.length + (Utf8.decode { data := List.toArray (pre ++ c :: r) } pre.length).snd, ?_⟩
      simp [c90_l0b, h, nameFrom, hl, h1, h2, nameN_hi hhi]

@[simp] theorem S90 (s : Str) (hs : s.length < 9223372036854775807) : fn P 90 [.str s] = some (.bool (isName s)) := by
  rw [u90]
  obtain ⟨q, this⟩ := L90 (P := P) s hs s [] rfl
  simp at this
  simp [c90, this]
  cases hn : nameFrom 0 s
  · simp [isName, hn]
  · cases s with
    | nil => simp [isName]
    | cons c r =>
      simp [isName, hn]
      omega

end LM.G6

namespace LM.G6
open Go LM
variable {P : Nat → Option SFunc} [Has P]

structure Lic where
  name : Str
  frm : Int
  to : Int
def Lic.enc (x : Lic) : CV := .agg [.str x.name, ci x.frm, ci x.to]
def Lic.ok (x : Lic) : Prop := x.name.length < 9223372036854775807

def checkLic (x : Lic) : Int := firstE [named x.name, dated x.frm, dated x.to, whenE (decide (x.frm > x.to)) 11]

/-- The first error of a list's elements. -/
def eachE {α : Type} (chk : List α → α → Int) : List α → List α → Int
  | _, [] => 0
  | pre, x :: r => if chk pre x ≠ 0 then chk pre x else eachE chk (pre ++ [x]) r

def checkLics (l : List Lic) : Int := if (l.length : Int) > 256 then 5 else eachE (fun _ => checkLic) [] l

end LM.G6

namespace LM.G6
open Go LM

/-- The number of the first element of a kind, or -1. -/
def idxF {α : Type} (p : α → Bool) : Nat → List α → Int
  | _, [] => -1
  | n, x :: r => if p x then n else idxF p (n + 1) r

theorem idxF_lt {α : Type} (p : α → Bool) : ∀ (l : List α) (n : Nat), (idxF p n l < 0) ↔ l.any p = false
  | [], n => by simp [idxF]
  | x :: r, n => by
    unfold idxF
    cases h : p x
    · simp [h, idxF_lt p r (n + 1)]
    · simp [h]

theorem idxF_none {α : Type} {p : α → Bool} : ∀ {l : List α} {n : Nat}, l.any p = false → idxF p n l = -1
  | [], n, _ => rfl
  | x :: r, n, h => by
    simp only [List.any_cons, Bool.or_eq_false_iff] at h
    rw [idxF, if_neg (by simp [h.1]), idxF_none h.2]

theorem idxF_dec {α : Type} (p : α → Bool) (l : List α) (n : Nat) : decide (0 ≤ idxF p n l) = l.any p := by
  have := idxF_lt p l n
  cases h : l.any p
  · have := this.2 h
    simp; omega
  · have : ¬ idxF p n l < 0 := fun q => by rw [this.1 q] at h; cases h
    simp; omega

end LM.G6

namespace LM.G6
open Go LM
variable {P : Nat → Option SFunc} [Has P]

def Str.is (s : Str) (x : Str) : Bool := x == s
theorem Str.is_eq (s x : Str) : Str.is s x = decide (x = s) := by unfold Str.is; by_cases h : x = s <;> simp [h]
theorem Str.is_eq' (s x : Str) : Str.is s x = decide (s = x) := by rw [Str.is_eq]; exact decide_eq_decide.2 eq_comm

theorem L148 (s : Str) : ∀ (l pre : List Str), ((pre ++ l).length : Int) < 9223372036854775807 →
    execS P (limS P) c148_l0 ⟨[.c (.slice ((pre ++ l).map CV.str)), .c (.str s), .c (ci (pre ++ l).length), .c (ci pre.length)], []⟩ = if l.any (Str.is s) then some (.ret, ⟨[.c (ci (idxF (Str.is s) pre.length l))], []⟩) else some (.exit 0, ⟨[], []⟩) := by
  intro l
  induction l with
  | nil =>
    intro pre h
    rw [r148_l0]
    simp [c148_l0b]
  | cons x r ih =>
    intro pre h
    have ih := ih (pre ++ [x]) (by simpa using h)
    simp at ih h
    have hw : IntKind.i64.wrap (↑pre.length + 1) = ↑pre.length + 1 := wrap64 (by omega) (by omega)
    have hlt : (pre.length : Int) < pre.length + (r.length + 1) := by omega
    have e := Str.is_eq' s x
    rw [r148_l0]
    by_cases h0 : s = x
    · simp only [h0, decide_true] at e
      simp [c148_l0b, hw, hlt, idxF, h0, e]
    · simp only [h0, decide_false] at e
      simp [c148_l0b, hw, hlt, idxF, h0, e, ih]

theorem S113 (s : Str) (l : List Str) (h : (l.length : Int) < 9223372036854775807) : fn P 113 [.slice (l.map CV.str), .str s] = some (.bool (l.any (Str.is s))) := by
  have hl := L148 (P := P) s l [] (by simpa using h)
  have h2 : fn P 148 [.slice (l.map CV.str), .str s] = some (ci (idxF (Str.is s) 0 l)) := by
    rw [u148]
    simp at hl
    simp [c148, hl]
    exact fun hx => (idxF_none (by simpa using hx)).symm
  rw [u113]
  simp [c113, h2, idxF_dec]

def once (pre : List Str) (s : Str) : Int := firstE [named s, whenE (pre.any (Str.is s)) 9]

def onceL (m : Int) (l : List Str) : Int := if (l.length : Int) > m then 5 else eachE once [] l

theorem L81 (s : Str) : ∀ (l pre : List Str), ((pre ++ l).length : Int) < 9223372036854775807 →
    execS P (limS P) c81_l0 ⟨[.c (.slice ((pre ++ l).map CV.str)), .c (.str s), .c (ci pre.length)], []⟩ = if l.any (Str.is s) then some (.ret, ⟨[.c (.bool true)], []⟩) else some (.exit 0, ⟨[], []⟩) := by
  intro l
  induction l with
  | nil =>
    intro pre h
    rw [r81_l0]
    simp [c81_l0b]
  | cons x r ih =>
    intro pre h
    have ih := ih (pre ++ [x]) (by simpa using h)
    simp at ih h
    have hw : IntKind.i64.wrap (↑pre.length + 1) = ↑pre.length + 1 := wrap64 (by omega) (by omega)
    have hlt : (pre.length : Int) < pre.length + (r.length + 1) := by omega
    have e := Str.is_eq s x
    rw [r81_l0]
    by_cases h0 : x = s
    · simp only [h0, decide_true] at e
      simp [c81_l0b, hw, hlt, h0, e]
    · simp only [h0, decide_false] at e
      simp [c81_l0b, hw, hlt, h0, e, ih]

theorem S81 (s : Str) (l : List Str) (h : (l.length : Int) < 9223372036854775807) : fn P 81 [.slice (l.map CV.str), .str s] = some (.bool (l.any (Str.is s))) := by
  have hl := L81 (P := P) s l [] (by simpa using h)
  simp [-List.any_eq_true] at hl
  rw [u81]
  cases h0 : l.any (Str.is s) <;> rw [h0] at hl <;> simp [c81, hl]

theorem once_eq (pre : List Str) (s : Str) : once pre s = if isName s = false then 8 else if pre.any (Str.is s) then 9 else 0 := by
  unfold once named whenE
  cases isName s <;> cases pre.any (Str.is s) <;> simp [firstE]

def shortS (s : Str) : Bool := decide (s.length ≤ 40)
def shortL (l : List Str) (n : Int) : Bool := l.all shortS && decide ((l.length : Int) ≤ n)
end LM.G6

namespace LM.G6
open Go LM
variable {P : Nat → Option SFunc} [Has P]

def cI (xs : List Int) : List LV := xs.map fun v => LV.c (ci v)
theorem cI_length (xs : List Int) : (cI xs).length = xs.length := by simp [cI]
theorem cI_get {xs : List Int} {i : Nat} (h : i < xs.length) : (cI xs)[i]'(by rw [cI_length]; exact h) = .c (ci (xs.getD i 0)) := by
  simp [cI, List.getD_eq_getElem?_getD, h]
theorem cI_set (xs : List Int) (i : Nat) (v : Int) : (cI xs).set i (.c (ci v)) = cI (xs.set i v) := by
  unfold cI
  rw [List.map_set]
theorem cellsOf_ints (xs : List Int) : cellsOf (xs.map ci) = cI xs := by
  induction xs with
  | nil => rfl
  | cons x r ih =>
    have : cellsOf ((x :: r).map ci) = .c (ci x) :: cellsOf (r.map ci) := rfl
    rw [this, ih]
    rfl
theorem intElems (l : List Int) : ∀ x ∈ l.map ci, Elem none x := by
  intro x hx
  obtain ⟨y, _, rfl⟩ := List.mem_map.1 hx
  exact ⟨rfl, rfl⟩
theorem under_cI (n : Nat) (xs : List Int) : underL n (cI xs) = true := by rw [← cellsOf_ints]; exact underL_cellsOf _ _

theorem shift_cI (n : Nat) : ∀ xs : List Int, shiftL n (cI xs) = cI xs
  | [] => rfl
  | x :: r => by
    have : cI (x :: r) = .c (ci x) :: cI r := rfl
    rw [this, shiftL, shift_cI n r]
    rfl

def sw (xs : List Int) (i k : Nat) : List Int := (xs.set i (xs.getD k 0)).set k (xs.getD i 0)
theorem sw_length (xs : List Int) (i k : Nat) : (sw xs i k).length = xs.length := by simp [sw]

def nextX (x : Int) : Int := (48271 * x).tmod 2147483647
def drawN (n : Nat) : Nat → Nat → Int → List Int → List Int
  | 0, _, _, xs => xs
  | m + 1, i, x, xs => drawN n m (i + 1) (nextX x) (sw xs i (i + ((nextX x).tmod ((n : Int) - i)).toNat))
def iota (n : Nat) : List Int := (List.range n).map fun (k : Nat) => (k : Int)
def drawL (key : Int) (n : Nat) : List Int := drawN n (n - 1) 0 key (iota n)
theorem iota_length (n : Nat) : (iota n).length = n := by simp [iota]
theorem drawN_length (n : Nat) : ∀ (m i : Nat) (x : Int) (xs : List Int), (drawN n m i x xs).length = xs.length
  | 0, _, _, _ => rfl
  | m + 1, i, x, xs => by rw [drawN, drawN_length, sw_length]
theorem drawL_length (key : Int) (n : Nat) : (drawL key n).length = n := by rw [drawL, drawN_length, iota_length]

theorem nextX_range {x : Int} (h0 : 0 ≤ x) (h1 : x ≤ 2147483646) : 0 ≤ nextX x ∧ nextX x ≤ 2147483646 := by
  unfold nextX
  rw [Int.tmod_eq_emod_of_nonneg (by omega)]
  omega
theorem step_range {x : Int} {n i : Nat} (h0 : 0 ≤ x) (hi : i < n) : 0 ≤ x.tmod ((n : Int) - i) ∧ x.tmod ((n : Int) - i) < (n : Int) - i := by
  rw [Int.tmod_eq_emod_of_nonneg h0]
  exact ⟨Int.emod_nonneg _ (by omega), Int.emod_lt_of_pos _ (by omega)⟩

theorem sw_mem {xs : List Int} {i k : Nat} (hi : i < xs.length) (hk : k < xs.length) : ∀ v ∈ sw xs i k, v ∈ xs := by
  intro v hv
  unfold sw at hv
  rcases List.mem_or_eq_of_mem_set hv with h | h
  · rcases List.mem_or_eq_of_mem_set h with h | h
    · exact h
    · rw [h, List.getD_eq_getElem?_getD, List.getElem?_eq_getElem hk]; exact List.getElem_mem hk
  · rw [h, List.getD_eq_getElem?_getD, List.getElem?_eq_getElem hi]; exact List.getElem_mem hi

theorem drawN_mem (n : Nat) : ∀ (m i : Nat) (x : Int) (xs : List Int), i + m < n → 0 ≤ x → x ≤ 2147483646 → xs.length = n → ∀ v ∈ drawN n m i x xs, v ∈ xs
  | 0, _, _, _, _, _, _, _, v, hv => hv
  | m + 1, i, x, xs, hm, h0, h1, hl, v, hv => by
    rw [drawN] at hv
    have hx := nextX_range h0 h1
    have hs := step_range (n := n) (i := i) hx.1 (by omega)
    have := drawN_mem n m (i + 1) _ _ (by omega) hx.1 hx.2 (by rw [sw_length, hl]) v hv
    exact sw_mem (by omega) (by omega) v this

theorem drawL_range {key : Int} {n : Nat} (h0 : 1 ≤ key) (h1 : key ≤ 2147483646) : ∀ v ∈ drawL key n, 0 ≤ v ∧ v < n := by
  intro v hv
  unfold drawL at hv
  have hv : v ∈ iota n := by
    rcases Nat.eq_zero_or_pos n with h | h
    · subst h; exact hv
    · exact drawN_mem n (n - 1) 0 key _ (by omega) (by omega) h1 (iota_length n) v hv
  unfold iota at hv
  obtain ⟨k, hk, rfl⟩ := List.mem_map.1 hv
  have := List.mem_range.1 hk
  omega

theorem L92_1 (n : Nat) (hn : n ≤ 256) (cap : Option Nat) : ∀ (m i : Nat) (x : Int) (xs : List Int), i + m + 1 = n → 0 ≤ x → x ≤ 2147483646 → xs.length = n →
    execS P (limS P) c92_l1 ⟨[.c (ci n), .slice 1 1 0 n none cap, .c (ci x), .c (ci i)], [.cells 1 [] 0, .cells 1 (cI xs) 0]⟩ =
      some (.exit 2, ⟨[.slice 1 1 0 n none cap], [.cells 1 [] 0, .cells 1 (cI (drawN n m i x xs)) 0]⟩) := by
  intro m
  induction m with
  | zero =>
    intro i x xs hm h0 h1 hl
    have hw : IntKind.i64.wrap ((n : Int) - 1) = (n : Int) - 1 := wrap64 (by omega) (by omega)
    have hlt : ¬ (i : Int) < (n : Int) - 1 := by omega
    rw [r92_l1]
    simp [c92_l1b, hw, hlt, drawN]
  | succ m ih =>
    intro i x xs hm h0 h1 hl
    have hx := nextX_range h0 h1
    have hs := step_range (n := n) (i := i) hx.1 (by omega)
    have ih := ih (i + 1) (nextX x) (sw xs i (i + ((nextX x).tmod ((n : Int) - i)).toNat)) (by omega) hx.1 hx.2 (by rw [sw_length, hl])
    obtain ⟨k, hk⟩ : ∃ k : Nat, (nextX x).tmod ((n : Int) - i) = (k : Int) := ⟨((nextX x).tmod ((n : Int) - i)).toNat, by omega⟩
    rw [hk] at ih hs
    have hw : IntKind.i64.wrap ((n : Int) - 1) = (n : Int) - 1 := wrap64 (by omega) (by omega)
    have hw1 : IntKind.i64.wrap (48271 * x) = 48271 * x := wrap64 (by omega) (by omega)
    have hw2 : (48271 * x).tmod 2147483647 = nextX x := rfl
    have hw3 : IntKind.i64.wrap ((n : Int) - i) = (n : Int) - i := wrap64 (by omega) (by omega)
    have hw4 : IntKind.i64.wrap (k : Int) = k := wrap64 (by omega) (by omega)
    have hw5 : IntKind.i64.wrap ((i : Int) + k) = (i : Int) + k := wrap64 (by omega) (by omega)
    have hw6 : IntKind.i64.wrap ((i : Int) + 1) = (i : Int) + 1 := wrap64 (by omega) (by omega)
    have hlt : (i : Int) < (n : Int) - 1 := by omega
    have hnz : ¬ (n : Int) - i = 0 := by omega
    have hi : i < n := by omega
    have hik : i + k < n := by omega
    have hi' : i < xs.length := by omega
    have hik' : i + k < xs.length := by omega
    have hkt : ((i : Int) + k).toNat = i + k := by omega
    have hk0 : 0 ≤ (i : Int) + k := by omega
    have hk1 : (i : Int) + k < n := by omega
    have hii : (i : Int) < n := by omega
    have g1 := cI_get hi'
    have g2 := cI_get hik'
    have e : drawN n (m + 1) i x xs = drawN n m (i + 1) (nextX x) (sw xs i (i + k)) := by rw [drawN, hk]; rfl
    simp [sw, hi', hik'] at ih
    have hi1 : i + 1 ≤ n := by omega
    have hik1 : i + k + 1 ≤ n := by omega
    rw [e]
    rw [r92_l1]
    simp [c92_l1b, hw, hw1, hw2, hw3, hw4, hw5, hw6, hlt, hk, hnz, hi, hik, hi', hik', hkt, hk0, hk1, hii, g1, g2, cI_length, cI_set, hl, under_cI, sw, hi1, hik1, ih]


theorem iota_set (n i : Nat) (h : i < n) : ((iota i) ++ List.replicate (n - i) 0).set i (i : Int) = iota (i + 1) ++ List.replicate (n - (i + 1)) 0 := by
  rw [List.set_append_right _ _ (by rw [iota_length]; exact Nat.le_refl _), iota_length, Nat.sub_self]
  have e : n - i = (n - (i + 1)) + 1 := by omega
  rw [e, List.replicate_succ, List.set_cons_zero]
  unfold iota
  rw [List.range_succ, List.map_append, List.append_assoc]
  rfl

theorem L92_0 (n : Nat) (key : Int) (hn : n ≤ 256) (cap : Option Nat) : ∀ (m i : Nat), i + m = n →
    execS P (limS P) c92_l0 ⟨[.c (ci key), .c (ci n), .slice 1 1 0 n none cap, .c (ci n), .c (ci i)], [.cells 1 [] 0, .cells 1 (cI (iota i ++ List.replicate (n - i) 0)) 0]⟩ =
      some (.exit 0, ⟨[.c (ci key), .c (ci n), .slice 1 1 0 n none cap], [.cells 1 [] 0, .cells 1 (cI (iota n)) 0]⟩) := by
  intro m
  induction m with
  | zero =>
    intro i hm
    simp at hm
    subst hm
    rw [r92_l0]
    simp [c92_l0b]
  | succ m ih =>
    intro i hm
    have ih := ih (i + 1) (by omega)
    have hs := iota_set n i (by omega)
    have hw : IntKind.i64.wrap ((i : Int) + 1) = (i : Int) + 1 := wrap64 (by omega) (by omega)
    have hlt : (i : Int) < n := by omega
    have hi : i < i + (n - i) := by omega
    simp at ih
    rw [r92_l0]
    have hni : ¬ n - i = 0 := by omega
    simp [c92_l0b, hw, hlt, hi, hni, cI_length, iota_length, cI_set, hs, under_cI, ih]

/-- The error of a draw. -/
def drawE (key : Int) (n : Int) : Int := if key < 1 ∨ key > 2147483646 ∨ n < 0 ∨ n > 256 then 3 else 0

theorem S24 (key n : Int) : fn P 24 [ci key, ci n] = some (ci (drawE key n)) := by
  rw [u24]
  unfold drawE
  by_cases h1 : key < 1 <;> by_cases h2 : 2147483646 < key <;> by_cases h3 : n < 0 <;> by_cases h4 : (256 : Int) < n <;> simp [c24, h1, h2, h3, h4]

theorem S90e (key n : Int) (h : drawE key n ≠ 0) : ffn P 92 [ci key, ci n] = some (.tuple [.slice 1 1 0 0 none none, .c (ci 3)], [.cells 1 [] 0, .cells 1 [] 0]) := by
  rw [u92]
  unfold drawE at h
  by_cases h1 : key < 1 <;> by_cases h2 : 2147483646 < key <;> by_cases h3 : n < 0 <;> by_cases h4 : (256 : Int) < n <;> simp [h1, h2, h3, h4] at h <;> simp [c92, h1, h2, h3, h4, mkTuple]

theorem S92 (key : Int) (n : Nat) (h : drawE key n = 0) : ffn P 92 [ci key, ci n] = some (.tuple [.slice 1 1 0 n none (some n), .c (ci 0)], [.cells 1 [] 0, .cells 1 (cI (drawL key n)) 0]) := by
  unfold drawE at h
  split at h
  · cases h
  · rename_i hx
    have h1 : ¬ key < 1 := fun e => hx (.inl e)
    have h2 : ¬ 2147483646 < key := fun e => hx (.inr (.inl e))
    have h3 : ¬ (n : Int) < 0 := by omega
    have h4 : ¬ (256 : Int) < n := fun e => hx (.inr (.inr (.inr e)))
    have l0 := L92_0 (P := P) n key (by omega) (some n) n 0 (by omega)
    have hz : cI (iota 0 ++ List.replicate (n - 0) 0) = List.replicate n (.c (ci 0)) := by simp [iota, cI]
    rw [hz] at l0
    simp at l0
    rw [u92]
    rcases Nat.eq_zero_or_pos n with hn | hn
    · subst hn
      have hw : IntKind.i64.wrap (-1) = -1 := wrap64 (by omega) (by omega)
      have l1 : execS P (limS P) c92_l1 ⟨[.c (ci 0), .slice 1 1 0 0 none (some 0), .c (ci key), .c (ci 0)], [.cells 1 [] 0, .cells 1 [] 0]⟩ = some (.exit 2, ⟨[.slice 1 1 0 0 none (some 0)], [.cells 1 [] 0, .cells 1 [] 0]⟩) := by
        rw [r92_l1]
        simp [c92_l1b, hw]
      have e : drawL key 0 = [] := rfl
      have e0 : cI (iota 0) = [] := rfl
      rw [e0] at l0
      simp at l0
      simp [c92, h1, h2, l0, l1, mkTuple, e, allC]
      rfl
    · have l1 := L92_1 (P := P) n (by omega) (some n) (n - 1) 0 key (iota n) (by omega) (by omega) (by omega) (iota_length n)
      simp at l1
      have q1 : (n : Int) * 8 ≤ 140737488355328 := by omega
      have q2 : (n : Int) ≤ 9223372036854775807 := by omega
      simp [c92, h1, h2, h4, l0, l1, q1, q2, mkTuple, drawL]

end LM.G6

namespace LM.G6
open Go LM
variable {P : Nat → Option SFunc} [Has P]

@[simp] theorem S47 (b : Bool) (e : Int) : fn P 47 [.bool b, ci e] = some (ci (whenE b e)) := by
  rw [u47]; cases b <;> simp [c47, whenE]

end LM.G6

namespace LM.G6
open Go LM
variable {P : Nat → Option SFunc} [Has P]

@[simp] theorem S23 (n a b : Int) : fn P 23 [ci n, ci a, ci b] = some (ci (whenE (outside n a b) 3)) := by
  rw [u23]
  unfold outside whenE
  by_cases h1 : n < a <;> by_cases h2 : b < n <;> simp [c23, h1, h2]
@[simp] theorem S91 (n a b : Int) : fn P 91 [ci n, ci a, ci b] = some (ci (whenE (outside n a b) 3)) := by
  rw [u91]
  unfold outside
  by_cases h1 : n < a <;> by_cases h2 : b < n <;> simp [c91, h1, h2]

theorem L153 : ∀ (r pre : List Int) (m : Int), ((pre ++ r).length : Int) < 9223372036854775807 →
    execS P (limS P) c153_l0 ⟨[.c (.slice ((pre ++ r).map ci)), .c (ci m), .c (ci pre.length)], []⟩ = some (.exit 0, ⟨[.c (ci (r.foldl min m))], []⟩) := by
  intro r
  induction r with
  | nil =>
    intro pre m h
    rw [r153_l0]
    simp [c153_l0b]
  | cons x r ih =>
    intro pre m h
    have ih := fun m => ih (pre ++ [x]) m (by simpa using h)
    simp at ih h
    have hw : IntKind.i64.wrap (↑pre.length + 1) = ↑pre.length + 1 := wrap64 (by omega) (by omega)
    have hlt : (pre.length : Int) < pre.length + (r.length + 1) := by omega
    have hm : (if x < m then x else m) = min m x := by split <;> omega
    rw [r153_l0]
    simp [c153_l0b, hw, hlt, foldInt, hm, ih]
theorem S153 (x : Int) (l : List Int) (h : (l.length : Int) < 1000) : fn P 153 [.slice ((x :: l).map ci)] = some (ci (l.foldl min x)) := by
  have := L153 (P := P) l [x] x (by simp; omega)
  simp at this
  rw [u153]
  have h1 : ¬ (l.length : Int) + 1 < 1 := by omega
  simp [c153, h1, this]
theorem L154 : ∀ (r pre : List Int) (m : Int), ((pre ++ r).length : Int) < 9223372036854775807 →
    execS P (limS P) c154_l0 ⟨[.c (.slice ((pre ++ r).map ci)), .c (ci m), .c (ci pre.length)], []⟩ = some (.exit 0, ⟨[.c (ci (r.foldl max m))], []⟩) := by
  intro r
  induction r with
  | nil =>
    intro pre m h
    rw [r154_l0]
    simp [c154_l0b]
  | cons x r ih =>
    intro pre m h
    have ih := fun m => ih (pre ++ [x]) m (by simpa using h)
    simp at ih h
    have hw : IntKind.i64.wrap (↑pre.length + 1) = ↑pre.length + 1 := wrap64 (by omega) (by omega)
    have hlt : (pre.length : Int) < pre.length + (r.length + 1) := by omega
    have hm : (if m < x then x else m) = max m x := by split <;> omega
    rw [r154_l0]
    simp [c154_l0b, hw, hlt, foldInt, hm, ih]
theorem S154 (x : Int) (l : List Int) (h : (l.length : Int) < 1000) : fn P 154 [.slice ((x :: l).map ci)] = some (ci (l.foldl max x)) := by
  have := L154 (P := P) l [x] x (by simp; omega)
  simp at this
  rw [u154]
  have h1 : ¬ (l.length : Int) + 1 < 1 := by omega
  simp [c154, h1, this]

/-- Is a time of some out of its bounds? -/
def badT (x : Int) : Bool := outside x 0 86399999
theorem S124 (x : Int) (l : List Int) (h : (l.length : Int) < 1000) : fn P 124 [.slice ((x :: l).map ci)] = some (ci (whenE ((x :: l).any badT) 3)) := by
  have e1 := S153 (P := P) x l h
  have e2 := S154 (P := P) x l h
  have hmin : ∀ (l : List Int) (x : Int), l.foldl min x < 0 ↔ (x < 0 ∨ ∃ y ∈ l, y < 0) := by
    intro l
    induction l with
    | nil => simp
    | cons a r ih => intro x; have q : min x a < 0 ↔ x < 0 ∨ a < 0 := by omega
                     rw [List.foldl_cons, ih, q]; simp [or_assoc]
  have hmax : ∀ (l : List Int) (x : Int), 86399999 < l.foldl max x ↔ (86399999 < x ∨ ∃ y ∈ l, 86399999 < y) := by
    intro l
    induction l with
    | nil => simp
    | cons a r ih => intro x; have q : 86399999 < max x a ↔ 86399999 < x ∨ 86399999 < a := by omega
                     rw [List.foldl_cons, ih, q]; simp [or_assoc]
  have e : (x :: l).any badT = (decide (l.foldl min x < 0) || decide (86399999 < l.foldl max x)) := by
    rw [Bool.eq_iff_iff]
    simp only [Bool.or_eq_true, decide_eq_true_eq, hmin, hmax, List.any_eq_true, badT, outside]
    constructor
    · rintro ⟨y, hy, h⟩
      simp at h hy
      rcases hy with rfl | hy
      · rcases h with h | h
        · exact .inl (.inl h)
        · exact .inr (.inl h)
      · rcases h with h | h
        · exact .inl (.inr ⟨y, hy, h⟩)
        · exact .inr (.inr ⟨y, hy, h⟩)
    · rintro ((h | ⟨y, hy, h⟩) | (h | ⟨y, hy, h⟩))
      · exact ⟨x, by simp, by simp [h]⟩
      · exact ⟨y, by simp [hy], by simp [h]⟩
      · exact ⟨x, by simp, by simp [h]⟩
      · exact ⟨y, by simp [hy], by simp [h]⟩
  rw [e, u124]
  simp at e1 e2
  by_cases h1 : l.foldl min x < 0 <;> by_cases h2 : 86399999 < l.foldl max x <;> simp [c124, e1, e2, h1, h2]

/-- Would the last start be too late? -/
def lateE (n f e : Int) : Int := whenE (decide (0 < n) && decide (86399999 < IntKind.i64.wrap (f + IntKind.i64.wrap (IntKind.i64.wrap (n - 1) * e)))) 4
@[simp] theorem S42 (n f e : Int) : fn P 42 [ci n, ci f, ci e] = some (ci (lateE n f e)) := by
  rw [u42]
  unfold lateE whenE
  by_cases h1 : 0 < n <;> by_cases h2 : 86399999 < IntKind.i64.wrap (f + IntKind.i64.wrap (IntKind.i64.wrap (n - 1) * e)) <;> simp [c42, h1, h2]
def callsE (n f e : Int) : Int := whenE (outside n 0 160 || badT f || badT e) 3
@[simp] theorem S41 (n f e : Int) : fn P 41 [ci n, ci f, ci e] = some (ci (callsE n f e)) := by
  rw [u41]
  unfold callsE badT
  have w0 : IntKind.i64.wrap 0 = 0 := rfl
  have w3 : IntKind.i64.wrap 3 = 3 := rfl
  have w6 : IntKind.i64.wrap 6 = 6 := rfl
  have w9 : IntKind.i64.wrap 9 = 9 := rfl
  cases h1 : outside n 0 160 <;> cases h2 : outside f 0 86399999 <;> cases h3 : outside e 0 86399999 <;> simp [c41, h1, h2, h3, whenE, w0, w3, w6, w9]

theorem frzFuncs_nil (h : Heap) : frzFuncs [] h = some ([], h) := by rw [frzFuncs]
theorem frzFuncs_c (v : CV) (l : List LV) (h : Heap) : frzFuncs (.c v :: l) h = bnd (frzFuncs l h) fun a => some (.c v :: a.1, a.2) := by
  rw [frzFuncs]
  rcases frzFuncs l h with _ | ⟨x, y⟩ <;> rfl
  all_goals simp
theorem frzFuncs_slice (b g o n : Nat) (e c : Option Nat) (l : List LV) (h : Heap) : frzFuncs (.slice b g o n e c :: l) h = bnd (frzFuncs l h) fun a => some (.slice b g o n e c :: a.1, a.2) := by
  rw [frzFuncs]
  rcases frzFuncs l h with _ | ⟨x, y⟩ <;> rfl
  all_goals simp

/-- The error of the starts' numbers: of a time besides the first one and the step. -/
def startsE (n f e : Int) (ts : List Int) : Int := firstE [whenE (outside n 0 160) 3, whenE ((ts ++ [f, e]).any badT) 3, lateE n f e]
theorem app1 (w f e : Int) : appendOp none none 8 (.slice 1 1 0 1 none (some 1)) (.c (.slice [ci f, ci e])) [.cells 1 [] 0, .cells 1 [.c (ci w)] 0] = some (.slice 2 1 0 3 none none, [.cells 1 [] 0, .cells 1 [.c (ci w)] 0, .cells 1 [.c (ci w), .c (ci f), .c (ci e)] 0]) := by
  rfl
theorem app2 (w t f e : Int) : appendOp none none 8 (.slice 1 1 0 2 none (some 2)) (.c (.slice [ci f, ci e])) [.cells 1 [] 0, .cells 1 [.c (ci w), .c (ci t)] 0] = some (.slice 2 1 0 4 none none, [.cells 1 [] 0, .cells 1 [.c (ci w), .c (ci t)] 0, .cells 1 [.c (ci w), .c (ci t), .c (ci f), .c (ci e)] 0]) := by
  rfl
theorem S108_1 (n f e w : Int) : sfn P 108 [.c (ci n), .c (ci f), .c (ci e), .slice 1 1 0 1 none (some 1)] [.cells 1 [] 0, .cells 1 [.c (ci w)] 0] = some (.c (ci (startsE n f e [w])), [.cells 1 [] 0, .cells 1 [.c (ci w)] 0, .cells 1 [.c (ci w), .c (ci f), .c (ci e)] 0]) := by
  have a := S124 (P := P) w [f, e] (by simp)
  simp [-List.any_cons] at a
  rw [u108]
  unfold startsE
  by_cases h1 : 0 < n
  · simp [c108, a, app1, h1, lateE, -List.any_cons]
  · simp [c108, a, app1, h1, lateE, -List.any_cons]
theorem S108_2 (n f e w t : Int) : sfn P 108 [.c (ci n), .c (ci f), .c (ci e), .slice 1 1 0 2 none (some 2)] [.cells 1 [] 0, .cells 1 [.c (ci w), .c (ci t)] 0] = some (.c (ci (startsE n f e [w, t])), [.cells 1 [] 0, .cells 1 [.c (ci w), .c (ci t)] 0, .cells 1 [.c (ci w), .c (ci t), .c (ci f), .c (ci e)] 0]) := by
  have a := S124 (P := P) w [t, f, e] (by simp)
  simp [-List.any_cons] at a
  rw [u108]
  unfold startsE
  by_cases h1 : 0 < n
  · simp [c108, a, app2, h1, lateE, -List.any_cons]
  · simp [c108, a, app2, h1, lateE, -List.any_cons]
end LM.G6

namespace LM.G6
open Go LM

theorem strElem (s : Str) : Elem none (CV.str s) := ⟨rfl, rfl⟩
theorem strElems (l : List Str) : ∀ x ∈ l.map CV.str, Elem none x := by
  intro x hx
  obtain ⟨y, _, rfl⟩ := List.mem_map.1 hx
  exact strElem y

end LM.G6

namespace LM.G6
open Go LM
variable {P : Nat → Option SFunc} [Has P]

structure Pr where
  a : Int
  b : Int
def Pr.enc (x : Pr) : CV := .agg [ci x.a, ci x.b]
theorem Pr.elem (x : Pr) : Elem (some 2) x.enc := ⟨_, rfl, rfl, by simp⟩
theorem Pr.elems (l : List Pr) : ∀ x ∈ l.map Pr.enc, Elem (some 2) x := by
  intro x hx
  obtain ⟨y, _, rfl⟩ := List.mem_map.1 hx
  exact y.elem
def callP (f e w : Int) (i : Nat) : Pr := ⟨max 0 (f + i * e - w), f + i * e⟩
def callsL (f e w : Int) (n : Nat) : List Pr := (List.range n).map (callP f e w)
theorem callsL_succ (f e w : Int) (i : Nat) : (callsL f e w (i + 1)).map Pr.enc = (callsL f e w i).map Pr.enc ++ [(callP f e w i).enc] := by
  unfold callsL
  rw [List.range_succ, List.map_append, List.map_append]
  rfl
def isoL (f e w t : Int) (n : Nat) : List Int := ((List.range n).filter fun (i : Nat) => decide (w ≤ t ∧ t < f + (i : Int) * e)).map fun (i : Nat) => (i : Int)
theorem isoL_succ (f e w t : Int) (i : Nat) : isoL f e w t (i + 1) = if w ≤ t ∧ t < f + i * e then isoL f e w t i ++ [(i : Int)] else isoL f e w t i := by
  unfold isoL
  rw [List.range_succ, List.filter_append, List.map_append]
  by_cases h : w ≤ t ∧ t < f + i * e <;> simp [h]
theorem isoL_le (f e w t : Int) (i : Nat) : (isoL f e w t i).length ≤ i := by
  unfold isoL
  rw [List.length_map]
  exact Nat.le_trans (List.length_filter_le _ _) (by simp)

theorem L44 (n : Nat) (hn : n ≤ 160) (f e w : Int) (hf : 0 ≤ f ∧ f ≤ 86399999) (he : 0 ≤ e ∧ e ≤ 86399999) (hw : 0 ≤ w ∧ w ≤ 86399999) : ∀ (m i : Nat), i + m = n →
    execS P (limS P) c44_l0 ⟨[.c (ci n), .c (ci f), .c (ci e), .c (ci w), .slice 1 (1 + i) 0 i (some 2) none, .c (ci i)], [.cells 1 [] 0, .cells (1 + i) (cellsOf ((callsL f e w i).map Pr.enc)) 0]⟩ =
      some (.exit 0, ⟨[.slice 1 (1 + n) 0 n (some 2) none], [.cells 1 [] 0, .cells (1 + n) (cellsOf ((callsL f e w n).map Pr.enc)) 0]⟩) := by
  intro m
  induction m with
  | zero =>
    intro i h
    simp at h
    subst h
    rw [r44_l0]
    simp [c44_l0b]
  | succ m ih =>
    intro i h
    have ih := ih (i + 1) (by omega)
    have hi : (0 : Int) ≤ i := by omega
    have hi2 : (i : Int) ≤ 160 := by omega
    have hm0 : 0 ≤ (i : Int) * e := Int.mul_nonneg hi he.1
    have hm1 : (i : Int) * e ≤ 160 * 86399999 := Int.mul_le_mul hi2 he.2 he.1 (by omega)
    have w1 : IntKind.i64.wrap ((i : Int) * e) = i * e := wrap64 (by omega) (by omega)
    have w2 : IntKind.i64.wrap (f + i * e) = f + i * e := wrap64 (by omega) (by omega)
    have w3 : IntKind.i64.wrap (f + i * e - w) = f + i * e - w := wrap64 (by omega) (by omega)
    have w4 : IntKind.i64.wrap ((i : Int) + 1) = i + 1 := wrap64 (by omega) (by omega)
    have hlt : (i : Int) < n := by omega
    have hmx : (if w < f + i * e then f + i * e - w else 0) = max 0 (f + i * e - w) := by split <;> omega
    have hl : (callsL f e w i).length = i := by simp [callsL]
    have ha := append_own (b := 1) (g := 1 + i) (bytes := 16) (e := some 2) (ys := (callsL f e w i).map Pr.enc) (xs := [(callP f e w i).enc]) (h := [.cells 1 [] 0, .cells (1 + i) (cellsOf ((callsL f e w i).map Pr.enc)) 0]) (len := i) (fz := 0) rfl (Pr.elems _) (by simpa using (callP f e w i).elem) (by simp [hl]) (Nat.zero_le _) (by simp) (by simp [hl]; omega) (by simp [hl]; omega)
    have e1 : 1 + (i + 1) = 1 + i + 1 := by omega
    rw [← callsL_succ] at ha
    simp [callP, Pr.enc] at ha
    simp [e1, Pr.enc] at ih
    have hu : ∀ n ys, underL n (cellsOf ys) = true := fun n ys => underL_cellsOf n ys
    rw [r44_l0]
    simp [c44_l0b, w1, w2, w3, w4, hlt, foldInt, hmx, ha, hu, Pr.enc, ih]

theorem L39 (n : Nat) (hn : n ≤ 160) (f e w : Int) (hf : 0 ≤ f ∧ f ≤ 86399999) (he : 0 ≤ e ∧ e ≤ 86399999) (hw : 0 ≤ w ∧ w ≤ 86399999) : ∀ (m i : Nat), i + m = n →
    execS P (limS P) c39_l0 ⟨[.c (ci f), .c (ci e), .c (ci w), .slice 3 (1 + i) 0 i (some 2) none, .c (ci n), .c (ci i)], [.cells 1 [] 0, .cells 1 [.c (ci w)] 0, .cells 1 [.c (ci w), .c (ci f), .c (ci e)] 0, .cells (1 + i) (cellsOf ((callsL f e w i).map Pr.enc)) 0]⟩ =
      some (.exit 0, ⟨[.slice 3 (1 + n) 0 n (some 2) none], [.cells 1 [] 0, .cells 1 [.c (ci w)] 0, .cells 1 [.c (ci w), .c (ci f), .c (ci e)] 0, .cells (1 + n) (cellsOf ((callsL f e w n).map Pr.enc)) 0]⟩) := by
  intro m
  induction m with
  | zero =>
    intro i h
    simp at h
    subst h
    rw [r39_l0]
    simp [c39_l0b]
  | succ m ih =>
    intro i h
    have ih := ih (i + 1) (by omega)
    have hi : (0 : Int) ≤ i := by omega
    have hi2 : (i : Int) ≤ 160 := by omega
    have hm0 : 0 ≤ (i : Int) * e := Int.mul_nonneg hi he.1
    have hm1 : (i : Int) * e ≤ 160 * 86399999 := Int.mul_le_mul hi2 he.2 he.1 (by omega)
    have w1 : IntKind.i64.wrap ((i : Int) * e) = i * e := wrap64 (by omega) (by omega)
    have w2 : IntKind.i64.wrap (f + i * e) = f + i * e := wrap64 (by omega) (by omega)
    have w3 : IntKind.i64.wrap (f + i * e - w) = f + i * e - w := wrap64 (by omega) (by omega)
    have w4 : IntKind.i64.wrap ((i : Int) + 1) = i + 1 := wrap64 (by omega) (by omega)
    have hlt : (i : Int) < n := by omega
    have hmx : (if w < f + i * e then f + i * e - w else 0) = max 0 (f + i * e - w) := by split <;> omega
    have hl : (callsL f e w i).length = i := by simp [callsL]
    have ha := append_own (b := 3) (g := 1 + i) (bytes := 16) (e := some 2) (ys := (callsL f e w i).map Pr.enc) (xs := [(callP f e w i).enc]) (h := [.cells 1 [] 0, .cells 1 [.c (ci w)] 0, .cells 1 [.c (ci w), .c (ci f), .c (ci e)] 0, .cells (1 + i) (cellsOf ((callsL f e w i).map Pr.enc)) 0]) (len := i) (fz := 0) rfl (Pr.elems _) (by simpa using (callP f e w i).elem) (by simp [hl]) (Nat.zero_le _) (by simp) (by simp [hl]; omega) (by simp [hl]; omega)
    have e1 : 1 + (i + 1) = 1 + i + 1 := by omega
    rw [← callsL_succ] at ha
    simp [callP, Pr.enc] at ha
    simp [e1, Pr.enc] at ih
    have hu : ∀ n ys, underL n (cellsOf ys) = true := fun n ys => underL_cellsOf n ys
    rw [r39_l0]
    simp [c39_l0b, w1, w2, w3, w4, hlt, foldInt, hmx, ha, hu, Pr.enc, ih]

theorem L43 (n : Nat) (hn : n ≤ 160) (f e w t : Int) (hf : 0 ≤ f ∧ f ≤ 86399999) (he : 0 ≤ e ∧ e ≤ 86399999) : ∀ (m i : Nat), i + m = n →
    execS P (limS P) c43_l0 ⟨[.c (ci n), .c (ci f), .c (ci e), .c (ci w), .c (ci t), .slice 1 (1 + (isoL f e w t i).length) 0 (isoL f e w t i).length none none, .c (ci i)], [.cells 1 [] 0, .cells (1 + (isoL f e w t i).length) (cI (isoL f e w t i)) 0]⟩ =
      some (.exit 0, ⟨[.slice 1 (1 + (isoL f e w t n).length) 0 (isoL f e w t n).length none none], [.cells 1 [] 0, .cells (1 + (isoL f e w t n).length) (cI (isoL f e w t n)) 0]⟩) := by
  intro m
  induction m with
  | zero =>
    intro i h
    simp at h
    subst h
    rw [r43_l0]
    simp [c43_l0b]
  | succ m ih =>
    intro i h
    have ih := ih (i + 1) (by omega)
    have hi : (0 : Int) ≤ i := by omega
    have hi2 : (i : Int) ≤ 160 := by omega
    have hm0 : 0 ≤ (i : Int) * e := Int.mul_nonneg hi he.1
    have hm1 : (i : Int) * e ≤ 160 * 86399999 := Int.mul_le_mul hi2 he.2 he.1 (by omega)
    have w1 : IntKind.i64.wrap ((i : Int) * e) = i * e := wrap64 (by omega) (by omega)
    have w2 : IntKind.i64.wrap (f + i * e) = f + i * e := wrap64 (by omega) (by omega)
    have w4 : IntKind.i64.wrap ((i : Int) + 1) = i + 1 := wrap64 (by omega) (by omega)
    have hlt : (i : Int) < n := by omega
    have hl : (isoL f e w t i).length ≤ i := isoL_le f e w t i
    have es := isoL_succ f e w t i
    rw [r43_l0]
    by_cases q1 : w ≤ t
    · by_cases q2 : t < f + i * e
      · rw [if_pos ⟨q1, q2⟩] at es
        have ha := append_own (b := 1) (g := 1 + (isoL f e w t i).length) (bytes := 8) (e := none) (ys := (isoL f e w t i).map ci) (xs := [ci i]) (h := [.cells 1 [] 0, .cells (1 + (isoL f e w t i).length) (cellsOf ((isoL f e w t i).map ci)) 0]) (len := (isoL f e w t i).length) (fz := 0) rfl (intElems _) (intElems [(i : Int)]) (by simp) (Nat.zero_le _) (by simp) (by simp; omega) (by simp; omega)
        have e2 : (isoL f e w t i).map ci ++ [ci i] = (isoL f e w t i ++ [(i : Int)]).map ci := by simp
        rw [e2, cellsOf_ints, cellsOf_ints] at ha
        have e1 : 1 + ((isoL f e w t i).length + 1) = 1 + (isoL f e w t i).length + 1 := by omega
        simp [es, e1] at ih ha
        simp [c43_l0b, w1, w2, w4, hlt, q1, q2, ha, under_cI, ih]
      · rw [if_neg (fun q => q2 q.2)] at es
        simp [es] at ih
        simp [c43_l0b, w1, w2, w4, hlt, q1, q2, under_cI, ih]
    · rw [if_neg (fun q => q1 q.1)] at es
      simp [es] at ih
      simp [c43_l0b, w1, w2, w4, hlt, q1, under_cI, ih]

theorem L40 (n : Nat) (hn : n ≤ 160) (f e w t : Int) (hf : 0 ≤ f ∧ f ≤ 86399999) (he : 0 ≤ e ∧ e ≤ 86399999) : ∀ (m i : Nat), i + m = n →
    execS P (limS P) c40_l0 ⟨[.c (ci f), .c (ci e), .c (ci w), .c (ci t), .slice 3 (1 + (isoL f e w t i).length) 0 (isoL f e w t i).length none none, .c (ci n), .c (ci i)], [.cells 1 [] 0, .cells 1 [.c (ci w), .c (ci t)] 0, .cells 1 [.c (ci w), .c (ci t), .c (ci f), .c (ci e)] 0, .cells (1 + (isoL f e w t i).length) (cI (isoL f e w t i)) 0]⟩ =
      some (.exit 0, ⟨[.slice 3 (1 + (isoL f e w t n).length) 0 (isoL f e w t n).length none none], [.cells 1 [] 0, .cells 1 [.c (ci w), .c (ci t)] 0, .cells 1 [.c (ci w), .c (ci t), .c (ci f), .c (ci e)] 0, .cells (1 + (isoL f e w t n).length) (cI (isoL f e w t n)) 0]⟩) := by
  intro m
  induction m with
  | zero =>
    intro i h
    simp at h
    subst h
    rw [r40_l0]
    simp [c40_l0b]
  | succ m ih =>
    intro i h
    have ih := ih (i + 1) (by omega)
    have hi : (0 : Int) ≤ i := by omega
    have hi2 : (i : Int) ≤ 160 := by omega
    have hm0 : 0 ≤ (i : Int) * e := Int.mul_nonneg hi he.1
    have hm1 : (i : Int) * e ≤ 160 * 86399999 := Int.mul_le_mul hi2 he.2 he.1 (by omega)
    have w1 : IntKind.i64.wrap ((i : Int) * e) = i * e := wrap64 (by omega) (by omega)
    have w2 : IntKind.i64.wrap (f + i * e) = f + i * e := wrap64 (by omega) (by omega)
    have w4 : IntKind.i64.wrap ((i : Int) + 1) = i + 1 := wrap64 (by omega) (by omega)
    have hlt : (i : Int) < n := by omega
    have hl : (isoL f e w t i).length ≤ i := isoL_le f e w t i
    have es := isoL_succ f e w t i
    rw [r40_l0]
    by_cases q1 : w ≤ t
    · by_cases q2 : t < f + i * e
      · rw [if_pos ⟨q1, q2⟩] at es
        have ha := append_own (b := 3) (g := 1 + (isoL f e w t i).length) (bytes := 8) (e := none) (ys := (isoL f e w t i).map ci) (xs := [ci i]) (h := [.cells 1 [] 0, .cells 1 [.c (ci w), .c (ci t)] 0, .cells 1 [.c (ci w), .c (ci t), .c (ci f), .c (ci e)] 0, .cells (1 + (isoL f e w t i).length) (cellsOf ((isoL f e w t i).map ci)) 0]) (len := (isoL f e w t i).length) (fz := 0) rfl (intElems _) (intElems [(i : Int)]) (by simp) (Nat.zero_le _) (by simp) (by simp; omega) (by simp; omega)
        have e2 : (isoL f e w t i).map ci ++ [ci i] = (isoL f e w t i ++ [(i : Int)]).map ci := by simp
        rw [e2, cellsOf_ints, cellsOf_ints] at ha
        have e1 : 1 + ((isoL f e w t i).length + 1) = 1 + (isoL f e w t i).length + 1 := by omega
        simp [es, e1] at ih ha
        simp [c40_l0b, w1, w2, w4, hlt, q1, q2, ha, under_cI, ih]
      · rw [if_neg (fun q => q2 q.2)] at es
        simp [es] at ih
        simp [c40_l0b, w1, w2, w4, hlt, q1, q2, under_cI, ih]
    · rw [if_neg (fun q => q1 q.1)] at es
      simp [es] at ih
      simp [c40_l0b, w1, w2, w4, hlt, q1, under_cI, ih]

end LM.G6

namespace LM.G6
open Go LM
variable {P : Nat → Option SFunc} [Has P]

theorem firstE_zB (e : Int) (r : List Int) : firstE (e :: r) = 0 ↔ e = 0 ∧ firstE r = 0 := by
  rw [firstE]
  by_cases h : e = 0 <;> simp [h]
theorem whenE_z {b : Bool} {e : Int} (he : e ≠ 0) : whenE b e = 0 ↔ b = false := by
  unfold whenE
  cases b <;> simp [he]
theorem outside_f {x a b : Int} : outside x a b = false ↔ a ≤ x ∧ x ≤ b := by
  unfold outside
  by_cases h1 : x < a <;> by_cases h2 : x > b <;> simp [h1, h2] <;> omega
theorem startsE_zero {n f e : Int} {ts : List Int} (h : startsE n f e ts = 0) : (0 ≤ n ∧ n ≤ 160) ∧ (∀ t ∈ ts, 0 ≤ t ∧ t ≤ 86399999) ∧ (0 ≤ f ∧ f ≤ 86399999) ∧ (0 ≤ e ∧ e ≤ 86399999) := by
  unfold startsE at h
  simp only [firstE_zB, whenE_z (show (3 : Int) ≠ 0 by decide), outside_f] at h
  obtain ⟨h1, h2, _⟩ := h
  rw [List.any_eq_false] at h2
  have key : ∀ t ∈ ts ++ [f, e], 0 ≤ t ∧ t ≤ 86399999 := fun t ht => by
    have := h2 t ht
    exact outside_f.1 (by simpa [badT] using this)
  exact ⟨h1, fun t ht => key t (by simp [ht]), key f (by simp), key e (by simp)⟩

theorem S39 (n f e w : Int) : fn P 39 [ci n, ci f, ci e, ci w] = some (if startsE n f e [w] = 0 then .tuple [.slice ((callsL f e w n.toNat).map Pr.enc), ci 0] else .tuple [.slice [], ci (startsE n f e [w])]) := by
  have a := S108_1 (P := P) n f e w
  rw [u39]
  by_cases h : startsE n f e [w] = 0
  · obtain ⟨hn, ht, hf, he⟩ := startsE_zero h
    have hw := ht w (by simp)
    obtain ⟨k, rfl⟩ : ∃ k : Nat, n = k := ⟨n.toNat, by omega⟩
    have hL := L39 (P := P) k (by omega) f e w hf he hw k 0 (by omega)
    have hl : (callsL f e w k).length = k := by simp [callsL]
    have e0 : callsL f e w 0 = [] := rfl
    have hr := resV_own (b := 3) (g := 1 + k) (fz := 0) (e := some 2) (ys := (callsL f e w k).map Pr.enc) (h := [.cells 1 [] 0, .cells 1 [.c (ci w)] 0, .cells 1 [.c (ci w), .c (ci f), .c (ci e)] 0, .cells (1 + k) (cellsOf ((callsL f e w k).map Pr.enc)) 0]) (len := k) rfl (Pr.elems _) (by simp [hl]) none (ci 0)
    have c0 : cellsOf [] = [] := rfl
    simp [e0, c0] at hL
    simp [c39, a, frzFuncs_nil, frzFuncs_c, frzFuncs_slice, h, hL, hr]
  · simp [c39, a, frzFuncs_nil, frzFuncs_c, frzFuncs_slice, h]
theorem S40 (n f e w t : Int) : fn P 40 [ci n, ci f, ci e, ci w, ci t] = some (if startsE n f e [w, t] = 0 then .tuple [.slice ((isoL f e w t n.toNat).map ci), ci 0] else .tuple [.slice [], ci (startsE n f e [w, t])]) := by
  have a := S108_2 (P := P) n f e w t
  rw [u40]
  by_cases h : startsE n f e [w, t] = 0
  · obtain ⟨hn, ht, hf, he⟩ := startsE_zero h
    obtain ⟨k, rfl⟩ : ∃ k : Nat, n = k := ⟨n.toNat, by omega⟩
    have hL := L40 (P := P) k (by omega) f e w t hf he k 0 (by omega)
    have e0 : isoL f e w t 0 = [] := rfl
    have hr := resV_own (b := 3) (g := 1 + (isoL f e w t k).length) (fz := 0) (e := none) (ys := (isoL f e w t k).map ci) (h := [.cells 1 [] 0, .cells 1 [.c (ci w), .c (ci t)] 0, .cells 1 [.c (ci w), .c (ci t), .c (ci f), .c (ci e)] 0, .cells (1 + (isoL f e w t k).length) (cellsOf ((isoL f e w t k).map ci)) 0]) (len := (isoL f e w t k).length) rfl (intElems _) (by simp) none (ci 0)
    have c0 : cI [] = [] := rfl
    rw [cellsOf_ints] at hr
    simp [e0, c0] at hL
    simp [c40, a, frzFuncs_nil, frzFuncs_c, frzFuncs_slice, h, hL, hr]
  · simp [c40, a, frzFuncs_nil, frzFuncs_c, frzFuncs_slice, h]
theorem S44 (n f e w : Int) (hn : 0 ≤ n ∧ n ≤ 160) (hf : 0 ≤ f ∧ f ≤ 86399999) (he : 0 ≤ e ∧ e ≤ 86399999) (hw : 0 ≤ w ∧ w ≤ 86399999) : fn P 44 [ci n, ci f, ci e, ci w] = some (.slice ((callsL f e w n.toNat).map Pr.enc)) := by
  obtain ⟨k, rfl⟩ : ∃ k : Nat, n = k := ⟨n.toNat, by omega⟩
  have hL := L44 (P := P) k (by omega) f e w hf he hw k 0 (by omega)
  have hl : (callsL f e w k).length = k := by simp [callsL]
  have e0 : callsL f e w 0 = [] := rfl
  have hr := resV_own1 (b := 1) (g := 1 + k) (fz := 0) (e := some 2) (ys := (callsL f e w k).map Pr.enc) (h := [.cells 1 [] 0, .cells (1 + k) (cellsOf ((callsL f e w k).map Pr.enc)) 0]) (len := k) rfl (Pr.elems _) (by simp [hl]) none
  have c0 : cellsOf [] = [] := rfl
  simp [e0, c0] at hL
  rw [u44]
  simp [c44, hL, hr]
theorem S43 (n f e w t : Int) (hn : 0 ≤ n ∧ n ≤ 160) (hf : 0 ≤ f ∧ f ≤ 86399999) (he : 0 ≤ e ∧ e ≤ 86399999) : fn P 43 [ci n, ci f, ci e, ci w, ci t] = some (.slice ((isoL f e w t n.toNat).map ci)) := by
  obtain ⟨k, rfl⟩ : ∃ k : Nat, n = k := ⟨n.toNat, by omega⟩
  have hL := L43 (P := P) k (by omega) f e w t hf he k 0 (by omega)
  have e0 : isoL f e w t 0 = [] := rfl
  have hr := resV_own1 (b := 1) (g := 1 + (isoL f e w t k).length) (fz := 0) (e := none) (ys := (isoL f e w t k).map ci) (h := [.cells 1 [] 0, .cells (1 + (isoL f e w t k).length) (cellsOf ((isoL f e w t k).map ci)) 0]) (len := (isoL f e w t k).length) rfl (intElems _) (by simp) none
  have c0 : cI [] = [] := rfl
  rw [cellsOf_ints] at hr
  simp [e0, c0] at hL
  rw [u43]
  simp [c43, hL, hr]

theorem L28 : ∀ (l p m q : List Int), p.length = q.length → l.length = m.length → ((p ++ l).length : Int) < 9223372036854775807 →
    execS P (limS P) c28_l0 ⟨[.c (.slice ((p ++ l).map ci)), .c (.slice ((q ++ m).map ci)), .c (ci p.length)], []⟩ = if l = m then some (.exit 0, ⟨[], []⟩) else some (.ret, ⟨[.c (.bool false)], []⟩) := by
  intro l
  induction l with
  | nil =>
    intro p m q hp hl h
    have : m = [] := List.eq_nil_of_length_eq_zero hl.symm
    subst this
    rw [r28_l0]
    simp [c28_l0b]
  | cons c r ih =>
    intro p m q hp hl h
    cases m with
    | nil => simp at hl
    | cons d m =>
      have ih := ih (p ++ [c]) m (q ++ [d]) (by simp [hp]) (by simpa using hl) (by simpa using h)
      simp at ih h hl
      have hw : IntKind.i64.wrap (↑p.length + 1) = ↑p.length + 1 := wrap64 (by omega) (by omega)
      have hlt : (p.length : Int) < p.length + (r.length + 1) := by omega
      have hlt2 : p.length < q.length + (m.length + 1) := by omega
      have hlt3 : (p.length : Int) < q.length + (m.length + 1) := by omega
      have hg : (List.map ci q ++ ci d :: List.map ci m)[p.length]'(by simpa using hlt2) = ci d := by simp [hp]
      rw [r28_l0]
      by_cases h0 : c = d
      · subst h0
        simp [c28_l0b, hw, hlt, hlt2, hlt3, hg]
        exact ih
      · simp [c28_l0b, hw, hlt, hlt2, hlt3, hg, h0]

@[simp] theorem S28 (l m : List Int) (h : (l.length : Int) < 9223372036854775807) : fn P 28 [.slice (l.map ci), .slice (m.map ci)] = some (.bool (decide (l = m))) := by
  rw [u28]
  by_cases hl : l.length = m.length
  · have := L28 (P := P) l [] m [] rfl hl (by simpa using h)
    simp at this
    by_cases h0 : l = m
    · rw [if_pos h0] at this
      rw [decide_eq_true h0]
      simp [c28, hl, this]
    · rw [if_neg h0] at this
      rw [decide_eq_false h0]
      simp [c28, hl, this]
  · have h1 : ¬ (l.length : Int) = m.length := by omega
    have h2 : ¬ l = m := fun e => hl (by rw [e])
    simp [c28, h1, h2]

theorem S25 (l m : List Int) (e bad : Int) (h : (l.length : Int) < 9223372036854775807) : fn P 25 [.slice (l.map ci), ci e, ci bad, .slice (m.map ci)] = some (.bool (if bad ≠ 0 then l.isEmpty && (e == bad) else (e == 0) && decide (l = m))) := by
  have e28 := S28 (P := P) l m h
  rw [u25]
  by_cases hb : bad = 0
  · by_cases he : e = 0
    · simp [c25, hb, he, e28]
    · simp [c25, hb, he]
  · cases l with
    | nil => simp [c25, hb] <;> rfl
    | cons x r =>
      have : ¬ (r.length : Int) + 1 = 0 := by omega
      simp [c25, hb, this]
end LM.G6

namespace LM.G6
open Go LM
variable {P : Nat → Option SFunc} [Has P] [HasP P]

def TB (f e w t : Int) : LB := .cells 0 [.c (ci f), .c (ci e), .c (ci w), .c (ci t)] 0
theorem L5_0 (f e w t : Int) : ∀ (r pre : List Pr), ((pre ++ r).length : Int) < 9223372036854775807 →
    execS P (limS P) c5_l0 ⟨[.c (.slice ((pre ++ r).map Pr.enc)), .c (.slice ((pre ++ r).map Pr.enc)), .c (ci pre.length)], [TB f e w t, .dead]⟩ = some (.exit 0, ⟨[], [TB f e w t, .dead]⟩) := by
  intro r
  induction r with
  | nil =>
    intro pre h
    rw [r5_l0]
    simp [c5_l0b]
  | cons x r ih =>
    intro pre h
    have ih := ih (pre ++ [x]) (by simpa using h)
    simp [Pr.enc] at ih h
    have hw : IntKind.i64.wrap (↑pre.length + 1) = ↑pre.length + 1 := wrap64 (by omega) (by omega)
    have hlt : (pre.length : Int) < pre.length + (r.length + 1) := by omega
    have hk : eqK (.many [0, 0]) (CV.agg [ci x.a, ci x.b]) (CV.agg [ci x.a, ci x.b]) = some true := by simp [eqK, keyOk, kindsOk, kindOf, eqCells, eqS]
    rw [r5_l0]
    simp [TB] at ih ⊢
    simp [c5_l0b, hw, hlt, Pr.enc, hk, ih]

def bad1 (n f e w : Int) : Int := firstE [callsE n f e, whenE (badT w) 3]
def bad2 (n f e w t : Int) : Int := firstE [bad1 n f e w, whenE (badT t) 3]
theorem bad1_eq (n f e w : Int) : startsE n f e [w] = if bad1 n f e w = 0 then lateE n f e else bad1 n f e w := by
  unfold bad1 startsE callsE
  have hl : firstE [lateE n f e] = lateE n f e := by unfold lateE whenE; split <;> rfl
  cases h1 : outside n 0 160 <;> cases h2 : badT f <;> cases h3 : badT e <;> cases h4 : badT w <;> simp [h2, h3, h4, whenE, firstE] <;> omega
theorem bad2_eq (n f e w t : Int) : startsE n f e [w, t] = if bad2 n f e w t = 0 then lateE n f e else bad2 n f e w t := by
  unfold bad2 bad1 startsE callsE
  cases h1 : outside n 0 160 <;> cases h2 : badT f <;> cases h3 : badT e <;> cases h4 : badT w <;> cases h5 : badT t <;> simp [h2, h3, h4, h5, whenE, firstE] <;> omega

theorem S5 (h16 : fn P 16 [] = some (.bool true)) (n f e w t : Int) : fn P 5 [ci n, .agg [ci f, ci e, ci w, ci t]] = some (.bool true) := by
  have e39 := S39 (P := P) n f e w
  have e40 := S40 (P := P) n f e w t
  have q1 := bad1_eq n f e w
  have q2 := bad2_eq n f e w t
  have e1 : ∀ b, fn P 22 [.slice [ci (callsE n f e), ci (whenE b 3)]] = some (ci (firstE [callsE n f e, whenE b 3])) := fun b => S22_2 _ _
  have b1 : firstE [callsE n f e, whenE (outside w 0 86399999) 3] = bad1 n f e w := rfl
  have b2 : firstE [bad1 n f e w, whenE (outside t 0 86399999) 3] = bad2 n f e w t := rfl
  rw [u5]
  by_cases g1 : (40 : Int) < n ∧ n ≤ 160
  · simp [c5, h16, g1]
  · by_cases z2 : bad2 n f e w t = 0
    · have z1 : bad1 n f e w = 0 := by
        unfold bad2 at z2
        exact ((firstE_zB _ _).1 z2).1
      rw [if_pos z1] at q1
      rw [if_pos z2] at q2
      by_cases z3 : lateE n f e = 0
      · rw [z3] at q1 q2
        rw [q1, if_pos rfl] at e39
        rw [q2, if_pos rfl] at e40
        obtain ⟨hn, ht, hf, he⟩ := startsE_zero q1
        have hw := ht w (by simp)
        have e44 := S44 (P := P) n f e w hn hf he hw
        have e43 := S43 (P := P) n f e w t hn hf he
        have hl := isoL_le f e w t n.toNat
        have e25 := S25 (P := P) (isoL f e w t n.toNat) (isoL f e w t n.toNat) 0 0 (by omega)
        have hL := L5_0 (P := P) f e w t (callsL f e w n.toNat) [] (by simp [callsL]; omega)
        simp at e25
        simp [TB] at hL
        rw [z1] at b2
        simp [c5, h16, g1, e39, e40, b1, b2, z1, z2, z3, e25, e43, e44, hL]
      · have e25 := S25 (P := P) [] [] (lateE n f e) (lateE n f e) (by simp)
        simp [z3] at e25
        rw [q1, if_neg z3] at e39
        rw [q2, if_neg z3] at e40
        rw [z1] at b2
        simp [c5, h16, g1, e39, e40, b1, b2, z1, z2, z3, e25]
    · have e25 := S25 (P := P) [] [] (bad2 n f e w t) (bad2 n f e w t) (by simp)
      simp [z2] at e25
      rw [if_neg z2] at q2
      rw [q2, if_neg z2] at e40
      by_cases z1 : bad1 n f e w = 0
      · rw [if_pos z1] at q1
        by_cases z3 : lateE n f e = 0
        · rw [z3] at q1
          rw [q1, if_pos rfl] at e39
          obtain ⟨hn, ht, hf, he⟩ := startsE_zero q1
          have hw := ht w (by simp)
          have e44 := S44 (P := P) n f e w hn hf he hw
          have hL := L5_0 (P := P) f e w t (callsL f e w n.toNat) [] (by simp [callsL]; omega)
          simp [TB] at hL
          rw [z1] at b2
          simp [c5, h16, g1, e39, e40, b1, b2, z1, z2, z3, e25, e44, hL]
        · rw [q1, if_neg z3] at e39
          rw [z1] at b2
          simp [c5, h16, g1, e39, e40, b1, b2, z1, z2, z3, e25]
      · rw [if_neg z1] at q1
        rw [q1, if_neg z1] at e39
        simp [c5, h16, g1, e39, e40, b1, b2, z1, z2, e25]
end LM.G6

