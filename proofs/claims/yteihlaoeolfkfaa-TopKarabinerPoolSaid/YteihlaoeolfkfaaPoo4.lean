/- Part 7 of what YteihlaoeolfkfaaPoo leans on. -/
import Derived.Test.YteihlaoeolfkfaaRows
import Derived.WalkKit
import Derived.ProofKit
import Derived.SizedLaws
import Derived.Test.YteihlaoeolfkfaaLib1
import Derived.Test.YteihlaoeolfkfaaLib2
import Derived.Test.YteihlaoeolfkfaaLib3
import Derived.Test.YteihlaoeolfkfaaPoo1
import Derived.Test.YteihlaoeolfkfaaPoo2
import Derived.Test.YteihlaoeolfkfaaPoo3
set_option linter.all false
namespace Go.Proofs.Yteihlaoeolfkfaa
open Go.ChangeShapes Go.WideShapes Go.ChangeAt Go.RowKit

theorem own_knob : ownKnob Try.prog.godebug = none := by kernel_rfl
theorem laid_out : laidOutB Try.prog = true := by kernel_rfl
theorem maps_rowed : mapsRowed Try.prog = true := by kernel_rfl
theorem slices_full : LM.slicesFullB Try.prog = true := by kernel_rfl

theorem typed_map {α : Type} {enc : α → LM.CV} {p : α → Prop} {e : LM.CTy} (h : ∀ x, LM.Typed e x → ∃ a, x = enc a ∧ p a) : ∀ {xs : List LM.CV}, (∀ x ∈ xs, LM.Typed e x) → ∃ l : List α, xs = l.map enc ∧ ∀ a ∈ l, p a
  | [], _ => ⟨[], rfl, by simp⟩
  | x :: xs, hx => by
    obtain ⟨a, ha, hp⟩ := h x (hx x (by simp))
    obtain ⟨l, hl, hq⟩ := typed_map h (xs := xs) fun y hy => hx y (by simp [hy])
    exact ⟨a :: l, by rw [ha, hl]; rfl, fun b hb => by rcases List.mem_cons.1 hb with rfl | hb; exact hp; exact hq b hb⟩

theorem typed_slice {α : Type} {enc : α → LM.CV} {p : α → Prop} {e : LM.CTy} {b : Nat} (h : ∀ x, LM.Typed e x → ∃ a, x = enc a ∧ p a) {v : LM.CV} (hv : LM.Typed (.slice b e) v) : ∃ l : List α, v = .slice (l.map enc) ∧ (∀ a ∈ l, p a) ∧ l.length * b ≤ 2 ^ 47 := by
  simp only [LM.Typed] at hv
  obtain ⟨xs, rfl, _, hb, hx⟩ := hv
  obtain ⟨l, rfl, hp⟩ := typed_map h hx
  refine ⟨l, rfl, hp, ?_⟩
  rw [List.length_map] at hb
  exact Nat.le_trans hb (by decide)

theorem typed_str {v : LM.CV} (hv : LM.Typed .str v) : ∃ s : LM.Str, v = .str s ∧ s.length < 9223372036854775807 := by
  simp only [LM.Typed] at hv
  obtain ⟨s, rfl, h⟩ := hv
  exact ⟨s, rfl, Nat.lt_of_le_of_lt h (by decide)⟩

theorem typed_int {v : LM.CV} (hv : LM.Typed (.int .i64) v) : ∃ n, v = LM.ci n ∧ -9223372036854775808 ≤ n ∧ n ≤ 9223372036854775807 := by
  simp only [LM.Typed] at hv
  obtain ⟨n, rfl, h⟩ := hv
  refine ⟨n, rfl, ?_⟩
  simp [Lit.wf, IntKind.min, IntKind.max, IntKind.bits, IntKind.signed] at h
  omega

end Go.Proofs.Yteihlaoeolfkfaa

namespace LM.GT
open Go LM
variable {P : Nat → Option SFunc} [Has P]

@[simp] theorem S17 (n a b : Int) : fn P 17 [ci n, ci a, ci b] = some (.bool (outside n a b)) := by
  rw [u17]; simp [c17, outside]

@[simp] theorem S42 (n a b : Int) : fn P 42 [ci n, ci a, ci b] = some (.bool (outside n a b)) := by
  rw [u42]; simp [c42, outside]

@[simp] theorem S41 (b : Bool) (e : Int) : fn P 41 [.bool b, ci e] = some (ci (whenE b e)) := by
  rw [u41]; cases b <;> simp [c41, whenE]

@[simp] theorem S26 (d : Int) : fn P 26 [ci d] = some (ci (dated d)) := by
  rw [u26]; simp [c26, dated]

@[simp] theorem S65 (c : Nat) : fn P 65 [.int .i32 c] = some (.bool (letterN c)) := by
  rw [u65]; simp [c65, letterN]
  rw [show decide ((97 : Int) ≤ c) = decide (97 ≤ c) from decide_eq_decide.2 (by omega), show decide ((c : Int) ≤ 122) = decide (c ≤ 122) from decide_eq_decide.2 (by omega),
    show decide ((65 : Int) ≤ c) = decide (65 ≤ c) from decide_eq_decide.2 (by omega), show decide ((c : Int) ≤ 90) = decide (c ≤ 90) from decide_eq_decide.2 (by omega)]

theorem L22 : ∀ (l pre : List Int), (l.length : Int) + pre.length < 9223372036854775807 → execS P (limS P) c22_l0 ⟨[.c (.slice ((pre ++ l).map ci)), .c (ci (pre ++ l).length), .c (ci pre.length)], []⟩ = if firstE l = 0 then some (.exit 0, ⟨[], []⟩) else some (.ret, ⟨[.c (ci (firstE l))], []⟩) := by
  intro l
  induction l with
  | nil =>
    intro pre h
    rw [r22_l0]
    simp [c22_l0b, firstE]
  | cons c r ih =>
    intro pre h
    have ih := ih (pre ++ [c]) (by simp at h ⊢; omega)
    simp at ih h
    have hw : IntKind.i64.wrap (↑pre.length + 1) = ↑pre.length + 1 := wrap64 (by omega) (by omega)
    have hlt : (pre.length : Int) < pre.length + (r.length + 1) := by omega
    rw [r22_l0]
    by_cases hc : c = 0
    · subst hc
      simp [c22_l0b, firstE, hw, hlt, ih]
    · simp [c22_l0b, firstE, hw, hlt, hc]

@[simp] theorem S22 (l : List Int) (h : l.length < 9223372036854775807) : fn P 22 [.slice (l.map ci)] = some (ci (firstE l)) := by
  have := L22 (P := P) l [] (by simp; omega)
  rw [u22]
  simp at this
  simp [c22, this]
  by_cases hc : firstE l = 0 <;> simp [hc]

@[simp] theorem S22_1 (a : Int) : fn P 22 [.slice [ci a]] = some (ci (firstE [a])) := S22 [a] (by simp)
@[simp] theorem S22_2 (a b : Int) : fn P 22 [.slice [ci a, ci b]] = some (ci (firstE [a, b])) := S22 [a, b] (by simp)
@[simp] theorem S22_3 (a b c : Int) : fn P 22 [.slice [ci a, ci b, ci c]] = some (ci (firstE [a, b, c])) := S22 [a, b, c] (by simp)
@[simp] theorem S22_4 (a b c d : Int) : fn P 22 [.slice [ci a, ci b, ci c, ci d]] = some (ci (firstE [a, b, c, d])) := S22 [a, b, c, d] (by simp)
@[simp] theorem S22_5 (a b c d e : Int) : fn P 22 [.slice [ci a, ci b, ci c, ci d, ci e]] = some (ci (firstE [a, b, c, d, e])) := S22 [a, b, c, d, e] (by simp)

theorem L16 (s : Str) (hs : s.length ≤ 24) : ∀ (l pre : Str), s = pre ++ l → execS P (limS P) c16_l0 ⟨[.c (.str s), .c (ci pre.length)], []⟩ = if nameFrom pre.length l then some (.exit 0, ⟨[], []⟩) else some (.ret, ⟨[.c (.bool false)], []⟩) := by
  intro l
  induction l with
  | nil =>
    intro pre h
    rw [r16_l0]
    simp [c16_l0b, h, nameFrom]
  | cons c r ih =>
    intro pre h
    have ih := ih (pre ++ [c]) (by simp [h])
    simp at ih
    rw [h] at hs
    simp at hs
    have hw : IntKind.i64.wrap (↑pre.length + 1) = ↑pre.length + 1 := wrap64 (by omega) (by omega)
    have hlt : (pre.length : Int) < pre.length + (r.length + 1) := by omega
    have hn : (((↑c.toNat : Int) < 97 ∨ 122 < (↑c.toNat : Int)) ∧ ((↑c.toNat : Int) < 65 ∨ 90 < (↑c.toNat : Int))) ∧ (pre = [] ∨ ((↑c.toNat : Int) < 48 ∨ 57 < (↑c.toNat : Int)) ∧ ¬(↑c.toNat : Int) = 95) ↔ nameN pre.length c.toNat = false := by
      have hp : pre = [] ↔ pre.length = 0 := by simp
      unfold nameN letterN digitN
      cases pre with
      | nil => simp; omega
      | cons x y => simp; omega
    rw [r16_l0]
    simp [c16_l0b, h, nameFrom, hw, hlt, hn]
    rw [← h, ih]
    cases nameN pre.length c.toNat <;> simp

@[simp] theorem S16 (s : Str) : fn P 16 [.str s] = some (.bool (isName s)) := by
  rw [u16]
  by_cases h1 : s.length < 1
  · have : s = [] := List.eq_nil_of_length_eq_zero (by omega)
    subst this
    simp [c16, isName]
  · by_cases h2 : s.length > 24
    · have h3 : ¬ (s.length : Int) < 1 := by omega
      have h4 : (24 : Int) < (s.length : Int) := by omega
      have h5 : ¬ s.length ≤ 24 := by omega
      simp [c16, isName, h3, h4, h5]
    · have := L16 (P := P) s (by omega) s [] rfl
      simp at this
      have h3 : ¬ (s.length : Int) < 1 := by omega
      have h4 : ¬ (24 : Int) < (s.length : Int) := by omega
      have h5 : s.length ≤ 24 := by omega
      have h6 : 1 ≤ s.length := by omega
      simp [c16, isName, h3, h4, h5, h6, this]
      cases nameFrom 0 s <;> simp

theorem L49 (s : Str) (hs : s.length < 9223372036854775807) : ∀ (l pre : Str), s = pre ++ l → ∃ q, execS P (limS P) c49_l0 ⟨[.c (.str s), .ptr 0 0 0], [.iter s pre.length]⟩ = if nameFrom pre.length l then some (.exit 0, ⟨[.c (.str s)], [.iter s s.length]⟩) else some (.ret, ⟨[.c (.bool false)], [.iter s q]⟩) := by
  intro l
  induction l with
  | nil =>
    intro pre h
    refine ⟨0, ?_⟩
    rw [r49_l0]
    simp [c49_l0b, h, nameFrom]
  | cons c r ih =>
    intro pre h
    obtain ⟨q, ih⟩ := ih (pre ++ [c]) (by simp [h])
    simp at ih
    have hc : s[pre.length]? = some c := by simp [h]
    rw [r49_l0]
    rcases Nat.lt_or_ge c.toNat 128 with hlo | hhi
    · have hd := decode_lo hc hlo
      rw [h] at hd
      have hn : (letterN c.toNat = false ∧ (pre = [] ∨ ¬(↑c.toNat : Int) = 95 ∧ ((↑c.toNat : Int) < 48 ∨ 57 < (↑c.toNat : Int)))) ↔ nameN pre.length c.toNat = false := by
        unfold nameN digitN
        cases pre with
        | nil => simp
        | cons x y => simp; cases letterN c.toNat <;> simp; omega
      refine ⟨if nameN pre.length c.toNat = false then pre.length + 1 else q, ?_⟩
      simp [c49_l0b, h, nameFrom, hd, hn]
      rw [h] at ih
      simp at ih
      cases nameN pre.length c.toNat <;> simp [ih]
    · have hd := decode_hi hc hhi
      rw [h] at hd
      have hl : letterN (Utf8.decode { data := List.toArray (pre ++ c :: r) } pre.length).fst = false := by
        have := nameN_hi (i := 0) hd
        simpa [nameN] using this
      have h1 : ¬ (↑(Utf8.decode { data := List.toArray (pre ++ c :: r) } pre.length).fst : Int) = 95 := by omega
      have h2 : (57 : Int) < (↑(Utf8.decode { data := List.toArray (pre ++ c :: r) } pre.length).fst : Int) := by omega
      refine ⟨pre.length + (Utf8.decode { data := List.toArray (pre ++ c :: r) } pre.length).snd, ?_⟩
      simp [c49_l0b, h, nameFrom, hl, h1, h2, nameN_hi hhi]

@[simp] theorem S49 (s : Str) (hs : s.length < 9223372036854775807) : fn P 49 [.str s] = some (.bool (isName s)) := by
  rw [u49]
  obtain ⟨q, this⟩ := L49 (P := P) s hs s [] rfl
  simp at this
  simp [c49, this]
  cases hn : nameFrom 0 s
  · simp [isName, hn]
  · cases s with
    | nil => simp [isName]
    | cons c r =>
      simp [isName, hn]
      omega

@[simp] theorem S40 (s : Str) (hs : s.length < 9223372036854775807) : fn P 40 [.str s] = some (ci (named s)) := by
  rw [u40]; simp [c40, hs, named]

end LM.GT

namespace LM.GT
open Go LM
variable {P : Nat → Option SFunc} [Has P]

structure Lic where
  name : Str
  frm : Int
  to : Int
def Lic.enc (x : Lic) : CV := .agg [.str x.name, ci x.frm, ci x.to]
def Lic.ok (x : Lic) : Prop := x.name.length < 9223372036854775807

def checkLic (x : Lic) : Int := firstE [named x.name, dated x.frm, dated x.to, whenE (decide (x.frm > x.to)) 11]

/-- The first error of a list's elements. -/
def eachE {α : Type} (chk : List α → α → Int) : List α → List α → Int
  | _, [] => 0
  | pre, x :: r => if chk pre x ≠ 0 then chk pre x else eachE chk (pre ++ [x]) r

def checkLics (l : List Lic) : Int := if (l.length : Int) > 256 then 5 else eachE (fun _ => checkLic) [] l

end LM.GT

namespace LM.GT
open Go LM

/-- The number of the first element of a kind, or -1. -/
def idxF {α : Type} (p : α → Bool) : Nat → List α → Int
  | _, [] => -1
  | n, x :: r => if p x then n else idxF p (n + 1) r

theorem idxF_lt {α : Type} (p : α → Bool) : ∀ (l : List α) (n : Nat), (idxF p n l < 0) ↔ l.any p = false
  | [], n => by simp [idxF]
  | x :: r, n => by
    unfold idxF
    cases h : p x
    · simp [h, idxF_lt p r (n + 1)]
    · simp [h]

theorem idxF_none {α : Type} {p : α → Bool} : ∀ {l : List α} {n : Nat}, l.any p = false → idxF p n l = -1
  | [], n, _ => rfl
  | x :: r, n, h => by
    simp only [List.any_cons, Bool.or_eq_false_iff] at h
    rw [idxF, if_neg (by simp [h.1]), idxF_none h.2]

theorem idxF_dec {α : Type} (p : α → Bool) (l : List α) (n : Nat) : decide (0 ≤ idxF p n l) = l.any p := by
  have := idxF_lt p l n
  cases h : l.any p
  · have := this.2 h
    simp; omega
  · have : ¬ idxF p n l < 0 := fun q => by rw [this.1 q] at h; cases h
    simp; omega

end LM.GT

namespace LM.GT
open Go LM
variable {P : Nat → Option SFunc} [Has P]

def Str.is (s : Str) (x : Str) : Bool := x == s
theorem Str.is_eq (s x : Str) : Str.is s x = decide (x = s) := by unfold Str.is; by_cases h : x = s <;> simp [h]
theorem Str.is_eq' (s x : Str) : Str.is s x = decide (s = x) := by rw [Str.is_eq]; exact decide_eq_decide.2 eq_comm

theorem L64 (s : Str) : ∀ (l pre : List Str), ((pre ++ l).length : Int) < 9223372036854775807 →
    execS P (limS P) c64_l0 ⟨[.c (.slice ((pre ++ l).map CV.str)), .c (.str s), .c (ci (pre ++ l).length), .c (ci pre.length)], []⟩ = if l.any (Str.is s) then some (.ret, ⟨[.c (ci (idxF (Str.is s) pre.length l))], []⟩) else some (.exit 0, ⟨[], []⟩) := by
  intro l
  induction l with
  | nil =>
    intro pre h
    rw [r64_l0]
    simp [c64_l0b]
  | cons x r ih =>
    intro pre h
    have ih := ih (pre ++ [x]) (by simpa using h)
    simp at ih h
    have hw : IntKind.i64.wrap (↑pre.length + 1) = ↑pre.length + 1 := wrap64 (by omega) (by omega)
    have hlt : (pre.length : Int) < pre.length + (r.length + 1) := by omega
    have e := Str.is_eq' s x
    rw [r64_l0]
    by_cases h0 : s = x
    · simp only [h0, decide_true] at e
      simp [c64_l0b, hw, hlt, idxF, h0, e]
    · simp only [h0, decide_false] at e
      simp [c64_l0b, hw, hlt, idxF, h0, e, ih]

theorem S48 (s : Str) (l : List Str) (h : (l.length : Int) < 9223372036854775807) : fn P 48 [.slice (l.map CV.str), .str s] = some (.bool (l.any (Str.is s))) := by
  have hl := L64 (P := P) s l [] (by simpa using h)
  have h2 : fn P 64 [.slice (l.map CV.str), .str s] = some (ci (idxF (Str.is s) 0 l)) := by
    rw [u64]
    simp at hl
    simp [c64, hl]
    exact fun hx => (idxF_none (by simpa using hx)).symm
  rw [u48]
  simp [c48, h2, idxF_dec]

def once (pre : List Str) (s : Str) : Int := firstE [named s, whenE (pre.any (Str.is s)) 9]

theorem S37 (s : Str) (hs : s.length < 9223372036854775807) (pre : List Str) (h : (pre.length : Int) < 9223372036854775807) : fn P 37 [.str s, .slice (pre.map CV.str)] = some (ci (once pre s)) := by
  have h1 := S48 (P := P) s pre h
  rw [u37]
  simp [c37, hs, h1, once]

theorem L36 : ∀ (l pre : List Str), (∀ x ∈ l, x.length < 9223372036854775807) → ((pre ++ l).length : Int) < 9223372036854775807 →
    execS P (limS P) c36_l0 ⟨[.c (.slice ((pre ++ l).map CV.str)), .c (.func 37 [] []), .c (.slice ((pre ++ l).map CV.str)), .c (ci (pre ++ l).length), .c (ci pre.length)], []⟩ = if eachE once pre l = 0 then some (.exit 0, ⟨[], []⟩) else some (.ret, ⟨[.c (ci (eachE once pre l))], []⟩) := by
  intro l
  induction l with
  | nil =>
    intro pre hl h
    rw [r36_l0]
    simp [c36_l0b, eachE]
  | cons c r ih =>
    intro pre hl h
    have ih := ih (pre ++ [c]) (fun x hx => hl x (by simp [hx])) (by simpa using h)
    have hc := S37 (P := P) c (hl c (by simp)) pre (by simp at h; omega)
    have ht : List.take pre.length (List.map CV.str pre ++ CV.str c :: List.map CV.str r) = pre.map CV.str := by simp
    simp at ih h
    have hw : IntKind.i64.wrap (↑pre.length + 1) = ↑pre.length + 1 := wrap64 (by omega) (by omega)
    have hlt : (pre.length : Int) < pre.length + (r.length + 1) := by omega
    have hz : szFits 1 (List.map CV.str pre ++ CV.str c :: List.map CV.str r) = true := by cases pre <;> rfl
    have hb : (pre.length : Int) ≤ pre.length + (r.length + 1) := by omega
    rw [r36_l0]
    by_cases h0 : once pre c = 0
    · simp [c36_l0b, eachE, hw, hlt, hc, hz, hb, ht, h0, ih]
    · simp [c36_l0b, eachE, hw, hlt, hc, hz, hb, ht, h0]

def onceL (m : Int) (l : List Str) : Int := if (l.length : Int) > m then 5 else eachE once [] l

theorem S36 (l : List Str) (m : Int) (hl : ∀ x ∈ l, x.length < 9223372036854775807) (h : (l.length : Int) < 9223372036854775807) : fn P 36 [.slice (l.map CV.str), ci m, .func 37 [] []] = some (ci (onceL m l)) := by
  rw [u36]
  have this := L36 (P := P) l [] hl (by simpa using h)
  simp at this
  unfold onceL
  by_cases hm : (l.length : Int) > m
  · have hm' : m < (l.length : Int) := hm
    simp [c36, hm']
  · have hm' : ¬ m < (l.length : Int) := hm
    simp [c36, hm', this]
    by_cases h0 : eachE once [] l = 0 <;> simp [h0]

theorem L12 (s : Str) : ∀ (l pre : List Str), ((pre ++ l).length : Int) < 9223372036854775807 →
    execS P (limS P) c12_l0 ⟨[.c (.slice ((pre ++ l).map CV.str)), .c (.str s), .c (ci pre.length)], []⟩ = if l.any (Str.is s) then some (.ret, ⟨[.c (.bool true)], []⟩) else some (.exit 0, ⟨[], []⟩) := by
  intro l
  induction l with
  | nil =>
    intro pre h
    rw [r12_l0]
    simp [c12_l0b]
  | cons x r ih =>
    intro pre h
    have ih := ih (pre ++ [x]) (by simpa using h)
    simp at ih h
    have hw : IntKind.i64.wrap (↑pre.length + 1) = ↑pre.length + 1 := wrap64 (by omega) (by omega)
    have hlt : (pre.length : Int) < pre.length + (r.length + 1) := by omega
    have e := Str.is_eq s x
    rw [r12_l0]
    by_cases h0 : x = s
    · simp only [h0, decide_true] at e
      simp [c12_l0b, hw, hlt, h0, e]
    · simp only [h0, decide_false] at e
      simp [c12_l0b, hw, hlt, h0, e, ih]

theorem S12 (s : Str) (l : List Str) (h : (l.length : Int) < 9223372036854775807) : fn P 12 [.slice (l.map CV.str), .str s] = some (.bool (l.any (Str.is s))) := by
  have hl := L12 (P := P) s l [] (by simpa using h)
  simp [-List.any_eq_true] at hl
  rw [u12]
  cases h0 : l.any (Str.is s) <;> rw [h0] at hl <;> simp [c12, hl]

theorem once_eq (pre : List Str) (s : Str) : once pre s = if isName s = false then 8 else if pre.any (Str.is s) then 9 else 0 := by
  unfold once named whenE
  cases isName s <;> cases pre.any (Str.is s) <;> simp [firstE]

theorem L15 : ∀ (l pre : List Str), ((pre ++ l).length : Int) < 9223372036854775807 →
    execS P (limS P) c15_l0 ⟨[.c (.slice ((pre ++ l).map CV.str)), .c (ci pre.length)], []⟩ = if eachE once pre l = 0 then some (.exit 0, ⟨[], []⟩) else some (.ret, ⟨[.c (ci (eachE once pre l))], []⟩) := by
  intro l
  induction l with
  | nil =>
    intro pre h
    rw [r15_l0]
    simp [c15_l0b, eachE]
  | cons c r ih =>
    intro pre h
    have ih := ih (pre ++ [c]) (by simpa using h)
    have hc := S12 (P := P) c pre (by simp at h; omega)
    have ht : List.take pre.length (List.map CV.str pre ++ CV.str c :: List.map CV.str r) = pre.map CV.str := by simp
    have he := once_eq pre c
    simp at ih h
    have hw : IntKind.i64.wrap (↑pre.length + 1) = ↑pre.length + 1 := wrap64 (by omega) (by omega)
    have hlt : (pre.length : Int) < pre.length + (r.length + 1) := by omega
    have hz : szFits 1 (List.map CV.str pre ++ CV.str c :: List.map CV.str r) = true := by cases pre <;> rfl
    have hb : (pre.length : Int) ≤ pre.length + (r.length + 1) := by omega
    rw [r15_l0]
    cases h1 : isName c
    · rw [h1] at he
      simp [c15_l0b, eachE, hw, hlt, hz, hb, ht, h1, he]
    · cases h2 : pre.any (Str.is c)
      · rw [h1, h2] at he
        rw [h2] at hc
        simp at he
        simp [c15_l0b, eachE, hw, hlt, hz, hb, ht, h1, he, hc, ih]
      · rw [h1, h2] at he
        rw [h2] at hc
        simp at he
        simp [c15_l0b, eachE, hw, hlt, hz, hb, ht, h1, he, hc]

theorem S15 (l : List Str) (h : (l.length : Int) < 9223372036854775807) : fn P 15 [.slice (l.map CV.str)] = some (ci (eachE once [] l)) := by
  have this := L15 (P := P) l [] (by simpa using h)
  simp at this
  rw [u15]
  by_cases h0 : eachE once [] l = 0 <;> simp [c15, this, h0]

def shortS (s : Str) : Bool := decide (s.length ≤ 40)
theorem L14 (n : Int) : ∀ (l pre : List Str), ((pre ++ l).length : Int) < 9223372036854775807 →
    execS P (limS P) c14_l0 ⟨[.c (.slice ((pre ++ l).map CV.str)), .c (ci n), .c (ci pre.length)], []⟩ = if l.all shortS then some (.exit 0, ⟨[.c (.slice ((pre ++ l).map CV.str)), .c (ci n)], []⟩) else some (.ret, ⟨[.c (.bool false)], []⟩) := by
  intro l
  induction l with
  | nil =>
    intro pre h
    rw [r14_l0]
    simp [c14_l0b]
  | cons c r ih =>
    intro pre h
    have ih := ih (pre ++ [c]) (by simpa using h)
    simp [-List.all_eq_true] at ih h
    have hw : IntKind.i64.wrap (↑pre.length + 1) = ↑pre.length + 1 := wrap64 (by omega) (by omega)
    have hlt : (pre.length : Int) < pre.length + (r.length + 1) := by omega
    have e : shortS c = decide (c.length ≤ 40) := rfl
    have q : (40 : Int) < c.length ↔ ¬ c.length ≤ 40 := by omega
    rw [r14_l0]
    by_cases h0 : c.length ≤ 40 <;> simp [c14_l0b, hw, hlt, q, h0, e, ih, -List.all_eq_true, -Nat.not_le]

def shortL (l : List Str) (n : Int) : Bool := l.all shortS && decide ((l.length : Int) ≤ n)
theorem S14 (l : List Str) (n : Int) (h : (l.length : Int) < 9223372036854775807) : fn P 14 [.slice (l.map CV.str), ci n] = some (.bool (shortL l n)) := by
  have this := L14 (P := P) n l [] (by simpa using h)
  simp [-List.all_eq_true] at this
  rw [u14]
  unfold shortL
  cases h0 : l.all shortS <;> rw [h0] at this <;> simp [c14, this]

end LM.GT

namespace LM.GT
open Go LM
variable {P : Nat → Option SFunc} [Has P]

def cI (xs : List Int) : List LV := xs.map fun v => LV.c (ci v)
theorem cI_length (xs : List Int) : (cI xs).length = xs.length := by simp [cI]
theorem cI_get {xs : List Int} {i : Nat} (h : i < xs.length) : (cI xs)[i]'(by rw [cI_length]; exact h) = .c (ci (xs.getD i 0)) := by
  simp [cI, List.getD_eq_getElem?_getD, h]
theorem cI_set (xs : List Int) (i : Nat) (v : Int) : (cI xs).set i (.c (ci v)) = cI (xs.set i v) := by
  unfold cI
  rw [List.map_set]
theorem cellsOf_ints (xs : List Int) : cellsOf (xs.map ci) = cI xs := by
  induction xs with
  | nil => rfl
  | cons x r ih =>
    have : cellsOf ((x :: r).map ci) = .c (ci x) :: cellsOf (r.map ci) := rfl
    rw [this, ih]
    rfl
theorem intElems (l : List Int) : ∀ x ∈ l.map ci, Elem none x := by
  intro x hx
  obtain ⟨y, _, rfl⟩ := List.mem_map.1 hx
  exact ⟨rfl, rfl⟩
theorem under_cI (n : Nat) (xs : List Int) : underL n (cI xs) = true := by rw [← cellsOf_ints]; exact underL_cellsOf _ _

theorem shift_cI (n : Nat) : ∀ xs : List Int, shiftL n (cI xs) = cI xs
  | [] => rfl
  | x :: r => by
    have : cI (x :: r) = .c (ci x) :: cI r := rfl
    rw [this, shiftL, shift_cI n r]
    rfl

def sw (xs : List Int) (i k : Nat) : List Int := (xs.set i (xs.getD k 0)).set k (xs.getD i 0)
theorem sw_length (xs : List Int) (i k : Nat) : (sw xs i k).length = xs.length := by simp [sw]

def nextX (x : Int) : Int := (48271 * x).tmod 2147483647
def drawN (n : Nat) : Nat → Nat → Int → List Int → List Int
  | 0, _, _, xs => xs
  | m + 1, i, x, xs => drawN n m (i + 1) (nextX x) (sw xs i (i + ((nextX x).tmod ((n : Int) - i)).toNat))
def iota (n : Nat) : List Int := (List.range n).map fun (k : Nat) => (k : Int)
def drawL (key : Int) (n : Nat) : List Int := drawN n (n - 1) 0 key (iota n)
theorem iota_length (n : Nat) : (iota n).length = n := by simp [iota]
theorem drawN_length (n : Nat) : ∀ (m i : Nat) (x : Int) (xs : List Int), (drawN n m i x xs).length = xs.length
  | 0, _, _, _ => rfl
  | m + 1, i, x, xs => by rw [drawN, drawN_length, sw_length]
theorem drawL_length (key : Int) (n : Nat) : (drawL key n).length = n := by rw [drawL, drawN_length, iota_length]

theorem nextX_range {x : Int} (h0 : 0 ≤ x) (h1 : x ≤ 2147483646) : 0 ≤ nextX x ∧ nextX x ≤ 2147483646 := by
  unfold nextX
  rw [Int.tmod_eq_emod_of_nonneg (by omega)]
  omega
theorem step_range {x : Int} {n i : Nat} (h0 : 0 ≤ x) (hi : i < n) : 0 ≤ x.tmod ((n : Int) - i) ∧ x.tmod ((n : Int) - i) < (n : Int) - i := by
  rw [Int.tmod_eq_emod_of_nonneg h0]
  exact ⟨Int.emod_nonneg _ (by omega), Int.emod_lt_of_pos _ (by omega)⟩

theorem sw_mem {xs : List Int} {i k : Nat} (hi : i < xs.length) (hk : k < xs.length) : ∀ v ∈ sw xs i k, v ∈ xs := by
  intro v hv
  unfold sw at hv
  rcases List.mem_or_eq_of_mem_set hv with h | h
  · rcases List.mem_or_eq_of_mem_set h with h | h
    · exact h
    · rw [h, List.getD_eq_getElem?_getD, List.getElem?_eq_getElem hk]; exact List.getElem_mem hk
  · rw [h, List.getD_eq_getElem?_getD, List.getElem?_eq_getElem hi]; exact List.getElem_mem hi

theorem drawN_mem (n : Nat) : ∀ (m i : Nat) (x : Int) (xs : List Int), i + m < n → 0 ≤ x → x ≤ 2147483646 → xs.length = n → ∀ v ∈ drawN n m i x xs, v ∈ xs
  | 0, _, _, _, _, _, _, _, v, hv => hv
  | m + 1, i, x, xs, hm, h0, h1, hl, v, hv => by
    rw [drawN] at hv
    have hx := nextX_range h0 h1
    have hs := step_range (n := n) (i := i) hx.1 (by omega)
    have := drawN_mem n m (i + 1) _ _ (by omega) hx.1 hx.2 (by rw [sw_length, hl]) v hv
    exact sw_mem (by omega) (by omega) v this

theorem drawL_range {key : Int} {n : Nat} (h0 : 1 ≤ key) (h1 : key ≤ 2147483646) : ∀ v ∈ drawL key n, 0 ≤ v ∧ v < n := by
  intro v hv
  unfold drawL at hv
  have hv : v ∈ iota n := by
    rcases Nat.eq_zero_or_pos n with h | h
    · subst h; exact hv
    · exact drawN_mem n (n - 1) 0 key _ (by omega) (by omega) h1 (iota_length n) v hv
  unfold iota at hv
  obtain ⟨k, hk, rfl⟩ := List.mem_map.1 hv
  have := List.mem_range.1 hk
  omega

theorem L10_1 (n : Nat) (hn : n ≤ 256) (cap : Option Nat) : ∀ (m i : Nat) (x : Int) (xs : List Int), i + m + 1 = n → 0 ≤ x → x ≤ 2147483646 → xs.length = n →
    execS P (limS P) c10_l1 ⟨[.c (ci n), .slice 1 1 0 n none cap, .c (ci x), .c (ci i)], [.cells 1 [] 0, .cells 1 (cI xs) 0]⟩ =
      some (.exit 2, ⟨[.slice 1 1 0 n none cap], [.cells 1 [] 0, .cells 1 (cI (drawN n m i x xs)) 0]⟩) := by
  intro m
  induction m with
  | zero =>
    intro i x xs hm h0 h1 hl
    have hw : IntKind.i64.wrap ((n : Int) - 1) = (n : Int) - 1 := wrap64 (by omega) (by omega)
    have hlt : ¬ (i : Int) < (n : Int) - 1 := by omega
    rw [r10_l1]
    simp [c10_l1b, hw, hlt, drawN]
  | succ m ih =>
    intro i x xs hm h0 h1 hl
    have hx := nextX_range h0 h1
    have hs := step_range (n := n) (i := i) hx.1 (by omega)
    have ih := ih (i + 1) (nextX x) (sw xs i (i + ((nextX x).tmod ((n : Int) - i)).toNat)) (by omega) hx.1 hx.2 (by rw [sw_length, hl])
    obtain ⟨k, hk⟩ : ∃ k : Nat, (nextX x).tmod ((n : Int) - i) = (k : Int) := ⟨((nextX x).tmod ((n : Int) - i)).toNat, by omega⟩
    rw [hk] at ih hs
    have hw : IntKind.i64.wrap ((n : Int) - 1) = (n : Int) - 1 := wrap64 (by omega) (by omega)
    have hw1 : IntKind.i64.wrap (48271 * x) = 48271 * x := wrap64 (by omega) (by omega)
    have hw2 : (48271 * x).tmod 2147483647 = nextX x := rfl
    have hw3 : IntKind.i64.wrap ((n : Int) - i) = (n : Int) - i := wrap64 (by omega) (by omega)
    have hw4 : IntKind.i64.wrap (k : Int) = k := wrap64 (by omega) (by omega)
    have hw5 : IntKind.i64.wrap ((i : Int) + k) = (i : Int) + k := wrap64 (by omega) (by omega)
    have hw6 : IntKind.i64.wrap ((i : Int) + 1) = (i : Int) + 1 := wrap64 (by omega) (by omega)
    have hlt : (i : Int) < (n : Int) - 1 := by omega
    have hnz : ¬ (n : Int) - i = 0 := by omega
    have hi : i < n := by omega
    have hik : i + k < n := by omega
    have hi' : i < xs.length := by omega
    have hik' : i + k < xs.length := by omega
    have hkt : ((i : Int) + k).toNat = i + k := by omega
    have hk0 : 0 ≤ (i : Int) + k := by omega
    have hk1 : (i : Int) + k < n := by omega
    have hii : (i : Int) < n := by omega
    have g1 := cI_get hi'
    have g2 := cI_get hik'
    have e : drawN n (m + 1) i x xs = drawN n m (i + 1) (nextX x) (sw xs i (i + k)) := by rw [drawN, hk]; rfl
    simp [sw, hi', hik'] at ih
    have hi1 : i + 1 ≤ n := by omega
    have hik1 : i + k + 1 ≤ n := by omega
    rw [e]
    rw [r10_l1]
    simp [c10_l1b, hw, hw1, hw2, hw3, hw4, hw5, hw6, hlt, hk, hnz, hi, hik, hi', hik', hkt, hk0, hk1, hii, g1, g2, cI_length, cI_set, hl, under_cI, sw, hi1, hik1, ih]


theorem iota_set (n i : Nat) (h : i < n) : ((iota i) ++ List.replicate (n - i) 0).set i (i : Int) = iota (i + 1) ++ List.replicate (n - (i + 1)) 0 := by
  rw [List.set_append_right _ _ (by rw [iota_length]; exact Nat.le_refl _), iota_length, Nat.sub_self]
  have e : n - i = (n - (i + 1)) + 1 := by omega
  rw [e, List.replicate_succ, List.set_cons_zero]
  unfold iota
  rw [List.range_succ, List.map_append, List.append_assoc]
  rfl

theorem L10_0 (n : Nat) (key : Int) (hn : n ≤ 256) (cap : Option Nat) : ∀ (m i : Nat), i + m = n →
    execS P (limS P) c10_l0 ⟨[.c (ci key), .c (ci n), .slice 1 1 0 n none cap, .c (ci n), .c (ci i)], [.cells 1 [] 0, .cells 1 (cI (iota i ++ List.replicate (n - i) 0)) 0]⟩ =
      some (.exit 0, ⟨[.c (ci key), .c (ci n), .slice 1 1 0 n none cap], [.cells 1 [] 0, .cells 1 (cI (iota n)) 0]⟩) := by
  intro m
  induction m with
  | zero =>
    intro i hm
    simp at hm
    subst hm
    rw [r10_l0]
    simp [c10_l0b]
  | succ m ih =>
    intro i hm
    have ih := ih (i + 1) (by omega)
    have hs := iota_set n i (by omega)
    have hw : IntKind.i64.wrap ((i : Int) + 1) = (i : Int) + 1 := wrap64 (by omega) (by omega)
    have hlt : (i : Int) < n := by omega
    have hi : i < i + (n - i) := by omega
    simp at ih
    rw [r10_l0]
    have hni : ¬ n - i = 0 := by omega
    simp [c10_l0b, hw, hlt, hi, hni, cI_length, iota_length, cI_set, hs, under_cI, ih]

/-- The error of a draw. -/
def drawE (key : Int) (n : Int) : Int := if key < 1 ∨ key > 2147483646 ∨ n < 0 ∨ n > 256 then 3 else 0

theorem S18 (key n : Int) : fn P 18 [ci key, ci n] = some (ci (drawE key n)) := by
  rw [u18]
  unfold drawE
  by_cases h1 : key < 1 <;> by_cases h2 : 2147483646 < key <;> by_cases h3 : n < 0 <;> by_cases h4 : (256 : Int) < n <;> simp [c18, h1, h2, h3, h4]

theorem S90e (key n : Int) (h : drawE key n ≠ 0) : ffn P 10 [ci key, ci n] = some (.tuple [.slice 1 1 0 0 none none, .c (ci 3)], [.cells 1 [] 0, .cells 1 [] 0]) := by
  rw [u10]
  unfold drawE at h
  by_cases h1 : key < 1 <;> by_cases h2 : 2147483646 < key <;> by_cases h3 : n < 0 <;> by_cases h4 : (256 : Int) < n <;> simp [h1, h2, h3, h4] at h <;> simp [c10, h1, h2, h3, h4, mkTuple]

theorem S10 (key : Int) (n : Nat) (h : drawE key n = 0) : ffn P 10 [ci key, ci n] = some (.tuple [.slice 1 1 0 n none (some n), .c (ci 0)], [.cells 1 [] 0, .cells 1 (cI (drawL key n)) 0]) := by
  unfold drawE at h
  split at h
  · cases h
  · rename_i hx
    have h1 : ¬ key < 1 := fun e => hx (.inl e)
    have h2 : ¬ 2147483646 < key := fun e => hx (.inr (.inl e))
    have h3 : ¬ (n : Int) < 0 := by omega
    have h4 : ¬ (256 : Int) < n := fun e => hx (.inr (.inr (.inr e)))
    have l0 := L10_0 (P := P) n key (by omega) (some n) n 0 (by omega)
    have hz : cI (iota 0 ++ List.replicate (n - 0) 0) = List.replicate n (.c (ci 0)) := by simp [iota, cI]
    rw [hz] at l0
    simp at l0
    rw [u10]
    rcases Nat.eq_zero_or_pos n with hn | hn
    · subst hn
      have hw : IntKind.i64.wrap (-1) = -1 := wrap64 (by omega) (by omega)
      have l1 : execS P (limS P) c10_l1 ⟨[.c (ci 0), .slice 1 1 0 0 none (some 0), .c (ci key), .c (ci 0)], [.cells 1 [] 0, .cells 1 [] 0]⟩ = some (.exit 2, ⟨[.slice 1 1 0 0 none (some 0)], [.cells 1 [] 0, .cells 1 [] 0]⟩) := by
        rw [r10_l1]
        simp [c10_l1b, hw]
      have e : drawL key 0 = [] := rfl
      have e0 : cI (iota 0) = [] := rfl
      rw [e0] at l0
      simp at l0
      simp [c10, h1, h2, l0, l1, mkTuple, e, allC]
      rfl
    · have l1 := L10_1 (P := P) n (by omega) (some n) (n - 1) 0 key (iota n) (by omega) (by omega) (by omega) (iota_length n)
      simp at l1
      have q1 : (n : Int) * 8 ≤ 140737488355328 := by omega
      have q2 : (n : Int) ≤ 9223372036854775807 := by omega
      simp [c10, h1, h2, h4, l0, l1, q1, q2, mkTuple, drawL]

end LM.GT

namespace LM.GT
open Go LM
variable {P : Nat → Option SFunc} [Has P]

structure Pck where
  count : Int
  spare : Int
  key : Int
def Pck.enc (p : Pck) : CV := .agg [ci p.count, ci p.spare, ci p.key]
def pickE (p : Pck) : Int := if outside p.count 0 160 || outside p.spare 0 99999 then 3 else drawE p.key 0
theorem drawE_cases (key n : Int) : drawE key n = 0 ∨ drawE key n = 3 := by unfold drawE; split <;> simp

theorem S8 (p : Pck) : fn P 8 [p.enc] = some (ci (pickE p)) := by
  have h := S18 (P := P) p.key 0
  rw [u8]
  unfold pickE
  cases h1 : outside p.count 0 160 <;> cases h2 : outside p.spare 0 99999 <;> simp [c8, Pck.enc, h, h1, h2]

theorem S25 (p : Pck) : fn P 25 [p.enc] = some (ci (pickE p)) := by
  rw [u25]
  unfold pickE
  rcases drawE_cases p.key 0 with h | h
  · have e := S10 (P := P) p.key 0 h
    simp at e
    cases h1 : outside p.count 0 160 <;> cases h2 : outside p.spare 0 99999 <;> simp [c25, Pck.enc, e, h, h1, h2, whenE, LV.shift, shiftL, shiftB, LB.shift, shift_cI]
  · have e := S90e (P := P) p.key 0 (by rw [h]; omega)
    cases h1 : outside p.count 0 160 <;> cases h2 : outside p.spare 0 99999 <;> simp [c25, Pck.enc, e, h, h1, h2, whenE, LV.shift, shiftL, shiftB, LB.shift]

theorem S23 (l : List Str) (hl : ∀ x ∈ l, x.length < 9223372036854775807) (h : (l.length : Int) < 9223372036854775807) : fn P 23 [.slice (l.map CV.str)] = some (ci (onceL 160 l)) := by
  have e := S36 (P := P) l 160 hl h
  rw [u23]
  simp [c23, e]

theorem S6 (l : List Str) (h : (l.length : Int) < 9223372036854775807) : fn P 6 [.slice (l.map CV.str)] = some (ci (onceL 160 l)) := by
  have e := S15 (P := P) l h
  rw [u6]
  unfold onceL
  by_cases h1 : (160 : Int) < l.length <;> simp [c6, e, h1]

end LM.GT

namespace LM.GT
open Go LM
variable {P : Nat → Option SFunc} [Has P]

structure Clm where
  name : Str
  nation : Str
  born : Int
  cat : Str
def Clm.enc (x : Clm) : CV := .agg [.str x.name, .str x.nation, ci x.born, .str x.cat]
def Clm.ptr (x : Clm) : CV := .ptr [.str x.name, .str x.nation, ci x.born, .str x.cat] 0
def Clm.ok (x : Clm) : Prop := x.name.length < 9223372036854775807 ∧ x.nation.length < 9223372036854775807 ∧ x.cat.length < 9223372036854775807

def Clm.is (n : Str) (x : Clm) : Bool := x.name == n

/-- A climber's error behind others. -/
def checkClm (pre : List Clm) (x : Clm) : Int := firstE [named x.name, named x.nation, named x.cat, whenE (pre.any (Clm.is x.name)) 9, dated x.born]

def checkClms (l : List Clm) : Int := if (l.length : Int) > 160 then 5 else eachE checkClm [] l

end LM.GT

namespace LM.GT
open Go LM
variable {P : Nat → Option SFunc} [Has P]

structure Tst where
  name : Str
  day : Int
def Tst.enc (x : Tst) : CV := .agg [.str x.name, ci x.day]
def Tst.ptr (x : Tst) : CV := .ptr [.str x.name, ci x.day] 0
def Tst.ok (x : Tst) : Prop := x.name.length < 9223372036854775807
theorem Tst.elem (x : Tst) : Elem (some 2) x.enc := ⟨_, rfl, rfl, by simp⟩
theorem Tst.elems (l : List Tst) : ∀ x ∈ l.map Tst.enc, Elem (some 2) x := by
  intro x hx
  obtain ⟨y, _, rfl⟩ := List.mem_map.1 hx
  exact y.elem

/-- A test's error. -/
def checkTst (x : Tst) : Int := firstE [named x.name, dated x.day]

theorem S39 (x : Tst) (hx : x.ok) (pre : List Tst) (_ : (pre.length : Int) < 9223372036854775807) : fn P 39 [x.enc, .slice (pre.map Tst.enc)] = some (ci (checkTst x)) := by
  rw [u39]
  unfold Tst.ok at hx
  simp [c39, Tst.enc, hx, checkTst]

theorem L38 : ∀ (l pre : List Tst), (∀ x ∈ l, x.ok) → ((pre ++ l).length : Int) < 9223372036854775807 →
    ∃ h', execS P (limS P) c38_l0 ⟨[.c (.slice ((pre ++ l).map Tst.enc)), .c (.func 39 [] []), .c (.slice ((pre ++ l).map Tst.enc)), .c (ci (pre ++ l).length), .c (ci pre.length)], []⟩ = if eachE (fun _ => checkTst) pre l = 0 then some (.exit 0, ⟨[], []⟩) else some (.ret, ⟨[.c (ci (eachE (fun _ => checkTst) pre l))], h'⟩) := by
  intro l
  induction l with
  | nil =>
    intro pre hl h
    rw [r38_l0]
    exact ⟨[], by simp [c38_l0b, eachE]⟩
  | cons c r ih =>
    intro pre hl h
    obtain ⟨h', ih⟩ := ih (pre ++ [c]) (fun x hx => hl x (by simp [hx])) (by simpa using h)
    have hc := S39 (P := P) c (hl c (by simp)) pre (by simp at h; omega)
    have ht : List.take pre.length (List.map Tst.enc pre ++ c.enc :: List.map Tst.enc r) = pre.map Tst.enc := by simp
    simp [Tst.enc] at ih h hc ht
    have hw : IntKind.i64.wrap (↑pre.length + 1) = ↑pre.length + 1 := wrap64 (by omega) (by omega)
    have hlt : (pre.length : Int) < pre.length + (r.length + 1) := by omega
    have hz : szFits 2 (List.map Tst.enc pre ++ CV.agg [CV.str c.name, ci c.day] :: List.map Tst.enc r) = true := by cases pre <;> rfl
    have hb : (pre.length : Int) ≤ pre.length + (r.length + 1) := by omega
    rw [r38_l0]
    by_cases h0 : (fun _ => checkTst) pre c = 0
    · refine ⟨h', ?_⟩
      simp [c38_l0b, eachE, hw, hlt, Tst.enc, hc, hz, hb, ht, h0, ih]
    · refine ⟨[LB.cells 0 [LV.c (CV.str c.name), LV.c (ci c.day)] 0], ?_⟩
      simp [c38_l0b, eachE, hw, hlt, Tst.enc, hc, hz, hb, ht, h0]

theorem S38 (l : List Tst) (m : Int) (hl : ∀ x ∈ l, x.ok) (h : (l.length : Int) < 9223372036854775807) : fn P 38 [.slice (l.map Tst.enc), ci m, .func 39 [] []] = some (ci (if (l.length : Int) > m then 5 else eachE (fun _ => checkTst) [] l)) := by
  rw [u38]
  obtain ⟨h', this⟩ := L38 (P := P) l [] hl (by simpa using h)
  simp at this
  by_cases hm : (l.length : Int) > m
  · have hm' : m < (l.length : Int) := hm
    simp [c38, hm']
  · have hm' : ¬ m < (l.length : Int) := hm
    simp [c38, hm', this]
    by_cases h0 : eachE (fun _ => checkTst) [] l = 0 <;> simp [h0]

def checkTsts (l : List Tst) : Int := if (l.length : Int) > 256 then 5 else eachE (fun _ => checkTst) [] l

@[simp] theorem S24 (l : List Tst) (hl : ∀ x ∈ l, x.ok) (h : (l.length : Int) < 9223372036854775807) : fn P 24 [.slice (l.map Tst.enc)] = some (ci (checkTsts l)) := by
  rw [u24]
  have := S38 (P := P) l 256 hl h
  simp [c24, this, checkTsts]

end LM.GT

namespace LM.GT
open Go LM

theorem strElem (s : Str) : Elem none (CV.str s) := ⟨rfl, rfl⟩
theorem strElems (l : List Str) : ∀ x ∈ l.map CV.str, Elem none x := by
  intro x hx
  obtain ⟨y, _, rfl⟩ := List.mem_map.1 hx
  exact strElem y

end LM.GT

namespace LM.GT
open Go LM

def lastF (name : Str) (a b : Int) (acc : Int) (x : Tst) : Int := if x.name = name ∧ a ≤ x.day ∧ x.day ≤ b then max acc x.day else acc
/-- The day of the last test of a climber from a day to another one, or -1. -/
def lastT (l : List Tst) (name : Str) (a b : Int) : Int := l.foldl (lastF name a b) (-1)
def lateL (c : List Str) (l : List Tst) (days day : Int) : List Str := c.filter fun s => decide (lastT l s (day - days) day < 0)
end LM.GT

namespace LM.GT
open Go LM
variable {P : Nat → Option SFunc} [Has P]

theorem checkTst_eq (x : Tst) : checkTst x = if isName x.name = false then 8 else if outside x.day 0 99999 then 3 else 0 := by
  unfold checkTst named dated whenE
  cases isName x.name <;> cases outside x.day 0 99999 <;> simp [firstE]

theorem L7 : ∀ (l pre : List Tst), ((pre ++ l).length : Int) < 9223372036854775807 →
    execS P (limS P) c7_l0 ⟨[.c (.slice ((pre ++ l).map Tst.enc)), .c (ci pre.length)], []⟩ = if eachE (fun _ => checkTst) pre l = 0 then some (.exit 0, ⟨[], []⟩) else some (.ret, ⟨[.c (ci (eachE (fun _ => checkTst) pre l))], []⟩) := by
  intro l
  induction l with
  | nil =>
    intro pre h
    rw [r7_l0]
    simp [c7_l0b, eachE]
  | cons c r ih =>
    intro pre h
    have ih := ih (pre ++ [c]) (by simpa using h)
    have he := checkTst_eq c
    simp [Tst.enc] at ih h
    have hw : IntKind.i64.wrap (↑pre.length + 1) = ↑pre.length + 1 := wrap64 (by omega) (by omega)
    have hlt : (pre.length : Int) < pre.length + (r.length + 1) := by omega
    rw [r7_l0]
    cases h1 : isName c.name <;> cases h2 : outside c.day 0 99999 <;> rw [h1, h2] at he <;> simp at he <;> simp [c7_l0b, hw, hlt, Tst.enc, eachE, he, h1, h2, ih]

@[simp] theorem S7 (l : List Tst) (h : (l.length : Int) < 9223372036854775807) : fn P 7 [.slice (l.map Tst.enc)] = some (ci (checkTsts l)) := by
  rw [u7]
  have := L7 (P := P) l [] (by simpa using h)
  simp at this
  unfold checkTsts
  by_cases h1 : (256 : Int) < l.length
  · simp [c7, h1]
  · simp [c7, h1, this]
    by_cases h0 : eachE (fun _ => checkTst) [] l = 0 <;> simp [h0]

def Tst.short (x : Tst) : Bool := decide (x.name.length ≤ 40)
theorem L5 (C : CV) : ∀ (l pre : List Tst), ((pre ++ l).length : Int) < 9223372036854775807 →
    execS P (limS P) c5_l0 ⟨[.c C, .c (.slice ((pre ++ l).map Tst.enc)), .c (ci pre.length)], []⟩ = if l.all Tst.short then some (.exit 0, ⟨[.c C, .c (.slice ((pre ++ l).map Tst.enc))], []⟩) else some (.ret, ⟨[.c (.bool false)], []⟩) := by
  intro l
  induction l with
  | nil =>
    intro pre h
    rw [r5_l0]
    simp [c5_l0b]
  | cons c r ih =>
    intro pre h
    have ih := ih (pre ++ [c]) (by simpa using h)
    simp [Tst.enc, -List.all_eq_true] at ih h
    have hw : IntKind.i64.wrap (↑pre.length + 1) = ↑pre.length + 1 := wrap64 (by omega) (by omega)
    have hlt : (pre.length : Int) < pre.length + (r.length + 1) := by omega
    have e : Tst.short c = decide (c.name.length ≤ 40) := rfl
    have q1 : (40 : Int) < c.name.length ↔ ¬ c.name.length ≤ 40 := by omega
    rw [r5_l0]
    by_cases h1 : c.name.length ≤ 40 <;>
      simp [c5_l0b, hw, hlt, Tst.enc, q1, h1, e, ih, -List.all_eq_true, -Nat.not_le]

def shortTsts (c : List Str) (l : List Tst) : Bool := l.all Tst.short && (shortL c 163 && decide ((l.length : Int) ≤ 259))
theorem S5 (c : List Str) (l : List Tst) (hc : (c.length : Int) < 9223372036854775807) (h : (l.length : Int) < 9223372036854775807) : fn P 5 [.slice (c.map CV.str), .slice (l.map Tst.enc)] = some (.bool (shortTsts c l)) := by
  rw [u5]
  have this := L5 (P := P) (.slice (c.map CV.str)) l [] (by simpa using h)
  have h84 := S14 (P := P) c 163 hc
  simp [-List.all_eq_true] at this
  unfold shortTsts
  cases h0 : l.all Tst.short <;> rw [h0] at this
  · simp [c5, this]
  · cases h1 : shortL c 163 <;> rw [h1] at h84 <;> simp [c5, this, h84]

end LM.GT

namespace LM.GT
open Go LM
variable {P : Nat → Option SFunc} [Has P]

/-- A map from texts to numbers. -/
abbrev Mp := List (Str × Int)
def mKs (M : Mp) : List CV := M.map fun p => CV.str p.1
def mVs (M : Mp) : List CV := M.map fun p => ci p.2
def mIdx (k : Str) : Mp → Option Nat
  | [] => none
  | p :: r => if k = p.1 then some 0 else (mIdx k r).map (· + 1)
def mGet (k : Str) : Mp → Option Int
  | [] => none
  | p :: r => if k = p.1 then some p.2 else mGet k r
def mPut (M : Mp) (k : Str) (v : Int) : Mp := match mIdx k M with
  | some i => M.set i (k, v)
  | none => M ++ [(k, v)]

theorem findK_mp (k : Str) : ∀ M : Mp, findK (.one 1) (.str k) (mKs M) = some (mIdx k M)
  | [] => rfl
  | p :: r => by
    have ih := findK_mp k r
    unfold mKs at ih ⊢
    simp only [List.map_cons, findK]
    have e : eqK (.one 1) (.str k) (.str p.1) = some (decide (k = p.1)) := by by_cases h : k = p.1 <;> simp [eqK, keyOk, kindOf, eqS, h]
    rw [e, mIdx]
    by_cases h : k = p.1
    · simp [h]
    · simp only [h, decide_false, if_false]
      rw [ih]
      cases mIdx k r <;> rfl

theorem mIdx_some {k : Str} : ∀ {M : Mp} {i : Nat}, mIdx k M = some i → ∃ v, M[i]? = some (k, v) ∧ mGet k M = some v
  | [], _, h => by simp [mIdx] at h
  | p :: r, i, h => by
    rw [mIdx] at h
    split at h
    · rename_i hk
      simp at h
      subst h
      exact ⟨p.2, by simp [hk], by simp [mGet, hk]⟩
    · rename_i hk
      cases h2 : mIdx k r with
      | none => rw [h2] at h; simp at h
      | some i' =>
        rw [h2] at h
        simp at h
        subst h
        obtain ⟨v, h3, h4⟩ := mIdx_some h2
        exact ⟨v, by simpa using h3, by simp [mGet, hk, h4]⟩
theorem mIdx_none {k : Str} : ∀ {M : Mp}, mIdx k M = none → mGet k M = none
  | [], _ => rfl
  | p :: r, h => by
    rw [mIdx] at h
    split at h
    · cases h
    · rename_i hk
      cases h2 : mIdx k r with
      | none => rw [mGet, if_neg hk]; exact mIdx_none h2
      | some i' => rw [h2] at h; simp at h

theorem mGet_append (k k' : Str) (v : Int) : ∀ M : Mp, mGet k' (M ++ [(k, v)]) = match mGet k' M with
    | some w => some w
    | none => if k' = k then some v else none
  | [] => by simp [mGet]
  | p :: r => by
    simp only [List.cons_append, mGet]
    split
    · rfl
    · exact mGet_append k k' v r

theorem mGet_set {k : Str} (k' : Str) (v : Int) : ∀ {M : Mp} {i : Nat}, mIdx k M = some i → mGet k' (M.set i (k, v)) = if k' = k then some v else mGet k' M
  | [], _, h => by simp [mIdx] at h
  | p :: r, i, h => by
    rw [mIdx] at h
    split at h
    · rename_i hk
      simp at h
      subst h
      simp only [List.set_cons_zero, mGet]
      by_cases e : k' = k
      · simp [e]
      · have : ¬ k' = p.1 := by rw [← hk]; exact e
        simp [e, this]
    · rename_i hk
      cases h2 : mIdx k r with
      | none => rw [h2] at h; simp at h
      | some i' =>
        rw [h2] at h
        simp at h
        subst h
        have ih := mGet_set k' v h2
        simp only [List.set_cons_succ, mGet, ih]
        by_cases e : k' = p.1
        · have : ¬ k' = k := fun q => hk (by rw [← q, e])
          simp [e, this]
          intro q
          exact absurd (q ▸ rfl) hk
        · simp [e]

theorem mGet_put (M : Mp) (k k' : Str) (v : Int) : mGet k' (mPut M k v) = if k' = k then some v else mGet k' M := by
  unfold mPut
  cases h : mIdx k M with
  | some i => exact mGet_set k' v h
  | none =>
    have := mIdx_none h
    simp only
    rw [mGet_append]
    by_cases e : k' = k
    · subst e; simp [this]
    · simp [e]; cases mGet k' M <;> rfl

/-- The map of last tests, one test further. -/
def later (M : Mp) (x : Tst) : Bool := match mGet x.name M with
  | none => true
  | some d => decide (d < x.day)
def upd (day : Int) (M : Mp) (x : Tst) : Mp := if x.day ≤ day ∧ later M x = true then mPut M x.name x.day else M
def testedM (l : List Tst) (day : Int) : Mp := l.foldl (upd day) []

theorem tested_get (n : Str) (day : Int) : ∀ (l : List Tst) (M : Mp) (acc : Int), (∀ x ∈ l, 0 ≤ x.day) → ((mGet n M = none ∧ acc = -1) ∨ (mGet n M = some acc ∧ 0 ≤ acc)) →
    ((mGet n (l.foldl (upd day) M) = none ∧ l.foldl (lastF n 0 day) acc = -1) ∨ (mGet n (l.foldl (upd day) M) = some (l.foldl (lastF n 0 day) acc) ∧ 0 ≤ l.foldl (lastF n 0 day) acc))
  | [], _, _, _, h => h
  | x :: r, M, acc, hx, h => by
    simp only [List.foldl_cons]
    have hx0 := hx x (by simp)
    refine tested_get n day r _ _ (fun y hy => hx y (by simp [hy])) ?_
    by_cases hn : x.name = n
    · subst hn
      by_cases hd : x.day ≤ day
      · have eL : lastF x.name 0 day acc x = max acc x.day := by unfold lastF; rw [if_pos ⟨rfl, hx0, hd⟩]
        rw [eL]
        rcases h with ⟨h1, h2⟩ | ⟨h1, h2⟩
        · have hl : later M x = true := by unfold later; rw [h1]
          have eU : upd day M x = mPut M x.name x.day := by unfold upd; rw [if_pos ⟨hd, hl⟩]
          rw [eU, mGet_put, if_pos rfl]
          right
          exact ⟨by congr 1; omega, by omega⟩
        · have hl : later M x = decide (acc < x.day) := by unfold later; rw [h1]
          by_cases h3 : acc < x.day
          · have eU : upd day M x = mPut M x.name x.day := by unfold upd; rw [if_pos ⟨hd, by rw [hl]; exact decide_eq_true h3⟩]
            rw [eU, mGet_put, if_pos rfl]
            right
            exact ⟨by congr 1; omega, by omega⟩
          · have eU : upd day M x = M := by unfold upd; rw [if_neg (fun q => h3 (of_decide_eq_true (hl ▸ q.2)))]
            rw [eU, h1]
            right
            exact ⟨by congr 1; omega, by omega⟩
      · have eL : lastF x.name 0 day acc x = acc := by unfold lastF; rw [if_neg (fun q => hd q.2.2)]
        have eU : upd day M x = M := by unfold upd; rw [if_neg (fun q => hd q.1)]
        rw [eU, eL]
        exact h
    · have eL : lastF n 0 day acc x = acc := by unfold lastF; rw [if_neg (fun q => hn q.1)]
      rw [eL]
      unfold upd
      split
      · rw [mGet_put, if_neg (fun q => hn q.symm)]
        exact h
      · exact h

theorem tested_last (l : List Tst) (n : Str) (day : Int) (hx : ∀ x ∈ l, 0 ≤ x.day) : (mGet n (testedM l day) = none ∧ lastT l n 0 day = -1) ∨ (mGet n (testedM l day) = some (lastT l n 0 day) ∧ 0 ≤ lastT l n 0 day) :=
  tested_get n day l [] (-1) hx (.inl ⟨rfl, rfl⟩)

theorem lastF_spec (n : Str) (a b : Int) : ∀ (l : List Tst) (acc : Int), acc ≤ l.foldl (lastF n a b) acc ∧ (∀ x ∈ l, x.name = n → a ≤ x.day → x.day ≤ b → x.day ≤ l.foldl (lastF n a b) acc) ∧ (l.foldl (lastF n a b) acc = acc ∨ ∃ x ∈ l, x.name = n ∧ a ≤ x.day ∧ x.day ≤ b ∧ l.foldl (lastF n a b) acc = x.day)
  | [], acc => ⟨Int.le_refl _, by simp, .inl rfl⟩
  | x :: r, acc => by
    simp only [List.foldl_cons]
    obtain ⟨h1, h2, h3⟩ := lastF_spec n a b r (lastF n a b acc x)
    by_cases hc : x.name = n ∧ a ≤ x.day ∧ x.day ≤ b
    · have e : lastF n a b acc x = max acc x.day := by unfold lastF; rw [if_pos hc]
      rw [e] at h1 h2 h3 ⊢
      refine ⟨by omega, fun y hy => ?_, ?_⟩
      · rcases List.mem_cons.1 hy with rfl | hy
        · intros; omega
        · exact h2 y hy
      · rcases h3 with h3 | ⟨y, hy, h3⟩
        · by_cases hm : acc ≤ x.day
          · exact .inr ⟨x, by simp, hc.1, hc.2.1, hc.2.2, by rw [h3]; omega⟩
          · exact .inl (by rw [h3]; omega)
        · exact .inr ⟨y, by simp [hy], h3⟩
    · have e : lastF n a b acc x = acc := by unfold lastF; rw [if_neg hc]
      rw [e] at h1 h2 h3 ⊢
      refine ⟨h1, fun y hy => ?_, ?_⟩
      · rcases List.mem_cons.1 hy with rfl | hy
        · intro a1 a2 a3; exact absurd ⟨a1, a2, a3⟩ hc
        · exact h2 y hy
      · rcases h3 with h3 | ⟨y, hy, h3⟩
        · exact .inl h3
        · exact .inr ⟨y, by simp [hy], h3⟩

/-- Was nobody tested on the days before? By the last test of all. -/
theorem last_spared {l : List Tst} {n : Str} {day s : Int} (hx : ∀ x ∈ l, 0 ≤ x.day) (hs : 0 ≤ s) : lastT l n (day - s) day < 0 ↔ (lastT l n 0 day < 0 ∨ lastT l n 0 day < day - s) := by
  obtain ⟨a1, a2, a3⟩ := lastF_spec n (day - s) day l (-1)
  obtain ⟨b1, b2, b3⟩ := lastF_spec n 0 day l (-1)
  have ea : l.foldl (lastF n (day - s) day) (-1) = lastT l n (day - s) day := rfl
  have eb : l.foldl (lastF n 0 day) (-1) = lastT l n 0 day := rfl
  rw [ea] at a1 a2 a3
  rw [eb] at b1 b2 b3
  constructor
  · intro h
    rcases b3 with b3 | ⟨x, hx1, hx2, hx3, hx4, hx5⟩
    · left; omega
    · right
      by_cases hc : day - s ≤ x.day
      · have := a2 x hx1 hx2 hc hx4; omega
      · omega
  · intro h
    rcases a3 with a3 | ⟨x, hx1, hx2, hx3, hx4, hx5⟩
    · omega
    · have h0 := hx x hx1
      have := b2 x hx1 hx2 h0 hx4
      omega

end LM.GT

namespace LM.GT
open Go LM
variable {P : Nat → Option SFunc} [Has P]

def mVl (M : Mp) : List LV := (mVs M).map LV.c
theorem mVl_get {M : Mp} {i : Nat} {k : Str} {v : Int} (h : M[i]? = some (k, v)) : (mVl M)[i]? = some (.c (ci v)) := by simp [mVl, mVs, h]
theorem mVl_set (M : Mp) (i : Nat) (k : Str) (v : Int) : (mVl M).set i (.c (ci v)) = mVl (M.set i (k, v)) := by
  unfold mVl mVs
  rw [List.map_set, List.map_set]
theorem mKs_set {M : Mp} {i : Nat} {k : Str} (v : Int) (h : mIdx k M = some i) : mKs (M.set i (k, v)) = mKs M := by
  obtain ⟨w, hw, _⟩ := mIdx_some h
  obtain ⟨hi, hw⟩ := List.getElem?_eq_some_iff.1 hw
  unfold mKs
  rw [List.map_set]
  apply List.ext_getElem
  · simp
  · intro j h1 h2
    rw [List.getElem_set]
    by_cases e : i = j
    · subst e; simp [hw]
    · simp [e]
theorem under_mVl (n : Nat) (M : Mp) : underL n (mVl M) = true := underL_map_c n _
theorem mapH_mVl (n : Nat) (M : Mp) (h : Heap) : mapH (frz (n + 1)) (mVl M) h = some (mVs M, h) := mapH_map_c n _ h

theorem L27 (day : Int) : ∀ (l pre : List Tst) (M : Mp), ((pre ++ l).length : Int) < 9223372036854775807 →
    execS P (limS P) c27_l0 ⟨[.c (ci day), .map 0, .c (.slice ((pre ++ l).map Tst.enc)), .c (ci (pre ++ l).length), .c (ci pre.length)], [.map (mKs M) (mVl M) false]⟩ =
      some (.exit 0, ⟨[.map 0], [.map (mKs (l.foldl (upd day) M)) (mVl (l.foldl (upd day) M)) false]⟩) := by
  intro l
  induction l with
  | nil =>
    intro pre M h
    rw [r27_l0]
    simp [c27_l0b]
  | cons c r ih =>
    intro pre M h
    have ih := ih (pre ++ [c]) (upd day M c) (by simpa using h)
    simp [Tst.enc] at ih h
    have hw : IntKind.i64.wrap (↑pre.length + 1) = ↑pre.length + 1 := wrap64 (by omega) (by omega)
    have hlt : (pre.length : Int) < pre.length + (r.length + 1) := by omega
    have hk : keyOk (.one 1) (CV.str c.name) = true := rfl
    have hf := findK_mp c.name M
    rw [r27_l0]
    cases hi : mIdx c.name M with
    | none =>
      rw [hi] at hf
      have hg := mIdx_none hi
      have hl : later M c = true := by unfold later; rw [hg]
      have hp : mPut M c.name c.day = M ++ [(c.name, c.day)] := by unfold mPut; rw [hi]
      by_cases h1 : c.day ≤ day
      · have eU : upd day M c = M ++ [(c.name, c.day)] := by unfold upd; rw [if_pos ⟨h1, hl⟩, hp]
        have e1 : mKs (M ++ [(c.name, c.day)]) = mKs M ++ [.str c.name] := by simp [mKs]
        have e2 : mVl (M ++ [(c.name, c.day)]) = mVl M ++ [.c (ci c.day)] := by simp [mVl, mVs]
        rw [eU, e1, e2] at ih
        simp [c27_l0b, hw, hlt, Tst.enc, hk, hf, h1, eU, under_mVl, ih]
      · have eU : upd day M c = M := by unfold upd; rw [if_neg (fun q => h1 q.1)]
        rw [eU] at ih
        simp [c27_l0b, hw, hlt, Tst.enc, hk, hf, h1, eU, under_mVl, ih]
    | some i =>
      rw [hi] at hf
      obtain ⟨v, hv, hg⟩ := mIdx_some hi
      have hv2 := mVl_get hv
      have hl : later M c = decide (v < c.day) := by unfold later; rw [hg]
      have hp : mPut M c.name c.day = M.set i (c.name, c.day) := by unfold mPut; rw [hi]
      by_cases h1 : c.day ≤ day
      · by_cases h2 : v < c.day
        · have eU : upd day M c = M.set i (c.name, c.day) := by unfold upd; rw [if_pos ⟨h1, by rw [hl]; exact decide_eq_true h2⟩, hp]
          rw [eU, mKs_set _ hi, ← mVl_set] at ih
          have hu : underL 1 ((mVl M).set i (.c (ci c.day))) = true := by rw [mVl_set M i c.name c.day]; exact under_mVl _ _
          simp [c27_l0b, hw, hlt, Tst.enc, hk, hf, hv2, h1, h2, eU, hu, ih]
        · have eU : upd day M c = M := by unfold upd; rw [if_neg (fun q => h2 (of_decide_eq_true (hl ▸ q.2)))]
          rw [eU] at ih
          simp [c27_l0b, hw, hlt, Tst.enc, hk, hf, hv2, h1, h2, eU, under_mVl, ih]
      · have eU : upd day M c = M := by unfold upd; rw [if_neg (fun q => h1 q.1)]
        rw [eU] at ih
        simp [c27_l0b, hw, hlt, Tst.enc, hk, hf, hv2, h1, eU, under_mVl, ih]

def mEnc (M : Mp) : CV := .map (mKs M) (mVs M)
theorem S27 (l : List Tst) (day : Int) (h : (l.length : Int) < 9223372036854775807) : fn P 27 [.slice (l.map Tst.enc), ci day] = some (mEnc (testedM l day)) := by
  have hL := L27 (P := P) day l [] [] (by simpa using h)
  have e1 : mKs [] = [] := rfl
  have e2 : mVl [] = [] := rfl
  rw [e1, e2] at hL
  simp at hL
  rw [u27]
  have e : l.foldl (upd day) [] = testedM l day := rfl
  rw [e] at hL
  simp [c27, hL, resV, mapH_mVl, mEnc]

/-- The day of a climber's last test, or -1. -/
def mLast (M : Mp) (s : Str) : Int := match mGet s M with
  | some d => d
  | none => -1
theorem S28 (M : Mp) (s : Str) : fn P 28 [.str s, .ptr [mEnc M] 0] = some (ci (mLast M s)) := by
  have hk : keyOk (.one 1) (CV.str s) = true := rfl
  have hf := findK_mp s M
  rw [u28]
  unfold mLast
  cases hi : mIdx s M with
  | none =>
    rw [hi] at hf
    rw [mIdx_none hi]
    simp [c28, mEnc, hk, hf]
  | some i =>
    rw [hi] at hf
    obtain ⟨v, hv, hg⟩ := mIdx_some hi
    have hv2 : (mVs M)[i]? = some (ci v) := by simp [mVs, hv]
    rw [hg]
    simp [c28, mEnc, hk, hf, hv2]

def cmpI (a b : Int) : Int := if a < b then -1 else if b < a then 1 else 0
theorem S31 (a b : Int) : fn P 31 [ci a, ci b] = some (ci (cmpI a b)) := by
  have e : ∀ x : Int, fn P 44 [ci x] = some (.bool false) := fun x => by rw [u44]; simp [c44]
  rw [u31]
  unfold cmpI
  by_cases h1 : a < b <;> by_cases h2 : b < a <;> simp [c31, e, h1, h2]

end LM.GT

namespace LM.GT
open Go LM
variable {P : Nat → Option SFunc} [Has P]

def cS (xs : List Str) : List LV := xs.map fun s => LV.c (.str s)
theorem cS_length (xs : List Str) : (cS xs).length = xs.length := by simp [cS]
theorem cS_append (xs ys : List Str) : cS (xs ++ ys) = cS xs ++ cS ys := by simp [cS]
theorem cellsOf_strs (xs : List Str) : cellsOf (xs.map CV.str) = cS xs := by
  induction xs with
  | nil => rfl
  | cons x r ih =>
    have : cellsOf ((x :: r).map CV.str) = .c (.str x) :: cellsOf (r.map CV.str) := rfl
    rw [this, ih]
    rfl

/-- An element goes left past all greater ones. -/
def insL (key : Str → Int) (x : Str) : List Str → List Str → List Str
  | [], Q => x :: Q
  | y :: L, Q => if key x < key y then insL key x L (y :: Q) else L.reverse ++ y :: x :: Q

/-- The comparison of the pool. -/
def cmpC (F : CV) : CV := .func 30 [] [.ptr [F] 0]
def CmpOk (P : Nat → Option SFunc) (F : CV) (key : Str → Int) : Prop := ∀ x y, fn P 30 [.str x, .str y, .ptr [F] 0] = some (ci (cmpI (key x) (key y)))

variable {F : CV} {key : Str → Int} {H : Heap} {b g : Nat}

theorem take_set (X : LB) : List.take H.length (H.set b X) = H.set b X := List.take_of_length_le (by simp)

theorem L50_0 (hC : CmpOk P F key) (hb : b < H.length) (hg : g ≠ 0) (A : List Str) (a bb i : Int) (ha : a = A.length) (n : Nat) (hn : n < 9223372036854775807) : ∀ (L : List Str) (x : Str) (Q : List Str), n = A.length + L.length + 1 + Q.length →
    execS P (limS P) c50_l0 ⟨[.slice b g 0 n none none, .c (ci a), .c (ci bb), .c (cmpC F), .c (ci i), .c (ci (A.length + L.length))], H.set b (.cells g (cS (A ++ L.reverse ++ x :: Q)) 0)⟩ =
      some (.exit 2, ⟨[.slice b g 0 n none none, .c (ci a), .c (ci bb), .c (cmpC F), .c (ci i)], H.set b (.cells g (cS (A ++ insL key x L Q)) 0)⟩) := by
  subst ha
  intro L
  induction L with
  | nil =>
    intro x Q h
    rw [r50_l0]
    simp [c50_l0b, insL]
  | cons y L ih =>
    intro x Q h
    have ih := ih x (y :: Q) (by simp at h ⊢; omega)
    simp at h
    have hc := hC x y
    have hlt : (A.length : Int) < A.length + (L.length + 1) := by omega
    have hw : IntKind.i64.wrap ((A.length : Int) + (L.length + 1) - 1) = A.length + L.length := by
      rw [show (A.length : Int) + (L.length + 1) - 1 = A.length + L.length from by omega]; exact wrap64 (by omega) (by omega)
    have t1 : ((A.length : Int) + (L.length + 1)).toNat = A.length + (L.length + 1) := by omega
    have t2 : ((A.length : Int) + L.length).toNat = A.length + L.length := by omega
    have i1 : (A.length : Int) + (L.length + 1) < n := by omega
    have i2 : (A.length : Int) + L.length < n := by omega
    have j1 : 0 ≤ (A.length : Int) + (L.length + 1) := by omega
    have j2 : 0 ≤ (A.length : Int) + L.length := by omega
    have e : A ++ (y :: L).reverse ++ x :: Q = A ++ (L.reverse ++ y :: x :: Q) := by simp
    have g1 : (cS (A ++ (L.reverse ++ y :: x :: Q)))[A.length + L.length]? = some (.c (.str y)) := by
      unfold cS; rw [List.getElem?_map, List.getElem?_append_right (by omega), List.getElem?_append_right (by simp)]; simp
    have g2 : (cS (A ++ (L.reverse ++ y :: x :: Q)))[A.length + (L.length + 1)]? = some (.c (.str x)) := by
      unfold cS; rw [List.getElem?_map, List.getElem?_append_right (by omega), List.getElem?_append_right (by simp), List.length_reverse, show A.length + (L.length + 1) - A.length - L.length = 1 from by omega]; simp
    have gs : ((cS (A ++ (L.reverse ++ y :: x :: Q))).set (A.length + (L.length + 1)) (.c (.str y))).set (A.length + L.length) (.c (.str x)) = cS (A ++ (L.reverse ++ x :: y :: Q)) := by
      have q : cS (A ++ (L.reverse ++ y :: x :: Q)) = (cS A ++ cS L.reverse) ++ .c (.str y) :: .c (.str x) :: cS Q := by simp [cS]
      have q2 : cS (A ++ (L.reverse ++ x :: y :: Q)) = (cS A ++ cS L.reverse) ++ .c (.str x) :: .c (.str y) :: cS Q := by simp [cS]
      have ql : (cS A ++ cS L.reverse).length = A.length + L.length := by simp [cS_length]
      rw [q, q2, List.set_append_right _ _ (by omega), ql, show A.length + (L.length + 1) - (A.length + L.length) = 1 from by omega, List.set_cons_succ, List.set_cons_zero, List.set_append_right _ _ (by omega), ql, Nat.sub_self, List.set_cons_zero]
    obtain ⟨_, g1⟩ := List.getElem?_eq_some_iff.1 g1
    obtain ⟨_, g2⟩ := List.getElem?_eq_some_iff.1 g2
    have k1 : A.length + (L.length + 1) + 1 ≤ A.length + (L.length + (Q.length + 1 + 1)) := by omega
    have k2 : A.length + L.length + 1 ≤ A.length + (L.length + (Q.length + 1 + 1)) := by omega
    rw [e]
    rw [r50_l0]
    simp only [insL]
    by_cases hk : key x < key y
    · have hcv : cmpI (key x) (key y) = -1 := by unfold cmpI; rw [if_pos hk]
      rw [hcv] at hc
      have ih' := ih
      simp [cmpC] at ih
      simp [c50_l0b, cmpC, hb, hlt, hw, t1, t2, i1, i2, j1, j2, g1, g2, gs, hc, hk, take_set, cS_length, k1, k2, ih]
    · have hcv : ¬ cmpI (key x) (key y) < 0 := by unfold cmpI; rw [if_neg hk]; split <;> omega
      simp [c50_l0b, cmpC, hb, hlt, hw, t1, t2, i1, i2, j1, j2, g1, g2, hc, hcv, hk, take_set, cS_length]


theorem insL_append (x : Str) : ∀ (L Q R : List Str), insL key x L (Q ++ R) = insL key x L Q ++ R
  | [], Q, R => rfl
  | y :: L, Q, R => by
    simp only [insL]
    split
    · exact insL_append x L (y :: Q) R
    · simp
/-- Into a sorted list. -/
def insS (key : Str → Int) (x : Str) (S : List Str) : List Str := insL key x S.reverse []
theorem insL_length (x : Str) : ∀ (L Q : List Str), (insL key x L Q).length = L.length + Q.length + 1
  | [], Q => by simp [insL]
  | y :: L, Q => by
    simp only [insL]
    split
    · rw [insL_length x L (y :: Q)]; simp; omega
    · simp; omega
theorem insS_length (x : Str) (S : List Str) : (insS key x S).length = S.length + 1 := by
  unfold insS
  rw [insL_length]
  simp
def sortI (key : Str → Int) : List Str → List Str → List Str
  | S, [] => S
  | S, x :: U => sortI key (insS key x S) U
theorem sortI_length : ∀ (S U : List Str), (sortI key S U).length = S.length + U.length
  | S, [] => rfl
  | S, x :: U => by rw [sortI, sortI_length, insS_length]; simp; omega

theorem L50_1 (hC : CmpOk P F key) (hb : b < H.length) (hg : g ≠ 0) (A T : List Str) (n : Nat) (hn : n < 9223372036854775807) (bb : Int) : ∀ (U S : List Str), n = A.length + S.length + U.length + T.length → bb = A.length + S.length + U.length →
    execS P (limS P) c50_l1 ⟨[.slice b g 0 n none none, .c (ci A.length), .c (ci bb), .c (cmpC F), .c (ci (A.length + S.length))], H.set b (.cells g (cS (A ++ (S ++ (U ++ T)))) 0)⟩ =
      some (.exit 0, ⟨[], H.set b (.cells g (cS (A ++ (sortI key S U ++ T))) 0)⟩) := by
  intro U
  induction U with
  | nil =>
    intro S h1 h2
    have hlt : ¬ (A.length : Int) + S.length < bb := by simp at h2; omega
    rw [r50_l1]
    simp [c50_l1b, hlt, sortI]
  | cons x U ih =>
    intro S h1 h2
    have ih := ih (insS key x S) (by rw [insS_length]; simp at h1 ⊢; omega) (by rw [insS_length]; simp at h2 ⊢; omega)
    have hin := L50_0 (P := P) hC hb hg A A.length bb (A.length + S.length) rfl n hn S.reverse x (U ++ T) (by simp at h1 ⊢; omega)
    have e : insL key x S.reverse (U ++ T) = insS key x S ++ (U ++ T) := insL_append x S.reverse [] (U ++ T)
    rw [e] at hin
    rw [insS_length] at ih
    simp at hin ih h1 h2
    have hlt : (A.length : Int) + S.length < bb := by omega
    have hw : IntKind.i64.wrap ((A.length : Int) + S.length + 1) = (A.length : Int) + (S.length + 1) := by
      rw [Int.add_assoc]; exact wrap64 (by omega) (by omega)
    rw [r50_l1]
    simp only [sortI]
    simp [c50_l1b, hlt, hin, hw, hb, take_set, ih]

theorem S50 (hC : CmpOk P F key) (hb : b < H.length) (hg : g ≠ 0) (A U T : List Str) (n : Nat) (hn : n < 9223372036854775807) (h : n = A.length + U.length + T.length) :
    sfn P 50 [.slice b g 0 n none none, .c (ci A.length), .c (ci (A.length + U.length)), .c (cmpC F)] (H.set b (.cells g (cS (A ++ (U ++ T))) 0)) = some (.c (.tuple []), H.set b (.cells g (cS (A ++ (sortI key [] U ++ T))) 0)) := by
  have hw : IntKind.i64.wrap ((A.length : Int) + 1) = (A.length : Int) + 1 := wrap64 (by omega) (by omega)
  rw [u50]
  cases U with
  | nil =>
    have hlt : ¬ (A.length : Int) + 1 < A.length := by omega
    have hL : execS P (limS P) c50_l1 ⟨[.slice b g 0 n none none, .c (ci A.length), .c (ci A.length), .c (cmpC F), .c (ci ((A.length : Int) + 1))], H.set b (.cells g (cS (A ++ T)) 0)⟩ = some (.exit 0, ⟨[], H.set b (.cells g (cS (A ++ T)) 0)⟩) := by
      rw [r50_l1]
      simp [c50_l1b, hlt]
    simp [c50, hw, hL, sortI]
  | cons x U =>
    have hL := L50_1 (P := P) hC hb hg A T n hn (A.length + (U.length + 1)) U [x] (by simp at h ⊢; omega) (by simp; omega)
    have e : insS key x [] = [x] := rfl
    simp at hL
    simp [c50, hw, hL, sortI, e]

end LM.GT

namespace LM.GT
open Go LM
variable {P : Nat → Option SFunc} [Has P]

theorem frzFuncs_nil (h : Heap) : frzFuncs [] h = some ([], h) := by rw [frzFuncs]
theorem frzFuncs_c (v : CV) (l : List LV) (h : Heap) : frzFuncs (.c v :: l) h = bnd (frzFuncs l h) fun a => some (.c v :: a.1, a.2) := by
  rw [frzFuncs]
  rcases frzFuncs l h with _ | ⟨x, y⟩ <;> rfl
  all_goals simp
theorem frzFuncs_slice (b g o n : Nat) (e c : Option Nat) (l : List LV) (h : Heap) : frzFuncs (.slice b g o n e c :: l) h = bnd (frzFuncs l h) fun a => some (.slice b g o n e c :: a.1, a.2) := by
  rw [frzFuncs]
  rcases frzFuncs l h with _ | ⟨x, y⟩ <;> rfl
  all_goals simp
theorem frzFuncs_func (f : Nat) (a b : List LV) (l : List LV) (h : Heap) : frzFuncs (.func f a b :: l) h = bnd (frz frzDepth (.func f a b) h) fun y => bnd (frzFuncs l y.2) fun z => some (.c y.1 :: z.1, z.2) := by
  rw [frzFuncs]
  rcases frz frzDepth (.func f a b) h with _ | ⟨x, y⟩
  · rfl
  · rcases h2 : frzFuncs l y with _ | ⟨z, w⟩ <;> simp [bnd, h2]

/-- The closure that tells a climber's last test. -/
def lastC (M : Mp) : CV := .func 28 [] [.ptr [mEnc M] 0]
theorem S30 (M : Mp) : CmpOk P (lastC M) (mLast M) := by
  intro x y
  have h1 := S28 (P := P) M x
  have h2 := S28 (P := P) M y
  have h3 := S31 (P := P) (mLast M x) (mLast M y)
  rw [u30]
  simp [c30, lastC, h1, h2, h3]

variable {F : CV} {key : Str → Int} {H : Heap} {b g : Nat}
theorem S43 (hC : CmpOk P F key) (hb : b < H.length) (hg : g ≠ 0) (xs : List Str) (n : Nat) (hn : n < 20) (h : n = xs.length) :
    sfn P 43 [.slice b g 0 n none none, .c (ci n), .c (cmpC F)] (H.set b (.cells g (cS xs) 0)) = some (.c (.tuple []), H.set b (.cells g (cS (sortI key [] xs)) 0)) := by
  have hs := S50 (P := P) hC hb hg [] xs [] n (by omega) (by simpa using h)
  have h1 : ¬ (20 : Int) ≤ n := by omega
  have h2 : ¬ (20 : Int) < n := by omega
  have l0 : ∀ E, execS P (limS P) c43_l0 ⟨[.slice b g 0 n none none, .c (ci n), .c (cmpC F), .c (ci 20), .c (ci 0), .c (ci 20)], E⟩ = some (.exit 0, ⟨[.slice b g 0 n none none, .c (ci n), .c (cmpC F), .c (ci 20), .c (ci 0)], E⟩) := by
    intro E
    rw [r43_l0]
    simp [c43_l0b, h1]
  have l2 : ∀ E, execS P (limS P) c43_l2 ⟨[.slice b g 0 n none none, .c (ci n), .c (cmpC F), .c (ci 20)], E⟩ = some (.exit 2, ⟨[], E⟩) := by
    intro E
    rw [r43_l2]
    simp [c43_l2b, h2]
  simp [← h] at hs
  rw [u43]
  simp [c43, l0, l2, hs, hb, take_set, frzFuncs_nil, frzFuncs_c, frzFuncs_slice]

theorem S29 (hC : CmpOk P F key) (hb : b < H.length) (hg : g ≠ 0) (xs : List Str) (n : Nat) (hn : n < 20) (h : n = xs.length) :
    sfn P 29 [.slice b g 0 n none none, .c (cmpC F)] (H.set b (.cells g (cS xs) 0)) = some (.c (.tuple []), H.set b (.cells g (cS (sortI key [] xs)) 0)) := by
  have hs := S43 (P := P) hC hb hg xs n hn h
  rw [u29]
  simp [c29, hs, hb, take_set, frzFuncs_nil, frzFuncs_c, frzFuncs_slice]

/-- The drawn climbers who are not spared. -/
def unspared (M : Mp) (spare day : Int) (s : Str) : Bool := decide (mLast M s < 0) || decide (mLast M s < day - spare)
end LM.GT

namespace LM.GT
open Go LM

theorem insL_perm (key : Str → Int) (x : Str) : ∀ L Q : List Str, (insL key x L Q).Perm (x :: (L.reverse ++ Q))
  | [], Q => by simp [insL]
  | y :: L, Q => by
    simp only [insL]
    split
    · exact (insL_perm key x L (y :: Q)).trans (by simp)
    · have e1 : L.reverse ++ y :: x :: Q = (L.reverse ++ [y]) ++ x :: Q := by simp
      have e2 : x :: ((y :: L).reverse ++ Q) = x :: ((L.reverse ++ [y]) ++ Q) := by simp
      rw [e1, e2]
      exact List.perm_middle
theorem insS_perm (key : Str → Int) (x : Str) (S : List Str) : (insS key x S).Perm (x :: S) := by
  have := insL_perm key x S.reverse []
  simpa [insS] using this
theorem sortI_perm (key : Str → Int) : ∀ S U : List Str, (sortI key S U).Perm (S ++ U)
  | S, [] => by simp [sortI]
  | S, x :: U => by
    rw [sortI]
    refine (sortI_perm key _ U).trans ?_
    refine ((insS_perm key x S).append_right U).trans ?_
    exact List.perm_middle.symm

def Srt (key : Str → Int) (l : List Str) : Prop := l.Pairwise fun a b => key a ≤ key b
theorem insL_sorted {key : Str → Int} {x : Str} : ∀ {L Q : List Str}, Srt key (L.reverse ++ Q) → (∀ q ∈ Q, key x < key q) → Srt key (insL key x L Q)
  | [], Q, h, hq => by
    simp only [insL]
    exact List.pairwise_cons.2 ⟨fun q hm => Int.le_of_lt (hq q hm), by simpa [Srt] using h⟩
  | y :: L, Q, h, hq => by
    simp only [insL]
    have e : (y :: L).reverse ++ Q = L.reverse ++ y :: Q := by simp
    rw [e] at h
    split
    · rename_i hlt
      refine insL_sorted h fun q hm => ?_
      rcases List.mem_cons.1 hm with rfl | hm
      · exact hlt
      · exact hq q hm
    · rename_i hlt
      unfold Srt at h ⊢
      rw [List.pairwise_append] at h ⊢
      obtain ⟨h1, h2, h3⟩ := h
      rw [List.pairwise_cons] at h2
      refine ⟨h1, ?_, ?_⟩
      · refine List.pairwise_cons.2 ⟨fun a ha => ?_, List.pairwise_cons.2 ⟨fun a ha => Int.le_of_lt (hq a ha), h2.2⟩⟩
        rcases List.mem_cons.1 ha with rfl | ha
        · omega
        · exact h2.1 a ha
      · intro a ha b hb
        rcases List.mem_cons.1 hb with rfl | hb
        · exact h3 a ha b (by simp)
        · rcases List.mem_cons.1 hb with rfl | hb
          · have := h3 a ha y (by simp); omega
          · exact h3 a ha b (by simp [hb])
theorem sortI_sorted {key : Str → Int} : ∀ {S U : List Str}, Srt key S → Srt key (sortI key S U)
  | S, [], h => h
  | S, x :: U, h => by
    rw [sortI]
    refine sortI_sorted ?_
    unfold insS
    exact insL_sorted (by simpa using h) (by simp)

theorem insS_last {key : Str → Int} {x : Str} {S : List Str} (h : ∀ y ∈ S, ¬ key x < key y) : insS key x S = S ++ [x] := by
  unfold insS
  cases hr : S.reverse with
  | nil => have : S = [] := by simpa using hr
           subst this; rfl
  | cons y L =>
    have e : S = L.reverse ++ [y] := by rw [← List.reverse_reverse S, hr]; simp
    have hy : ¬ key x < key y := h y (by rw [e]; simp)
    simp only [insL, if_neg hy]
    rw [e]
    simp
theorem sortI_const {key : Str → Int} {k : Int} : ∀ {S U : List Str}, (∀ x ∈ S ++ U, key x = k) → sortI key S U = S ++ U
  | S, [], _ => by simp [sortI]
  | S, x :: U, h => by
    have hx : key x = k := h x (by simp)
    rw [sortI, insS_last (fun y hy => by have := h y (by simp [hy]); omega), sortI_const (k := k) (fun y hy => h y (by simpa using hy))]
    simp

theorem sw_perm {xs : List Int} {i k : Nat} (hi : i < xs.length) (hk : k < xs.length) : (sw xs i k).Perm xs := by
  unfold sw
  have e1 : xs.getD k 0 = xs[k] := by simp [List.getD_eq_getElem?_getD, hk]
  have e2 : xs.getD i 0 = xs[i] := by simp [List.getD_eq_getElem?_getD, hi]
  rw [e1, e2]
  exact List.set_set_perm hi hk
theorem drawN_perm (n : Nat) : ∀ (m i : Nat) (x : Int) (xs : List Int), i + m < n → 0 ≤ x → x ≤ 2147483646 → xs.length = n → (drawN n m i x xs).Perm xs
  | 0, _, _, _, _, _, _, _ => .refl _
  | m + 1, i, x, xs, hm, h0, h1, hl => by
    rw [drawN]
    have hx := nextX_range h0 h1
    have hs := step_range (n := n) (i := i) hx.1 (by omega)
    exact (drawN_perm n m (i + 1) _ _ (by omega) hx.1 hx.2 (by rw [sw_length, hl])).trans (sw_perm (by omega) (by omega))
theorem drawL_perm {key : Int} {n : Nat} (h0 : 1 ≤ key) (h1 : key ≤ 2147483646) : (drawL key n).Perm (iota n) := by
  unfold drawL
  rcases Nat.eq_zero_or_pos n with h | h
  · subst h; exact .refl _
  · exact drawN_perm n (n - 1) 0 key _ (by omega) (by omega) h1 (iota_length n)

/-- The climbers in the drawn order. -/
def ordL (c : List Str) (key : Int) : List Str := (drawL key c.length).map fun k => c.getD k.toNat []
theorem ordL_perm {c : List Str} {key : Int} (h0 : 1 ≤ key) (h1 : key ≤ 2147483646) : (ordL c key).Perm c := by
  unfold ordL
  refine ((drawL_perm h0 h1).map _).trans ?_
  have : (iota c.length).map (fun k => c.getD k.toNat []) = c := by
    unfold iota
    rw [List.map_map]
    apply List.ext_getElem
    · simp
    · intro i h2 h3
      simp [List.getD_eq_getElem?_getD, h3]
  rw [this]
theorem ordL_length (c : List Str) (key : Int) : (ordL c key).length = c.length := by simp [ordL, drawL_length]

theorem lateL_perm {c d : List Str} (l : List Tst) (a b : Int) (h : c.Perm d) : (lateL c l a b).Perm (lateL d l a b) := h.filter _

/-- The pool before it is cut. -/
def poolA (c : List Str) (l : List Tst) (key spare day : Int) : List Str := sortI (fun s => lastT l s 0 day) [] (lateL (ordL c key) l spare day)
theorem poolA_perm {c : List Str} {l : List Tst} {key spare day : Int} (h0 : 1 ≤ key) (h1 : key ≤ 2147483646) : (poolA c l key spare day).Perm (lateL c l spare day) :=
  (sortI_perm _ _ _).trans (lateL_perm l _ _ (ordL_perm h0 h1))
theorem poolA_sorted (c : List Str) (l : List Tst) (key spare day : Int) : Srt (fun s => lastT l s 0 day) (poolA c l key spare day) := sortI_sorted (by simp [Srt])
theorem poolA_length {c : List Str} {l : List Tst} {key spare day : Int} (h0 : 1 ≤ key) (h1 : key ≤ 2147483646) : (poolA c l key spare day).length = (lateL c l spare day).length := (poolA_perm h0 h1).length_eq
theorem lateL_le (c : List Str) (l : List Tst) (a b : Int) : (lateL c l a b).length ≤ c.length := List.length_filter_le ..

theorem mLast_lastT {l : List Tst} (hx : ∀ x ∈ l, 0 ≤ x.day) (day : Int) (s : Str) : mLast (testedM l day) s = lastT l s 0 day := by
  unfold mLast
  rcases tested_last l s day hx with ⟨h1, h2⟩ | ⟨h1, h2⟩
  · rw [h1, h2]
  · rw [h1]
end LM.GT

namespace LM.GT
open Go LM
variable {P : Nat → Option SFunc} [Has P]

theorem firstE_zK (e : Int) (r : List Int) : firstE (e :: r) = 0 ↔ e = 0 ∧ firstE r = 0 := by
  rw [firstE]
  by_cases h : e = 0 <;> simp [h]
theorem dated_zK (d : Int) : dated d = 0 ↔ 0 ≤ d ∧ d ≤ 99999 := by
  unfold dated whenE outside
  by_cases h1 : d < 0 <;> by_cases h2 : d > 99999 <;> simp [h1, h2] <;> omega

def PkB (p : Pck) : LB := .cells 0 [.c (ci p.count), .c (ci p.spare), .c (ci p.key)] 0
def MpB (M : Mp) (z : Nat) : LB := .cells 0 [.c (mEnc M)] z
def HP (p : Pck) (D : List Int) (M : Mp) (z : Nat) (ys : List Str) : Heap := [PkB p, .cells 1 [] 0, .dead, .cells 1 [] 0, .cells 1 (cI D) 0, MpB M z, .cells 0 [.func 28 [] [.ptr 5 0 0]] 0, .cells (1 + ys.length) (cS ys) 0]
def nm (c : List Str) (k : Int) : Str := c.getD k.toNat []

theorem cS_under (n : Nat) (ys : List Str) : underL n (cS ys) = true := by rw [← cellsOf_strs]; exact underL_cellsOf _ _

theorem frzArgs_ptr (b g o : Nat) (l : List LV) (h : Heap) : frzArgs false (.ptr b g o :: l) h = bnd (frz frzDepth (.ptr b g o) h) fun y => bnd (frzArgs false l y.2) fun z => some (y.1 :: z.1, z.2) := frzArgs_cons _ _ _

theorem L11 (c : List Str) (hc : c.length < 20) (M : Mp) (p : Pck) (day : Int) (h0 : 0 ≤ p.spare) (h1 : p.spare ≤ 99999) (h2 : 0 ≤ day) (h3 : day ≤ 99999) : ∀ (r pre : List Int) (ys : List Str), (∀ k ∈ pre ++ r, 0 ≤ k ∧ k < c.length) → (pre ++ r).length = c.length → ys.length ≤ pre.length →
    execS P (limS P) c11_l0 ⟨[.c (.slice (c.map CV.str)), .c (ci day), .ptr 0 0 0, .ptr 6 0 0, .slice 7 (1 + ys.length) 0 ys.length none none, .slice 4 1 0 c.length none (some c.length), .c (ci c.length), .c (ci pre.length)], HP p (pre ++ r) M 0 ys⟩ =
      some (.exit 0, ⟨[.ptr 0 0 0, .ptr 6 0 0, .slice 7 (1 + (ys ++ (r.map (nm c)).filter (unspared M p.spare day)).length) 0 (ys ++ (r.map (nm c)).filter (unspared M p.spare day)).length none none], HP p (pre ++ r) M 0 (ys ++ (r.map (nm c)).filter (unspared M p.spare day))⟩) := by
  intro r
  induction r with
  | nil =>
    intro pre ys hk hn hy
    have hn : pre.length = c.length := by simpa using hn
    rw [r11_l0]
    simp [c11_l0b, hn]
  | cons k r ih =>
    intro pre ys hk hn hy
    have hk0 := hk k (by simp)
    have hpl : pre.length < c.length := by rw [← hn]; simp
    have hw : IntKind.i64.wrap (↑pre.length + 1) = ↑pre.length + 1 := wrap64 (by omega) (by omega)
    have hw2 : IntKind.i64.wrap (day - p.spare) = day - p.spare := wrap64 (by omega) (by omega)
    have hlt : (pre.length : Int) < c.length := by omega
    have g1 : (cI (pre ++ k :: r))[pre.length]? = some (.c (ci k)) := by unfold cI; simp
    have hkn : k.toNat < c.length := by omega
    have g2 : c[k.toNat] = nm c k := by simp [nm, hkn, List.getD_eq_getElem?_getD]
    have e92 := S28 (P := P) M (nm c k)
    simp only [mEnc] at e92
    have hf : ((k :: r).map (nm c)).filter (unspared M p.spare day) = if unspared M p.spare day (nm c k) then nm c k :: (r.map (nm c)).filter (unspared M p.spare day) else (r.map (nm c)).filter (unspared M p.spare day) := by rw [List.map_cons, List.filter_cons]
    have hu : unspared M p.spare day (nm c k) = (decide (mLast M (nm c k) < 0) || decide (mLast M (nm c k) < day - p.spare)) := rfl
    have ha := append_own (b := 7) (g := 1 + ys.length) (bytes := 16) (e := none) (ys := ys.map CV.str) (xs := [.str (nm c k)]) (h := [PkB p, .cells 1 [] 0, .dead, .cells 1 [] 0, .cells 1 (cI (pre ++ k :: r)) 0, MpB M 0, .cells 0 [.func 28 [] [.ptr 5 0 0]] 0, .cells (1 + ys.length) (cellsOf (ys.map CV.str)) 0]) (len := ys.length) (fz := 0) rfl (strElems _) (by simpa using strElem (nm c k)) (by simp) (Nat.zero_le _) (by simp) (by simp; omega) (by simp; omega)
    rw [cellsOf_strs] at ha
    have e1 : ys.map CV.str ++ [CV.str (nm c k)] = (ys ++ [nm c k]).map CV.str := by simp
    rw [e1, cellsOf_strs] at ha
    simp [PkB, MpB, mEnc] at ha
    have ihA := ih (pre ++ [k]) (ys ++ [nm c k]) (by simpa using hk) (by simpa using hn) (by simp; omega)
    have ihB := ih (pre ++ [k]) ys (by simpa using hk) (by simpa using hn) (by simp; omega)
    have e2 : 1 + (ys.length + 1) = 1 + ys.length + 1 := by omega
    rw [hf, hu, r11_l0]
    by_cases q1 : mLast M (nm c k) < 0
    · simp [HP, PkB, MpB, mEnc, e2, q1] at ihA ⊢
      simp [c11_l0b, hw, hw2, hlt, hpl, hk0, g1, g2, hkn, under_cI, cS_under, frzArgs_ptr, e92, q1, ha, ihA]
    · by_cases q2 : mLast M (nm c k) < day - p.spare
      · simp [HP, PkB, MpB, mEnc, e2, q1, q2] at ihA ⊢
        simp [c11_l0b, hw, hw2, hlt, hpl, hk0, g1, g2, hkn, under_cI, cS_under, frzArgs_ptr, e92, q1, q2, ha, ihA]
      · simp [HP, PkB, MpB, mEnc, q1, q2] at ihB ⊢
        simp [c11_l0b, hw, hw2, hlt, hpl, hk0, g1, g2, hkn, under_cI, cS_under, frzArgs_ptr, e92, q1, q2, ihB]

def poolE (c : List Str) (l : List Tst) (p : Pck) (day : Int) : Int := firstE [onceL 160 c, checkTsts l, pickE p, dated day]

theorem frz_38_func (f : Nat) (a b : List LV) (h : Heap) : frz 38 (.func f a b) h = bnd (mapH (frz 37) a h) fun x => bnd (mapH (frz 37) b x.2) fun y => some (.func f x.1 y.1, y.2) := by
  rw [frz]
  rcases mapH (frz 37) a h with _ | ⟨x, h1⟩
  · rfl
  · simp only [bnd]
    rcases mapH (frz 37) b h1 with _ | ⟨y, h2⟩ <;> rfl
theorem frz_37_ptr (b g off : Nat) (h : Heap) : frz 37 (.ptr b g off) h = match h[b]? with
    | some (.cells g' cs _) => if g = g' then bnd (mapH (frz 36) cs (bump b cs.length h)) fun a => some (.ptr a.1 off, a.2) else none
    | _ => none := frz_succ_ptr 36 b g off h

theorem poolL_eq {c : List Str} {l : List Tst} {p : Pck} {day : Int} (hx : ∀ x ∈ l, 0 ≤ x.day) (h0 : 0 ≤ p.spare) :
    sortI (mLast (testedM l day)) [] (((drawL p.key c.length).map (nm c)).filter (unspared (testedM l day) p.spare day)) = poolA c l p.key p.spare day := by
  unfold poolA
  have e1 : mLast (testedM l day) = fun s => lastT l s 0 day := funext fun s => mLast_lastT hx day s
  have e2 : ((drawL p.key c.length).map (nm c)).filter (unspared (testedM l day) p.spare day) = lateL (ordL c p.key) l p.spare day := by
    unfold lateL ordL
    refine List.filter_congr fun s _ => ?_
    unfold unspared
    rw [mLast_lastT hx day s, ← Bool.decide_or]
    exact decide_eq_decide.2 (last_spared hx h0).symm
  rw [e1, e2]

theorem checkTsts_days {l : List Tst} (h : checkTsts l = 0) : ∀ x ∈ l, 0 ≤ x.day := by
  unfold checkTsts at h
  split at h
  · cases h
  · have key : ∀ (l pre : List Tst), eachE (fun _ => checkTst) pre l = 0 → ∀ x ∈ l, 0 ≤ x.day := by
      intro l
      induction l with
      | nil => simp
      | cons a r ih =>
        intro pre h x hx
        rw [eachE] at h
        split at h
        · rename_i q; exact absurd h q
        · rename_i q
          rcases List.mem_cons.1 hx with rfl | hx
          · have q : checkTst x = 0 := by simpa using q
            unfold checkTst at q
            simp only [firstE_zK, dated_zK] at q
            exact q.2.1.1
          · exact ih _ h x hx
    exact key l [] h
theorem pickE_zero {p : Pck} (h : pickE p = 0) : 0 ≤ p.count ∧ p.count ≤ 160 ∧ 0 ≤ p.spare ∧ p.spare ≤ 99999 ∧ 1 ≤ p.key ∧ p.key ≤ 2147483646 := by
  unfold pickE outside drawE at h
  by_cases h1 : p.count < 0 <;> by_cases h2 : p.count > 160 <;> by_cases h3 : p.spare < 0 <;> by_cases h4 : p.spare > 99999 <;> by_cases h5 : p.key < 1 <;> by_cases h6 : p.key > 2147483646 <;> simp [h1, h2, h3, h4, h5, h6] at h <;> omega

theorem cS_take (ys : List Str) (m : Nat) : (cS ys).take m = cS (ys.take m) := by simp [cS, List.map_take]
/-- A result of the beginning of a slice of the function's own and a number. -/
theorem resV_pre {b g fz : Nat} {ys : List Str} {h : Heap} {m : Nat} (hb : h[b]? = some (.cells g (cS ys) fz)) (hm : m ≤ ys.length) (cap : Option Nat) (v : CV) :
    resV (some (mkTuple [.slice b g 0 m none cap, .c v])) h = some (.tuple [.slice ((ys.take m).map CV.str), v]) := by
  have h1 : mkTuple [.slice b g 0 m none cap, .c v] = .tuple [.slice b g 0 m none cap, .c v] := rfl
  have hf : frz 39 (.slice b g 0 m none cap) h = some (.slice ((ys.take m).map CV.str), bump b (m * szOf none) h) := by
    have hl : m = ((ys.take m).map CV.str).length := by simp; omega
    have h2 := chunk_cellsOf (strElems (ys.take m))
    have h3 := cellsOf_length (strElems (ys.take m))
    rw [frz_39_slice, hb]
    simp only [Nat.zero_add, List.drop_zero]
    have hz : szOf none = 1 := rfl
    rw [hz, if_pos ⟨trivial, by rw [cS_length]; omega⟩, Nat.mul_one, cS_take, ← cellsOf_strs]
    unfold cellsOf
    rw [mapH_map_c 37]
    rw [← hl] at h2
    simp only [bnd_some, h2]
  unfold resV
  rw [bnd_some, h1, frz_tuple]
  simp only [mapH_cons, hf, bnd_some, mapH_nil]
  rfl

theorem S11 (c : List Str) (l : List Tst) (p : Pck) (day : Int) (hc : c.length < 20) (hcl : ∀ x ∈ c, x.length < 9223372036854775807) (hl : (l.length : Int) < 9223372036854775807) (hlo : ∀ x ∈ l, x.ok) (hE : poolE c l p day = 0) :
    fn P 11 [.slice (c.map CV.str), .slice (l.map Tst.enc), p.enc, ci day] = some (.tuple [.slice (((poolA c l p.key p.spare day).take p.count.toNat).map CV.str), ci 0]) := by
  have h := hE
  unfold poolE at h
  simp only [firstE_zK, dated_zK] at h
  obtain ⟨h1, h2, h3, h4, _⟩ := h
  have hday : dated day = 0 := by rw [dated_zK]; exact h4
  have e88 := S23 (P := P) c hcl (by omega)
  have e30 := S24 (P := P) l hlo hl
  have e89 := S25 (P := P) p
  obtain ⟨p1, p2, p3, p4, p5, p6⟩ := pickE_zero h3
  have hd : drawE p.key c.length = 0 := by unfold drawE; rw [if_neg (by omega)]
  have hx := checkTsts_days h2
  have hL := L11 (P := P) c hc (testedM l day) p day p3 p4 h4.1 h4.2 (drawL p.key c.length) [] [] (by simpa using drawL_range p5 p6) (by simp [drawL_length]) (by simp)
  have hp := poolL_eq (c := c) hx p3 (day := day)
  have hys : (((drawL p.key c.length).map (nm c)).filter (unspared (testedM l day) p.spare day)).length ≤ c.length := by
    refine Nat.le_trans (List.length_filter_le ..) ?_
    simp [drawL_length]
  generalize ((drawL p.key c.length).map (nm c)).filter (unspared (testedM l day) p.spare day) = ys at hL hp hys
  have hs := S29 (P := P) (S30 (testedM l day)) (H := [PkB p, .cells 1 [] 0, .dead, .cells 1 [] 0, .cells 1 (cI (drawL p.key c.length)) 0, MpB (testedM l day) 1, .cells 0 [.func 28 [] [.ptr 5 0 0]] 1, .dead]) (b := 7) (g := 1 + ys.length) (by simp) (by omega) ys ys.length (by omega) rfl
  have e0 : cS [] = [] := rfl
  simp [HP, PkB, MpB, mEnc, cmpC, lastC, e0] at hL hs
  rw [hp] at hs
  have e90 := S10 (P := P) p.key c.length hd
  have e91 := S27 (P := P) l day hl
  rw [h1] at e88
  rw [h2] at e30
  rw [h3] at e89
  simp only [mEnc] at e91
  simp [Pck.enc] at e89
  have hlen : (poolA c l p.key p.spare day).length = ys.length := by rw [← hp, sortI_length]; simp
  have hf : ∀ m, m ≤ ys.length → resV (some (mkTuple [.slice 7 (1 + ys.length) 0 m none none, .c (ci 0)])) [.cells 0 [.c (ci p.count), .c (ci p.spare), .c (ci p.key)] 0, .cells 1 [] 0, .dead, .cells 1 [] 0, .cells 1 (cI (drawL p.key c.length)) 0, .cells 0 [.c (.map (mKs (testedM l day)) (mVs (testedM l day)))] 1, .cells 0 [.func 28 [] [.ptr 5 0 0]] 1, .cells (1 + ys.length) (cS (poolA c l p.key p.spare day)) 0] = some (.tuple [.slice (((poolA c l p.key p.spare day).take m).map CV.str), ci 0]) :=
    fun m hm => resV_pre (b := 7) (g := 1 + ys.length) (fz := 0) rfl (by omega) none (ci 0)
  rw [u11]
  by_cases hq : (ys.length : Int) < p.count
  · have hf := hf ys.length (Nat.le_refl _)
    have e1 : (poolA c l p.key p.spare day).take ys.length = (poolA c l p.key p.spare day).take p.count.toNat := by
      rw [List.take_of_length_le (by omega), List.take_of_length_le (by omega)]
    rw [e1] at hf
    simp at hf
    simp [c11, Pck.enc, e88, e30, e89, hday, firstE, e90, e91, LV.shift, shiftL, shiftB, LB.shift, shift_cI, hL, frzFuncs_nil, frzFuncs_c, frzFuncs_slice, frzFuncs_func, frz_func, frz_38_func, frz_37_ptr, hs, foldInt, hq, hf]
  · have hq2 : p.count ≤ ys.length := by omega
    have hf := hf p.count.toNat (by omega)
    simp at hf
    simp [c11, Pck.enc, e88, e30, e89, hday, firstE, e90, e91, LV.shift, shiftL, shiftB, LB.shift, shift_cI, hL, frzFuncs_nil, frzFuncs_c, frzFuncs_slice, frzFuncs_func, frz_func, frz_38_func, frz_37_ptr, hs, foldInt, hq, hq2, p1, hf]
end LM.GT

namespace LM.GT
open Go LM
variable {P : Nat → Option SFunc} [Has P]

theorem L13 : ∀ (l p m q : List Str), p.length = q.length → l.length = m.length → ((p ++ l).length : Int) < 9223372036854775807 →
    execS P (limS P) c13_l0 ⟨[.c (.slice ((p ++ l).map CV.str)), .c (.slice ((q ++ m).map CV.str)), .c (ci p.length)], []⟩ = if l = m then some (.exit 0, ⟨[], []⟩) else some (.ret, ⟨[.c (.bool false)], []⟩) := by
  intro l
  induction l with
  | nil =>
    intro p m q hp hm h
    have : m = [] := List.eq_nil_of_length_eq_zero (by simpa using hm.symm)
    subst this
    rw [r13_l0]
    simp [c13_l0b]
  | cons c r ih =>
    intro p m q hp hm h
    rcases m with _ | ⟨d, m⟩
    · simp at hm
    have ih := ih (p ++ [c]) m (q ++ [d]) (by simp [hp]) (by simpa using hm) (by simpa using h)
    simp at ih h hm
    have hw : IntKind.i64.wrap (↑p.length + 1) = ↑p.length + 1 := wrap64 (by omega) (by omega)
    have hlt : (p.length : Int) < p.length + (r.length + 1) := by omega
    have hlt2 : p.length < q.length + (m.length + 1) := by omega
    have hg : (List.map CV.str q ++ CV.str d :: List.map CV.str m)[p.length]'(by simpa using hlt2) = CV.str d := by simp [hp]
    rw [r13_l0]
    by_cases h0 : c = d
    · simp [c13_l0b, hw, hlt, hlt2, hg, h0]
      rw [h0] at ih
      exact ih
    · simp [c13_l0b, hw, hlt, hlt2, hg, h0]

@[simp] theorem S13 (l m : List Str) (h : (l.length : Int) < 9223372036854775807) : fn P 13 [.slice (l.map CV.str), .slice (m.map CV.str)] = some (.bool (decide (l = m))) := by
  rw [u13]
  by_cases hl : l.length = m.length
  · have := L13 (P := P) l [] m [] rfl hl (by simpa using h)
    simp at this
    by_cases h0 : l = m
    · rw [if_pos h0] at this
      rw [decide_eq_true h0]
      simp [c13, hl, this]
    · rw [if_neg h0] at this
      rw [decide_eq_false h0]
      simp [c13, hl, this]
  · have h1 : ¬ (l.length : Int) = m.length := by omega
    have h2 : ¬ l = m := fun e => hl (by rw [e])
    simp [c13, h1, h2]

end LM.GT

namespace LM.GT
open Go LM
variable {P : Nat → Option SFunc} [Has P]

theorem L4 : ∀ (l pre : List Tst), (pre ++ l).length * 24 ≤ 2 ^ 47 →
    execS P (limS P) c4_l0 ⟨[.slice 1 (1 + pre.length) 0 pre.length (some 2) none, .c (.slice ((pre ++ l).map Tst.enc)), .c (ci (pre ++ l).length), .c (ci pre.length)], [.cells 1 [] 0, .cells (1 + pre.length) (cellsOf (pre.map Tst.enc)) 0]⟩ =
      some (.exit 0, ⟨[.slice 1 (1 + (pre ++ l).length) 0 (pre ++ l).length (some 2) none], [.cells 1 [] 0, .cells (1 + (pre ++ l).length) (cellsOf ((pre ++ l).map Tst.enc)) 0]⟩) := by
  intro l
  induction l with
  | nil =>
    intro pre h
    rw [r4_l0]
    simp [c4_l0b]
  | cons c r ih =>
    intro pre h
    have ih := ih (pre ++ [c]) (by simpa using h)
    have ha := append_own (b := 1) (g := 1 + pre.length) (bytes := 24) (e := some 2) (ys := pre.map Tst.enc) (xs := [c.enc]) (h := [.cells 1 [] 0, .cells (1 + pre.length) (cellsOf (pre.map Tst.enc)) 0, .cells 0 [.c (.str c.name), .c (ci c.day)] 0]) (len := pre.length) (fz := 0) rfl (Tst.elems _) (by simpa using c.elem) (by simp) (Nat.zero_le _) (by simp) (by simp at h ⊢; omega) (by simp at h ⊢; omega)
    simp at h
    simp [Tst.enc] at ih ha
    have hw : IntKind.i64.wrap (↑pre.length + 1) = ↑pre.length + 1 := wrap64 (by omega) (by omega)
    have hlt : (pre.length : Int) < pre.length + (r.length + 1) := by omega
    have e1 : 1 + (pre.length + 1) = 1 + pre.length + 1 := by omega
    have hu : ∀ n ys, underL n (cellsOf ys) = true := fun n ys => underL_cellsOf n ys
    rw [r4_l0]
    rw [e1] at ih
    simp [c4_l0b, Tst.enc, hw, hlt, ha, hu, ih]

theorem S4 (l : List Tst) (h : l.length * 24 ≤ 2 ^ 47) : fn P 4 [.slice (l.map Tst.enc)] = some (.slice (l.map Tst.enc)) := by
  rw [u4]
  have := L4 (P := P) l [] (by simpa using h)
  have hf := frz_own (b := 1) (g := 1 + l.length) (fz := 0) (e := some 2) (ys := l.map Tst.enc) (h := [.cells 1 [] 0, .cells (1 + l.length) (cellsOf (l.map Tst.enc)) 0]) (len := l.length) rfl (Tst.elems _) (by simp) none
  simp at this
  simp [c4, this, resV, hf, -frz_slice]
end LM.GT

namespace LM.GT
open Go LM

theorem lastT_none {l : List Tst} {n : Str} {a b : Int} (h : ∀ x ∈ l, x.name ≠ n) : lastT l n a b = -1 := by
  obtain ⟨_, _, h3⟩ := lastF_spec n a b l (-1)
  rcases h3 with h3 | ⟨x, hx, hn, _⟩
  · exact h3
  · exact absurd hn (h x hx)
theorem lastT_le {l l' : List Tst} {n : Str} (a b : Int) (h : ∀ x ∈ l, x.name = n → x ∈ l') : lastT l n a b ≤ lastT l' n a b := by
  obtain ⟨_, _, h3⟩ := lastF_spec n a b l (-1)
  obtain ⟨g1, g2, _⟩ := lastF_spec n a b l' (-1)
  have e : l.foldl (lastF n a b) (-1) = lastT l n a b := rfl
  have e' : l'.foldl (lastF n a b) (-1) = lastT l' n a b := rfl
  rw [e] at h3
  rw [e'] at g1 g2
  rcases h3 with h3 | ⟨x, hx, hn, ha, hb, h3⟩
  · omega
  · have := g2 x (h x hx hn) hn ha hb
    omega
theorem lastT_same {l l' : List Tst} {n : Str} (a b : Int) (h : ∀ x, x.name = n → (x ∈ l ↔ x ∈ l')) : lastT l n a b = lastT l' n a b :=
  Int.le_antisymm (lastT_le a b fun x hx hn => (h x hn).1 hx) (lastT_le a b fun x hx hn => (h x hn).2 hx)

theorem insL_congr {k k' : Str → Int} {x : Str} (hx : k x = k' x) : ∀ {L Q : List Str}, (∀ y ∈ L, k y = k' y) → insL k x L Q = insL k' x L Q
  | [], _, _ => rfl
  | y :: L, Q, h => by
    simp only [insL]
    rw [hx, h y (by simp), insL_congr hx fun z hz => h z (by simp [hz])]
theorem sortI_congr {k k' : Str → Int} : ∀ {S U : List Str}, (∀ y ∈ S ++ U, k y = k' y) → sortI k S U = sortI k' S U
  | S, [], _ => rfl
  | S, x :: U, h => by
    have e : insS k x S = insS k' x S := by
      unfold insS
      exact insL_congr (h x (by simp)) fun y hy => h y (by simp at hy; simp [hy])
    rw [sortI, sortI, e]
    refine sortI_congr fun y hy => h y ?_
    rcases List.mem_append.1 hy with hy | hy
    · have := (insS_perm k' x S).mem_iff.1 hy
      simp at this ⊢
      rcases this with rfl | h
      · simp
      · simp [h]
    · simp [hy]

theorem poolA_same {c : List Str} {l l' : List Tst} {key : Int} (h0 : 1 ≤ key) (h1 : key ≤ 2147483646) (spare day : Int) (h : ∀ s ∈ c, ∀ x : Tst, x.name = s → (x ∈ l ↔ x ∈ l')) : poolA c l key spare day = poolA c l' key spare day := by
  unfold poolA
  have hm : ∀ s ∈ ordL c key, s ∈ c := fun s hs => (ordL_perm h0 h1).mem_iff.1 hs
  have e : lateL (ordL c key) l spare day = lateL (ordL c key) l' spare day := by
    unfold lateL
    refine List.filter_congr fun s hs => ?_
    rw [lastT_same _ _ (h s (hm s hs))]
  rw [e]
  refine sortI_congr fun s hs => ?_
  have hs' : s ∈ lateL (ordL c key) l' spare day := by simpa using hs
  have hs : s ∈ ordL c key := (List.mem_filter.1 hs').1
  exact lastT_same _ _ (h s (hm s hs))

theorem poolA_stage {c : List Str} {T : List Tst} {key day : Int} {seen rest : List Str} (hO : ordL c key = seen ++ rest) (hN : (seen ++ rest).Nodup) (hT : T.map Tst.name = seen) (hd : ∀ x ∈ T, 100 ≤ x.day ∧ x.day < day) (hday : day ≤ 150) : poolA c T key 50 day = rest := by
  have hr : ∀ s ∈ rest, ∀ x ∈ T, x.name ≠ s := by
    intro s hs x hx e
    rw [List.nodup_append] at hN
    exact hN.2.2 s (by rw [← hT]; exact List.mem_map.2 ⟨x, hx, e⟩) s hs rfl
  have e : lateL (ordL c key) T 50 day = rest := by
    unfold lateL
    rw [hO, List.filter_append]
    have e1 : seen.filter (fun s => decide (lastT T s (day - 50) day < 0)) = [] := by
      rw [List.filter_eq_nil_iff]
      intro s hs
      rw [← hT] at hs
      obtain ⟨x, hx, rfl⟩ := List.mem_map.1 hs
      have := (lastF_spec x.name (day - 50) day T (-1)).2.1 x hx rfl (by have := (hd x hx).1; omega) (by have := (hd x hx).2; omega)
      have e : T.foldl (lastF x.name (day - 50) day) (-1) = lastT T x.name (day - 50) day := rfl
      rw [e] at this
      have := (hd x hx).1
      simp
      omega
    have e2 : rest.filter (fun s => decide (lastT T s (day - 50) day < 0)) = rest := by
      rw [List.filter_eq_self]
      intro s hs
      rw [lastT_none (hr s hs)]
      decide
    rw [e1, e2]
    rfl
  unfold poolA
  rw [e, sortI_const (k := -1) (fun s hs => lastT_none (hr s (by simpa using hs)))]
  rfl
theorem poolA_nil (c : List Str) (key spare day : Int) : poolA c [] key spare day = ordL c key := by
  have e : lateL (ordL c key) [] spare day = ordL c key := by
    unfold lateL
    rw [List.filter_eq_self]
    intro s _
    rfl
  unfold poolA
  rw [e, sortI_const (key := fun s => lastT [] s 0 day) (k := -1) (fun s _ => rfl)]
  rfl
end LM.GT

namespace LM.GT
open Go LM
variable {P : Nat → Option SFunc} [Has P] [HasP P]

def HK (p : Pck) (D : List Int) (n : Nat) : Heap := [PkB p, .cells 1 [] 0, .cells 1 (cI D) 0, .cells 0 [.c (ci n), .c (ci 0), .c (ci p.key)] 0]

theorem L3_0 (p : Pck) (c : List Str) (hc : (c.length : Int) < 9223372036854775807) (L : CV) : ∀ (r pre : List Int), (∀ k ∈ pre ++ r, 0 ≤ k ∧ k < c.length) → (pre ++ r).length = c.length →
    execS P (limS P) c3_l0 ⟨[.c (.slice (c.map CV.str)), .c L, .ptr 0 0 0, .c (.slice (((pre ++ r).map (nm c)).map CV.str)), .slice 2 1 0 c.length none (some c.length), .c (ci c.length), .c (ci pre.length)], HK p (pre ++ r) c.length⟩ =
      some (.exit 0, ⟨[.c (.slice (c.map CV.str)), .c L, .ptr 0 0 0], HK p (pre ++ r) c.length⟩) := by
  intro r
  induction r with
  | nil =>
    intro pre hk hn
    have hn : pre.length = c.length := by simpa using hn
    rw [r3_l0]
    simp [c3_l0b, hn]
  | cons k r ih =>
    intro pre hk hn
    have ih := ih (pre ++ [k]) (by simpa using hk) (by simpa using hn)
    have hk0 := hk k (by simp)
    have hpl : pre.length < c.length := by rw [← hn]; simp
    have hw : IntKind.i64.wrap (↑pre.length + 1) = ↑pre.length + 1 := wrap64 (by omega) (by omega)
    have hlt : (pre.length : Int) < c.length := by omega
    have g1 : (cI (pre ++ k :: r))[pre.length]? = some (.c (ci k)) := by unfold cI; simp
    have hkn : k.toNat < c.length := by omega
    have hlt2 : (pre.length : Int) < pre.length + (r.length + 1) := by omega
    have g2 : c[k.toNat] = nm c k := by simp [nm, hkn, List.getD_eq_getElem?_getD]
    have hk1 : ¬ k < 0 := by omega
    have hk2 : ¬ (c.length : Int) ≤ k := by omega
    rw [r3_l0]
    simp [HK, PkB] at ih ⊢
    simp [c3_l0b, hw, hlt, hlt2, hpl, hk0, hk1, hk2, g1, g2, hkn, under_cI, ih]

def HB (p : Pck) (D : List Int) (n : Nat) (T : List Tst) (z : Nat) : Heap := [PkB p, .cells 1 [] 0, .cells 1 (cI D) 0, .cells 0 [.c (ci n), .c (ci 0), .c (ci p.key)] 0, .cells (1 + T.length) (cellsOf (T.map Tst.enc)) z]

theorem L3_1 (p : Pck) (D : List Int) (n : Nat) (C : CV) (l : List Tst) (hl : l.length ≤ 12) : ∀ (r pre : List Tst), l.reverse = pre ++ r →
    execS P (limS P) c3_l1 ⟨[.c C, .c (.slice (l.map Tst.enc)), .ptr 0 0 0, .slice 4 (1 + pre.length) 0 pre.length (some 2) none, .c (ci l.length), .c (ci pre.length)], HB p D n pre 0⟩ =
      some (.exit 2, ⟨[.c C, .c (.slice (l.map Tst.enc)), .ptr 0 0 0, .slice 4 (1 + l.length) 0 l.length (some 2) none], HB p D n l.reverse 0⟩) := by
  intro r
  induction r with
  | nil =>
    intro pre h
    have h : l.reverse = pre := by simpa using h
    have hn : pre.length = l.length := by rw [← h]; simp
    rw [r3_l1]
    simp [c3_l1b, hn, h]
  | cons x r ih =>
    intro pre h
    have ih := ih (pre ++ [x]) (by simpa using h)
    have hn : l.length = pre.length + (r.length + 1) := by rw [← List.length_reverse, h]; simp
    have hw : IntKind.i64.wrap (↑pre.length + 1) = ↑pre.length + 1 := wrap64 (by omega) (by omega)
    have hw2 : IntKind.i64.wrap ((l.length : Int) - 1) = l.length - 1 := wrap64 (by omega) (by omega)
    have hw3 : IntKind.i64.wrap ((l.length : Int) - 1 - pre.length) = l.length - 1 - pre.length := wrap64 (by omega) (by omega)
    have hlt : (pre.length : Int) < l.length := by omega
    have i1 : 0 ≤ (l.length : Int) - 1 - pre.length := by omega
    have i2 : (l.length : Int) - 1 - pre.length < l.length := by omega
    have i3 : ((l.length : Int) - 1 - pre.length).toNat = l.length - 1 - pre.length := by omega
    have i5 : (pre.length : Int) ≤ l.length - 1 := by omega
    have i4 : l.length - 1 - pre.length < l.length := by omega
    have g1 : l[l.length - 1 - pre.length] = x := by
      have h2 : pre.length < l.reverse.length := by simp; omega
      have h3 := List.getElem_reverse h2
      rw [← h3]
      simp [h]
    have hz : szFits 2 (l.map Tst.enc) = true := by cases l <;> rfl
    have ha := append_own (b := 4) (g := 1 + pre.length) (bytes := 24) (e := some 2) (ys := pre.map Tst.enc) (xs := [x.enc]) (h := HB p D n pre 0) (len := pre.length) (fz := 0) rfl (Tst.elems _) (by simpa using x.elem) (by simp) (Nat.zero_le _) (by simp) (by simp; omega) (by simp; omega)
    have e1 : 1 + (pre.length + 1) = 1 + pre.length + 1 := by omega
    have hu : ∀ n ys, underL n (cellsOf ys) = true := fun n ys => underL_cellsOf n ys
    rw [r3_l1]
    simp [HB, PkB, Tst.enc] at ih ha ⊢
    rw [e1] at ih
    simp [c3_l1b, hw, hw2, hw3, hlt, i1, i2, i3, i4, i5, g1, hz, ha, hu, under_cI, Tst.enc, ih]

theorem eachE_nn {α : Type} {chk : List α → α → Int} (h : ∀ p x, 0 ≤ chk p x) : ∀ l pre, 0 ≤ eachE chk pre l
  | [], _ => by simp [eachE]
  | x :: r, pre => by
    rw [eachE]
    split
    · exact h _ _
    · exact eachE_nn h r _
theorem eachE_le {α : Type} {chk : List α → α → Int} (h : ∀ p x, chk p x ≤ 100) : ∀ l pre, eachE chk pre l ≤ 100
  | [], _ => by simp [eachE]
  | x :: r, pre => by
    rw [eachE]
    split
    · exact h _ _
    · exact eachE_le h r _
theorem once_range (p : List Str) (x : Str) : 0 ≤ once p x ∧ once p x ≤ 100 := by
  unfold once named whenE
  cases isName x <;> cases p.any (Str.is x) <;> simp [firstE]
theorem onceL_range (m : Int) (l : List Str) : 0 ≤ onceL m l ∧ onceL m l ≤ 100 := by
  unfold onceL
  split
  · omega
  · exact ⟨eachE_nn (fun p x => (once_range p x).1) _ _, eachE_le (fun p x => (once_range p x).2) _ _⟩
theorem checkTsts_range (l : List Tst) : 0 ≤ checkTsts l ∧ checkTsts l ≤ 100 := by
  have h : ∀ x : Tst, 0 ≤ checkTst x ∧ checkTst x ≤ 100 := by
    intro x
    rw [checkTst_eq]
    split
    · omega
    · split <;> omega
  unfold checkTsts
  split
  · omega
  · exact ⟨eachE_nn (fun _ x => (h x).1) _ _, eachE_le (fun _ x => (h x).2) _ _⟩

theorem onceL_nodup {c : List Str} (h : onceL 160 c = 0) : c.Nodup := by
  unfold onceL at h
  split at h
  · cases h
  · have key : ∀ (l pre : List Str), eachE once pre l = 0 → pre.Nodup → (pre ++ l).Nodup := by
      intro l
      induction l with
      | nil => intro pre _ h; simpa using h
      | cons x r ih =>
        intro pre h hp
        rw [eachE] at h
        split at h
        · rename_i q; exact absurd h q
        · rename_i q
          have q : once pre x = 0 := by simpa using q
          rw [once_eq] at q
          have hx : x ∉ pre := by
            intro hm
            have : pre.any (Str.is x) = true := List.any_eq_true.2 ⟨x, hm, by simp [Str.is]⟩
            rw [this] at q
            split at q <;> simp at q
          have := ih (pre ++ [x]) h (by
            rw [List.nodup_append]
            refine ⟨hp, by simp, ?_⟩
            intro a ha b hb e
            simp at hb
            subst hb
            exact hx (e ▸ ha))
          simpa using this
    have := key c [] h (by simp)
    simpa using this


theorem checkTst_zero (x : Tst) : checkTst x = 0 ↔ isName x.name = true ∧ 0 ≤ x.day ∧ x.day ≤ 99999 := by
  rw [checkTst_eq]
  unfold outside
  cases isName x.name <;> by_cases h1 : x.day < 0 <;> by_cases h2 : x.day > 99999 <;> simp [h1, h2] <;> omega
theorem eachE_tst (l pre : List Tst) : eachE (fun _ => checkTst) pre l = 0 ↔ ∀ x ∈ l, checkTst x = 0 := by
  induction l generalizing pre with
  | nil => simp [eachE]
  | cons a r ih =>
    rw [eachE]
    by_cases h : checkTst a = 0
    · simp [h, ih]
    · simp [h]
theorem checkTsts_zero (l : List Tst) : checkTsts l = 0 ↔ l.length ≤ 256 ∧ ∀ x ∈ l, isName x.name = true ∧ 0 ≤ x.day ∧ x.day ≤ 99999 := by
  unfold checkTsts
  by_cases h : (l.length : Int) > 256
  · simp [h]; omega
  · rw [if_neg h, eachE_tst]
    simp only [checkTst_zero]
    exact ⟨fun q => ⟨by omega, q⟩, fun q => q.2⟩
theorem onceL_names {c : List Str} (h : onceL 160 c = 0) : ∀ s ∈ c, isName s = true := by
  unfold onceL at h
  split at h
  · cases h
  · have key : ∀ (l pre : List Str), eachE once pre l = 0 → ∀ s ∈ l, isName s = true := by
      intro l
      induction l with
      | nil => simp
      | cons x r ih =>
        intro pre h s hs
        rw [eachE] at h
        split at h
        · rename_i q; exact absurd h q
        · rename_i q
          have q : once pre x = 0 := by simpa using q
          rw [once_eq] at q
          rcases List.mem_cons.1 hs with rfl | hs
          · cases hn : isName s
            · rw [hn] at q; simp at q
            · rfl
          · exact ih _ h s hs
    exact key c [] h

def HL (p : Pck) (D : List Int) (n g4 : Nat) (Z : List CV) (z4 : Nat) (T : List Tst) (z : Nat) (S : List Str) : Heap := [PkB p, .cells 1 [] 0, .cells 1 (cI D) 0, .cells 0 [.c (ci n), .c (ci 0), .c (ci p.key)] 0, .cells g4 (cellsOf Z) z4, .cells (1 + T.length) (cellsOf (T.map Tst.enc)) z, .cells (1 + S.length) (cS S) 0]

theorem L3_2 (p : Pck) (D : List Int) (n g4 : Nat) (Z : List CV) (z4 : Nat) (z : Nat) (c : List Str) (hc : (c.length : Int) < 9223372036854775807) (day : Int) : ∀ (r pre : List Str) (T : List Tst) (S : List Str), z ≤ T.length * 2 → (∀ s ∈ r, s ∈ c) → (S ++ r).Nodup → T.length + r.length ≤ 100 → S.length + r.length ≤ 100 → pre.length + r.length ≤ 100 →
    execS P (limS P) c3_l2 ⟨[.c (.slice (c.map CV.str)), .ptr 0 0 0, .slice 5 (1 + T.length) 0 T.length (some 2) none, .slice 6 (1 + S.length) 0 S.length none none, .c (ci day), .c (.slice ((pre ++ r).map CV.str)), .c (ci (pre ++ r).length), .c (ci pre.length)], HL p D n g4 Z z4 T z S⟩ =
      some (.exit 6, ⟨[.c (.slice (c.map CV.str)), .ptr 0 0 0, .slice 5 (1 + (T ++ r.map (Tst.mk · day)).length) 0 (T ++ r.map (Tst.mk · day)).length (some 2) none, .slice 6 (1 + (S ++ r).length) 0 (S ++ r).length none none, .c (ci day)], HL p D n g4 Z z4 (T ++ r.map (Tst.mk · day)) z (S ++ r)⟩) := by
  intro r
  induction r with
  | nil =>
    intro pre T S _ _ _ _ _ _
    rw [r3_l2]
    simp [c3_l2b]
  | cons x r ih =>
    intro pre T S hz hi hn h1 h2 h3
    have ih := ih (pre ++ [x]) (T ++ [⟨x, day⟩]) (S ++ [x]) (by simp; omega) (fun s q => hi s (by simp [q])) (by simpa using hn) (by simp at h1 ⊢; omega) (by simp at h2 ⊢; omega) (by simp at h3 ⊢; omega)
    have a1 : c.any (Str.is x) = true := List.any_eq_true.2 ⟨x, hi x (by simp), by simp [Str.is]⟩
    have a2 : S.any (Str.is x) = false := by
      rw [List.any_eq_false]
      intro y hy q
      have q : y = x := by simpa [Str.is] using q
      subst q
      rw [List.nodup_append] at hn
      exact hn.2.2 y hy y (by simp) rfl
    simp at h1 h2 h3
    have e1 := S12 (P := P) x c hc
    have e2 := S12 (P := P) x S (by omega)
    rw [a1] at e1
    rw [a2] at e2
    have hw : IntKind.i64.wrap (↑pre.length + 1) = ↑pre.length + 1 := wrap64 (by omega) (by omega)
    have hlt : (pre.length : Int) < pre.length + (r.length + 1) := by omega
    have hf := frz_own (b := 6) (g := 1 + S.length) (fz := 0) (e := none) (ys := S.map CV.str) (h := [PkB p, .cells 1 [] 0, .cells 1 (cI D) 0, .cells 0 [.c (ci n), .c (ci 0), .c (ci p.key)] 0, .cells g4 (cellsOf Z) z4, .cells (1 + T.length) (cellsOf (T.map Tst.enc)) z, .cells (1 + S.length) (cellsOf (S.map CV.str)) 0]) (len := S.length) rfl (strElems _) (by simp) none
    have hA := append_own (b := 6) (g := 1 + S.length) (bytes := 16) (e := none) (ys := S.map CV.str) (xs := [.str x]) (h := [PkB p, .cells 1 [] 0, .cells 1 (cI D) 0, .cells 0 [.c (ci n), .c (ci 0), .c (ci p.key)] 0, .cells g4 (cellsOf Z) z4, .cells (1 + T.length) (cellsOf (T.map Tst.enc)) z, .cells (1 + S.length) (cellsOf (S.map CV.str)) 0]) (len := S.length) (fz := 0) rfl (strElems _) (by simpa using strElem x) (by simp) (Nat.zero_le _) (by simp) (by simp; omega) (by simp; omega)
    have es : S.map CV.str ++ [CV.str x] = (S ++ [x]).map CV.str := by simp
    rw [es] at hA
    rw [cellsOf_strs] at hf hA
    rw [cellsOf_strs] at hA
    have hB := append_own (b := 5) (g := 1 + T.length) (bytes := 24) (e := some 2) (ys := T.map Tst.enc) (xs := [(Tst.mk x day).enc]) (h := [PkB p, .cells 1 [] 0, .cells 1 (cI D) 0, .cells 0 [.c (ci n), .c (ci 0), .c (ci p.key)] 0, .cells g4 (cellsOf Z) z4, .cells (1 + T.length) (cellsOf (T.map Tst.enc)) z, .cells (1 + S.length + 1) (cS (S ++ [x])) 0]) (len := T.length) (fz := z) rfl (Tst.elems _) (by simpa using (Tst.mk x day).elem) (by simp) (by rw [cellsOf_length (Tst.elems _)]; simpa [szOf] using hz) (by simp) (by simp; omega) (by simp; omega)
    have et : 1 + (T.length + 1) = 1 + T.length + 1 := by omega
    have et2 : 1 + (S.length + 1) = 1 + S.length + 1 := by omega
    have hu : ∀ n ys, underL n (cellsOf ys) = true := fun n ys => underL_cellsOf n ys
    rw [r3_l2]
    simp [HL, PkB, Tst.enc] at ih hf hA hB ⊢
    rw [et, et2] at ih
    simp [c3_l2b, hw, hlt, e1, e2, hf, hA, hB, hu, under_cI, cS_under, Tst.enc, ih]

theorem L3_3 (p : Pck) (n g4 : Nat) (Z : List CV) (z4 : Nat) (c : List Str) (hc : c.length ≤ 8) (hcl : ∀ x ∈ c, x.length < 9223372036854775807) (h1 : onceL 160 c = 0) (p5 : 1 ≤ p.key) (p6 : p.key ≤ 2147483646) : ∀ (m : Nat) (R S : List Str) (T : List Tst) (day : Int) (z : Nat), R.length ≤ m → ordL c p.key = S ++ R → T.map Tst.name = S → (∀ x ∈ T, 100 ≤ x.day ∧ x.day < day) → 100 ≤ day → day ≤ 100 + S.length → z ≤ T.length * 2 →
    ∃ T' S' z', execS P (limS P) c3_l3 ⟨[.c (.slice (c.map CV.str)), .ptr 0 0 0, .slice 5 (1 + T.length) 0 T.length (some 2) none, .slice 6 (1 + S.length) 0 S.length none none, .c (ci day)], HL p (drawL p.key n) n g4 Z z4 T z S⟩ = some (.exit 4, ⟨[], HL p (drawL p.key n) n g4 Z z4 T' z' S'⟩) := by
  intro m
  have hN := (ordL_perm p5 p6).nodup_iff.2 (onceL_nodup h1)
  have hlen := ordL_length c p.key
  induction m with
  | zero =>
    intro R S T day z hm hO hT hd d1 d2 hz
    have hR : R = [] := by simpa using hm
    subst hR
    have hS : S.length = c.length := by rw [← hlen, hO]; simp
    refine ⟨T, S, z, ?_⟩
    rw [r3_l3]
    simp [c3_l3b, hS]
  | succ m ih =>
    intro R S T day z hm hO hT hd d1 d2 hz
    have hSR : S.length + R.length = c.length := by rw [← hlen, hO]; simp
    have hTS : T.length = S.length := by rw [← hT]; simp
    by_cases hR : R = []
    · subst hR
      refine ⟨T, S, z, ?_⟩
      have hS : S.length = c.length := by simpa using hSR
      rw [r3_l3]
      simp [c3_l3b, hS]
    · have hR1 : 0 < R.length := List.length_pos_iff.2 hR
      have hmem : ∀ s ∈ S ++ R, s ∈ c := fun s q => (ordL_perm p5 p6).mem_iff.1 (hO ▸ q)
      rw [hO] at hN
      have hst := poolA_stage (T := T) (day := day) hO hN hT hd (by omega)
      have hTc : checkTsts T = 0 := by
        rw [checkTsts_zero]
        refine ⟨by omega, fun x hx => ⟨onceL_names h1 _ (hmem _ ?_), ?_⟩⟩
        · rw [← hT]; simp; exact .inl ⟨x, hx, rfl⟩
        · have := hd x hx; omega
      have hTo : ∀ x ∈ T, x.ok := fun x hx => hcl _ (hmem _ (by rw [← hT]; simp; exact .inl ⟨x, hx, rfl⟩))
      have hE : pickE { count := 2, spare := 50, key := p.key } = 0 := by
        unfold pickE outside drawE
        simp
        omega
      have hday : dated day = 0 := by rw [dated_zK]; omega
      have a := S11 (P := P) c T { count := 2, spare := 50, key := p.key } day (by omega) hcl (by omega) hTo (by simp [poolE, firstE, h1, hTc, hE, hday])
      simp only [hst, show (2 : Int).toNat = 2 from rfl] at a
      obtain ⟨N, R', hNR, hN2⟩ : ∃ N R', R = N ++ R' ∧ R.take 2 = N := ⟨_, _, (List.take_append_drop 2 R).symm, rfl⟩
      have hNl : N.length = min 2 R.length := by rw [← hN2]; simp
      have hRl : R.length = N.length + R'.length := by rw [hNR]; simp
      rw [hN2] at a
      simp [Pck.enc] at a
      have k2 := L3_2 (P := P) p (drawL p.key n) n g4 Z z4 (T.length * 2) c (by omega) day N [] T S (by omega) (fun s q => hmem s (by rw [hNR]; simp [q])) (by rw [hNR, ← List.append_assoc] at hN; exact (List.nodup_append.1 hN).1) (by omega) (by omega) (by simp; omega)
      obtain ⟨T', S', z', hI⟩ := ih R' (S ++ N) (T ++ N.map (Tst.mk · day)) (day + 1) (T.length * 2) (by omega) (by rw [hO, hNR]; simp) (by
        rw [List.map_append, hT, List.map_map]
        have : (Tst.name ∘ fun x => Tst.mk x day) = id := rfl
        rw [this]; simp) (by
        intro x hx
        rcases List.mem_append.1 hx with hx | hx
        · have := hd x hx; omega
        · obtain ⟨y, _, rfl⟩ := List.mem_map.1 hx
          simp; omega) (by omega) (by simp; omega) (by simp; omega)
      refine ⟨T', S', z', ?_⟩
      have hw : IntKind.i64.wrap (day + 1) = day + 1 := wrap64 (by omega) (by omega)
      have hw2 : IntKind.i64.wrap ((c.length : Int) - S.length) = c.length - S.length := wrap64 (by omega) (by omega)
      have hlt : (S.length : Int) < c.length := by omega
      have hf := frz_own (b := 5) (g := 1 + T.length) (fz := z) (e := some 2) (ys := T.map Tst.enc) (h := HL p (drawL p.key n) n g4 Z z4 T z S) (len := T.length) rfl (Tst.elems _) (by simp) none
      have hmax : Nat.max z (T.length * 2) = T.length * 2 := Nat.max_eq_right hz
      have hmin : (if (c.length : Int) - S.length < 2 then (c.length : Int) - S.length else 2) = N.length := by rw [hNl]; split <;> omega
      have hu : ∀ n ys, underL n (cellsOf ys) = true := fun n ys => underL_cellsOf n ys
      rw [r3_l3]
      simp [HL, PkB, bump, szOf, hmax, -frz_slice] at hI k2 hf ⊢
      simp [c3_l3b, hw, hw2, hlt, a, hf, k2, hu, under_cI, cS_under, foldInt, hmin, hI, -frz_slice]

/-- A test of somebody else. -/
def nob : Tst := ⟨[110, 111, 98, 111, 100, 121, 57], 30⟩

theorem S3 (h9 : fn P 9 [] = some (.bool true)) (c : List Str) (l : List Tst) (p : Pck) (hc : (c.length : Int) < 9223372036854775807) (hcl : ∀ x ∈ c, x.length < 9223372036854775807) (hl : l.length * 24 ≤ 2 ^ 47) (hlo : ∀ x ∈ l, x.ok) :
    fn P 3 [.slice (c.map CV.str), .slice (l.map Tst.enc), p.enc] = some (.bool true) := by
  have e4 := S4 (P := P) l hl
  have e5 := S5 (P := P) c l hc (by omega)
  have e6 := S6 (P := P) c hc
  have e7 := S7 (P := P) l (by omega)
  have e8 := S8 (P := P) p
  have w0 : IntKind.i64.wrap 0 = 0 := wrap64 (by omega) (by omega)
  have r1 := onceL_range 160 c
  have r2 := checkTsts_range l
  simp [Pck.enc] at e8
  rw [u3]
  by_cases g1 : (8 : Int) < c.length
  · simp [c3, Pck.enc, e4, h9, g1]
  · by_cases g2 : (12 : Int) < l.length
    · simp [c3, Pck.enc, e4, h9, g1, g2]
    · cases g3 : shortTsts c l
      · rw [g3] at e5
        simp [c3, Pck.enc, e4, h9, g1, g2, e5]
      · rw [g3] at e5
        by_cases g4 : onceL 160 c + checkTsts l = 0
        · have g5 : onceL 160 c = 0 := by omega
          have g6 : checkTsts l = 0 := by omega
          rw [g5] at e6
          rw [g6] at e7
          by_cases g7 : pickE p = 0
          · rw [g7] at e8
            obtain ⟨p1, p2, p3, p4, p5, p6⟩ := pickE_zero g7
            have hd : drawE p.key c.length = 0 := by unfold drawE; rw [if_neg (by omega)]
            have e10 := S10 (P := P) p.key c.length hd
            have q0 : checkTsts [] = 0 := rfl
            have g7' : pickE { count := c.length, spare := 0, key := p.key } = 0 := by
              unfold pickE outside drawE
              simp
              omega
            have d100 : dated 100 = 0 := rfl
            have d60 : dated 60 = 0 := rfl
            have a1 := S11 (P := P) c [] { count := c.length, spare := 0, key := p.key } 100 (by omega) hcl (by simp) (by simp) (by simp [poolE, firstE, g5, q0, g7', d100])
            have a2 := S11 (P := P) c l p 60 (by omega) hcl (by omega) hlo (by simp [poolE, firstE, g5, g6, g7, d60])
            have ht : (ordL c p.key).take c.length = ordL c p.key := List.take_of_length_le (by rw [ordL_length]; omega)
            simp only [poolA_nil, Int.toNat_natCast, ht] at a1
            simp [Pck.enc] at a1
            have k0 := L3_0 (P := P) p c hc (.slice (l.map Tst.enc)) (drawL p.key c.length) [] (by simpa using drawL_range p5 p6) (by simp [drawL_length])
            have eO : (drawL p.key c.length).map (nm c) = ordL c p.key := rfl
            simp only [List.nil_append, eO] at k0
            simp [HK, PkB] at k0
            have k1 := L3_1 (P := P) p (drawL p.key c.length) c.length (.slice (c.map CV.str)) l (by omega) l.reverse [] (by simp)
            have ha := append_own (b := 4) (g := 1 + l.length) (bytes := 24) (e := some 2) (ys := l.reverse.map Tst.enc) (xs := [nob.enc]) (h := HB p (drawL p.key c.length) c.length l.reverse 0) (len := l.length) (fz := 0) (by simp [HB]) (Tst.elems _) (by simpa using nob.elem) (by simp) (Nat.zero_le _) (by simp) (by simp; omega) (by simp; omega)
            have en : l.reverse.map Tst.enc ++ [nob.enc] = (l.reverse ++ [nob]).map Tst.enc := by simp
            have hlb : (l.reverse ++ [nob]).length = l.length + 1 := by simp
            rw [en] at ha
            have hf := frz_own (b := 4) (g := 1 + l.length + 1) (fz := 0) (e := some 2) (ys := (l.reverse ++ [nob]).map Tst.enc) (h := [PkB p, .cells 1 [] 0, .cells 1 (cI (drawL p.key c.length)) 0, .cells 0 [.c (ci c.length), .c (ci 0), .c (ci p.key)] 0, .cells (1 + l.length + 1) (cellsOf ((l.reverse ++ [nob]).map Tst.enc)) 0]) (len := l.length + 1) rfl (Tst.elems _) (by simp) none
            have g6' : checkTsts (l.reverse ++ [nob]) = 0 := by
              rw [checkTsts_zero] at g6 ⊢
              refine ⟨by simp; omega, fun x hx => ?_⟩
              simp at hx
              rcases hx with hx | rfl
              · exact g6.2 x hx
              · exact ⟨rfl, by decide, by decide⟩
            have a3 := S11 (P := P) c (l.reverse ++ [nob]) p 60 (by omega) hcl (by simp; omega) (by
              intro x hx
              simp at hx
              rcases hx with hx | rfl
              · exact hlo x hx
              · unfold Tst.ok nob; decide) (by simp [poolE, firstE, g5, g6', g7, d60])
            obtain ⟨B1, hB1⟩ : ∃ B, (poolA c l p.key p.spare 60).take p.count.toNat = B := ⟨_, rfl⟩
            obtain ⟨B2, hB2⟩ : ∃ B, (poolA c (l.reverse ++ [nob]) p.key p.spare 60).take p.count.toNat = B := ⟨_, rfl⟩
            have hsame : c.any (Str.is nob.name) = false → B1 = B2 := by
              intro h
              rw [← hB1, ← hB2]
              refine congrArg _ (poolA_same p5 p6 p.spare 60 fun s hs x hx => ?_)
              have : x ≠ nob := by
                intro e
                have h := List.any_eq_false.1 h s hs
                rw [← hx, e] at h
                exact h (by simp [Str.is])
              simp [this]
            have hB1l : (B1.length : Int) < 9223372036854775807 := by rw [← hB1, List.length_take, poolA_length p5 p6]; have := lateL_le c l p.spare 60; omega
            have e12 := S12 (P := P) nob.name c hc
            have e13 := S13 (P := P) B1 B2 hB1l
            rw [hB1] at a2
            rw [hB2] at a3
            generalize l.reverse ++ [nob] = lb at ha hf a3 hlb
            simp [HB, PkB] at k1 ha
            simp [PkB, bump, szOf] at hf
            simp [Pck.enc] at a2 a3
            simp [nob, Tst.enc] at ha e12
            obtain ⟨T', S', z', k3⟩ := L3_3 (P := P) p c.length (1 + l.length + 1) (lb.map Tst.enc) ((l.length + 1) * 2) c (by omega) hcl g5 p5 p6 c.length (ordL c p.key) [] [] 100 0 (by rw [ordL_length]; exact Nat.le_refl _) rfl rfl (by simp) (by omega) (by simp) (by simp)
            have e0 : cS [] = [] := rfl
            simp [HL, PkB, e0] at k3
            cases hw : c.any (Str.is nob.name)
            · have hs := hsame hw
              rw [← hs] at a3 e13
              simp only [nob] at hw
              rw [hw] at e12
              simp at e13
              simp [c3, Pck.enc, e4, h9, g1, g2, e5, e6, e7, e8, w0, e10, a1, k0, k1, ha, a2, hf, a3, e12, e13, ordL_length, LV.shift, shiftL, shiftB, LB.shift, shift_cI, k3]
            · simp only [nob] at hw
              rw [hw] at e12
              simp [c3, Pck.enc, e4, h9, g1, g2, e5, e6, e7, e8, w0, e10, a1, k0, k1, ha, a2, hf, a3, e12, ordL_length, LV.shift, shiftL, shiftB, LB.shift, shift_cI, k3]
          · simp [c3, Pck.enc, e4, h9, g1, g2, e5, e6, e7, e8, w0, g7]
        · have hw : IntKind.i64.wrap (onceL 160 c + checkTsts l) = onceL 160 c + checkTsts l := wrap64 (by omega) (by omega)
          simp [c3, Pck.enc, e4, h9, g1, g2, e5, e6, e7, hw, g4]
end LM.GT

