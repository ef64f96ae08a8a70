/- Part 10 of what YteihlaoeolfkfaaGreatJur leans on. -/
import Derived.Test.YteihlaoeolfkfaaGreatRows
import Derived.WalkKit
import Derived.ProofKit
import Derived.SizedLaws
import Derived.Test.YteihlaoeolfkfaaGreatLib1
import Derived.Test.YteihlaoeolfkfaaGreatLib2
import Derived.Test.YteihlaoeolfkfaaGreatLib3
import Derived.Test.YteihlaoeolfkfaaGreatJur1
import Derived.Test.YteihlaoeolfkfaaGreatJur2
import Derived.Test.YteihlaoeolfkfaaGreatJur3
import Derived.Test.YteihlaoeolfkfaaGreatJur4
import Derived.Test.YteihlaoeolfkfaaGreatJur5
import Derived.Test.YteihlaoeolfkfaaGreatJur6
set_option linter.all false
namespace Go.Proofs.YteihlaoeolfkfaaGreat
open Go.ChangeShapes Go.WideShapes Go.ChangeAt Go.RowKit

theorem own_knob : ownKnob Tryz.prog.godebug = none := by kernel_rfl
theorem laid_out : laidOutB Tryz.prog = true := by kernel_rfl
theorem maps_rowed : mapsRowed Tryz.prog = true := by kernel_rfl
theorem slices_full : LM.slicesFullB Tryz.prog = true := by kernel_rfl

theorem typed_map {α : Type} {enc : α → LM.CV} {p : α → Prop} {e : LM.CTy} (h : ∀ x, LM.Typed e x → ∃ a, x = enc a ∧ p a) : ∀ {xs : List LM.CV}, (∀ x ∈ xs, LM.Typed e x) → ∃ l : List α, xs = l.map enc ∧ ∀ a ∈ l, p a
  | [], _ => ⟨[], rfl, by simp⟩
  | x :: xs, hx => by
    obtain ⟨a, ha, hp⟩ := h x (hx x (by simp))
    obtain ⟨l, hl, hq⟩ := typed_map h (xs := xs) fun y hy => hx y (by simp [hy])
    exact ⟨a :: l, by rw [ha, hl]; rfl, fun b hb => by rcases List.mem_cons.1 hb with rfl | hb; exact hp; exact hq b hb⟩

theorem typed_slice {α : Type} {enc : α → LM.CV} {p : α → Prop} {e : LM.CTy} {b : Nat} (h : ∀ x, LM.Typed e x → ∃ a, x = enc a ∧ p a) {v : LM.CV} (hv : LM.Typed (.slice b e) v) : ∃ l : List α, v = .slice (l.map enc) ∧ (∀ a ∈ l, p a) ∧ l.length * b ≤ 2 ^ 47 := by
  simp only [LM.Typed] at hv
  obtain ⟨xs, rfl, _, hb, hx⟩ := hv
  obtain ⟨l, rfl, hp⟩ := typed_map h hx
  refine ⟨l, rfl, hp, ?_⟩
  rw [List.length_map] at hb
  exact Nat.le_trans hb (by decide)

theorem typed_str {v : LM.CV} (hv : LM.Typed .str v) : ∃ s : LM.Str, v = .str s ∧ s.length < 9223372036854775807 := by
  simp only [LM.Typed] at hv
  obtain ⟨s, rfl, h⟩ := hv
  exact ⟨s, rfl, Nat.lt_of_le_of_lt h (by decide)⟩

theorem typed_int {v : LM.CV} (hv : LM.Typed (.int .i64) v) : ∃ n, v = LM.ci n ∧ -9223372036854775808 ≤ n ∧ n ≤ 9223372036854775807 := by
  simp only [LM.Typed] at hv
  obtain ⟨n, rfl, h⟩ := hv
  refine ⟨n, rfl, ?_⟩
  simp [Lit.wf, IntKind.min, IntKind.max, IntKind.bits, IntKind.signed] at h
  omega

end Go.Proofs.YteihlaoeolfkfaaGreat

namespace LM.G9
open Go LM
variable {P : Nat → Option SFunc} [Has P]

@[simp] theorem S54 (n a b : Int) : fn P 54 [ci n, ci a, ci b] = some (.bool (outside n a b)) := by
  rw [u54]; simp [c54, outside]

@[simp] theorem S105 (n a b : Int) : fn P 105 [ci n, ci a, ci b] = some (.bool (outside n a b)) := by
  rw [u105]; simp [c105, outside]

@[simp] theorem S82 (b : Bool) (e : Int) : fn P 82 [.bool b, ci e] = some (ci (whenE b e)) := by
  rw [u82]; cases b <;> simp [c82, whenE]

@[simp] theorem S81 (d : Int) : fn P 81 [ci d] = some (ci (dated d)) := by
  rw [u81]; simp [c81, dated]

@[simp] theorem S150 (c : Nat) : fn P 150 [.int .i32 c] = some (.bool (letterN c)) := by
  rw [u150]; simp [c150, letterN]
  rw [show decide ((97 : Int) ≤ c) = decide (97 ≤ c) from decide_eq_decide.2 (by omega), show decide ((c : Int) ≤ 122) = decide (c ≤ 122) from decide_eq_decide.2 (by omega),
    show decide ((65 : Int) ≤ c) = decide (65 ≤ c) from decide_eq_decide.2 (by omega), show decide ((c : Int) ≤ 90) = decide (c ≤ 90) from decide_eq_decide.2 (by omega)]

theorem L79 : ∀ (l pre : List Int), (l.length : Int) + pre.length < 9223372036854775807 → execS P (limS P) c79_l0 ⟨[.c (.slice ((pre ++ l).map ci)), .c (ci (pre ++ l).length), .c (ci pre.length)], []⟩ = if firstE l = 0 then some (.exit 0, ⟨[], []⟩) else some (.ret, ⟨[.c (ci (firstE l))], []⟩) := by
  intro l
  induction l with
  | nil =>
    intro pre h
    rw [r79_l0]
    simp [c79_l0b, firstE]
  | cons c r ih =>
    intro pre h
    have ih := ih (pre ++ [c]) (by simp at h ⊢; omega)
    simp at ih h
    have hw : IntKind.i64.wrap (↑pre.length + 1) = ↑pre.length + 1 := wrap64 (by omega) (by omega)
    have hlt : (pre.length : Int) < pre.length + (r.length + 1) := by omega
    rw [r79_l0]
    by_cases hc : c = 0
    · subst hc
      simp [c79_l0b, firstE, hw, hlt, ih]
    · simp [c79_l0b, firstE, hw, hlt, hc]

@[simp] theorem S79 (l : List Int) (h : l.length < 9223372036854775807) : fn P 79 [.slice (l.map ci)] = some (ci (firstE l)) := by
  have := L79 (P := P) l [] (by simp; omega)
  rw [u79]
  simp at this
  simp [c79, this]
  by_cases hc : firstE l = 0 <;> simp [hc]

@[simp] theorem S79_1 (a : Int) : fn P 79 [.slice [ci a]] = some (ci (firstE [a])) := S79 [a] (by simp)
@[simp] theorem S79_2 (a b : Int) : fn P 79 [.slice [ci a, ci b]] = some (ci (firstE [a, b])) := S79 [a, b] (by simp)
@[simp] theorem S79_3 (a b c : Int) : fn P 79 [.slice [ci a, ci b, ci c]] = some (ci (firstE [a, b, c])) := S79 [a, b, c] (by simp)
@[simp] theorem S79_4 (a b c d : Int) : fn P 79 [.slice [ci a, ci b, ci c, ci d]] = some (ci (firstE [a, b, c, d])) := S79 [a, b, c, d] (by simp)
@[simp] theorem S79_5 (a b c d e : Int) : fn P 79 [.slice [ci a, ci b, ci c, ci d, ci e]] = some (ci (firstE [a, b, c, d, e])) := S79 [a, b, c, d, e] (by simp)

theorem L20 : ∀ (l pre : List Int), (l.length : Int) + pre.length < 9223372036854775807 → execS P (limS P) c20_l0 ⟨[.c (.slice ((pre ++ l).map ci)), .c (ci pre.length)], []⟩ = if firstE l = 0 then some (.exit 0, ⟨[], []⟩) else some (.ret, ⟨[.c (ci (firstE l))], []⟩) := by
  intro l
  induction l with
  | nil =>
    intro pre h
    rw [r20_l0]
    simp [c20_l0b, firstE]
  | cons c r ih =>
    intro pre h
    have ih := ih (pre ++ [c]) (by simp at h ⊢; omega)
    simp at ih h
    have hw : IntKind.i64.wrap (↑pre.length + 1) = ↑pre.length + 1 := wrap64 (by omega) (by omega)
    have hlt : (pre.length : Int) < pre.length + (r.length + 1) := by omega
    rw [r20_l0]
    by_cases hc : c = 0
    · subst hc
      simp [c20_l0b, firstE, hw, hlt, ih]
    · simp [c20_l0b, firstE, hw, hlt, hc]

@[simp] theorem S20 (l : List Int) (h : l.length < 9223372036854775807) : fn P 20 [.slice (l.map ci)] = some (ci (firstE l)) := by
  have := L20 (P := P) l [] (by simp; omega)
  rw [u20]
  simp at this
  simp [c20, this]
  by_cases hc : firstE l = 0 <;> simp [hc]

@[simp] theorem S20_2 (a b : Int) : fn P 20 [.slice [ci a, ci b]] = some (ci (firstE [a, b])) := S20 [a, b] (by simp)
@[simp] theorem S20_3 (a b c : Int) : fn P 20 [.slice [ci a, ci b, ci c]] = some (ci (firstE [a, b, c])) := S20 [a, b, c] (by simp)
@[simp] theorem S20_4 (a b c d : Int) : fn P 20 [.slice [ci a, ci b, ci c, ci d]] = some (ci (firstE [a, b, c, d])) := S20 [a, b, c, d] (by simp)

theorem L22 (s : Str) (hs : s.length ≤ 24) : ∀ (l pre : Str), s = pre ++ l → execS P (limS P) c22_l0 ⟨[.c (.str s), .c (ci pre.length)], []⟩ = if nameFrom pre.length l then some (.exit 0, ⟨[], []⟩) else some (.ret, ⟨[.c (.bool false)], []⟩) := by
  intro l
  induction l with
  | nil =>
    intro pre h
    rw [r22_l0]
    simp [c22_l0b, h, nameFrom]
  | cons c r ih =>
    intro pre h
    have ih := ih (pre ++ [c]) (by simp [h])
    simp at ih
    rw [h] at hs
    simp at hs
    have hw : IntKind.i64.wrap (↑pre.length + 1) = ↑pre.length + 1 := wrap64 (by omega) (by omega)
    have hlt : (pre.length : Int) < pre.length + (r.length + 1) := by omega
    have hn : (((↑c.toNat : Int) < 97 ∨ 122 < (↑c.toNat : Int)) ∧ ((↑c.toNat : Int) < 65 ∨ 90 < (↑c.toNat : Int))) ∧ (pre = [] ∨ ((↑c.toNat : Int) < 48 ∨ 57 < (↑c.toNat : Int)) ∧ ¬(↑c.toNat : Int) = 95) ↔ nameN pre.length c.toNat = false := by
      have hp : pre = [] ↔ pre.length = 0 := by simp
      unfold nameN letterN digitN
      cases pre with
      | nil => simp; omega
      | cons x y => simp; omega
    rw [r22_l0]
    simp [c22_l0b, h, nameFrom, hw, hlt, hn]
    rw [← h, ih]
    cases nameN pre.length c.toNat <;> simp

@[simp] theorem S22 (s : Str) : fn P 22 [.str s] = some (.bool (isName s)) := by
  rw [u22]
  by_cases h1 : s.length < 1
  · have : s = [] := List.eq_nil_of_length_eq_zero (by omega)
    subst this
    simp [c22, isName]
  · by_cases h2 : s.length > 24
    · have h3 : ¬ (s.length : Int) < 1 := by omega
      have h4 : (24 : Int) < (s.length : Int) := by omega
      have h5 : ¬ s.length ≤ 24 := by omega
      simp [c22, isName, h3, h4, h5]
    · have := L22 (P := P) s (by omega) s [] rfl
      simp at this
      have h3 : ¬ (s.length : Int) < 1 := by omega
      have h4 : ¬ (24 : Int) < (s.length : Int) := by omega
      have h5 : s.length ≤ 24 := by omega
      have h6 : 1 ≤ s.length := by omega
      simp [c22, isName, h3, h4, h5, h6, this]
      cases nameFrom 0 s <;> simp

theorem L132 (s : Str) (hs : s.length < 9223372036854775807) : ∀ (l pre : Str), s = pre ++ l → ∃ q, execS P (limS P) c132_l0 ⟨[.c (.str s), .ptr 0 0 0], [.iter s pre.length]⟩ = if nameFrom pre.length l then some (.exit 0, ⟨[.c (.str s)], [.iter s s.length]⟩) else some (.ret, ⟨[.c (.bool false)], [.iter s q]⟩) := by
  intro l
  induction l with
  | nil =>
    intro pre h
    refine ⟨0, ?_⟩
    rw [r132_l0]
    simp [c132_l0b, h, nameFrom]
  | cons c r ih =>
    intro pre h
    obtain ⟨q, ih⟩ := ih (pre ++ [c]) (by simp [h])
    simp at ih
    have hc : s[pre.length]? = some c := by simp [h]
    rw [r132_l0]
    rcases Nat.lt_or_ge c.toNat 128 with hlo | hhi
    · have hd := decode_lo hc hlo
      rw [h] at hd
      have hn : (letterN c.toNat = false ∧ (pre = [] ∨ ¬(↑c.toNat : Int) = 95 ∧ ((↑c.toNat : Int) < 48 ∨ 57 < (↑c.toNat : Int)))) ↔ nameN pre.length c.toNat = false := by
        unfold nameN digitN
        cases pre with
        | nil => simp
        | cons x y => simp; cases letterN c.toNat <;> simp; omega
      refine ⟨if nameN pre.length c.toNat = false then pre.length + 1 else q, ?_⟩
      simp [c132_l0b, h, nameFrom, hd, hn]
      rw [h] at ih
      simp at ih
      cases nameN pre.length c.toNat <;> simp [ih]
    · have hd := decode_hi hc hhi
      rw [h] at hd
      have hl : letterN (Utf8.decode { data := List.toArray (pre ++ c :: r) } pre.length).fst = false := by
        have := nameN_hi (i := 0) hd
        simpa [nameN] using this
      have h1 : ¬ (↑(Utf8.decode { data := List.toArray (pre ++ c :: r) } pre.length).fst : Int) = 95 := by omega
      have h2 : (57 : Int) < (↑(Utf8.decode { data := List.toArray (pre ++ c :: r) } pre.length).fst : Int) := by omega
      refine ⟨pre.length + (Utf8.decode { data := List.toArray (pre ++ c :: r) } pre.length).snd, ?_⟩
      simp [c132_l0b, h, nameFrom, hl, h1, h2, nameN_hi hhi]

@[simp] theorem S132 (s : Str) (hs : s.length < 9223372036854775807) : fn P 132 [.str s] = some (.bool (isName s)) := by
  rw [u132]
  obtain ⟨q, this⟩ := L132 (P := P) s hs s [] rfl
  simp at this
  simp [c132, this]
  cases hn : nameFrom 0 s
  · simp [isName, hn]
  · cases s with
    | nil => simp [isName]
    | cons c r =>
      simp [isName, hn]
      omega

@[simp] theorem S80 (s : Str) (hs : s.length < 9223372036854775807) : fn P 80 [.str s] = some (ci (named s)) := by
  rw [u80]; simp [c80, hs, named]

end LM.G9

namespace LM.G9
open Go LM
variable {P : Nat → Option SFunc} [Has P]

structure Lic where
  name : Str
  frm : Int
  to : Int
def Lic.enc (x : Lic) : CV := .agg [.str x.name, ci x.frm, ci x.to]
def Lic.ok (x : Lic) : Prop := x.name.length < 9223372036854775807

def checkLic (x : Lic) : Int := firstE [named x.name, dated x.frm, dated x.to, whenE (decide (x.frm > x.to)) 11]

theorem S78 (x : Lic) (hx : x.ok) (b : CV) : fn P 78 [x.enc, b] = some (ci (checkLic x)) := by
  rw [u78]
  unfold Lic.ok at hx
  simp [c78, Lic.enc, hx, checkLic]

/-- The first error of a list's elements. -/
def eachE {α : Type} (chk : List α → α → Int) : List α → List α → Int
  | _, [] => 0
  | pre, x :: r => if chk pre x ≠ 0 then chk pre x else eachE chk (pre ++ [x]) r

theorem L77 : ∀ (l pre : List Lic), (∀ x ∈ l, x.ok) → ((pre ++ l).length : Int) < 9223372036854775807 →
    ∃ h', execS P (limS P) c77_l0 ⟨[.c (.slice ((pre ++ l).map Lic.enc)), .c (.func 78 [] []), .c (.slice ((pre ++ l).map Lic.enc)), .c (ci (pre ++ l).length), .c (ci pre.length)], []⟩ = if eachE (fun _ => checkLic) pre l = 0 then some (.exit 0, ⟨[], []⟩) else some (.ret, ⟨[.c (ci (eachE (fun _ => checkLic) pre l))], h'⟩) := by
  intro l
  induction l with
  | nil =>
    intro pre hl h
    rw [r77_l0]
    exact ⟨[], by simp [c77_l0b, eachE]⟩
  | cons c r ih =>
    intro pre hl h
    obtain ⟨h', ih⟩ := ih (pre ++ [c]) (fun x hx => hl x (by simp [hx])) (by simpa using h)
    have hc := S78 (P := P) c (hl c (by simp))
    simp [Lic.enc] at ih h hc
    have hw : IntKind.i64.wrap (↑pre.length + 1) = ↑pre.length + 1 := wrap64 (by omega) (by omega)
    have hlt : (pre.length : Int) < pre.length + (r.length + 1) := by omega
    have hz : szFits 3 (List.map Lic.enc pre ++ CV.agg [CV.str c.name, ci c.frm, ci c.to] :: List.map Lic.enc r) = true := by cases pre <;> rfl
    have hb : (pre.length : Int) ≤ pre.length + (r.length + 1) := by omega
    rw [r77_l0]
    by_cases h0 : checkLic c = 0
    · refine ⟨h', ?_⟩
      simp [c77_l0b, eachE, hw, hlt, Lic.enc, hc, hz, hb, h0, ih]
    · refine ⟨[LB.cells 0 [LV.c (CV.str c.name), LV.c (ci c.frm), LV.c (ci c.to)] 0], ?_⟩
      simp [c77_l0b, eachE, hw, hlt, Lic.enc, hc, hz, hb, h0]

theorem S77 (l : List Lic) (m : Int) (hl : ∀ x ∈ l, x.ok) (h : (l.length : Int) < 9223372036854775807) : fn P 77 [.slice (l.map Lic.enc), ci m, .func 78 [] []] = some (ci (if (l.length : Int) > m then 5 else eachE (fun _ => checkLic) [] l)) := by
  rw [u77]
  obtain ⟨h', this⟩ := L77 (P := P) l [] hl (by simpa using h)
  simp at this
  by_cases hm : (l.length : Int) > m
  · have hm' : m < (l.length : Int) := hm
    simp [c77, hm']
  · have hm' : ¬ m < (l.length : Int) := hm
    simp [c77, hm', this]
    by_cases h0 : eachE (fun _ => checkLic) [] l = 0 <;> simp [h0]

def checkLics (l : List Lic) : Int := if (l.length : Int) > 256 then 5 else eachE (fun _ => checkLic) [] l

@[simp] theorem S17 (l : List Lic) (hl : ∀ x ∈ l, x.ok) (h : (l.length : Int) < 9223372036854775807) : fn P 17 [.slice (l.map Lic.enc)] = some (ci (checkLics l)) := by
  rw [u17]
  have := S77 (P := P) l 256 hl h
  simp [c17, this, checkLics]

end LM.G9

namespace LM.G9
open Go LM

/-- The number of the first element of a kind, or -1. -/
def idxF {α : Type} (p : α → Bool) : Nat → List α → Int
  | _, [] => -1
  | n, x :: r => if p x then n else idxF p (n + 1) r

theorem idxF_lt {α : Type} (p : α → Bool) : ∀ (l : List α) (n : Nat), (idxF p n l < 0) ↔ l.any p = false
  | [], n => by simp [idxF]
  | x :: r, n => by
    unfold idxF
    cases h : p x
    · simp [h, idxF_lt p r (n + 1)]
    · simp [h]

theorem idxF_none {α : Type} {p : α → Bool} : ∀ {l : List α} {n : Nat}, l.any p = false → idxF p n l = -1
  | [], n, _ => rfl
  | x :: r, n, h => by
    simp only [List.any_cons, Bool.or_eq_false_iff] at h
    rw [idxF, if_neg (by simp [h.1]), idxF_none h.2]

theorem idxF_dec {α : Type} (p : α → Bool) (l : List α) (n : Nat) : decide (0 ≤ idxF p n l) = l.any p := by
  have := idxF_lt p l n
  cases h : l.any p
  · have := this.2 h
    simp; omega
  · have : ¬ idxF p n l < 0 := fun q => by rw [this.1 q] at h; cases h
    simp; omega

end LM.G9

namespace LM.G9
open Go LM
variable {P : Nat → Option SFunc} [Has P]

def Str.is (s : Str) (x : Str) : Bool := x == s
theorem Str.is_eq (s x : Str) : Str.is s x = decide (x = s) := by unfold Str.is; by_cases h : x = s <;> simp [h]
theorem Str.is_eq' (s x : Str) : Str.is s x = decide (s = x) := by rw [Str.is_eq]; exact decide_eq_decide.2 eq_comm

theorem L154 (s : Str) : ∀ (l pre : List Str), ((pre ++ l).length : Int) < 9223372036854775807 →
    execS P (limS P) c154_l0 ⟨[.c (.slice ((pre ++ l).map CV.str)), .c (.str s), .c (ci (pre ++ l).length), .c (ci pre.length)], []⟩ = if l.any (Str.is s) then some (.ret, ⟨[.c (ci (idxF (Str.is s) pre.length l))], []⟩) else some (.exit 0, ⟨[], []⟩) := by
  intro l
  induction l with
  | nil =>
    intro pre h
    rw [r154_l0]
    simp [c154_l0b]
  | cons x r ih =>
    intro pre h
    have ih := ih (pre ++ [x]) (by simpa using h)
    simp at ih h
    have hw : IntKind.i64.wrap (↑pre.length + 1) = ↑pre.length + 1 := wrap64 (by omega) (by omega)
    have hlt : (pre.length : Int) < pre.length + (r.length + 1) := by omega
    have e := Str.is_eq' s x
    rw [r154_l0]
    by_cases h0 : s = x
    · simp only [h0, decide_true] at e
      simp [c154_l0b, hw, hlt, idxF, h0, e]
    · simp only [h0, decide_false] at e
      simp [c154_l0b, hw, hlt, idxF, h0, e, ih]

theorem S139 (s : Str) (l : List Str) (h : (l.length : Int) < 9223372036854775807) : fn P 139 [.slice (l.map CV.str), .str s] = some (.bool (l.any (Str.is s))) := by
  have hl := L154 (P := P) s l [] (by simpa using h)
  have h2 : fn P 154 [.slice (l.map CV.str), .str s] = some (ci (idxF (Str.is s) 0 l)) := by
    rw [u154]
    simp at hl
    simp [c154, hl]
    exact fun hx => (idxF_none (by simpa using hx)).symm
  rw [u139]
  simp [c139, h2, idxF_dec]

def once (pre : List Str) (s : Str) : Int := firstE [named s, whenE (pre.any (Str.is s)) 9]

theorem S104 (s : Str) (hs : s.length < 9223372036854775807) (pre : List Str) (h : (pre.length : Int) < 9223372036854775807) : fn P 104 [.str s, .slice (pre.map CV.str)] = some (ci (once pre s)) := by
  have h1 := S139 (P := P) s pre h
  rw [u104]
  simp [c104, hs, h1, once]

theorem L103 : ∀ (l pre : List Str), (∀ x ∈ l, x.length < 9223372036854775807) → ((pre ++ l).length : Int) < 9223372036854775807 →
    execS P (limS P) c103_l0 ⟨[.c (.slice ((pre ++ l).map CV.str)), .c (.func 104 [] []), .c (.slice ((pre ++ l).map CV.str)), .c (ci (pre ++ l).length), .c (ci pre.length)], []⟩ = if eachE once pre l = 0 then some (.exit 0, ⟨[], []⟩) else some (.ret, ⟨[.c (ci (eachE once pre l))], []⟩) := by
  intro l
  induction l with
  | nil =>
    intro pre hl h
    rw [r103_l0]
    simp [c103_l0b, eachE]
  | cons c r ih =>
    intro pre hl h
    have ih := ih (pre ++ [c]) (fun x hx => hl x (by simp [hx])) (by simpa using h)
    have hc := S104 (P := P) c (hl c (by simp)) pre (by simp at h; omega)
    have ht : List.take pre.length (List.map CV.str pre ++ CV.str c :: List.map CV.str r) = pre.map CV.str := by simp
    simp at ih h
    have hw : IntKind.i64.wrap (↑pre.length + 1) = ↑pre.length + 1 := wrap64 (by omega) (by omega)
    have hlt : (pre.length : Int) < pre.length + (r.length + 1) := by omega
    have hz : szFits 1 (List.map CV.str pre ++ CV.str c :: List.map CV.str r) = true := by cases pre <;> rfl
    have hb : (pre.length : Int) ≤ pre.length + (r.length + 1) := by omega
    rw [r103_l0]
    by_cases h0 : once pre c = 0
    · simp [c103_l0b, eachE, hw, hlt, hc, hz, hb, ht, h0, ih]
    · simp [c103_l0b, eachE, hw, hlt, hc, hz, hb, ht, h0]

def onceL (m : Int) (l : List Str) : Int := if (l.length : Int) > m then 5 else eachE once [] l

theorem S103 (l : List Str) (m : Int) (hl : ∀ x ∈ l, x.length < 9223372036854775807) (h : (l.length : Int) < 9223372036854775807) : fn P 103 [.slice (l.map CV.str), ci m, .func 104 [] []] = some (ci (onceL m l)) := by
  rw [u103]
  have this := L103 (P := P) l [] hl (by simpa using h)
  simp at this
  unfold onceL
  by_cases hm : (l.length : Int) > m
  · have hm' : m < (l.length : Int) := hm
    simp [c103, hm']
  · have hm' : ¬ m < (l.length : Int) := hm
    simp [c103, hm', this]
    by_cases h0 : eachE once [] l = 0 <;> simp [h0]

theorem L58 (s : Str) : ∀ (l pre : List Str), ((pre ++ l).length : Int) < 9223372036854775807 →
    execS P (limS P) c58_l0 ⟨[.c (.slice ((pre ++ l).map CV.str)), .c (.str s), .c (ci pre.length)], []⟩ = if l.any (Str.is s) then some (.ret, ⟨[.c (.bool true)], []⟩) else some (.exit 0, ⟨[], []⟩) := by
  intro l
  induction l with
  | nil =>
    intro pre h
    rw [r58_l0]
    simp [c58_l0b]
  | cons x r ih =>
    intro pre h
    have ih := ih (pre ++ [x]) (by simpa using h)
    simp at ih h
    have hw : IntKind.i64.wrap (↑pre.length + 1) = ↑pre.length + 1 := wrap64 (by omega) (by omega)
    have hlt : (pre.length : Int) < pre.length + (r.length + 1) := by omega
    have e := Str.is_eq s x
    rw [r58_l0]
    by_cases h0 : x = s
    · simp only [h0, decide_true] at e
      simp [c58_l0b, hw, hlt, h0, e]
    · simp only [h0, decide_false] at e
      simp [c58_l0b, hw, hlt, h0, e, ih]

theorem S58 (s : Str) (l : List Str) (h : (l.length : Int) < 9223372036854775807) : fn P 58 [.slice (l.map CV.str), .str s] = some (.bool (l.any (Str.is s))) := by
  have hl := L58 (P := P) s l [] (by simpa using h)
  simp [-List.any_eq_true] at hl
  rw [u58]
  cases h0 : l.any (Str.is s) <;> rw [h0] at hl <;> simp [c58, hl]

theorem once_eq (pre : List Str) (s : Str) : once pre s = if isName s = false then 8 else if pre.any (Str.is s) then 9 else 0 := by
  unfold once named whenE
  cases isName s <;> cases pre.any (Str.is s) <;> simp [firstE]

theorem L87 : ∀ (l pre : List Str), ((pre ++ l).length : Int) < 9223372036854775807 →
    execS P (limS P) c87_l0 ⟨[.c (.slice ((pre ++ l).map CV.str)), .c (ci pre.length)], []⟩ = if eachE once pre l = 0 then some (.exit 0, ⟨[], []⟩) else some (.ret, ⟨[.c (ci (eachE once pre l))], []⟩) := by
  intro l
  induction l with
  | nil =>
    intro pre h
    rw [r87_l0]
    simp [c87_l0b, eachE]
  | cons c r ih =>
    intro pre h
    have ih := ih (pre ++ [c]) (by simpa using h)
    have hc := S58 (P := P) c pre (by simp at h; omega)
    have ht : List.take pre.length (List.map CV.str pre ++ CV.str c :: List.map CV.str r) = pre.map CV.str := by simp
    have he := once_eq pre c
    simp at ih h
    have hw : IntKind.i64.wrap (↑pre.length + 1) = ↑pre.length + 1 := wrap64 (by omega) (by omega)
    have hlt : (pre.length : Int) < pre.length + (r.length + 1) := by omega
    have hz : szFits 1 (List.map CV.str pre ++ CV.str c :: List.map CV.str r) = true := by cases pre <;> rfl
    have hb : (pre.length : Int) ≤ pre.length + (r.length + 1) := by omega
    rw [r87_l0]
    cases h1 : isName c
    · rw [h1] at he
      simp [c87_l0b, eachE, hw, hlt, hz, hb, ht, h1, he]
    · cases h2 : pre.any (Str.is c)
      · rw [h1, h2] at he
        rw [h2] at hc
        simp at he
        simp [c87_l0b, eachE, hw, hlt, hz, hb, ht, h1, he, hc, ih]
      · rw [h1, h2] at he
        rw [h2] at hc
        simp at he
        simp [c87_l0b, eachE, hw, hlt, hz, hb, ht, h1, he, hc]

theorem S87 (l : List Str) (h : (l.length : Int) < 9223372036854775807) : fn P 87 [.slice (l.map CV.str)] = some (ci (eachE once [] l)) := by
  have this := L87 (P := P) l [] (by simpa using h)
  simp at this
  rw [u87]
  by_cases h0 : eachE once [] l = 0 <;> simp [c87, this, h0]

def shortS (s : Str) : Bool := decide (s.length ≤ 40)
theorem L84 (n : Int) : ∀ (l pre : List Str), ((pre ++ l).length : Int) < 9223372036854775807 →
    execS P (limS P) c84_l0 ⟨[.c (.slice ((pre ++ l).map CV.str)), .c (ci n), .c (ci pre.length)], []⟩ = if l.all shortS then some (.exit 0, ⟨[.c (.slice ((pre ++ l).map CV.str)), .c (ci n)], []⟩) else some (.ret, ⟨[.c (.bool false)], []⟩) := by
  intro l
  induction l with
  | nil =>
    intro pre h
    rw [r84_l0]
    simp [c84_l0b]
  | cons c r ih =>
    intro pre h
    have ih := ih (pre ++ [c]) (by simpa using h)
    simp [-List.all_eq_true] at ih h
    have hw : IntKind.i64.wrap (↑pre.length + 1) = ↑pre.length + 1 := wrap64 (by omega) (by omega)
    have hlt : (pre.length : Int) < pre.length + (r.length + 1) := by omega
    have e : shortS c = decide (c.length ≤ 40) := rfl
    have q : (40 : Int) < c.length ↔ ¬ c.length ≤ 40 := by omega
    rw [r84_l0]
    by_cases h0 : c.length ≤ 40 <;> simp [c84_l0b, hw, hlt, q, h0, e, ih, -List.all_eq_true, -Nat.not_le]

def shortL (l : List Str) (n : Int) : Bool := l.all shortS && decide ((l.length : Int) ≤ n)
theorem S84 (l : List Str) (n : Int) (h : (l.length : Int) < 9223372036854775807) : fn P 84 [.slice (l.map CV.str), ci n] = some (.bool (shortL l n)) := by
  have this := L84 (P := P) n l [] (by simpa using h)
  simp [-List.all_eq_true] at this
  rw [u84]
  unfold shortL
  cases h0 : l.all shortS <;> rw [h0] at this <;> simp [c84, this]

end LM.G9

namespace LM.G9
open Go LM
variable {P : Nat → Option SFunc} [Has P]

structure Ofc where
  name : Str
  nation : Str
  roles : List Str
  load : Int
def Ofc.enc (x : Ofc) : CV := .agg [.str x.name, .str x.nation, .slice (x.roles.map CV.str), ci x.load]
def Ofc.ptr (x : Ofc) : CV := .ptr [.str x.name, .str x.nation, .slice (x.roles.map CV.str), ci x.load] 0
def Ofc.ok (x : Ofc) : Prop := x.name.length < 9223372036854775807 ∧ x.nation.length < 9223372036854775807 ∧ (x.roles.length : Int) < 9223372036854775807 ∧ (∀ y ∈ x.roles, y.length < 9223372036854775807)
theorem Ofc.elem (x : Ofc) : Elem (some 4) x.enc := ⟨_, rfl, rfl, by simp [CV.flat]⟩
theorem Ofc.elems (l : List Ofc) : ∀ x ∈ l.map Ofc.enc, Elem (some 4) x := by
  intro x hx
  obtain ⟨y, _, rfl⟩ := List.mem_map.1 hx
  exact y.elem

def Ofc.is (n : Str) (x : Ofc) : Bool := x.name == n

theorem S102 (x c : Ofc) : fn P 102 [x.enc, c.ptr] = some (.bool (Ofc.is c.name x)) := by
  rw [u102]
  simp [c102, Ofc.enc, Ofc.ptr, Ofc.is]

theorem L138 (c : Ofc) : ∀ (l pre : List Ofc), ((pre ++ l).length : Int) < 9223372036854775807 →
    execS P (limS P) c138_l0 ⟨[.c (.slice ((pre ++ l).map Ofc.enc)), .c (.func 102 [] [c.ptr]), .c (ci (pre ++ l).length), .c (ci pre.length)], []⟩ = if l.any (Ofc.is c.name) then some (.ret, ⟨[.c (ci (idxF (Ofc.is c.name) pre.length l))], []⟩) else some (.exit 0, ⟨[], []⟩) := by
  intro l
  induction l with
  | nil =>
    intro pre h
    rw [r138_l0]
    simp [c138_l0b]
  | cons x r ih =>
    intro pre h
    have ih := ih (pre ++ [x]) (by simpa using h)
    have hc := S102 (P := P) x c
    simp [Ofc.enc] at ih h hc
    have hw : IntKind.i64.wrap (↑pre.length + 1) = ↑pre.length + 1 := wrap64 (by omega) (by omega)
    have hlt : (pre.length : Int) < pre.length + (r.length + 1) := by omega
    rw [r138_l0]
    cases h0 : Ofc.is c.name x
    · simp [c138_l0b, hw, hlt, Ofc.enc, hc, idxF, h0, ih]
    · simp [c138_l0b, hw, hlt, Ofc.enc, hc, idxF, h0]

theorem S101 (c : Ofc) (l : List Ofc) (h : (l.length : Int) < 9223372036854775807) : fn P 101 [.slice (l.map Ofc.enc), .func 102 [] [c.ptr]] = some (.bool (l.any (Ofc.is c.name))) := by
  have hl := L138 (P := P) c l [] (by simpa using h)
  have h2 : fn P 138 [.slice (l.map Ofc.enc), .func 102 [] [c.ptr]] = some (ci (idxF (Ofc.is c.name) 0 l)) := by
    rw [u138]
    simp at hl
    simp [c138, hl]
    exact fun hx => (idxF_none (by simpa using hx)).symm
  rw [u101]
  simp [c101, h2, idxF_dec]

def checkOfc (pre : List Ofc) (x : Ofc) : Int := firstE [named x.name, named x.nation, whenE (pre.any (Ofc.is x.name)) 9, onceL 16 x.roles, whenE (outside x.load 0 24) 3]

theorem S100 (x : Ofc) (hx : x.ok) (pre : List Ofc) (h : (pre.length : Int) < 9223372036854775807) : fn P 100 [x.enc, .slice (pre.map Ofc.enc)] = some (ci (checkOfc pre x)) := by
  have hs := S101 (P := P) x pre h
  obtain ⟨h1, h2, h3, h4⟩ := hx
  have hr := S103 (P := P) x.roles 16 h4 h3
  rw [u100]
  simp [Ofc.ptr] at hs
  simp [c100, Ofc.enc, hs, h1, h2, hr, checkOfc]

theorem L99 : ∀ (l pre : List Ofc), (∀ x ∈ l, x.ok) → ((pre ++ l).length : Int) < 9223372036854775807 →
    ∃ h', execS P (limS P) c99_l0 ⟨[.c (.slice ((pre ++ l).map Ofc.enc)), .c (.func 100 [] []), .c (.slice ((pre ++ l).map Ofc.enc)), .c (ci (pre ++ l).length), .c (ci pre.length)], []⟩ = if eachE checkOfc pre l = 0 then some (.exit 0, ⟨[], []⟩) else some (.ret, ⟨[.c (ci (eachE checkOfc pre l))], h'⟩) := by
  intro l
  induction l with
  | nil =>
    intro pre hl h
    rw [r99_l0]
    exact ⟨[], by simp [c99_l0b, eachE]⟩
  | cons c r ih =>
    intro pre hl h
    obtain ⟨h', ih⟩ := ih (pre ++ [c]) (fun x hx => hl x (by simp [hx])) (by simpa using h)
    have hc := S100 (P := P) c (hl c (by simp)) pre (by simp at h; omega)
    have ht : List.take pre.length (List.map Ofc.enc pre ++ c.enc :: List.map Ofc.enc r) = pre.map Ofc.enc := by simp
    simp [Ofc.enc] at ih h hc ht
    have hw : IntKind.i64.wrap (↑pre.length + 1) = ↑pre.length + 1 := wrap64 (by omega) (by omega)
    have hlt : (pre.length : Int) < pre.length + (r.length + 1) := by omega
    have hz : szFits 4 (List.map Ofc.enc pre ++ CV.agg [CV.str c.name, CV.str c.nation, CV.slice (List.map CV.str c.roles), ci c.load] :: List.map Ofc.enc r) = true := by cases pre <;> rfl
    have hb : (pre.length : Int) ≤ pre.length + (r.length + 1) := by omega
    rw [r99_l0]
    by_cases h0 : checkOfc pre c = 0
    · refine ⟨h', ?_⟩
      simp [c99_l0b, eachE, hw, hlt, Ofc.enc, hc, hz, hb, ht, h0, ih]
    · refine ⟨[LB.cells 0 [LV.c (CV.str c.name), LV.c (CV.str c.nation), LV.c (CV.slice (List.map CV.str c.roles)), LV.c (ci c.load)] 0], ?_⟩
      simp [c99_l0b, eachE, hw, hlt, Ofc.enc, hc, hz, hb, ht, h0]

theorem S99 (l : List Ofc) (m : Int) (hl : ∀ x ∈ l, x.ok) (h : (l.length : Int) < 9223372036854775807) : fn P 99 [.slice (l.map Ofc.enc), ci m, .func 100 [] []] = some (ci (if (l.length : Int) > m then 5 else eachE checkOfc [] l)) := by
  rw [u99]
  obtain ⟨h', this⟩ := L99 (P := P) l [] hl (by simpa using h)
  simp at this
  by_cases hm : (l.length : Int) > m
  · have hm' : m < (l.length : Int) := hm
    simp [c99, hm']
  · have hm' : ¬ m < (l.length : Int) := hm
    simp [c99, hm', this]
    by_cases h0 : eachE checkOfc [] l = 0 <;> simp [h0]

structure Pst where
  name : Str
  role : Str
  hour : Int
  nations : List Str
def Pst.enc (x : Pst) : CV := .agg [.str x.name, .str x.role, ci x.hour, .slice (x.nations.map CV.str)]
def Pst.ptr (x : Pst) : CV := .ptr [.str x.name, .str x.role, ci x.hour, .slice (x.nations.map CV.str)] 0
def Pst.ok (x : Pst) : Prop := x.name.length < 9223372036854775807 ∧ x.role.length < 9223372036854775807 ∧ (x.nations.length : Int) < 9223372036854775807 ∧ (∀ y ∈ x.nations, y.length < 9223372036854775807)
theorem Pst.elem (x : Pst) : Elem (some 4) x.enc := ⟨_, rfl, rfl, by simp [CV.flat]⟩
theorem Pst.elems (l : List Pst) : ∀ x ∈ l.map Pst.enc, Elem (some 4) x := by
  intro x hx
  obtain ⟨y, _, rfl⟩ := List.mem_map.1 hx
  exact y.elem

def Pst.is (n : Str) (x : Pst) : Bool := x.name == n

theorem S109 (x c : Pst) : fn P 109 [x.enc, c.ptr] = some (.bool (Pst.is c.name x)) := by
  rw [u109]
  simp [c109, Pst.enc, Pst.ptr, Pst.is]

theorem L140 (c : Pst) : ∀ (l pre : List Pst), ((pre ++ l).length : Int) < 9223372036854775807 →
    execS P (limS P) c140_l0 ⟨[.c (.slice ((pre ++ l).map Pst.enc)), .c (.func 109 [] [c.ptr]), .c (ci (pre ++ l).length), .c (ci pre.length)], []⟩ = if l.any (Pst.is c.name) then some (.ret, ⟨[.c (ci (idxF (Pst.is c.name) pre.length l))], []⟩) else some (.exit 0, ⟨[], []⟩) := by
  intro l
  induction l with
  | nil =>
    intro pre h
    rw [r140_l0]
    simp [c140_l0b]
  | cons x r ih =>
    intro pre h
    have ih := ih (pre ++ [x]) (by simpa using h)
    have hc := S109 (P := P) x c
    simp [Pst.enc] at ih h hc
    have hw : IntKind.i64.wrap (↑pre.length + 1) = ↑pre.length + 1 := wrap64 (by omega) (by omega)
    have hlt : (pre.length : Int) < pre.length + (r.length + 1) := by omega
    rw [r140_l0]
    cases h0 : Pst.is c.name x
    · simp [c140_l0b, hw, hlt, Pst.enc, hc, idxF, h0, ih]
    · simp [c140_l0b, hw, hlt, Pst.enc, hc, idxF, h0]

theorem S108 (c : Pst) (l : List Pst) (h : (l.length : Int) < 9223372036854775807) : fn P 108 [.slice (l.map Pst.enc), .func 109 [] [c.ptr]] = some (.bool (l.any (Pst.is c.name))) := by
  have hl := L140 (P := P) c l [] (by simpa using h)
  have h2 : fn P 140 [.slice (l.map Pst.enc), .func 109 [] [c.ptr]] = some (ci (idxF (Pst.is c.name) 0 l)) := by
    rw [u140]
    simp at hl
    simp [c140, hl]
    exact fun hx => (idxF_none (by simpa using hx)).symm
  rw [u108]
  simp [c108, h2, idxF_dec]

def checkPst (pre : List Pst) (x : Pst) : Int := firstE [named x.name, named x.role, whenE (pre.any (Pst.is x.name)) 9, dated x.hour, onceL 160 x.nations]

theorem S107 (x : Pst) (hx : x.ok) (pre : List Pst) (h : (pre.length : Int) < 9223372036854775807) : fn P 107 [x.enc, .slice (pre.map Pst.enc)] = some (ci (checkPst pre x)) := by
  have hs := S108 (P := P) x pre h
  obtain ⟨h1, h2, h3, h4⟩ := hx
  have hr := S103 (P := P) x.nations 160 h4 h3
  rw [u107]
  simp [Pst.ptr] at hs
  simp [c107, Pst.enc, hs, h1, h2, hr, checkPst]

theorem L106 : ∀ (l pre : List Pst), (∀ x ∈ l, x.ok) → ((pre ++ l).length : Int) < 9223372036854775807 →
    ∃ h', execS P (limS P) c106_l0 ⟨[.c (.slice ((pre ++ l).map Pst.enc)), .c (.func 107 [] []), .c (.slice ((pre ++ l).map Pst.enc)), .c (ci (pre ++ l).length), .c (ci pre.length)], []⟩ = if eachE checkPst pre l = 0 then some (.exit 0, ⟨[], []⟩) else some (.ret, ⟨[.c (ci (eachE checkPst pre l))], h'⟩) := by
  intro l
  induction l with
  | nil =>
    intro pre hl h
    rw [r106_l0]
    exact ⟨[], by simp [c106_l0b, eachE]⟩
  | cons c r ih =>
    intro pre hl h
    obtain ⟨h', ih⟩ := ih (pre ++ [c]) (fun x hx => hl x (by simp [hx])) (by simpa using h)
    have hc := S107 (P := P) c (hl c (by simp)) pre (by simp at h; omega)
    have ht : List.take pre.length (List.map Pst.enc pre ++ c.enc :: List.map Pst.enc r) = pre.map Pst.enc := by simp
    simp [Pst.enc] at ih h hc ht
    have hw : IntKind.i64.wrap (↑pre.length + 1) = ↑pre.length + 1 := wrap64 (by omega) (by omega)
    have hlt : (pre.length : Int) < pre.length + (r.length + 1) := by omega
    have hz : szFits 4 (List.map Pst.enc pre ++ CV.agg [CV.str c.name, CV.str c.role, ci c.hour, CV.slice (List.map CV.str c.nations)] :: List.map Pst.enc r) = true := by cases pre <;> rfl
    have hb : (pre.length : Int) ≤ pre.length + (r.length + 1) := by omega
    rw [r106_l0]
    by_cases h0 : checkPst pre c = 0
    · refine ⟨h', ?_⟩
      simp [c106_l0b, eachE, hw, hlt, Pst.enc, hc, hz, hb, ht, h0, ih]
    · refine ⟨[LB.cells 0 [LV.c (CV.str c.name), LV.c (CV.str c.role), LV.c (ci c.hour), LV.c (CV.slice (List.map CV.str c.nations))] 0], ?_⟩
      simp [c106_l0b, eachE, hw, hlt, Pst.enc, hc, hz, hb, ht, h0]

theorem S106 (l : List Pst) (m : Int) (hl : ∀ x ∈ l, x.ok) (h : (l.length : Int) < 9223372036854775807) : fn P 106 [.slice (l.map Pst.enc), ci m, .func 107 [] []] = some (ci (if (l.length : Int) > m then 5 else eachE checkPst [] l)) := by
  rw [u106]
  obtain ⟨h', this⟩ := L106 (P := P) l [] hl (by simpa using h)
  simp at this
  by_cases hm : (l.length : Int) > m
  · have hm' : m < (l.length : Int) := hm
    simp [c106, hm']
  · have hm' : ¬ m < (l.length : Int) := hm
    simp [c106, hm', this]
    by_cases h0 : eachE checkPst [] l = 0 <;> simp [h0]

structure Jur where
  ofs : List Ofc
  pts : List Pst
def Jur.enc (j : Jur) : CV := .agg [.slice (j.ofs.map Ofc.enc), .slice (j.pts.map Pst.enc)]
structure Jur.ok (j : Jur) : Prop where
  o : ∀ x ∈ j.ofs, x.ok
  p : ∀ x ∈ j.pts, x.ok
  so : j.ofs.length * 64 ≤ 2 ^ 47
  sp : j.pts.length * 64 ≤ 2 ^ 47

def checkJur (j : Jur) : Int := firstE [if (j.ofs.length : Int) > 24 then 5 else eachE checkOfc [] j.ofs, if (j.pts.length : Int) > 24 then 5 else eachE checkPst [] j.pts]

theorem S42 (j : Jur) (h : j.ok) : fn P 42 [j.enc] = some (ci (checkJur j)) := by
  have h1 := S99 (P := P) j.ofs 24 h.o (by have := h.so; omega)
  have h2 := S106 (P := P) j.pts 24 h.p (by have := h.sp; omega)
  rw [u42]
  simp [c42, Jur.enc, h1, h2, checkJur]

end LM.G9

namespace LM.G9
open Go LM
variable {P : Nat → Option SFunc} [Has P]

def Ofc.short (x : Ofc) : Bool := shortS x.name && shortS x.nation && shortL x.roles 19

theorem L40_Ofc (o : CV) : ∀ (l pre : List Ofc), (∀ x ∈ l, x.ok) → ((pre ++ l).length : Int) < 9223372036854775807 →
    execS P (limS P) c40_l0 ⟨[.ptr 0 0 0, .c (ci pre.length)], [.cells 0 [.c (.slice ((pre ++ l).map Ofc.enc)), .c o] 0]⟩ = if l.all Ofc.short then some (.exit 0, ⟨[.ptr 0 0 0], [.cells 0 [.c (.slice ((pre ++ l).map Ofc.enc)), .c o] 0]⟩) else some (.ret, ⟨[.c (.bool false)], [.cells 0 [.c (.slice ((pre ++ l).map Ofc.enc)), .c o] 0]⟩) := by
  intro l
  induction l with
  | nil =>
    intro pre hl h
    rw [r40_l0]
    simp [c40_l0b]
  | cons c r ih =>
    intro pre hl h
    have ih := ih (pre ++ [c]) (fun x hx => hl x (by simp [hx])) (by simpa using h)
    obtain ⟨k1, k2, k3, k4⟩ := hl c (by simp)
    have hs := S84 (P := P) c.roles 19 k3
    simp [Ofc.enc, -List.all_eq_true] at ih h
    have hw : IntKind.i64.wrap (↑pre.length + 1) = ↑pre.length + 1 := wrap64 (by omega) (by omega)
    have hlt : (pre.length : Int) < pre.length + (r.length + 1) := by omega
    have e : Ofc.short c = (decide (c.name.length ≤ 40) && decide (c.nation.length ≤ 40) && shortL c.roles 19) := rfl
    have q1 : (40 : Int) < c.name.length ↔ ¬ c.name.length ≤ 40 := by omega
    have q2 : (40 : Int) < c.nation.length ↔ ¬ c.nation.length ≤ 40 := by omega
    rw [r40_l0]
    by_cases h1 : c.name.length ≤ 40 <;> by_cases h2 : c.nation.length ≤ 40 <;> cases h3 : shortL c.roles 19 <;> rw [h3] at hs <;>
      simp [c40_l0b, hw, hlt, Ofc.enc, q1, q2, h1, h2, h3, hs, e, ih, -List.all_eq_true, -Nat.not_le]

def Pst.short (x : Pst) : Bool := shortS x.name && shortS x.role && shortL x.nations 163

theorem L40_Pst (o : CV) : ∀ (l pre : List Pst), (∀ x ∈ l, x.ok) → ((pre ++ l).length : Int) < 9223372036854775807 →
    execS P (limS P) c40_l1 ⟨[.ptr 0 0 0, .c (ci pre.length)], [.cells 0 [.c o, .c (.slice ((pre ++ l).map Pst.enc))] 0]⟩ = if l.all Pst.short then some (.exit 2, ⟨[.ptr 0 0 0], [.cells 0 [.c o, .c (.slice ((pre ++ l).map Pst.enc))] 0]⟩) else some (.ret, ⟨[.c (.bool false)], [.cells 0 [.c o, .c (.slice ((pre ++ l).map Pst.enc))] 0]⟩) := by
  intro l
  induction l with
  | nil =>
    intro pre hl h
    rw [r40_l1]
    simp [c40_l1b]
  | cons c r ih =>
    intro pre hl h
    have ih := ih (pre ++ [c]) (fun x hx => hl x (by simp [hx])) (by simpa using h)
    obtain ⟨k1, k2, k3, k4⟩ := hl c (by simp)
    have hs := S84 (P := P) c.nations 163 k3
    simp [Pst.enc, -List.all_eq_true] at ih h
    have hw : IntKind.i64.wrap (↑pre.length + 1) = ↑pre.length + 1 := wrap64 (by omega) (by omega)
    have hlt : (pre.length : Int) < pre.length + (r.length + 1) := by omega
    have e : Pst.short c = (decide (c.name.length ≤ 40) && decide (c.role.length ≤ 40) && shortL c.nations 163) := rfl
    have q1 : (40 : Int) < c.name.length ↔ ¬ c.name.length ≤ 40 := by omega
    have q2 : (40 : Int) < c.role.length ↔ ¬ c.role.length ≤ 40 := by omega
    rw [r40_l1]
    by_cases h1 : c.name.length ≤ 40 <;> by_cases h2 : c.role.length ≤ 40 <;> cases h3 : shortL c.nations 163 <;> rw [h3] at hs <;>
      simp [c40_l1b, hw, hlt, Pst.enc, q1, q2, h1, h2, h3, hs, e, ih, -List.all_eq_true, -Nat.not_le]

def shortJur (j : Jur) : Bool := j.ofs.all Ofc.short && j.pts.all Pst.short && (decide (j.ofs.length ≤ 27) && decide (j.pts.length ≤ 27))

theorem S40 (j : Jur) (h : j.ok) : fn P 40 [j.enc] = some (.bool (shortJur j)) := by
  have h1 := L40_Ofc (P := P) (.slice (j.pts.map Pst.enc)) j.ofs [] h.o (by have := h.so; simp; omega)
  have h2 := L40_Pst (P := P) (.slice (j.ofs.map Ofc.enc)) j.pts [] h.p (by have := h.sp; simp; omega)
  simp [-List.all_eq_true] at h1 h2
  have q1 : decide ((j.ofs.length : Int) ≤ 27) = decide (j.ofs.length ≤ 27) := decide_eq_decide.2 (by omega)
  have q2 : decide ((j.pts.length : Int) ≤ 27) = decide (j.pts.length ≤ 27) := decide_eq_decide.2 (by omega)
  rw [u40]
  unfold shortJur
  cases e1 : j.ofs.all Ofc.short <;> rw [e1] at h1
  · simp [c40, Jur.enc, h1]
  · cases e2 : j.pts.all Pst.short <;> rw [e2] at h2 <;> simp [c40, Jur.enc, h1, h2, q1, q2]

theorem L41a_Ofc (o : CV) (A : List CV) (x : Ofc) (i : Nat) (hi : i < A.length) (hA : (A.length : Int) < 9223372036854775807) : ∀ (l : List Ofc) (k : Nat), k + l.length = i → (∀ j c, l[j]? = some c → A[k + j]? = some c.enc) →
    execS P (limS P) c41_l0 ⟨[.ptr 0 0 0, .c (ci i), .ptr 1 0 0, .c (ci k)], [.cells 0 [.c (.slice A), .c o] 0, .cells 0 [.c (.str x.name), .c (.str x.nation), .c (.slice (x.roles.map CV.str)), .c (ci x.load)] 0]⟩ = if l.any (Ofc.is x.name) then some (.ret, ⟨[.c (ci 9)], [.cells 0 [.c (.slice A), .c o] 0, .cells 0 [.c (.str x.name), .c (.str x.nation), .c (.slice (x.roles.map CV.str)), .c (ci x.load)] 0]⟩) else some (.exit 2, ⟨[.ptr 0 0 0, .c (ci i), .ptr 1 0 0], [.cells 0 [.c (.slice A), .c o] 0, .cells 0 [.c (.str x.name), .c (.str x.nation), .c (.slice (x.roles.map CV.str)), .c (ci x.load)] 0]⟩) := by
  intro l
  induction l with
  | nil =>
    intro k hk h
    simp at hk
    subst hk
    rw [r41_l0]
    simp [c41_l0b]
  | cons c r ih =>
    intro k hk h
    have hc : A[k]? = some c.enc := h 0 c rfl
    have ih := ih (k + 1) (by simp at hk; omega) (fun j c hj => by have := h (j + 1) c hj; rw [← this]; congr 1; omega)
    simp [-List.any_eq_true] at hk ih
    have hlt : (k : Int) < i := by omega
    have hw : IntKind.i64.wrap (↑k + 1) = ↑k + 1 := wrap64 (by omega) (by omega)
    obtain ⟨h1, hc⟩ := List.getElem?_eq_some_iff.1 hc
    simp only [Ofc.enc] at hc
    have e : Ofc.is x.name c = decide (c.name = x.name) := by unfold Ofc.is; by_cases h : c.name = x.name <;> simp [h]
    rw [r41_l0]
    by_cases h0 : c.name = x.name
    · simp [c41_l0b, hlt, hc, h0, e, hi, h1]
    · simp [c41_l0b, hlt, hc, h0, e, hi, h1, hw, ih, -List.any_eq_true]

theorem L41a_Pst (o : CV) (A : List CV) (x : Pst) (i : Nat) (hi : i < A.length) (hA : (A.length : Int) < 9223372036854775807) : ∀ (l : List Pst) (k : Nat), k + l.length = i → (∀ j c, l[j]? = some c → A[k + j]? = some c.enc) →
    execS P (limS P) c41_l2 ⟨[.ptr 0 0 0, .c (ci i), .ptr 1 0 0, .c (ci k)], [.cells 0 [.c o, .c (.slice A)] 0, .cells 0 [.c (.str x.name), .c (.str x.role), .c (ci x.hour), .c (.slice (x.nations.map CV.str))] 0]⟩ = if l.any (Pst.is x.name) then some (.ret, ⟨[.c (ci 9)], [.cells 0 [.c o, .c (.slice A)] 0, .cells 0 [.c (.str x.name), .c (.str x.role), .c (ci x.hour), .c (.slice (x.nations.map CV.str))] 0]⟩) else some (.exit 6, ⟨[.ptr 0 0 0, .c (ci i), .ptr 1 0 0], [.cells 0 [.c o, .c (.slice A)] 0, .cells 0 [.c (.str x.name), .c (.str x.role), .c (ci x.hour), .c (.slice (x.nations.map CV.str))] 0]⟩) := by
  intro l
  induction l with
  | nil =>
    intro k hk h
    simp at hk
    subst hk
    rw [r41_l2]
    simp [c41_l2b]
  | cons c r ih =>
    intro k hk h
    have hc : A[k]? = some c.enc := h 0 c rfl
    have ih := ih (k + 1) (by simp at hk; omega) (fun j c hj => by have := h (j + 1) c hj; rw [← this]; congr 1; omega)
    simp [-List.any_eq_true] at hk ih
    have hlt : (k : Int) < i := by omega
    have hw : IntKind.i64.wrap (↑k + 1) = ↑k + 1 := wrap64 (by omega) (by omega)
    obtain ⟨h1, hc⟩ := List.getElem?_eq_some_iff.1 hc
    simp only [Pst.enc] at hc
    have e : Pst.is x.name c = decide (c.name = x.name) := by unfold Pst.is; by_cases h : c.name = x.name <;> simp [h]
    rw [r41_l2]
    by_cases h0 : c.name = x.name
    · simp [c41_l2b, hlt, hc, h0, e, hi, h1]
    · simp [c41_l2b, hlt, hc, h0, e, hi, h1, hw, ih, -List.any_eq_true]

theorem checkOfc_eq (pre : List Ofc) (x : Ofc) : checkOfc pre x = if (isName x.name && isName x.nation) = false then 8 else if pre.any (Ofc.is x.name) then 9 else if (16 : Int) < x.roles.length then 5 else if eachE once [] x.roles ≠ 0 then eachE once [] x.roles else if outside x.load 0 24 then 3 else 0 := by
  unfold checkOfc named whenE onceL
  cases isName x.name <;> cases isName x.nation <;> cases pre.any (Ofc.is x.name) <;> by_cases h : (16 : Int) < x.roles.length <;> by_cases h2 : eachE once [] x.roles = 0 <;> cases outside x.load 0 24 <;> simp [firstE, h, h2]

theorem checkPst_eq (pre : List Pst) (x : Pst) : checkPst pre x = if (isName x.name && isName x.role) = false then 8 else if pre.any (Pst.is x.name) then 9 else if outside x.hour 0 99999 then 3 else if (160 : Int) < x.nations.length then 5 else eachE once [] x.nations := by
  unfold checkPst named dated whenE onceL
  cases isName x.name <;> cases isName x.role <;> cases pre.any (Pst.is x.name) <;> by_cases h : (160 : Int) < x.nations.length <;> by_cases h2 : eachE once [] x.nations = 0 <;> cases outside x.hour 0 99999 <;> simp [firstE, h, h2]

theorem L41_Ofc (o : CV) : ∀ (l pre : List Ofc), (∀ x ∈ l, x.ok) → ((pre ++ l).length : Int) < 9223372036854775807 →
    ∃ h', execS P (limS P) c41_l1 ⟨[.ptr 0 0 0, .c (ci pre.length)], [.cells 0 [.c (.slice ((pre ++ l).map Ofc.enc)), .c o] 0]⟩ = if eachE checkOfc pre l = 0 then some (.exit 0, ⟨[.ptr 0 0 0], [.cells 0 [.c (.slice ((pre ++ l).map Ofc.enc)), .c o] 0]⟩) else some (.ret, ⟨[.c (ci (eachE checkOfc pre l))], h'⟩) := by
  intro l
  induction l with
  | nil =>
    intro pre hl h
    refine ⟨[], ?_⟩
    rw [r41_l1]
    simp [c41_l1b, eachE]
  | cons c r ih =>
    intro pre hl h
    obtain ⟨h', ih⟩ := ih (pre ++ [c]) (fun x hx => hl x (by simp [hx])) (by simpa using h)
    have hin := L41a_Ofc (P := P) o ((pre ++ c :: r).map Ofc.enc) c pre.length (by simp) (by simpa using h) pre 0 (by simp) (fun j x hj => by
      have hj' : j < pre.length := (List.getElem?_eq_some_iff.1 hj).1
      rw [Nat.zero_add, List.getElem?_map, List.getElem?_append_left hj', hj]; rfl)
    obtain ⟨k1, k2, k3, k4⟩ := hl c (by simp)
    simp [Ofc.enc, -List.any_eq_true] at ih h hin
    have hw : IntKind.i64.wrap (↑pre.length + 1) = ↑pre.length + 1 := wrap64 (by omega) (by omega)
    have hlt : (pre.length : Int) < pre.length + (r.length + 1) := by omega
    have he := checkOfc_eq pre c
    rw [r41_l1]
    have hn := S87 (P := P) c.roles k3
    cases h1 : isName c.name
    · rw [h1] at he
      simp at he
      refine ⟨[.cells 0 [.c (.slice ((pre ++ c :: r).map Ofc.enc)), .c o] 0, .cells 0 [.c (.str c.name), .c (.str c.nation), .c (.slice (c.roles.map CV.str)), .c (ci c.load)] 0], ?_⟩
      simp [c41_l1b, hw, hlt, Ofc.enc, eachE, he, h1]
    · cases h2 : isName c.nation
      · rw [h1, h2] at he
        simp at he
        refine ⟨[.cells 0 [.c (.slice ((pre ++ c :: r).map Ofc.enc)), .c o] 0, .cells 0 [.c (.str c.name), .c (.str c.nation), .c (.slice (c.roles.map CV.str)), .c (ci c.load)] 0], ?_⟩
        simp [c41_l1b, hw, hlt, Ofc.enc, eachE, he, h1, h2]
      · rw [h1, h2] at he
        cases h3 : pre.any (Ofc.is c.name)
        · rw [h3] at he hin
          simp at he hin
          by_cases h4 : (16 : Int) < c.roles.length
          · simp [h4] at he
            refine ⟨[.cells 0 [.c (.slice ((pre ++ c :: r).map Ofc.enc)), .c o] 0, .cells 0 [.c (.str c.name), .c (.str c.nation), .c (.slice (c.roles.map CV.str)), .c (ci c.load)] 0], ?_⟩
            simp [c41_l1b, hw, hlt, Ofc.enc, eachE, he, h1, h2, hin, h4]
          · simp [h4] at he
            by_cases h5 : eachE once [] c.roles = 0
            · rw [h5] at hn he
              simp at he
              cases h6 : outside c.load 0 24
              · rw [h6] at he
                simp at he
                refine ⟨h', ?_⟩
                simp [c41_l1b, hw, hlt, Ofc.enc, eachE, he, h1, h2, hin, h4, hn, h6, ih]
              · rw [h6] at he
                simp at he
                refine ⟨[.cells 0 [.c (.slice ((pre ++ c :: r).map Ofc.enc)), .c o] 0, .cells 0 [.c (.str c.name), .c (.str c.nation), .c (.slice (c.roles.map CV.str)), .c (ci c.load)] 0], ?_⟩
                simp [c41_l1b, hw, hlt, Ofc.enc, eachE, he, h1, h2, hin, h4, hn, h6]
            · simp [h5] at he
              refine ⟨[.cells 0 [.c (.slice ((pre ++ c :: r).map Ofc.enc)), .c o] 0, .cells 0 [.c (.str c.name), .c (.str c.nation), .c (.slice (c.roles.map CV.str)), .c (ci c.load)] 0], ?_⟩
              simp [c41_l1b, hw, hlt, Ofc.enc, eachE, he, h1, h2, hin, h4, hn, h5]
        · rw [h3] at he hin
          simp at he hin
          refine ⟨[.cells 0 [.c (.slice ((pre ++ c :: r).map Ofc.enc)), .c o] 0, .cells 0 [.c (.str c.name), .c (.str c.nation), .c (.slice (c.roles.map CV.str)), .c (ci c.load)] 0], ?_⟩
          simp [c41_l1b, hw, hlt, Ofc.enc, eachE, he, h1, h2, hin]

theorem L41_Pst (o : CV) : ∀ (l pre : List Pst), (∀ x ∈ l, x.ok) → ((pre ++ l).length : Int) < 9223372036854775807 →
    ∃ h', execS P (limS P) c41_l3 ⟨[.ptr 0 0 0, .c (ci pre.length)], [.cells 0 [.c o, .c (.slice ((pre ++ l).map Pst.enc))] 0]⟩ = if eachE checkPst pre l = 0 then some (.exit 4, ⟨[], [.cells 0 [.c o, .c (.slice ((pre ++ l).map Pst.enc))] 0]⟩) else some (.ret, ⟨[.c (ci (eachE checkPst pre l))], h'⟩) := by
  intro l
  induction l with
  | nil =>
    intro pre hl h
    refine ⟨[], ?_⟩
    rw [r41_l3]
    simp [c41_l3b, eachE]
  | cons c r ih =>
    intro pre hl h
    obtain ⟨h', ih⟩ := ih (pre ++ [c]) (fun x hx => hl x (by simp [hx])) (by simpa using h)
    have hin := L41a_Pst (P := P) o ((pre ++ c :: r).map Pst.enc) c pre.length (by simp) (by simpa using h) pre 0 (by simp) (fun j x hj => by
      have hj' : j < pre.length := (List.getElem?_eq_some_iff.1 hj).1
      rw [Nat.zero_add, List.getElem?_map, List.getElem?_append_left hj', hj]; rfl)
    obtain ⟨k1, k2, k3, k4⟩ := hl c (by simp)
    simp [Pst.enc, -List.any_eq_true] at ih h hin
    have hw : IntKind.i64.wrap (↑pre.length + 1) = ↑pre.length + 1 := wrap64 (by omega) (by omega)
    have hlt : (pre.length : Int) < pre.length + (r.length + 1) := by omega
    have he := checkPst_eq pre c
    rw [r41_l3]
    have hn := S87 (P := P) c.nations k3
    cases h1 : isName c.name
    · rw [h1] at he
      simp at he
      refine ⟨[.cells 0 [.c o, .c (.slice ((pre ++ c :: r).map Pst.enc))] 0, .cells 0 [.c (.str c.name), .c (.str c.role), .c (ci c.hour), .c (.slice (c.nations.map CV.str))] 0], ?_⟩
      simp [c41_l3b, hw, hlt, Pst.enc, eachE, he, h1]
    · cases h2 : isName c.role
      · rw [h1, h2] at he
        simp at he
        refine ⟨[.cells 0 [.c o, .c (.slice ((pre ++ c :: r).map Pst.enc))] 0, .cells 0 [.c (.str c.name), .c (.str c.role), .c (ci c.hour), .c (.slice (c.nations.map CV.str))] 0], ?_⟩
        simp [c41_l3b, hw, hlt, Pst.enc, eachE, he, h1, h2]
      · rw [h1, h2] at he
        cases h3 : pre.any (Pst.is c.name)
        · rw [h3] at he hin
          simp at he hin
          cases h6 : outside c.hour 0 99999
          · rw [h6] at he
            simp at he
            by_cases h4 : (160 : Int) < c.nations.length
            · simp [h4] at he
              refine ⟨[.cells 0 [.c o, .c (.slice ((pre ++ c :: r).map Pst.enc))] 0, .cells 0 [.c (.str c.name), .c (.str c.role), .c (ci c.hour), .c (.slice (c.nations.map CV.str))] 0], ?_⟩
              simp [c41_l3b, hw, hlt, Pst.enc, eachE, he, h1, h2, hin, h4, h6]
            · simp [h4] at he
              by_cases h5 : eachE once [] c.nations = 0
              · rw [h5] at hn he
                refine ⟨h', ?_⟩
                simp [c41_l3b, hw, hlt, Pst.enc, eachE, he, h1, h2, hin, h4, hn, h6, ih]
              · refine ⟨[.cells 0 [.c o, .c (.slice ((pre ++ c :: r).map Pst.enc))] 0, .cells 0 [.c (.str c.name), .c (.str c.role), .c (ci c.hour), .c (.slice (c.nations.map CV.str))] 0], ?_⟩
                simp [c41_l3b, hw, hlt, Pst.enc, eachE, he, h1, h2, hin, h4, hn, h5, h6]
          · rw [h6] at he
            simp at he
            refine ⟨[.cells 0 [.c o, .c (.slice ((pre ++ c :: r).map Pst.enc))] 0, .cells 0 [.c (.str c.name), .c (.str c.role), .c (ci c.hour), .c (.slice (c.nations.map CV.str))] 0], ?_⟩
            simp [c41_l3b, hw, hlt, Pst.enc, eachE, he, h1, h2, hin, h6]
        · rw [h3] at he hin
          simp at he hin
          refine ⟨[.cells 0 [.c o, .c (.slice ((pre ++ c :: r).map Pst.enc))] 0, .cells 0 [.c (.str c.name), .c (.str c.role), .c (ci c.hour), .c (.slice (c.nations.map CV.str))] 0], ?_⟩
          simp [c41_l3b, hw, hlt, Pst.enc, eachE, he, h1, h2, hin]

theorem S41 (j : Jur) (h : j.ok) : fn P 41 [j.enc] = some (ci (checkJur j)) := by
  obtain ⟨h1', h1⟩ := L41_Ofc (P := P) (.slice (j.pts.map Pst.enc)) j.ofs [] h.o (by have := h.so; simp; omega)
  obtain ⟨h2', h2⟩ := L41_Pst (P := P) (.slice (j.ofs.map Ofc.enc)) j.pts [] h.p (by have := h.sp; simp; omega)
  simp at h1 h2
  rw [u41]
  unfold checkJur
  by_cases g1 : (24 : Int) < j.ofs.length
  · simp [c41, Jur.enc, g1, firstE]
  · by_cases e1 : eachE checkOfc [] j.ofs = 0
    · rw [if_pos e1] at h1
      by_cases g2 : (24 : Int) < j.pts.length
      · simp [c41, Jur.enc, g1, h1, e1, g2, firstE]
      · by_cases e2 : eachE checkPst [] j.pts = 0
        · rw [if_pos e2] at h2
          simp [c41, Jur.enc, g1, h1, e1, g2, h2, e2, firstE]
        · rw [if_neg e2] at h2
          simp [c41, Jur.enc, g1, h1, e1, g2, h2, e2, firstE]
    · rw [if_neg e1] at h1
      simp [c41, Jur.enc, g1, h1, e1, firstE]

end LM.G9

namespace LM.G9
open Go LM
variable {P : Nat → Option SFunc} [Has P]

/-- May an official have a post? -/
def servesB (o : Ofc) (p : Pst) : Bool := o.roles.any (Str.is p.role) && !p.nations.any (Str.is o.nation)

theorem S44 (j : Jur) (h : j.ok) (a b : Nat) (o : Ofc) (p : Pst) (ho : j.ofs[a]? = some o) (hp : j.pts[b]? = some p) : fn P 44 [j.enc, ci a, ci b] = some (.bool (servesB o p)) := by
  obtain ⟨i1, ho⟩ := List.getElem?_eq_some_iff.1 ho
  obtain ⟨i2, hp⟩ := List.getElem?_eq_some_iff.1 hp
  obtain ⟨_, _, o3, _⟩ := h.o o (by rw [← ho]; exact List.getElem_mem i1)
  obtain ⟨_, _, p3, _⟩ := h.p p (by rw [← hp]; exact List.getElem_mem i2)
  have e1 := S58 (P := P) p.role o.roles o3
  have e2 := S58 (P := P) o.nation p.nations p3
  have ho : j.ofs[a] = o := ho
  have hp : j.pts[b] = p := hp
  rw [u44]
  unfold servesB
  cases h1 : o.roles.any (Str.is p.role) <;> rw [h1] at e1 <;> simp [c44, Jur.enc, Ofc.enc, Pst.enc, i1, i2, ho, hp, e1, e2]

theorem S111 (j : Jur) (h : j.ok) (a b : Nat) (o : Ofc) (p : Pst) (ho : j.ofs[a]? = some o) (hp : j.pts[b]? = some p) : fn P 111 [j.enc, ci a, ci b] = some (.bool (servesB o p)) := by
  obtain ⟨i1, ho⟩ := List.getElem?_eq_some_iff.1 ho
  obtain ⟨i2, hp⟩ := List.getElem?_eq_some_iff.1 hp
  obtain ⟨_, _, o3, _⟩ := h.o o (by rw [← ho]; exact List.getElem_mem i1)
  obtain ⟨_, _, p3, _⟩ := h.p p (by rw [← hp]; exact List.getElem_mem i2)
  have e1 := S139 (P := P) p.role o.roles o3
  have e2 := S139 (P := P) o.nation p.nations p3
  have ho : j.ofs[a] = o := ho
  have hp : j.pts[b] = p := hp
  rw [u111]
  unfold servesB
  cases h1 : o.roles.any (Str.is p.role) <;> rw [h1] at e1 <;> simp [c111, Jur.enc, Ofc.enc, Pst.enc, i1, i2, ho, hp, e1, e2]

/-- The error of an official's number. -/
def ofcE (j : Jur) (a : Int) : Int := whenE (outside a 0 ((j.ofs.length : Int) - 1)) 10
def pstE (j : Jur) (a : Int) : Int := whenE (outside a 0 ((j.pts.length : Int) - 1)) 10

theorem S110 (j : Jur) (h : j.ok) (a : Int) : fn P 110 [j.enc, ci a] = some (ci (ofcE j a)) := by
  have hw : IntKind.i64.wrap ((j.ofs.length : Int) - 1) = (j.ofs.length : Int) - 1 := wrap64 (by omega) (by have := h.so; omega)
  rw [u110]
  simp [c110, Jur.enc, hw, ofcE]

theorem ofcE_zero {j : Jur} {a : Int} (h : ofcE j a = 0) : ∃ i : Nat, a = i ∧ ∃ o, j.ofs[i]? = some o := by
  unfold ofcE whenE outside at h
  split at h
  · cases h
  · rename_i hx
    simp at hx
    refine ⟨a.toNat, by omega, j.ofs[a.toNat]'(by omega), ?_⟩
    exact List.getElem?_eq_getElem _
theorem pstE_zero {j : Jur} {a : Int} (h : pstE j a = 0) : ∃ i : Nat, a = i ∧ ∃ o, j.pts[i]? = some o := by
  unfold pstE whenE outside at h
  split at h
  · cases h
  · rename_i hx
    simp at hx
    refine ⟨a.toNat, by omega, j.pts[a.toNat]'(by omega), ?_⟩
    exact List.getElem?_eq_getElem _

def servesE (j : Jur) (a b : Int) : Int := firstE [checkJur j, ofcE j a, pstE j b]

/-- The answer of Serves. -/
def servesV (j : Jur) (a b : Int) : Bool :=
  match j.ofs[a.toNat]?, j.pts[b.toNat]? with
  | some o, some p => servesB o p
  | _, _ => false

theorem firstE_zero (e : Int) (r : List Int) : firstE (e :: r) = 0 ↔ e = 0 ∧ firstE r = 0 := by
  rw [firstE]
  by_cases h : e = 0 <;> simp [h]

theorem S43 (j : Jur) (h : j.ok) (a b : Int) : fn P 43 [j.enc, ci a, ci b] = some (.tuple [.bool (if servesE j a b = 0 then servesV j a b else false), ci (servesE j a b)]) := by
  have e42 := S42 (P := P) j h
  have e110 := S110 (P := P) j h a
  have hw : IntKind.i64.wrap ((j.pts.length : Int) - 1) = (j.pts.length : Int) - 1 := wrap64 (by omega) (by have := h.sp; omega)
  rw [u43]
  by_cases h0 : servesE j a b = 0
  · have h1 := h0
    unfold servesE at h1
    simp only [firstE_zero] at h1
    obtain ⟨i, rfl, o, ho⟩ := ofcE_zero h1.2.1
    obtain ⟨k, rfl, p, hp⟩ := pstE_zero h1.2.2.1
    have e111 := S111 (P := P) j h i k o p ho hp
    have hv : servesV j i k = servesB o p := by unfold servesV; simp [ho, hp]
    have h2 := h0
    unfold servesE pstE at h2
    simp [Jur.enc] at e42 e110 e111
    simp [c43, Jur.enc, e42, e110, e111, hw, h2, h0, hv]
  · have h2 := h0
    unfold servesE pstE at h2
    simp [Jur.enc] at e42 e110
    simp [c43, Jur.enc, e42, e110, hw, h2, h0]
    unfold servesE pstE
    rfl

end LM.G9

namespace LM.G9
open Go LM
variable {P : Nat → Option SFunc} [Has P]

set_option maxHeartbeats 2000000 in
theorem L39o (pv : CV) : ∀ (l pre : List Ofc) (g : Nat), g ≠ 0 → (pre ++ l).length * 64 ≤ 2 ^ 47 →
    execS P (limS P) c39_l0 ⟨[.ptr 0 0 0, .ptr 1 0 0, .ptr 2 0 0, .c (ci pre.length)], [.cells 0 [.c (.slice ((pre ++ l).map Ofc.enc)), .c pv] 0, .cells 0 [.nil, .nil] 0, .cells 0 [.slice 4 g 0 pre.length (some 4) none, .nil] 0, .dead, .cells g (cellsOf (pre.map Ofc.enc)) 0]⟩ =
      some (.exit 0, ⟨[.ptr 0 0 0, .ptr 1 0 0, .ptr 2 0 0], [.cells 0 [.c (.slice ((pre ++ l).map Ofc.enc)), .c pv] 0, .cells 0 [.nil, .nil] 0, .cells 0 [.slice 4 (g + l.length) 0 (pre ++ l).length (some 4) none, .nil] 0, .dead, .cells (g + l.length) (cellsOf ((pre ++ l).map Ofc.enc)) 0]⟩) := by
  intro l
  induction l with
  | nil =>
    intro pre g hg h
    rw [r39_l0]
    simp [c39_l0b]
  | cons c r ih =>
    intro pre g hg h
    have ih := ih (pre ++ [c]) (g + 1) (by omega) (by simpa using h)
    have ha := append_ownP (some 6) (b := 4) (g := g) (bytes := 64) (e := some 4) (ys := pre.map Ofc.enc) (xs := [c.enc]) (h := [.cells 0 [.c (.slice ((pre ++ c :: r).map Ofc.enc)), .c pv] 0, .cells 0 [.nil, .nil] 0, .cells 0 [.slice 4 g 0 pre.length (some 4) none, .nil] 0, .dead, .cells g (cellsOf (pre.map Ofc.enc)) 0, .dead, .dead]) (len := pre.length) (fz := 0) rfl (Ofc.elems _) (by simpa using c.elem) (by simp) (Nat.zero_le _) (by simp) (by simp at h ⊢; omega) (by simp at h ⊢; omega)
    simp at h
    have e1 : g + 1 + r.length = g + (r.length + 1) := by omega
    simp [Ofc.enc, e1] at ih ha
    have hw : IntKind.i64.wrap (↑pre.length + 1) = ↑pre.length + 1 := wrap64 (by omega) (by omega)
    have hlt : (pre.length : Int) < pre.length + (r.length + 1) := by omega
    rw [r39_l0]
    simp [c39_l0b, Ofc.enc, hg, hw, hlt, ha, ih]

set_option maxHeartbeats 2000000 in
theorem L39p (pv : CV) : ∀ (l pre : List Pst) (g : Nat), g ≠ 0 → (pre ++ l).length * 64 ≤ 2 ^ 47 →
    execS P (limS P) c39_l1 ⟨[.ptr 0 0 0, .ptr 1 0 0, .ptr 2 0 0, .c (ci pre.length)], [.cells 0 [.c pv, .c (.slice ((pre ++ l).map Pst.enc))] 0, .cells 0 [.nil, .nil] 0, .cells 0 [.nil, .slice 4 g 0 pre.length (some 4) none] 0, .dead, .cells g (cellsOf (pre.map Pst.enc)) 0]⟩ =
      some (.exit 2, ⟨[.ptr 1 0 0, .ptr 2 0 0], [.cells 0 [.c pv, .c (.slice ((pre ++ l).map Pst.enc))] 0, .cells 0 [.nil, .nil] 0, .cells 0 [.nil, .slice 4 (g + l.length) 0 (pre ++ l).length (some 4) none] 0, .dead, .cells (g + l.length) (cellsOf ((pre ++ l).map Pst.enc)) 0]⟩) := by
  intro l
  induction l with
  | nil =>
    intro pre g hg h
    rw [r39_l1]
    simp [c39_l1b]
  | cons c r ih =>
    intro pre g hg h
    have ih := ih (pre ++ [c]) (g + 1) (by omega) (by simpa using h)
    have ha := append_ownP (some 6) (b := 4) (g := g) (bytes := 64) (e := some 4) (ys := pre.map Pst.enc) (xs := [c.enc]) (h := [.cells 0 [.c pv, .c (.slice ((pre ++ c :: r).map Pst.enc))] 0, .cells 0 [.nil, .nil] 0, .cells 0 [.nil, .slice 4 g 0 pre.length (some 4) none] 0, .dead, .cells g (cellsOf (pre.map Pst.enc)) 0, .dead, .dead]) (len := pre.length) (fz := 0) rfl (Pst.elems _) (by simpa using c.elem) (by simp) (Nat.zero_le _) (by simp) (by simp at h ⊢; omega) (by simp at h ⊢; omega)
    simp at h
    have e1 : g + 1 + r.length = g + (r.length + 1) := by omega
    simp [Pst.enc, e1] at ih ha
    have hw : IntKind.i64.wrap (↑pre.length + 1) = ↑pre.length + 1 := wrap64 (by omega) (by omega)
    have hlt : (pre.length : Int) < pre.length + (r.length + 1) := by omega
    rw [r39_l1]
    simp [c39_l1b, Pst.enc, hg, hw, hlt, ha, ih]

set_option maxHeartbeats 2000000 in
theorem L39q (pv : CV) (go no : Nat) (O : List CV) : ∀ (l pre : List Pst) (g : Nat), g ≠ 0 → (pre ++ l).length * 64 ≤ 2 ^ 47 →
    execS P (limS P) c39_l1 ⟨[.ptr 0 0 0, .ptr 1 0 0, .ptr 2 0 0, .c (ci pre.length)], [.cells 0 [.c pv, .c (.slice ((pre ++ l).map Pst.enc))] 0, .cells 0 [.nil, .nil] 0, .cells 0 [.slice 4 go 0 no (some 4) none, .slice 6 g 0 pre.length (some 4) none] 0, .dead, .cells go (cellsOf O) 0, .dead, .cells g (cellsOf (pre.map Pst.enc)) 0]⟩ =
      some (.exit 2, ⟨[.ptr 1 0 0, .ptr 2 0 0], [.cells 0 [.c pv, .c (.slice ((pre ++ l).map Pst.enc))] 0, .cells 0 [.nil, .nil] 0, .cells 0 [.slice 4 go 0 no (some 4) none, .slice 6 (g + l.length) 0 (pre ++ l).length (some 4) none] 0, .dead, .cells go (cellsOf O) 0, .dead, .cells (g + l.length) (cellsOf ((pre ++ l).map Pst.enc)) 0]⟩) := by
  intro l
  induction l with
  | nil =>
    intro pre g hg h
    rw [r39_l1]
    simp [c39_l1b]
  | cons c r ih =>
    intro pre g hg h
    have ih := ih (pre ++ [c]) (g + 1) (by omega) (by simpa using h)
    have ha := append_ownP (some 8) (b := 6) (g := g) (bytes := 64) (e := some 4) (ys := pre.map Pst.enc) (xs := [c.enc]) (h := [.cells 0 [.c pv, .c (.slice ((pre ++ c :: r).map Pst.enc))] 0, .cells 0 [.nil, .nil] 0, .cells 0 [.slice 4 go 0 no (some 4) none, .slice 6 g 0 pre.length (some 4) none] 0, .dead, .cells go (cellsOf O) 0, .dead, .cells g (cellsOf (pre.map Pst.enc)) 0, .dead, .dead]) (len := pre.length) (fz := 0) rfl (Pst.elems _) (by simpa using c.elem) (by simp) (Nat.zero_le _) (by simp) (by simp at h ⊢; omega) (by simp at h ⊢; omega)
    simp at h
    have e1 : g + 1 + r.length = g + (r.length + 1) := by omega
    simp [Pst.enc, e1] at ih ha
    have hw : IntKind.i64.wrap (↑pre.length + 1) = ↑pre.length + 1 := wrap64 (by omega) (by omega)
    have hlt : (pre.length : Int) < pre.length + (r.length + 1) := by omega
    rw [r39_l1]
    simp [c39_l1b, Pst.enc, hg, hw, hlt, ha, ih]

theorem T39o_nil (pv : CV) :
    execS P (limS P) c39_l0 ⟨[.ptr 0 0 0, .ptr 1 0 0, .ptr 2 0 0, .c (ci 0)], [.cells 0 [.c (.slice []), .c pv] 0, .cells 0 [.nil, .nil] 0, .cells 0 [.nil, .nil] 0]⟩ = some (.exit 0, ⟨[.ptr 0 0 0, .ptr 1 0 0, .ptr 2 0 0], [.cells 0 [.c (.slice []), .c pv] 0, .cells 0 [.nil, .nil] 0, .cells 0 [.nil, .nil] 0]⟩) := by
  rw [r39_l0]
  simp [c39_l0b]

theorem T39o_cons (pv : CV) (c : Ofc) (r : List Ofc) (h : (c :: r).length * 64 ≤ 2 ^ 47) :
    execS P (limS P) c39_l0 ⟨[.ptr 0 0 0, .ptr 1 0 0, .ptr 2 0 0, .c (ci 0)], [.cells 0 [.c (.slice ((c :: r).map Ofc.enc)), .c pv] 0, .cells 0 [.nil, .nil] 0, .cells 0 [.nil, .nil] 0]⟩ = some (.exit 0, ⟨[.ptr 0 0 0, .ptr 1 0 0, .ptr 2 0 0], [.cells 0 [.c (.slice ((c :: r).map Ofc.enc)), .c pv] 0, .cells 0 [.nil, .nil] 0, .cells 0 [.slice 4 (1 + r.length) 0 (r.length + 1) (some 4) none, .nil] 0, .dead, .cells (1 + r.length) (cellsOf ((c :: r).map Ofc.enc)) 0]⟩) := by
  have hr := L39o (P := P) pv r [c] 1 (by omega) (by simpa using h)
  have ha : appendOp (some 4) (some 4) 64 .nil (.c (.slice [c.enc])) [.cells 0 [.c (.slice ((c :: r).map Ofc.enc)), .c pv] 0, .cells 0 [.nil, .nil] 0, .cells 0 [.nil, .nil] 0, .dead, .dead] = some (.slice 4 1 0 1 (some 4) none, [.cells 0 [.c (.slice ((c :: r).map Ofc.enc)), .c pv] 0, .cells 0 [.nil, .nil] 0, .cells 0 [.nil, .nil] 0, .dead, .cells 1 (cellsOf [c.enc]) 0]) := rfl
  simp [Ofc.enc] at hr ha
  have hw : IntKind.i64.wrap 1 = 1 := wrap64 (by omega) (by omega)
  have hlt : (0 : Int) < (r.length : Int) + 1 := by omega

  rw [r39_l0]
  simp [c39_l0b, Ofc.enc, hw, hlt, ha, hr]

theorem T39p_nil (pv : CV) :
    execS P (limS P) c39_l1 ⟨[.ptr 0 0 0, .ptr 1 0 0, .ptr 2 0 0, .c (ci 0)], [.cells 0 [.c pv, .c (.slice [])] 0, .cells 0 [.nil, .nil] 0, .cells 0 [.nil, .nil] 0]⟩ = some (.exit 2, ⟨[.ptr 1 0 0, .ptr 2 0 0], [.cells 0 [.c pv, .c (.slice [])] 0, .cells 0 [.nil, .nil] 0, .cells 0 [.nil, .nil] 0]⟩) := by
  rw [r39_l1]
  simp [c39_l1b]

theorem T39p_cons (pv : CV) (c : Pst) (r : List Pst) (h : (c :: r).length * 64 ≤ 2 ^ 47) :
    execS P (limS P) c39_l1 ⟨[.ptr 0 0 0, .ptr 1 0 0, .ptr 2 0 0, .c (ci 0)], [.cells 0 [.c pv, .c (.slice ((c :: r).map Pst.enc))] 0, .cells 0 [.nil, .nil] 0, .cells 0 [.nil, .nil] 0]⟩ = some (.exit 2, ⟨[.ptr 1 0 0, .ptr 2 0 0], [.cells 0 [.c pv, .c (.slice ((c :: r).map Pst.enc))] 0, .cells 0 [.nil, .nil] 0, .cells 0 [.nil, .slice 4 (1 + r.length) 0 (r.length + 1) (some 4) none] 0, .dead, .cells (1 + r.length) (cellsOf ((c :: r).map Pst.enc)) 0]⟩) := by
  have hr := L39p (P := P) pv r [c] 1 (by omega) (by simpa using h)
  have ha : appendOp (some 4) (some 4) 64 .nil (.c (.slice [c.enc])) [.cells 0 [.c pv, .c (.slice ((c :: r).map Pst.enc))] 0, .cells 0 [.nil, .nil] 0, .cells 0 [.nil, .nil] 0, .dead, .dead] = some (.slice 4 1 0 1 (some 4) none, [.cells 0 [.c pv, .c (.slice ((c :: r).map Pst.enc))] 0, .cells 0 [.nil, .nil] 0, .cells 0 [.nil, .nil] 0, .dead, .cells 1 (cellsOf [c.enc]) 0]) := rfl
  simp [Pst.enc] at hr ha
  have hw : IntKind.i64.wrap 1 = 1 := wrap64 (by omega) (by omega)
  have hlt : (0 : Int) < (r.length : Int) + 1 := by omega

  rw [r39_l1]
  simp [c39_l1b, Pst.enc, hw, hlt, ha, hr]

theorem T39q_nil (pv : CV) (go no : Nat) (O : List CV) :
    execS P (limS P) c39_l1 ⟨[.ptr 0 0 0, .ptr 1 0 0, .ptr 2 0 0, .c (ci 0)], [.cells 0 [.c pv, .c (.slice [])] 0, .cells 0 [.nil, .nil] 0, .cells 0 [.slice 4 go 0 no (some 4) none, .nil] 0, .dead, .cells go (cellsOf O) 0]⟩ = some (.exit 2, ⟨[.ptr 1 0 0, .ptr 2 0 0], [.cells 0 [.c pv, .c (.slice [])] 0, .cells 0 [.nil, .nil] 0, .cells 0 [.slice 4 go 0 no (some 4) none, .nil] 0, .dead, .cells go (cellsOf O) 0]⟩) := by
  rw [r39_l1]
  simp [c39_l1b]

theorem T39q_cons (pv : CV) (go no : Nat) (O : List CV) (c : Pst) (r : List Pst) (h : (c :: r).length * 64 ≤ 2 ^ 47) :
    execS P (limS P) c39_l1 ⟨[.ptr 0 0 0, .ptr 1 0 0, .ptr 2 0 0, .c (ci 0)], [.cells 0 [.c pv, .c (.slice ((c :: r).map Pst.enc))] 0, .cells 0 [.nil, .nil] 0, .cells 0 [.slice 4 go 0 no (some 4) none, .nil] 0, .dead, .cells go (cellsOf O) 0]⟩ = some (.exit 2, ⟨[.ptr 1 0 0, .ptr 2 0 0], [.cells 0 [.c pv, .c (.slice ((c :: r).map Pst.enc))] 0, .cells 0 [.nil, .nil] 0, .cells 0 [.slice 4 go 0 no (some 4) none, .slice 6 (1 + r.length) 0 (r.length + 1) (some 4) none] 0, .dead, .cells go (cellsOf O) 0, .dead, .cells (1 + r.length) (cellsOf ((c :: r).map Pst.enc)) 0]⟩) := by
  have hr := L39q (P := P) pv go no O r [c] 1 (by omega) (by simpa using h)
  have ha : appendOp (some 6) (some 4) 64 .nil (.c (.slice [c.enc])) [.cells 0 [.c pv, .c (.slice ((c :: r).map Pst.enc))] 0, .cells 0 [.nil, .nil] 0, .cells 0 [.slice 4 go 0 no (some 4) none, .nil] 0, .dead, .cells go (cellsOf O) 0, .dead, .dead] = some (.slice 6 1 0 1 (some 4) none, [.cells 0 [.c pv, .c (.slice ((c :: r).map Pst.enc))] 0, .cells 0 [.nil, .nil] 0, .cells 0 [.slice 4 go 0 no (some 4) none, .nil] 0, .dead, .cells go (cellsOf O) 0, .dead, .cells 1 (cellsOf [c.enc]) 0]) := rfl
  simp [Pst.enc] at hr ha
  have hw : IntKind.i64.wrap 1 = 1 := wrap64 (by omega) (by omega)
  have hlt : (0 : Int) < (r.length : Int) + 1 := by omega

  rw [r39_l1]
  simp [c39_l1b, Pst.enc, hw, hlt, ha, hr]

theorem resV_agg {a b : LV} {x y : CV} {h h1 h2 : Heap} (ha : frz 39 a h = some (x, h1)) (hb : frz 39 b h1 = some (y, h2)) : resV (some (.agg [a, b])) h = some (.agg [x, y]) := by
  unfold resV
  simp only [bnd_some, frz_agg, mapH_cons, mapH_nil, ha, hb]

theorem S39 (j : Jur) (h : j.ok) : fn P 39 [j.enc] = some j.enc := by
  have so := h.so
  have sp := h.sp
  rw [u39]
  cases ho : j.ofs with
  | nil =>
    have h1 := T39o_nil (P := P) (.slice (j.pts.map Pst.enc))
    cases hp : j.pts with
    | nil =>
      have h2 := T39p_nil (P := P) (.slice [])
      rw [hp] at h1
      simp at h1
      simp [c39, Jur.enc, ho, hp, h1, h2, resultV, resultsAll, resultOne, resV]
    | cons p r =>
      have h2 := T39p_cons (P := P) (.slice []) p r (by rw [← hp]; exact sp)
      rw [hp] at h1
      simp at h1 h2
      simp [c39, Jur.enc, ho, hp, h1, h2, resultV, resultsAll, resultOne]
      exact resV_agg rfl (frz_own39 (ys := (p :: r).map Pst.enc) rfl (Pst.elems _) (by simp) none)
  | cons o r' =>
    have h1 := T39o_cons (P := P) (.slice (j.pts.map Pst.enc)) o r' (by rw [← ho]; exact so)
    cases hp : j.pts with
    | nil =>
      have h2 := T39q_nil (P := P) (.slice ((o :: r').map Ofc.enc)) (1 + r'.length) (r'.length + 1) ((o :: r').map Ofc.enc)
      rw [hp] at h1
      simp at h1 h2
      simp [c39, Jur.enc, ho, hp, h1, h2, resultV, resultsAll, resultOne]
      exact resV_agg (frz_own39 (ys := (o :: r').map Ofc.enc) rfl (Ofc.elems _) (by simp) none) rfl
    | cons p r =>
      have h2 := T39q_cons (P := P) (.slice ((o :: r').map Ofc.enc)) (1 + r'.length) (r'.length + 1) ((o :: r').map Ofc.enc) p r (by rw [← hp]; exact sp)
      rw [hp] at h1
      simp at h1 h2
      simp [c39, Jur.enc, ho, hp, h1, h2, resultV, resultsAll, resultOne]
      exact resV_agg (frz_own39 (ys := (o :: r').map Ofc.enc) rfl (Ofc.elems _) (by simp) none) (frz_own39 (ys := (p :: r).map Pst.enc) rfl (Pst.elems _) (by simp) none)

end LM.G9

namespace LM.G9
open Go LM
variable {P : Nat → Option SFunc} [Has P]

/-- The hour of a post. -/
def hourAt (j : Jur) (k : Nat) : Int := match j.pts[k]? with
  | some p => p.hour
  | none => 0
/-- Has an official one of the posts before at the same hour? -/
def clashF (j : Jur) (v h : Int) : Nat → List Int → Bool
  | _, [] => false
  | k, x :: r => (decide (x = v) && decide (hourAt j k = h)) || clashF j v h (k + 1) r
def countV (v : Int) (l : List Int) : Int := ((l.filter (fun x => decide (x = v))).length : Int)
theorem countV_cons (v x : Int) (l : List Int) : countV v (x :: l) = (if x = v then 1 else 0) + countV v l := by
  unfold countV
  rw [List.filter_cons]
  by_cases h : x = v
  · simp [h]; omega
  · simp [h]
theorem countV_nonneg (v : Int) (l : List Int) : 0 ≤ countV v l := by unfold countV; omega
theorem countV_le (v : Int) (l : List Int) : countV v l ≤ l.length := by unfold countV; have := List.length_filter_le (fun x => decide (x = v)) l; omega

def loadOf (j : Jur) (v : Int) : Int := match j.ofs[v.toNat]? with
  | some o => o.load
  | none => 0
/-- The error of a post's official, behind the posts before. -/
def fitE (j : Jur) (pre : List Int) (v : Int) : Int :=
  if v < 0 then 0 else if clashF j v (hourAt j pre.length) 0 pre then 9 else if countV v pre + 1 > loadOf j v then 5 else 0

theorem hour_get {j : Jur} {k : Nat} (h : k < j.pts.length) : (j.pts[k]).hour = hourAt j k := by
  unfold hourAt
  rw [List.getElem?_eq_getElem h]

theorem L112n (j : Jur) (v : Int) (hv : v < 0) (A : List Int) (i : Nat) (hi : i < A.length) (hA : (A.length : Int) < 9223372036854775807) (hAi : A[i]? = some v) (B : List LB) (hB : B = [.cells 0 [.c (.slice (j.ofs.map Ofc.enc)), .c (.slice (j.pts.map Pst.enc))] 0]) : ∀ (m k : Nat), k + m = i + 1 →
    execS P (limS P) c112_l0 ⟨[.c (.slice (A.map ci)), .ptr 0 0 0, .c (ci i), .c (ci 0), .c (ci k)], B⟩ = some (.exit 0, ⟨[.c (.slice (A.map ci)), .ptr 0 0 0, .c (ci i), .c (ci 0)], B⟩) := by
  obtain ⟨_, hAi⟩ := List.getElem?_eq_some_iff.1 hAi
  subst hB
  intro m
  induction m with
  | zero =>
    intro k hk
    have h1 : ¬ (k : Int) ≤ i := by omega
    rw [r112_l0]
    simp [c112_l0b, h1]
  | succ m ih =>
    intro k hk
    have ih := ih (k + 1) (by omega)
    have h1 : (k : Int) ≤ i := by omega
    have hk' : k < A.length := by omega
    have hw : IntKind.i64.wrap (↑k + 1) = ↑k + 1 := wrap64 (by omega) (by omega)
    simp at ih
    rw [r112_l0]
    by_cases h2 : A[k] = v
    · simp [c112_l0b, h1, hi, hk', hAi, h2, hv, hw, ih]
    · simp [c112_l0b, h1, hi, hk', hAi, h2, hv, hw, ih]


theorem L112v (j : Jur) (v : Int) (hv : 0 ≤ v) (A : List Int) (i : Nat) (hi : i < A.length) (hA : (A.length : Int) < 9223372036854775807) (hAi : A[i]? = some v) (hip : i < j.pts.length) (B : List LB) (hB : B = [.cells 0 [.c (.slice (j.ofs.map Ofc.enc)), .c (.slice (j.pts.map Pst.enc))] 0]) : ∀ (l : List Int) (k : Nat) (n : Int), k + l.length = i → (∀ q c, l[q]? = some c → A[k + q]? = some c) → 0 ≤ n → n + l.length < 9223372036854775806 →
    execS P (limS P) c112_l0 ⟨[.c (.slice (A.map ci)), .ptr 0 0 0, .c (ci i), .c (ci n), .c (ci k)], B⟩ = if clashF j v (hourAt j i) k l then some (.ret, ⟨[.c (ci 9)], B⟩) else some (.exit 0, ⟨[.c (.slice (A.map ci)), .ptr 0 0 0, .c (ci i), .c (ci (n + countV v l + 1))], B⟩) := by
  obtain ⟨_, hAi⟩ := List.getElem?_eq_some_iff.1 hAi
  have hv' : ¬ v < 0 := by omega
  subst hB
  intro l
  induction l with
  | nil =>
    intro k n hk h hn hn2
    simp at hk
    subst hk
    have hw : IntKind.i64.wrap (↑k + 1) = ↑k + 1 := wrap64 (by omega) (by omega)
    have hw2 : IntKind.i64.wrap (n + 1) = n + 1 := wrap64 (by omega) (by simp at hn2; omega)
    have h1 : ¬ (k : Int) + 1 ≤ k := by omega
    have hlast : execS P (limS P) c112_l0 ⟨[.c (.slice (A.map ci)), .ptr 0 0 0, .c (ci k), .c (ci (n + 1)), .c (ci ((k : Int) + 1))], [.cells 0 [.c (.slice (j.ofs.map Ofc.enc)), .c (.slice (j.pts.map Pst.enc))] 0]⟩ = some (.exit 0, ⟨[.c (.slice (A.map ci)), .ptr 0 0 0, .c (ci k), .c (ci (n + 1))], [.cells 0 [.c (.slice (j.ofs.map Ofc.enc)), .c (.slice (j.pts.map Pst.enc))] 0]⟩) := by
      rw [r112_l0]
      simp [c112_l0b, h1]
    have hc0 : countV v [] = 0 := rfl
    rw [r112_l0]
    simp [c112_l0b, hi, hAi, hv', hw, hw2, clashF, hlast, hc0]
  | cons x r ih =>
    intro k n hk h hn hn2
    have hx : A[k]? = some x := h 0 x rfl
    have hk' : k < A.length := (List.getElem?_eq_some_iff.1 hx).1
    obtain ⟨_, hx⟩ := List.getElem?_eq_some_iff.1 hx
    simp at hk hn2
    have ih := fun n => ih (k + 1) n (by omega) (fun q c hq => by have := h (q + 1) c hq; rw [← this]; congr 1; omega)
    simp at ih
    have h1 : (k : Int) ≤ i := by omega
    have h1' : (k : Int) < i := by omega
    have hkp : k < j.pts.length := by omega
    have g1 : (j.pts[k]'hkp).hour = hourAt j k := hour_get hkp
    have g2 : (j.pts[i]'hip).hour = hourAt j i := hour_get hip
    have hw : IntKind.i64.wrap (↑k + 1) = ↑k + 1 := wrap64 (by omega) (by omega)
    have hw2 : IntKind.i64.wrap (n + 1) = n + 1 := wrap64 (by omega) (by omega)
    rw [clashF, countV_cons]
    rw [r112_l0]
    by_cases h2 : x = v
    · by_cases h3 : hourAt j k = hourAt j i
      · simp [c112_l0b, h1, h1', hi, hk', hAi, hx, h2, hv', hkp, hip, Pst.enc, g1, g2, h3]
      · have ih := ih (n + 1) (by omega) (by omega)
        have e : n + (1 + countV v r) + 1 = n + 1 + countV v r + 1 := by omega
        simp [c112_l0b, h1, h1', hi, hk', hAi, hx, h2, hv', hkp, hip, Pst.enc, g1, g2, h3, hw, hw2, ih, e]
    · have ih := ih n hn (by omega)
      simp [c112_l0b, h1, hi, hk', hAi, hx, h2, hw, ih]

theorem S112 (j : Jur) (h : j.ok) (pre : List Int) (v : Int) (hp : pre.length < j.pts.length) (hA : (pre.length : Int) < 9223372036854775) (hv : v < 0 ∨ (v.toNat < j.ofs.length)) : fn P 112 [j.enc, .slice ((pre ++ [v]).map ci)] = some (ci (fitE j pre v)) := by
  have hw : IntKind.i64.wrap ((pre.length : Int) + 1 - 1) = pre.length := by rw [Int.add_sub_cancel]; exact wrap64 (by omega) (by omega)
  have hw' : IntKind.i64.wrap (pre.length : Int) = pre.length := wrap64 (by omega) (by omega)
  rw [u112]
  by_cases h0 : v < 0
  · have hl := L112n (P := P) j v h0 (pre ++ [v]) pre.length (by simp) (by simp; omega) (by simp) _ rfl (pre.length + 1) 0 (by omega)
    have e : fitE j pre v = 0 := by unfold fitE; rw [if_pos h0]
    have h0' : ¬ 0 ≤ v := by omega
    simp at hl
    simp [c112, Jur.enc, hw, hw', hl, e, h0']
  · have hv2 : v.toNat < j.ofs.length := by omega
    have hl := L112v (P := P) j v (by omega) (pre ++ [v]) pre.length (by simp) (by simp; omega) (by simp) hp _ rfl pre 0 0 (by simp) (fun q c hq => by
      have hj' : q < pre.length := (List.getElem?_eq_some_iff.1 hq).1
      rw [Nat.zero_add, List.getElem?_append_left hj', hq]) (by omega) (by omega)
    have h0' : 0 ≤ v := by omega
    have hlt : v < j.ofs.length := by omega
    have hload : (j.ofs[v.toNat]'hv2).load = loadOf j v := by unfold loadOf; rw [List.getElem?_eq_getElem hv2]
    have e : fitE j pre v = if clashF j v (hourAt j pre.length) 0 pre then 9 else if loadOf j v < countV v pre + 1 then 5 else 0 := by unfold fitE; rw [if_neg h0]
    simp at hl
    rw [e]
    cases h1 : clashF j v (hourAt j pre.length) 0 pre <;> rw [h1] at hl
    · by_cases h2 : loadOf j v < countV v pre + 1
      · simp [c112, Jur.enc, hw, hw', hl, h0', hlt, hv2, Ofc.enc, hload, h2]
      · simp [c112, Jur.enc, hw, hw', hl, h0', hlt, hv2, Ofc.enc, hload, h2]
    · simp [c112, Jur.enc, hw, hw', hl]

end LM.G9

namespace LM.G9
open Go LM
variable {P : Nat → Option SFunc} [Has P]

/-- The error of an official's number at a post. -/
def numE (j : Jur) (p : Nat) (v : Int) : Int := if outside v (-1) ((j.ofs.length : Int) - 1) then 10 else if decide (0 ≤ v) && !servesV j v p then 18 else 0
def JB (j : Jur) : LB := .cells 0 [.c (.slice (j.ofs.map Ofc.enc)), .c (.slice (j.pts.map Pst.enc))] 0

theorem servesV_eq {j : Jur} {v : Int} {p : Nat} (h0 : 0 ≤ v) (h1 : v < j.ofs.length) (h2 : p < j.pts.length) : ∃ (a : Nat) (o : Ofc) (q : Pst), v = a ∧ j.ofs[a]? = some o ∧ j.pts[p]? = some q ∧ servesV j v p = servesB o q := by
  refine ⟨v.toNat, j.ofs[v.toNat]'(by omega), j.pts[p]'h2, by omega, List.getElem?_eq_getElem _, List.getElem?_eq_getElem _, ?_⟩
  unfold servesV
  have e : ((p : Int)).toNat = p := rfl
  rw [e, List.getElem?_eq_getElem (by omega), List.getElem?_eq_getElem h2]

theorem L45_0 (j : Jur) (hj : j.ok) : ∀ (l pre : List Int), (pre ++ l).length = j.pts.length → ((pre ++ l).length : Int) < 9223372036854775 →
    execS P (limS P) c45_l0 ⟨[.c (.slice ((pre ++ l).map ci)), .ptr 0 0 0, .c (ci pre.length)], [JB j]⟩ = if eachE (fun pre v => numE j pre.length v) pre l = 0 then some (.exit 0, ⟨[.c (.slice ((pre ++ l).map ci)), .ptr 0 0 0], [JB j]⟩) else some (.ret, ⟨[.c (ci (eachE (fun pre v => numE j pre.length v) pre l))], [JB j]⟩) := by
  intro l
  induction l with
  | nil =>
    intro pre hp h
    rw [r45_l0]
    simp [c45_l0b, eachE, JB]
  | cons c r ih =>
    intro pre hp h
    have ih := ih (pre ++ [c]) (by simpa using hp) (by simpa using h)
    have so := hj.so
    have hpl : pre.length < j.pts.length := by rw [← hp]; simp
    simp at ih h hp
    have hw : IntKind.i64.wrap (↑pre.length + 1) = ↑pre.length + 1 := wrap64 (by omega) (by omega)
    have hw2 : IntKind.i64.wrap ((j.ofs.length : Int) - 1) = (j.ofs.length : Int) - 1 := wrap64 (by omega) (by omega)
    have hlt : (pre.length : Int) < pre.length + (r.length + 1) := by omega
    have e : numE j pre.length c = if outside c (-1) ((j.ofs.length : Int) - 1) then 10 else if decide (0 ≤ c) && !servesV j c pre.length then 18 else 0 := rfl
    rw [r45_l0]
    cases h1 : outside c (-1) ((j.ofs.length : Int) - 1)
    · rw [h1] at e
      have q := h1
      unfold outside at q
      simp at q
      by_cases h2 : 0 ≤ c
      · obtain ⟨a, o, p, ea, ho, hp', hs⟩ := servesV_eq h2 (by omega) hpl
        have e44 := S44 (P := P) j hj a pre.length o p ho hp'
        rw [← hs, ← ea] at e44
        simp [Jur.enc] at e44
        cases h3 : servesV j c pre.length
        · rw [h3] at e44 e
          simp [h2] at e
          simp [c45_l0b, eachE, JB, hw, hw2, hlt, h1, h2, e44, e]
        · rw [h3] at e44 e
          simp [h2] at e
          simp [JB] at ih
          simp [c45_l0b, eachE, JB, hw, hw2, hlt, h1, h2, e44, e, ih]
      · simp [h2] at e
        simp [JB] at ih
        simp [c45_l0b, eachE, JB, hw, hw2, hlt, h1, h2, e, ih]
    · rw [h1] at e
      simp at e
      simp [c45_l0b, eachE, JB, hw, hw2, hlt, h1, e]

theorem L45_1 (j : Jur) (hj : j.ok) : ∀ (l pre : List Int), (pre ++ l).length = j.pts.length → (∀ v ∈ l, v < 0 ∨ v.toNat < j.ofs.length) → ((pre ++ l).length : Int) < 9223372036854775 →
    execS P (limS P) c45_l1 ⟨[.c (.slice ((pre ++ l).map ci)), .ptr 0 0 0, .c (ci pre.length)], [JB j]⟩ = if eachE (fitE j) pre l = 0 then some (.exit 2, ⟨[], [JB j]⟩) else some (.ret, ⟨[.c (ci (eachE (fitE j) pre l))], [JB j]⟩) := by
  intro l
  induction l with
  | nil =>
    intro pre hp hv h
    rw [r45_l1]
    simp [c45_l1b, eachE, JB]
  | cons c r ih =>
    intro pre hp hv h
    have ih := ih (pre ++ [c]) (by simpa using hp) (fun v hv' => hv v (by simp [hv'])) (by simpa using h)
    have hpl : pre.length < j.pts.length := by rw [← hp]; simp
    have e := S112 (P := P) j hj pre c hpl (by simp at h; omega) (hv c (by simp))
    have ht : List.take (pre.length + 1) (List.map ci pre ++ ci c :: List.map ci r) = List.map ci pre ++ [ci c] := by
      rw [List.take_append]
      simp
      exact List.take_of_length_le (by simp)
    simp [Jur.enc] at e
    simp [JB] at ih
    simp at h
    have hw : IntKind.i64.wrap (↑pre.length + 1) = ↑pre.length + 1 := wrap64 (by omega) (by omega)
    have hlt : (pre.length : Int) < pre.length + (r.length + 1) := by omega
    have hz : szFits 1 (List.map ci pre ++ ci c :: List.map ci r) = true := by cases pre <;> rfl
    have hb : (pre.length : Int) + 1 ≤ pre.length + (r.length + 1) := by omega
    have hb2 : 0 ≤ (pre.length : Int) + 1 := by omega
    have hb3 : ((pre.length : Int) + 1).toNat = pre.length + 1 := by omega
    rw [r45_l1]
    by_cases h0 : fitE j pre c = 0
    · rw [h0] at e
      simp [c45_l1b, eachE, JB, hw, hlt, hz, hb, hb2, hb3, ht, e, h0, ih]
    · simp [c45_l1b, eachE, JB, hw, hlt, hz, hb, hb2, hb3, ht, e, h0]

/-- The error of an appointment for a valid jury. -/
def appE (j : Jur) (a : List Int) : Int := if a.length ≠ j.pts.length then 2 else if eachE (fun pre v => numE j pre.length v) [] a ≠ 0 then eachE (fun pre v => numE j pre.length v) [] a else eachE (fitE j) [] a

theorem num_range {j : Jur} : ∀ {l pre : List Int}, eachE (fun pre v => numE j pre.length v) pre l = 0 → ∀ v ∈ l, v = -1 ∨ (0 ≤ v ∧ v < j.ofs.length)
  | [], _, _ => by simp
  | c :: r, pre, h => by
    rw [eachE] at h
    split at h
    · rename_i h1; exact absurd h h1
    · rename_i h1
      intro v hv
      rcases List.mem_cons.1 hv with rfl | hv
      · simp at h1
        unfold numE at h1
        split at h1
        · cases h1
        · rename_i hx
          unfold outside at hx
          simp at hx
          omega
      · exact num_range h v hv

theorem S45 (j : Jur) (hj : j.ok) (a : List Int) (ha : (a.length : Int) < 9223372036854775) : fn P 45 [j.enc, .slice (a.map ci)] = some (ci (appE j a)) := by
  rw [u45]
  by_cases h0 : a.length = j.pts.length
  · have l0 := L45_0 (P := P) j hj a [] (by simpa using h0) (by simpa using ha)
    simp [JB] at l0
    have e : appE j a = if eachE (fun pre v => numE j pre.length v) [] a ≠ 0 then eachE (fun pre v => numE j pre.length v) [] a else eachE (fitE j) [] a := by unfold appE; rw [if_neg (by simp [h0])]
    have h0' : (a.length : Int) = j.pts.length := by omega
    rw [e]
    by_cases h1 : eachE (fun pre v => numE j pre.length v) [] a = 0
    · have l1 := L45_1 (P := P) j hj a [] (by simpa using h0) (fun v hv => by rcases num_range h1 v hv with h | h <;> omega) (by simpa using ha)
      simp [JB] at l1
      rw [if_pos h1] at l0
      by_cases h2 : eachE (fitE j) [] a = 0
      · rw [if_pos h2] at l1
        simp [c45, Jur.enc, h0', l0, l1, h1, h2]
      · rw [if_neg h2] at l1
        simp [c45, Jur.enc, h0', l0, l1, h1, h2]
    · rw [if_neg h1] at l0
      simp [c45, Jur.enc, h0', l0, h1]
  · have h0' : ¬ (a.length : Int) = j.pts.length := by omega
    have e : appE j a = 2 := by unfold appE; rw [if_pos h0]
    simp [c45, Jur.enc, h0', e]

end LM.G9

namespace LM.G9
open Go LM
variable {P : Nat → Option SFunc} [Has P]

theorem ofcE_num {j : Jur} {v : Int} (h : v ≠ -1) : ofcE j v = if outside v (-1) ((j.ofs.length : Int) - 1) then 10 else 0 := by
  unfold ofcE whenE outside
  by_cases h1 : v < 0 <;> by_cases h2 : v > (j.ofs.length : Int) - 1 <;> by_cases h3 : v < -1 <;> simp [h1, h2, h3] <;> omega

theorem L46_0 (j : Jur) (hj : j.ok) : ∀ (l pre : List Int), (pre ++ l).length = j.pts.length → ((pre ++ l).length : Int) < 9223372036854775 →
    execS P (limS P) c46_l0 ⟨[.c (.slice ((pre ++ l).map ci)), .ptr 0 0 0, .c (.slice ((pre ++ l).map ci)), .c (ci (pre ++ l).length), .c (ci pre.length)], [JB j, .dead]⟩ = if eachE (fun pre v => numE j pre.length v) pre l = 0 then some (.exit 0, ⟨[.c (.slice ((pre ++ l).map ci)), .ptr 0 0 0], [JB j, .dead]⟩) else some (.ret, ⟨[.c (ci (eachE (fun pre v => numE j pre.length v) pre l))], [JB j, .dead]⟩) := by
  intro l
  induction l with
  | nil =>
    intro pre hp h
    rw [r46_l0]
    simp [c46_l0b, eachE, JB]
  | cons c r ih =>
    intro pre hp h
    have ih := ih (pre ++ [c]) (by simpa using hp) (by simpa using h)
    have hpl : pre.length < j.pts.length := by rw [← hp]; simp
    have e110 := S110 (P := P) j hj c
    simp [Jur.enc] at e110
    simp at ih h hp
    simp [JB] at ih
    have hw : IntKind.i64.wrap (↑pre.length + 1) = ↑pre.length + 1 := wrap64 (by omega) (by omega)
    have hlt : (pre.length : Int) < pre.length + (r.length + 1) := by omega
    have e : numE j pre.length c = if outside c (-1) ((j.ofs.length : Int) - 1) then 10 else if decide (0 ≤ c) && !servesV j c pre.length then 18 else 0 := rfl
    rw [r46_l0]
    by_cases hm : c = -1
    · have e0 : numE j pre.length c = 0 := by
        rw [e, hm]
        have : outside (-1) (-1) ((j.ofs.length : Int) - 1) = false := by unfold outside; simp; omega
        simp [this]
      simp [c46_l0b, eachE, JB, hw, hlt, hm]
      rw [hm] at ih e0
      simp [e0, ih]
    · rw [ofcE_num hm] at e110
      cases h1 : outside c (-1) ((j.ofs.length : Int) - 1)
      · rw [h1] at e e110
        have q := h1
        unfold outside at q
        simp at q
        have h2 : 0 ≤ c := by omega
        obtain ⟨a, o, p, ea, ho, hp', hs⟩ := servesV_eq h2 (by omega) hpl
        have e111 := S111 (P := P) j hj a pre.length o p ho hp'
        rw [← hs, ← ea] at e111
        simp [Jur.enc] at e111 e110
        cases h3 : servesV j c pre.length
        · rw [h3] at e111 e
          simp [h2] at e
          simp [c46_l0b, eachE, JB, hw, hlt, hm, e110, e111, e]
        · rw [h3] at e111 e
          simp [h2] at e
          simp [c46_l0b, eachE, JB, hw, hlt, hm, e110, e111, e, ih]
      · rw [h1] at e e110
        simp at e e110
        simp [c46_l0b, eachE, JB, hw, hlt, hm, e110, e]

/-- How many posts each official has. -/
def hasC (n : Nat) (pre : List Int) : List LV := (List.range n).map fun (k : Nat) => .c (ci (countV (k : Int) pre))
theorem hasC_length (n : Nat) (pre : List Int) : (hasC n pre).length = n := by simp [hasC]
theorem hasC_get {n k : Nat} (pre : List Int) (h : k < n) : (hasC n pre)[k]? = some (.c (ci (countV k pre))) := by simp [hasC, h]
theorem hasC_getE {n k : Nat} (pre : List Int) (h : k < n) : (hasC n pre)[k]'(by rw [hasC_length]; exact h) = .c (ci (countV k pre)) := (List.getElem?_eq_some_iff.1 (hasC_get pre h)).2
theorem hasC_nil (n : Nat) : hasC n [] = List.replicate n (.c (ci 0)) := by
  unfold hasC
  apply List.ext_getElem
  · simp
  · intro i h1 h2
    simp [countV]
theorem hasC_set {n k : Nat} (pre : List Int) (h : k < n) : (hasC n pre).set k (.c (ci (countV k pre + 1))) = hasC n (pre ++ [(k : Int)]) := by
  unfold hasC
  apply List.ext_getElem
  · simp
  · intro i h1 h2
    simp only [List.getElem_set, List.getElem_map, List.getElem_range]
    have e : countV (i : Int) (pre ++ [(k : Int)]) = countV i pre + (if k = i then 1 else 0) := by
      unfold countV
      rw [List.filter_append, List.length_append]
      by_cases hk : k = i
      · subst hk; simp
      · have : ¬ ((k : Int) = i) := by omega
        simp [hk, this]
    rw [e]
    by_cases hk : k = i
    · subst hk; simp
    · simp [hk]
theorem hasC_skip (n : Nat) (pre : List Int) (v : Int) (h : v < 0) : hasC n (pre ++ [v]) = hasC n pre := by
  unfold hasC
  apply List.map_congr_left
  intro k _
  have e : countV (k : Int) (pre ++ [v]) = countV k pre := by
    unfold countV
    rw [List.filter_append, List.length_append]
    have : ¬ (v = (k : Int)) := by omega
    simp [this]
  rw [e]
theorem under_hasC (n m : Nat) (pre : List Int) : underL m (hasC n pre) = true := by
  have : hasC n pre = ((List.range n).map fun (k : Nat) => ci (countV (k : Int) pre)).map LV.c := by unfold hasC; rw [List.map_map]; rfl
  rw [this]
  exact underL_map_c m _

theorem L46_1 (j : Jur) (v : Int) (A : CV) (L : Int) (n p : Nat) (hp : p < j.pts.length) (C : List LV) (hC : underL 3 C = true) (R : List Int) (hR : (R.length : Int) < 9223372036854775) (hRp : R.length ≤ p) : ∀ (l : List Int) (k : Nat), k + l.length = R.length → (∀ q c, l[q]? = some c → R[k + q]? = some c) →
    execS P (limS P) c46_l1 ⟨[.c A, .ptr 0 0 0, .slice 2 1 0 n none (some n), .c (ci p), .c (ci v), .c A, .c (ci L), .c (ci p), .c (.slice (R.map ci)), .c (ci R.length), .c (ci k)], [JB j, .dead, .cells 1 C 0]⟩ = if clashF j v (hourAt j p) k l then some (.ret, ⟨[.c (ci 9)], [JB j, .dead, .cells 1 C 0]⟩) else some (.exit 4, ⟨[.c A, .ptr 0 0 0, .slice 2 1 0 n none (some n), .c (ci v), .c A, .c (ci L), .c (ci p)], [JB j, .dead, .cells 1 C 0]⟩) := by
  intro l
  induction l with
  | nil =>
    intro k hk h
    simp at hk
    subst hk
    rw [r46_l1]
    simp [c46_l1b, clashF]
  | cons x r ih =>
    intro k hk h
    have hx : R[k]? = some x := h 0 x rfl
    have hk' : k < R.length := (List.getElem?_eq_some_iff.1 hx).1
    obtain ⟨_, hx⟩ := List.getElem?_eq_some_iff.1 hx
    simp at hk
    have ih := ih (k + 1) (by omega) (fun q c hq => by have := h (q + 1) c hq; rw [← this]; congr 1; omega)
    simp [JB] at ih
    have h1 : (k : Int) < R.length := by omega
    have hkp : k < j.pts.length := by omega
    have g1 : (j.pts[k]'hkp).hour = hourAt j k := hour_get hkp
    have g2 : (j.pts[p]'hp).hour = hourAt j p := hour_get hp
    have hw : IntKind.i64.wrap (↑k + 1) = ↑k + 1 := wrap64 (by omega) (by omega)
    rw [clashF]
    rw [r46_l1]
    by_cases h2 : x = v
    · by_cases h3 : hourAt j k = hourAt j p
      · simp [c46_l1b, JB, h1, hk', hx, h2, hkp, hp, Pst.enc, g1, g2, h3, hC]
      · simp [c46_l1b, JB, h1, hk', hx, h2, hkp, hp, Pst.enc, g1, g2, h3, hw, hC, ih]
    · simp [c46_l1b, JB, h1, hk', hx, h2, hw, hC, ih]

theorem L46_2 (j : Jur) (hj : j.ok) : ∀ (l pre : List Int), (pre ++ l).length = j.pts.length → (∀ v ∈ l, v = -1 ∨ (0 ≤ v ∧ v < j.ofs.length)) → ((pre ++ l).length : Int) < 9223372036854775 →
    ∃ C, execS P (limS P) c46_l2 ⟨[.c (.slice ((pre ++ l).map ci)), .ptr 0 0 0, .slice 2 1 0 j.ofs.length none (some j.ofs.length), .c (.slice ((pre ++ l).map ci)), .c (ci (pre ++ l).length), .c (ci pre.length)], [JB j, .dead, .cells 1 (hasC j.ofs.length pre) 0]⟩ = if eachE (fitE j) pre l = 0 then some (.exit 2, ⟨[], [JB j, .dead, .cells 1 C 0]⟩) else some (.ret, ⟨[.c (ci (eachE (fitE j) pre l))], [JB j, .dead, .cells 1 C 0]⟩) := by
  intro l
  induction l with
  | nil =>
    intro pre hp hv h
    refine ⟨hasC j.ofs.length pre, ?_⟩
    rw [r46_l2]
    simp [c46_l2b, eachE, JB]
  | cons c r ih =>
    intro pre hp hv h
    obtain ⟨C, ih⟩ := ih (pre ++ [c]) (by simpa using hp) (fun v hv' => hv v (by simp [hv'])) (by simpa using h)
    have hpl : pre.length < j.pts.length := by rw [← hp]; simp
    have ht : List.take pre.length (List.map ci pre ++ ci c :: List.map ci r) = List.map ci pre := by simp
    simp [JB] at ih
    simp at h
    have hw : IntKind.i64.wrap (↑pre.length + 1) = ↑pre.length + 1 := wrap64 (by omega) (by omega)
    have hlt : (pre.length : Int) < pre.length + (r.length + 1) := by omega
    have hz : szFits 1 (List.map ci pre ++ ci c :: List.map ci r) = true := by cases pre <;> rfl
    have hb : (pre.length : Int) ≤ pre.length + (r.length + 1) := by omega
    rw [r46_l2]
    rcases hv c (by simp) with hc | ⟨hc0, hc1⟩
    · have e : fitE j pre c = 0 := by unfold fitE; rw [if_pos (by omega)]
      rw [hasC_skip _ _ _ (by omega)] at ih
      refine ⟨C, ?_⟩
      have hneg : c < 0 := by omega
      simp [c46_l2b, eachE, JB, hw, hlt, hneg, e, under_hasC, ih]
    · have hneg : ¬ c < 0 := by omega
      obtain ⟨k, rfl⟩ : ∃ k : Nat, c = (k : Int) := ⟨c.toNat, by omega⟩
      have hk : k < j.ofs.length := by omega
      have hin := L46_1 (P := P) j k (.slice ((pre ++ (k : Int) :: r).map ci)) (pre ++ (k : Int) :: r).length j.ofs.length pre.length hpl (hasC j.ofs.length pre) (under_hasC _ _ _) pre (by omega) (Nat.le_refl _) pre 0 (by simp) (fun q c hq => by rw [Nat.zero_add]; exact hq)
      simp [JB] at hin
      have hg := hasC_getE pre hk
      have hs := hasC_set pre hk
      have hk1 : k + 1 ≤ j.ofs.length := hk
      have hcl := countV_le k pre
      have hcn := countV_nonneg k pre
      have hw2 : IntKind.i64.wrap (countV k pre + 1) = countV k pre + 1 := wrap64 (by omega) (by omega)
      have hg2 := hasC_getE (pre ++ [(k : Int)]) hk
      have ec : countV (k : Int) (pre ++ [(k : Int)]) = countV k pre + 1 := by
        unfold countV
        rw [List.filter_append, List.length_append]
        simp
      rw [ec] at hg2
      have hload : (j.ofs[k]'hk).load = loadOf j k := by unfold loadOf; rw [show ((k : Int)).toNat = k from rfl, List.getElem?_eq_getElem hk]
      have e : fitE j pre k = if clashF j k (hourAt j pre.length) 0 pre then 9 else if loadOf j k < countV k pre + 1 then 5 else 0 := by unfold fitE; rw [if_neg hneg]
      cases h1 : clashF j k (hourAt j pre.length) 0 pre <;> rw [h1] at hin e
      · by_cases h2 : loadOf j k < countV k pre + 1
        · simp [h2] at e
          refine ⟨hasC j.ofs.length (pre ++ [(k : Int)]), ?_⟩
          simp [c46_l2b, eachE, JB, hw, hlt, hz, hb, ht, hneg, hin, hc1, hk, hk1, hg, hs, hw2, hg2, hasC_length, Ofc.enc, hload, h2, e]
        · simp [h2] at e
          refine ⟨C, ?_⟩
          simp [c46_l2b, eachE, JB, hw, hlt, hz, hb, ht, hneg, hin, hc1, hk, hk1, hg, hs, hw2, hg2, hasC_length, Ofc.enc, hload, h2, e, under_hasC, ih]
      · simp at e
        refine ⟨hasC j.ofs.length pre, ?_⟩
        simp [c46_l2b, eachE, JB, hw, hlt, hz, hb, ht, hneg, hin, e]

def appJ (j : Jur) (a : List Int) : Int := if checkJur j ≠ 0 then checkJur j else appE j a

theorem S46 (j : Jur) (hj : j.ok) (a : List Int) (ha : (a.length : Int) < 9223372036854775) : fn P 46 [j.enc, .slice (a.map ci)] = some (ci (appJ j a)) := by
  have e42 := S42 (P := P) j hj
  simp [Jur.enc] at e42
  have so := hj.so
  rw [u46]
  unfold appJ
  by_cases hc : checkJur j = 0
  · rw [hc] at e42
    by_cases h0 : a.length = j.pts.length
    · have l0 := L46_0 (P := P) j hj a [] (by simpa using h0) (by simpa using ha)
      simp [JB] at l0
      have h0' : (a.length : Int) = j.pts.length := by omega
      rw [h0'] at l0
      have e : appE j a = if eachE (fun pre v => numE j pre.length v) [] a ≠ 0 then eachE (fun pre v => numE j pre.length v) [] a else eachE (fitE j) [] a := by unfold appE; rw [if_neg (by simp [h0])]
      rw [e]
      by_cases h1 : eachE (fun pre v => numE j pre.length v) [] a = 0
      · obtain ⟨C, l2⟩ := L46_2 (P := P) j hj a [] (by simpa using h0) (num_range h1) (by simpa using ha)
        rw [if_pos h1] at l0
        rw [hasC_nil] at l2
        simp [JB] at l2
        rw [h0'] at l2
        have q1 : (j.ofs.length : Int) * 8 ≤ 140737488355328 := by omega
        have q2 : (j.ofs.length : Int) ≤ 9223372036854775807 := by omega
        by_cases h2 : eachE (fitE j) [] a = 0
        · rw [if_pos h2] at l2
          simp [c46, Jur.enc, h0', l0, e42, whenE, firstE, q1, q2, l2, h1, h2, hc]
        · rw [if_neg h2] at l2
          simp [c46, Jur.enc, h0', l0, e42, whenE, firstE, q1, q2, l2, h1, h2, hc]
      · rw [if_neg h1] at l0
        simp [c46, Jur.enc, h0', l0, e42, whenE, firstE, h1, hc]
    · have h0' : ¬ (a.length : Int) = j.pts.length := by omega
      have e : appE j a = 2 := by unfold appE; rw [if_pos h0]
      simp [c46, Jur.enc, h0', e42, whenE, firstE, e, hc]
  · simp [c46, Jur.enc, e42, firstE, hc]

end LM.G9

namespace LM.G9
open Go LM
variable {P : Nat → Option SFunc} [Has P]

@[simp] theorem S21 (b : Bool) (e : Int) : fn P 21 [.bool b, ci e] = some (ci (whenE b e)) := by
  rw [u21]; cases b <;> simp [c21, whenE]

end LM.G9

namespace LM.G9
open Go LM
variable {P : Nat → Option SFunc} [Has P] [HasP P]

@[simp] theorem S26' (have' : Bool) (e bad : Int) (want : Bool) : fn P 26 [.bool have', ci e, ci bad, .bool want] = some (.bool (if bad ≠ 0 then !have' && (e == bad) else (e == 0) && (have' == want))) := by
  rw [u26]
  by_cases hb : bad = 0 <;> simp [c26, hb] <;> rfl

theorem num_cond (j : Jur) (a b : Int) : firstE [checkJur j, whenE (decide (a < 0) || decide ((j.ofs.length : Int) ≤ a) || decide (b < 0) || decide ((j.pts.length : Int) ≤ b)) 10] = servesE j a b := by
  unfold servesE ofcE pstE whenE outside
  by_cases h0 : checkJur j = 0
  · by_cases h1 : a < 0 <;> by_cases h2 : (j.ofs.length : Int) ≤ a <;> by_cases h3 : b < 0 <;> by_cases h4 : (j.pts.length : Int) ≤ b <;> simp [firstE, h0, h1, h2, h3, h4] <;> omega
  · simp [firstE, h0]

theorem S5 (h14 : fn P 14 [] = some (.bool true)) (j : Jur) (hj : j.ok) (a : List Int) (ha : (a.length : Int) < 9223372036854775) (n m : Int) : fn P 5 [j.enc, .slice (a.map ci), .agg [ci n, ci m]] = some (.bool true) := by
  have e39 := S39 (P := P) j hj
  have e40 := S40 (P := P) j hj
  have e41 := S41 (P := P) j hj
  have e42 := S42 (P := P) j hj
  have e43 := S43 (P := P) j hj n m
  have e45 := S45 (P := P) j hj a ha
  have e46 := S46 (P := P) j hj a ha
  have e20 := S20_2 (P := P) (checkJur j) (whenE (decide (n < 0) || decide ((j.ofs.length : Int) ≤ n) || decide (m < 0) || decide ((j.pts.length : Int) ≤ m)) 10)
  rw [num_cond] at e20
  unfold appJ at e46
  simp [Jur.enc] at e39 e40 e41 e42 e43 e45 e46
  rw [u5]
  cases h1 : shortJur j
  · rw [h1] at e40
    simp [c5, Jur.enc, e39, h14, e40]
  · rw [h1] at e40
    by_cases h2 : (30 : Int) < a.length
    · simp [c5, Jur.enc, e39, h14, e40, h2]
    · by_cases h3 : checkJur j = 0
      · by_cases h5 : servesE j n m = 0
        · have h6 := h5
          unfold servesE at h6
          simp only [firstE_zero] at h6
          obtain ⟨i, rfl, o, ho⟩ := ofcE_zero h6.2.1
          obtain ⟨k, rfl, p, hp⟩ := pstE_zero h6.2.2.1
          have e44 := S44 (P := P) j hj i k o p ho hp
          have hv : servesV j i k = servesB o p := by unfold servesV; simp [ho, hp]
          rw [h5, h3] at e20
          simp [Jur.enc] at e44
          simp [h3, h5, hv] at e41 e42 e43 e45 e46
          simp [-S20_2] at e20
          simp [c5, Jur.enc, e39, h14, e40, h2, e41, e42, e43, e44, e45, e46, e20, -S20_2]
        · simp [h3, h5] at e41 e42 e43 e45 e46
          rw [h3] at e20
          simp [c5, Jur.enc, e39, h14, e40, h2, e41, e42, e43, e45, e46, e20, h5, -S20_2]
      · have h5 : servesE j n m = checkJur j := by unfold servesE; rw [firstE, if_pos h3]
        rw [h5] at e20
        simp [h3, h5] at e43 e46
        simp [c5, Jur.enc, e39, h14, e40, h2, e41, e42, e43, e45, e46, e20, h3, -S20_2]

end LM.G9

