/- Part 10 of what YteihlaoeolfkfaaGreatSpa leans on. -/
import Derived.Test.YteihlaoeolfkfaaGreatRows
import Derived.WalkKit
import Derived.ProofKit
import Derived.SizedLaws
import Derived.Test.YteihlaoeolfkfaaGreatLib1
import Derived.Test.YteihlaoeolfkfaaGreatLib2
import Derived.Test.YteihlaoeolfkfaaGreatLib3
import Derived.Test.YteihlaoeolfkfaaGreatSpa1
import Derived.Test.YteihlaoeolfkfaaGreatSpa2
import Derived.Test.YteihlaoeolfkfaaGreatSpa3
import Derived.Test.YteihlaoeolfkfaaGreatSpa4
import Derived.Test.YteihlaoeolfkfaaGreatSpa5
import Derived.Test.YteihlaoeolfkfaaGreatSpa6
set_option linter.all false
namespace Go.Proofs.YteihlaoeolfkfaaGreat
open Go.ChangeShapes Go.WideShapes Go.ChangeAt Go.RowKit

theorem own_knob : ownKnob Tryz.prog.godebug = none := by kernel_rfl
theorem laid_out : laidOutB Tryz.prog = true := by kernel_rfl
theorem maps_rowed : mapsRowed Tryz.prog = true := by kernel_rfl
theorem slices_full : LM.slicesFullB Tryz.prog = true := by kernel_rfl

theorem typed_map {α : Type} {enc : α → LM.CV} {p : α → Prop} {e : LM.CTy} (h : ∀ x, LM.Typed e x → ∃ a, x = enc a ∧ p a) : ∀ {xs : List LM.CV}, (∀ x ∈ xs, LM.Typed e x) → ∃ l : List α, xs = l.map enc ∧ ∀ a ∈ l, p a
  | [], _ => ⟨[], rfl, by simp⟩
  | x :: xs, hx => by
    obtain ⟨a, ha, hp⟩ := h x (hx x (by simp))
    obtain ⟨l, hl, hq⟩ := typed_map h (xs := xs) fun y hy => hx y (by simp [hy])
    exact ⟨a :: l, by rw [ha, hl]; rfl, fun b hb => by rcases List.mem_cons.1 hb with rfl | hb; exact hp; exact hq b hb⟩

theorem typed_slice {α : Type} {enc : α → LM.CV} {p : α → Prop} {e : LM.CTy} {b : Nat} (h : ∀ x, LM.Typed e x → ∃ a, x = enc a ∧ p a) {v : LM.CV} (hv : LM.Typed (.slice b e) v) : ∃ l : List α, v = .slice (l.map enc) ∧ (∀ a ∈ l, p a) ∧ l.length * b ≤ 2 ^ 47 := by
  simp only [LM.Typed] at hv
  obtain ⟨xs, rfl, _, hb, hx⟩ := hv
  obtain ⟨l, rfl, hp⟩ := typed_map h hx
  refine ⟨l, rfl, hp, ?_⟩
  rw [List.length_map] at hb
  exact Nat.le_trans hb (by decide)

theorem typed_str {v : LM.CV} (hv : LM.Typed .str v) : ∃ s : LM.Str, v = .str s ∧ s.length < 9223372036854775807 := by
  simp only [LM.Typed] at hv
  obtain ⟨s, rfl, h⟩ := hv
  exact ⟨s, rfl, Nat.lt_of_le_of_lt h (by decide)⟩

theorem typed_int {v : LM.CV} (hv : LM.Typed (.int .i64) v) : ∃ n, v = LM.ci n ∧ -9223372036854775808 ≤ n ∧ n ≤ 9223372036854775807 := by
  simp only [LM.Typed] at hv
  obtain ⟨n, rfl, h⟩ := hv
  refine ⟨n, rfl, ?_⟩
  simp [Lit.wf, IntKind.min, IntKind.max, IntKind.bits, IntKind.signed] at h
  omega

end Go.Proofs.YteihlaoeolfkfaaGreat

namespace LM.G9
open Go LM
variable {P : Nat → Option SFunc} [Has P]

@[simp] theorem S54 (n a b : Int) : fn P 54 [ci n, ci a, ci b] = some (.bool (outside n a b)) := by
  rw [u54]; simp [c54, outside]

@[simp] theorem S105 (n a b : Int) : fn P 105 [ci n, ci a, ci b] = some (.bool (outside n a b)) := by
  rw [u105]; simp [c105, outside]

@[simp] theorem S82 (b : Bool) (e : Int) : fn P 82 [.bool b, ci e] = some (ci (whenE b e)) := by
  rw [u82]; cases b <;> simp [c82, whenE]

@[simp] theorem S81 (d : Int) : fn P 81 [ci d] = some (ci (dated d)) := by
  rw [u81]; simp [c81, dated]

@[simp] theorem S150 (c : Nat) : fn P 150 [.int .i32 c] = some (.bool (letterN c)) := by
  rw [u150]; simp [c150, letterN]
  rw [show decide ((97 : Int) ≤ c) = decide (97 ≤ c) from decide_eq_decide.2 (by omega), show decide ((c : Int) ≤ 122) = decide (c ≤ 122) from decide_eq_decide.2 (by omega),
    show decide ((65 : Int) ≤ c) = decide (65 ≤ c) from decide_eq_decide.2 (by omega), show decide ((c : Int) ≤ 90) = decide (c ≤ 90) from decide_eq_decide.2 (by omega)]

theorem L79 : ∀ (l pre : List Int), (l.length : Int) + pre.length < 9223372036854775807 → execS P (limS P) c79_l0 ⟨[.c (.slice ((pre ++ l).map ci)), .c (ci (pre ++ l).length), .c (ci pre.length)], []⟩ = if firstE l = 0 then some (.exit 0, ⟨[], []⟩) else some (.ret, ⟨[.c (ci (firstE l))], []⟩) := by
  intro l
  induction l with
  | nil =>
    intro pre h
    rw [r79_l0]
    simp [c79_l0b, firstE]
  | cons c r ih =>
    intro pre h
    have ih := ih (pre ++ [c]) (by simp at h ⊢; omega)
    simp at ih h
    have hw : IntKind.i64.wrap (↑pre.length + 1) = ↑pre.length + 1 := wrap64 (by omega) (by omega)
    have hlt : (pre.length : Int) < pre.length + (r.length + 1) := by omega
    rw [r79_l0]
    by_cases hc : c = 0
    · subst hc
      simp [c79_l0b, firstE, hw, hlt, ih]
    · simp [c79_l0b, firstE, hw, hlt, hc]

@[simp] theorem S79 (l : List Int) (h : l.length < 9223372036854775807) : fn P 79 [.slice (l.map ci)] = some (ci (firstE l)) := by
  have := L79 (P := P) l [] (by simp; omega)
  rw [u79]
  simp at this
  simp [c79, this]
  by_cases hc : firstE l = 0 <;> simp [hc]

@[simp] theorem S79_1 (a : Int) : fn P 79 [.slice [ci a]] = some (ci (firstE [a])) := S79 [a] (by simp)
@[simp] theorem S79_2 (a b : Int) : fn P 79 [.slice [ci a, ci b]] = some (ci (firstE [a, b])) := S79 [a, b] (by simp)
@[simp] theorem S79_3 (a b c : Int) : fn P 79 [.slice [ci a, ci b, ci c]] = some (ci (firstE [a, b, c])) := S79 [a, b, c] (by simp)
@[simp] theorem S79_4 (a b c d : Int) : fn P 79 [.slice [ci a, ci b, ci c, ci d]] = some (ci (firstE [a, b, c, d])) := S79 [a, b, c, d] (by simp)
@[simp] theorem S79_5 (a b c d e : Int) : fn P 79 [.slice [ci a, ci b, ci c, ci d, ci e]] = some (ci (firstE [a, b, c, d, e])) := S79 [a, b, c, d, e] (by simp)

theorem L20 : ∀ (l pre : List Int), (l.length : Int) + pre.length < 9223372036854775807 → execS P (limS P) c20_l0 ⟨[.c (.slice ((pre ++ l).map ci)), .c (ci pre.length)], []⟩ = if firstE l = 0 then some (.exit 0, ⟨[], []⟩) else some (.ret, ⟨[.c (ci (firstE l))], []⟩) := by
  intro l
  induction l with
  | nil =>
    intro pre h
    rw [r20_l0]
    simp [c20_l0b, firstE]
  | cons c r ih =>
    intro pre h
    have ih := ih (pre ++ [c]) (by simp at h ⊢; omega)
    simp at ih h
    have hw : IntKind.i64.wrap (↑pre.length + 1) = ↑pre.length + 1 := wrap64 (by omega) (by omega)
    have hlt : (pre.length : Int) < pre.length + (r.length + 1) := by omega
    rw [r20_l0]
    by_cases hc : c = 0
    · subst hc
      simp [c20_l0b, firstE, hw, hlt, ih]
    · simp [c20_l0b, firstE, hw, hlt, hc]

@[simp] theorem S20 (l : List Int) (h : l.length < 9223372036854775807) : fn P 20 [.slice (l.map ci)] = some (ci (firstE l)) := by
  have := L20 (P := P) l [] (by simp; omega)
  rw [u20]
  simp at this
  simp [c20, this]
  by_cases hc : firstE l = 0 <;> simp [hc]

@[simp] theorem S20_2 (a b : Int) : fn P 20 [.slice [ci a, ci b]] = some (ci (firstE [a, b])) := S20 [a, b] (by simp)
@[simp] theorem S20_3 (a b c : Int) : fn P 20 [.slice [ci a, ci b, ci c]] = some (ci (firstE [a, b, c])) := S20 [a, b, c] (by simp)
@[simp] theorem S20_4 (a b c d : Int) : fn P 20 [.slice [ci a, ci b, ci c, ci d]] = some (ci (firstE [a, b, c, d])) := S20 [a, b, c, d] (by simp)

theorem L22 (s : Str) (hs : s.length ≤ 24) : ∀ (l pre : Str), s = pre ++ l → execS P (limS P) c22_l0 ⟨[.c (.str s), .c (ci pre.length)], []⟩ = if nameFrom pre.length l then some (.exit 0, ⟨[], []⟩) else some (.ret, ⟨[.c (.bool false)], []⟩) := by
  intro l
  induction l with
  | nil =>
    intro pre h
    rw [r22_l0]
    simp [c22_l0b, h, nameFrom]
  | cons c r ih =>
    intro pre h
    have ih := ih (pre ++ [c]) (by simp [h])
    simp at ih
    rw [h] at hs
    simp at hs
    have hw : IntKind.i64.wrap (↑pre.length + 1) = ↑pre.length + 1 := wrap64 (by omega) (by omega)
    have hlt : (pre.length : Int) < pre.length + (r.length + 1) := by omega
    have hn : (((↑c.toNat : Int) < 97 ∨ 122 < (↑c.toNat : Int)) ∧ ((↑c.toNat : Int) < 65 ∨ 90 < (↑c.toNat : Int))) ∧ (pre = [] ∨ ((↑c.toNat : Int) < 48 ∨ 57 < (↑c.toNat : Int)) ∧ ¬(↑c.toNat : Int) = 95) ↔ nameN pre.length c.toNat = false := by
      have hp : pre = [] ↔ pre.length = 0 := by simp
      unfold nameN letterN digitN
      cases pre with
      | nil => simp; omega
      | cons x y => simp; omega
    rw [r22_l0]
    simp [c22_l0b, h, nameFrom, hw, hlt, hn]
    rw [← h, ih]
    cases nameN pre.length c.toNat <;> simp

@[simp] theorem S22 (s : Str) : fn P 22 [.str s] = some (.bool (isName s)) := by
  rw [u22]
  by_cases h1 : s.length < 1
  · have : s = [] := List.eq_nil_of_length_eq_zero (by omega)
    subst this
    simp [c22, isName]
  · by_cases h2 : s.length > 24
    · have h3 : ¬ (s.length : Int) < 1 := by omega
      have h4 : (24 : Int) < (s.length : Int) := by omega
      have h5 : ¬ s.length ≤ 24 := by omega
      simp [c22, isName, h3, h4, h5]
    · have := L22 (P := P) s (by omega) s [] rfl
      simp at this
      have h3 : ¬ (s.length : Int) < 1 := by omega
      have h4 : ¬ (24 : Int) < (s.length : Int) := by omega
      have h5 : s.length ≤ 24 := by omega
      have h6 : 1 ≤ s.length := by omega
      simp [c22, isName, h3, h4, h5, h6, this]
      cases nameFrom 0 s <;> simp

theorem L132 (s : Str) (hs : s.length < 9223372036854775807) : ∀ (l pre : Str), s = pre ++ l → ∃ q, execS P (limS P) c132_l0 ⟨[.c (.str s), .ptr 0 0 0], [.iter s pre.length]⟩ = if nameFrom pre.length l then some (.exit 0, ⟨[.c (.str s)], [.iter s s.length]⟩) else some (.ret, ⟨[.c (.bool false)], [.iter s q]⟩) := by
  intro l
  induction l with
  | nil =>
    intro pre h
    refine ⟨0, ?_⟩
    rw [r132_l0]
    simp [c132_l0b, h, nameFrom]
  | cons c r ih =>
    intro pre h
    obtain ⟨q, ih⟩ := ih (pre ++ [c]) (by simp [h])
    simp at ih
    have hc : s[pre.length]? = some c := by simp [h]
    rw [r132_l0]
    rcases Nat.lt_or_ge c.toNat 128 with hlo | hhi
    · have hd := decode_lo hc hlo
      rw [h] at hd
      have hn : (letterN c.toNat = false ∧ (pre = [] ∨ ¬(↑c.toNat : Int) = 95 ∧ ((↑c.toNat : Int) < 48 ∨ 57 < (↑c.toNat : Int)))) ↔ nameN pre.length c.toNat = false := by
        unfold nameN digitN
        cases pre with
        | nil => simp
        | cons x y => simp; cases letterN c.toNat <;> simp; omega
      refine ⟨if nameN pre.length c.toNat = false then pre.length + 1 else q, ?_⟩
      simp [c132_l0b, h, nameFrom, hd, hn]
      rw [h] at ih
      simp at ih
      cases nameN pre.length c.toNat <;> simp [ih]
    · have hd := decode_hi hc hhi
      rw [h] at hd
      have hl : letterN (Utf8.decode { data := List.toArray (pre ++ c :: r) } pre.length).fst = false := by
        have := nameN_hi (i := 0) hd
        simpa [nameN] using this
      have h1 : ¬ (↑(Utf8.decode { data := List.toArray (pre ++ c :: r) } pre.length).fst : Int) = 95 := by omega
      have h2 : (57 : Int) < (↑(Utf8.decode { data := List.toArray (pre ++ c :: r) } pre.length).fst : Int) := by omega
      refine ⟨pre.length + (Utf8.decode { data := List.toArray (pre ++ c :: r) } pre.length).snd, ?_⟩
      simp [c132_l0b, h, nameFrom, hl, h1, h2, nameN_hi hhi]

@[simp] theorem S132 (s : Str) (hs : s.length < 9223372036854775807) : fn P 132 [.str s] = some (.bool (isName s)) := by
  rw [u132]
  obtain ⟨q, this⟩ := L132 (P := P) s hs s [] rfl
  simp at this
  simp [c132, this]
  cases hn : nameFrom 0 s
  · simp [isName, hn]
  · cases s with
    | nil => simp [isName]
    | cons c r =>
      simp [isName, hn]
      omega

@[simp] theorem S80 (s : Str) (hs : s.length < 9223372036854775807) : fn P 80 [.str s] = some (ci (named s)) := by
  rw [u80]; simp [c80, hs, named]

end LM.G9

namespace LM.G9
open Go LM
variable {P : Nat → Option SFunc} [Has P]

structure Lic where
  name : Str
  frm : Int
  to : Int
def Lic.enc (x : Lic) : CV := .agg [.str x.name, ci x.frm, ci x.to]
def Lic.ok (x : Lic) : Prop := x.name.length < 9223372036854775807

def checkLic (x : Lic) : Int := firstE [named x.name, dated x.frm, dated x.to, whenE (decide (x.frm > x.to)) 11]

theorem S78 (x : Lic) (hx : x.ok) (b : CV) : fn P 78 [x.enc, b] = some (ci (checkLic x)) := by
  rw [u78]
  unfold Lic.ok at hx
  simp [c78, Lic.enc, hx, checkLic]

/-- The first error of a list's elements. -/
def eachE {α : Type} (chk : List α → α → Int) : List α → List α → Int
  | _, [] => 0
  | pre, x :: r => if chk pre x ≠ 0 then chk pre x else eachE chk (pre ++ [x]) r

theorem L77 : ∀ (l pre : List Lic), (∀ x ∈ l, x.ok) → ((pre ++ l).length : Int) < 9223372036854775807 →
    ∃ h', execS P (limS P) c77_l0 ⟨[.c (.slice ((pre ++ l).map Lic.enc)), .c (.func 78 [] []), .c (.slice ((pre ++ l).map Lic.enc)), .c (ci (pre ++ l).length), .c (ci pre.length)], []⟩ = if eachE (fun _ => checkLic) pre l = 0 then some (.exit 0, ⟨[], []⟩) else some (.ret, ⟨[.c (ci (eachE (fun _ => checkLic) pre l))], h'⟩) := by
  intro l
  induction l with
  | nil =>
    intro pre hl h
    rw [r77_l0]
    exact ⟨[], by simp [c77_l0b, eachE]⟩
  | cons c r ih =>
    intro pre hl h
    obtain ⟨h', ih⟩ := ih (pre ++ [c]) (fun x hx => hl x (by simp [hx])) (by simpa using h)
    have hc := S78 (P := P) c (hl c (by simp))
    simp [Lic.enc] at ih h hc
    have hw : IntKind.i64.wrap (↑pre.length + 1) = ↑pre.length + 1 := wrap64 (by omega) (by omega)
    have hlt : (pre.length : Int) < pre.length + (r.length + 1) := by omega
    have hz : szFits 3 (List.map Lic.enc pre ++ CV.agg [CV.str c.name, ci c.frm, ci c.to] :: List.map Lic.enc r) = true := by cases pre <;> rfl
    have hb : (pre.length : Int) ≤ pre.length + (r.length + 1) := by omega
    rw [r77_l0]
    by_cases h0 : checkLic c = 0
    · refine ⟨h', ?_⟩
      simp [c77_l0b, eachE, hw, hlt, Lic.enc, hc, hz, hb, h0, ih]
    · refine ⟨[LB.cells 0 [LV.c (CV.str c.name), LV.c (ci c.frm), LV.c (ci c.to)] 0], ?_⟩
      simp [c77_l0b, eachE, hw, hlt, Lic.enc, hc, hz, hb, h0]

theorem S77 (l : List Lic) (m : Int) (hl : ∀ x ∈ l, x.ok) (h : (l.length : Int) < 9223372036854775807) : fn P 77 [.slice (l.map Lic.enc), ci m, .func 78 [] []] = some (ci (if (l.length : Int) > m then 5 else eachE (fun _ => checkLic) [] l)) := by
  rw [u77]
  obtain ⟨h', this⟩ := L77 (P := P) l [] hl (by simpa using h)
  simp at this
  by_cases hm : (l.length : Int) > m
  · have hm' : m < (l.length : Int) := hm
    simp [c77, hm']
  · have hm' : ¬ m < (l.length : Int) := hm
    simp [c77, hm', this]
    by_cases h0 : eachE (fun _ => checkLic) [] l = 0 <;> simp [h0]

def checkLics (l : List Lic) : Int := if (l.length : Int) > 256 then 5 else eachE (fun _ => checkLic) [] l

@[simp] theorem S17 (l : List Lic) (hl : ∀ x ∈ l, x.ok) (h : (l.length : Int) < 9223372036854775807) : fn P 17 [.slice (l.map Lic.enc)] = some (ci (checkLics l)) := by
  rw [u17]
  have := S77 (P := P) l 256 hl h
  simp [c17, this, checkLics]

end LM.G9

namespace LM.G9
open Go LM

/-- The number of the first element of a kind, or -1. -/
def idxF {α : Type} (p : α → Bool) : Nat → List α → Int
  | _, [] => -1
  | n, x :: r => if p x then n else idxF p (n + 1) r

theorem idxF_lt {α : Type} (p : α → Bool) : ∀ (l : List α) (n : Nat), (idxF p n l < 0) ↔ l.any p = false
  | [], n => by simp [idxF]
  | x :: r, n => by
    unfold idxF
    cases h : p x
    · simp [h, idxF_lt p r (n + 1)]
    · simp [h]

theorem idxF_none {α : Type} {p : α → Bool} : ∀ {l : List α} {n : Nat}, l.any p = false → idxF p n l = -1
  | [], n, _ => rfl
  | x :: r, n, h => by
    simp only [List.any_cons, Bool.or_eq_false_iff] at h
    rw [idxF, if_neg (by simp [h.1]), idxF_none h.2]

theorem idxF_dec {α : Type} (p : α → Bool) (l : List α) (n : Nat) : decide (0 ≤ idxF p n l) = l.any p := by
  have := idxF_lt p l n
  cases h : l.any p
  · have := this.2 h
    simp; omega
  · have : ¬ idxF p n l < 0 := fun q => by rw [this.1 q] at h; cases h
    simp; omega

end LM.G9

namespace LM.G9
open Go LM
variable {P : Nat → Option SFunc} [Has P]

def Str.is (s : Str) (x : Str) : Bool := x == s
theorem Str.is_eq (s x : Str) : Str.is s x = decide (x = s) := by unfold Str.is; by_cases h : x = s <;> simp [h]
theorem Str.is_eq' (s x : Str) : Str.is s x = decide (s = x) := by rw [Str.is_eq]; exact decide_eq_decide.2 eq_comm

theorem L154 (s : Str) : ∀ (l pre : List Str), ((pre ++ l).length : Int) < 9223372036854775807 →
    execS P (limS P) c154_l0 ⟨[.c (.slice ((pre ++ l).map CV.str)), .c (.str s), .c (ci (pre ++ l).length), .c (ci pre.length)], []⟩ = if l.any (Str.is s) then some (.ret, ⟨[.c (ci (idxF (Str.is s) pre.length l))], []⟩) else some (.exit 0, ⟨[], []⟩) := by
  intro l
  induction l with
  | nil =>
    intro pre h
    rw [r154_l0]
    simp [c154_l0b]
  | cons x r ih =>
    intro pre h
    have ih := ih (pre ++ [x]) (by simpa using h)
    simp at ih h
    have hw : IntKind.i64.wrap (↑pre.length + 1) = ↑pre.length + 1 := wrap64 (by omega) (by omega)
    have hlt : (pre.length : Int) < pre.length + (r.length + 1) := by omega
    have e := Str.is_eq' s x
    rw [r154_l0]
    by_cases h0 : s = x
    · simp only [h0, decide_true] at e
      simp [c154_l0b, hw, hlt, idxF, h0, e]
    · simp only [h0, decide_false] at e
      simp [c154_l0b, hw, hlt, idxF, h0, e, ih]

theorem S139 (s : Str) (l : List Str) (h : (l.length : Int) < 9223372036854775807) : fn P 139 [.slice (l.map CV.str), .str s] = some (.bool (l.any (Str.is s))) := by
  have hl := L154 (P := P) s l [] (by simpa using h)
  have h2 : fn P 154 [.slice (l.map CV.str), .str s] = some (ci (idxF (Str.is s) 0 l)) := by
    rw [u154]
    simp at hl
    simp [c154, hl]
    exact fun hx => (idxF_none (by simpa using hx)).symm
  rw [u139]
  simp [c139, h2, idxF_dec]

def once (pre : List Str) (s : Str) : Int := firstE [named s, whenE (pre.any (Str.is s)) 9]

theorem S104 (s : Str) (hs : s.length < 9223372036854775807) (pre : List Str) (h : (pre.length : Int) < 9223372036854775807) : fn P 104 [.str s, .slice (pre.map CV.str)] = some (ci (once pre s)) := by
  have h1 := S139 (P := P) s pre h
  rw [u104]
  simp [c104, hs, h1, once]

theorem L103 : ∀ (l pre : List Str), (∀ x ∈ l, x.length < 9223372036854775807) → ((pre ++ l).length : Int) < 9223372036854775807 →
    execS P (limS P) c103_l0 ⟨[.c (.slice ((pre ++ l).map CV.str)), .c (.func 104 [] []), .c (.slice ((pre ++ l).map CV.str)), .c (ci (pre ++ l).length), .c (ci pre.length)], []⟩ = if eachE once pre l = 0 then some (.exit 0, ⟨[], []⟩) else some (.ret, ⟨[.c (ci (eachE once pre l))], []⟩) := by
  intro l
  induction l with
  | nil =>
    intro pre hl h
    rw [r103_l0]
    simp [c103_l0b, eachE]
  | cons c r ih =>
    intro pre hl h
    have ih := ih (pre ++ [c]) (fun x hx => hl x (by simp [hx])) (by simpa using h)
    have hc := S104 (P := P) c (hl c (by simp)) pre (by simp at h; omega)
    have ht : List.take pre.length (List.map CV.str pre ++ CV.str c :: List.map CV.str r) = pre.map CV.str := by simp
    simp at ih h
    have hw : IntKind.i64.wrap (↑pre.length + 1) = ↑pre.length + 1 := wrap64 (by omega) (by omega)
    have hlt : (pre.length : Int) < pre.length + (r.length + 1) := by omega
    have hz : szFits 1 (List.map CV.str pre ++ CV.str c :: List.map CV.str r) = true := by cases pre <;> rfl
    have hb : (pre.length : Int) ≤ pre.length + (r.length + 1) := by omega
    rw [r103_l0]
    by_cases h0 : once pre c = 0
    · simp [c103_l0b, eachE, hw, hlt, hc, hz, hb, ht, h0, ih]
    · simp [c103_l0b, eachE, hw, hlt, hc, hz, hb, ht, h0]

def onceL (m : Int) (l : List Str) : Int := if (l.length : Int) > m then 5 else eachE once [] l

theorem S103 (l : List Str) (m : Int) (hl : ∀ x ∈ l, x.length < 9223372036854775807) (h : (l.length : Int) < 9223372036854775807) : fn P 103 [.slice (l.map CV.str), ci m, .func 104 [] []] = some (ci (onceL m l)) := by
  rw [u103]
  have this := L103 (P := P) l [] hl (by simpa using h)
  simp at this
  unfold onceL
  by_cases hm : (l.length : Int) > m
  · have hm' : m < (l.length : Int) := hm
    simp [c103, hm']
  · have hm' : ¬ m < (l.length : Int) := hm
    simp [c103, hm', this]
    by_cases h0 : eachE once [] l = 0 <;> simp [h0]

theorem L58 (s : Str) : ∀ (l pre : List Str), ((pre ++ l).length : Int) < 9223372036854775807 →
    execS P (limS P) c58_l0 ⟨[.c (.slice ((pre ++ l).map CV.str)), .c (.str s), .c (ci pre.length)], []⟩ = if l.any (Str.is s) then some (.ret, ⟨[.c (.bool true)], []⟩) else some (.exit 0, ⟨[], []⟩) := by
  intro l
  induction l with
  | nil =>
    intro pre h
    rw [r58_l0]
    simp [c58_l0b]
  | cons x r ih =>
    intro pre h
    have ih := ih (pre ++ [x]) (by simpa using h)
    simp at ih h
    have hw : IntKind.i64.wrap (↑pre.length + 1) = ↑pre.length + 1 := wrap64 (by omega) (by omega)
    have hlt : (pre.length : Int) < pre.length + (r.length + 1) := by omega
    have e := Str.is_eq s x
    rw [r58_l0]
    by_cases h0 : x = s
    · simp only [h0, decide_true] at e
      simp [c58_l0b, hw, hlt, h0, e]
    · simp only [h0, decide_false] at e
      simp [c58_l0b, hw, hlt, h0, e, ih]

theorem S58 (s : Str) (l : List Str) (h : (l.length : Int) < 9223372036854775807) : fn P 58 [.slice (l.map CV.str), .str s] = some (.bool (l.any (Str.is s))) := by
  have hl := L58 (P := P) s l [] (by simpa using h)
  simp [-List.any_eq_true] at hl
  rw [u58]
  cases h0 : l.any (Str.is s) <;> rw [h0] at hl <;> simp [c58, hl]

theorem once_eq (pre : List Str) (s : Str) : once pre s = if isName s = false then 8 else if pre.any (Str.is s) then 9 else 0 := by
  unfold once named whenE
  cases isName s <;> cases pre.any (Str.is s) <;> simp [firstE]

theorem L87 : ∀ (l pre : List Str), ((pre ++ l).length : Int) < 9223372036854775807 →
    execS P (limS P) c87_l0 ⟨[.c (.slice ((pre ++ l).map CV.str)), .c (ci pre.length)], []⟩ = if eachE once pre l = 0 then some (.exit 0, ⟨[], []⟩) else some (.ret, ⟨[.c (ci (eachE once pre l))], []⟩) := by
  intro l
  induction l with
  | nil =>
    intro pre h
    rw [r87_l0]
    simp [c87_l0b, eachE]
  | cons c r ih =>
    intro pre h
    have ih := ih (pre ++ [c]) (by simpa using h)
    have hc := S58 (P := P) c pre (by simp at h; omega)
    have ht : List.take pre.length (List.map CV.str pre ++ CV.str c :: List.map CV.str r) = pre.map CV.str := by simp
    have he := once_eq pre c
    simp at ih h
    have hw : IntKind.i64.wrap (↑pre.length + 1) = ↑pre.length + 1 := wrap64 (by omega) (by omega)
    have hlt : (pre.length : Int) < pre.length + (r.length + 1) := by omega
    have hz : szFits 1 (List.map CV.str pre ++ CV.str c :: List.map CV.str r) = true := by cases pre <;> rfl
    have hb : (pre.length : Int) ≤ pre.length + (r.length + 1) := by omega
    rw [r87_l0]
    cases h1 : isName c
    · rw [h1] at he
      simp [c87_l0b, eachE, hw, hlt, hz, hb, ht, h1, he]
    · cases h2 : pre.any (Str.is c)
      · rw [h1, h2] at he
        rw [h2] at hc
        simp at he
        simp [c87_l0b, eachE, hw, hlt, hz, hb, ht, h1, he, hc, ih]
      · rw [h1, h2] at he
        rw [h2] at hc
        simp at he
        simp [c87_l0b, eachE, hw, hlt, hz, hb, ht, h1, he, hc]

theorem S87 (l : List Str) (h : (l.length : Int) < 9223372036854775807) : fn P 87 [.slice (l.map CV.str)] = some (ci (eachE once [] l)) := by
  have this := L87 (P := P) l [] (by simpa using h)
  simp at this
  rw [u87]
  by_cases h0 : eachE once [] l = 0 <;> simp [c87, this, h0]

def shortS (s : Str) : Bool := decide (s.length ≤ 40)
theorem L84 (n : Int) : ∀ (l pre : List Str), ((pre ++ l).length : Int) < 9223372036854775807 →
    execS P (limS P) c84_l0 ⟨[.c (.slice ((pre ++ l).map CV.str)), .c (ci n), .c (ci pre.length)], []⟩ = if l.all shortS then some (.exit 0, ⟨[.c (.slice ((pre ++ l).map CV.str)), .c (ci n)], []⟩) else some (.ret, ⟨[.c (.bool false)], []⟩) := by
  intro l
  induction l with
  | nil =>
    intro pre h
    rw [r84_l0]
    simp [c84_l0b]
  | cons c r ih =>
    intro pre h
    have ih := ih (pre ++ [c]) (by simpa using h)
    simp [-List.all_eq_true] at ih h
    have hw : IntKind.i64.wrap (↑pre.length + 1) = ↑pre.length + 1 := wrap64 (by omega) (by omega)
    have hlt : (pre.length : Int) < pre.length + (r.length + 1) := by omega
    have e : shortS c = decide (c.length ≤ 40) := rfl
    have q : (40 : Int) < c.length ↔ ¬ c.length ≤ 40 := by omega
    rw [r84_l0]
    by_cases h0 : c.length ≤ 40 <;> simp [c84_l0b, hw, hlt, q, h0, e, ih, -List.all_eq_true, -Nat.not_le]

def shortL (l : List Str) (n : Int) : Bool := l.all shortS && decide ((l.length : Int) ≤ n)
theorem S84 (l : List Str) (n : Int) (h : (l.length : Int) < 9223372036854775807) : fn P 84 [.slice (l.map CV.str), ci n] = some (.bool (shortL l n)) := by
  have this := L84 (P := P) n l [] (by simpa using h)
  simp [-List.all_eq_true] at this
  rw [u84]
  unfold shortL
  cases h0 : l.all shortS <;> rw [h0] at this <;> simp [c84, this]

end LM.G9

namespace LM.G9
open Go LM
variable {P : Nat → Option SFunc} [Has P]

def cI (xs : List Int) : List LV := xs.map fun v => LV.c (ci v)
theorem cI_length (xs : List Int) : (cI xs).length = xs.length := by simp [cI]
theorem cI_get {xs : List Int} {i : Nat} (h : i < xs.length) : (cI xs)[i]'(by rw [cI_length]; exact h) = .c (ci (xs.getD i 0)) := by
  simp [cI, List.getD_eq_getElem?_getD, h]
theorem cI_set (xs : List Int) (i : Nat) (v : Int) : (cI xs).set i (.c (ci v)) = cI (xs.set i v) := by
  unfold cI
  rw [List.map_set]
theorem cellsOf_ints (xs : List Int) : cellsOf (xs.map ci) = cI xs := by
  induction xs with
  | nil => rfl
  | cons x r ih =>
    have : cellsOf ((x :: r).map ci) = .c (ci x) :: cellsOf (r.map ci) := rfl
    rw [this, ih]
    rfl
theorem intElems (l : List Int) : ∀ x ∈ l.map ci, Elem none x := by
  intro x hx
  obtain ⟨y, _, rfl⟩ := List.mem_map.1 hx
  exact ⟨rfl, rfl⟩
theorem under_cI (n : Nat) (xs : List Int) : underL n (cI xs) = true := by rw [← cellsOf_ints]; exact underL_cellsOf _ _

theorem shift_cI (n : Nat) : ∀ xs : List Int, shiftL n (cI xs) = cI xs
  | [] => rfl
  | x :: r => by
    have : cI (x :: r) = .c (ci x) :: cI r := rfl
    rw [this, shiftL, shift_cI n r]
    rfl

def sw (xs : List Int) (i k : Nat) : List Int := (xs.set i (xs.getD k 0)).set k (xs.getD i 0)
theorem sw_length (xs : List Int) (i k : Nat) : (sw xs i k).length = xs.length := by simp [sw]

def nextX (x : Int) : Int := (48271 * x).tmod 2147483647
def drawN (n : Nat) : Nat → Nat → Int → List Int → List Int
  | 0, _, _, xs => xs
  | m + 1, i, x, xs => drawN n m (i + 1) (nextX x) (sw xs i (i + ((nextX x).tmod ((n : Int) - i)).toNat))
def iota (n : Nat) : List Int := (List.range n).map fun (k : Nat) => (k : Int)
def drawL (key : Int) (n : Nat) : List Int := drawN n (n - 1) 0 key (iota n)
theorem iota_length (n : Nat) : (iota n).length = n := by simp [iota]
theorem drawN_length (n : Nat) : ∀ (m i : Nat) (x : Int) (xs : List Int), (drawN n m i x xs).length = xs.length
  | 0, _, _, _ => rfl
  | m + 1, i, x, xs => by rw [drawN, drawN_length, sw_length]
theorem drawL_length (key : Int) (n : Nat) : (drawL key n).length = n := by rw [drawL, drawN_length, iota_length]

theorem nextX_range {x : Int} (h0 : 0 ≤ x) (h1 : x ≤ 2147483646) : 0 ≤ nextX x ∧ nextX x ≤ 2147483646 := by
  unfold nextX
  rw [Int.tmod_eq_emod_of_nonneg (by omega)]
  omega
theorem step_range {x : Int} {n i : Nat} (h0 : 0 ≤ x) (hi : i < n) : 0 ≤ x.tmod ((n : Int) - i) ∧ x.tmod ((n : Int) - i) < (n : Int) - i := by
  rw [Int.tmod_eq_emod_of_nonneg h0]
  exact ⟨Int.emod_nonneg _ (by omega), Int.emod_lt_of_pos _ (by omega)⟩

theorem sw_mem {xs : List Int} {i k : Nat} (hi : i < xs.length) (hk : k < xs.length) : ∀ v ∈ sw xs i k, v ∈ xs := by
  intro v hv
  unfold sw at hv
  rcases List.mem_or_eq_of_mem_set hv with h | h
  · rcases List.mem_or_eq_of_mem_set h with h | h
    · exact h
    · rw [h, List.getD_eq_getElem?_getD, List.getElem?_eq_getElem hk]; exact List.getElem_mem hk
  · rw [h, List.getD_eq_getElem?_getD, List.getElem?_eq_getElem hi]; exact List.getElem_mem hi

theorem drawN_mem (n : Nat) : ∀ (m i : Nat) (x : Int) (xs : List Int), i + m < n → 0 ≤ x → x ≤ 2147483646 → xs.length = n → ∀ v ∈ drawN n m i x xs, v ∈ xs
  | 0, _, _, _, _, _, _, _, v, hv => hv
  | m + 1, i, x, xs, hm, h0, h1, hl, v, hv => by
    rw [drawN] at hv
    have hx := nextX_range h0 h1
    have hs := step_range (n := n) (i := i) hx.1 (by omega)
    have := drawN_mem n m (i + 1) _ _ (by omega) hx.1 hx.2 (by rw [sw_length, hl]) v hv
    exact sw_mem (by omega) (by omega) v this

theorem drawL_range {key : Int} {n : Nat} (h0 : 1 ≤ key) (h1 : key ≤ 2147483646) : ∀ v ∈ drawL key n, 0 ≤ v ∧ v < n := by
  intro v hv
  unfold drawL at hv
  have hv : v ∈ iota n := by
    rcases Nat.eq_zero_or_pos n with h | h
    · subst h; exact hv
    · exact drawN_mem n (n - 1) 0 key _ (by omega) (by omega) h1 (iota_length n) v hv
  unfold iota at hv
  obtain ⟨k, hk, rfl⟩ := List.mem_map.1 hv
  have := List.mem_range.1 hk
  omega

theorem L90_1 (n : Nat) (hn : n ≤ 256) (cap : Option Nat) : ∀ (m i : Nat) (x : Int) (xs : List Int), i + m + 1 = n → 0 ≤ x → x ≤ 2147483646 → xs.length = n →
    execS P (limS P) c90_l1 ⟨[.c (ci n), .slice 1 1 0 n none cap, .c (ci x), .c (ci i)], [.cells 1 [] 0, .cells 1 (cI xs) 0]⟩ =
      some (.exit 2, ⟨[.slice 1 1 0 n none cap], [.cells 1 [] 0, .cells 1 (cI (drawN n m i x xs)) 0]⟩) := by
  intro m
  induction m with
  | zero =>
    intro i x xs hm h0 h1 hl
    have hw : IntKind.i64.wrap ((n : Int) - 1) = (n : Int) - 1 := wrap64 (by omega) (by omega)
    have hlt : ¬ (i : Int) < (n : Int) - 1 := by omega
    rw [r90_l1]
    simp [c90_l1b, hw, hlt, drawN]
  | succ m ih =>
    intro i x xs hm h0 h1 hl
    have hx := nextX_range h0 h1
    have hs := step_range (n := n) (i := i) hx.1 (by omega)
    have ih := ih (i + 1) (nextX x) (sw xs i (i + ((nextX x).tmod ((n : Int) - i)).toNat)) (by omega) hx.1 hx.2 (by rw [sw_length, hl])
    obtain ⟨k, hk⟩ : ∃ k : Nat, (nextX x).tmod ((n : Int) - i) = (k : Int) := ⟨((nextX x).tmod ((n : Int) - i)).toNat, by omega⟩
    rw [hk] at ih hs
    have hw : IntKind.i64.wrap ((n : Int) - 1) = (n : Int) - 1 := wrap64 (by omega) (by omega)
    have hw1 : IntKind.i64.wrap (48271 * x) = 48271 * x := wrap64 (by omega) (by omega)
    have hw2 : (48271 * x).tmod 2147483647 = nextX x := rfl
    have hw3 : IntKind.i64.wrap ((n : Int) - i) = (n : Int) - i := wrap64 (by omega) (by omega)
    have hw4 : IntKind.i64.wrap (k : Int) = k := wrap64 (by omega) (by omega)
    have hw5 : IntKind.i64.wrap ((i : Int) + k) = (i : Int) + k := wrap64 (by omega) (by omega)
    have hw6 : IntKind.i64.wrap ((i : Int) + 1) = (i : Int) + 1 := wrap64 (by omega) (by omega)
    have hlt : (i : Int) < (n : Int) - 1 := by omega
    have hnz : ¬ (n : Int) - i = 0 := by omega
    have hi : i < n := by omega
    have hik : i + k < n := by omega
    have hi' : i < xs.length := by omega
    have hik' : i + k < xs.length := by omega
    have hkt : ((i : Int) + k).toNat = i + k := by omega
    have hk0 : 0 ≤ (i : Int) + k := by omega
    have hk1 : (i : Int) + k < n := by omega
    have hii : (i : Int) < n := by omega
    have g1 := cI_get hi'
    have g2 := cI_get hik'
    have e : drawN n (m + 1) i x xs = drawN n m (i + 1) (nextX x) (sw xs i (i + k)) := by rw [drawN, hk]; rfl
    simp [sw, hi', hik'] at ih
    have hi1 : i + 1 ≤ n := by omega
    have hik1 : i + k + 1 ≤ n := by omega
    rw [e]
    rw [r90_l1]
    simp [c90_l1b, hw, hw1, hw2, hw3, hw4, hw5, hw6, hlt, hk, hnz, hi, hik, hi', hik', hkt, hk0, hk1, hii, g1, g2, cI_length, cI_set, hl, under_cI, sw, hi1, hik1, ih]


theorem iota_set (n i : Nat) (h : i < n) : ((iota i) ++ List.replicate (n - i) 0).set i (i : Int) = iota (i + 1) ++ List.replicate (n - (i + 1)) 0 := by
  rw [List.set_append_right _ _ (by rw [iota_length]; exact Nat.le_refl _), iota_length, Nat.sub_self]
  have e : n - i = (n - (i + 1)) + 1 := by omega
  rw [e, List.replicate_succ, List.set_cons_zero]
  unfold iota
  rw [List.range_succ, List.map_append, List.append_assoc]
  rfl

theorem L90_0 (n : Nat) (key : Int) (hn : n ≤ 256) (cap : Option Nat) : ∀ (m i : Nat), i + m = n →
    execS P (limS P) c90_l0 ⟨[.c (ci key), .c (ci n), .slice 1 1 0 n none cap, .c (ci n), .c (ci i)], [.cells 1 [] 0, .cells 1 (cI (iota i ++ List.replicate (n - i) 0)) 0]⟩ =
      some (.exit 0, ⟨[.c (ci key), .c (ci n), .slice 1 1 0 n none cap], [.cells 1 [] 0, .cells 1 (cI (iota n)) 0]⟩) := by
  intro m
  induction m with
  | zero =>
    intro i hm
    simp at hm
    subst hm
    rw [r90_l0]
    simp [c90_l0b]
  | succ m ih =>
    intro i hm
    have ih := ih (i + 1) (by omega)
    have hs := iota_set n i (by omega)
    have hw : IntKind.i64.wrap ((i : Int) + 1) = (i : Int) + 1 := wrap64 (by omega) (by omega)
    have hlt : (i : Int) < n := by omega
    have hi : i < i + (n - i) := by omega
    simp at ih
    rw [r90_l0]
    have hni : ¬ n - i = 0 := by omega
    simp [c90_l0b, hw, hlt, hi, hni, cI_length, iota_length, cI_set, hs, under_cI, ih]

/-- The error of a draw. -/
def drawE (key : Int) (n : Int) : Int := if key < 1 ∨ key > 2147483646 ∨ n < 0 ∨ n > 256 then 3 else 0

theorem S96 (key n : Int) : fn P 96 [ci key, ci n] = some (ci (drawE key n)) := by
  rw [u96]
  unfold drawE
  by_cases h1 : key < 1 <;> by_cases h2 : 2147483646 < key <;> by_cases h3 : n < 0 <;> by_cases h4 : (256 : Int) < n <;> simp [c96, h1, h2, h3, h4]

theorem S90e (key n : Int) (h : drawE key n ≠ 0) : ffn P 90 [ci key, ci n] = some (.tuple [.slice 1 1 0 0 none none, .c (ci 3)], [.cells 1 [] 0, .cells 1 [] 0]) := by
  rw [u90]
  unfold drawE at h
  by_cases h1 : key < 1 <;> by_cases h2 : 2147483646 < key <;> by_cases h3 : n < 0 <;> by_cases h4 : (256 : Int) < n <;> simp [h1, h2, h3, h4] at h <;> simp [c90, h1, h2, h3, h4, mkTuple]

theorem S90 (key : Int) (n : Nat) (h : drawE key n = 0) : ffn P 90 [ci key, ci n] = some (.tuple [.slice 1 1 0 n none (some n), .c (ci 0)], [.cells 1 [] 0, .cells 1 (cI (drawL key n)) 0]) := by
  unfold drawE at h
  split at h
  · cases h
  · rename_i hx
    have h1 : ¬ key < 1 := fun e => hx (.inl e)
    have h2 : ¬ 2147483646 < key := fun e => hx (.inr (.inl e))
    have h3 : ¬ (n : Int) < 0 := by omega
    have h4 : ¬ (256 : Int) < n := fun e => hx (.inr (.inr (.inr e)))
    have l0 := L90_0 (P := P) n key (by omega) (some n) n 0 (by omega)
    have hz : cI (iota 0 ++ List.replicate (n - 0) 0) = List.replicate n (.c (ci 0)) := by simp [iota, cI]
    rw [hz] at l0
    simp at l0
    rw [u90]
    rcases Nat.eq_zero_or_pos n with hn | hn
    · subst hn
      have hw : IntKind.i64.wrap (-1) = -1 := wrap64 (by omega) (by omega)
      have l1 : execS P (limS P) c90_l1 ⟨[.c (ci 0), .slice 1 1 0 0 none (some 0), .c (ci key), .c (ci 0)], [.cells 1 [] 0, .cells 1 [] 0]⟩ = some (.exit 2, ⟨[.slice 1 1 0 0 none (some 0)], [.cells 1 [] 0, .cells 1 [] 0]⟩) := by
        rw [r90_l1]
        simp [c90_l1b, hw]
      have e : drawL key 0 = [] := rfl
      have e0 : cI (iota 0) = [] := rfl
      rw [e0] at l0
      simp at l0
      simp [c90, h1, h2, l0, l1, mkTuple, e, allC]
      rfl
    · have l1 := L90_1 (P := P) n (by omega) (some n) (n - 1) 0 key (iota n) (by omega) (by omega) (by omega) (iota_length n)
      simp at l1
      have q1 : (n : Int) * 8 ≤ 140737488355328 := by omega
      have q2 : (n : Int) ≤ 9223372036854775807 := by omega
      simp [c90, h1, h2, h4, l0, l1, q1, q2, mkTuple, drawL]

end LM.G9

namespace LM.G9
open Go LM
variable {P : Nat → Option SFunc} [Has P]

theorem L97_0 (key : Int) (n : Nat) (hn : n ≤ 256) : ∀ (m i : Nat), i + m = n →
    execS P (limS P) c97_l0 ⟨[.c (ci key), .c (ci n), .slice 1 (1 + i) 0 i none none, .c (ci i)], [.cells 1 [] 0, .cells (1 + i) (cI (iota i)) 0]⟩ =
      some (.exit 0, ⟨[.c (ci key), .c (ci n), .slice 1 (1 + n) 0 n none none], [.cells 1 [] 0, .cells (1 + n) (cI (iota n)) 0]⟩) := by
  intro m
  induction m with
  | zero =>
    intro i hm
    simp at hm
    subst hm
    rw [r97_l0]
    simp [c97_l0b]
  | succ m ih =>
    intro i hm
    have ih := ih (i + 1) (by omega)
    have ha := append_own (b := 1) (g := 1 + i) (bytes := 8) (e := none) (ys := (iota i).map ci) (xs := [ci i]) (h := [.cells 1 [] 0, .cells (1 + i) (cellsOf ((iota i).map ci)) 0]) (len := i) (fz := 0) rfl (intElems _) (intElems [(i : Int)]) (by simp [iota_length]) (Nat.zero_le _) (by simp) (by simp [iota_length]; omega) (by simp [iota_length]; omega)
    have e0 : (iota i).map ci ++ [ci i] = (iota (i + 1)).map ci := by
      unfold iota
      rw [List.range_succ, List.map_append, List.map_append]
      rfl
    rw [e0, cellsOf_ints, cellsOf_ints] at ha
    have e1 : 1 + (i + 1) = 1 + i + 1 := by omega
    rw [e1] at ih
    simp at ih ha
    have hw : IntKind.i64.wrap ((i : Int) + 1) = (i : Int) + 1 := wrap64 (by omega) (by omega)
    have hlt : (i : Int) < n := by omega
    rw [r97_l0]
    simp [c97_l0b, hw, hlt, ha, under_cI, ih]

theorem L97_1 (n : Nat) (hn : n ≤ 256) (g : Nat) : ∀ (m i : Nat) (x : Int) (xs : List Int), i + m + 1 = n → 0 ≤ x → x ≤ 2147483646 → xs.length = n →
    execS P (limS P) c97_l1 ⟨[.c (ci x), .c (ci n), .slice 1 g 0 n none none, .c (ci i)], [.cells 1 [] 0, .cells g (cI xs) 0]⟩ =
      some (.exit 2, ⟨[.slice 1 g 0 n none none], [.cells 1 [] 0, .cells g (cI (drawN n m i x xs)) 0]⟩) := by
  intro m
  induction m with
  | zero =>
    intro i x xs hm h0 h1 hl
    have hw : IntKind.i64.wrap ((i : Int) + 1) = (i : Int) + 1 := wrap64 (by omega) (by omega)
    have hlt : ¬ (i : Int) + 1 < n := by omega
    rw [r97_l1]
    simp [c97_l1b, hw, hlt, drawN]
  | succ m ih =>
    intro i x xs hm h0 h1 hl
    have hx := nextX_range h0 h1
    have hs := step_range (n := n) (i := i) hx.1 (by omega)
    have ih := ih (i + 1) (nextX x) (sw xs i (i + ((nextX x).tmod ((n : Int) - i)).toNat)) (by omega) hx.1 hx.2 (by rw [sw_length, hl])
    obtain ⟨k, hk⟩ : ∃ k : Nat, (nextX x).tmod ((n : Int) - i) = (k : Int) := ⟨((nextX x).tmod ((n : Int) - i)).toNat, by omega⟩
    rw [hk] at ih hs
    have hw1 : IntKind.i64.wrap (48271 * x) = 48271 * x := wrap64 (by omega) (by omega)
    have hw2 : (48271 * x).tmod 2147483647 = nextX x := rfl
    have hw3 : IntKind.i64.wrap ((n : Int) - i) = (n : Int) - i := wrap64 (by omega) (by omega)
    have hw5 : IntKind.i64.wrap ((i : Int) + k) = (i : Int) + k := wrap64 (by omega) (by omega)
    have hw6 : IntKind.i64.wrap ((i : Int) + 1) = (i : Int) + 1 := wrap64 (by omega) (by omega)
    have hlt : (i : Int) + 1 < n := by omega
    have hnz : ¬ (n : Int) - i = 0 := by omega
    have hi : i < n := by omega
    have hik : i + k < n := by omega
    have hi' : i < xs.length := by omega
    have hik' : i + k < xs.length := by omega
    have hkt : ((i : Int) + k).toNat = i + k := by omega
    have hk0 : 0 ≤ (i : Int) + k := by omega
    have hk1 : (i : Int) + k < n := by omega
    have hii : (i : Int) < n := by omega
    have g1 := cI_get hi'
    have g2 := cI_get hik'
    have e : drawN n (m + 1) i x xs = drawN n m (i + 1) (nextX x) (sw xs i (i + k)) := by rw [drawN, hk]; rfl
    simp [sw, hi', hik'] at ih
    have hi1 : i + 1 ≤ n := by omega
    have hik1 : i + k + 1 ≤ n := by omega
    rw [e]
    rw [r97_l1]
    simp [c97_l1b, hw1, hw2, hw3, hw5, hw6, hlt, hk, hnz, hi, hik, hi', hik', hkt, hk0, hk1, hii, g1, g2, cI_length, cI_set, hl, under_cI, sw, hi1, hik1, ih]

theorem S97 (key : Int) (n : Nat) (h : drawE key n = 0) : fn P 97 [ci key, ci n] = some (.slice ((drawL key n).map ci)) := by
  unfold drawE at h
  split at h
  · cases h
  · rename_i hx
    have h1 : ¬ key < 1 := fun e => hx (.inl e)
    have h2 : ¬ 2147483646 < key := fun e => hx (.inr (.inl e))
    have h4 : ¬ (256 : Int) < n := fun e => hx (.inr (.inr (.inr e)))
    have l0 := L97_0 (P := P) key n (by omega) n 0 (by omega)
    have e0 : cI (iota 0) = [] := rfl
    rw [e0] at l0
    simp at l0
    have hf := resV_own1 (b := 1) (g := 1 + n) (fz := 0) (e := none) (ys := (drawL key n).map ci) (h := [.cells 1 [] 0, .cells (1 + n) (cellsOf ((drawL key n).map ci)) 0]) (len := n) rfl (intElems _) (by simp [drawL_length]) none
    rw [cellsOf_ints] at hf
    rw [u97]
    rcases Nat.eq_zero_or_pos n with hn | hn
    · subst hn
      have l1 : execS P (limS P) c97_l1 ⟨[.c (ci key), .c (ci 0), .slice 1 1 0 0 none none, .c (ci 0)], [.cells 1 [] 0, .cells 1 [] 0]⟩ = some (.exit 2, ⟨[.slice 1 1 0 0 none none], [.cells 1 [] 0, .cells 1 [] 0]⟩) := by
        have hw : IntKind.i64.wrap 1 = 1 := wrap64 (by omega) (by omega)
        rw [r97_l1]
        simp [c97_l1b, hw]
      have e : drawL key 0 = [] := rfl
      have e1 : cI [] = [] := rfl
      rw [e0] at l0
      simp at l0
      simp [c97, l0, l1, e]
    · have l1 := L97_1 (P := P) n (by omega) (1 + n) (n - 1) 0 key (iota n) (by omega) (by omega) (by omega) (iota_length n)
      simp at l1
      have e : drawN n (n - 1) 0 key (iota n) = drawL key n := rfl
      rw [e] at l1
      simp [c97, l0, l1, hf]

structure Pck where
  count : Int
  spare : Int
  key : Int
def Pck.enc (p : Pck) : CV := .agg [ci p.count, ci p.spare, ci p.key]
def pickE (p : Pck) : Int := if outside p.count 0 160 || outside p.spare 0 99999 then 3 else drawE p.key 0
theorem drawE_cases (key n : Int) : drawE key n = 0 ∨ drawE key n = 3 := by unfold drawE; split <;> simp

theorem S35 (p : Pck) : fn P 35 [p.enc] = some (ci (pickE p)) := by
  have h := S96 (P := P) p.key 0
  rw [u35]
  unfold pickE
  cases h1 : outside p.count 0 160 <;> cases h2 : outside p.spare 0 99999 <;> simp [c35, Pck.enc, h, h1, h2]

theorem S89 (p : Pck) : fn P 89 [p.enc] = some (ci (pickE p)) := by
  rw [u89]
  unfold pickE
  rcases drawE_cases p.key 0 with h | h
  · have e := S90 (P := P) p.key 0 h
    simp at e
    cases h1 : outside p.count 0 160 <;> cases h2 : outside p.spare 0 99999 <;> simp [c89, Pck.enc, e, h, h1, h2, whenE, LV.shift, shiftL, shiftB, LB.shift, shift_cI]
  · have e := S90e (P := P) p.key 0 (by rw [h]; omega)
    cases h1 : outside p.count 0 160 <;> cases h2 : outside p.spare 0 99999 <;> simp [c89, Pck.enc, e, h, h1, h2, whenE, LV.shift, shiftL, shiftB, LB.shift]

theorem S88 (l : List Str) (hl : ∀ x ∈ l, x.length < 9223372036854775807) (h : (l.length : Int) < 9223372036854775807) : fn P 88 [.slice (l.map CV.str)] = some (ci (onceL 160 l)) := by
  have e := S103 (P := P) l 160 hl h
  rw [u88]
  simp [c88, e]

theorem S32 (l : List Str) (h : (l.length : Int) < 9223372036854775807) : fn P 32 [.slice (l.map CV.str)] = some (ci (onceL 160 l)) := by
  have e := S87 (P := P) l h
  rw [u32]
  unfold onceL
  by_cases h1 : (160 : Int) < l.length <;> simp [c32, e, h1]

end LM.G9

namespace LM.G9
open Go LM
variable {P : Nat → Option SFunc} [Has P]

structure Clm where
  name : Str
  nation : Str
  born : Int
  cat : Str
def Clm.enc (x : Clm) : CV := .agg [.str x.name, .str x.nation, ci x.born, .str x.cat]
def Clm.ptr (x : Clm) : CV := .ptr [.str x.name, .str x.nation, ci x.born, .str x.cat] 0
def Clm.ok (x : Clm) : Prop := x.name.length < 9223372036854775807 ∧ x.nation.length < 9223372036854775807 ∧ x.cat.length < 9223372036854775807

def Clm.is (n : Str) (x : Clm) : Bool := x.name == n

theorem S146 (x c : Clm) : fn P 146 [x.enc, c.ptr] = some (.bool (Clm.is c.name x)) := by
  rw [u146]
  simp [c146, Clm.enc, Clm.ptr, Clm.is]

theorem L162 (c : Clm) : ∀ (l pre : List Clm), ((pre ++ l).length : Int) < 9223372036854775807 →
    execS P (limS P) c162_l0 ⟨[.c (.slice ((pre ++ l).map Clm.enc)), .c (.func 146 [] [c.ptr]), .c (ci (pre ++ l).length), .c (ci pre.length)], []⟩ = if l.any (Clm.is c.name) then some (.ret, ⟨[.c (ci (idxF (Clm.is c.name) pre.length l))], []⟩) else some (.exit 0, ⟨[], []⟩) := by
  intro l
  induction l with
  | nil =>
    intro pre h
    rw [r162_l0]
    simp [c162_l0b]
  | cons x r ih =>
    intro pre h
    have ih := ih (pre ++ [x]) (by simpa using h)
    have hc := S146 (P := P) x c
    simp [Clm.enc] at ih h hc
    have hw : IntKind.i64.wrap (↑pre.length + 1) = ↑pre.length + 1 := wrap64 (by omega) (by omega)
    have hlt : (pre.length : Int) < pre.length + (r.length + 1) := by omega
    rw [r162_l0]
    cases h0 : Clm.is c.name x
    · simp [c162_l0b, hw, hlt, Clm.enc, hc, idxF, h0, ih]
    · simp [c162_l0b, hw, hlt, Clm.enc, hc, idxF, h0]

theorem S145 (c : Clm) (l : List Clm) (h : (l.length : Int) < 9223372036854775807) : fn P 145 [.slice (l.map Clm.enc), .func 146 [] [c.ptr]] = some (.bool (l.any (Clm.is c.name))) := by
  have hl := L162 (P := P) c l [] (by simpa using h)
  have h2 : fn P 162 [.slice (l.map Clm.enc), .func 146 [] [c.ptr]] = some (ci (idxF (Clm.is c.name) 0 l)) := by
    rw [u162]
    simp at hl
    simp [c162, hl]
    exact fun hx => (idxF_none (by simpa using hx)).symm
  rw [u145]
  simp [c145, h2, idxF_dec]

/-- A climber's error behind others. -/
def checkClm (pre : List Clm) (x : Clm) : Int := firstE [named x.name, named x.nation, named x.cat, whenE (pre.any (Clm.is x.name)) 9, dated x.born]

theorem S123 (x : Clm) (hx : x.ok) (pre : List Clm) (h : (pre.length : Int) < 9223372036854775807) : fn P 123 [x.enc, .slice (pre.map Clm.enc)] = some (ci (checkClm pre x)) := by
  have hs := S145 (P := P) x pre h
  rw [u123]
  simp [Clm.ptr] at hs
  obtain ⟨h1, h2, h3⟩ := hx
  simp [c123, Clm.enc, hs, h1, h2, h3, checkClm, frzArgs_cons]

theorem L122 : ∀ (l pre : List Clm), (∀ x ∈ l, x.ok) → ((pre ++ l).length : Int) < 9223372036854775807 →
    ∃ h', execS P (limS P) c122_l0 ⟨[.c (.slice ((pre ++ l).map Clm.enc)), .c (.func 123 [] []), .c (.slice ((pre ++ l).map Clm.enc)), .c (ci (pre ++ l).length), .c (ci pre.length)], []⟩ = if eachE checkClm pre l = 0 then some (.exit 0, ⟨[], []⟩) else some (.ret, ⟨[.c (ci (eachE checkClm pre l))], h'⟩) := by
  intro l
  induction l with
  | nil =>
    intro pre hl h
    rw [r122_l0]
    exact ⟨[], by simp [c122_l0b, eachE]⟩
  | cons c r ih =>
    intro pre hl h
    obtain ⟨h', ih⟩ := ih (pre ++ [c]) (fun x hx => hl x (by simp [hx])) (by simpa using h)
    have hc := S123 (P := P) c (hl c (by simp)) pre (by simp at h; omega)
    have ht : List.take pre.length (List.map Clm.enc pre ++ c.enc :: List.map Clm.enc r) = pre.map Clm.enc := by simp
    simp [Clm.enc] at ih h hc ht
    have hw : IntKind.i64.wrap (↑pre.length + 1) = ↑pre.length + 1 := wrap64 (by omega) (by omega)
    have hlt : (pre.length : Int) < pre.length + (r.length + 1) := by omega
    have hz : szFits 4 (List.map Clm.enc pre ++ CV.agg [CV.str c.name, CV.str c.nation, ci c.born, CV.str c.cat] :: List.map Clm.enc r) = true := by cases pre <;> rfl
    have hb : (pre.length : Int) ≤ pre.length + (r.length + 1) := by omega
    rw [r122_l0]
    by_cases h0 : checkClm pre c = 0
    · refine ⟨h', ?_⟩
      simp [c122_l0b, eachE, hw, hlt, Clm.enc, hc, hz, hb, ht, h0, ih]
    · refine ⟨[LB.cells 0 [LV.c (CV.str c.name), LV.c (CV.str c.nation), LV.c (ci c.born), LV.c (CV.str c.cat)] 0], ?_⟩
      simp [c122_l0b, eachE, hw, hlt, Clm.enc, hc, hz, hb, ht, h0]

theorem S122 (l : List Clm) (m : Int) (hl : ∀ x ∈ l, x.ok) (h : (l.length : Int) < 9223372036854775807) : fn P 122 [.slice (l.map Clm.enc), ci m, .func 123 [] []] = some (ci (if (l.length : Int) > m then 5 else eachE checkClm [] l)) := by
  rw [u122]
  obtain ⟨h', this⟩ := L122 (P := P) l [] hl (by simpa using h)
  simp at this
  by_cases hm : (l.length : Int) > m
  · have hm' : m < (l.length : Int) := hm
    simp [c122, hm']
  · have hm' : ¬ m < (l.length : Int) := hm
    simp [c122, hm', this]
    by_cases h0 : eachE checkClm [] l = 0 <;> simp [h0]

def checkClms (l : List Clm) : Int := if (l.length : Int) > 160 then 5 else eachE checkClm [] l

@[simp] theorem S63 (l : List Clm) (hl : ∀ x ∈ l, x.ok) (h : (l.length : Int) < 9223372036854775807) : fn P 63 [.slice (l.map Clm.enc)] = some (ci (checkClms l)) := by
  rw [u63]
  have := S122 (P := P) l 160 hl h
  simp [c63, this, checkClms]

end LM.G9

namespace LM.G9
open Go LM
variable {P : Nat → Option SFunc} [Has P]

structure Tst where
  name : Str
  day : Int
def Tst.enc (x : Tst) : CV := .agg [.str x.name, ci x.day]
def Tst.ptr (x : Tst) : CV := .ptr [.str x.name, ci x.day] 0
def Tst.ok (x : Tst) : Prop := x.name.length < 9223372036854775807
theorem Tst.elem (x : Tst) : Elem (some 2) x.enc := ⟨_, rfl, rfl, by simp⟩
theorem Tst.elems (l : List Tst) : ∀ x ∈ l.map Tst.enc, Elem (some 2) x := by
  intro x hx
  obtain ⟨y, _, rfl⟩ := List.mem_map.1 hx
  exact y.elem

/-- A test's error. -/
def checkTst (x : Tst) : Int := firstE [named x.name, dated x.day]

theorem S86 (x : Tst) (hx : x.ok) (pre : List Tst) (_ : (pre.length : Int) < 9223372036854775807) : fn P 86 [x.enc, .slice (pre.map Tst.enc)] = some (ci (checkTst x)) := by
  rw [u86]
  unfold Tst.ok at hx
  simp [c86, Tst.enc, hx, checkTst]

theorem L85 : ∀ (l pre : List Tst), (∀ x ∈ l, x.ok) → ((pre ++ l).length : Int) < 9223372036854775807 →
    ∃ h', execS P (limS P) c85_l0 ⟨[.c (.slice ((pre ++ l).map Tst.enc)), .c (.func 86 [] []), .c (.slice ((pre ++ l).map Tst.enc)), .c (ci (pre ++ l).length), .c (ci pre.length)], []⟩ = if eachE (fun _ => checkTst) pre l = 0 then some (.exit 0, ⟨[], []⟩) else some (.ret, ⟨[.c (ci (eachE (fun _ => checkTst) pre l))], h'⟩) := by
  intro l
  induction l with
  | nil =>
    intro pre hl h
    rw [r85_l0]
    exact ⟨[], by simp [c85_l0b, eachE]⟩
  | cons c r ih =>
    intro pre hl h
    obtain ⟨h', ih⟩ := ih (pre ++ [c]) (fun x hx => hl x (by simp [hx])) (by simpa using h)
    have hc := S86 (P := P) c (hl c (by simp)) pre (by simp at h; omega)
    have ht : List.take pre.length (List.map Tst.enc pre ++ c.enc :: List.map Tst.enc r) = pre.map Tst.enc := by simp
    simp [Tst.enc] at ih h hc ht
    have hw : IntKind.i64.wrap (↑pre.length + 1) = ↑pre.length + 1 := wrap64 (by omega) (by omega)
    have hlt : (pre.length : Int) < pre.length + (r.length + 1) := by omega
    have hz : szFits 2 (List.map Tst.enc pre ++ CV.agg [CV.str c.name, ci c.day] :: List.map Tst.enc r) = true := by cases pre <;> rfl
    have hb : (pre.length : Int) ≤ pre.length + (r.length + 1) := by omega
    rw [r85_l0]
    by_cases h0 : (fun _ => checkTst) pre c = 0
    · refine ⟨h', ?_⟩
      simp [c85_l0b, eachE, hw, hlt, Tst.enc, hc, hz, hb, ht, h0, ih]
    · refine ⟨[LB.cells 0 [LV.c (CV.str c.name), LV.c (ci c.day)] 0], ?_⟩
      simp [c85_l0b, eachE, hw, hlt, Tst.enc, hc, hz, hb, ht, h0]

theorem S85 (l : List Tst) (m : Int) (hl : ∀ x ∈ l, x.ok) (h : (l.length : Int) < 9223372036854775807) : fn P 85 [.slice (l.map Tst.enc), ci m, .func 86 [] []] = some (ci (if (l.length : Int) > m then 5 else eachE (fun _ => checkTst) [] l)) := by
  rw [u85]
  obtain ⟨h', this⟩ := L85 (P := P) l [] hl (by simpa using h)
  simp at this
  by_cases hm : (l.length : Int) > m
  · have hm' : m < (l.length : Int) := hm
    simp [c85, hm']
  · have hm' : ¬ m < (l.length : Int) := hm
    simp [c85, hm', this]
    by_cases h0 : eachE (fun _ => checkTst) [] l = 0 <;> simp [h0]

def checkTsts (l : List Tst) : Int := if (l.length : Int) > 256 then 5 else eachE (fun _ => checkTst) [] l

@[simp] theorem S30 (l : List Tst) (hl : ∀ x ∈ l, x.ok) (h : (l.length : Int) < 9223372036854775807) : fn P 30 [.slice (l.map Tst.enc)] = some (ci (checkTsts l)) := by
  rw [u30]
  have := S85 (P := P) l 256 hl h
  simp [c30, this, checkTsts]

theorem L28 : ∀ (l pre : List Tst), (pre ++ l).length * 24 ≤ 2 ^ 47 →
    execS P (limS P) c28_l0 ⟨[.c (.slice ((pre ++ l).map Tst.enc)), .slice 1 (1 + pre.length) 0 pre.length (some 2) none, .c (ci pre.length)], [.cells 1 [] 0, .cells (1 + pre.length) (cellsOf (pre.map Tst.enc)) 0]⟩ =
      some (.exit 0, ⟨[.slice 1 (1 + (pre ++ l).length) 0 (pre ++ l).length (some 2) none], [.cells 1 [] 0, .cells (1 + (pre ++ l).length) (cellsOf ((pre ++ l).map Tst.enc)) 0]⟩) := by
  intro l
  induction l with
  | nil =>
    intro pre h
    rw [r28_l0]
    simp [c28_l0b]
  | cons c r ih =>
    intro pre h
    have ih := ih (pre ++ [c]) (by simpa using h)
    have ha := append_own (b := 1) (g := 1 + pre.length) (bytes := 24) (e := some 2) (ys := pre.map Tst.enc) (xs := [c.enc]) (h := [.cells 1 [] 0, .cells (1 + pre.length) (cellsOf (pre.map Tst.enc)) 0]) (len := pre.length) (fz := 0) rfl (Tst.elems _) (by simpa using c.elem) (by simp) (Nat.zero_le _) (by simp) (by simp at h ⊢; omega) (by simp at h ⊢; omega)
    simp at h
    simp [Tst.enc] at ih ha
    have hw : IntKind.i64.wrap (↑pre.length + 1) = ↑pre.length + 1 := wrap64 (by omega) (by omega)
    have hlt : (pre.length : Int) < pre.length + (r.length + 1) := by omega
    have e1 : 1 + (pre.length + 1) = 1 + pre.length + 1 := by omega
    rw [r28_l0]
    rw [e1] at ih
    simp [c28_l0b, Tst.enc, hw, hlt, ha, ih]

@[simp] theorem S28 (l : List Tst) (h : l.length * 24 ≤ 2 ^ 47) : fn P 28 [.slice (l.map Tst.enc)] = some (.slice (l.map Tst.enc)) := by
  rw [u28]
  have := L28 (P := P) l [] (by simpa using h)
  have hf := frz_own (b := 1) (g := 1 + l.length) (fz := 0) (e := some 2) (ys := l.map Tst.enc) (h := [.cells 1 [] 0, .cells (1 + l.length) (cellsOf (l.map Tst.enc)) 0]) (len := l.length) rfl (Tst.elems _) (by simp) none
  simp at this
  simp [c28, this, resV, hf, -frz_slice]

end LM.G9

namespace LM.G9
open Go LM

theorem strElem (s : Str) : Elem none (CV.str s) := ⟨rfl, rfl⟩
theorem strElems (l : List Str) : ∀ x ∈ l.map CV.str, Elem none x := by
  intro x hx
  obtain ⟨y, _, rfl⟩ := List.mem_map.1 hx
  exact strElem y

end LM.G9

namespace LM.G9
open Go LM

def lastF (name : Str) (a b : Int) (acc : Int) (x : Tst) : Int := if x.name = name ∧ a ≤ x.day ∧ x.day ≤ b then max acc x.day else acc
/-- The day of the last test of a climber from a day to another one, or -1. -/
def lastT (l : List Tst) (name : Str) (a b : Int) : Int := l.foldl (lastF name a b) (-1)
def lateL (c : List Str) (l : List Tst) (days day : Int) : List Str := c.filter fun s => decide (lastT l s (day - days) day < 0)
end LM.G9

namespace LM.G9
open Go LM
variable {P : Nat → Option SFunc} [Has P]

theorem checkTst_eq (x : Tst) : checkTst x = if isName x.name = false then 8 else if outside x.day 0 99999 then 3 else 0 := by
  unfold checkTst named dated whenE
  cases isName x.name <;> cases outside x.day 0 99999 <;> simp [firstE]

theorem L31 : ∀ (l pre : List Tst), ((pre ++ l).length : Int) < 9223372036854775807 →
    execS P (limS P) c31_l0 ⟨[.c (.slice ((pre ++ l).map Tst.enc)), .c (ci pre.length)], []⟩ = if eachE (fun _ => checkTst) pre l = 0 then some (.exit 0, ⟨[], []⟩) else some (.ret, ⟨[.c (ci (eachE (fun _ => checkTst) pre l))], []⟩) := by
  intro l
  induction l with
  | nil =>
    intro pre h
    rw [r31_l0]
    simp [c31_l0b, eachE]
  | cons c r ih =>
    intro pre h
    have ih := ih (pre ++ [c]) (by simpa using h)
    have he := checkTst_eq c
    simp [Tst.enc] at ih h
    have hw : IntKind.i64.wrap (↑pre.length + 1) = ↑pre.length + 1 := wrap64 (by omega) (by omega)
    have hlt : (pre.length : Int) < pre.length + (r.length + 1) := by omega
    rw [r31_l0]
    cases h1 : isName c.name <;> cases h2 : outside c.day 0 99999 <;> rw [h1, h2] at he <;> simp at he <;> simp [c31_l0b, hw, hlt, Tst.enc, eachE, he, h1, h2, ih]

@[simp] theorem S31 (l : List Tst) (h : (l.length : Int) < 9223372036854775807) : fn P 31 [.slice (l.map Tst.enc)] = some (ci (checkTsts l)) := by
  rw [u31]
  have := L31 (P := P) l [] (by simpa using h)
  simp at this
  unfold checkTsts
  by_cases h1 : (256 : Int) < l.length
  · simp [c31, h1]
  · simp [c31, h1, this]
    by_cases h0 : eachE (fun _ => checkTst) [] l = 0 <;> simp [h0]

def Tst.short (x : Tst) : Bool := decide (x.name.length ≤ 40)
theorem L29 (C : CV) : ∀ (l pre : List Tst), ((pre ++ l).length : Int) < 9223372036854775807 →
    execS P (limS P) c29_l0 ⟨[.c C, .c (.slice ((pre ++ l).map Tst.enc)), .c (ci pre.length)], []⟩ = if l.all Tst.short then some (.exit 0, ⟨[.c C, .c (.slice ((pre ++ l).map Tst.enc))], []⟩) else some (.ret, ⟨[.c (.bool false)], []⟩) := by
  intro l
  induction l with
  | nil =>
    intro pre h
    rw [r29_l0]
    simp [c29_l0b]
  | cons c r ih =>
    intro pre h
    have ih := ih (pre ++ [c]) (by simpa using h)
    simp [Tst.enc, -List.all_eq_true] at ih h
    have hw : IntKind.i64.wrap (↑pre.length + 1) = ↑pre.length + 1 := wrap64 (by omega) (by omega)
    have hlt : (pre.length : Int) < pre.length + (r.length + 1) := by omega
    have e : Tst.short c = decide (c.name.length ≤ 40) := rfl
    have q1 : (40 : Int) < c.name.length ↔ ¬ c.name.length ≤ 40 := by omega
    rw [r29_l0]
    by_cases h1 : c.name.length ≤ 40 <;>
      simp [c29_l0b, hw, hlt, Tst.enc, q1, h1, e, ih, -List.all_eq_true, -Nat.not_le]

def shortTsts (c : List Str) (l : List Tst) : Bool := l.all Tst.short && (shortL c 163 && decide ((l.length : Int) ≤ 259))
theorem S29 (c : List Str) (l : List Tst) (hc : (c.length : Int) < 9223372036854775807) (h : (l.length : Int) < 9223372036854775807) : fn P 29 [.slice (c.map CV.str), .slice (l.map Tst.enc)] = some (.bool (shortTsts c l)) := by
  rw [u29]
  have this := L29 (P := P) (.slice (c.map CV.str)) l [] (by simpa using h)
  have h84 := S84 (P := P) c 163 hc
  simp [-List.all_eq_true] at this
  unfold shortTsts
  cases h0 : l.all Tst.short <;> rw [h0] at this
  · simp [c29, this]
  · cases h1 : shortL c 163 <;> rw [h1] at h84 <;> simp [c29, this, h84]

theorem L98 (name : Str) (a b : Int) : ∀ (l pre : List Tst) (acc : Int), ((pre ++ l).length : Int) < 9223372036854775807 →
    execS P (limS P) c98_l0 ⟨[.c (.slice ((pre ++ l).map Tst.enc)), .c (.str name), .c (ci a), .c (ci b), .c (ci acc), .c (ci pre.length)], []⟩ = some (.exit 0, ⟨[.c (ci (l.foldl (lastF name a b) acc))], []⟩) := by
  intro l
  induction l with
  | nil =>
    intro pre acc h
    rw [r98_l0]
    simp [c98_l0b]
  | cons c r ih =>
    intro pre acc h
    have ih := fun acc => ih (pre ++ [c]) acc (by simpa using h)
    simp [Tst.enc] at ih h
    have hw : IntKind.i64.wrap (↑pre.length + 1) = ↑pre.length + 1 := wrap64 (by omega) (by omega)
    have hlt : (pre.length : Int) < pre.length + (r.length + 1) := by omega
    have e : lastF name a b acc c = if c.name = name ∧ a ≤ c.day ∧ c.day ≤ b then max acc c.day else acc := rfl
    rw [r98_l0]
    by_cases h1 : c.name = name
    · subst h1
      by_cases h2 : a ≤ c.day
      · by_cases h3 : c.day ≤ b
        · have hm : (if acc < c.day then c.day else acc) = max acc c.day := by split <;> omega
          simp [h2, h3] at e
          simp [c98_l0b, hw, hlt, Tst.enc, h2, h3, e, foldInt, hm, ih]
        · simp [h2, h3] at e
          simp [c98_l0b, hw, hlt, Tst.enc, h2, h3, e, ih]
      · simp [h2] at e
        simp [c98_l0b, hw, hlt, Tst.enc, h2, e, ih]
    · simp [h1] at e
      simp [c98_l0b, hw, hlt, Tst.enc, h1, e, ih]

theorem S98 (l : List Tst) (name : Str) (a b : Int) (h : (l.length : Int) < 9223372036854775807) : fn P 98 [.slice (l.map Tst.enc), .str name, ci a, ci b] = some (ci (lastT l name a b)) := by
  have := L98 (P := P) name a b l [] (-1) (by simpa using h)
  simp at this
  rw [u98]
  simp [c98, this, lastT]

theorem L38 (l : List Tst) (hl : (l.length : Int) < 9223372036854775807) (days day : Int) (h0 : 0 ≤ days) (h1 : days ≤ 99999) (h2 : 0 ≤ day) (h3 : day ≤ 99999) : ∀ (c pre : List Str) (ys : List Str), ((pre ++ c).length : Int) < 9223372036854775807 → (ys.length + c.length) * 16 ≤ 2 ^ 47 →
    execS P (limS P) c38_l0 ⟨[.c (.slice ((pre ++ c).map CV.str)), .c (.slice (l.map Tst.enc)), .c (ci days), .c (ci day), .slice 1 (1 + ys.length) 0 ys.length none none, .c (ci pre.length)], [.cells 1 [] 0, .cells (1 + ys.length) (cellsOf (ys.map CV.str)) 0]⟩ =
      some (.exit 0, ⟨[.slice 1 (1 + (ys ++ lateL c l days day).length) 0 (ys ++ lateL c l days day).length none none], [.cells 1 [] 0, .cells (1 + (ys ++ lateL c l days day).length) (cellsOf ((ys ++ lateL c l days day).map CV.str)) 0]⟩) := by
  intro c
  induction c with
  | nil =>
    intro pre ys h _
    rw [r38_l0]
    simp [c38_l0b, lateL]
  | cons x r ih =>
    intro pre ys h hy
    have hw : IntKind.i64.wrap (↑pre.length + 1) = ↑pre.length + 1 := wrap64 (by simp at h; omega) (by simp at h; omega)
    have hw2 : IntKind.i64.wrap (day - days) = day - days := wrap64 (by omega) (by omega)
    have hlt : (pre.length : Int) < pre.length + (r.length + 1) := by omega
    have e98 := S98 (P := P) l x (day - days) day hl
    have e : lateL (x :: r) l days day = if lastT l x (day - days) day < 0 then x :: lateL r l days day else lateL r l days day := by
      unfold lateL
      rw [List.filter_cons]
      by_cases h : lastT l x (day - days) day < 0 <;> simp [h]
    rw [e, r38_l0]
    by_cases hx : lastT l x (day - days) day < 0
    · have ih := ih (pre ++ [x]) (ys ++ [x]) (by simpa using h) (by simp at hy ⊢; omega)
      have ha := append_own (b := 1) (g := 1 + ys.length) (bytes := 16) (e := none) (ys := ys.map CV.str) (xs := [.str x]) (h := [.cells 1 [] 0, .cells (1 + ys.length) (cellsOf (ys.map CV.str)) 0]) (len := ys.length) (fz := 0) rfl (strElems _) (by simpa using strElem x) (by simp) (Nat.zero_le _) (by simp) (by simp at hy ⊢; omega) (by simp at hy ⊢; omega)
      have e1 : 1 + (ys.length + 1) = 1 + ys.length + 1 := by omega
      simp at ih ha
      rw [e1] at ih
      simp [c38_l0b, hw, hw2, hlt, e98, hx, ha, ih]
    · have ih := ih (pre ++ [x]) ys (by simpa using h) (by simp at hy ⊢; omega)
      simp at ih
      simp [c38_l0b, hw, hw2, hlt, e98, hx, ih]

theorem S38 (c : List Str) (l : List Tst) (days day : Int) (hc : c.length * 16 ≤ 2 ^ 47) (hl : (l.length : Int) < 9223372036854775807) (h0 : 0 ≤ days) (h1 : days ≤ 99999) (h2 : 0 ≤ day) (h3 : day ≤ 99999) : fn P 38 [.slice (c.map CV.str), .slice (l.map Tst.enc), ci days, ci day] = some (.slice ((lateL c l days day).map CV.str)) := by
  rw [u38]
  have := L38 (P := P) l hl days day h0 h1 h2 h3 c [] [] (by simp; omega) (by simpa using hc)
  have hf := resV_own1 (b := 1) (g := 1 + (lateL c l days day).length) (fz := 0) (e := none) (ys := (lateL c l days day).map CV.str) (h := [.cells 1 [] 0, .cells (1 + (lateL c l days day).length) (cellsOf ((lateL c l days day).map CV.str)) 0]) (len := (lateL c l days day).length) rfl (strElems _) (by simp) none
  simp at this
  simp [c38, this, hf]

end LM.G9

namespace LM.G9
open Go LM
variable {P : Nat → Option SFunc} [Has P]

/-- A map from texts to numbers. -/
abbrev Mp := List (Str × Int)
def mKs (M : Mp) : List CV := M.map fun p => CV.str p.1
def mVs (M : Mp) : List CV := M.map fun p => ci p.2
def mIdx (k : Str) : Mp → Option Nat
  | [] => none
  | p :: r => if k = p.1 then some 0 else (mIdx k r).map (· + 1)
def mGet (k : Str) : Mp → Option Int
  | [] => none
  | p :: r => if k = p.1 then some p.2 else mGet k r
def mPut (M : Mp) (k : Str) (v : Int) : Mp := match mIdx k M with
  | some i => M.set i (k, v)
  | none => M ++ [(k, v)]

theorem findK_mp (k : Str) : ∀ M : Mp, findK (.one 1) (.str k) (mKs M) = some (mIdx k M)
  | [] => rfl
  | p :: r => by
    have ih := findK_mp k r
    unfold mKs at ih ⊢
    simp only [List.map_cons, findK]
    have e : eqK (.one 1) (.str k) (.str p.1) = some (decide (k = p.1)) := by by_cases h : k = p.1 <;> simp [eqK, keyOk, kindOf, eqS, h]
    rw [e, mIdx]
    by_cases h : k = p.1
    · simp [h]
    · simp only [h, decide_false, if_false]
      rw [ih]
      cases mIdx k r <;> rfl

theorem mIdx_some {k : Str} : ∀ {M : Mp} {i : Nat}, mIdx k M = some i → ∃ v, M[i]? = some (k, v) ∧ mGet k M = some v
  | [], _, h => by simp [mIdx] at h
  | p :: r, i, h => by
    rw [mIdx] at h
    split at h
    · rename_i hk
      simp at h
      subst h
      exact ⟨p.2, by simp [hk], by simp [mGet, hk]⟩
    · rename_i hk
      cases h2 : mIdx k r with
      | none => rw [h2] at h; simp at h
      | some i' =>
        rw [h2] at h
        simp at h
        subst h
        obtain ⟨v, h3, h4⟩ := mIdx_some h2
        exact ⟨v, by simpa using h3, by simp [mGet, hk, h4]⟩
theorem mIdx_none {k : Str} : ∀ {M : Mp}, mIdx k M = none → mGet k M = none
  | [], _ => rfl
  | p :: r, h => by
    rw [mIdx] at h
    split at h
    · cases h
    · rename_i hk
      cases h2 : mIdx k r with
      | none => rw [mGet, if_neg hk]; exact mIdx_none h2
      | some i' => rw [h2] at h; simp at h

theorem mGet_append (k k' : Str) (v : Int) : ∀ M : Mp, mGet k' (M ++ [(k, v)]) = match mGet k' M with
    | some w => some w
    | none => if k' = k then some v else none
  | [] => by simp [mGet]
  | p :: r => by
    simp only [List.cons_append, mGet]
    split
    · rfl
    · exact mGet_append k k' v r

theorem mGet_set {k : Str} (k' : Str) (v : Int) : ∀ {M : Mp} {i : Nat}, mIdx k M = some i → mGet k' (M.set i (k, v)) = if k' = k then some v else mGet k' M
  | [], _, h => by simp [mIdx] at h
  | p :: r, i, h => by
    rw [mIdx] at h
    split at h
    · rename_i hk
      simp at h
      subst h
      simp only [List.set_cons_zero, mGet]
      by_cases e : k' = k
      · simp [e]
      · have : ¬ k' = p.1 := by rw [← hk]; exact e
        simp [e, this]
    · rename_i hk
      cases h2 : mIdx k r with
      | none => rw [h2] at h; simp at h
      | some i' =>
        rw [h2] at h
        simp at h
        subst h
        have ih := mGet_set k' v h2
        simp only [List.set_cons_succ, mGet, ih]
        by_cases e : k' = p.1
        · have : ¬ k' = k := fun q => hk (by rw [← q, e])
          simp [e, this]
          intro q
          exact absurd (q ▸ rfl) hk
        · simp [e]

theorem mGet_put (M : Mp) (k k' : Str) (v : Int) : mGet k' (mPut M k v) = if k' = k then some v else mGet k' M := by
  unfold mPut
  cases h : mIdx k M with
  | some i => exact mGet_set k' v h
  | none =>
    have := mIdx_none h
    simp only
    rw [mGet_append]
    by_cases e : k' = k
    · subst e; simp [this]
    · simp [e]; cases mGet k' M <;> rfl

/-- The map of last tests, one test further. -/
def later (M : Mp) (x : Tst) : Bool := match mGet x.name M with
  | none => true
  | some d => decide (d < x.day)
def upd (day : Int) (M : Mp) (x : Tst) : Mp := if x.day ≤ day ∧ later M x = true then mPut M x.name x.day else M
def testedM (l : List Tst) (day : Int) : Mp := l.foldl (upd day) []

theorem tested_get (n : Str) (day : Int) : ∀ (l : List Tst) (M : Mp) (acc : Int), (∀ x ∈ l, 0 ≤ x.day) → ((mGet n M = none ∧ acc = -1) ∨ (mGet n M = some acc ∧ 0 ≤ acc)) →
    ((mGet n (l.foldl (upd day) M) = none ∧ l.foldl (lastF n 0 day) acc = -1) ∨ (mGet n (l.foldl (upd day) M) = some (l.foldl (lastF n 0 day) acc) ∧ 0 ≤ l.foldl (lastF n 0 day) acc))
  | [], _, _, _, h => h
  | x :: r, M, acc, hx, h => by
    simp only [List.foldl_cons]
    have hx0 := hx x (by simp)
    refine tested_get n day r _ _ (fun y hy => hx y (by simp [hy])) ?_
    by_cases hn : x.name = n
    · subst hn
      by_cases hd : x.day ≤ day
      · have eL : lastF x.name 0 day acc x = max acc x.day := by unfold lastF; rw [if_pos ⟨rfl, hx0, hd⟩]
        rw [eL]
        rcases h with ⟨h1, h2⟩ | ⟨h1, h2⟩
        · have hl : later M x = true := by unfold later; rw [h1]
          have eU : upd day M x = mPut M x.name x.day := by unfold upd; rw [if_pos ⟨hd, hl⟩]
          rw [eU, mGet_put, if_pos rfl]
          right
          exact ⟨by congr 1; omega, by omega⟩
        · have hl : later M x = decide (acc < x.day) := by unfold later; rw [h1]
          by_cases h3 : acc < x.day
          · have eU : upd day M x = mPut M x.name x.day := by unfold upd; rw [if_pos ⟨hd, by rw [hl]; exact decide_eq_true h3⟩]
            rw [eU, mGet_put, if_pos rfl]
            right
            exact ⟨by congr 1; omega, by omega⟩
          · have eU : upd day M x = M := by unfold upd; rw [if_neg (fun q => h3 (of_decide_eq_true (hl ▸ q.2)))]
            rw [eU, h1]
            right
            exact ⟨by congr 1; omega, by omega⟩
      · have eL : lastF x.name 0 day acc x = acc := by unfold lastF; rw [if_neg (fun q => hd q.2.2)]
        have eU : upd day M x = M := by unfold upd; rw [if_neg (fun q => hd q.1)]
        rw [eU, eL]
        exact h
    · have eL : lastF n 0 day acc x = acc := by unfold lastF; rw [if_neg (fun q => hn q.1)]
      rw [eL]
      unfold upd
      split
      · rw [mGet_put, if_neg (fun q => hn q.symm)]
        exact h
      · exact h

theorem tested_last (l : List Tst) (n : Str) (day : Int) (hx : ∀ x ∈ l, 0 ≤ x.day) : (mGet n (testedM l day) = none ∧ lastT l n 0 day = -1) ∨ (mGet n (testedM l day) = some (lastT l n 0 day) ∧ 0 ≤ lastT l n 0 day) :=
  tested_get n day l [] (-1) hx (.inl ⟨rfl, rfl⟩)

theorem lastF_spec (n : Str) (a b : Int) : ∀ (l : List Tst) (acc : Int), acc ≤ l.foldl (lastF n a b) acc ∧ (∀ x ∈ l, x.name = n → a ≤ x.day → x.day ≤ b → x.day ≤ l.foldl (lastF n a b) acc) ∧ (l.foldl (lastF n a b) acc = acc ∨ ∃ x ∈ l, x.name = n ∧ a ≤ x.day ∧ x.day ≤ b ∧ l.foldl (lastF n a b) acc = x.day)
  | [], acc => ⟨Int.le_refl _, by simp, .inl rfl⟩
  | x :: r, acc => by
    simp only [List.foldl_cons]
    obtain ⟨h1, h2, h3⟩ := lastF_spec n a b r (lastF n a b acc x)
    by_cases hc : x.name = n ∧ a ≤ x.day ∧ x.day ≤ b
    · have e : lastF n a b acc x = max acc x.day := by unfold lastF; rw [if_pos hc]
      rw [e] at h1 h2 h3 ⊢
      refine ⟨by omega, fun y hy => ?_, ?_⟩
      · rcases List.mem_cons.1 hy with rfl | hy
        · intros; omega
        · exact h2 y hy
      · rcases h3 with h3 | ⟨y, hy, h3⟩
        · by_cases hm : acc ≤ x.day
          · exact .inr ⟨x, by simp, hc.1, hc.2.1, hc.2.2, by rw [h3]; omega⟩
          · exact .inl (by rw [h3]; omega)
        · exact .inr ⟨y, by simp [hy], h3⟩
    · have e : lastF n a b acc x = acc := by unfold lastF; rw [if_neg hc]
      rw [e] at h1 h2 h3 ⊢
      refine ⟨h1, fun y hy => ?_, ?_⟩
      · rcases List.mem_cons.1 hy with rfl | hy
        · intro a1 a2 a3; exact absurd ⟨a1, a2, a3⟩ hc
        · exact h2 y hy
      · rcases h3 with h3 | ⟨y, hy, h3⟩
        · exact .inl h3
        · exact .inr ⟨y, by simp [hy], h3⟩

/-- Was nobody tested on the days before? By the last test of all. -/
theorem last_spared {l : List Tst} {n : Str} {day s : Int} (hx : ∀ x ∈ l, 0 ≤ x.day) (hs : 0 ≤ s) : lastT l n (day - s) day < 0 ↔ (lastT l n 0 day < 0 ∨ lastT l n 0 day < day - s) := by
  obtain ⟨a1, a2, a3⟩ := lastF_spec n (day - s) day l (-1)
  obtain ⟨b1, b2, b3⟩ := lastF_spec n 0 day l (-1)
  have ea : l.foldl (lastF n (day - s) day) (-1) = lastT l n (day - s) day := rfl
  have eb : l.foldl (lastF n 0 day) (-1) = lastT l n 0 day := rfl
  rw [ea] at a1 a2 a3
  rw [eb] at b1 b2 b3
  constructor
  · intro h
    rcases b3 with b3 | ⟨x, hx1, hx2, hx3, hx4, hx5⟩
    · left; omega
    · right
      by_cases hc : day - s ≤ x.day
      · have := a2 x hx1 hx2 hc hx4; omega
      · omega
  · intro h
    rcases a3 with a3 | ⟨x, hx1, hx2, hx3, hx4, hx5⟩
    · omega
    · have h0 := hx x hx1
      have := b2 x hx1 hx2 h0 hx4
      omega

end LM.G9

namespace LM.G9
open Go LM
variable {P : Nat → Option SFunc} [Has P]

def mVl (M : Mp) : List LV := (mVs M).map LV.c
theorem mVl_get {M : Mp} {i : Nat} {k : Str} {v : Int} (h : M[i]? = some (k, v)) : (mVl M)[i]? = some (.c (ci v)) := by simp [mVl, mVs, h]
theorem mVl_set (M : Mp) (i : Nat) (k : Str) (v : Int) : (mVl M).set i (.c (ci v)) = mVl (M.set i (k, v)) := by
  unfold mVl mVs
  rw [List.map_set, List.map_set]
theorem mKs_set {M : Mp} {i : Nat} {k : Str} (v : Int) (h : mIdx k M = some i) : mKs (M.set i (k, v)) = mKs M := by
  obtain ⟨w, hw, _⟩ := mIdx_some h
  obtain ⟨hi, hw⟩ := List.getElem?_eq_some_iff.1 hw
  unfold mKs
  rw [List.map_set]
  apply List.ext_getElem
  · simp
  · intro j h1 h2
    rw [List.getElem_set]
    by_cases e : i = j
    · subst e; simp [hw]
    · simp [e]
theorem under_mVl (n : Nat) (M : Mp) : underL n (mVl M) = true := underL_map_c n _
theorem mapH_mVl (n : Nat) (M : Mp) (h : Heap) : mapH (frz (n + 1)) (mVl M) h = some (mVs M, h) := mapH_map_c n _ h

theorem L91 (day : Int) : ∀ (l pre : List Tst) (M : Mp), ((pre ++ l).length : Int) < 9223372036854775807 →
    execS P (limS P) c91_l0 ⟨[.c (ci day), .map 0, .c (.slice ((pre ++ l).map Tst.enc)), .c (ci (pre ++ l).length), .c (ci pre.length)], [.map (mKs M) (mVl M) false]⟩ =
      some (.exit 0, ⟨[.map 0], [.map (mKs (l.foldl (upd day) M)) (mVl (l.foldl (upd day) M)) false]⟩) := by
  intro l
  induction l with
  | nil =>
    intro pre M h
    rw [r91_l0]
    simp [c91_l0b]
  | cons c r ih =>
    intro pre M h
    have ih := ih (pre ++ [c]) (upd day M c) (by simpa using h)
    simp [Tst.enc] at ih h
    have hw : IntKind.i64.wrap (↑pre.length + 1) = ↑pre.length + 1 := wrap64 (by omega) (by omega)
    have hlt : (pre.length : Int) < pre.length + (r.length + 1) := by omega
    have hk : keyOk (.one 1) (CV.str c.name) = true := rfl
    have hf := findK_mp c.name M
    rw [r91_l0]
    cases hi : mIdx c.name M with
    | none =>
      rw [hi] at hf
      have hg := mIdx_none hi
      have hl : later M c = true := by unfold later; rw [hg]
      have hp : mPut M c.name c.day = M ++ [(c.name, c.day)] := by unfold mPut; rw [hi]
      by_cases h1 : c.day ≤ day
      · have eU : upd day M c = M ++ [(c.name, c.day)] := by unfold upd; rw [if_pos ⟨h1, hl⟩, hp]
        have e1 : mKs (M ++ [(c.name, c.day)]) = mKs M ++ [.str c.name] := by simp [mKs]
        have e2 : mVl (M ++ [(c.name, c.day)]) = mVl M ++ [.c (ci c.day)] := by simp [mVl, mVs]
        rw [eU, e1, e2] at ih
        simp [c91_l0b, hw, hlt, Tst.enc, hk, hf, h1, eU, under_mVl, ih]
      · have eU : upd day M c = M := by unfold upd; rw [if_neg (fun q => h1 q.1)]
        rw [eU] at ih
        simp [c91_l0b, hw, hlt, Tst.enc, hk, hf, h1, eU, under_mVl, ih]
    | some i =>
      rw [hi] at hf
      obtain ⟨v, hv, hg⟩ := mIdx_some hi
      have hv2 := mVl_get hv
      have hl : later M c = decide (v < c.day) := by unfold later; rw [hg]
      have hp : mPut M c.name c.day = M.set i (c.name, c.day) := by unfold mPut; rw [hi]
      by_cases h1 : c.day ≤ day
      · by_cases h2 : v < c.day
        · have eU : upd day M c = M.set i (c.name, c.day) := by unfold upd; rw [if_pos ⟨h1, by rw [hl]; exact decide_eq_true h2⟩, hp]
          rw [eU, mKs_set _ hi, ← mVl_set] at ih
          have hu : underL 1 ((mVl M).set i (.c (ci c.day))) = true := by rw [mVl_set M i c.name c.day]; exact under_mVl _ _
          simp [c91_l0b, hw, hlt, Tst.enc, hk, hf, hv2, h1, h2, eU, hu, ih]
        · have eU : upd day M c = M := by unfold upd; rw [if_neg (fun q => h2 (of_decide_eq_true (hl ▸ q.2)))]
          rw [eU] at ih
          simp [c91_l0b, hw, hlt, Tst.enc, hk, hf, hv2, h1, h2, eU, under_mVl, ih]
      · have eU : upd day M c = M := by unfold upd; rw [if_neg (fun q => h1 q.1)]
        rw [eU] at ih
        simp [c91_l0b, hw, hlt, Tst.enc, hk, hf, hv2, h1, eU, under_mVl, ih]

def mEnc (M : Mp) : CV := .map (mKs M) (mVs M)
theorem S91 (l : List Tst) (day : Int) (h : (l.length : Int) < 9223372036854775807) : fn P 91 [.slice (l.map Tst.enc), ci day] = some (mEnc (testedM l day)) := by
  have hL := L91 (P := P) day l [] [] (by simpa using h)
  have e1 : mKs [] = [] := rfl
  have e2 : mVl [] = [] := rfl
  rw [e1, e2] at hL
  simp at hL
  rw [u91]
  have e : l.foldl (upd day) [] = testedM l day := rfl
  rw [e] at hL
  simp [c91, hL, resV, mapH_mVl, mEnc]

/-- The day of a climber's last test, or -1. -/
def mLast (M : Mp) (s : Str) : Int := match mGet s M with
  | some d => d
  | none => -1
theorem S92 (M : Mp) (s : Str) : fn P 92 [.str s, .ptr [mEnc M] 0] = some (ci (mLast M s)) := by
  have hk : keyOk (.one 1) (CV.str s) = true := rfl
  have hf := findK_mp s M
  rw [u92]
  unfold mLast
  cases hi : mIdx s M with
  | none =>
    rw [hi] at hf
    rw [mIdx_none hi]
    simp [c92, mEnc, hk, hf]
  | some i =>
    rw [hi] at hf
    obtain ⟨v, hv, hg⟩ := mIdx_some hi
    have hv2 : (mVs M)[i]? = some (ci v) := by simp [mVs, hv]
    rw [hg]
    simp [c92, mEnc, hk, hf, hv2]

def cmpI (a b : Int) : Int := if a < b then -1 else if b < a then 1 else 0
theorem S95 (a b : Int) : fn P 95 [ci a, ci b] = some (ci (cmpI a b)) := by
  have e : ∀ x : Int, fn P 137 [ci x] = some (.bool false) := fun x => by rw [u137]; simp [c137]
  rw [u95]
  unfold cmpI
  by_cases h1 : a < b <;> by_cases h2 : b < a <;> simp [c95, e, h1, h2]

end LM.G9

namespace LM.G9
open Go LM
variable {P : Nat → Option SFunc} [Has P]

def cS (xs : List Str) : List LV := xs.map fun s => LV.c (.str s)
theorem cS_length (xs : List Str) : (cS xs).length = xs.length := by simp [cS]
theorem cS_append (xs ys : List Str) : cS (xs ++ ys) = cS xs ++ cS ys := by simp [cS]
theorem cellsOf_strs (xs : List Str) : cellsOf (xs.map CV.str) = cS xs := by
  induction xs with
  | nil => rfl
  | cons x r ih =>
    have : cellsOf ((x :: r).map CV.str) = .c (.str x) :: cellsOf (r.map CV.str) := rfl
    rw [this, ih]
    rfl

/-- An element goes left past all greater ones. -/
def insL (key : Str → Int) (x : Str) : List Str → List Str → List Str
  | [], Q => x :: Q
  | y :: L, Q => if key x < key y then insL key x L (y :: Q) else L.reverse ++ y :: x :: Q

/-- The comparison of the pool. -/
def cmpC (F : CV) : CV := .func 94 [] [.ptr [F] 0]
def CmpOk (P : Nat → Option SFunc) (F : CV) (key : Str → Int) : Prop := ∀ x y, fn P 94 [.str x, .str y, .ptr [F] 0] = some (ci (cmpI (key x) (key y)))

variable {F : CV} {key : Str → Int} {H : Heap} {b g : Nat}

theorem take_set (X : LB) : List.take H.length (H.set b X) = H.set b X := List.take_of_length_le (by simp)

theorem L152_0 (hC : CmpOk P F key) (hb : b < H.length) (hg : g ≠ 0) (A : List Str) (a bb i : Int) (ha : a = A.length) (n : Nat) (hn : n < 9223372036854775807) : ∀ (L : List Str) (x : Str) (Q : List Str), n = A.length + L.length + 1 + Q.length →
    execS P (limS P) c152_l0 ⟨[.slice b g 0 n none none, .c (ci a), .c (ci bb), .c (cmpC F), .c (ci i), .c (ci (A.length + L.length))], H.set b (.cells g (cS (A ++ L.reverse ++ x :: Q)) 0)⟩ =
      some (.exit 2, ⟨[.slice b g 0 n none none, .c (ci a), .c (ci bb), .c (cmpC F), .c (ci i)], H.set b (.cells g (cS (A ++ insL key x L Q)) 0)⟩) := by
  subst ha
  intro L
  induction L with
  | nil =>
    intro x Q h
    rw [r152_l0]
    simp [c152_l0b, insL]
  | cons y L ih =>
    intro x Q h
    have ih := ih x (y :: Q) (by simp at h ⊢; omega)
    simp at h
    have hc := hC x y
    have hlt : (A.length : Int) < A.length + (L.length + 1) := by omega
    have hw : IntKind.i64.wrap ((A.length : Int) + (L.length + 1) - 1) = A.length + L.length := by
      rw [show (A.length : Int) + (L.length + 1) - 1 = A.length + L.length from by omega]; exact wrap64 (by omega) (by omega)
    have t1 : ((A.length : Int) + (L.length + 1)).toNat = A.length + (L.length + 1) := by omega
    have t2 : ((A.length : Int) + L.length).toNat = A.length + L.length := by omega
    have i1 : (A.length : Int) + (L.length + 1) < n := by omega
    have i2 : (A.length : Int) + L.length < n := by omega
    have j1 : 0 ≤ (A.length : Int) + (L.length + 1) := by omega
    have j2 : 0 ≤ (A.length : Int) + L.length := by omega
    have e : A ++ (y :: L).reverse ++ x :: Q = A ++ (L.reverse ++ y :: x :: Q) := by simp
    have g1 : (cS (A ++ (L.reverse ++ y :: x :: Q)))[A.length + L.length]? = some (.c (.str y)) := by
      unfold cS; rw [List.getElem?_map, List.getElem?_append_right (by omega), List.getElem?_append_right (by simp)]; simp
    have g2 : (cS (A ++ (L.reverse ++ y :: x :: Q)))[A.length + (L.length + 1)]? = some (.c (.str x)) := by
      unfold cS; rw [List.getElem?_map, List.getElem?_append_right (by omega), List.getElem?_append_right (by simp), List.length_reverse, show A.length + (L.length + 1) - A.length - L.length = 1 from by omega]; simp
    have gs : ((cS (A ++ (L.reverse ++ y :: x :: Q))).set (A.length + (L.length + 1)) (.c (.str y))).set (A.length + L.length) (.c (.str x)) = cS (A ++ (L.reverse ++ x :: y :: Q)) := by
      have q : cS (A ++ (L.reverse ++ y :: x :: Q)) = (cS A ++ cS L.reverse) ++ .c (.str y) :: .c (.str x) :: cS Q := by simp [cS]
      have q2 : cS (A ++ (L.reverse ++ x :: y :: Q)) = (cS A ++ cS L.reverse) ++ .c (.str x) :: .c (.str y) :: cS Q := by simp [cS]
      have ql : (cS A ++ cS L.reverse).length = A.length + L.length := by simp [cS_length]
      rw [q, q2, List.set_append_right _ _ (by omega), ql, show A.length + (L.length + 1) - (A.length + L.length) = 1 from by omega, List.set_cons_succ, List.set_cons_zero, List.set_append_right _ _ (by omega), ql, Nat.sub_self, List.set_cons_zero]
    obtain ⟨_, g1⟩ := List.getElem?_eq_some_iff.1 g1
    obtain ⟨_, g2⟩ := List.getElem?_eq_some_iff.1 g2
    have k1 : A.length + (L.length + 1) + 1 ≤ A.length + (L.length + (Q.length + 1 + 1)) := by omega
    have k2 : A.length + L.length + 1 ≤ A.length + (L.length + (Q.length + 1 + 1)) := by omega
    rw [e]
    rw [r152_l0]
    simp only [insL]
    by_cases hk : key x < key y
    · have hcv : cmpI (key x) (key y) = -1 := by unfold cmpI; rw [if_pos hk]
      rw [hcv] at hc
      have ih' := ih
      simp [cmpC] at ih
      simp [c152_l0b, cmpC, hb, hlt, hw, t1, t2, i1, i2, j1, j2, g1, g2, gs, hc, hk, take_set, cS_length, k1, k2, ih]
    · have hcv : ¬ cmpI (key x) (key y) < 0 := by unfold cmpI; rw [if_neg hk]; split <;> omega
      simp [c152_l0b, cmpC, hb, hlt, hw, t1, t2, i1, i2, j1, j2, g1, g2, hc, hcv, hk, take_set, cS_length]


theorem insL_append (x : Str) : ∀ (L Q R : List Str), insL key x L (Q ++ R) = insL key x L Q ++ R
  | [], Q, R => rfl
  | y :: L, Q, R => by
    simp only [insL]
    split
    · exact insL_append x L (y :: Q) R
    · simp
/-- Into a sorted list. -/
def insS (key : Str → Int) (x : Str) (S : List Str) : List Str := insL key x S.reverse []
theorem insL_length (x : Str) : ∀ (L Q : List Str), (insL key x L Q).length = L.length + Q.length + 1
  | [], Q => by simp [insL]
  | y :: L, Q => by
    simp only [insL]
    split
    · rw [insL_length x L (y :: Q)]; simp; omega
    · simp; omega
theorem insS_length (x : Str) (S : List Str) : (insS key x S).length = S.length + 1 := by
  unfold insS
  rw [insL_length]
  simp
def sortI (key : Str → Int) : List Str → List Str → List Str
  | S, [] => S
  | S, x :: U => sortI key (insS key x S) U
theorem sortI_length : ∀ (S U : List Str), (sortI key S U).length = S.length + U.length
  | S, [] => rfl
  | S, x :: U => by rw [sortI, sortI_length, insS_length]; simp; omega

theorem L152_1 (hC : CmpOk P F key) (hb : b < H.length) (hg : g ≠ 0) (A T : List Str) (n : Nat) (hn : n < 9223372036854775807) (bb : Int) : ∀ (U S : List Str), n = A.length + S.length + U.length + T.length → bb = A.length + S.length + U.length →
    execS P (limS P) c152_l1 ⟨[.slice b g 0 n none none, .c (ci A.length), .c (ci bb), .c (cmpC F), .c (ci (A.length + S.length))], H.set b (.cells g (cS (A ++ (S ++ (U ++ T)))) 0)⟩ =
      some (.exit 0, ⟨[], H.set b (.cells g (cS (A ++ (sortI key S U ++ T))) 0)⟩) := by
  intro U
  induction U with
  | nil =>
    intro S h1 h2
    have hlt : ¬ (A.length : Int) + S.length < bb := by simp at h2; omega
    rw [r152_l1]
    simp [c152_l1b, hlt, sortI]
  | cons x U ih =>
    intro S h1 h2
    have ih := ih (insS key x S) (by rw [insS_length]; simp at h1 ⊢; omega) (by rw [insS_length]; simp at h2 ⊢; omega)
    have hin := L152_0 (P := P) hC hb hg A A.length bb (A.length + S.length) rfl n hn S.reverse x (U ++ T) (by simp at h1 ⊢; omega)
    have e : insL key x S.reverse (U ++ T) = insS key x S ++ (U ++ T) := insL_append x S.reverse [] (U ++ T)
    rw [e] at hin
    rw [insS_length] at ih
    simp at hin ih h1 h2
    have hlt : (A.length : Int) + S.length < bb := by omega
    have hw : IntKind.i64.wrap ((A.length : Int) + S.length + 1) = (A.length : Int) + (S.length + 1) := by
      rw [Int.add_assoc]; exact wrap64 (by omega) (by omega)
    rw [r152_l1]
    simp only [sortI]
    simp [c152_l1b, hlt, hin, hw, hb, take_set, ih]

theorem S152 (hC : CmpOk P F key) (hb : b < H.length) (hg : g ≠ 0) (A U T : List Str) (n : Nat) (hn : n < 9223372036854775807) (h : n = A.length + U.length + T.length) :
    sfn P 152 [.slice b g 0 n none none, .c (ci A.length), .c (ci (A.length + U.length)), .c (cmpC F)] (H.set b (.cells g (cS (A ++ (U ++ T))) 0)) = some (.c (.tuple []), H.set b (.cells g (cS (A ++ (sortI key [] U ++ T))) 0)) := by
  have hw : IntKind.i64.wrap ((A.length : Int) + 1) = (A.length : Int) + 1 := wrap64 (by omega) (by omega)
  rw [u152]
  cases U with
  | nil =>
    have hlt : ¬ (A.length : Int) + 1 < A.length := by omega
    have hL : execS P (limS P) c152_l1 ⟨[.slice b g 0 n none none, .c (ci A.length), .c (ci A.length), .c (cmpC F), .c (ci ((A.length : Int) + 1))], H.set b (.cells g (cS (A ++ T)) 0)⟩ = some (.exit 0, ⟨[], H.set b (.cells g (cS (A ++ T)) 0)⟩) := by
      rw [r152_l1]
      simp [c152_l1b, hlt]
    simp [c152, hw, hL, sortI]
  | cons x U =>
    have hL := L152_1 (P := P) hC hb hg A T n hn (A.length + (U.length + 1)) U [x] (by simp at h ⊢; omega) (by simp; omega)
    have e : insS key x [] = [x] := rfl
    simp at hL
    simp [c152, hw, hL, sortI, e]

end LM.G9

namespace LM.G9
open Go LM
variable {P : Nat → Option SFunc} [Has P]

theorem frzFuncs_nil (h : Heap) : frzFuncs [] h = some ([], h) := by rw [frzFuncs]
theorem frzFuncs_c (v : CV) (l : List LV) (h : Heap) : frzFuncs (.c v :: l) h = bnd (frzFuncs l h) fun a => some (.c v :: a.1, a.2) := by
  rw [frzFuncs]
  rcases frzFuncs l h with _ | ⟨x, y⟩ <;> rfl
  all_goals simp
theorem frzFuncs_slice (b g o n : Nat) (e c : Option Nat) (l : List LV) (h : Heap) : frzFuncs (.slice b g o n e c :: l) h = bnd (frzFuncs l h) fun a => some (.slice b g o n e c :: a.1, a.2) := by
  rw [frzFuncs]
  rcases frzFuncs l h with _ | ⟨x, y⟩ <;> rfl
  all_goals simp
theorem frzFuncs_func (f : Nat) (a b : List LV) (l : List LV) (h : Heap) : frzFuncs (.func f a b :: l) h = bnd (frz frzDepth (.func f a b) h) fun y => bnd (frzFuncs l y.2) fun z => some (.c y.1 :: z.1, z.2) := by
  rw [frzFuncs]
  rcases frz frzDepth (.func f a b) h with _ | ⟨x, y⟩
  · rfl
  · rcases h2 : frzFuncs l y with _ | ⟨z, w⟩ <;> simp [bnd, h2]

/-- The closure that tells a climber's last test. -/
def lastC (M : Mp) : CV := .func 92 [] [.ptr [mEnc M] 0]
theorem S94 (M : Mp) : CmpOk P (lastC M) (mLast M) := by
  intro x y
  have h1 := S92 (P := P) M x
  have h2 := S92 (P := P) M y
  have h3 := S95 (P := P) (mLast M x) (mLast M y)
  rw [u94]
  simp [c94, lastC, h1, h2, h3]

variable {F : CV} {key : Str → Int} {H : Heap} {b g : Nat}
theorem S136 (hC : CmpOk P F key) (hb : b < H.length) (hg : g ≠ 0) (xs : List Str) (n : Nat) (hn : n < 20) (h : n = xs.length) :
    sfn P 136 [.slice b g 0 n none none, .c (ci n), .c (cmpC F)] (H.set b (.cells g (cS xs) 0)) = some (.c (.tuple []), H.set b (.cells g (cS (sortI key [] xs)) 0)) := by
  have hs := S152 (P := P) hC hb hg [] xs [] n (by omega) (by simpa using h)
  have h1 : ¬ (20 : Int) ≤ n := by omega
  have h2 : ¬ (20 : Int) < n := by omega
  have l0 : ∀ E, execS P (limS P) c136_l0 ⟨[.slice b g 0 n none none, .c (ci n), .c (cmpC F), .c (ci 20), .c (ci 0), .c (ci 20)], E⟩ = some (.exit 0, ⟨[.slice b g 0 n none none, .c (ci n), .c (cmpC F), .c (ci 20), .c (ci 0)], E⟩) := by
    intro E
    rw [r136_l0]
    simp [c136_l0b, h1]
  have l2 : ∀ E, execS P (limS P) c136_l2 ⟨[.slice b g 0 n none none, .c (ci n), .c (cmpC F), .c (ci 20)], E⟩ = some (.exit 2, ⟨[], E⟩) := by
    intro E
    rw [r136_l2]
    simp [c136_l2b, h2]
  simp [← h] at hs
  rw [u136]
  simp [c136, l0, l2, hs, hb, take_set, frzFuncs_nil, frzFuncs_c, frzFuncs_slice]

theorem S93 (hC : CmpOk P F key) (hb : b < H.length) (hg : g ≠ 0) (xs : List Str) (n : Nat) (hn : n < 20) (h : n = xs.length) :
    sfn P 93 [.slice b g 0 n none none, .c (cmpC F)] (H.set b (.cells g (cS xs) 0)) = some (.c (.tuple []), H.set b (.cells g (cS (sortI key [] xs)) 0)) := by
  have hs := S136 (P := P) hC hb hg xs n hn h
  rw [u93]
  simp [c93, hs, hb, take_set, frzFuncs_nil, frzFuncs_c, frzFuncs_slice]

/-- The drawn climbers who are not spared. -/
def unspared (M : Mp) (spare day : Int) (s : Str) : Bool := decide (mLast M s < 0) || decide (mLast M s < day - spare)
end LM.G9

namespace LM.G9
open Go LM

theorem insL_perm (key : Str → Int) (x : Str) : ∀ L Q : List Str, (insL key x L Q).Perm (x :: (L.reverse ++ Q))
  | [], Q => by simp [insL]
  | y :: L, Q => by
    simp only [insL]
    split
    · exact (insL_perm key x L (y :: Q)).trans (by simp)
    · have e1 : L.reverse ++ y :: x :: Q = (L.reverse ++ [y]) ++ x :: Q := by simp
      have e2 : x :: ((y :: L).reverse ++ Q) = x :: ((L.reverse ++ [y]) ++ Q) := by simp
      rw [e1, e2]
      exact List.perm_middle
theorem insS_perm (key : Str → Int) (x : Str) (S : List Str) : (insS key x S).Perm (x :: S) := by
  have := insL_perm key x S.reverse []
  simpa [insS] using this
theorem sortI_perm (key : Str → Int) : ∀ S U : List Str, (sortI key S U).Perm (S ++ U)
  | S, [] => by simp [sortI]
  | S, x :: U => by
    rw [sortI]
    refine (sortI_perm key _ U).trans ?_
    refine ((insS_perm key x S).append_right U).trans ?_
    exact List.perm_middle.symm

def Srt (key : Str → Int) (l : List Str) : Prop := l.Pairwise fun a b => key a ≤ key b
theorem insL_sorted {key : Str → Int} {x : Str} : ∀ {L Q : List Str}, Srt key (L.reverse ++ Q) → (∀ q ∈ Q, key x < key q) → Srt key (insL key x L Q)
  | [], Q, h, hq => by
    simp only [insL]
    exact List.pairwise_cons.2 ⟨fun q hm => Int.le_of_lt (hq q hm), by simpa [Srt] using h⟩
  | y :: L, Q, h, hq => by
    simp only [insL]
    have e : (y :: L).reverse ++ Q = L.reverse ++ y :: Q := by simp
    rw [e] at h
    split
    · rename_i hlt
      refine insL_sorted h fun q hm => ?_
      rcases List.mem_cons.1 hm with rfl | hm
      · exact hlt
      · exact hq q hm
    · rename_i hlt
      unfold Srt at h ⊢
      rw [List.pairwise_append] at h ⊢
      obtain ⟨h1, h2, h3⟩ := h
      rw [List.pairwise_cons] at h2
      refine ⟨h1, ?_, ?_⟩
      · refine List.pairwise_cons.2 ⟨fun a ha => ?_, List.pairwise_cons.2 ⟨fun a ha => Int.le_of_lt (hq a ha), h2.2⟩⟩
        rcases List.mem_cons.1 ha with rfl | ha
        · omega
        · exact h2.1 a ha
      · intro a ha b hb
        rcases List.mem_cons.1 hb with rfl | hb
        · exact h3 a ha b (by simp)
        · rcases List.mem_cons.1 hb with rfl | hb
          · have := h3 a ha y (by simp); omega
          · exact h3 a ha b (by simp [hb])
theorem sortI_sorted {key : Str → Int} : ∀ {S U : List Str}, Srt key S → Srt key (sortI key S U)
  | S, [], h => h
  | S, x :: U, h => by
    rw [sortI]
    refine sortI_sorted ?_
    unfold insS
    exact insL_sorted (by simpa using h) (by simp)

theorem insS_last {key : Str → Int} {x : Str} {S : List Str} (h : ∀ y ∈ S, ¬ key x < key y) : insS key x S = S ++ [x] := by
  unfold insS
  cases hr : S.reverse with
  | nil => have : S = [] := by simpa using hr
           subst this; rfl
  | cons y L =>
    have e : S = L.reverse ++ [y] := by rw [← List.reverse_reverse S, hr]; simp
    have hy : ¬ key x < key y := h y (by rw [e]; simp)
    simp only [insL, if_neg hy]
    rw [e]
    simp
theorem sortI_const {key : Str → Int} {k : Int} : ∀ {S U : List Str}, (∀ x ∈ S ++ U, key x = k) → sortI key S U = S ++ U
  | S, [], _ => by simp [sortI]
  | S, x :: U, h => by
    have hx : key x = k := h x (by simp)
    rw [sortI, insS_last (fun y hy => by have := h y (by simp [hy]); omega), sortI_const (k := k) (fun y hy => h y (by simpa using hy))]
    simp

theorem sw_perm {xs : List Int} {i k : Nat} (hi : i < xs.length) (hk : k < xs.length) : (sw xs i k).Perm xs := by
  unfold sw
  have e1 : xs.getD k 0 = xs[k] := by simp [List.getD_eq_getElem?_getD, hk]
  have e2 : xs.getD i 0 = xs[i] := by simp [List.getD_eq_getElem?_getD, hi]
  rw [e1, e2]
  exact List.set_set_perm hi hk
theorem drawN_perm (n : Nat) : ∀ (m i : Nat) (x : Int) (xs : List Int), i + m < n → 0 ≤ x → x ≤ 2147483646 → xs.length = n → (drawN n m i x xs).Perm xs
  | 0, _, _, _, _, _, _, _ => .refl _
  | m + 1, i, x, xs, hm, h0, h1, hl => by
    rw [drawN]
    have hx := nextX_range h0 h1
    have hs := step_range (n := n) (i := i) hx.1 (by omega)
    exact (drawN_perm n m (i + 1) _ _ (by omega) hx.1 hx.2 (by rw [sw_length, hl])).trans (sw_perm (by omega) (by omega))
theorem drawL_perm {key : Int} {n : Nat} (h0 : 1 ≤ key) (h1 : key ≤ 2147483646) : (drawL key n).Perm (iota n) := by
  unfold drawL
  rcases Nat.eq_zero_or_pos n with h | h
  · subst h; exact .refl _
  · exact drawN_perm n (n - 1) 0 key _ (by omega) (by omega) h1 (iota_length n)

/-- The climbers in the drawn order. -/
def ordL (c : List Str) (key : Int) : List Str := (drawL key c.length).map fun k => c.getD k.toNat []
theorem ordL_perm {c : List Str} {key : Int} (h0 : 1 ≤ key) (h1 : key ≤ 2147483646) : (ordL c key).Perm c := by
  unfold ordL
  refine ((drawL_perm h0 h1).map _).trans ?_
  have : (iota c.length).map (fun k => c.getD k.toNat []) = c := by
    unfold iota
    rw [List.map_map]
    apply List.ext_getElem
    · simp
    · intro i h2 h3
      simp [List.getD_eq_getElem?_getD, h3]
  rw [this]
theorem ordL_length (c : List Str) (key : Int) : (ordL c key).length = c.length := by simp [ordL, drawL_length]

theorem lateL_perm {c d : List Str} (l : List Tst) (a b : Int) (h : c.Perm d) : (lateL c l a b).Perm (lateL d l a b) := h.filter _

/-- The pool before it is cut. -/
def poolA (c : List Str) (l : List Tst) (key spare day : Int) : List Str := sortI (fun s => lastT l s 0 day) [] (lateL (ordL c key) l spare day)
theorem poolA_perm {c : List Str} {l : List Tst} {key spare day : Int} (h0 : 1 ≤ key) (h1 : key ≤ 2147483646) : (poolA c l key spare day).Perm (lateL c l spare day) :=
  (sortI_perm _ _ _).trans (lateL_perm l _ _ (ordL_perm h0 h1))
theorem poolA_sorted (c : List Str) (l : List Tst) (key spare day : Int) : Srt (fun s => lastT l s 0 day) (poolA c l key spare day) := sortI_sorted (by simp [Srt])
theorem poolA_length {c : List Str} {l : List Tst} {key spare day : Int} (h0 : 1 ≤ key) (h1 : key ≤ 2147483646) : (poolA c l key spare day).length = (lateL c l spare day).length := (poolA_perm h0 h1).length_eq
theorem lateL_le (c : List Str) (l : List Tst) (a b : Int) : (lateL c l a b).length ≤ c.length := List.length_filter_le ..

theorem mLast_lastT {l : List Tst} (hx : ∀ x ∈ l, 0 ≤ x.day) (day : Int) (s : Str) : mLast (testedM l day) s = lastT l s 0 day := by
  unfold mLast
  rcases tested_last l s day hx with ⟨h1, h2⟩ | ⟨h1, h2⟩
  · rw [h1, h2]
  · rw [h1]
end LM.G9

namespace LM.G9
open Go LM
variable {P : Nat → Option SFunc} [Has P]

theorem firstE_zK (e : Int) (r : List Int) : firstE (e :: r) = 0 ↔ e = 0 ∧ firstE r = 0 := by
  rw [firstE]
  by_cases h : e = 0 <;> simp [h]
theorem dated_zK (d : Int) : dated d = 0 ↔ 0 ≤ d ∧ d ≤ 99999 := by
  unfold dated whenE outside
  by_cases h1 : d < 0 <;> by_cases h2 : d > 99999 <;> simp [h1, h2] <;> omega

def PkB (p : Pck) : LB := .cells 0 [.c (ci p.count), .c (ci p.spare), .c (ci p.key)] 0
def MpB (M : Mp) (z : Nat) : LB := .cells 0 [.c (mEnc M)] z
def HP (p : Pck) (D : List Int) (M : Mp) (z : Nat) (ys : List Str) : Heap := [PkB p, .cells 1 [] 0, .dead, .cells 1 [] 0, .cells 1 (cI D) 0, MpB M z, .cells 0 [.func 92 [] [.ptr 5 0 0]] 0, .cells (1 + ys.length) (cS ys) 0]
def nm (c : List Str) (k : Int) : Str := c.getD k.toNat []

theorem cS_under (n : Nat) (ys : List Str) : underL n (cS ys) = true := by rw [← cellsOf_strs]; exact underL_cellsOf _ _

theorem frzArgs_ptr (b g o : Nat) (l : List LV) (h : Heap) : frzArgs false (.ptr b g o :: l) h = bnd (frz frzDepth (.ptr b g o) h) fun y => bnd (frzArgs false l y.2) fun z => some (y.1 :: z.1, z.2) := frzArgs_cons _ _ _

theorem L33 (c : List Str) (hc : c.length < 20) (M : Mp) (p : Pck) (day : Int) (h0 : 0 ≤ p.spare) (h1 : p.spare ≤ 99999) (h2 : 0 ≤ day) (h3 : day ≤ 99999) : ∀ (r pre : List Int) (ys : List Str), (∀ k ∈ pre ++ r, 0 ≤ k ∧ k < c.length) → (pre ++ r).length = c.length → ys.length ≤ pre.length →
    execS P (limS P) c33_l0 ⟨[.c (.slice (c.map CV.str)), .c (ci day), .ptr 0 0 0, .ptr 6 0 0, .slice 7 (1 + ys.length) 0 ys.length none none, .slice 4 1 0 c.length none (some c.length), .c (ci c.length), .c (ci pre.length)], HP p (pre ++ r) M 0 ys⟩ =
      some (.exit 0, ⟨[.ptr 0 0 0, .ptr 6 0 0, .slice 7 (1 + (ys ++ (r.map (nm c)).filter (unspared M p.spare day)).length) 0 (ys ++ (r.map (nm c)).filter (unspared M p.spare day)).length none none], HP p (pre ++ r) M 0 (ys ++ (r.map (nm c)).filter (unspared M p.spare day))⟩) := by
  intro r
  induction r with
  | nil =>
    intro pre ys hk hn hy
    have hn : pre.length = c.length := by simpa using hn
    rw [r33_l0]
    simp [c33_l0b, hn]
  | cons k r ih =>
    intro pre ys hk hn hy
    have hk0 := hk k (by simp)
    have hpl : pre.length < c.length := by rw [← hn]; simp
    have hw : IntKind.i64.wrap (↑pre.length + 1) = ↑pre.length + 1 := wrap64 (by omega) (by omega)
    have hw2 : IntKind.i64.wrap (day - p.spare) = day - p.spare := wrap64 (by omega) (by omega)
    have hlt : (pre.length : Int) < c.length := by omega
    have g1 : (cI (pre ++ k :: r))[pre.length]? = some (.c (ci k)) := by unfold cI; simp
    have hkn : k.toNat < c.length := by omega
    have g2 : c[k.toNat] = nm c k := by simp [nm, hkn, List.getD_eq_getElem?_getD]
    have e92 := S92 (P := P) M (nm c k)
    simp only [mEnc] at e92
    have hf : ((k :: r).map (nm c)).filter (unspared M p.spare day) = if unspared M p.spare day (nm c k) then nm c k :: (r.map (nm c)).filter (unspared M p.spare day) else (r.map (nm c)).filter (unspared M p.spare day) := by rw [List.map_cons, List.filter_cons]
    have hu : unspared M p.spare day (nm c k) = (decide (mLast M (nm c k) < 0) || decide (mLast M (nm c k) < day - p.spare)) := rfl
    have ha := append_own (b := 7) (g := 1 + ys.length) (bytes := 16) (e := none) (ys := ys.map CV.str) (xs := [.str (nm c k)]) (h := [PkB p, .cells 1 [] 0, .dead, .cells 1 [] 0, .cells 1 (cI (pre ++ k :: r)) 0, MpB M 0, .cells 0 [.func 92 [] [.ptr 5 0 0]] 0, .cells (1 + ys.length) (cellsOf (ys.map CV.str)) 0]) (len := ys.length) (fz := 0) rfl (strElems _) (by simpa using strElem (nm c k)) (by simp) (Nat.zero_le _) (by simp) (by simp; omega) (by simp; omega)
    rw [cellsOf_strs] at ha
    have e1 : ys.map CV.str ++ [CV.str (nm c k)] = (ys ++ [nm c k]).map CV.str := by simp
    rw [e1, cellsOf_strs] at ha
    simp [PkB, MpB, mEnc] at ha
    have ihA := ih (pre ++ [k]) (ys ++ [nm c k]) (by simpa using hk) (by simpa using hn) (by simp; omega)
    have ihB := ih (pre ++ [k]) ys (by simpa using hk) (by simpa using hn) (by simp; omega)
    have e2 : 1 + (ys.length + 1) = 1 + ys.length + 1 := by omega
    rw [hf, hu, r33_l0]
    by_cases q1 : mLast M (nm c k) < 0
    · simp [HP, PkB, MpB, mEnc, e2, q1] at ihA ⊢
      simp [c33_l0b, hw, hw2, hlt, hpl, hk0, g1, g2, hkn, under_cI, cS_under, frzArgs_ptr, e92, q1, ha, ihA]
    · by_cases q2 : mLast M (nm c k) < day - p.spare
      · simp [HP, PkB, MpB, mEnc, e2, q1, q2] at ihA ⊢
        simp [c33_l0b, hw, hw2, hlt, hpl, hk0, g1, g2, hkn, under_cI, cS_under, frzArgs_ptr, e92, q1, q2, ha, ihA]
      · simp [HP, PkB, MpB, mEnc, q1, q2] at ihB ⊢
        simp [c33_l0b, hw, hw2, hlt, hpl, hk0, g1, g2, hkn, under_cI, cS_under, frzArgs_ptr, e92, q1, q2, ihB]

def poolE (c : List Str) (l : List Tst) (p : Pck) (day : Int) : Int := firstE [onceL 160 c, checkTsts l, pickE p, dated day]

theorem frz_38_func (f : Nat) (a b : List LV) (h : Heap) : frz 38 (.func f a b) h = bnd (mapH (frz 37) a h) fun x => bnd (mapH (frz 37) b x.2) fun y => some (.func f x.1 y.1, y.2) := by
  rw [frz]
  rcases mapH (frz 37) a h with _ | ⟨x, h1⟩
  · rfl
  · simp only [bnd]
    rcases mapH (frz 37) b h1 with _ | ⟨y, h2⟩ <;> rfl
theorem frz_37_ptr (b g off : Nat) (h : Heap) : frz 37 (.ptr b g off) h = match h[b]? with
    | some (.cells g' cs _) => if g = g' then bnd (mapH (frz 36) cs (bump b cs.length h)) fun a => some (.ptr a.1 off, a.2) else none
    | _ => none := frz_succ_ptr 36 b g off h

theorem poolL_eq {c : List Str} {l : List Tst} {p : Pck} {day : Int} (hx : ∀ x ∈ l, 0 ≤ x.day) (h0 : 0 ≤ p.spare) :
    sortI (mLast (testedM l day)) [] (((drawL p.key c.length).map (nm c)).filter (unspared (testedM l day) p.spare day)) = poolA c l p.key p.spare day := by
  unfold poolA
  have e1 : mLast (testedM l day) = fun s => lastT l s 0 day := funext fun s => mLast_lastT hx day s
  have e2 : ((drawL p.key c.length).map (nm c)).filter (unspared (testedM l day) p.spare day) = lateL (ordL c p.key) l p.spare day := by
    unfold lateL ordL
    refine List.filter_congr fun s _ => ?_
    unfold unspared
    rw [mLast_lastT hx day s, ← Bool.decide_or]
    exact decide_eq_decide.2 (last_spared hx h0).symm
  rw [e1, e2]

theorem checkTsts_days {l : List Tst} (h : checkTsts l = 0) : ∀ x ∈ l, 0 ≤ x.day := by
  unfold checkTsts at h
  split at h
  · cases h
  · have key : ∀ (l pre : List Tst), eachE (fun _ => checkTst) pre l = 0 → ∀ x ∈ l, 0 ≤ x.day := by
      intro l
      induction l with
      | nil => simp
      | cons a r ih =>
        intro pre h x hx
        rw [eachE] at h
        split at h
        · rename_i q; exact absurd h q
        · rename_i q
          rcases List.mem_cons.1 hx with rfl | hx
          · have q : checkTst x = 0 := by simpa using q
            unfold checkTst at q
            simp only [firstE_zK, dated_zK] at q
            exact q.2.1.1
          · exact ih _ h x hx
    exact key l [] h
theorem pickE_zero {p : Pck} (h : pickE p = 0) : 0 ≤ p.count ∧ p.count ≤ 160 ∧ 0 ≤ p.spare ∧ p.spare ≤ 99999 ∧ 1 ≤ p.key ∧ p.key ≤ 2147483646 := by
  unfold pickE outside drawE at h
  by_cases h1 : p.count < 0 <;> by_cases h2 : p.count > 160 <;> by_cases h3 : p.spare < 0 <;> by_cases h4 : p.spare > 99999 <;> by_cases h5 : p.key < 1 <;> by_cases h6 : p.key > 2147483646 <;> simp [h1, h2, h3, h4, h5, h6] at h <;> omega

theorem cS_take (ys : List Str) (m : Nat) : (cS ys).take m = cS (ys.take m) := by simp [cS, List.map_take]
/-- A result of the beginning of a slice of the function's own and a number. -/
theorem resV_pre {b g fz : Nat} {ys : List Str} {h : Heap} {m : Nat} (hb : h[b]? = some (.cells g (cS ys) fz)) (hm : m ≤ ys.length) (cap : Option Nat) (v : CV) :
    resV (some (mkTuple [.slice b g 0 m none cap, .c v])) h = some (.tuple [.slice ((ys.take m).map CV.str), v]) := by
  have h1 : mkTuple [.slice b g 0 m none cap, .c v] = .tuple [.slice b g 0 m none cap, .c v] := rfl
  have hf : frz 39 (.slice b g 0 m none cap) h = some (.slice ((ys.take m).map CV.str), bump b (m * szOf none) h) := by
    have hl : m = ((ys.take m).map CV.str).length := by simp; omega
    have h2 := chunk_cellsOf (strElems (ys.take m))
    have h3 := cellsOf_length (strElems (ys.take m))
    rw [frz_39_slice, hb]
    simp only [Nat.zero_add, List.drop_zero]
    have hz : szOf none = 1 := rfl
    rw [hz, if_pos ⟨trivial, by rw [cS_length]; omega⟩, Nat.mul_one, cS_take, ← cellsOf_strs]
    unfold cellsOf
    rw [mapH_map_c 37]
    rw [← hl] at h2
    simp only [bnd_some, h2]
  unfold resV
  rw [bnd_some, h1, frz_tuple]
  simp only [mapH_cons, hf, bnd_some, mapH_nil]
  rfl

theorem S33 (c : List Str) (l : List Tst) (p : Pck) (day : Int) (hc : c.length < 20) (hcl : ∀ x ∈ c, x.length < 9223372036854775807) (hl : (l.length : Int) < 9223372036854775807) (hlo : ∀ x ∈ l, x.ok) (hE : poolE c l p day = 0) :
    fn P 33 [.slice (c.map CV.str), .slice (l.map Tst.enc), p.enc, ci day] = some (.tuple [.slice (((poolA c l p.key p.spare day).take p.count.toNat).map CV.str), ci 0]) := by
  have h := hE
  unfold poolE at h
  simp only [firstE_zK, dated_zK] at h
  obtain ⟨h1, h2, h3, h4, _⟩ := h
  have hday : dated day = 0 := by rw [dated_zK]; exact h4
  have e88 := S88 (P := P) c hcl (by omega)
  have e30 := S30 (P := P) l hlo hl
  have e89 := S89 (P := P) p
  obtain ⟨p1, p2, p3, p4, p5, p6⟩ := pickE_zero h3
  have hd : drawE p.key c.length = 0 := by unfold drawE; rw [if_neg (by omega)]
  have hx := checkTsts_days h2
  have hL := L33 (P := P) c hc (testedM l day) p day p3 p4 h4.1 h4.2 (drawL p.key c.length) [] [] (by simpa using drawL_range p5 p6) (by simp [drawL_length]) (by simp)
  have hp := poolL_eq (c := c) hx p3 (day := day)
  have hys : (((drawL p.key c.length).map (nm c)).filter (unspared (testedM l day) p.spare day)).length ≤ c.length := by
    refine Nat.le_trans (List.length_filter_le ..) ?_
    simp [drawL_length]
  generalize ((drawL p.key c.length).map (nm c)).filter (unspared (testedM l day) p.spare day) = ys at hL hp hys
  have hs := S93 (P := P) (S94 (testedM l day)) (H := [PkB p, .cells 1 [] 0, .dead, .cells 1 [] 0, .cells 1 (cI (drawL p.key c.length)) 0, MpB (testedM l day) 1, .cells 0 [.func 92 [] [.ptr 5 0 0]] 1, .dead]) (b := 7) (g := 1 + ys.length) (by simp) (by omega) ys ys.length (by omega) rfl
  have e0 : cS [] = [] := rfl
  simp [HP, PkB, MpB, mEnc, cmpC, lastC, e0] at hL hs
  rw [hp] at hs
  have e90 := S90 (P := P) p.key c.length hd
  have e91 := S91 (P := P) l day hl
  rw [h1] at e88
  rw [h2] at e30
  rw [h3] at e89
  simp only [mEnc] at e91
  simp [Pck.enc] at e89
  have hlen : (poolA c l p.key p.spare day).length = ys.length := by rw [← hp, sortI_length]; simp
  have hf : ∀ m, m ≤ ys.length → resV (some (mkTuple [.slice 7 (1 + ys.length) 0 m none none, .c (ci 0)])) [.cells 0 [.c (ci p.count), .c (ci p.spare), .c (ci p.key)] 0, .cells 1 [] 0, .dead, .cells 1 [] 0, .cells 1 (cI (drawL p.key c.length)) 0, .cells 0 [.c (.map (mKs (testedM l day)) (mVs (testedM l day)))] 1, .cells 0 [.func 92 [] [.ptr 5 0 0]] 1, .cells (1 + ys.length) (cS (poolA c l p.key p.spare day)) 0] = some (.tuple [.slice (((poolA c l p.key p.spare day).take m).map CV.str), ci 0]) :=
    fun m hm => resV_pre (b := 7) (g := 1 + ys.length) (fz := 0) rfl (by omega) none (ci 0)
  rw [u33]
  by_cases hq : (ys.length : Int) < p.count
  · have hf := hf ys.length (Nat.le_refl _)
    have e1 : (poolA c l p.key p.spare day).take ys.length = (poolA c l p.key p.spare day).take p.count.toNat := by
      rw [List.take_of_length_le (by omega), List.take_of_length_le (by omega)]
    rw [e1] at hf
    simp at hf
    simp [c33, Pck.enc, e88, e30, e89, hday, firstE, e90, e91, LV.shift, shiftL, shiftB, LB.shift, shift_cI, hL, frzFuncs_nil, frzFuncs_c, frzFuncs_slice, frzFuncs_func, frz_func, frz_38_func, frz_37_ptr, hs, foldInt, hq, hf]
  · have hq2 : p.count ≤ ys.length := by omega
    have hf := hf p.count.toNat (by omega)
    simp at hf
    simp [c33, Pck.enc, e88, e30, e89, hday, firstE, e90, e91, LV.shift, shiftL, shiftB, LB.shift, shift_cI, hL, frzFuncs_nil, frzFuncs_c, frzFuncs_slice, frzFuncs_func, frz_func, frz_38_func, frz_37_ptr, hs, foldInt, hq, hq2, p1, hf]
end LM.G9

namespace LM.G9
open Go LM
variable {P : Nat → Option SFunc} [Has P]

theorem L34 (M : Mp) (hM : ∀ k v, mGet k M = some v → 0 ≤ v) (days day : Int) (h0 : 0 ≤ days) (h1 : days ≤ 99999) (h2 : 0 ≤ day) (h3 : day ≤ 99999) : ∀ (c pre : List Str) (ys : List Str), ((pre ++ c).length : Int) < 9223372036854775807 → (ys.length + c.length) * 16 ≤ 2 ^ 47 →
    execS P (limS P) c34_l0 ⟨[.c (ci days), .c (ci day), .c (mEnc M), .slice 1 (1 + ys.length) 0 ys.length none none, .c (.slice ((pre ++ c).map CV.str)), .c (ci (pre ++ c).length), .c (ci pre.length)], [.cells 1 [] 0, .cells (1 + ys.length) (cS ys) 0]⟩ =
      some (.exit 0, ⟨[.slice 1 (1 + (ys ++ c.filter (unspared M days day)).length) 0 (ys ++ c.filter (unspared M days day)).length none none], [.cells 1 [] 0, .cells (1 + (ys ++ c.filter (unspared M days day)).length) (cS (ys ++ c.filter (unspared M days day))) 0]⟩) := by
  intro c
  induction c with
  | nil =>
    intro pre ys h _
    rw [r34_l0]
    simp [c34_l0b]
  | cons x r ih =>
    intro pre ys h hy
    have hw : IntKind.i64.wrap (↑pre.length + 1) = ↑pre.length + 1 := wrap64 (by simp at h; omega) (by simp at h; omega)
    have hw2 : IntKind.i64.wrap (day - days) = day - days := wrap64 (by omega) (by omega)
    have hlt : (pre.length : Int) < pre.length + (r.length + 1) := by omega
    have hk : keyOk (.one 1) (CV.str x) = true := rfl
    have hf := findK_mp x M
    have hu : unspared M days day x = (decide (mLast M x < 0) || decide (mLast M x < day - days)) := rfl
    have e : (x :: r).filter (unspared M days day) = if unspared M days day x then x :: r.filter (unspared M days day) else r.filter (unspared M days day) := by rw [List.filter_cons]
    have ihA := ih (pre ++ [x]) (ys ++ [x]) (by simpa using h) (by simp at hy ⊢; omega)
    have ihB := ih (pre ++ [x]) ys (by simpa using h) (by simp at hy ⊢; omega)
    have ha := append_own (b := 1) (g := 1 + ys.length) (bytes := 16) (e := none) (ys := ys.map CV.str) (xs := [.str x]) (h := [.cells 1 [] 0, .cells (1 + ys.length) (cellsOf (ys.map CV.str)) 0]) (len := ys.length) (fz := 0) rfl (strElems _) (by simpa using strElem x) (by simp) (Nat.zero_le _) (by simp) (by simp at hy ⊢; omega) (by simp at hy ⊢; omega)
    rw [cellsOf_strs] at ha
    have e1 : ys.map CV.str ++ [CV.str x] = (ys ++ [x]).map CV.str := by simp
    rw [e1, cellsOf_strs] at ha
    have e2 : 1 + (ys.length + 1) = 1 + ys.length + 1 := by omega
    rw [e, hu, r34_l0]
    simp [e2, mEnc] at ihA ihB ha
    unfold mLast
    cases hi : mIdx x M with
    | none =>
      rw [hi] at hf
      rw [mIdx_none hi]
      simp [c34_l0b, hw, hw2, hlt, mEnc, hk, hf, ha, ihA]
    | some i =>
      rw [hi] at hf
      obtain ⟨v, hv, hg⟩ := mIdx_some hi
      have hv2 : (mVs M)[i]? = some (ci v) := by simp [mVs, hv]
      have hv0 : ¬ v < 0 := by have := hM x v hg; omega
      rw [hg]
      by_cases q : v < day - days
      · simp [c34_l0b, hw, hw2, hlt, mEnc, hk, hf, hv2, hv0, q, ha, ihA]
      · simp [c34_l0b, hw, hw2, hlt, mEnc, hk, hf, hv2, hv0, q, ihB]

def lateE (c : List Str) (l : List Tst) (days day : Int) : Int := firstE [onceL 160 c, checkTsts l, dated days, dated day]
theorem S34 (c : List Str) (l : List Tst) (days day : Int) (hc : c.length * 16 ≤ 2 ^ 47) (hcl : ∀ x ∈ c, x.length < 9223372036854775807) (hl : (l.length : Int) < 9223372036854775807) (hlo : ∀ x ∈ l, x.ok) (hE : lateE c l days day = 0) :
    fn P 34 [.slice (c.map CV.str), .slice (l.map Tst.enc), ci days, ci day] = some (.tuple [.slice ((lateL c l days day).map CV.str), ci 0]) := by
  have h := hE
  unfold lateE at h
  simp only [firstE_zK, dated_zK] at h
  obtain ⟨h1, h2, h3, h4, _⟩ := h
  have hday : dated day = 0 := by rw [dated_zK]; exact h4
  have hdays : dated days = 0 := by rw [dated_zK]; exact h3
  have e88 := S88 (P := P) c hcl (by omega)
  have e30 := S30 (P := P) l hlo hl
  have e91 := S91 (P := P) l day hl
  have hx := checkTsts_days h2
  rw [h1] at e88
  rw [h2] at e30
  simp only [mEnc] at e91
  have hM : ∀ k v, mGet k (testedM l day) = some v → 0 ≤ v := by
    intro k v hkv
    rcases tested_last l k day hx with ⟨q, _⟩ | ⟨q, q2⟩
    · rw [q] at hkv; cases hkv
    · rw [q] at hkv; cases hkv; exact q2
  have hL := L34 (P := P) (testedM l day) hM days day h3.1 h3.2 h4.1 h4.2 c [] [] (by simp; omega) (by simpa using hc)
  have hfl : c.filter (unspared (testedM l day) days day) = lateL c l days day := by
    unfold lateL
    refine List.filter_congr fun s _ => ?_
    unfold unspared
    rw [mLast_lastT hx day s, ← Bool.decide_or]
    exact decide_eq_decide.2 (last_spared hx h3.1).symm
  have e0 : cS [] = [] := rfl
  simp [hfl, e0, mEnc] at hL
  have hr := resV_pre (b := 1) (g := 1 + (lateL c l days day).length) (fz := 0) (ys := lateL c l days day) (h := [.cells 1 [] 0, .cells (1 + (lateL c l days day).length) (cS (lateL c l days day)) 0]) (m := (lateL c l days day).length) rfl (Nat.le_refl _) none (ci 0)
  simp at hr
  rw [u34]
  simp [c34, e88, e30, hday, hdays, firstE, e91, hL, hr]
end LM.G9

namespace LM.G9
open Go LM
variable {P : Nat → Option SFunc} [Has P]

@[simp] theorem S21 (b : Bool) (e : Int) : fn P 21 [.bool b, ci e] = some (ci (whenE b e)) := by
  rw [u21]; cases b <;> simp [c21, whenE]

end LM.G9

namespace LM.G9
open Go LM
variable {P : Nat → Option SFunc} [Has P]

@[simp] theorem S23 (d : Int) : fn P 23 [ci d] = some (ci (dated d)) := by
  rw [u23]; simp [c23, dated]

end LM.G9

namespace LM.G9
open Go LM
variable {P : Nat → Option SFunc} [Has P] [HasP P]

structure Drw where
  pick : Pck
  days : Int
  day : Int
def Drw.enc (d : Drw) : CV := .agg [ci d.pick.count, ci d.pick.spare, ci d.pick.key, ci d.days, ci d.day]

def HD (p : Drw) (n : Nat) : Heap := [.cells 0 [.c (ci p.pick.count), .c (ci p.pick.spare), .c (ci p.pick.key), .c (ci p.days), .c (ci p.day)] 0, .cells 0 [.c (ci n), .c (ci p.pick.spare), .c (ci p.pick.key)] 0]

theorem L9_0 (p : Drw) (n : Nat) (C L LT : CV) (T : List Str) : ∀ (r pre : List Str), ((pre ++ r).length : Int) < 9223372036854775807 →
    execS P (limS P) c9_l0 ⟨[.c C, .c L, .ptr 0 0 0, .c (.slice ((pre ++ r).map CV.str)), .c (.slice ((pre ++ r ++ T).map CV.str)), .c LT, .c (ci (pre ++ r).length), .c (ci pre.length)], HD p n⟩ =
      some (.exit 0, ⟨[.c C, .c L, .ptr 0 0 0, .c (.slice ((pre ++ r ++ T).map CV.str)), .c LT], HD p n⟩) := by
  intro r
  induction r with
  | nil =>
    intro pre h
    rw [r9_l0]
    simp [c9_l0b]
  | cons x r ih =>
    intro pre h
    have ih := ih (pre ++ [x]) (by simpa using h)
    simp at ih h
    have hw : IntKind.i64.wrap (↑pre.length + 1) = ↑pre.length + 1 := wrap64 (by omega) (by omega)
    have hlt : (pre.length : Int) < pre.length + (r.length + 1) := by omega
    rw [r9_l0]
    simp [HD] at ih ⊢
    simp [c9_l0b, hw, hlt, ih]

theorem L9_1 (p : Drw) (n : Nat) (C B LT : CV) (b4 : Int) (name : Str) (N I : CV) : ∀ (r pre : List Tst) (acc : Int), ((pre ++ r).length : Int) < 9223372036854775807 → (∀ x ∈ r, 0 ≤ x.day) →
    execS P (limS P) c9_l1 ⟨[.c C, .c (.slice ((pre ++ r).map Tst.enc)), .ptr 0 0 0, .c B, .c LT, .c (ci b4), .c (.str name), .c (ci acc), .c B, .c N, .c I, .c (.slice ((pre ++ r).map Tst.enc)), .c (ci (pre ++ r).length), .c (ci pre.length)], HD p n⟩ =
      some (.exit 4, ⟨[.c C, .c (.slice ((pre ++ r).map Tst.enc)), .ptr 0 0 0, .c B, .c LT, .c (ci b4), .c (ci (r.foldl (lastF name 0 p.day) acc)), .c B, .c N, .c I], HD p n⟩) := by
  intro r
  induction r with
  | nil =>
    intro pre acc h _
    rw [r9_l1]
    simp [c9_l1b]
  | cons x r ih =>
    intro pre acc h hx
    have ih := fun acc => ih (pre ++ [x]) acc (by simpa using h) (fun y hy => hx y (by simp [hy]))
    have hx0 : 0 ≤ x.day := hx x (by simp)
    simp [Tst.enc] at ih h
    have hw : IntKind.i64.wrap (↑pre.length + 1) = ↑pre.length + 1 := wrap64 (by omega) (by omega)
    have hlt : (pre.length : Int) < pre.length + (r.length + 1) := by omega
    have e : lastF name 0 p.day acc x = if x.name = name ∧ 0 ≤ x.day ∧ x.day ≤ p.day then max acc x.day else acc := rfl
    rw [r9_l1]
    simp [HD] at ih ⊢
    by_cases h1 : x.name = name
    · subst h1
      by_cases h3 : x.day ≤ p.day
      · have hm : (if acc < x.day then x.day else acc) = max acc x.day := by split <;> omega
        simp [hx0, h3] at e
        simp [c9_l1b, hw, hlt, Tst.enc, h3, e, foldInt, hm, ih]
      · simp [h3] at e
        simp [c9_l1b, hw, hlt, Tst.enc, h3, e, ih]
    · simp [h1] at e
      simp [c9_l1b, hw, hlt, Tst.enc, h1, e, ih]

theorem L9_2 (p : Drw) (n : Nat) (C : CV) (l : List Tst) (late : List Str) (hl : (l.length : Int) < 9223372036854775807) (hlate : (late.length : Int) < 9223372036854775807) (hx : ∀ x ∈ l, 0 ≤ x.day) (h0 : 0 ≤ p.pick.spare) (h1 : p.pick.spare ≤ 99999) (h2 : 0 ≤ p.day) (h3 : p.day ≤ 99999) :
    ∀ (r pre : List Str) (b4 : Int), ((pre ++ r).length : Int) < 9223372036854775807 → (pre ++ r).Nodup → (∀ s ∈ r, s ∈ late) → Srt (fun s => lastT l s 0 p.day) r → (∀ s ∈ r, b4 ≤ lastT l s 0 p.day) → (∀ s ∈ r, lastT l s 0 p.day < 0 ∨ lastT l s 0 p.day < p.day - p.pick.spare) →
    execS P (limS P) c9_l2 ⟨[.c C, .c (.slice (l.map Tst.enc)), .ptr 0 0 0, .c (.slice ((pre ++ r).map CV.str)), .c (.slice (late.map CV.str)), .c (ci b4), .c (.slice ((pre ++ r).map CV.str)), .c (ci (pre ++ r).length), .c (ci pre.length)], HD p n⟩ =
      some (.exit 2, ⟨[.c C, .c (.slice (late.map CV.str))], HD p n⟩) := by
  intro r
  induction r with
  | nil =>
    intro pre b4 h _ _ _ _ _
    rw [r9_l2]
    simp [c9_l2b]
  | cons x r ih =>
    intro pre b4 h hn hi hs hb hsp
    have ih := ih (pre ++ [x]) (lastT l x 0 p.day) (by simpa using h) (by simpa using hn) (fun s q => hi s (by simp [q])) (List.pairwise_cons.1 hs).2 (List.pairwise_cons.1 hs).1 (fun s q => hsp s (by simp [q]))
    have hb0 := hb x (by simp)
    have hs0 := hsp x (by simp)
    have a1 : late.any (Str.is x) = true := by
      rw [List.any_eq_true]
      exact ⟨x, hi x (by simp), by simp [Str.is]⟩
    have a2 : pre.any (Str.is x) = false := by
      rw [List.any_eq_false]
      intro y hy q
      have q : y = x := by simpa [Str.is] using q
      subst q
      rw [List.nodup_append] at hn
      exact hn.2.2 y hy y (by simp) rfl
    have e1 := S58 (P := P) x late hlate
    have e2 := S58 (P := P) x pre (by simp at h; omega)
    rw [a1] at e1
    rw [a2] at e2
    have hL := L9_1 (P := P) p n C (.slice ((pre ++ x :: r).map CV.str)) (.slice (late.map CV.str)) b4 x (ci (pre ++ x :: r).length) (ci pre.length) l [] (-1) (by simpa using hl) hx
    have eT : l.foldl (lastF x 0 p.day) (-1) = lastT l x 0 p.day := rfl
    rw [eT] at hL
    simp at ih h hL
    have hw : IntKind.i64.wrap (↑pre.length + 1) = ↑pre.length + 1 := wrap64 (by omega) (by omega)
    have hw2 : IntKind.i64.wrap (p.day - p.pick.spare) = p.day - p.pick.spare := wrap64 (by omega) (by omega)
    have hlt : (pre.length : Int) < pre.length + (r.length + 1) := by omega
    have hle : (pre.length : Int) ≤ pre.length + (r.length + 1) := by omega
    have hz : szFits 1 (List.map CV.str pre ++ CV.str x :: List.map CV.str r) = true := by cases pre <;> rfl
    have hb1 : ¬ lastT l x 0 p.day < b4 := by omega
    rw [r9_l2]
    simp [HD] at ih hL ⊢
    by_cases q : lastT l x 0 p.day < 0
    · have q' : ¬ 0 ≤ lastT l x 0 p.day := by omega
      simp [c9_l2b, hw, hw2, hlt, hle, e1, e2, hz, hL, hb1, q', ih]
    · have q' : 0 ≤ lastT l x 0 p.day := by omega
      have q2 : ¬ p.day - p.pick.spare ≤ lastT l x 0 p.day := by omega
      simp [c9_l2b, hw, hw2, hlt, hle, e1, e2, hz, hL, hb1, q', q2, ih]

theorem L9_3 (p : Drw) (n : Nat) (c : List Str) (hc : (c.length : Int) < 9223372036854775807) : ∀ (r pre : List Str), ((pre ++ r).length : Int) < 9223372036854775807 → (∀ s ∈ r, s ∈ c) →
    execS P (limS P) c9_l3 ⟨[.c (.slice (c.map CV.str)), .c (.slice ((pre ++ r).map CV.str)), .c (ci (pre ++ r).length), .c (ci pre.length)], HD p n⟩ = some (.exit 6, ⟨[], HD p n⟩) := by
  intro r
  induction r with
  | nil =>
    intro pre h _
    rw [r9_l3]
    simp [c9_l3b]
  | cons x r ih =>
    intro pre h hi
    have ih := ih (pre ++ [x]) (by simpa using h) (fun s q => hi s (by simp [q]))
    have a1 : c.any (Str.is x) = true := by
      rw [List.any_eq_true]
      exact ⟨x, hi x (by simp), by simp [Str.is]⟩
    have e1 := S58 (P := P) x c hc
    rw [a1] at e1
    simp at ih h
    have hw : IntKind.i64.wrap (↑pre.length + 1) = ↑pre.length + 1 := wrap64 (by omega) (by omega)
    have hlt : (pre.length : Int) < pre.length + (r.length + 1) := by omega
    rw [r9_l3]
    simp [HD] at ih ⊢
    simp [c9_l3b, hw, hlt, e1, ih]

theorem eachE_nn {α : Type} {chk : List α → α → Int} (h : ∀ p x, 0 ≤ chk p x) : ∀ l pre, 0 ≤ eachE chk pre l
  | [], _ => by simp [eachE]
  | x :: r, pre => by
    rw [eachE]
    split
    · exact h _ _
    · exact eachE_nn h r _
theorem eachE_le {α : Type} {chk : List α → α → Int} (h : ∀ p x, chk p x ≤ 100) : ∀ l pre, eachE chk pre l ≤ 100
  | [], _ => by simp [eachE]
  | x :: r, pre => by
    rw [eachE]
    split
    · exact h _ _
    · exact eachE_le h r _
theorem once_range (p : List Str) (x : Str) : 0 ≤ once p x ∧ once p x ≤ 100 := by
  unfold once named whenE
  cases isName x <;> cases p.any (Str.is x) <;> simp [firstE]
theorem onceL_range (m : Int) (l : List Str) : 0 ≤ onceL m l ∧ onceL m l ≤ 100 := by
  unfold onceL
  split
  · omega
  · exact ⟨eachE_nn (fun p x => (once_range p x).1) _ _, eachE_le (fun p x => (once_range p x).2) _ _⟩
theorem checkTsts_range (l : List Tst) : 0 ≤ checkTsts l ∧ checkTsts l ≤ 100 := by
  have h : ∀ x : Tst, 0 ≤ checkTst x ∧ checkTst x ≤ 100 := by
    intro x
    rw [checkTst_eq]
    split
    · omega
    · split <;> omega
  unfold checkTsts
  split
  · omega
  · exact ⟨eachE_nn (fun _ x => (h x).1) _ _, eachE_le (fun _ x => (h x).2) _ _⟩

theorem onceL_nodup {c : List Str} (h : onceL 160 c = 0) : c.Nodup := by
  unfold onceL at h
  split at h
  · cases h
  · have key : ∀ (l pre : List Str), eachE once pre l = 0 → pre.Nodup → (pre ++ l).Nodup := by
      intro l
      induction l with
      | nil => intro pre _ h; simpa using h
      | cons x r ih =>
        intro pre h hp
        rw [eachE] at h
        split at h
        · rename_i q; exact absurd h q
        · rename_i q
          have q : once pre x = 0 := by simpa using q
          rw [once_eq] at q
          have hx : x ∉ pre := by
            intro hm
            have : pre.any (Str.is x) = true := List.any_eq_true.2 ⟨x, hm, by simp [Str.is]⟩
            rw [this] at q
            split at q <;> simp at q
          have := ih (pre ++ [x]) h (by
            rw [List.nodup_append]
            refine ⟨hp, by simp, ?_⟩
            intro a ha b hb e
            simp at hb
            subst hb
            exact hx (e ▸ ha))
          simpa using this
    have := key c [] h (by simp)
    simpa using this

theorem S9 (h14 : fn P 14 [] = some (.bool true)) (c : List Str) (l : List Tst) (p : Drw) (hc : (c.length : Int) < 9223372036854775807) (hcl : ∀ x ∈ c, x.length < 9223372036854775807) (hl : l.length * 24 ≤ 2 ^ 47) (hlo : ∀ x ∈ l, x.ok) :
    fn P 9 [.slice (c.map CV.str), .slice (l.map Tst.enc), p.enc] = some (.bool true) := by
  have e28 := S28 (P := P) l hl
  have e29 := S29 (P := P) c l hc (by omega)
  have e32 := S32 (P := P) c hc
  have e31 := S31 (P := P) l (by omega)
  have e35 := S35 (P := P) p.pick
  have w0 : IntKind.i64.wrap 0 = 0 := wrap64 (by omega) (by omega)
  have e23 := S23 (P := P) p.day
  have r1 := onceL_range 160 c
  have r2 := checkTsts_range l
  simp [Pck.enc] at e35
  rw [u9]
  by_cases g1 : (12 : Int) < c.length
  · simp [c9, Drw.enc, Pck.enc, e28, h14, g1]
  · by_cases g2 : (20 : Int) < l.length
    · simp [c9, Drw.enc, Pck.enc, e28, h14, g1, g2]
    · cases g3 : shortTsts c l
      · rw [g3] at e29
        simp [c9, Drw.enc, Pck.enc, e28, h14, g1, g2, e29]
      · rw [g3] at e29
        by_cases g4 : onceL 160 c + checkTsts l = 0
        · have g5 : onceL 160 c = 0 := by omega
          have g6 : checkTsts l = 0 := by omega
          rw [g5] at e32
          rw [g6] at e31
          by_cases g7 : pickE p.pick = 0
          · rw [g7] at e35
            by_cases g8 : dated p.day = 0
            · have g8' := g8
              rw [dated_zK] at g8'
              obtain ⟨p1, p2, p3, p4, p5, p6⟩ := pickE_zero g7
              have hsp : dated p.pick.spare = 0 := by rw [dated_zK]; omega
              have g7' : pickE { count := c.length, spare := p.pick.spare, key := p.pick.key } = 0 := by
                unfold pickE outside drawE
                simp
                omega
              have a1 := S33 (P := P) c l p.pick p.day (by omega) hcl (by omega) hlo (by simp [poolE, firstE, g5, g6, g7, g8])
              have a2 := S33 (P := P) c l { count := c.length, spare := p.pick.spare, key := p.pick.key } p.day (by omega) hcl (by omega) hlo (by simp [poolE, firstE, g5, g6, g7', g8])
              have a3 := S34 (P := P) c l p.pick.spare p.day (by omega) hcl (by omega) hlo (by simp [lateE, firstE, g5, g6, hsp, g8])
              have hlen := poolA_length (c := c) (l := l) (spare := p.pick.spare) (day := p.day) p5 p6
              have hle := lateL_le c l p.pick.spare p.day
              have ht : (poolA c l p.pick.key p.pick.spare p.day).take c.length = poolA c l p.pick.key p.pick.spare p.day := List.take_of_length_le (by omega)
              obtain ⟨A, T, hAT, hA⟩ : ∃ A T, poolA c l p.pick.key p.pick.spare p.day = A ++ T ∧ (poolA c l p.pick.key p.pick.spare p.day).take p.pick.count.toNat = A := ⟨_, _, (List.take_append_drop _ _).symm, rfl⟩
              have hmin : (A.length : Int) = if (lateL c l p.pick.spare p.day).length < p.pick.count then ((lateL c l p.pick.spare p.day).length : Int) else p.pick.count := by
                rw [← hA, List.length_take, hlen]
                split <;> omega
              rw [hA] at a1
              simp only [Int.toNat_natCast, ht] at a2
              rw [hAT] at a2 hlen
              simp [Pck.enc] at a1 a2 hlen
              have hlen' : (A.length : Int) + T.length = (lateL c l p.pick.spare p.day).length := by omega
              have hx := checkTsts_days g6
              have hB := poolA_perm (c := c) (l := l) (spare := p.pick.spare) (day := p.day) p5 p6
              have hS := poolA_sorted c l p.pick.key p.pick.spare p.day
              rw [hAT] at hB hS
              have hN : (A ++ T).Nodup := hB.nodup_iff.2 ((onceL_nodup g5).sublist List.filter_sublist)
              have hin : ∀ s ∈ A ++ T, s ∈ lateL c l p.pick.spare p.day := fun s q => hB.mem_iff.1 q
              have hspr : ∀ s ∈ A ++ T, lastT l s 0 p.day < 0 ∨ lastT l s 0 p.day < p.day - p.pick.spare := fun s q => (last_spared hx p3).1 (of_decide_eq_true (List.mem_filter.1 (hin s q)).2)
              have hge : ∀ s ∈ A ++ T, -1 ≤ lastT l s 0 p.day := fun s _ => (lastF_spec s 0 p.day l (-1)).1
              have k0 := L9_0 (P := P) p c.length (.slice (c.map CV.str)) (.slice (l.map Tst.enc)) (.slice ((lateL c l p.pick.spare p.day).map CV.str)) T A [] (by simp; omega)
              have k2 := L9_2 (P := P) p c.length (.slice (c.map CV.str)) l (lateL c l p.pick.spare p.day) (by omega) (by omega) hx p3 p4 g8'.1 g8'.2 (A ++ T) [] (-1) (by simp; omega) (by simpa using hN) hin hS hge hspr
              have k3 := L9_3 (P := P) p c.length c hc (lateL c l p.pick.spare p.day) [] (by simp; omega) (fun s q => (List.mem_filter.1 q).1)
              simp [HD, hlen'] at k0 k2 k3
              simp [c9, Drw.enc, Pck.enc, e28, h14, g1, g2, e29, e32, e31, e35, w0, e23, g8, a1, a2, a3, foldInt, hlen', ← hmin, k0, k2, k3]
            · simp [c9, Drw.enc, Pck.enc, e28, h14, g1, g2, e29, e32, e31, e35, w0, e23, g8]
          · simp [c9, Drw.enc, Pck.enc, e28, h14, g1, g2, e29, e32, e31, e35, w0, g7]
        · have hw : IntKind.i64.wrap (onceL 160 c + checkTsts l) = onceL 160 c + checkTsts l := wrap64 (by omega) (by omega)
          simp [c9, Drw.enc, Pck.enc, e28, h14, g1, g2, e29, e32, e31, hw, g4]
end LM.G9

