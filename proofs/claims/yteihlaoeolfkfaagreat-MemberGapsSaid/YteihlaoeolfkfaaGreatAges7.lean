/- Part 10 of what YteihlaoeolfkfaaGreatAges leans on. -/
import Derived.Test.YteihlaoeolfkfaaGreatRows
import Derived.WalkKit
import Derived.ProofKit
import Derived.SizedLaws
import Derived.Test.YteihlaoeolfkfaaGreatLib1
import Derived.Test.YteihlaoeolfkfaaGreatLib2
import Derived.Test.YteihlaoeolfkfaaGreatLib3
import Derived.Test.YteihlaoeolfkfaaGreatAges1
import Derived.Test.YteihlaoeolfkfaaGreatAges2
import Derived.Test.YteihlaoeolfkfaaGreatAges3
import Derived.Test.YteihlaoeolfkfaaGreatAges4
import Derived.Test.YteihlaoeolfkfaaGreatAges5
import Derived.Test.YteihlaoeolfkfaaGreatAges6
set_option linter.all false
namespace Go.Proofs.YteihlaoeolfkfaaGreat
open Go.ChangeShapes Go.WideShapes Go.ChangeAt Go.RowKit

theorem own_knob : ownKnob Tryz.prog.godebug = none := by kernel_rfl
theorem laid_out : laidOutB Tryz.prog = true := by kernel_rfl
theorem maps_rowed : mapsRowed Tryz.prog = true := by kernel_rfl
theorem slices_full : LM.slicesFullB Tryz.prog = true := by kernel_rfl

theorem typed_map {α : Type} {enc : α → LM.CV} {p : α → Prop} {e : LM.CTy} (h : ∀ x, LM.Typed e x → ∃ a, x = enc a ∧ p a) : ∀ {xs : List LM.CV}, (∀ x ∈ xs, LM.Typed e x) → ∃ l : List α, xs = l.map enc ∧ ∀ a ∈ l, p a
  | [], _ => ⟨[], rfl, by simp⟩
  | x :: xs, hx => by
    obtain ⟨a, ha, hp⟩ := h x (hx x (by simp))
    obtain ⟨l, hl, hq⟩ := typed_map h (xs := xs) fun y hy => hx y (by simp [hy])
    exact ⟨a :: l, by rw [ha, hl]; rfl, fun b hb => by rcases List.mem_cons.1 hb with rfl | hb; exact hp; exact hq b hb⟩

theorem typed_slice {α : Type} {enc : α → LM.CV} {p : α → Prop} {e : LM.CTy} {b : Nat} (h : ∀ x, LM.Typed e x → ∃ a, x = enc a ∧ p a) {v : LM.CV} (hv : LM.Typed (.slice b e) v) : ∃ l : List α, v = .slice (l.map enc) ∧ (∀ a ∈ l, p a) ∧ l.length * b ≤ 2 ^ 47 := by
  simp only [LM.Typed] at hv
  obtain ⟨xs, rfl, _, hb, hx⟩ := hv
  obtain ⟨l, rfl, hp⟩ := typed_map h hx
  refine ⟨l, rfl, hp, ?_⟩
  rw [List.length_map] at hb
  exact Nat.le_trans hb (by decide)

theorem typed_str {v : LM.CV} (hv : LM.Typed .str v) : ∃ s : LM.Str, v = .str s ∧ s.length < 9223372036854775807 := by
  simp only [LM.Typed] at hv
  obtain ⟨s, rfl, h⟩ := hv
  exact ⟨s, rfl, Nat.lt_of_le_of_lt h (by decide)⟩

theorem typed_int {v : LM.CV} (hv : LM.Typed (.int .i64) v) : ∃ n, v = LM.ci n ∧ -9223372036854775808 ≤ n ∧ n ≤ 9223372036854775807 := by
  simp only [LM.Typed] at hv
  obtain ⟨n, rfl, h⟩ := hv
  refine ⟨n, rfl, ?_⟩
  simp [Lit.wf, IntKind.min, IntKind.max, IntKind.bits, IntKind.signed] at h
  omega

end Go.Proofs.YteihlaoeolfkfaaGreat

namespace LM.G9
open Go LM
variable {P : Nat → Option SFunc} [Has P]

@[simp] theorem S54 (n a b : Int) : fn P 54 [ci n, ci a, ci b] = some (.bool (outside n a b)) := by
  rw [u54]; simp [c54, outside]

@[simp] theorem S105 (n a b : Int) : fn P 105 [ci n, ci a, ci b] = some (.bool (outside n a b)) := by
  rw [u105]; simp [c105, outside]

@[simp] theorem S82 (b : Bool) (e : Int) : fn P 82 [.bool b, ci e] = some (ci (whenE b e)) := by
  rw [u82]; cases b <;> simp [c82, whenE]

@[simp] theorem S81 (d : Int) : fn P 81 [ci d] = some (ci (dated d)) := by
  rw [u81]; simp [c81, dated]

@[simp] theorem S150 (c : Nat) : fn P 150 [.int .i32 c] = some (.bool (letterN c)) := by
  rw [u150]; simp [c150, letterN]
  rw [show decide ((97 : Int) ≤ c) = decide (97 ≤ c) from decide_eq_decide.2 (by omega), show decide ((c : Int) ≤ 122) = decide (c ≤ 122) from decide_eq_decide.2 (by omega),
    show decide ((65 : Int) ≤ c) = decide (65 ≤ c) from decide_eq_decide.2 (by omega), show decide ((c : Int) ≤ 90) = decide (c ≤ 90) from decide_eq_decide.2 (by omega)]

theorem L79 : ∀ (l pre : List Int), (l.length : Int) + pre.length < 9223372036854775807 → execS P (limS P) c79_l0 ⟨[.c (.slice ((pre ++ l).map ci)), .c (ci (pre ++ l).length), .c (ci pre.length)], []⟩ = if firstE l = 0 then some (.exit 0, ⟨[], []⟩) else some (.ret, ⟨[.c (ci (firstE l))], []⟩) := by
  intro l
  induction l with
  | nil =>
    intro pre h
    rw [r79_l0]
    simp [c79_l0b, firstE]
  | cons c r ih =>
    intro pre h
    have ih := ih (pre ++ [c]) (by simp at h ⊢; omega)
    simp at ih h
    have hw : IntKind.i64.wrap (↑pre.length + 1) = ↑pre.length + 1 := wrap64 (by omega) (by omega)
    have hlt : (pre.length : Int) < pre.length + (r.length + 1) := by omega
    rw [r79_l0]
    by_cases hc : c = 0
    · subst hc
      simp [c79_l0b, firstE, hw, hlt, ih]
    · simp [c79_l0b, firstE, hw, hlt, hc]

@[simp] theorem S79 (l : List Int) (h : l.length < 9223372036854775807) : fn P 79 [.slice (l.map ci)] = some (ci (firstE l)) := by
  have := L79 (P := P) l [] (by simp; omega)
  rw [u79]
  simp at this
  simp [c79, this]
  by_cases hc : firstE l = 0 <;> simp [hc]

@[simp] theorem S79_1 (a : Int) : fn P 79 [.slice [ci a]] = some (ci (firstE [a])) := S79 [a] (by simp)
@[simp] theorem S79_2 (a b : Int) : fn P 79 [.slice [ci a, ci b]] = some (ci (firstE [a, b])) := S79 [a, b] (by simp)
@[simp] theorem S79_3 (a b c : Int) : fn P 79 [.slice [ci a, ci b, ci c]] = some (ci (firstE [a, b, c])) := S79 [a, b, c] (by simp)
@[simp] theorem S79_4 (a b c d : Int) : fn P 79 [.slice [ci a, ci b, ci c, ci d]] = some (ci (firstE [a, b, c, d])) := S79 [a, b, c, d] (by simp)
@[simp] theorem S79_5 (a b c d e : Int) : fn P 79 [.slice [ci a, ci b, ci c, ci d, ci e]] = some (ci (firstE [a, b, c, d, e])) := S79 [a, b, c, d, e] (by simp)

theorem L20 : ∀ (l pre : List Int), (l.length : Int) + pre.length < 9223372036854775807 → execS P (limS P) c20_l0 ⟨[.c (.slice ((pre ++ l).map ci)), .c (ci pre.length)], []⟩ = if firstE l = 0 then some (.exit 0, ⟨[], []⟩) else some (.ret, ⟨[.c (ci (firstE l))], []⟩) := by
  intro l
  induction l with
  | nil =>
    intro pre h
    rw [r20_l0]
    simp [c20_l0b, firstE]
  | cons c r ih =>
    intro pre h
    have ih := ih (pre ++ [c]) (by simp at h ⊢; omega)
    simp at ih h
    have hw : IntKind.i64.wrap (↑pre.length + 1) = ↑pre.length + 1 := wrap64 (by omega) (by omega)
    have hlt : (pre.length : Int) < pre.length + (r.length + 1) := by omega
    rw [r20_l0]
    by_cases hc : c = 0
    · subst hc
      simp [c20_l0b, firstE, hw, hlt, ih]
    · simp [c20_l0b, firstE, hw, hlt, hc]

@[simp] theorem S20 (l : List Int) (h : l.length < 9223372036854775807) : fn P 20 [.slice (l.map ci)] = some (ci (firstE l)) := by
  have := L20 (P := P) l [] (by simp; omega)
  rw [u20]
  simp at this
  simp [c20, this]
  by_cases hc : firstE l = 0 <;> simp [hc]

@[simp] theorem S20_2 (a b : Int) : fn P 20 [.slice [ci a, ci b]] = some (ci (firstE [a, b])) := S20 [a, b] (by simp)
@[simp] theorem S20_3 (a b c : Int) : fn P 20 [.slice [ci a, ci b, ci c]] = some (ci (firstE [a, b, c])) := S20 [a, b, c] (by simp)
@[simp] theorem S20_4 (a b c d : Int) : fn P 20 [.slice [ci a, ci b, ci c, ci d]] = some (ci (firstE [a, b, c, d])) := S20 [a, b, c, d] (by simp)

theorem L22 (s : Str) (hs : s.length ≤ 24) : ∀ (l pre : Str), s = pre ++ l → execS P (limS P) c22_l0 ⟨[.c (.str s), .c (ci pre.length)], []⟩ = if nameFrom pre.length l then some (.exit 0, ⟨[], []⟩) else some (.ret, ⟨[.c (.bool false)], []⟩) := by
  intro l
  induction l with
  | nil =>
    intro pre h
    rw [r22_l0]
    simp [c22_l0b, h, nameFrom]
  | cons c r ih =>
    intro pre h
    have ih := ih (pre ++ [c]) (by simp [h])
    simp at ih
    rw [h] at hs
    simp at hs
    have hw : IntKind.i64.wrap (↑pre.length + 1) = ↑pre.length + 1 := wrap64 (by omega) (by omega)
    have hlt : (pre.length : Int) < pre.length + (r.length + 1) := by omega
    have hn : (((↑c.toNat : Int) < 97 ∨ 122 < (↑c.toNat : Int)) ∧ ((↑c.toNat : Int) < 65 ∨ 90 < (↑c.toNat : Int))) ∧ (pre = [] ∨ ((↑c.toNat : Int) < 48 ∨ 57 < (↑c.toNat : Int)) ∧ ¬(↑c.toNat : Int) = 95) ↔ nameN pre.length c.toNat = false := by
      have hp : pre = [] ↔ pre.length = 0 := by simp
      unfold nameN letterN digitN
      cases pre with
      | nil => simp; omega
      | cons x y => simp; omega
    rw [r22_l0]
    simp [c22_l0b, h, nameFrom, hw, hlt, hn]
    rw [← h, ih]
    cases nameN pre.length c.toNat <;> simp

@[simp] theorem S22 (s : Str) : fn P 22 [.str s] = some (.bool (isName s)) := by
  rw [u22]
  by_cases h1 : s.length < 1
  · have : s = [] := List.eq_nil_of_length_eq_zero (by omega)
    subst this
    simp [c22, isName]
  · by_cases h2 : s.length > 24
    · have h3 : ¬ (s.length : Int) < 1 := by omega
      have h4 : (24 : Int) < (s.length : Int) := by omega
      have h5 : ¬ s.length ≤ 24 := by omega
      simp [c22, isName, h3, h4, h5]
    · have := L22 (P := P) s (by omega) s [] rfl
      simp at this
      have h3 : ¬ (s.length : Int) < 1 := by omega
      have h4 : ¬ (24 : Int) < (s.length : Int) := by omega
      have h5 : s.length ≤ 24 := by omega
      have h6 : 1 ≤ s.length := by omega
      simp [c22, isName, h3, h4, h5, h6, this]
      cases nameFrom 0 s <;> simp

theorem L132 (s : Str) (hs : s.length < 9223372036854775807) : ∀ (l pre : Str), s = pre ++ l → ∃ q, execS P (limS P) c132_l0 ⟨[.c (.str s), .ptr 0 0 0], [.iter s pre.length]⟩ = if nameFrom pre.length l then some (.exit 0, ⟨[.c (.str s)], [.iter s s.length]⟩) else some (.ret, ⟨[.c (.bool false)], [.iter s q]⟩) := by
  intro l
  induction l with
  | nil =>
    intro pre h
    refine ⟨0, ?_⟩
    rw [r132_l0]
    simp [c132_l0b, h, nameFrom]
  | cons c r ih =>
    intro pre h
    obtain ⟨q, ih⟩ := ih (pre ++ [c]) (by simp [h])
    simp at ih
    have hc : s[pre.length]? = some c := by simp [h]
    rw [r132_l0]
    rcases Nat.lt_or_ge c.toNat 128 with hlo | hhi
    · have hd := decode_lo hc hlo
      rw [h] at hd
      have hn : (letterN c.toNat = false ∧ (pre = [] ∨ ¬(↑c.toNat : Int) = 95 ∧ ((↑c.toNat : Int) < 48 ∨ 57 < (↑c.toNat : Int)))) ↔ nameN pre.length c.toNat = false := by
        unfold nameN digitN
        cases pre with
        | nil => simp
        | cons x y => simp; cases letterN c.toNat <;> simp; omega
      refine ⟨if nameN pre.length c.toNat = false then pre.length + 1 else q, ?_⟩
      simp [c132_l0b, h, nameFrom, hd, hn]
      rw [h] at ih
      simp at ih
      cases nameN pre.length c.toNat <;> simp [ih]
    · have hd := decode_hi hc hhi
      rw [h] at hd
      have hl : letterN (Utf8.decode { data := List.toArray (pre ++ c :: r) } pre.length).fst = false := by
        have := nameN_hi (i := 0) hd
        simpa [nameN] using this
      have h1 : ¬ (↑(Utf8.decode { data := List.toArray (pre ++ c :: r) } pre.length).fst : Int) = 95 := by omega
      have h2 : (57 : Int) < (↑(Utf8.decode { data := List.toArray (pre ++ c :: r) } pre.length).fst : Int) := by omega
      refine ⟨pre.length + (Utf8.decode { data := List.toArray (pre ++ c :: r) } pre.length).snd, ?_⟩
      simp [c132_l0b, h, nameFrom, hl, h1, h2, nameN_hi hhi]

@[simp] theorem S132 (s : Str) (hs : s.length < 9223372036854775807) : fn P 132 [.str s] = some (.bool (isName s)) := by
  rw [u132]
  obtain ⟨q, this⟩ := L132 (P := P) s hs s [] rfl
  simp at this
  simp [c132, this]
  cases hn : nameFrom 0 s
  · simp [isName, hn]
  · cases s with
    | nil => simp [isName]
    | cons c r =>
      simp [isName, hn]
      omega

@[simp] theorem S80 (s : Str) (hs : s.length < 9223372036854775807) : fn P 80 [.str s] = some (ci (named s)) := by
  rw [u80]; simp [c80, hs, named]

end LM.G9

namespace LM.G9
open Go LM
variable {P : Nat → Option SFunc} [Has P]

structure Lic where
  name : Str
  frm : Int
  to : Int
def Lic.enc (x : Lic) : CV := .agg [.str x.name, ci x.frm, ci x.to]
def Lic.ok (x : Lic) : Prop := x.name.length < 9223372036854775807

def checkLic (x : Lic) : Int := firstE [named x.name, dated x.frm, dated x.to, whenE (decide (x.frm > x.to)) 11]

theorem S78 (x : Lic) (hx : x.ok) (b : CV) : fn P 78 [x.enc, b] = some (ci (checkLic x)) := by
  rw [u78]
  unfold Lic.ok at hx
  simp [c78, Lic.enc, hx, checkLic]

/-- The first error of a list's elements. -/
def eachE {α : Type} (chk : List α → α → Int) : List α → List α → Int
  | _, [] => 0
  | pre, x :: r => if chk pre x ≠ 0 then chk pre x else eachE chk (pre ++ [x]) r

theorem L77 : ∀ (l pre : List Lic), (∀ x ∈ l, x.ok) → ((pre ++ l).length : Int) < 9223372036854775807 →
    ∃ h', execS P (limS P) c77_l0 ⟨[.c (.slice ((pre ++ l).map Lic.enc)), .c (.func 78 [] []), .c (.slice ((pre ++ l).map Lic.enc)), .c (ci (pre ++ l).length), .c (ci pre.length)], []⟩ = if eachE (fun _ => checkLic) pre l = 0 then some (.exit 0, ⟨[], []⟩) else some (.ret, ⟨[.c (ci (eachE (fun _ => checkLic) pre l))], h'⟩) := by
  intro l
  induction l with
  | nil =>
    intro pre hl h
    rw [r77_l0]
    exact ⟨[], by simp [c77_l0b, eachE]⟩
  | cons c r ih =>
    intro pre hl h
    obtain ⟨h', ih⟩ := ih (pre ++ [c]) (fun x hx => hl x (by simp [hx])) (by simpa using h)
    have hc := S78 (P := P) c (hl c (by simp))
    simp [Lic.enc] at ih h hc
    have hw : IntKind.i64.wrap (↑pre.length + 1) = ↑pre.length + 1 := wrap64 (by omega) (by omega)
    have hlt : (pre.length : Int) < pre.length + (r.length + 1) := by omega
    have hz : szFits 3 (List.map Lic.enc pre ++ CV.agg [CV.str c.name, ci c.frm, ci c.to] :: List.map Lic.enc r) = true := by cases pre <;> rfl
    have hb : (pre.length : Int) ≤ pre.length + (r.length + 1) := by omega
    rw [r77_l0]
    by_cases h0 : checkLic c = 0
    · refine ⟨h', ?_⟩
      simp [c77_l0b, eachE, hw, hlt, Lic.enc, hc, hz, hb, h0, ih]
    · refine ⟨[LB.cells 0 [LV.c (CV.str c.name), LV.c (ci c.frm), LV.c (ci c.to)] 0], ?_⟩
      simp [c77_l0b, eachE, hw, hlt, Lic.enc, hc, hz, hb, h0]

theorem S77 (l : List Lic) (m : Int) (hl : ∀ x ∈ l, x.ok) (h : (l.length : Int) < 9223372036854775807) : fn P 77 [.slice (l.map Lic.enc), ci m, .func 78 [] []] = some (ci (if (l.length : Int) > m then 5 else eachE (fun _ => checkLic) [] l)) := by
  rw [u77]
  obtain ⟨h', this⟩ := L77 (P := P) l [] hl (by simpa using h)
  simp at this
  by_cases hm : (l.length : Int) > m
  · have hm' : m < (l.length : Int) := hm
    simp [c77, hm']
  · have hm' : ¬ m < (l.length : Int) := hm
    simp [c77, hm', this]
    by_cases h0 : eachE (fun _ => checkLic) [] l = 0 <;> simp [h0]

def checkLics (l : List Lic) : Int := if (l.length : Int) > 256 then 5 else eachE (fun _ => checkLic) [] l

@[simp] theorem S17 (l : List Lic) (hl : ∀ x ∈ l, x.ok) (h : (l.length : Int) < 9223372036854775807) : fn P 17 [.slice (l.map Lic.enc)] = some (ci (checkLics l)) := by
  rw [u17]
  have := S77 (P := P) l 256 hl h
  simp [c17, this, checkLics]

end LM.G9

namespace LM.G9
open Go LM
variable {P : Nat → Option SFunc} [Has P]

/-- The number of the first element of a kind, or -1. -/
def idxF {α : Type} (p : α → Bool) : Nat → List α → Int
  | _, [] => -1
  | n, x :: r => if p x then n else idxF p (n + 1) r

theorem idxF_lt {α : Type} (p : α → Bool) : ∀ (l : List α) (n : Nat), (idxF p n l < 0) ↔ l.any p = false
  | [], n => by simp [idxF]
  | x :: r, n => by
    unfold idxF
    cases h : p x
    · simp [h, idxF_lt p r (n + 1)]
    · simp [h]

theorem idxF_none {α : Type} {p : α → Bool} : ∀ {l : List α} {n : Nat}, l.any p = false → idxF p n l = -1
  | [], n, _ => rfl
  | x :: r, n, h => by
    simp only [List.any_cons, Bool.or_eq_false_iff] at h
    rw [idxF, if_neg (by simp [h.1]), idxF_none h.2]

theorem idxF_dec {α : Type} (p : α → Bool) (l : List α) (n : Nat) : decide (0 ≤ idxF p n l) = l.any p := by
  have := idxF_lt p l n
  cases h : l.any p
  · have := this.2 h
    simp; omega
  · have : ¬ idxF p n l < 0 := fun q => by rw [this.1 q] at h; cases h
    simp; omega

structure Clm where
  name : Str
  nation : Str
  born : Int
  cat : Str
def Clm.enc (x : Clm) : CV := .agg [.str x.name, .str x.nation, ci x.born, .str x.cat]
def Clm.ptr (x : Clm) : CV := .ptr [.str x.name, .str x.nation, ci x.born, .str x.cat] 0
def Clm.ok (x : Clm) : Prop := x.name.length < 9223372036854775807 ∧ x.nation.length < 9223372036854775807 ∧ x.cat.length < 9223372036854775807

def Clm.is (n : Str) (x : Clm) : Bool := x.name == n

theorem S146 (x c : Clm) : fn P 146 [x.enc, c.ptr] = some (.bool (Clm.is c.name x)) := by
  rw [u146]
  simp [c146, Clm.enc, Clm.ptr, Clm.is]

theorem L162 (c : Clm) : ∀ (l pre : List Clm), ((pre ++ l).length : Int) < 9223372036854775807 →
    execS P (limS P) c162_l0 ⟨[.c (.slice ((pre ++ l).map Clm.enc)), .c (.func 146 [] [c.ptr]), .c (ci (pre ++ l).length), .c (ci pre.length)], []⟩ = if l.any (Clm.is c.name) then some (.ret, ⟨[.c (ci (idxF (Clm.is c.name) pre.length l))], []⟩) else some (.exit 0, ⟨[], []⟩) := by
  intro l
  induction l with
  | nil =>
    intro pre h
    rw [r162_l0]
    simp [c162_l0b]
  | cons x r ih =>
    intro pre h
    have ih := ih (pre ++ [x]) (by simpa using h)
    have hc := S146 (P := P) x c
    simp [Clm.enc] at ih h hc
    have hw : IntKind.i64.wrap (↑pre.length + 1) = ↑pre.length + 1 := wrap64 (by omega) (by omega)
    have hlt : (pre.length : Int) < pre.length + (r.length + 1) := by omega
    rw [r162_l0]
    cases h0 : Clm.is c.name x
    · simp [c162_l0b, hw, hlt, Clm.enc, hc, idxF, h0, ih]
    · simp [c162_l0b, hw, hlt, Clm.enc, hc, idxF, h0]

theorem S145 (c : Clm) (l : List Clm) (h : (l.length : Int) < 9223372036854775807) : fn P 145 [.slice (l.map Clm.enc), .func 146 [] [c.ptr]] = some (.bool (l.any (Clm.is c.name))) := by
  have hl := L162 (P := P) c l [] (by simpa using h)
  have h2 : fn P 162 [.slice (l.map Clm.enc), .func 146 [] [c.ptr]] = some (ci (idxF (Clm.is c.name) 0 l)) := by
    rw [u162]
    simp at hl
    simp [c162, hl]
    exact fun hx => (idxF_none (by simpa using hx)).symm
  rw [u145]
  simp [c145, h2, idxF_dec]

/-- A climber's error behind others. -/
def checkClm (pre : List Clm) (x : Clm) : Int := firstE [named x.name, named x.nation, named x.cat, whenE (pre.any (Clm.is x.name)) 9, dated x.born]

theorem S123 (x : Clm) (hx : x.ok) (pre : List Clm) (h : (pre.length : Int) < 9223372036854775807) : fn P 123 [x.enc, .slice (pre.map Clm.enc)] = some (ci (checkClm pre x)) := by
  have hs := S145 (P := P) x pre h
  rw [u123]
  simp [Clm.ptr] at hs
  obtain ⟨h1, h2, h3⟩ := hx
  simp [c123, Clm.enc, hs, h1, h2, h3, checkClm, frzArgs_cons]

theorem L122 : ∀ (l pre : List Clm), (∀ x ∈ l, x.ok) → ((pre ++ l).length : Int) < 9223372036854775807 →
    ∃ h', execS P (limS P) c122_l0 ⟨[.c (.slice ((pre ++ l).map Clm.enc)), .c (.func 123 [] []), .c (.slice ((pre ++ l).map Clm.enc)), .c (ci (pre ++ l).length), .c (ci pre.length)], []⟩ = if eachE checkClm pre l = 0 then some (.exit 0, ⟨[], []⟩) else some (.ret, ⟨[.c (ci (eachE checkClm pre l))], h'⟩) := by
  intro l
  induction l with
  | nil =>
    intro pre hl h
    rw [r122_l0]
    exact ⟨[], by simp [c122_l0b, eachE]⟩
  | cons c r ih =>
    intro pre hl h
    obtain ⟨h', ih⟩ := ih (pre ++ [c]) (fun x hx => hl x (by simp [hx])) (by simpa using h)
    have hc := S123 (P := P) c (hl c (by simp)) pre (by simp at h; omega)
    have ht : List.take pre.length (List.map Clm.enc pre ++ c.enc :: List.map Clm.enc r) = pre.map Clm.enc := by simp
    simp [Clm.enc] at ih h hc ht
    have hw : IntKind.i64.wrap (↑pre.length + 1) = ↑pre.length + 1 := wrap64 (by omega) (by omega)
    have hlt : (pre.length : Int) < pre.length + (r.length + 1) := by omega
    have hz : szFits 4 (List.map Clm.enc pre ++ CV.agg [CV.str c.name, CV.str c.nation, ci c.born, CV.str c.cat] :: List.map Clm.enc r) = true := by cases pre <;> rfl
    have hb : (pre.length : Int) ≤ pre.length + (r.length + 1) := by omega
    rw [r122_l0]
    by_cases h0 : checkClm pre c = 0
    · refine ⟨h', ?_⟩
      simp [c122_l0b, eachE, hw, hlt, Clm.enc, hc, hz, hb, ht, h0, ih]
    · refine ⟨[LB.cells 0 [LV.c (CV.str c.name), LV.c (CV.str c.nation), LV.c (ci c.born), LV.c (CV.str c.cat)] 0], ?_⟩
      simp [c122_l0b, eachE, hw, hlt, Clm.enc, hc, hz, hb, ht, h0]

theorem S122 (l : List Clm) (m : Int) (hl : ∀ x ∈ l, x.ok) (h : (l.length : Int) < 9223372036854775807) : fn P 122 [.slice (l.map Clm.enc), ci m, .func 123 [] []] = some (ci (if (l.length : Int) > m then 5 else eachE checkClm [] l)) := by
  rw [u122]
  obtain ⟨h', this⟩ := L122 (P := P) l [] hl (by simpa using h)
  simp at this
  by_cases hm : (l.length : Int) > m
  · have hm' : m < (l.length : Int) := hm
    simp [c122, hm']
  · have hm' : ¬ m < (l.length : Int) := hm
    simp [c122, hm', this]
    by_cases h0 : eachE checkClm [] l = 0 <;> simp [h0]

def checkClms (l : List Clm) : Int := if (l.length : Int) > 160 then 5 else eachE checkClm [] l

@[simp] theorem S63 (l : List Clm) (hl : ∀ x ∈ l, x.ok) (h : (l.length : Int) < 9223372036854775807) : fn P 63 [.slice (l.map Clm.enc)] = some (ci (checkClms l)) := by
  rw [u63]
  have := S122 (P := P) l 160 hl h
  simp [c63, this, checkClms]

end LM.G9

namespace LM.G9
open Go LM
variable {P : Nat → Option SFunc} [Has P]

structure Cat where
  name : Str
  least : Int
  most : Int
def Cat.enc (x : Cat) : CV := .agg [.str x.name, ci x.least, ci x.most]
def Cat.ptr (x : Cat) : CV := .ptr [.str x.name, ci x.least, ci x.most] 0
def Cat.ok (x : Cat) : Prop := x.name.length < 9223372036854775807
theorem Cat.elem (x : Cat) : Elem (some 3) x.enc := ⟨_, rfl, rfl, by simp⟩
theorem Cat.elems (l : List Cat) : ∀ x ∈ l.map Cat.enc, Elem (some 3) x := by
  intro x hx
  obtain ⟨y, _, rfl⟩ := List.mem_map.1 hx
  exact y.elem

def Cat.is (n : Str) (x : Cat) : Bool := x.name == n

theorem S127 (x c : Cat) : fn P 127 [x.enc, c.ptr] = some (.bool (Cat.is c.name x)) := by
  rw [u127]
  simp [c127, Cat.enc, Cat.ptr, Cat.is]

theorem L147 (c : Cat) : ∀ (l pre : List Cat), ((pre ++ l).length : Int) < 9223372036854775807 →
    execS P (limS P) c147_l0 ⟨[.c (.slice ((pre ++ l).map Cat.enc)), .c (.func 127 [] [c.ptr]), .c (ci (pre ++ l).length), .c (ci pre.length)], []⟩ = if l.any (Cat.is c.name) then some (.ret, ⟨[.c (ci (idxF (Cat.is c.name) pre.length l))], []⟩) else some (.exit 0, ⟨[], []⟩) := by
  intro l
  induction l with
  | nil =>
    intro pre h
    rw [r147_l0]
    simp [c147_l0b]
  | cons x r ih =>
    intro pre h
    have ih := ih (pre ++ [x]) (by simpa using h)
    have hc := S127 (P := P) x c
    simp [Cat.enc] at ih h hc
    have hw : IntKind.i64.wrap (↑pre.length + 1) = ↑pre.length + 1 := wrap64 (by omega) (by omega)
    have hlt : (pre.length : Int) < pre.length + (r.length + 1) := by omega
    rw [r147_l0]
    cases h0 : Cat.is c.name x
    · simp [c147_l0b, hw, hlt, Cat.enc, hc, idxF, h0, ih]
    · simp [c147_l0b, hw, hlt, Cat.enc, hc, idxF, h0]

theorem S126 (c : Cat) (l : List Cat) (h : (l.length : Int) < 9223372036854775807) : fn P 126 [.slice (l.map Cat.enc), .func 127 [] [c.ptr]] = some (.bool (l.any (Cat.is c.name))) := by
  have hl := L147 (P := P) c l [] (by simpa using h)
  have h2 : fn P 147 [.slice (l.map Cat.enc), .func 127 [] [c.ptr]] = some (ci (idxF (Cat.is c.name) 0 l)) := by
    rw [u147]
    simp at hl
    simp [c147, hl]
    exact fun hx => (idxF_none (by simpa using hx)).symm
  rw [u126]
  simp [c126, h2, idxF_dec]

/-- A category's error behind others. -/
def checkCat (pre : List Cat) (x : Cat) : Int := firstE [named x.name, whenE (pre.any (Cat.is x.name)) 9, whenE (outside x.least 0 120 || outside x.most 0 120) 3, whenE (decide (x.least > x.most)) 11]

theorem S125 (x : Cat) (hx : x.ok) (pre : List Cat) (h : (pre.length : Int) < 9223372036854775807) : fn P 125 [x.enc, .slice (pre.map Cat.enc)] = some (ci (checkCat pre x)) := by
  have hs := S126 (P := P) x pre h
  rw [u125]
  simp [Cat.ptr] at hs
  unfold Cat.ok at hx
  simp [c125, Cat.enc, hs, hx, checkCat]

theorem L124 : ∀ (l pre : List Cat), (∀ x ∈ l, x.ok) → ((pre ++ l).length : Int) < 9223372036854775807 →
    ∃ h', execS P (limS P) c124_l0 ⟨[.c (.slice ((pre ++ l).map Cat.enc)), .c (.func 125 [] []), .c (.slice ((pre ++ l).map Cat.enc)), .c (ci (pre ++ l).length), .c (ci pre.length)], []⟩ = if eachE checkCat pre l = 0 then some (.exit 0, ⟨[], []⟩) else some (.ret, ⟨[.c (ci (eachE checkCat pre l))], h'⟩) := by
  intro l
  induction l with
  | nil =>
    intro pre hl h
    rw [r124_l0]
    exact ⟨[], by simp [c124_l0b, eachE]⟩
  | cons c r ih =>
    intro pre hl h
    obtain ⟨h', ih⟩ := ih (pre ++ [c]) (fun x hx => hl x (by simp [hx])) (by simpa using h)
    have hc := S125 (P := P) c (hl c (by simp)) pre (by simp at h; omega)
    have ht : List.take pre.length (List.map Cat.enc pre ++ c.enc :: List.map Cat.enc r) = pre.map Cat.enc := by simp
    simp [Cat.enc] at ih h hc ht
    have hw : IntKind.i64.wrap (↑pre.length + 1) = ↑pre.length + 1 := wrap64 (by omega) (by omega)
    have hlt : (pre.length : Int) < pre.length + (r.length + 1) := by omega
    have hz : szFits 3 (List.map Cat.enc pre ++ CV.agg [CV.str c.name, ci c.least, ci c.most] :: List.map Cat.enc r) = true := by cases pre <;> rfl
    have hb : (pre.length : Int) ≤ pre.length + (r.length + 1) := by omega
    rw [r124_l0]
    by_cases h0 : checkCat pre c = 0
    · refine ⟨h', ?_⟩
      simp [c124_l0b, eachE, hw, hlt, Cat.enc, hc, hz, hb, ht, h0, ih]
    · refine ⟨[LB.cells 0 [LV.c (CV.str c.name), LV.c (ci c.least), LV.c (ci c.most)] 0], ?_⟩
      simp [c124_l0b, eachE, hw, hlt, Cat.enc, hc, hz, hb, ht, h0]

theorem S124 (l : List Cat) (m : Int) (hl : ∀ x ∈ l, x.ok) (h : (l.length : Int) < 9223372036854775807) : fn P 124 [.slice (l.map Cat.enc), ci m, .func 125 [] []] = some (ci (if (l.length : Int) > m then 5 else eachE checkCat [] l)) := by
  rw [u124]
  obtain ⟨h', this⟩ := L124 (P := P) l [] hl (by simpa using h)
  simp at this
  by_cases hm : (l.length : Int) > m
  · have hm' : m < (l.length : Int) := hm
    simp [c124, hm']
  · have hm' : ¬ m < (l.length : Int) := hm
    simp [c124, hm', this]
    by_cases h0 : eachE checkCat [] l = 0 <;> simp [h0]

def checkCats (l : List Cat) : Int := if (l.length : Int) > 256 then 5 else eachE checkCat [] l

@[simp] theorem S65 (l : List Cat) (hl : ∀ x ∈ l, x.ok) (h : (l.length : Int) < 9223372036854775807) : fn P 65 [.slice (l.map Cat.enc)] = some (ci (checkCats l)) := by
  rw [u65]
  have := S124 (P := P) l 256 hl h
  simp [c65, this, checkCats]

theorem L51 : ∀ (l pre : List Cat), (pre ++ l).length * 32 ≤ 2 ^ 47 →
    execS P (limS P) c51_l0 ⟨[.c (.slice ((pre ++ l).map Cat.enc)), .slice 1 (1 + pre.length) 0 pre.length (some 3) none, .c (ci pre.length)], [.cells 1 [] 0, .cells (1 + pre.length) (cellsOf (pre.map Cat.enc)) 0]⟩ =
      some (.exit 0, ⟨[.slice 1 (1 + (pre ++ l).length) 0 (pre ++ l).length (some 3) none], [.cells 1 [] 0, .cells (1 + (pre ++ l).length) (cellsOf ((pre ++ l).map Cat.enc)) 0]⟩) := by
  intro l
  induction l with
  | nil =>
    intro pre h
    rw [r51_l0]
    simp [c51_l0b]
  | cons c r ih =>
    intro pre h
    have ih := ih (pre ++ [c]) (by simpa using h)
    have ha := append_own (b := 1) (g := 1 + pre.length) (bytes := 32) (e := some 3) (ys := pre.map Cat.enc) (xs := [c.enc]) (h := [.cells 1 [] 0, .cells (1 + pre.length) (cellsOf (pre.map Cat.enc)) 0]) (len := pre.length) (fz := 0) rfl (Cat.elems _) (by simpa using c.elem) (by simp) (Nat.zero_le _) (by simp) (by simp at h ⊢; omega) (by simp at h ⊢; omega)
    simp at h
    simp [Cat.enc] at ih ha
    have hw : IntKind.i64.wrap (↑pre.length + 1) = ↑pre.length + 1 := wrap64 (by omega) (by omega)
    have hlt : (pre.length : Int) < pre.length + (r.length + 1) := by omega
    have e1 : 1 + (pre.length + 1) = 1 + pre.length + 1 := by omega
    rw [r51_l0]
    rw [e1] at ih
    simp [c51_l0b, Cat.enc, hw, hlt, ha, ih]

@[simp] theorem S51 (l : List Cat) (h : l.length * 32 ≤ 2 ^ 47) : fn P 51 [.slice (l.map Cat.enc)] = some (.slice (l.map Cat.enc)) := by
  rw [u51]
  have := L51 (P := P) l [] (by simpa using h)
  have hf := frz_own (b := 1) (g := 1 + l.length) (fz := 0) (e := some 3) (ys := l.map Cat.enc) (h := [.cells 1 [] 0, .cells (1 + l.length) (cellsOf (l.map Cat.enc)) 0]) (len := l.length) rfl (Cat.elems _) (by simp) none
  simp at this
  simp [c51, this, resV, hf, -frz_slice]

end LM.G9

namespace LM.G9
open Go LM
variable {P : Nat → Option SFunc} [Has P]

theorem L64a (A : List CV) (x : Clm) (i : Nat) (hx : A[i]? = some x.enc) (hA : (A.length : Int) < 9223372036854775807) : ∀ (l : List Clm) (k : Nat), k + l.length = i → (∀ j c, l[j]? = some c → A[k + j]? = some c.enc) →
    execS P (limS P) c64_l0 ⟨[.c (.slice A), .c (ci i), .c (ci k)], []⟩ = if l.any (Clm.is x.name) then some (.ret, ⟨[.c (ci 9)], []⟩) else some (.exit 2, ⟨[.c (.slice A), .c (ci i)], []⟩) := by
  have hi : i < A.length := (List.getElem?_eq_some_iff.1 hx).1
  intro l
  induction l with
  | nil =>
    intro k hk h
    simp at hk
    subst hk
    rw [r64_l0]
    simp [c64_l0b]
  | cons c r ih =>
    intro k hk h
    have hc : A[k]? = some c.enc := h 0 c rfl
    have ih := ih (k + 1) (by simp at hk; omega) (fun j c hj => by have := h (j + 1) c hj; rw [← this]; congr 1; omega)
    simp [-List.any_eq_true] at hk ih
    have hlt : (k : Int) < i := by omega
    have hw : IntKind.i64.wrap (↑k + 1) = ↑k + 1 := wrap64 (by omega) (by omega)
    obtain ⟨h1, hc⟩ := List.getElem?_eq_some_iff.1 hc
    obtain ⟨_, hx⟩ := List.getElem?_eq_some_iff.1 hx
    simp only [Clm.enc] at hc hx
    have e : Clm.is x.name c = decide (c.name = x.name) := by unfold Clm.is; by_cases h : c.name = x.name <;> simp [h]
    rw [r64_l0]
    by_cases h0 : c.name = x.name
    · simp [c64_l0b, hlt, hc, hx, h0, e, hi, h1]
    · simp [c64_l0b, hlt, hc, hx, h0, e, hi, h1, hw, ih, -List.any_eq_true]

theorem checkClm_names {pre : List Clm} {x : Clm} (h : (isName x.name && isName x.nation && isName x.cat) = false) : checkClm pre x = 8 := by
  unfold checkClm named whenE
  cases h1 : isName x.name <;> cases h2 : isName x.nation <;> cases h3 : isName x.cat <;> simp_all [firstE]

theorem L64 : ∀ (l pre : List Clm), (∀ x ∈ l, x.ok) → ((pre ++ l).length : Int) < 9223372036854775807 →
    execS P (limS P) c64_l1 ⟨[.c (.slice ((pre ++ l).map Clm.enc)), .c (ci pre.length)], []⟩ = if eachE checkClm pre l = 0 then some (.exit 0, ⟨[], []⟩) else some (.ret, ⟨[.c (ci (eachE checkClm pre l))], []⟩) := by
  intro l
  induction l with
  | nil =>
    intro pre hl h
    rw [r64_l1]
    simp [c64_l1b, eachE]
  | cons c r ih =>
    intro pre hl h
    have ih := ih (pre ++ [c]) (fun x hx => hl x (by simp [hx])) (by simpa using h)
    have hin := L64a (P := P) ((pre ++ c :: r).map Clm.enc) c pre.length (by simp) (by simpa using h) pre 0 (by simp) (fun j x hj => by
      have hj' : j < pre.length := (List.getElem?_eq_some_iff.1 hj).1
      rw [Nat.zero_add, List.getElem?_map, List.getElem?_append_left hj', hj]; rfl)
    simp [Clm.enc, -List.any_eq_true] at ih h hin
    have hw : IntKind.i64.wrap (↑pre.length + 1) = ↑pre.length + 1 := wrap64 (by omega) (by omega)
    have hlt : (pre.length : Int) < pre.length + (r.length + 1) := by omega
    rw [r64_l1]
    cases hn : isName c.name && isName c.nation && isName c.cat
    · have he := checkClm_names (pre := pre) hn
      cases h1 : isName c.name <;> cases h2 : isName c.nation <;> cases h3 : isName c.cat <;> simp [h1, h2, h3] at hn <;>
        simp [c64_l1b, hw, hlt, Clm.enc, eachE, he, h1, h2, h3]
    · simp at hn
      have he : checkClm pre c = if pre.any (Clm.is c.name) then 9 else dated c.born := by
        unfold checkClm named whenE
        cases h1 : pre.any (Clm.is c.name) <;> simp [hn, firstE] <;> omega
      obtain ⟨⟨h1, h2⟩, h3⟩ := hn
      cases h4 : pre.any (Clm.is c.name)
      · rw [h4] at hin he
        cases h5 : outside c.born 0 99999
        · simp [c64_l1b, hw, hlt, Clm.enc, eachE, he, h1, h2, h3, hin, dated, whenE, h5, ih]
        · simp [c64_l1b, hw, hlt, Clm.enc, eachE, he, h1, h2, h3, hin, dated, whenE, h5]
      · rw [h4] at hin he
        simp [c64_l1b, hw, hlt, Clm.enc, eachE, he, h1, h2, h3, hin]

@[simp] theorem S64 (l : List Clm) (hl : ∀ x ∈ l, x.ok) (h : (l.length : Int) < 9223372036854775807) : fn P 64 [.slice (l.map Clm.enc)] = some (ci (checkClms l)) := by
  rw [u64]
  have := L64 (P := P) l [] hl (by simpa using h)
  simp at this
  unfold checkClms
  by_cases h1 : (160 : Int) < l.length
  · simp [c64, h1]
  · simp [c64, h1, this]
    by_cases h0 : eachE checkClm [] l = 0 <;> simp [h0]

def shortClm (x : Clm) : Bool := decide (x.name.length ≤ 40) && decide (x.nation.length ≤ 40) && decide (x.cat.length ≤ 40)

theorem L62 : ∀ (l pre : List Clm), ((pre ++ l).length : Int) < 9223372036854775807 →
    execS P (limS P) c62_l0 ⟨[.c (.slice ((pre ++ l).map Clm.enc)), .c (ci pre.length)], []⟩ = if l.all shortClm then some (.exit 0, ⟨[.c (.slice ((pre ++ l).map Clm.enc))], []⟩) else some (.ret, ⟨[.c (.bool false)], []⟩) := by
  intro l
  induction l with
  | nil =>
    intro pre h
    rw [r62_l0]
    simp [c62_l0b]
  | cons c r ih =>
    intro pre h
    have ih := ih (pre ++ [c]) (by simpa using h)
    simp [Clm.enc, -List.all_eq_true] at ih h
    have hw : IntKind.i64.wrap (↑pre.length + 1) = ↑pre.length + 1 := wrap64 (by omega) (by omega)
    have hlt : (pre.length : Int) < pre.length + (r.length + 1) := by omega
    rw [r62_l0]
    have e : shortClm c = (decide (c.name.length ≤ 40) && decide (c.nation.length ≤ 40) && decide (c.cat.length ≤ 40)) := rfl
    have q1 : (40 : Int) < c.name.length ↔ ¬ c.name.length ≤ 40 := by omega
    have q2 : (40 : Int) < c.nation.length ↔ ¬ c.nation.length ≤ 40 := by omega
    have q3 : (40 : Int) < c.cat.length ↔ ¬ c.cat.length ≤ 40 := by omega
    by_cases h1 : c.name.length ≤ 40 <;> by_cases h2 : c.nation.length ≤ 40 <;> by_cases h3 : c.cat.length ≤ 40 <;>
      simp [c62_l0b, hw, hlt, Clm.enc, q1, q2, q3, h1, h2, h3, e, ih, -List.all_eq_true, -Nat.not_le]

def shortClms (l : List Clm) : Bool := l.all shortClm && decide (l.length ≤ 163)

@[simp] theorem S62 (l : List Clm) (h : (l.length : Int) < 9223372036854775807) : fn P 62 [.slice (l.map Clm.enc)] = some (.bool (shortClms l)) := by
  rw [u62]
  have := L62 (P := P) l [] (by simpa using h)
  simp [-List.all_eq_true] at this
  unfold shortClms
  have h2 : decide ((l.length : Int) ≤ 163) = decide (l.length ≤ 163) := decide_eq_decide.2 (by omega)
  cases h0 : l.all shortClm <;> rw [h0] at this <;> simp [c62, this, h2]

end LM.G9

namespace LM.G9
open Go LM
variable {P : Nat → Option SFunc} [Has P]

theorem strElem (s : Str) : Elem none (CV.str s) := ⟨rfl, rfl⟩
theorem strElems (l : List Str) : ∀ x ∈ l.map CV.str, Elem none x := by
  intro x hx
  obtain ⟨y, _, rfl⟩ := List.mem_map.1 hx
  exact strElem y

def Cat.suits (age : Int) (c : Cat) : Bool := decide (c.least ≤ age) && decide (age ≤ c.most)
def suitsL (l : List Cat) (age : Int) : List Str := (l.filter (Cat.suits age)).map Cat.name

theorem suitsL_cons (c : Cat) (r : List Cat) (age : Int) : suitsL (c :: r) age = if Cat.suits age c then c.name :: suitsL r age else suitsL r age := by
  unfold suitsL
  rw [List.filter_cons]
  split <;> rfl

theorem suitsL_length (l : List Cat) (age : Int) : (suitsL l age).length ≤ l.length := by
  unfold suitsL
  rw [List.length_map]
  exact List.length_filter_le _ _

theorem L70 (age : Int) : ∀ (l pre : List Cat) (ys : List Str), ((pre ++ l).length : Int) < 9223372036854775807 → (ys.length + l.length) * 16 ≤ 2 ^ 47 →
    execS P (limS P) c70_l0 ⟨[.c (.slice ((pre ++ l).map Cat.enc)), .c (ci age), .slice 1 (1 + ys.length) 0 ys.length none none, .c (ci pre.length)], [.cells 1 [] 0, .cells (1 + ys.length) (cellsOf (ys.map CV.str)) 0]⟩ =
      some (.exit 0, ⟨[.slice 1 (1 + (ys ++ suitsL l age).length) 0 (ys ++ suitsL l age).length none none], [.cells 1 [] 0, .cells (1 + (ys ++ suitsL l age).length) (cellsOf ((ys ++ suitsL l age).map CV.str)) 0]⟩) := by
  intro l
  induction l with
  | nil =>
    intro pre ys h _
    rw [r70_l0]
    simp [c70_l0b, suitsL]
  | cons c r ih =>
    intro pre ys h hy
    have hw : IntKind.i64.wrap (↑pre.length + 1) = ↑pre.length + 1 := wrap64 (by simp at h; omega) (by simp at h; omega)
    have hlt : (pre.length : Int) < pre.length + (r.length + 1) := by omega
    have hc : Cat.suits age c = (decide (c.least ≤ age) && decide (age ≤ c.most)) := rfl
    rw [suitsL_cons, hc]
    rw [r70_l0]
    by_cases h1 : c.least ≤ age ∧ age ≤ c.most
    · have ih := ih (pre ++ [c]) (ys ++ [c.name]) (by simpa using h) (by simp at hy ⊢; omega)
      have ha := append_own (b := 1) (g := 1 + ys.length) (bytes := 16) (e := none) (ys := ys.map CV.str) (xs := [.str c.name]) (h := [.cells 1 [] 0, .cells (1 + ys.length) (cellsOf (ys.map CV.str)) 0]) (len := ys.length) (fz := 0) rfl (strElems _) (by simpa using strElem c.name) (by simp) (Nat.zero_le _) (by simp) (by simp at hy ⊢; omega) (by simp at hy ⊢; omega)
      have e1 : 1 + (ys.length + 1) = 1 + ys.length + 1 := by omega
      simp [Cat.enc] at ih ha
      rw [e1] at ih
      simp [c70_l0b, Cat.enc, hw, hlt, ha, ih, h1]
    · have ih := ih (pre ++ [c]) ys (by simpa using h) (by simp at hy ⊢; omega)
      simp [Cat.enc] at ih
      have h2 : (decide (c.least ≤ age) && decide (age ≤ c.most)) = false := by
        cases h3 : decide (c.least ≤ age) && decide (age ≤ c.most)
        · rfl
        · simp at h3; exact absurd h3 h1
      simp only [h2]
      simp [c70_l0b, Cat.enc, hw, hlt, ih, h1]

@[simp] theorem S70 (l : List Cat) (age : Int) (h : l.length * 16 ≤ 2 ^ 47) : fn P 70 [.slice (l.map Cat.enc), ci age] = some (.slice ((suitsL l age).map CV.str)) := by
  rw [u70]
  have := L70 (P := P) age l [] [] (by simp; omega) (by simpa using h)
  have hf := frz_own (b := 1) (g := 1 + (suitsL l age).length) (fz := 0) (e := none) (ys := (suitsL l age).map CV.str) (h := [.cells 1 [] 0, .cells (1 + (suitsL l age).length) (cellsOf ((suitsL l age).map CV.str)) 0]) (len := (suitsL l age).length) rfl (strElems _) (by simp) none
  simp at this
  simp [c70, this, resV, hf, -frz_slice]

end LM.G9

namespace LM.G9
open Go LM
variable {P : Nat → Option SFunc} [Has P]

theorem L53a (A : List CV) (x : Cat) (i : Nat) (hx : A[i]? = some x.enc) (hA : (A.length : Int) < 9223372036854775807) : ∀ (l : List Cat) (k : Nat), k + l.length = i → (∀ j c, l[j]? = some c → A[k + j]? = some c.enc) →
    execS P (limS P) c53_l0 ⟨[.c (.slice A), .c (ci i), .c (ci k)], []⟩ = if l.any (Cat.is x.name) then some (.ret, ⟨[.c (ci 9)], []⟩) else some (.exit 2, ⟨[.c (.slice A), .c (ci i)], []⟩) := by
  have hi : i < A.length := (List.getElem?_eq_some_iff.1 hx).1
  intro l
  induction l with
  | nil =>
    intro k hk h
    simp at hk
    subst hk
    rw [r53_l0]
    simp [c53_l0b]
  | cons c r ih =>
    intro k hk h
    have hc : A[k]? = some c.enc := h 0 c rfl
    have ih := ih (k + 1) (by simp at hk; omega) (fun j c hj => by have := h (j + 1) c hj; rw [← this]; congr 1; omega)
    simp [-List.any_eq_true] at hk ih
    have hlt : (k : Int) < i := by omega
    have hw : IntKind.i64.wrap (↑k + 1) = ↑k + 1 := wrap64 (by omega) (by omega)
    obtain ⟨h1, hc⟩ := List.getElem?_eq_some_iff.1 hc
    obtain ⟨_, hx⟩ := List.getElem?_eq_some_iff.1 hx
    simp only [Cat.enc] at hc hx
    have e : Cat.is x.name c = decide (c.name = x.name) := by unfold Cat.is; by_cases h : c.name = x.name <;> simp [h]
    rw [r53_l0]
    by_cases h0 : c.name = x.name
    · simp [c53_l0b, hlt, hc, hx, h0, e, hi, h1]
    · simp [c53_l0b, hlt, hc, hx, h0, e, hi, h1, hw, ih, -List.any_eq_true]

theorem L53 : ∀ (l pre : List Cat), ((pre ++ l).length : Int) < 9223372036854775807 →
    execS P (limS P) c53_l1 ⟨[.c (.slice ((pre ++ l).map Cat.enc)), .c (ci pre.length)], []⟩ = if eachE checkCat pre l = 0 then some (.exit 0, ⟨[], []⟩) else some (.ret, ⟨[.c (ci (eachE checkCat pre l))], []⟩) := by
  intro l
  induction l with
  | nil =>
    intro pre h
    rw [r53_l1]
    simp [c53_l1b, eachE]
  | cons c r ih =>
    intro pre h
    have ih := ih (pre ++ [c]) (by simpa using h)
    have hin := L53a (P := P) ((pre ++ c :: r).map Cat.enc) c pre.length (by simp) (by simpa using h) pre 0 (by simp) (fun j x hj => by
      have hj' : j < pre.length := (List.getElem?_eq_some_iff.1 hj).1
      rw [Nat.zero_add, List.getElem?_map, List.getElem?_append_left hj', hj]; rfl)
    simp [Cat.enc, -List.any_eq_true] at ih h hin
    have hw : IntKind.i64.wrap (↑pre.length + 1) = ↑pre.length + 1 := wrap64 (by omega) (by omega)
    have hlt : (pre.length : Int) < pre.length + (r.length + 1) := by omega
    have he : checkCat pre c = if isName c.name = false then 8 else if pre.any (Cat.is c.name) then 9 else if outside c.least 0 120 || outside c.most 0 120 then 3 else if c.most < c.least then 11 else 0 := by
      unfold checkCat named whenE
      cases h0 : isName c.name <;> cases h1 : pre.any (Cat.is c.name) <;> cases h2 : outside c.least 0 120 <;> cases h3 : outside c.most 0 120 <;> by_cases h4 : c.most < c.least <;> simp [firstE, h4]
    rw [r53_l1]
    cases h0 : isName c.name
    · simp [c53_l1b, hw, hlt, Cat.enc, eachE, he, h0]
    · cases h4 : pre.any (Cat.is c.name)
      · rw [h4] at hin he
        cases h5 : outside c.least 0 120 <;> cases h6 : outside c.most 0 120 <;> by_cases h7 : c.most < c.least <;>
          simp [c53_l1b, hw, hlt, Cat.enc, eachE, he, h0, hin, h5, h6, h7, ih]
      · rw [h4] at hin he
        simp [c53_l1b, hw, hlt, Cat.enc, eachE, he, h0, hin]

@[simp] theorem S53 (l : List Cat) (h : (l.length : Int) < 9223372036854775807) : fn P 53 [.slice (l.map Cat.enc)] = some (ci (checkCats l)) := by
  rw [u53]
  have := L53 (P := P) l [] (by simpa using h)
  simp at this
  unfold checkCats
  by_cases h1 : (256 : Int) < l.length
  · simp [c53, h1]
  · simp [c53, h1, this]
    by_cases h0 : eachE checkCat [] l = 0 <;> simp [h0]

def Cat.short (x : Cat) : Bool := decide (x.name.length ≤ 40)

theorem L52 : ∀ (l pre : List Cat), ((pre ++ l).length : Int) < 9223372036854775807 →
    execS P (limS P) c52_l0 ⟨[.c (.slice ((pre ++ l).map Cat.enc)), .c (ci pre.length)], []⟩ = if l.all Cat.short then some (.exit 0, ⟨[.c (.slice ((pre ++ l).map Cat.enc))], []⟩) else some (.ret, ⟨[.c (.bool false)], []⟩) := by
  intro l
  induction l with
  | nil =>
    intro pre h
    rw [r52_l0]
    simp [c52_l0b]
  | cons c r ih =>
    intro pre h
    have ih := ih (pre ++ [c]) (by simpa using h)
    simp [Cat.enc, -List.all_eq_true] at ih h
    have hw : IntKind.i64.wrap (↑pre.length + 1) = ↑pre.length + 1 := wrap64 (by omega) (by omega)
    have hlt : (pre.length : Int) < pre.length + (r.length + 1) := by omega
    rw [r52_l0]
    have e : Cat.short c = decide (c.name.length ≤ 40) := rfl
    have q1 : (40 : Int) < c.name.length ↔ ¬ c.name.length ≤ 40 := by omega
    by_cases h1 : c.name.length ≤ 40 <;>
      simp [c52_l0b, hw, hlt, Cat.enc, q1, h1, e, ih, -List.all_eq_true, -Nat.not_le]

def shortCats (l : List Cat) : Bool := l.all Cat.short && decide (l.length ≤ 259)

@[simp] theorem S52 (l : List Cat) (h : (l.length : Int) < 9223372036854775807) : fn P 52 [.slice (l.map Cat.enc)] = some (.bool (shortCats l)) := by
  rw [u52]
  have := L52 (P := P) l [] (by simpa using h)
  simp [-List.all_eq_true] at this
  unfold shortCats
  have h2 : decide ((l.length : Int) ≤ 259) = decide (l.length ≤ 259) := decide_eq_decide.2 (by omega)
  cases h0 : l.all Cat.short <;> rw [h0] at this <;> simp [c52, this, h2]

end LM.G9

namespace LM.G9
open Go LM
variable {P : Nat → Option SFunc} [Has P]

@[simp] theorem S27 (have' e bad want : Int) : fn P 27 [ci have', ci e, ci bad, ci want] = some (.bool (if bad ≠ 0 then (have' == 0) && (e == bad) else (e == 0) && (have' == want))) := by
  rw [u27]
  by_cases hb : bad = 0 <;> simp [c27, hb] <;> rfl

end LM.G9

namespace LM.G9
open Go LM
variable {P : Nat → Option SFunc} [Has P]

theorem L71 : ∀ (l p m q : List Str), p.length = q.length → l.length = m.length → ((p ++ l).length : Int) < 9223372036854775807 →
    execS P (limS P) c71_l0 ⟨[.c (.slice ((p ++ l).map CV.str)), .c (.slice ((q ++ m).map CV.str)), .c (ci p.length)], []⟩ = if l = m then some (.exit 0, ⟨[], []⟩) else some (.ret, ⟨[.c (.bool false)], []⟩) := by
  intro l
  induction l with
  | nil =>
    intro p m q hp hm h
    have : m = [] := List.eq_nil_of_length_eq_zero (by simpa using hm.symm)
    subst this
    rw [r71_l0]
    simp [c71_l0b]
  | cons c r ih =>
    intro p m q hp hm h
    rcases m with _ | ⟨d, m⟩
    · simp at hm
    have ih := ih (p ++ [c]) m (q ++ [d]) (by simp [hp]) (by simpa using hm) (by simpa using h)
    simp at ih h hm
    have hw : IntKind.i64.wrap (↑p.length + 1) = ↑p.length + 1 := wrap64 (by omega) (by omega)
    have hlt : (p.length : Int) < p.length + (r.length + 1) := by omega
    have hlt2 : p.length < q.length + (m.length + 1) := by omega
    have hg : (List.map CV.str q ++ CV.str d :: List.map CV.str m)[p.length]'(by simpa using hlt2) = CV.str d := by simp [hp]
    rw [r71_l0]
    by_cases h0 : c = d
    · simp [c71_l0b, hw, hlt, hlt2, hg, h0]
      rw [h0] at ih
      exact ih
    · simp [c71_l0b, hw, hlt, hlt2, hg, h0]

@[simp] theorem S71 (l m : List Str) (h : (l.length : Int) < 9223372036854775807) : fn P 71 [.slice (l.map CV.str), .slice (m.map CV.str)] = some (.bool (decide (l = m))) := by
  rw [u71]
  by_cases hl : l.length = m.length
  · have := L71 (P := P) l [] m [] rfl hl (by simpa using h)
    simp at this
    by_cases h0 : l = m
    · rw [if_pos h0] at this
      rw [decide_eq_true h0]
      simp [c71, hl, this]
    · rw [if_neg h0] at this
      rw [decide_eq_false h0]
      simp [c71, hl, this]
  · have h1 : ¬ (l.length : Int) = m.length := by omega
    have h2 : ¬ l = m := fun e => hl (by rw [e])
    simp [c71, h1, h2]

theorem S36 (l m : List Str) (e bad : Int) (h : (l.length : Int) < 9223372036854775807) : fn P 36 [.slice (l.map CV.str), ci e, ci bad, .slice (m.map CV.str)] = some (.bool (if bad ≠ 0 then l.isEmpty && (e == bad) else (e == 0) && decide (l = m))) := by
  rw [u36]
  by_cases hb : bad = 0
  · simp [c36, hb, h] <;> rfl
  · cases l with
    | nil => simp [c36, hb]
    | cons x r =>
      have : ¬ (r.length : Int) + 1 = 0 := by omega
      simp [c36, hb, this]

def checkAged (c : Clm) (day : Int) : Int := firstE [checkClm [] c, dated day, whenE (decide (c.born > day)) 11]

theorem S116 (c : Clm) (hc : c.ok) (day : Int) : fn P 116 [c.enc, ci day] = some (ci (checkAged c day)) := by
  have h := S123 (P := P) c hc [] (by simp)
  rw [u116]
  simp [Clm.enc] at h
  simp [c116, Clm.enc, h, checkAged]

theorem S68 (c : Clm) (hc : c.ok) (day : Int) : fn P 68 [c.enc, ci day] = some (ci (checkAged c day)) := by
  have h := S64 (P := P) [c] (by simpa using hc) (by simp)
  rw [u68]
  simp [Clm.enc] at h
  have e : checkClms [c] = checkClm [] c := by
    unfold checkClms eachE eachE
    by_cases h : checkClm [] c = 0 <;> simp [h]
  rw [e] at h
  unfold checkAged
  by_cases h0 : checkClm [] c = 0
  · cases h1 : outside day 0 99999
    · by_cases h2 : day < c.born <;> simp [c68, Clm.enc, h, h0, h1, h2, dated, whenE, firstE]
    · simp [c68, Clm.enc, h, h0, h1, dated, whenE, firstE]
  · simp [c68, Clm.enc, h, h0, firstE]

def ageOf (c : Clm) (day : Int) : Int := IntKind.i64.wrap ((IntKind.i64.wrap (day - c.born)).tdiv 365)

theorem S69 (c : Clm) (day : Int) : fn P 69 [c.enc, ci day] = some (ci (ageOf c day)) := by
  rw [u69]
  simp [c69, Clm.enc, ageOf]

theorem S56 (c : Clm) (hc : c.ok) (day : Int) : fn P 56 [c.enc, ci day] = some (.tuple [ci (if checkAged c day = 0 then ageOf c day else 0), ci (checkAged c day)]) := by
  have h := S116 (P := P) c hc day
  rw [u56]
  simp [Clm.enc] at h
  by_cases h0 : checkAged c day = 0 <;> simp [c56, Clm.enc, h, h0, ageOf]

end LM.G9

namespace LM.G9
open Go LM
variable {P : Nat → Option SFunc} [Has P]

theorem suits_outside (age : Int) (c : Cat) : outside age c.least c.most = !Cat.suits age c := by
  unfold outside Cat.suits
  cases h1 : decide (c.least ≤ age) <;> cases h2 : decide (age ≤ c.most) <;> simp at h1 h2 ⊢ <;> omega

theorem L57 (age : Int) (B0 : List LV) (hB : underL 4 B0 = true) : ∀ (l pre : List Cat) (ys : List Str), ((pre ++ l).length : Int) < 9223372036854775807 → (ys.length + l.length) * 16 ≤ 2 ^ 47 →
    execS P (limS P) c57_l0 ⟨[.c (ci age), .slice 3 (1 + ys.length) 0 ys.length none none, .c (.slice ((pre ++ l).map Cat.enc)), .c (ci (pre ++ l).length), .c (ci pre.length)], [.cells 0 B0 0, .cells 1 [] 0, .dead, .cells (1 + ys.length) (cellsOf (ys.map CV.str)) 0]⟩ =
      some (.exit 0, ⟨[.slice 3 (1 + (ys ++ suitsL l age).length) 0 (ys ++ suitsL l age).length none none], [.cells 0 B0 0, .cells 1 [] 0, .dead, .cells (1 + (ys ++ suitsL l age).length) (cellsOf ((ys ++ suitsL l age).map CV.str)) 0]⟩) := by
  intro l
  induction l with
  | nil =>
    intro pre ys h _
    rw [r57_l0]
    simp [c57_l0b, suitsL]
  | cons c r ih =>
    intro pre ys h hy
    have hw : IntKind.i64.wrap (↑pre.length + 1) = ↑pre.length + 1 := wrap64 (by simp at h; omega) (by simp at h; omega)
    have hlt : (pre.length : Int) < pre.length + (r.length + 1) := by omega
    have hc := suits_outside age c
    rw [suitsL_cons]
    rw [r57_l0]
    cases h1 : Cat.suits age c
    · have ih := ih (pre ++ [c]) ys (by simpa using h) (by simp at hy ⊢; omega)
      simp [Cat.enc] at ih
      simp [c57_l0b, Cat.enc, hw, hlt, ih, h1, hc, hB]
    · have ih := ih (pre ++ [c]) (ys ++ [c.name]) (by simpa using h) (by simp at hy ⊢; omega)
      have ha := append_own (b := 3) (g := 1 + ys.length) (bytes := 16) (e := none) (ys := ys.map CV.str) (xs := [.str c.name]) (h := [.cells 0 B0 0, .cells 1 [] 0, .dead, .cells (1 + ys.length) (cellsOf (ys.map CV.str)) 0, .cells 0 [.c (.str c.name), .c (ci c.least), .c (ci c.most)] 0]) (len := ys.length) (fz := 0) rfl (strElems _) (by simpa using strElem c.name) (by simp) (Nat.zero_le _) (by simp) (by simp at hy ⊢; omega) (by simp at hy ⊢; omega)
      have e1 : 1 + (ys.length + 1) = 1 + ys.length + 1 := by omega
      simp [Cat.enc] at ih ha
      rw [e1] at ih
      simp [c57_l0b, Cat.enc, hw, hlt, ha, ih, h1, hc, hB]

theorem S57 (l : List Cat) (hl : ∀ x ∈ l, x.ok) (c : Clm) (hc : c.ok) (day : Int) (h : l.length * 32 ≤ 2 ^ 47) : fn P 57 [.slice (l.map Cat.enc), c.enc, ci day] = some (.tuple [.slice (if firstE [checkCats l, checkAged c day] = 0 then (suitsL l (ageOf c day)).map CV.str else []), ci (firstE [checkCats l, checkAged c day])]) := by
  have ha := S116 (P := P) c hc day
  have hb := S65 (P := P) l hl (by omega)
  rw [u57]
  simp [Clm.enc] at ha
  by_cases h1 : checkCats l = 0
  · rw [h1] at hb
    by_cases h2 : checkAged c day = 0
    · rw [h2] at ha
      have hL := L57 (P := P) (ageOf c day) [LV.c (CV.str c.name), LV.c (CV.str c.nation), LV.c (ci c.born), LV.c (CV.str c.cat)] rfl l [] [] (by simp; omega) (by simp; omega)
      have hf := resV_own (b := 3) (g := 1 + (suitsL l (ageOf c day)).length) (fz := 0) (e := none) (ys := (suitsL l (ageOf c day)).map CV.str) (h := [LB.cells 0 [LV.c (CV.str c.name), LV.c (CV.str c.nation), LV.c (ci c.born), LV.c (CV.str c.cat)] 0, .cells 1 [] 0, .dead, .cells (1 + (suitsL l (ageOf c day)).length) (cellsOf ((suitsL l (ageOf c day)).map CV.str)) 0]) (len := (suitsL l (ageOf c day)).length) rfl (strElems _) (by simp) none (ci 0)
      simp only [ageOf] at hf
      simp [ageOf] at hL
      simp [c57, Clm.enc, ha, hb, firstE, hL, h1, h2, ageOf, hf]
    · simp [c57, Clm.enc, ha, hb, firstE, h1, h2]
  · simp [c57, Clm.enc, ha, hb, firstE, h1]

end LM.G9

namespace LM.G9
open Go LM
variable {P : Nat → Option SFunc} [Has P]

-- ------------------------------------------------------------------ gaps, without a program

/-- The last pair ends at another number. -/
def setLast (l : List (Int × Int)) (v : Int) : List (Int × Int) :=
  match l.getLast? with
  | some p => l.dropLast ++ [(p.1, v)]
  | none => l

theorem setLast_snoc (zs : List (Int × Int)) (p : Int × Int) (v : Int) : setLast (zs ++ [p]) v = zs ++ [(p.1, v)] := by
  unfold setLast
  simp

/-- The gaps among the numbers below one. -/
def gapsN (f : Nat → Bool) : Nat → List (Int × Int)
  | 0 => []
  | n + 1 => if f n then gapsN f n else if decide (0 < n) && !f (n - 1) then setLast (gapsN f n) n else gapsN f n ++ [((n : Int), (n : Int))]

theorem gapsN_last (f : Nat → Bool) (n : Nat) (hn : 0 < n) (h : f (n - 1) = false) : ∃ zs a, gapsN f n = zs ++ [(a, (n : Int) - 1)] := by
  induction n with
  | zero => omega
  | succ m ih =>
    simp only [Nat.add_sub_cancel] at h
    have e : ((m + 1 : Nat) : Int) - 1 = m := by omega
    rw [gapsN, if_neg (by simp [h]), e]
    split
    · rename_i hc
      simp at hc
      obtain ⟨zs, a, hz⟩ := ih hc.1 hc.2
      rw [hz, setLast_snoc]
      exact ⟨zs, a, rfl⟩
    · exact ⟨_, _, rfl⟩

theorem gapsN_lt (f : Nat → Bool) : ∀ (n : Nat), ∀ p ∈ gapsN f n, p.2 < n
  | 0, p, h => by simp [gapsN] at h
  | n + 1, p, h => by
    have ih := gapsN_lt f n
    rw [gapsN] at h
    split at h
    · have := ih p h; omega
    · split at h
      · rename_i hc
        simp at hc
        obtain ⟨zs, a, hz⟩ := gapsN_last f n hc.1 hc.2
        rw [hz, setLast_snoc, List.mem_append] at h
        rcases h with h | h
        · have := ih p (by rw [hz]; simp [h]); omega
        · simp at h; subst h; simp; omega
      · rw [List.mem_append] at h
        rcases h with h | h
        · have := ih p h; omega
        · simp at h; subst h; simp; omega

theorem gapsN_lt' (f : Nat → Bool) (n : Nat) (hn : 0 < n) (h : f (n - 1) = true) : ∀ p ∈ gapsN f n, p.2 < (n : Int) - 1 := by
  intro p hp
  obtain ⟨m, rfl⟩ : ∃ m, n = m + 1 := ⟨n - 1, by omega⟩
  simp only [Nat.add_sub_cancel] at h
  rw [gapsN, if_pos h] at hp
  have := gapsN_lt f m p hp
  omega

theorem gapsN_length (f : Nat → Bool) : ∀ (n : Nat), (gapsN f n).length ≤ n
  | 0 => by simp [gapsN]
  | n + 1 => by
    have ih := gapsN_length f n
    rw [gapsN]
    split
    · omega
    · split
      · rename_i hc
        simp at hc
        obtain ⟨zs, a, hz⟩ := gapsN_last f n hc.1 hc.2
        rw [hz] at ih ⊢
        rw [setLast_snoc]
        simp at ih ⊢
        omega
      · simp; omega

def encP (p : Int × Int) : CV := .agg [ci p.1, ci p.2]
theorem encPs (l : List (Int × Int)) : ∀ x ∈ l.map encP, Elem (some 2) x := by
  intro x hx
  obtain ⟨y, _, rfl⟩ := List.mem_map.1 hx
  exact ⟨_, rfl, rfl, by simp⟩
theorem cellsP_snoc (zs : List (Int × Int)) (a b : Int) : cellsOf ((zs ++ [(a, b)]).map encP) = cellsOf (zs.map encP) ++ [.c (ci a), .c (ci b)] := by
  rw [List.map_append, cellsOf_append]
  rfl
theorem cellsP_length (zs : List (Int × Int)) : (cellsOf (zs.map encP)).length = zs.length * 2 := by
  rw [cellsOf_length (e := some 2) (encPs zs)]
  simp [szOf]

@[simp] theorem get_snd (zs : List (Int × Int)) (x y : LV) : (cellsOf (zs.map encP) ++ [x, y])[zs.length * 2 + 1]? = some y := by
  have := cellsP_length zs
  rw [List.getElem?_append_right (by omega)]
  have e : zs.length * 2 + 1 - (cellsOf (zs.map encP)).length = 1 := by omega
  rw [e]
  rfl
@[simp] theorem set_snd (zs : List (Int × Int)) (x y v : LV) : (cellsOf (zs.map encP) ++ [x, y]).set (zs.length * 2 + 1) v = cellsOf (zs.map encP) ++ [x, v] := by
  have := cellsP_length zs
  rw [List.set_append_right _ _ (by omega)]
  have e : zs.length * 2 + 1 - (cellsOf (zs.map encP)).length = 1 := by omega
  rw [e]
  rfl

-- ------------------------------------------------------------------ the reference's gaps

def cov (l : List Cat) (n : Nat) : Bool := l.any (Cat.suits n)

theorem suitsL_pos (l : List Cat) (n : Nat) : decide (0 < ((suitsL l n).length : Int)) = cov l n := by
  have e : 0 < ((suitsL l n).length : Int) ↔ cov l n = true := by
    unfold suitsL cov
    rw [List.length_map]
    constructor
    · intro h
      have : 0 < (l.filter (Cat.suits n)).length := by omega
      obtain ⟨x, hx⟩ := List.exists_mem_of_length_pos this
      rw [List.mem_filter] at hx
      rw [List.any_eq_true]
      exact ⟨x, hx⟩
    · intro h
      rw [List.any_eq_true] at h
      obtain ⟨x, hx⟩ := h
      have : 0 < (l.filter (Cat.suits n)).length := List.length_pos_of_mem (List.mem_filter.2 hx)
      omega
  cases h : cov l n
  · rw [decide_eq_false]; rw [e, h]; simp
  · rw [decide_eq_true]; rw [e, h]

theorem L67 (l : List Cat) (hl : l.length * 16 ≤ 2 ^ 47) : ∀ (m n : Nat), n + m = 121 →
    ∀ g, ∃ g', execS P (limS P) c67_l0 ⟨[.c (.slice (l.map Cat.enc)), .slice 1 g 0 (gapsN (cov l) n).length (some 2) none, .c (ci n)], [.cells 1 [] 0, .cells g (cellsOf ((gapsN (cov l) n).map encP)) 0]⟩ =
      some (.exit 0, ⟨[.slice 1 g' 0 (gapsN (cov l) 121).length (some 2) none], [.cells 1 [] 0, .cells g' (cellsOf ((gapsN (cov l) 121).map encP)) 0]⟩) := by
  intro m
  induction m with
  | zero =>
    intro n hn g
    simp at hn
    subst hn
    refine ⟨g, ?_⟩
    rw [r67_l0]
    simp [c67_l0b]
  | succ m ih =>
    intro n hn g
    have ih := ih (n + 1) (by omega)
    have hw : IntKind.i64.wrap (↑n + 1) = ↑n + 1 := wrap64 (by omega) (by omega)
    have hw2 : IntKind.i64.wrap (↑n - 1) = ↑n - 1 := wrap64 (by omega) (by omega)
    have hlt : (n : Int) ≤ 120 := by omega
    have hs := S70 (P := P) l n hl
    have hp := suitsL_pos l n
    have hgl := gapsN_length (cov l) n
    rw [r67_l0]
    cases h0 : cov l n
    · rw [h0] at hp
      simp at hp
      have hps : ¬ (0 : Int) < ((suitsL l n).length : Int) := by rw [hp]; simp
      by_cases hc : (decide (0 < n) && !cov l (n - 1)) = true
      · have hc' := hc
        simp at hc
        obtain ⟨zs, a, hz⟩ := gapsN_last (cov l) n hc.1 hc.2
        have e1 : gapsN (cov l) (n + 1) = zs ++ [(a, (n : Int))] := by rw [gapsN, if_neg (by simp [h0]), if_pos hc', hz, setLast_snoc]
        rw [e1] at ih
        obtain ⟨g', ih⟩ := ih g
        refine ⟨g', ?_⟩
        rw [hz] at hgl ⊢
        rw [cellsP_snoc] at ih ⊢
        have hcl := cellsP_length zs
        simp at ih hgl
        have hw3 : IntKind.i64.wrap (↑zs.length) = ↑zs.length := wrap64 (by omega) (by omega)
        have h1 : (0 : Int) < zs.length + 1 := by omega
        have h5 : (zs.length : Int) < zs.length + 1 := by omega
        simp [c67_l0b, hlt, hs, hp, hps, hw, hw2, hw3, h1, h5, hcl, ih]
      · have e1 : gapsN (cov l) (n + 1) = gapsN (cov l) n ++ [((n : Int), (n : Int))] := by rw [gapsN, if_neg (by simp [h0]), if_neg hc]
        rw [e1] at ih
        obtain ⟨g', ih⟩ := ih (g + 1)
        refine ⟨g', ?_⟩
        have ha := append_own (b := 1) (g := g) (bytes := 16) (e := some 2) (ys := (gapsN (cov l) n).map encP) (xs := [encP (n, n)]) (h := [.cells 1 [] 0, .cells g (cellsOf ((gapsN (cov l) n).map encP)) 0]) (len := (gapsN (cov l) n).length) (fz := 0) rfl (encPs _) (encPs [((n : Int), (n : Int))]) (by simp) (Nat.zero_le _) (by simp) (by simp; omega) (by simp; omega)
        simp [encP] at ha ih
        simp at hc
        rcases List.eq_nil_or_concat (gapsN (cov l) n) with hz | ⟨zs, p, hz⟩
        · rw [hz] at ha ih ⊢
          simp at ha ih
          simp [c67_l0b, hlt, hs, hp, hps, hw, ha, ih]
        · rw [List.concat_eq_append] at hz
          obtain ⟨a, b⟩ := p
          have hn0 : 0 < n := by rw [hz] at hgl; simp at hgl; omega
          have hb := gapsN_lt' (cov l) n hn0 (hc hn0) (a, b) (by rw [hz]; simp)
          simp at hb
          rw [hz] at ha ih hgl ⊢
          rw [cellsP_snoc] at ha ⊢
          have hcl := cellsP_length zs
          simp at ih hgl ha
          have hw3 : IntKind.i64.wrap (↑zs.length) = ↑zs.length := wrap64 (by omega) (by omega)
          have h1 : (0 : Int) < zs.length + 1 := by omega
          have h5 : (zs.length : Int) < zs.length + 1 := by omega
          have h2 : ¬ b = (n : Int) - 1 := by omega
          simp [c67_l0b, hlt, hs, hp, hps, hw, hw2, hw3, h1, h5, hcl, h2, ha, ih]
    · rw [h0] at hp
      have e1 : gapsN (cov l) (n + 1) = gapsN (cov l) n := by rw [gapsN, if_pos h0]
      rw [e1] at ih
      simp at ih hp
      obtain ⟨g', ih⟩ := ih g
      refine ⟨g', ?_⟩
      simp [c67_l0b, hlt, hs, hp, hw, ih]

def gapsL (l : List Cat) : List (Int × Int) := gapsN (cov l) 121

theorem S67 (l : List Cat) (h : l.length * 16 ≤ 2 ^ 47) : fn P 67 [.slice (l.map Cat.enc)] = some (.slice ((gapsL l).map encP)) := by
  rw [u67]
  obtain ⟨g', hL⟩ := L67 (P := P) l h 121 0 rfl 1
  have hf := resV_own1 (b := 1) (g := g') (fz := 0) (e := some 2) (ys := (gapsL l).map encP) (h := [.cells 1 [] 0, .cells g' (cellsOf ((gapsL l).map encP)) 0]) (len := (gapsL l).length) rfl (encPs _) (by simp) none
  unfold gapsL at *
  simp [gapsN.eq_1] at hL
  simp [c67, hL, hf]

theorem eqK_pair (a b c d : Int) : eqK (.many [0, 0]) (.agg [ci a, ci b]) (.agg [ci c, ci d]) = some (decide (a = c ∧ b = d)) := by
  by_cases h1 : a = c <;> by_cases h2 : b = d <;> simp [eqK, keyOk, kindsOk, kindOf, eqCells, eqS, h1, h2]

theorem L66 : ∀ (l p m q : List (Int × Int)), p.length = q.length → l.length = m.length → ((p ++ l).length : Int) < 9223372036854775807 →
    execS P (limS P) c66_l0 ⟨[.c (.slice ((p ++ l).map encP)), .c (.slice ((q ++ m).map encP)), .c (ci p.length)], []⟩ = if l = m then some (.exit 0, ⟨[], []⟩) else some (.ret, ⟨[.c (.bool false)], []⟩) := by
  intro l
  induction l with
  | nil =>
    intro p m q hp hm h
    have : m = [] := List.eq_nil_of_length_eq_zero (by simpa using hm.symm)
    subst this
    rw [r66_l0]
    simp [c66_l0b]
  | cons c r ih =>
    intro p m q hp hm h
    rcases m with _ | ⟨d, m⟩
    · simp at hm
    have ih := ih (p ++ [c]) m (q ++ [d]) (by simp [hp]) (by simpa using hm) (by simpa using h)
    obtain ⟨c1, c2⟩ := c
    obtain ⟨d1, d2⟩ := d
    simp [encP] at ih h hm
    have hw : IntKind.i64.wrap (↑p.length + 1) = ↑p.length + 1 := wrap64 (by omega) (by omega)
    have hlt : (p.length : Int) < p.length + (r.length + 1) := by omega
    have hlt2 : p.length < q.length + (m.length + 1) := by omega
    have hg : (List.map encP q ++ CV.agg [ci d1, ci d2] :: List.map encP m)[p.length]'(by simpa using hlt2) = CV.agg [ci d1, ci d2] := by simp [hp]
    rw [r66_l0]
    by_cases h1 : c1 = d1 <;> by_cases h2 : c2 = d2
    · subst h1 h2
      simp [c66_l0b, encP, hw, hlt, hlt2, hg, eqK_pair]
      exact ih
    all_goals simp [c66_l0b, encP, hw, hlt, hlt2, hg, h1, h2, eqK_pair]

@[simp] theorem S66 (l m : List (Int × Int)) (h : (l.length : Int) < 9223372036854775807) : fn P 66 [.slice (l.map encP), .slice (m.map encP)] = some (.bool (decide (l = m))) := by
  rw [u66]
  by_cases hl : l.length = m.length
  · have := L66 (P := P) l [] m [] rfl hl (by simpa using h)
    simp at this
    by_cases h0 : l = m
    · rw [if_pos h0] at this
      rw [decide_eq_true h0]
      simp [c66, hl, this]
    · rw [if_neg h0] at this
      rw [decide_eq_false h0]
      simp [c66, hl, this]
  · have h1 : ¬ (l.length : Int) = m.length := by omega
    have h2 : ¬ l = m := fun e => hl (by rw [e])
    simp [c66, h1, h2]

-- ------------------------------------------------------------------ the program's gaps

def arrC (f : Nat → Bool) : List CV := (List.range 121).map fun k => .bool (f k)
theorem arrC_length (f : Nat → Bool) : (arrC f).length = 121 := by simp [arrC]
theorem arrC_get (f : Nat → Bool) {k : Nat} (h : k < 121) : (arrC f)[k]? = some (.bool (f k)) := by simp [arrC, h]
theorem arrC_set (f : Nat → Bool) (a : Nat) : (arrC f).set a (.bool true) = arrC (fun k => f k || k == a) := by
  apply List.ext_getElem
  · simp [arrC]
  · intro i h1 h2
    simp only [arrC, List.getElem_set, List.getElem_map, List.getElem_range]
    by_cases h : a = i
    · simp [h]
    · have : ¬ i = a := fun e => h e.symm
      simp [h, this]
theorem arrC_zero : arrC (fun _ => false) = List.replicate 121 (.bool false) := rfl

end LM.G9

namespace LM.G9
open Go LM
variable {P : Nat → Option SFunc} [Has P]

theorem allC_map : ∀ l : List CV, allC (l.map LV.c) = some l
  | [] => rfl
  | v :: l => by simp only [List.map_cons, allC, allC_map l]

def arr (f : Nat → Bool) : List LV := (arrC f).map LV.c
theorem arr_length (f : Nat → Bool) : (arr f).length = 121 := by simp [arr, arrC_length]
theorem arr_get (f : Nat → Bool) {k : Nat} (h : k < 121) : (arr f)[k]? = some (.c (.bool (f k))) := by simp [arr, arrC_get f h]
theorem arr_set (f : Nat → Bool) (a : Nat) : (arr f).set a (.c (.bool true)) = arr (fun k => f k || k == a) := by
  unfold arr
  rw [← arrC_set, List.map_set]
theorem under_arr (f : Nat → Bool) (n : Nat) : underL n (arr f) = true := underL_map_c n _
theorem allC_arr (f : Nat → Bool) : allC (arr f) = some (arrC f) := allC_map _
theorem take_arr (f : Nat → Bool) : (arr f).take 121 = arr f := List.take_of_length_le (by rw [arr_length]; exact Nat.le_refl _)

theorem L55a (c : Cat) (S : CV) (n i : Int) (hm : c.most ≤ 120) : ∀ (m a : Nat) (f : Nat → Bool), (c.most + 1 - a).toNat = m →
    execS P (limS P) c55_l0 ⟨[.ptr 1 0 0, .ptr 2 0 0, .c (ci a), .c S, .c (ci n), .c (ci i)], [.cells 1 [] 0, .cells 0 (arr f) 0, .cells 0 [.c (.str c.name), .c (ci c.least), .c (ci c.most)] 0]⟩ =
      some (.exit 2, ⟨[.ptr 1 0 0, .c S, .c (ci n), .c (ci i)], [.cells 1 [] 0, .cells 0 (arr fun k => f k || (decide (a ≤ k) && decide ((k : Int) ≤ c.most))) 0, .cells 0 [.c (.str c.name), .c (ci c.least), .c (ci c.most)] 0]⟩) := by
  intro m
  induction m with
  | zero =>
    intro a f h
    have h1 : ¬ (a : Int) ≤ c.most := by omega
    have e : (fun k => f k || (decide (a ≤ k) && decide ((k : Int) ≤ c.most))) = f := by
      funext k
      have : (decide (a ≤ k) && decide ((k : Int) ≤ c.most)) = false := by
        simp; omega
      rw [this, Bool.or_false]
    rw [e, r55_l0]
    simp [c55_l0b, h1]
  | succ m ih =>
    intro a f h
    have h1 : (a : Int) ≤ c.most := by omega
    have ih := ih (a + 1) (fun k => f k || k == a) (by omega)
    have hw : IntKind.i64.wrap (↑a + 1) = ↑a + 1 := wrap64 (by omega) (by omega)
    have h2 : (a : Int) < 121 := by omega
    have h3 : a < 121 := by omega
    have e : (fun k => (f k || k == a) || (decide (a + 1 ≤ k) && decide ((k : Int) ≤ c.most))) = (fun k => f k || (decide (a ≤ k) && decide ((k : Int) ≤ c.most))) := by
      funext k
      by_cases h4 : k = a
      · subst h4
        simp [h1]
      · have h5 : (k == a) = false := by simp [h4]
        have h6 : decide (a + 1 ≤ k) = decide (a ≤ k) := decide_eq_decide.2 (by omega)
        rw [h5, h6, Bool.or_false]
    rw [e] at ih
    simp at ih
    rw [r55_l0]
    simp [c55_l0b, h1, h2, h3, hw, arr_length, arr_set, under_arr]
    exact ⟨by omega, ih⟩

def Cat.inR (c : Cat) : Prop := 0 ≤ c.least ∧ c.least ≤ 120 ∧ 0 ≤ c.most ∧ c.most ≤ 120

theorem L55b : ∀ (l pre : List Cat) (f : Nat → Bool), (∀ x ∈ l, x.inR) → ((pre ++ l).length : Int) < 9223372036854775807 →
    execS P (limS P) c55_l1 ⟨[.ptr 1 0 0, .c (.slice ((pre ++ l).map Cat.enc)), .c (ci (pre ++ l).length), .c (ci pre.length)], [.cells 1 [] 0, .cells 0 (arr f) 0]⟩ =
      some (.exit 0, ⟨[.ptr 1 0 0], [.cells 1 [] 0, .cells 0 (arr fun k => f k || cov l k) 0]⟩) := by
  intro l
  induction l with
  | nil =>
    intro pre f hl h
    have e : (fun k => f k || cov [] k) = f := by funext k; simp [cov]
    rw [e, r55_l1]
    simp [c55_l1b]
  | cons c r ih =>
    intro pre f hl h
    have hc := hl c (by simp)
    unfold Cat.inR at hc
    obtain ⟨a, ha⟩ : ∃ a : Nat, c.least = (a : Int) := ⟨c.least.toNat, by omega⟩
    have ih := ih (pre ++ [c]) (fun k => f k || (decide (a ≤ k) && decide ((k : Int) ≤ c.most))) (fun x hx => hl x (by simp [hx])) (by simpa using h)
    have hin := L55a (P := P) c (.slice ((pre ++ c :: r).map Cat.enc)) (pre ++ c :: r).length pre.length (by omega) _ a f rfl
    have e : (fun k => (f k || (decide (a ≤ k) && decide ((k : Int) ≤ c.most))) || cov r k) = (fun k => f k || cov (c :: r) k) := by
      funext k
      have : Cat.suits k c = (decide (a ≤ k) && decide ((k : Int) ≤ c.most)) := by
        unfold Cat.suits
        rw [ha]
        have : decide ((a : Int) ≤ k) = decide (a ≤ k) := decide_eq_decide.2 (by omega)
        rw [this]
      simp only [cov, List.any_cons, this, Bool.or_assoc]
    rw [e] at ih
    simp [Cat.enc, ha] at ih h hin
    have hw : IntKind.i64.wrap (↑pre.length + 1) = ↑pre.length + 1 := wrap64 (by omega) (by omega)
    have hlt : (pre.length : Int) < pre.length + (r.length + 1) := by omega
    rw [r55_l1]
    simp [c55_l1b, hw, hlt, Cat.enc, ha, hin, under_arr, ih]

theorem L55c (F : Nat → Bool) : ∀ (m n : Nat), n + m = 121 →
    ∀ g, ∃ g', execS P (limS P) c55_l2 ⟨[.ptr 1 0 0, .slice 2 g 0 (gapsN F n).length (some 2) none, .c (.agg (arrC F)), .c (ci n)], [.cells 1 [] 0, .cells 0 (arr F) 0, .cells g (cellsOf ((gapsN F n).map encP)) 0]⟩ =
      some (.exit 4, ⟨[.slice 2 g' 0 (gapsN F 121).length (some 2) none], [.cells 1 [] 0, .cells 0 (arr F) 0, .cells g' (cellsOf ((gapsN F 121).map encP)) 0]⟩) := by
  intro m
  induction m with
  | zero =>
    intro n hn g
    simp at hn
    subst hn
    refine ⟨g, ?_⟩
    rw [r55_l2]
    simp [c55_l2b]
  | succ m ih =>
    intro n hn g
    have ih := ih (n + 1) (by omega)
    have hw : IntKind.i64.wrap (↑n + 1) = ↑n + 1 := wrap64 (by omega) (by omega)
    have hw2 : IntKind.i64.wrap (↑n - 1) = ↑n - 1 := wrap64 (by omega) (by omega)
    have hlt : (n : Int) < 121 := by omega
    have hgl := gapsN_length F n
    have hg := arrC_get F (k := n) (by omega)
    rw [r55_l2]
    cases h0 : F n
    · rw [h0] at hg
      by_cases hc : (decide (0 < n) && !F (n - 1)) = true
      · have hc' := hc
        simp at hc
        obtain ⟨zs, a, hz⟩ := gapsN_last F n hc.1 hc.2
        have e1 : gapsN F (n + 1) = zs ++ [(a, (n : Int))] := by rw [gapsN, if_neg (by simp [h0]), if_pos hc', hz, setLast_snoc]
        rw [e1] at ih
        obtain ⟨g', ih⟩ := ih g
        refine ⟨g', ?_⟩
        rw [hz] at hgl ⊢
        rw [cellsP_snoc] at ih ⊢
        have hcl := cellsP_length zs
        simp at ih hgl
        have hw3 : IntKind.i64.wrap (↑zs.length) = ↑zs.length := wrap64 (by omega) (by omega)
        have h1 : (0 : Int) < n := by omega
        have h5 : (zs.length : Int) < zs.length + 1 := by omega
        have h6 := arr_get F (k := n - 1) (by omega)
        have h7 : ((n : Int) - 1).toNat = n - 1 := by omega
        have h8 : (n : Int) - 1 < 121 := by omega
        have h9 : 0 ≤ (n : Int) - 1 := by omega
        rw [hc.2] at h6
        have h10 : 1 ≤ (n : Int) := by omega
        have h11 := hc.1
        simp [c55_l2b, hlt, hg, hw, hw2, hw3, h1, h5, h6, h7, h8, h9, h10, h11, hcl, arrC_length, under_arr, ih]
      · have e1 : gapsN F (n + 1) = gapsN F n ++ [((n : Int), (n : Int))] := by rw [gapsN, if_neg (by simp [h0]), if_neg hc]
        rw [e1] at ih
        obtain ⟨g', ih⟩ := ih (g + 1)
        refine ⟨g', ?_⟩
        have ha := append_own (b := 2) (g := g) (bytes := 16) (e := some 2) (ys := (gapsN F n).map encP) (xs := [encP (n, n)]) (h := [.cells 1 [] 0, .cells 0 (arr F) 0, .cells g (cellsOf ((gapsN F n).map encP)) 0]) (len := (gapsN F n).length) (fz := 0) rfl (encPs _) (encPs [((n : Int), (n : Int))]) (by simp) (Nat.zero_le _) (by simp) (by simp; omega) (by simp; omega)
        simp [encP] at ha ih
        simp at hc
        by_cases h1 : 0 < n
        · have h6 := arr_get F (k := n - 1) (by omega)
          have h7 : ((n : Int) - 1).toNat = n - 1 := by omega
          have h8 : (n : Int) - 1 < 121 := by omega
          have h9 : 0 ≤ (n : Int) - 1 := by omega
          have h10 : 1 ≤ (n : Int) := by omega
          rw [hc h1] at h6
          simp [c55_l2b, hlt, hg, hw, hw2, h1, h6, h7, h8, h9, h10, arrC_length, under_arr, ha, ih]
        · simp [c55_l2b, hlt, hg, hw, h1, arrC_length, under_arr, ha, ih]
    · rw [h0] at hg
      have e1 : gapsN F (n + 1) = gapsN F n := by rw [gapsN, if_pos h0]
      rw [e1] at ih
      simp at ih
      obtain ⟨g', ih⟩ := ih g
      refine ⟨g', ?_⟩
      simp [c55_l2b, hlt, hg, hw, ih, arrC_length, under_arr]

theorem S55 (l : List Cat) (hl : ∀ x ∈ l, x.ok) (h : l.length * 32 ≤ 2 ^ 47) (hr : checkCats l = 0 → ∀ x ∈ l, x.inR) : fn P 55 [.slice (l.map Cat.enc)] = some (.tuple [.slice (if checkCats l = 0 then (gapsL l).map encP else []), ci (checkCats l)]) := by
  have hb := S65 (P := P) l hl (by omega)
  rw [u55]
  by_cases h1 : checkCats l = 0
  · rw [h1] at hb
    have hB := L55b (P := P) l [] (fun _ => false) (hr h1) (by simp; omega)
    have e : (fun k => false || cov l k) = cov l := by funext k; simp
    rw [e] at hB
    obtain ⟨g', hC⟩ := L55c (P := P) (cov l) 121 0 rfl 1
    have hf := resV_own (b := 2) (g := g') (fz := 0) (e := some 2) (ys := (gapsL l).map encP) (h := [.cells 1 [] 0, .cells 0 (arr (cov l)) 0, .cells g' (cellsOf ((gapsL l).map encP)) 0]) (len := (gapsL l).length) rfl (encPs _) (by simp) none (ci 0)
    unfold gapsL at *
    simp [gapsN.eq_1] at hC
    have hz : arr (fun _ => false) = List.replicate 121 (.c (.bool false)) := rfl
    rw [hz] at hB
    simp [List.replicate] at hB
    simp [c55, hb, h1, hB, arr_length, take_arr, allC_arr, hC, hf]
  · simp [c55, hb, h1]

end LM.G9

namespace LM.G9
open Go LM
variable {P : Nat → Option SFunc} [Has P] [HasP P]

theorem eachE_inR {pre l : List Cat} (h : eachE checkCat pre l = 0) : ∀ x ∈ l, x.inR := by
  induction l generalizing pre with
  | nil => simp
  | cons c r ih =>
    unfold eachE at h
    split at h
    · rename_i h1; exact absurd h h1
    · rename_i h1
      intro x hx
      rcases List.mem_cons.1 hx with rfl | hx
      · simp at h1
        unfold checkCat named whenE at h1
        unfold Cat.inR
        cases h2 : isName x.name <;> cases h3 : pre.any (Cat.is x.name) <;> cases h4 : outside x.least 0 120 <;> cases h5 : outside x.most 0 120 <;> simp [h2, h3, h4, h5, firstE] at h1
        unfold outside at h4 h5
        simp at h4 h5
        omega
      · exact ih h x hx

theorem checkCats_inR {l : List Cat} (h : checkCats l = 0) : ∀ x ∈ l, x.inR := by
  unfold checkCats at h
  split at h
  · cases h
  · exact eachE_inR h

set_option maxHeartbeats 4000000 in
theorem S12 (h14 : fn P 14 [] = some (.bool true)) (c : List Clm) (l : List Cat) (day : Int) (hc : ∀ x ∈ c, x.ok) (hl : ∀ x ∈ l, x.ok) (sc : c.length * 56 ≤ 2 ^ 47) (sl : l.length * 32 ≤ 2 ^ 47) : fn P 12 [.slice (c.map Clm.enc), .slice (l.map Cat.enc), ci day] = some (.bool true) := by
  have e51 := S51 (P := P) l sl
  have e62 := S62 (P := P) c (by omega)
  have e52 := S52 (P := P) l (by omega)
  have e53 := S53 (P := P) l (by omega)
  have e63 := S63 (P := P) c hc (by omega)
  have e64 := S64 (P := P) c hc (by omega)
  have e65 := S65 (P := P) l hl (by omega)
  have e55 := S55 (P := P) l hl sl checkCats_inR
  have e67 := S67 (P := P) l (by omega)
  have hg : ((gapsL l).length : Int) < 9223372036854775807 := by
    have := gapsN_length (cov l) 121
    unfold gapsL
    omega
  have e66 := S66 (P := P) (gapsL l) (gapsL l) hg
  rw [decide_eq_true rfl] at e66
  rw [u12]
  cases h1 : shortClms c
  · rw [h1] at e62
    simp [c12, e51, h14, e62]
  · rw [h1] at e62
    cases h2 : shortCats l
    · rw [h2] at e52
      simp [c12, e51, h14, e62, e52]
    · rw [h2] at e52
      cases c with
      | nil =>
        simp at e62 e63 e64
        by_cases h3 : checkCats l = 0
        · rw [h3] at e53 e65 e55
          simp at e55
          simp [c12, e51, h14, e62, e52, e53, e63, e64, e65, e55, e67, e66]
        · simp [h3] at e55
          simp [c12, e51, h14, e62, e52, e53, e63, e64, e65, e55, h3]
      | cons x r =>
        have e56 := S56 (P := P) x (hc x (by simp)) day
        have e57 := S57 (P := P) l hl x (hc x (by simp)) day sl
        have e68 := S68 (P := P) x (hc x (by simp)) day
        have e69 := S69 (P := P) x day
        simp [Clm.enc] at e62 e63 e64 e56 e57 e68 e69
        have hz : szFits 4 (CV.agg [CV.str x.name, CV.str x.nation, ci x.born, CV.str x.cat] :: List.map Clm.enc r) = true := rfl
        by_cases h3 : checkCats l = 0
        · rw [h3] at e53 e65 e55 e57
          simp at e55
          by_cases h4 : checkAged x day = 0
          · have e70 := S70 (P := P) l (ageOf x day) (by omega)
            have e36 := S36 (P := P) (suitsL l (ageOf x day)) (suitsL l (ageOf x day)) 0 0 (by have := suitsL_length l (ageOf x day); omega)
            rw [h4] at e56 e57 e68
            simp [firstE] at e36 e56 e57
            simp [c12, Clm.enc, e51, h14, e62, e52, e53, e63, e64, e65, e55, e67, e66, e56, e57, e68, e69, e70, e36, firstE, hz]
          · have e70 := S70 (P := P) l 0 (by omega)
            have e36 := S36 (P := P) [] (suitsL l 0) (checkAged x day) (checkAged x day) (by simp)
            simp [firstE, h4] at e36 e56 e57
            simp [c12, Clm.enc, e51, h14, e62, e52, e53, e63, e64, e65, e55, e67, e66, e56, e57, e68, e69, e70, e36, firstE, hz, h4]
        · simp [h3] at e55
          by_cases h4 : checkAged x day = 0
          · have e70 := S70 (P := P) l (ageOf x day) (by omega)
            have e36 := S36 (P := P) [] (suitsL l (ageOf x day)) (checkCats l) (checkCats l) (by simp)
            rw [h4] at e56 e57 e68
            simp [firstE, h3] at e36 e56 e57
            simp [c12, Clm.enc, e51, h14, e62, e52, e53, e63, e64, e65, e55, e56, e57, e68, e69, e70, e36, firstE, hz, h3]
          · have e70 := S70 (P := P) l 0 (by omega)
            have e36 := S36 (P := P) [] (suitsL l 0) (checkCats l) (checkCats l) (by simp)
            simp [firstE, h3, h4] at e36 e56 e57
            simp [c12, Clm.enc, e51, h14, e62, e52, e53, e63, e64, e65, e55, e56, e57, e68, e69, e70, e36, firstE, hz, h3, h4]

end LM.G9

