/- Part 10 of what YteihlaoeolfkfaaGreatLics leans on. -/
import Derived.Test.YteihlaoeolfkfaaGreatRows
import Derived.WalkKit
import Derived.ProofKit
import Derived.SizedLaws
import Derived.Test.YteihlaoeolfkfaaGreatLib1
import Derived.Test.YteihlaoeolfkfaaGreatLib2
import Derived.Test.YteihlaoeolfkfaaGreatLib3
import Derived.Test.YteihlaoeolfkfaaGreatLics1
import Derived.Test.YteihlaoeolfkfaaGreatLics2
import Derived.Test.YteihlaoeolfkfaaGreatLics3
import Derived.Test.YteihlaoeolfkfaaGreatLics4
import Derived.Test.YteihlaoeolfkfaaGreatLics5
import Derived.Test.YteihlaoeolfkfaaGreatLics6
set_option linter.all false
namespace Go.Proofs.YteihlaoeolfkfaaGreat
open Go.ChangeShapes Go.WideShapes Go.ChangeAt Go.RowKit

theorem own_knob : ownKnob Tryz.prog.godebug = none := by kernel_rfl
theorem laid_out : laidOutB Tryz.prog = true := by kernel_rfl
theorem maps_rowed : mapsRowed Tryz.prog = true := by kernel_rfl
theorem slices_full : LM.slicesFullB Tryz.prog = true := by kernel_rfl

theorem typed_map {α : Type} {enc : α → LM.CV} {p : α → Prop} {e : LM.CTy} (h : ∀ x, LM.Typed e x → ∃ a, x = enc a ∧ p a) : ∀ {xs : List LM.CV}, (∀ x ∈ xs, LM.Typed e x) → ∃ l : List α, xs = l.map enc ∧ ∀ a ∈ l, p a
  | [], _ => ⟨[], rfl, by simp⟩
  | x :: xs, hx => by
    obtain ⟨a, ha, hp⟩ := h x (hx x (by simp))
    obtain ⟨l, hl, hq⟩ := typed_map h (xs := xs) fun y hy => hx y (by simp [hy])
    exact ⟨a :: l, by rw [ha, hl]; rfl, fun b hb => by rcases List.mem_cons.1 hb with rfl | hb; exact hp; exact hq b hb⟩

theorem typed_slice {α : Type} {enc : α → LM.CV} {p : α → Prop} {e : LM.CTy} {b : Nat} (h : ∀ x, LM.Typed e x → ∃ a, x = enc a ∧ p a) {v : LM.CV} (hv : LM.Typed (.slice b e) v) : ∃ l : List α, v = .slice (l.map enc) ∧ (∀ a ∈ l, p a) ∧ l.length * b ≤ 2 ^ 47 := by
  simp only [LM.Typed] at hv
  obtain ⟨xs, rfl, _, hb, hx⟩ := hv
  obtain ⟨l, rfl, hp⟩ := typed_map h hx
  refine ⟨l, rfl, hp, ?_⟩
  rw [List.length_map] at hb
  exact Nat.le_trans hb (by decide)

theorem typed_str {v : LM.CV} (hv : LM.Typed .str v) : ∃ s : LM.Str, v = .str s ∧ s.length < 9223372036854775807 := by
  simp only [LM.Typed] at hv
  obtain ⟨s, rfl, h⟩ := hv
  exact ⟨s, rfl, Nat.lt_of_le_of_lt h (by decide)⟩

theorem typed_int {v : LM.CV} (hv : LM.Typed (.int .i64) v) : ∃ n, v = LM.ci n ∧ -9223372036854775808 ≤ n ∧ n ≤ 9223372036854775807 := by
  simp only [LM.Typed] at hv
  obtain ⟨n, rfl, h⟩ := hv
  refine ⟨n, rfl, ?_⟩
  simp [Lit.wf, IntKind.min, IntKind.max, IntKind.bits, IntKind.signed] at h
  omega

end Go.Proofs.YteihlaoeolfkfaaGreat

namespace LM.G9
open Go LM
variable {P : Nat → Option SFunc} [Has P]

@[simp] theorem S54 (n a b : Int) : fn P 54 [ci n, ci a, ci b] = some (.bool (outside n a b)) := by
  rw [u54]; simp [c54, outside]

@[simp] theorem S105 (n a b : Int) : fn P 105 [ci n, ci a, ci b] = some (.bool (outside n a b)) := by
  rw [u105]; simp [c105, outside]

@[simp] theorem S82 (b : Bool) (e : Int) : fn P 82 [.bool b, ci e] = some (ci (whenE b e)) := by
  rw [u82]; cases b <;> simp [c82, whenE]

@[simp] theorem S81 (d : Int) : fn P 81 [ci d] = some (ci (dated d)) := by
  rw [u81]; simp [c81, dated]

@[simp] theorem S150 (c : Nat) : fn P 150 [.int .i32 c] = some (.bool (letterN c)) := by
  rw [u150]; simp [c150, letterN]
  rw [show decide ((97 : Int) ≤ c) = decide (97 ≤ c) from decide_eq_decide.2 (by omega), show decide ((c : Int) ≤ 122) = decide (c ≤ 122) from decide_eq_decide.2 (by omega),
    show decide ((65 : Int) ≤ c) = decide (65 ≤ c) from decide_eq_decide.2 (by omega), show decide ((c : Int) ≤ 90) = decide (c ≤ 90) from decide_eq_decide.2 (by omega)]

theorem L79 : ∀ (l pre : List Int), (l.length : Int) + pre.length < 9223372036854775807 → execS P (limS P) c79_l0 ⟨[.c (.slice ((pre ++ l).map ci)), .c (ci (pre ++ l).length), .c (ci pre.length)], []⟩ = if firstE l = 0 then some (.exit 0, ⟨[], []⟩) else some (.ret, ⟨[.c (ci (firstE l))], []⟩) := by
  intro l
  induction l with
  | nil =>
    intro pre h
    rw [r79_l0]
    simp [c79_l0b, firstE]
  | cons c r ih =>
    intro pre h
    have ih := ih (pre ++ [c]) (by simp at h ⊢; omega)
    simp at ih h
    have hw : IntKind.i64.wrap (↑pre.length + 1) = ↑pre.length + 1 := wrap64 (by omega) (by omega)
    have hlt : (pre.length : Int) < pre.length + (r.length + 1) := by omega
    rw [r79_l0]
    by_cases hc : c = 0
    · subst hc
      simp [c79_l0b, firstE, hw, hlt, ih]
    · simp [c79_l0b, firstE, hw, hlt, hc]

@[simp] theorem S79 (l : List Int) (h : l.length < 9223372036854775807) : fn P 79 [.slice (l.map ci)] = some (ci (firstE l)) := by
  have := L79 (P := P) l [] (by simp; omega)
  rw [u79]
  simp at this
  simp [c79, this]
  by_cases hc : firstE l = 0 <;> simp [hc]

@[simp] theorem S79_1 (a : Int) : fn P 79 [.slice [ci a]] = some (ci (firstE [a])) := S79 [a] (by simp)
@[simp] theorem S79_2 (a b : Int) : fn P 79 [.slice [ci a, ci b]] = some (ci (firstE [a, b])) := S79 [a, b] (by simp)
@[simp] theorem S79_3 (a b c : Int) : fn P 79 [.slice [ci a, ci b, ci c]] = some (ci (firstE [a, b, c])) := S79 [a, b, c] (by simp)
@[simp] theorem S79_4 (a b c d : Int) : fn P 79 [.slice [ci a, ci b, ci c, ci d]] = some (ci (firstE [a, b, c, d])) := S79 [a, b, c, d] (by simp)
@[simp] theorem S79_5 (a b c d e : Int) : fn P 79 [.slice [ci a, ci b, ci c, ci d, ci e]] = some (ci (firstE [a, b, c, d, e])) := S79 [a, b, c, d, e] (by simp)

theorem L20 : ∀ (l pre : List Int), (l.length : Int) + pre.length < 9223372036854775807 → execS P (limS P) c20_l0 ⟨[.c (.slice ((pre ++ l).map ci)), .c (ci pre.length)], []⟩ = if firstE l = 0 then some (.exit 0, ⟨[], []⟩) else some (.ret, ⟨[.c (ci (firstE l))], []⟩) := by
  intro l
  induction l with
  | nil =>
    intro pre h
    rw [r20_l0]
    simp [c20_l0b, firstE]
  | cons c r ih =>
    intro pre h
    have ih := ih (pre ++ [c]) (by simp at h ⊢; omega)
    simp at ih h
    have hw : IntKind.i64.wrap (↑pre.length + 1) = ↑pre.length + 1 := wrap64 (by omega) (by omega)
    have hlt : (pre.length : Int) < pre.length + (r.length + 1) := by omega
    rw [r20_l0]
    by_cases hc : c = 0
    · subst hc
      simp [c20_l0b, firstE, hw, hlt, ih]
    · simp [c20_l0b, firstE, hw, hlt, hc]

@[simp] theorem S20 (l : List Int) (h : l.length < 9223372036854775807) : fn P 20 [.slice (l.map ci)] = some (ci (firstE l)) := by
  have := L20 (P := P) l [] (by simp; omega)
  rw [u20]
  simp at this
  simp [c20, this]
  by_cases hc : firstE l = 0 <;> simp [hc]

@[simp] theorem S20_2 (a b : Int) : fn P 20 [.slice [ci a, ci b]] = some (ci (firstE [a, b])) := S20 [a, b] (by simp)
@[simp] theorem S20_3 (a b c : Int) : fn P 20 [.slice [ci a, ci b, ci c]] = some (ci (firstE [a, b, c])) := S20 [a, b, c] (by simp)
@[simp] theorem S20_4 (a b c d : Int) : fn P 20 [.slice [ci a, ci b, ci c, ci d]] = some (ci (firstE [a, b, c, d])) := S20 [a, b, c, d] (by simp)

theorem L22 (s : Str) (hs : s.length ≤ 24) : ∀ (l pre : Str), s = pre ++ l → execS P (limS P) c22_l0 ⟨[.c (.str s), .c (ci pre.length)], []⟩ = if nameFrom pre.length l then some (.exit 0, ⟨[], []⟩) else some (.ret, ⟨[.c (.bool false)], []⟩) := by
  intro l
  induction l with
  | nil =>
    intro pre h
    rw [r22_l0]
    simp [c22_l0b, h, nameFrom]
  | cons c r ih =>
    intro pre h
    have ih := ih (pre ++ [c]) (by simp [h])
    simp at ih
    rw [h] at hs
    simp at hs
    have hw : IntKind.i64.wrap (↑pre.length + 1) = ↑pre.length + 1 := wrap64 (by omega) (by omega)
    have hlt : (pre.length : Int) < pre.length + (r.length + 1) := by omega
    have hn : (((↑c.toNat : Int) < 97 ∨ 122 < (↑c.toNat : Int)) ∧ ((↑c.toNat : Int) < 65 ∨ 90 < (↑c.toNat : Int))) ∧ (pre = [] ∨ ((↑c.toNat : Int) < 48 ∨ 57 < (↑c.toNat : Int)) ∧ ¬(↑c.toNat : Int) = 95) ↔ nameN pre.length c.toNat = false := by
      have hp : pre = [] ↔ pre.length = 0 := by simp
      unfold nameN letterN digitN
      cases pre with
      | nil => simp; omega
      | cons x y => simp; omega
    rw [r22_l0]
    simp [c22_l0b, h, nameFrom, hw, hlt, hn]
    rw [← h, ih]
    cases nameN pre.length c.toNat <;> simp

@[simp] theorem S22 (s : Str) : fn P 22 [.str s] = some (.bool (isName s)) := by
  rw [u22]
  by_cases h1 : s.length < 1
  · have : s = [] := List.eq_nil_of_length_eq_zero (by omega)
    subst this
    simp [c22, isName]
  · by_cases h2 : s.length > 24
    · have h3 : ¬ (s.length : Int) < 1 := by omega
      have h4 : (24 : Int) < (s.length : Int) := by omega
      have h5 : ¬ s.length ≤ 24 := by omega
      simp [c22, isName, h3, h4, h5]
    · have := L22 (P := P) s (by omega) s [] rfl
      simp at this
      have h3 : ¬ (s.length : Int) < 1 := by omega
      have h4 : ¬ (24 : Int) < (s.length : Int) := by omega
      have h5 : s.length ≤ 24 := by omega
      have h6 : 1 ≤ s.length := by omega
      simp [c22, isName, h3, h4, h5, h6, this]
      cases nameFrom 0 s <;> simp

theorem L132 (s : Str) (hs : s.length < 9223372036854775807) : ∀ (l pre : Str), s = pre ++ l → ∃ q, execS P (limS P) c132_l0 ⟨[.c (.str s), .ptr 0 0 0], [.iter s pre.length]⟩ = if nameFrom pre.length l then some (.exit 0, ⟨[.c (.str s)], [.iter s s.length]⟩) else some (.ret, ⟨[.c (.bool false)], [.iter s q]⟩) := by
  intro l
  induction l with
  | nil =>
    intro pre h
    refine ⟨0, ?_⟩
    rw [r132_l0]
    simp [c132_l0b, h, nameFrom]
  | cons c r ih =>
    intro pre h
    obtain ⟨q, ih⟩ := ih (pre ++ [c]) (by simp [h])
    simp at ih
    have hc : s[pre.length]? = some c := by simp [h]
    rw [r132_l0]
    rcases Nat.lt_or_ge c.toNat 128 with hlo | hhi
    · have hd := decode_lo hc hlo
      rw [h] at hd
      have hn : (letterN c.toNat = false ∧ (pre = [] ∨ ¬(↑c.toNat : Int) = 95 ∧ ((↑c.toNat : Int) < 48 ∨ 57 < (↑c.toNat : Int)))) ↔ nameN pre.length c.toNat = false := by
        unfold nameN digitN
        cases pre with
        | nil => simp
        | cons x y => simp; cases letterN c.toNat <;> simp; omega
      refine ⟨if nameN pre.length c.toNat = false then pre.length + 1 else q, ?_⟩
      simp [c132_l0b, h, nameFrom, hd, hn]
      rw [h] at ih
      simp at ih
      cases nameN pre.length c.toNat <;> simp [ih]
    · have hd := decode_hi hc hhi
      rw [h] at hd
      have hl : letterN (Utf8.decode { data := List.toArray (pre ++ c :: r) } pre.length).fst = false := by
        have := nameN_hi (i := 0) hd
        simpa [nameN] using this
      have h1 : ¬ (↑(Utf8.decode { data := List.toArray (pre ++ c :: r) } pre.length).fst : Int) = 95 := by omega
      have h2 : (57 : Int) < (↑(Utf8.decode { data := List.toArray (pre ++ c :: r) } pre.length).fst : Int) := by omega
      refine ⟨pre.length + (Utf8.decode { data := List.toArray (pre ++ c :: r) } pre.length).snd, ?_⟩
      simp [c132_l0b, h, nameFrom, hl, h1, h2, nameN_hi hhi]

@[simp] theorem S132 (s : Str) (hs : s.length < 9223372036854775807) : fn P 132 [.str s] = some (.bool (isName s)) := by
  rw [u132]
  obtain ⟨q, this⟩ := L132 (P := P) s hs s [] rfl
  simp at this
  simp [c132, this]
  cases hn : nameFrom 0 s
  · simp [isName, hn]
  · cases s with
    | nil => simp [isName]
    | cons c r =>
      simp [isName, hn]
      omega

@[simp] theorem S80 (s : Str) (hs : s.length < 9223372036854775807) : fn P 80 [.str s] = some (ci (named s)) := by
  rw [u80]; simp [c80, hs, named]

end LM.G9

namespace LM.G9
open Go LM
variable {P : Nat → Option SFunc} [Has P]

structure Lic where
  name : Str
  frm : Int
  to : Int
def Lic.enc (x : Lic) : CV := .agg [.str x.name, ci x.frm, ci x.to]
def Lic.ok (x : Lic) : Prop := x.name.length < 9223372036854775807

def checkLic (x : Lic) : Int := firstE [named x.name, dated x.frm, dated x.to, whenE (decide (x.frm > x.to)) 11]

theorem S78 (x : Lic) (hx : x.ok) (b : CV) : fn P 78 [x.enc, b] = some (ci (checkLic x)) := by
  rw [u78]
  unfold Lic.ok at hx
  simp [c78, Lic.enc, hx, checkLic]

/-- The first error of a list's elements. -/
def eachE {α : Type} (chk : List α → α → Int) : List α → List α → Int
  | _, [] => 0
  | pre, x :: r => if chk pre x ≠ 0 then chk pre x else eachE chk (pre ++ [x]) r

theorem L77 : ∀ (l pre : List Lic), (∀ x ∈ l, x.ok) → ((pre ++ l).length : Int) < 9223372036854775807 →
    ∃ h', execS P (limS P) c77_l0 ⟨[.c (.slice ((pre ++ l).map Lic.enc)), .c (.func 78 [] []), .c (.slice ((pre ++ l).map Lic.enc)), .c (ci (pre ++ l).length), .c (ci pre.length)], []⟩ = if eachE (fun _ => checkLic) pre l = 0 then some (.exit 0, ⟨[], []⟩) else some (.ret, ⟨[.c (ci (eachE (fun _ => checkLic) pre l))], h'⟩) := by
  intro l
  induction l with
  | nil =>
    intro pre hl h
    rw [r77_l0]
    exact ⟨[], by simp [c77_l0b, eachE]⟩
  | cons c r ih =>
    intro pre hl h
    obtain ⟨h', ih⟩ := ih (pre ++ [c]) (fun x hx => hl x (by simp [hx])) (by simpa using h)
    have hc := S78 (P := P) c (hl c (by simp))
    simp [Lic.enc] at ih h hc
    have hw : IntKind.i64.wrap (↑pre.length + 1) = ↑pre.length + 1 := wrap64 (by omega) (by omega)
    have hlt : (pre.length : Int) < pre.length + (r.length + 1) := by omega
    have hz : szFits 3 (List.map Lic.enc pre ++ CV.agg [CV.str c.name, ci c.frm, ci c.to] :: List.map Lic.enc r) = true := by cases pre <;> rfl
    have hb : (pre.length : Int) ≤ pre.length + (r.length + 1) := by omega
    rw [r77_l0]
    by_cases h0 : checkLic c = 0
    · refine ⟨h', ?_⟩
      simp [c77_l0b, eachE, hw, hlt, Lic.enc, hc, hz, hb, h0, ih]
    · refine ⟨[LB.cells 0 [LV.c (CV.str c.name), LV.c (ci c.frm), LV.c (ci c.to)] 0], ?_⟩
      simp [c77_l0b, eachE, hw, hlt, Lic.enc, hc, hz, hb, h0]

theorem S77 (l : List Lic) (m : Int) (hl : ∀ x ∈ l, x.ok) (h : (l.length : Int) < 9223372036854775807) : fn P 77 [.slice (l.map Lic.enc), ci m, .func 78 [] []] = some (ci (if (l.length : Int) > m then 5 else eachE (fun _ => checkLic) [] l)) := by
  rw [u77]
  obtain ⟨h', this⟩ := L77 (P := P) l [] hl (by simpa using h)
  simp at this
  by_cases hm : (l.length : Int) > m
  · have hm' : m < (l.length : Int) := hm
    simp [c77, hm']
  · have hm' : ¬ m < (l.length : Int) := hm
    simp [c77, hm', this]
    by_cases h0 : eachE (fun _ => checkLic) [] l = 0 <;> simp [h0]

def checkLics (l : List Lic) : Int := if (l.length : Int) > 256 then 5 else eachE (fun _ => checkLic) [] l

@[simp] theorem S17 (l : List Lic) (hl : ∀ x ∈ l, x.ok) (h : (l.length : Int) < 9223372036854775807) : fn P 17 [.slice (l.map Lic.enc)] = some (ci (checkLics l)) := by
  rw [u17]
  have := S77 (P := P) l 256 hl h
  simp [c17, this, checkLics]

end LM.G9

namespace LM.G9
open Go LM
variable {P : Nat → Option SFunc} [Has P]

@[simp] theorem S21 (b : Bool) (e : Int) : fn P 21 [.bool b, ci e] = some (ci (whenE b e)) := by
  rw [u21]; cases b <;> simp [c21, whenE]

@[simp] theorem S23 (d : Int) : fn P 23 [ci d] = some (ci (dated d)) := by
  rw [u23]; simp [c23, dated]

end LM.G9

namespace LM.G9
open Go LM
variable {P : Nat → Option SFunc} [Has P]

theorem Lic.elem (x : Lic) : Elem (some 3) x.enc := ⟨_, rfl, rfl, by simp⟩
theorem Lic.elems (l : List Lic) : ∀ x ∈ l.map Lic.enc, Elem (some 3) x := by
  intro x hx
  obtain ⟨y, _, rfl⟩ := List.mem_map.1 hx
  exact y.elem

theorem L13 : ∀ (l pre : List Lic), (pre ++ l).length * 32 ≤ 2 ^ 47 →
    execS P (limS P) c13_l0 ⟨[.c (.slice ((pre ++ l).map Lic.enc)), .slice 1 (1 + pre.length) 0 pre.length (some 3) none, .c (ci pre.length)], [.cells 1 [] 0, .cells (1 + pre.length) (cellsOf (pre.map Lic.enc)) 0]⟩ =
      some (.exit 0, ⟨[.slice 1 (1 + (pre ++ l).length) 0 (pre ++ l).length (some 3) none], [.cells 1 [] 0, .cells (1 + (pre ++ l).length) (cellsOf ((pre ++ l).map Lic.enc)) 0]⟩) := by
  intro l
  induction l with
  | nil =>
    intro pre h
    rw [r13_l0]
    simp [c13_l0b]
  | cons c r ih =>
    intro pre h
    have ih := ih (pre ++ [c]) (by simpa using h)
    have ha := append_own (b := 1) (g := 1 + pre.length) (bytes := 32) (e := some 3) (ys := pre.map Lic.enc) (xs := [c.enc]) (h := [.cells 1 [] 0, .cells (1 + pre.length) (cellsOf (pre.map Lic.enc)) 0]) (len := pre.length) (fz := 0) rfl (Lic.elems _) (by simpa using c.elem) (by simp) (Nat.zero_le _) (by simp) (by simp at h ⊢; omega) (by simp at h ⊢; omega)
    simp at h
    simp [Lic.enc] at ih ha
    have hw : IntKind.i64.wrap (↑pre.length + 1) = ↑pre.length + 1 := wrap64 (by omega) (by omega)
    have hlt : (pre.length : Int) < pre.length + (r.length + 1) := by omega
    have e1 : 1 + (pre.length + 1) = 1 + pre.length + 1 := by omega
    rw [r13_l0]
    rw [e1] at ih
    simp [c13_l0b, Lic.enc, hw, hlt, ha, ih]

@[simp] theorem S13 (l : List Lic) (h : l.length * 32 ≤ 2 ^ 47) : fn P 13 [.slice (l.map Lic.enc)] = some (.slice (l.map Lic.enc)) := by
  rw [u13]
  have := L13 (P := P) l [] (by simpa using h)
  have hf := frz_own (b := 1) (g := 1 + l.length) (fz := 0) (e := some 3) (ys := l.map Lic.enc) (h := [.cells 1 [] 0, .cells (1 + l.length) (cellsOf (l.map Lic.enc)) 0]) (len := l.length) rfl (Lic.elems _) (by simp) none
  simp at this
  simp [c13, this, resV, hf, -frz_slice]

theorem L15 : ∀ (l pre : List Lic), (∀ x ∈ l, x.ok) → ((pre ++ l).length : Int) < 9223372036854775807 →
    execS P (limS P) c15_l0 ⟨[.c (.slice ((pre ++ l).map Lic.enc)), .c (ci pre.length)], []⟩ = if l.all (fun x => decide (x.name.length ≤ 40)) then some (.exit 0, ⟨[.c (.slice ((pre ++ l).map Lic.enc))], []⟩) else some (.ret, ⟨[.c (.bool false)], []⟩) := by
  intro l
  induction l with
  | nil =>
    intro pre hl h
    rw [r15_l0]
    simp [c15_l0b]
  | cons c r ih =>
    intro pre hl h
    have ih := ih (pre ++ [c]) (fun x hx => hl x (by simp [hx])) (by simpa using h)
    simp [Lic.enc] at ih h
    have hw : IntKind.i64.wrap (↑pre.length + 1) = ↑pre.length + 1 := wrap64 (by omega) (by omega)
    have hlt : (pre.length : Int) < pre.length + (r.length + 1) := by omega
    rw [r15_l0]
    by_cases h0 : c.name.length ≤ 40
    · have h1 : ¬ (40 : Int) < c.name.length := by omega
      simp [c15_l0b, hw, hlt, Lic.enc, h0, h1, ih]
    · have h1 : (40 : Int) < c.name.length := by omega
      simp [c15_l0b, hlt, Lic.enc, h0, h1]

def shortLics (l : List Lic) : Bool := l.all (fun x => decide (x.name.length ≤ 40)) && decide (l.length ≤ 259)

@[simp] theorem S15 (l : List Lic) (hl : ∀ x ∈ l, x.ok) (h : (l.length : Int) < 9223372036854775807) : fn P 15 [.slice (l.map Lic.enc)] = some (.bool (shortLics l)) := by
  rw [u15]
  have := L15 (P := P) l [] hl (by simpa using h)
  simp at this
  unfold shortLics
  have h2 : decide ((l.length : Int) ≤ 259) = decide (l.length ≤ 259) := decide_eq_decide.2 (by omega)
  by_cases h0 : ∀ (x : Lic), x ∈ l → x.name.length ≤ 40
  · have h1 : l.all (fun x => decide (x.name.length ≤ 40)) = true := by simpa using h0
    rw [if_pos h0] at this
    simp [c15, this, h1, h2]
  · have h1 : l.all (fun x => decide (x.name.length ≤ 40)) = false := by simpa using h0
    rw [if_neg h0] at this
    simp [c15, this, h1]

theorem L16 : ∀ (l pre : List Lic), (∀ x ∈ l, x.ok) → ((pre ++ l).length : Int) < 9223372036854775807 →
    execS P (limS P) c16_l0 ⟨[.c (.slice ((pre ++ l).map Lic.enc)), .c (ci pre.length)], []⟩ = if eachE (fun _ => checkLic) pre l = 0 then some (.exit 0, ⟨[], []⟩) else some (.ret, ⟨[.c (ci (eachE (fun _ => checkLic) pre l))], []⟩) := by
  intro l
  induction l with
  | nil =>
    intro pre hl h
    rw [r16_l0]
    simp [c16_l0b, eachE]
  | cons c r ih =>
    intro pre hl h
    have ih := ih (pre ++ [c]) (fun x hx => hl x (by simp [hx])) (by simpa using h)
    simp [Lic.enc] at ih h
    have hw : IntKind.i64.wrap (↑pre.length + 1) = ↑pre.length + 1 := wrap64 (by omega) (by omega)
    have hlt : (pre.length : Int) < pre.length + (r.length + 1) := by omega
    rw [r16_l0]
    simp [c16_l0b, hw, hlt, Lic.enc, eachE, ih]
    unfold checkLic named dated whenE
    cases h1 : isName c.name <;> cases h2 : outside c.frm 0 99999 <;> cases h3 : outside c.to 0 99999 <;> by_cases h4 : c.to < c.frm <;> simp [firstE, h1, h2, h3, h4]

@[simp] theorem S16 (l : List Lic) (hl : ∀ x ∈ l, x.ok) (h : (l.length : Int) < 9223372036854775807) : fn P 16 [.slice (l.map Lic.enc)] = some (ci (checkLics l)) := by
  rw [u16]
  have := L16 (P := P) l [] hl (by simpa using h)
  simp at this
  unfold checkLics
  by_cases h1 : (256 : Int) < l.length
  · simp [c16, h1]
  · simp [c16, h1, this]
    by_cases h0 : eachE (fun _ => checkLic) [] l = 0 <;> simp [h0]

@[simp] theorem S26 (have' : Bool) (e bad : Int) (want : Bool) : fn P 26 [.bool have', ci e, ci bad, .bool want] = some (.bool (if bad ≠ 0 then !have' && (e == bad) else (e == 0) && (have' == want))) := by
  rw [u26]
  by_cases hb : bad = 0 <;> simp [c26, hb] <;> rfl

/-- Does a licence of a climber hold on a day? -/
def holds (name : Str) (d : Int) (x : Lic) : Bool := (x.name == name) && !outside d x.frm x.to
def covers (l : List Lic) (name : Str) (d : Int) : Bool := l.any (holds name d)

/-- One step of the reference: the day behind the longest licence that holds. -/
def jump (name : Str) (d : Int) (acc : Int) (x : Lic) : Int := if holds name d x then max acc (x.to + 1) else acc

end LM.G9

namespace LM.G9
open Go LM
variable {P : Nat → Option SFunc} [Has P]

/-- The first day, from one on, on which no licence holds; at most 100000. -/
def lapseN (l : List Lic) (name : Str) : Nat → Int → Int
  | 0, d => d
  | n + 1, d => if covers l name d then lapseN l name n (d + 1) else d
def lapse (l : List Lic) (name : Str) (d : Int) : Int := lapseN l name (100000 - d).toNat d

def Days (l : List Lic) : Prop := ∀ x ∈ l, 0 ≤ x.frm ∧ x.frm ≤ 99999 ∧ 0 ≤ x.to ∧ x.to ≤ 99999

theorem lapse_step {l : List Lic} {name : Str} {d : Int} (hd : d ≤ 99999) (h : covers l name d = true) : lapse l name d = lapse l name (d + 1) := by
  unfold lapse
  have : (100000 - d).toNat = (100000 - (d + 1)).toNat + 1 := by omega
  rw [this, lapseN, if_pos h]

theorem lapse_stop {l : List Lic} {name : Str} {d : Int} (h : covers l name d = false) : lapse l name d = d := by
  unfold lapse
  cases (100000 - d).toNat with
  | zero => rfl
  | succ n => rw [lapseN, if_neg (by simp [h])]

theorem lapse_end {l : List Lic} {name : Str} {d : Int} (h : 100000 ≤ d) : lapse l name d = d := by
  unfold lapse
  have : (100000 - d).toNat = 0 := by omega
  rw [this, lapseN]

theorem lapseN_ge (l : List Lic) (name : Str) : ∀ (n : Nat) (d : Int), d ≤ lapseN l name n d
  | 0, d => Int.le_refl d
  | n + 1, d => by
    rw [lapseN]
    split
    · have := lapseN_ge l name n (d + 1); omega
    · exact Int.le_refl d
theorem lapse_ge (l : List Lic) (name : Str) (d : Int) : d ≤ lapse l name d := lapseN_ge l name _ d

theorem lapseN_le (l : List Lic) (name : Str) : ∀ (n : Nat) (d : Int), lapseN l name n d ≤ d + n
  | 0, d => by simp [lapseN]
  | n + 1, d => by
    rw [lapseN]
    split
    · have := lapseN_le l name n (d + 1); omega
    · omega
theorem lapse_le {l : List Lic} {name : Str} {d : Int} (h : d ≤ 100000) : lapse l name d ≤ 100000 := by
  have := lapseN_le l name (100000 - d).toNat d
  unfold lapse
  omega

theorem lapseN_covers {l : List Lic} {name : Str} : ∀ (n : Nat) (d k : Int), d ≤ k → k < lapseN l name n d → covers l name k = true
  | 0, d, k, h1, h2 => by simp [lapseN] at h2; omega
  | n + 1, d, k, h1, h2 => by
    rw [lapseN] at h2
    split at h2
    · rename_i hc
      by_cases h : k = d
      · subst h; exact hc
      · exact lapseN_covers n (d + 1) k (by omega) h2
    · omega
theorem lapse_covers {l : List Lic} {name : Str} {d k : Int} (h1 : d ≤ k) (h2 : k < lapse l name d) : covers l name k = true := lapseN_covers _ d k h1 h2
theorem lapseN_gap {l : List Lic} {name : Str} : ∀ (n : Nat) (d : Int), lapseN l name n d < d + n → covers l name (lapseN l name n d) = false
  | 0, d, h => by simp [lapseN] at h
  | n + 1, d, h => by
    rw [lapseN] at h ⊢
    cases hc : covers l name d with
    | true =>
      rw [hc] at h
      simp only [if_true] at h ⊢
      exact lapseN_gap n (d + 1) (by omega)
    | false => simpa using hc
theorem lapse_gap {l : List Lic} {name : Str} {d : Int} (h : lapse l name d < 100000) : covers l name (lapse l name d) = false := by
  have hd := lapse_ge l name d
  unfold lapse at h hd ⊢
  exact lapseN_gap _ d (by omega)

theorem lapse_run {l : List Lic} {name : Str} : ∀ (n : Nat) (d : Int), d + n ≤ 100000 → (∀ k, d ≤ k → k < d + n → covers l name k = true) → lapse l name d = lapse l name (d + n)
  | 0, d, _, _ => by simp
  | n + 1, d, h, hc => by
    rw [lapse_step (by omega) (hc d (by omega) (by omega)), lapse_run n (d + 1) (by omega) fun k h1 h2 => hc k (by omega) (by omega)]
    congr 1
    omega

theorem fold_jump (name : Str) (d : Int) : ∀ (l : List Lic) (acc : Int), (l.foldl (jump name d) acc = acc ∧ ∀ x ∈ l, holds name d x = true → x.to + 1 ≤ acc) ∨ (acc < l.foldl (jump name d) acc ∧ ∃ x ∈ l, holds name d x = true ∧ l.foldl (jump name d) acc = x.to + 1)
  | [], acc => .inl ⟨rfl, by simp⟩
  | x :: r, acc => by
    simp only [List.foldl_cons, List.mem_cons]
    rcases fold_jump name d r (jump name d acc x) with ⟨h1, h2⟩ | ⟨h1, y, hy, h2, h3⟩
    · rw [h1]
      unfold jump at h1 h2 ⊢
      by_cases hx : holds name d x = true
      · simp only [hx, if_true] at h1 h2 ⊢
        by_cases hm : x.to + 1 ≤ acc
        · rw [Int.max_eq_left hm] at h2 ⊢
          exact .inl ⟨rfl, fun z hz h => by rcases hz with rfl | hz; exact hm; exact h2 z hz h⟩
        · rw [Int.max_eq_right (by omega)] at h2 ⊢
          exact .inr ⟨by omega, x, .inl rfl, hx, rfl⟩
      · simp only [hx, if_false] at h1 h2 ⊢
        exact .inl ⟨rfl, fun z hz h => by rcases hz with rfl | hz; exact absurd h hx; exact h2 z hz h⟩
    · refine .inr ⟨?_, y, .inr hy, h2, h3⟩
      have : acc ≤ jump name d acc x := by unfold jump; split <;> omega
      omega

theorem lapse_jump {l : List Lic} {name : Str} {d : Int} (hl : Days l) (hd : d ≤ 100000) : (l.foldl (jump name d) d = d ∧ lapse l name d = d) ∨ (d < l.foldl (jump name d) d ∧ l.foldl (jump name d) d ≤ 100000 ∧ lapse l name d = lapse l name (l.foldl (jump name d) d)) := by
  rcases fold_jump name d l d with ⟨h1, h2⟩ | ⟨h1, x, hx, h2, h3⟩
  · refine .inl ⟨h1, lapse_stop ?_⟩
    unfold covers
    rw [List.any_eq_false]
    intro x hx h
    have := h2 x hx h
    unfold holds outside at h
    simp at h
    omega
  · refine .inr ⟨h1, ?_⟩
    rw [h3] at h1 ⊢
    have hx2 := hl x hx
    refine ⟨by omega, ?_⟩
    have := lapse_run (l := l) (name := name) (x.to + 1 - d).toNat d (by omega) fun k k1 k2 => by
      unfold covers
      rw [List.any_eq_true]
      refine ⟨x, hx, ?_⟩
      unfold holds outside at h2 ⊢
      simp at h2 ⊢
      exact ⟨h2.1, by omega, by omega⟩
    rw [this]
    congr 1
    omega

theorem L25a (name : Str) (d : Int) : ∀ (l pre : List Lic) (acc : Int), Days l → ((pre ++ l).length : Int) < 9223372036854775807 →
    execS P (limS P) c25_l0 ⟨[.c (.slice ((pre ++ l).map Lic.enc)), .c (.str name), .c (ci d), .c (ci acc), .c (ci pre.length)], []⟩ = some (.exit 2, ⟨[.c (.slice ((pre ++ l).map Lic.enc)), .c (.str name), .c (ci d), .c (ci (l.foldl (jump name d) acc))], []⟩) := by
  intro l
  induction l with
  | nil =>
    intro pre acc hl h
    rw [r25_l0]
    simp [c25_l0b]
  | cons c r ih =>
    intro pre acc hl h
    have hc := hl c (by simp)
    have ih := fun acc => ih (pre ++ [c]) acc (fun x hx => hl x (by simp [hx])) (by simpa using h)
    simp [Lic.enc] at ih h
    have hw : IntKind.i64.wrap (↑pre.length + 1) = ↑pre.length + 1 := wrap64 (by omega) (by omega)
    have hw2 : IntKind.i64.wrap (c.to + 1) = c.to + 1 := wrap64 (by omega) (by omega)
    have hlt : (pre.length : Int) < pre.length + (r.length + 1) := by omega
    have hh : holds name d c = true ↔ ((c.name = name ∧ c.frm ≤ d) ∧ d ≤ c.to) := by
      unfold holds outside
      simp [Int.not_lt, and_assoc]
    rw [r25_l0]
    by_cases h0 : (c.name = name ∧ c.frm ≤ d) ∧ d ≤ c.to
    · have hj : jump name d acc c = max acc (c.to + 1) := by unfold jump; rw [if_pos (hh.2 h0)]
      obtain ⟨⟨e1, e2⟩, e3⟩ := h0
      subst e1
      have hm : (if acc < c.to + 1 then c.to + 1 else acc) = max acc (c.to + 1) := by split <;> omega
      simp [c25_l0b, hw, hw2, hlt, Lic.enc, e2, e3, hj, foldInt, hm, ih]
    · have hj : jump name d acc c = acc := by unfold jump; rw [if_neg (fun q => h0 (hh.1 q))]
      simp [c25_l0b, hw, hlt, Lic.enc, h0, hj, ih]

theorem L25 (l : List Lic) (name : Str) (hl : Days l) (h : (l.length : Int) < 9223372036854775807) : ∀ (n : Nat) (d : Int), (100000 - d).toNat = n → 0 ≤ d → d ≤ 100000 →
    execS P (limS P) c25_l1 ⟨[.c (.slice (l.map Lic.enc)), .c (.str name), .c (ci d)], []⟩ = some (.ret, ⟨[.c (ci (lapse l name d))], []⟩) := by
  intro n
  induction n using Nat.strongRecOn with
  | ind n ih =>
    intro d hn h0 h1
    have hi := L25a (P := P) name d l [] d hl (by simpa using h)
    simp at hi
    rw [r25_l1]
    rcases lapse_jump (name := name) hl h1 with ⟨e1, e2⟩ | ⟨e1, e2, e3⟩
    · simp [c25_l1b, hi, e1, e2]
    · have ih := ih _ (by omega) (l.foldl (jump name d) d) rfl (by omega) e2
      have hne : ¬ l.foldl (jump name d) d = d := by omega
      simp [c25_l1b, hi, hne, ih, e3]

theorem S25 (l : List Lic) (name : Str) (d : Int) (hl : Days l) (h : (l.length : Int) < 9223372036854775807) (h0 : 0 ≤ d) (h1 : d ≤ 100000) : fn P 25 [.slice (l.map Lic.enc), .str name, ci d] = some (ci (lapse l name d)) := by
  rw [u25]
  simp [c25, L25 l name hl h _ d rfl h0 h1]

theorem S24 (l : List Lic) (name : Str) (a b : Int) (hl : Days l) (h : (l.length : Int) < 9223372036854775807) (h0 : 0 ≤ a) (h1 : a ≤ 100000) : fn P 24 [.slice (l.map Lic.enc), .str name, ci a, ci b] = some (.bool (decide (b < lapse l name a))) := by
  rw [u24]
  simp [c24, S25 l name a hl h h0 h1]

end LM.G9

namespace LM.G9
open Go LM

def body133 : LCode := match lc133 with
  | .seq _ (.block _ (.loop _ b)) => b
  | _ => .skip
theorem lc133_eq : lc133 = .seq (.region [.mk (some 7) (.load none (.t 1)) none none .any, .mk (some 5) (.new [(.c (.int .i64 0))]) none none .any, .mk none (.store 1 (.t 5) (.t 7)) none none .any]) (.block 0 (.loop false body133)) := rfl

/-- The iterator's temporaries. -/
def ts133 (c1 c2 c3 : CV) (x4 : LV) (b : Nat) (x6 x7 x8 x9 x10 x11 x12 x13 x14 x15 x16 x17 x18 x19 x20 x21 x22 x23 : LV) : List LV :=
  [.tuple [], .c c1, .c c2, .c c3, x4, .ptr b 0 0, x6, x7, x8, x9, x10, x11, x12, x13, x14, x15, x16, x17, x18, x19, x20, x21, x22, x23]

variable {Q : Nat → Option LFunc} {m : Nat} {yh : Hand} {l : List Lic} {name : Str} {c1 : CV} {x4 x6 x7 x8 x9 x10 x11 x12 x13 x14 x15 x16 x17 x18 x19 x20 x21 x22 x23 : LV} {H H' : Heap} {b : Nat} {d : Int}

/-- Behind the last day. -/
theorem R133_end (hg : H[b]? = some (.cells 0 [.c (ci d)] 0)) (hd : 99999 < d) : execI Q (runs Q m).1 (runs Q m).2 yh body133 ⟨ts133 c1 (.ptr [.slice (l.map Lic.enc)] 0) (.ptr [.str name] 0) x4 b x6 x7 x8 x9 x10 x11 x12 x13 x14 x15 x16 x17 x18 x19 x20 x21 x22 x23, H⟩ none =
    some (.exit 0, ⟨ts133 c1 (.ptr [.slice (l.map Lic.enc)] 0) (.ptr [.str name] 0) x4 b x6 x7 (.c (ci d)) (.c (.bool false)) x10 x11 x12 x13 x14 x15 x16 x17 x18 x19 x20 x21 x22 x23, H⟩, none) := by
  have h1 : ¬ d ≤ 99999 := by omega
  unfold body133 lc133 ts133
  simp [plainI_eq, opI, hg, h1]

/-- A day without a licence. -/
theorem R133_gap (hg : H[b]? = some (.cells 0 [.c (ci d)] 0)) (hd : d ≤ 99999) (hc : pcall Q m 134 [.slice (l.map Lic.enc), .func 135 [] [.ptr [.str name] 0, .ptr [ci d] 0]] = some (.bool false)) : execI Q (runs Q m).1 (runs Q m).2 yh body133 ⟨ts133 c1 (.ptr [.slice (l.map Lic.enc)] 0) (.ptr [.str name] 0) x4 b x6 x7 x8 x9 x10 x11 x12 x13 x14 x15 x16 x17 x18 x19 x20 x21 x22 x23, H⟩ none =
    some (.ret, ⟨ts133 c1 (.ptr [.slice (l.map Lic.enc)] 0) (.ptr [.str name] 0) x4 b (.c (.bool false)) x7 (.c (ci d)) (.c (.bool true)) x10 x11 (.c (.slice (l.map Lic.enc))) (.func 135 [] [.c (.ptr [.str name] 0), .ptr b 0 0]) (.c (.bool false)) (.c (.bool false)) (.c (.bool true)) (.c (.bool true)) (.c (.tuple [])) (.c (.tuple [])) (.c (.tuple [])) (.c (.tuple [])) (.c (.bool true)) x23, H⟩, none) := by
  have hf := callF_of hc
  unfold body133 lc133 ts133
  simp [plainI_eq, opI, hg, hd, hf, hc]

/-- A day with one, on which the visit goes on. -/
theorem R133_go (hg : H[b]? = some (.cells 0 [.c (ci d)] 0)) (hd : d ≤ 99999) (h0 : 0 ≤ d) (hc : pcall Q m 134 [.slice (l.map Lic.enc), .func 135 [] [.ptr [.str name] 0, .ptr [ci d] 0]] = some (.bool true)) (hy : yh [.c (ci d)] H = some (H', none)) (hg' : H'[b]? = some (.cells 0 [.c (ci d)] 0)) :
    execI Q (runs Q m).1 (runs Q m).2 yh body133 ⟨ts133 c1 (.ptr [.slice (l.map Lic.enc)] 0) (.ptr [.str name] 0) x4 b x6 x7 x8 x9 x10 x11 x12 x13 x14 x15 x16 x17 x18 x19 x20 x21 x22 x23, H⟩ none =
    some (.normal, ⟨ts133 c1 (.ptr [.slice (l.map Lic.enc)] 0) (.ptr [.str name] 0) x4 H'.length (.c (.bool true)) x7 (.c (ci d)) (.c (.bool true)) (.c (ci d)) (.c (ci (d + 1))) (.c (.slice (l.map Lic.enc))) (.func 135 [] [.c (.ptr [.str name] 0), .ptr b 0 0]) (.c (.bool true)) (.c (.bool true)) (.c (.bool false)) (.c (.bool false)) (.tuple []) (.c (ci d)) (.c (.bool true)) (.c (.bool false)) (.c (.bool false)) (.c (ci d)), H' ++ [.cells 0 [.c (ci (d + 1))] 0]⟩, none) := by
  have hf := callF_of hc
  have hw : IntKind.i64.wrap (d + 1) = d + 1 := wrap64 (by omega) (by omega)
  unfold body133 lc133 ts133
  simp [plainI_eq, opI, hg, hd, hf, hc, hy, hg', hw]

/-- A day with one, on which the visit ends. -/
theorem R133_stop {e : Ex} (hg : H[b]? = some (.cells 0 [.c (ci d)] 0)) (hd : d ≤ 99999) (hc : pcall Q m 134 [.slice (l.map Lic.enc), .func 135 [] [.ptr [.str name] 0, .ptr [ci d] 0]] = some (.bool true)) (hy : yh [.c (ci d)] H = some (H', some e)) :
    execI Q (runs Q m).1 (runs Q m).2 yh body133 ⟨ts133 c1 (.ptr [.slice (l.map Lic.enc)] 0) (.ptr [.str name] 0) x4 b x6 x7 x8 x9 x10 x11 x12 x13 x14 x15 x16 x17 x18 x19 x20 x21 x22 x23, H⟩ none =
    some (.ret, ⟨ts133 c1 (.ptr [.slice (l.map Lic.enc)] 0) (.ptr [.str name] 0) x4 b (.c (.bool true)) x7 (.c (ci d)) (.c (.bool true)) x10 x11 (.c (.slice (l.map Lic.enc))) (.func 135 [] [.c (.ptr [.str name] 0), .ptr b 0 0]) (.c (.bool true)) (.c (.bool true)) (.c (.bool false)) (.c (.bool false)) (.tuple []) (.c (ci d)) (.c (.bool false)) (.c (.bool true)) (.c (.bool true)) x23, H'⟩, some e) := by
  have hf := callF_of hc
  unfold body133 lc133 ts133
  simp [plainI_eq, opI, hg, hd, hf, hc, hy]

end LM.G9

namespace LM.G9
open Go LM

/-- What a body makes of the days that are visited: its state, and the jump by which it leaves. -/
def visit {σ : Type} (nx : σ → Int → σ) (jp : σ → Int → Option Ex) (l : List Lic) (name : Str) : Nat → σ → Int → σ × Option Ex
  | 0, s, _ => (s, none)
  | n + 1, s, d => if covers l name d then match jp s d with
      | none => visit nx jp l name n (nx s d) (d + 1)
      | some e => (nx s d, some e)
    else (s, none)

variable {Q : Nat → Option LFunc} {yh : Hand} {l : List Lic} {name : Str} {σ : Type} {hd : σ → Heap} {nx : σ → Int → σ} {jp : σ → Int → Option Ex} {K N : Nat}

theorem L133 (hK : ∀ s, (hd s).length = K) (hy : ∀ s d rest, yh [.c (ci d)] (hd s ++ rest) = some (hd (nx s d) ++ rest, jp s d))
    (hc : ∀ M, N ≤ M → ∀ d, 0 ≤ d → d ≤ 99999 → pcall Q M 134 [.slice (l.map Lic.enc), .func 135 [] [.ptr [.str name] 0, .ptr [ci d] 0]] = some (.bool (covers l name d))) (c1 : CV) :
    ∀ (n M : Nat), N + n ≤ M → ∀ (s : σ) (d : Int) (rest : Heap) (b : Nat), (100000 - d).toNat = n → 0 ≤ d → d ≤ 100000 → rest[b]? = some (.cells 0 [.c (ci d)] 0) →
    ∀ x4 x6 x7 x8 x9 x10 x11 x12 x13 x14 x15 x16 x17 x18 x19 x20 x21 x22 x23 : LV, ∃ ts' rest' ex, (ex = .exit 0 ∨ ex = .ret) ∧ execI Q (runs Q M).1 (runs Q M).2 yh (.loop false body133) ⟨ts133 c1 (.ptr [.slice (l.map Lic.enc)] 0) (.ptr [.str name] 0) x4 (K + b) x6 x7 x8 x9 x10 x11 x12 x13 x14 x15 x16 x17 x18 x19 x20 x21 x22 x23, hd s ++ rest⟩ none =
      some (ex, ⟨ts', hd (visit nx jp l name n s d).1 ++ rest'⟩, (visit nx jp l name n s d).2) := by
  have hget : ∀ (s : σ) (rest : Heap) (b : Nat) (x : LB), rest[b]? = some x → (hd s ++ rest)[K + b]? = some x := by
    intro s rest b x h
    rw [List.getElem?_append_right (by rw [hK]; omega), hK, Nat.add_sub_cancel_left]
    exact h
  intro n
  induction n with
  | zero =>
    intro M hM s d rest b hn h0 h1 hb x4 x6 x7 x8 x9 x10 x11 x12 x13 x14 x15 x16 x17 x18 x19 x20 x21 x22 x23
    have h := R133_end (Q := Q) (m := M) (yh := yh) (l := l) (name := name) (c1 := c1) (x4 := x4) (x6 := x6) (x7 := x7) (x8 := x8) (x9 := x9) (x10 := x10) (x11 := x11) (x12 := x12) (x13 := x13) (x14 := x14) (x15 := x15) (x16 := x16) (x17 := x17) (x18 := x18) (x19 := x19) (x20 := x20) (x21 := x21) (x22 := x22) (x23 := x23) (hget s rest b _ hb) (by omega)
    exact ⟨_, rest, _, .inl rfl, by rw [ix_loop, h]; rfl⟩
  | succ n ih =>
    intro M hM s d rest b hn h0 h1 hb x4 x6 x7 x8 x9 x10 x11 x12 x13 x14 x15 x16 x17 x18 x19 x20 x21 x22 x23
    have hcd := hc M (by omega) d h0 (by omega)
    have hyd := hy s d rest
    simp only [visit]
    cases hcv : covers l name d with
    | false =>
      rw [hcv] at hcd
      have h := R133_gap (yh := yh) (c1 := c1) (x4 := x4) (x6 := x6) (x7 := x7) (x8 := x8) (x9 := x9) (x10 := x10) (x11 := x11) (x12 := x12) (x13 := x13) (x14 := x14) (x15 := x15) (x16 := x16) (x17 := x17) (x18 := x18) (x19 := x19) (x20 := x20) (x21 := x21) (x22 := x22) (x23 := x23) (hget s rest b _ hb) (by omega) hcd
      exact ⟨_, rest, _, .inr rfl, by rw [ix_loop, h]; rfl⟩
    | true =>
      rw [hcv] at hcd
      cases hj : jp s d with
      | some e =>
        rw [hj] at hyd
        have h := R133_stop (c1 := c1) (x4 := x4) (x6 := x6) (x7 := x7) (x8 := x8) (x9 := x9) (x10 := x10) (x11 := x11) (x12 := x12) (x13 := x13) (x14 := x14) (x15 := x15) (x16 := x16) (x17 := x17) (x18 := x18) (x19 := x19) (x20 := x20) (x21 := x21) (x22 := x22) (x23 := x23) (hget s rest b _ hb) (by omega) hcd hyd
        exact ⟨_, rest, _, .inr rfl, by rw [ix_loop, h]; rfl⟩
      | none =>
        rw [hj] at hyd
        obtain ⟨M', rfl⟩ : ∃ M', M = M' + 1 := ⟨M - 1, by omega⟩
        have hlen : (hd (nx s d) ++ rest).length = K + rest.length := by rw [List.length_append, hK]
        rw [ix_loop, R133_go (hget s rest b _ hb) (by omega) h0 hcd hyd (hget (nx s d) rest b _ hb)]
        simp only [seqI_normal, if_false, Bool.false_eq_true, if_true]
        rw [hlen, List.append_assoc]
        exact ih M' (by omega) (nx s d) (d + 1) (rest ++ [.cells 0 [.c (ci (d + 1))] 0]) rest.length (by omega) (by omega) (by omega) (by simp) _ _ _ _ _ _ _ _ _ _ _ _ _ _ _ _ _ _ _

/-- The iterator, from its beginning. -/
theorem E133 (hK : ∀ s, (hd s).length = K) (hy : ∀ s d rest, yh [.c (ci d)] (hd s ++ rest) = some (hd (nx s d) ++ rest, jp s d))
    (hc : ∀ M, N ≤ M → ∀ d, 0 ≤ d → d ≤ 99999 → pcall Q M 134 [.slice (l.map Lic.enc), .func 135 [] [.ptr [.str name] 0, .ptr [ci d] 0]] = some (.bool (covers l name d)))
    (s : σ) (d : Int) (h0 : 0 ≤ d) (h1 : d ≤ 100000) (M : Nat) (hM : N + 100001 ≤ M) : ∃ ex ts' rest', (ex = .normal ∨ ex = .ret) ∧ (runs Q (M + 1)).2 yh lc133 ⟨pad 24 [.tuple [], .c (.ptr [ci d] 0), .c (.ptr [.slice (l.map Lic.enc)] 0), .c (.ptr [.str name] 0)], hd s⟩ none =
      some (ex, ⟨ts', hd (visit nx jp l name (100000 - d).toNat s d).1 ++ rest'⟩, (visit nx jp l name (100000 - d).toNat s d).2) := by
  have hl := L133 (Q := Q) (yh := yh) (l := l) (name := name) (K := K) hK hy hc (.ptr [ci d] 0) (100000 - d).toNat M (by omega) s d [.cells 0 [.c (ci d)] 0] 0 rfl h0 h1 rfl .undef .undef (.c (ci d)) .undef .undef .undef .undef .undef .undef .undef .undef .undef .undef .undef .undef .undef .undef .undef .undef
  obtain ⟨ts', rest', ex, hex, h⟩ := hl
  unfold ts133 at h
  have hkk := hK s
  rcases hex with rfl | rfl
  · refine ⟨.normal, ts', rest', .inl rfl, ?_⟩
    show execI Q (runs Q M).1 (runs Q M).2 yh lc133 _ none = _
    rw [lc133_eq]
    simp [plainI_eq, opI, pad, List.replicate, hkk]
    simp at h
    rw [h]
    simp
  · refine ⟨.ret, ts', rest', .inr rfl, ?_⟩
    show execI Q (runs Q M).1 (runs Q M).2 yh lc133 _ none = _
    rw [lc133_eq]
    simp [plainI_eq, opI, pad, List.replicate, hkk]
    simp at h
    rw [h]
    simp

end LM.G9

namespace LM.G9
open Go LM

/-- The number of the first element of a kind, or -1. -/
def idxF {α : Type} (p : α → Bool) : Nat → List α → Int
  | _, [] => -1
  | n, x :: r => if p x then n else idxF p (n + 1) r

theorem idxF_lt {α : Type} (p : α → Bool) : ∀ (l : List α) (n : Nat), (idxF p n l < 0) ↔ l.any p = false
  | [], n => by simp [idxF]
  | x :: r, n => by
    unfold idxF
    cases h : p x
    · simp [h, idxF_lt p r (n + 1)]
    · simp [h]

theorem idxF_none {α : Type} {p : α → Bool} : ∀ {l : List α} {n : Nat}, l.any p = false → idxF p n l = -1
  | [], n, _ => rfl
  | x :: r, n, h => by
    simp only [List.any_cons, Bool.or_eq_false_iff] at h
    rw [idxF, if_neg (by simp [h.1]), idxF_none h.2]

theorem idxF_dec {α : Type} (p : α → Bool) (l : List α) (n : Nat) : decide (0 ≤ idxF p n l) = l.any p := by
  have := idxF_lt p l n
  cases h : l.any p
  · have := this.2 h
    simp; omega
  · have : ¬ idxF p n l < 0 := fun q => by rw [this.1 q] at h; cases h
    simp; omega

end LM.G9

namespace LM.G9
open Go LM
variable {P : Nat → Option SFunc} [Has P]

def Lic.clo (name : Str) (d : Int) : CV := .func 135 [] [.ptr [.str name] 0, .ptr [ci d] 0]

theorem S135 (x : Lic) (name : Str) (d : Int) : fn P 135 [x.enc, .ptr [.str name] 0, .ptr [ci d] 0] = some (.bool (holds name d x)) := by
  rw [u135]
  unfold holds
  by_cases h : x.name = name <;> simp [c135, Lic.enc, h]

theorem L151 (name : Str) (d : Int) : ∀ (l pre : List Lic), ((pre ++ l).length : Int) < 9223372036854775807 →
    execS P (limS P) c151_l0 ⟨[.c (.slice ((pre ++ l).map Lic.enc)), .c (Lic.clo name d), .c (ci (pre ++ l).length), .c (ci pre.length)], []⟩ = if l.any (holds name d) then some (.ret, ⟨[.c (ci (idxF (holds name d) pre.length l))], []⟩) else some (.exit 0, ⟨[], []⟩) := by
  intro l
  induction l with
  | nil =>
    intro pre h
    rw [r151_l0]
    simp [c151_l0b]
  | cons x r ih =>
    intro pre h
    have ih := ih (pre ++ [x]) (by simpa using h)
    have hc := S135 (P := P) x name d
    simp [Lic.enc, Lic.clo] at ih h hc
    have hw : IntKind.i64.wrap (↑pre.length + 1) = ↑pre.length + 1 := wrap64 (by omega) (by omega)
    have hlt : (pre.length : Int) < pre.length + (r.length + 1) := by omega
    rw [r151_l0]
    cases h0 : holds name d x
    · simp [c151_l0b, hw, hlt, Lic.enc, Lic.clo, hc, idxF, h0, ih]
    · simp [c151_l0b, hw, hlt, Lic.enc, Lic.clo, hc, idxF, h0]

theorem S134 (name : Str) (d : Int) (l : List Lic) (h : (l.length : Int) < 9223372036854775807) : fn P 134 [.slice (l.map Lic.enc), Lic.clo name d] = some (.bool (covers l name d)) := by
  have hl := L151 (P := P) name d l [] (by simpa using h)
  have h2 : fn P 151 [.slice (l.map Lic.enc), Lic.clo name d] = some (ci (idxF (holds name d) 0 l)) := by
    rw [u151]
    simp at hl
    simp [c151, hl]
    exact fun hx => (idxF_none (by simpa using hx)).symm
  rw [u134]
  unfold covers
  simp [c134, h2, idxF_dec]

theorem S83 (l : List Lic) (name : Str) (d : Int) : fn P 83 [.slice (l.map Lic.enc), .str name, ci d] = some (.func 133 [] [.ptr [ci d] 0, .ptr [.slice (l.map Lic.enc)] 0, .ptr [.str name] 0]) := by
  rw [u83]
  simp [c83, resV]

end LM.G9

namespace LM.G9
open Go LM
variable {P : Nat → Option SFunc} [Has P] {Q : Nat → Option LFunc}

/-- What the small machine answers, the larger one does, with enough fuel. -/
def Over (P : Nat → Option SFunc) (Q : Nat → Option LFunc) : Prop := ∀ f args v, fn P f args = some v → ∃ n, pcall Q n f args = some v

theorem Over.all (h : Over P Q) {f : Nat} {args : List CV} {v : CV} (e : fn P f args = some v) : ∃ N, ∀ M, N ≤ M → pcall Q M f args = some v := by
  obtain ⟨n, hn⟩ := h f args v e
  exact ⟨n, pcall_all hn⟩

theorem fuel134 (hQ : Over P Q) (l : List Lic) (name : Str) (hs : (l.length : Int) < 9223372036854775807) : ∃ N, ∀ M, N ≤ M → ∀ d, 0 ≤ d → d ≤ 99999 → pcall Q M 134 [.slice (l.map Lic.enc), .func 135 [] [.ptr [.str name] 0, .ptr [ci d] 0]] = some (.bool (covers l name d)) := by
  obtain ⟨N, h⟩ := fuel_all (p := fun M k => pcall Q M 134 [.slice (l.map Lic.enc), .func 135 [] [.ptr [.str name] 0, .ptr [ci k] 0]] = some (.bool (covers l name k))) 100000 (fun k _ => hQ.all (S134 (P := P) name k l hs))
  refine ⟨N, fun M hM d h0 h1 => ?_⟩
  have := h M hM d.toNat (by omega)
  rw [Int.toNat_of_nonneg h0] at this
  exact this

def licensedE (l : List Lic) (name : Str) (a b : Int) : Int := firstE [checkLics l, named name, dated a, dated b, whenE (decide (a > b)) 11]

/-- The state of Licensed's body: the last day, and whether it was reached. -/
def hd18 (to : Int) (s : Bool) : Heap := [.cells 0 [.c (ci to)] 0, .cells 0 [.c (.bool s)] 0, .cells 0 [.c (ci 0)] 0, .dead]

theorem visit18 (l : List Lic) (name : Str) (to : Int) (ht : to ≤ 99999) : ∀ (n : Nat) (d : Int), (100000 - d).toNat = n → d ≤ to → visit (fun s d => if d = to then true else s) (fun _ d => if d = to then some Ex.ret else none) l name n false d = if to < lapse l name d then (true, some .ret) else (false, none) := by
  intro n
  induction n with
  | zero => intro d hn hd; omega
  | succ n ih =>
    intro d hn hd
    unfold visit
    cases hc : covers l name d with
    | false =>
      have h : ¬ to < d := by omega
      rw [lapse_stop hc]
      simp [h]
    | true =>
      rw [lapse_step (by omega) hc]
      simp only [if_true]
      by_cases h : d = to
      · subst h
        have : d < lapse l name (d + 1) := by
          have : d + 1 ≤ lapse l name (d + 1) := lapse_ge _ _ _
          omega
        simp [this]
      · simp only [h, if_false]
        exact ih (d + 1) (by omega) (by omega)

theorem firstE_zero (e : Int) (r : List Int) : firstE (e :: r) = 0 ↔ e = 0 ∧ firstE r = 0 := by
  rw [firstE]
  by_cases h : e = 0 <;> simp [h]
theorem dated_zero (d : Int) : dated d = 0 ↔ 0 ≤ d ∧ d ≤ 99999 := by
  unfold dated whenE outside
  by_cases h1 : d < 0 <;> by_cases h2 : d > 99999 <;> simp [h1, h2] <;> omega

theorem E18 (hQ : Over P Q) (q18 : Q 18 = some lf18) (q133 : Q 133 = some lf133) (l : List Lic) (name : Str) (a b : Int) (hl : ∀ x ∈ l, x.ok) (hs : (l.length : Int) < 9223372036854775807) (hn : name.length < 9223372036854775807) :
    ∃ n, pcall Q n 18 [.slice (l.map Lic.enc), .str name, ci a, ci b] = some (.tuple [.bool (decide (licensedE l name a b = 0) && decide (b < lapse l name a)), ci (licensedE l name a b)]) := by
  obtain ⟨n1, f1⟩ := hQ.all (S17 (P := P) l hl hs)
  obtain ⟨n2, f2⟩ := hQ.all (S80 (P := P) name hn)
  obtain ⟨n3, f3⟩ := hQ.all (S81 (P := P) a)
  obtain ⟨n4, f4⟩ := hQ.all (S81 (P := P) b)
  obtain ⟨n5, f5⟩ := hQ.all (S82 (P := P) (decide (a > b)) 11)
  obtain ⟨n6, f6⟩ := hQ.all (S79_5 (P := P) (checkLics l) (named name) (dated a) (dated b) (whenE (decide (a > b)) 11))
  obtain ⟨n7, f7⟩ := hQ.all (S83 (P := P) l name a)
  obtain ⟨n8, f8⟩ := fuel134 hQ l name hs
  have hM : ∃ M, n1 ≤ M + 1 ∧ n2 ≤ M + 1 ∧ n3 ≤ M + 1 ∧ n4 ≤ M + 1 ∧ n5 ≤ M + 1 ∧ n6 ≤ M + 1 ∧ n7 ≤ M + 1 ∧ n8 + 100001 ≤ M := ⟨n1 + n2 + n3 + n4 + n5 + n6 + n7 + n8 + 100001, by omega⟩
  obtain ⟨M, m1, m2, m3, m4, m5, m6, m7, m8⟩ := hM
  have f1 := f1 _ m1
  have f2 := f2 _ m2
  have f3 := f3 _ m3
  have f4 := f4 _ m4
  have f5 := f5 _ m5
  have f6 := f6 _ m6
  have f7 := f7 _ m7
  have g1 := callF_of f1
  have g2 := callF_of f2
  have g3 := callF_of f3
  have g5 := callF_of f5
  have g6 := callF_of f6
  have g7 := callF_of f7
  refine ⟨M + 2, ?_⟩
  rw [pcall_code (n := M + 1) q18]
  by_cases he : licensedE l name a b = 0
  · have he' := he
    unfold licensedE at he'
    rw [he'] at f6
    simp at f5 f6
    simp [lc18, pad, List.replicate, lr_some, f1, f2, f3, f4, f5, f6, f7, g1, g2, g3, g5, g6, g7, rangeF_func q133]
    generalize hyh : handOf _ _ _ _ = yh
    have hy : ∀ (s : Bool) (d : Int) (rest : Heap), yh [.c (ci d)] (hd18 b s ++ rest) = some (hd18 b (if d = b then true else s) ++ rest, if d = b then some Ex.ret else none) := by
      intro s d rest
      rw [← hyh]
      by_cases hd : d = b
      · simp [handOf, setPs, hd18, hd]
      · simp [handOf, setPs, hd18, hd]
    have hr : 0 ≤ a ∧ a ≤ 99999 ∧ 0 ≤ b ∧ b ≤ 99999 ∧ a ≤ b := by
      simp only [firstE_zero, dated_zero] at he'
      have := he'.2.2.2.2.1
      simp only [whenE] at this
      split at this
      · omega
      · rename_i h
        simp at h
        omega
    obtain ⟨ex, ts', rest', hex, hE⟩ := E133 (hd := hd18 b) (K := 4) (fun _ => rfl) hy f8 false a (by omega) (by omega) M m8
    rw [visit18 l name b (by omega) _ a rfl (by omega)] at hE
    simp [pad, List.replicate, hd18] at hE
    rw [hE]
    by_cases hb : b < lapse l name a
    · simp [hb, he]
      rcases hex with rfl | rfl <;> simp [resultV, resultsAll, resultOne, resV]
    · simp [hb, he]
      rcases hex with rfl | rfl <;> simp [resultV, resultsAll, resultOne, resV]
  · have he' := he
    unfold licensedE at he'
    simp at f5 f6 he'
    simp [lc18, pad, List.replicate, lr_some, f1, f2, f3, f4, f5, f6, f7, g1, g2, g3, g5, g6, g7, he', licensedE, resultV, resultsAll, resultOne, resV]


def lapseE (l : List Lic) (name : Str) (a : Int) : Int := firstE [checkLics l, named name, dated a]

/-- The state of Lapse's body: the last day. -/
def hd19 (s : Int) : Heap := [.cells 0 [.c (ci s)] 0]

theorem visit19 (l : List Lic) (name : Str) : ∀ (n : Nat) (d : Int), (100000 - d).toNat = n → visit (fun _ d => d) (fun _ _ => none) l name n (d - 1) d = (lapse l name d - 1, none) := by
  intro n
  induction n with
  | zero => intro d hn; unfold visit; rw [lapse_end (by omega)]
  | succ n ih =>
    intro d hn
    unfold visit
    cases hc : covers l name d with
    | false => rw [lapse_stop hc]; simp
    | true =>
      rw [lapse_step (by omega) hc]
      have := ih (d + 1) (by omega)
      rw [Int.add_sub_cancel] at this
      simp [this]

theorem E19 (hQ : Over P Q) (q19 : Q 19 = some lf19) (q133 : Q 133 = some lf133) (l : List Lic) (name : Str) (a : Int) (hl : ∀ x ∈ l, x.ok) (hs : (l.length : Int) < 9223372036854775807) (hn : name.length < 9223372036854775807) :
    ∃ n, pcall Q n 19 [.slice (l.map Lic.enc), .str name, ci a] = some (.tuple [ci (if lapseE l name a = 0 then lapse l name a else 0), ci (lapseE l name a)]) := by
  obtain ⟨n1, f1⟩ := hQ.all (S17 (P := P) l hl hs)
  obtain ⟨n2, f2⟩ := hQ.all (S80 (P := P) name hn)
  obtain ⟨n3, f3⟩ := hQ.all (S81 (P := P) a)
  obtain ⟨n6, f6⟩ := hQ.all (S79_3 (P := P) (checkLics l) (named name) (dated a))
  obtain ⟨n7, f7⟩ := hQ.all (S83 (P := P) l name a)
  obtain ⟨n8, f8⟩ := fuel134 hQ l name hs
  have hM : ∃ M, n1 ≤ M + 1 ∧ n2 ≤ M + 1 ∧ n3 ≤ M + 1 ∧ n6 ≤ M + 1 ∧ n7 ≤ M + 1 ∧ n8 + 100001 ≤ M := ⟨n1 + n2 + n3 + n6 + n7 + n8 + 100001, by omega⟩
  obtain ⟨M, m1, m2, m3, m6, m7, m8⟩ := hM
  have f1 := f1 _ m1
  have f2 := f2 _ m2
  have f3 := f3 _ m3
  have f6 := f6 _ m6
  have f7 := f7 _ m7
  have g1 := callF_of f1
  have g2 := callF_of f2
  have g3 := callF_of f3
  have g6 := callF_of f6
  have g7 := callF_of f7
  refine ⟨M + 2, ?_⟩
  rw [pcall_code (n := M + 1) q19]
  by_cases he : lapseE l name a = 0
  · have he' := he
    unfold lapseE at he'
    rw [he'] at f6
    simp only [firstE_zero, dated_zero] at he'
    have hw : IntKind.i64.wrap (a - 1) = a - 1 := wrap64 (by omega) (by omega)
    simp [lc19, pad, List.replicate, lr_some, f1, f2, f3, f6, f7, g1, g2, g3, g6, g7, hw, rangeF_func q133]
    generalize hyh : handOf _ _ _ _ = yh
    have hy : ∀ (s : Int) (d : Int) (rest : Heap), yh [.c (ci d)] (hd19 s ++ rest) = some (hd19 d ++ rest, none) := by
      intro s d rest
      rw [← hyh]
      simp [handOf, setPs, hd19]
    obtain ⟨ex, ts', rest', hex, hE⟩ := E133 (hd := hd19) (nx := fun _ d => d) (jp := fun _ _ => none) (K := 1) (fun _ => rfl) hy f8 (a - 1) a (by omega) (by omega) M m8
    rw [visit19 l name _ a rfl] at hE
    simp [pad, List.replicate, hd19] at hE
    rw [hE]
    have hb : lapse l name a ≤ 100000 := lapse_le (by omega)
    have hb2 := lapse_ge l name a
    have hw2 : IntKind.i64.wrap (lapse l name a) = lapse l name a := wrap64 (by omega) (by omega)
    rcases hex with rfl | rfl <;> simp [he, hw2, resultV, resultsAll, resultOne, resV]
  · have he' := he
    unfold lapseE at he'
    simp [lc19, pad, List.replicate, lr_some, f1, f2, f3, f6, g1, g2, g3, g6, he', lapseE, resultV, resultsAll, resultOne, resV]

end LM.G9

namespace LM.G9
open Go LM
variable {P : Nat → Option SFunc} [Has P]

@[simp] theorem S27 (have' e bad want : Int) : fn P 27 [ci have', ci e, ci bad, ci want] = some (.bool (if bad ≠ 0 then (have' == 0) && (e == bad) else (e == 0) && (have' == want))) := by
  rw [u27]
  by_cases hb : bad = 0 <;> simp [c27, hb] <;> rfl

end LM.G9

namespace LM.G9
open Go LM
variable {P : Nat → Option SFunc} [Has P] [HasP P]

theorem firstE_days {pre l : List Lic} (h : eachE (fun _ => checkLic) pre l = 0) : Days l := by
  induction l generalizing pre with
  | nil => intro x hx; simp at hx
  | cons c r ih =>
    unfold eachE at h
    split at h
    · rename_i h1; exact absurd h h1
    · rename_i h1
      intro x hx
      rcases List.mem_cons.1 hx with rfl | hx
      · simp only [ne_eq, Decidable.not_not] at h1
        unfold checkLic at h1
        simp only [firstE_zero, dated_zero] at h1
        omega
      · exact ih h x hx

theorem checkLics_days {l : List Lic} (h : checkLics l = 0) : Days l := by
  unfold checkLics at h
  split at h
  · cases h
  · exact firstE_days h

theorem firstE_lic (l : List Lic) (name : Str) (a b : Int) : firstE [lapseE l name a, dated b, whenE (decide (a > b)) 11] = licensedE l name a b := by
  unfold lapseE licensedE
  by_cases h1 : checkLics l = 0
  · by_cases h2 : named name = 0
    · by_cases h3 : dated a = 0 <;> simp [firstE, h1, h2, h3]
    · simp [firstE, h1, h2]
  · simp [firstE, h1]

set_option maxHeartbeats 4000000 in
theorem S3 (h14 : fn P 14 [] = some (.bool true)) (l : List Lic) (name : Str) (a b : Int) (hl : ∀ x ∈ l, x.ok) (sl : l.length * 32 ≤ 2 ^ 47) (hn : name.length < 9223372036854775807)
    (e18 : fn P 18 [.slice (l.map Lic.enc), .str name, ci a, ci b] = some (.tuple [.bool (decide (licensedE l name a b = 0) && decide (b < lapse l name a)), ci (licensedE l name a b)]))
    (e19 : fn P 19 [.slice (l.map Lic.enc), .str name, ci a] = some (.tuple [ci (if lapseE l name a = 0 then lapse l name a else 0), ci (lapseE l name a)])) :
    fn P 3 [.slice (l.map Lic.enc), .str name, .agg [ci a, ci b]] = some (.bool true) := by
  have e13 := S13 (P := P) l sl
  have e15 := S15 (P := P) l hl (by omega)
  have e16 := S16 (P := P) l hl (by omega)
  have e17 := S17 (P := P) l hl (by omega)
  have e20 := S20_3 (P := P) (checkLics l) (named name) (dated a)
  have e20' := S20_3 (P := P) (lapseE l name a) (dated b) (whenE (decide (a > b)) 11)
  rw [firstE_lic] at e20'
  have e20 : fn P 20 [.slice [ci (checkLics l), ci (whenE (!isName name) 8), ci (dated a)]] = some (ci (lapseE l name a)) := e20
  have q40 : (40 : Int) < name.length ↔ ¬ name.length ≤ 40 := by omega
  rw [u3]
  cases h1 : shortLics l
  · rw [h1] at e15
    simp [c3, e13, h14, e15]
  · rw [h1] at e15
    by_cases h2 : name.length ≤ 40
    · by_cases h3 : checkLics l = 0
      · rw [h3] at e16 e17 e20
        by_cases h4 : (40 : Int) < l.length
        · simp [c3, e13, h14, e15, q40, h2, -Nat.not_le, e16, e17, h4]
        · have e24 := S24 (P := P) l name a b (checkLics_days h3) (by omega)
          have e25 := S25 (P := P) l name a (checkLics_days h3) (by omega)
          by_cases h5 : lapseE l name a = 0
          · have h5' := h5
            unfold lapseE at h5'
            simp only [firstE_zero, dated_zero] at h5'
            have e24 := e24 (by omega) (by omega)
            have e25 := e25 (by omega) (by omega)
            rw [h5] at e20 e20' e19
            simp at e19 e20'
            by_cases h6 : licensedE l name a b = 0
            · rw [h6] at e18 e20'
              simp at e18
              simp [c3, e13, h14, e15, q40, h2, -Nat.not_le, e16, e17, h4, e18, e19, e20, e20', e24, e25]
            · simp [h6] at e18
              simp [c3, e13, h14, e15, q40, h2, -Nat.not_le, e16, e17, h4, e18, e19, e20, e20', e25, h6]
          · have h6 : licensedE l name a b ≠ 0 := by
              rw [← firstE_lic]
              rw [firstE, if_pos h5]
              exact h5
            simp [h5] at e19
            simp [h6] at e18
            simp at e20'
            simp [c3, e13, h14, e15, q40, h2, -Nat.not_le, e16, e17, h4, e18, e19, e20, e20', h5, h6]
      · have h5 : lapseE l name a = checkLics l := by
          unfold lapseE
          rw [firstE, if_pos h3]
        have h6 : licensedE l name a b = checkLics l := by
          unfold licensedE
          rw [firstE, if_pos h3]
        simp [h5, h6, h3] at e18 e19 e20 e20'
        simp [c3, e13, h14, e15, q40, h2, -Nat.not_le, e16, e17, e18, e19, e20, e20', h3]
    · simp [c3, e13, h14, e15, q40, h2, -Nat.not_le]

end LM.G9

