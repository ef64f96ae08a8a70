/- Part 9 of what YtmhdmbfiiodeoaaGreatTitles leans on. -/
import Derived.Test.YtmhdmbfiiodeoaaGreatRows
import Derived.WalkKit
import Derived.ProofKit
import Derived.SizedLaws
import Derived.Test.YtmhdmbfiiodeoaaGreatTitlesL1
import Derived.Test.YtmhdmbfiiodeoaaGreatTitlesL2
import Derived.Test.YtmhdmbfiiodeoaaGreatTitlesL3
import Derived.Test.YtmhdmbfiiodeoaaGreatTitles1
import Derived.Test.YtmhdmbfiiodeoaaGreatTitles2
import Derived.Test.YtmhdmbfiiodeoaaGreatTitles3
import Derived.Test.YtmhdmbfiiodeoaaGreatTitles4
import Derived.Test.YtmhdmbfiiodeoaaGreatTitles5
set_option linter.all false
namespace Go.Proofs.YtmhdmbfiiodeoaaGreat
open Go.ChangeShapes Go.WideShapes Go.ChangeAt Go.RowKit
theorem own_knob : ownKnob Tryz.prog.godebug = none := by kernel_rfl
theorem laid_out : laidOutB Tryz.prog = true := by kernel_rfl
theorem maps_rowed : mapsRowed Tryz.prog = true := by kernel_rfl
theorem slices_full : LM.slicesFullB Tryz.prog = true := by kernel_rfl
theorem typed_map {α : Type} {enc : α → LM.CV} {p : α → Prop} {e : LM.CTy} (h : ∀ x, LM.Typed e x → ∃ a, x = enc a ∧ p a) : ∀ {xs : List LM.CV}, (∀ x ∈ xs, LM.Typed e x) → ∃ l : List α, xs = l.map enc ∧ ∀ a ∈ l, p a
  | [], _ => ⟨[], rfl, by simp⟩
  | x :: xs, hx => by
    obtain ⟨a, ha, hp⟩ := h x (hx x (by simp))
    obtain ⟨l, hl, hq⟩ := typed_map h (xs := xs) fun y hy => hx y (by simp [hy])
    exact ⟨a :: l, by rw [ha, hl]; rfl, fun b hb => by rcases List.mem_cons.1 hb with rfl | hb; exact hp; exact hq b hb⟩
theorem typed_slice {α : Type} {enc : α → LM.CV} {p : α → Prop} {e : LM.CTy} {b : Nat} (h : ∀ x, LM.Typed e x → ∃ a, x = enc a ∧ p a) {v : LM.CV} (hv : LM.Typed (.slice b e) v) : ∃ l : List α, v = .slice (l.map enc) ∧ (∀ a ∈ l, p a) ∧ l.length * b ≤ 2 ^ 47 := by
  simp only [LM.Typed] at hv
  obtain ⟨xs, rfl, _, hb, hx⟩ := hv
  obtain ⟨l, rfl, hp⟩ := typed_map h hx
  refine ⟨l, rfl, hp, ?_⟩
  rw [List.length_map] at hb
  exact Nat.le_trans hb (by decide)
theorem typed_str {v : LM.CV} (hv : LM.Typed .str v) : ∃ s : LM.Str, v = .str s ∧ s.length < 9223372036854775807 := by
  simp only [LM.Typed] at hv
  obtain ⟨s, rfl, h⟩ := hv
  exact ⟨s, rfl, Nat.lt_of_le_of_lt h (by decide)⟩
end Go.Proofs.YtmhdmbfiiodeoaaGreat
namespace LM.G6
open Go LM
variable {P : Nat → Option SFunc} [Has P]
@[simp] theorem S89 (b : Bool) (e : Int) : fn P 89 [.bool b, ci e] = some (ci (whenE b e)) := by
  rw [u89]; cases b <;> simp [c89, whenE]
@[simp] theorem S141 (c : Nat) : fn P 141 [.int .i32 c] = some (.bool (letterN c)) := by
  rw [u141]; simp [c141, letterN]
  rw [show decide ((97 : Int) ≤ c) = decide (97 ≤ c) from decide_eq_decide.2 (by omega), show decide ((c : Int) ≤ 122) = decide (c ≤ 122) from decide_eq_decide.2 (by omega),
    show decide ((65 : Int) ≤ c) = decide (65 ≤ c) from decide_eq_decide.2 (by omega), show decide ((c : Int) ≤ 90) = decide (c ≤ 90) from decide_eq_decide.2 (by omega)]
theorem L88 : ∀ (l pre : List Int), (l.length : Int) + pre.length < 9223372036854775807 → execS P (limS P) c88_l0 ⟨[.c (.slice ((pre ++ l).map ci)), .c (ci (pre ++ l).length), .c (ci pre.length)], []⟩ = if firstE l = 0 then some (.exit 0, ⟨[], []⟩) else some (.ret, ⟨[.c (ci (firstE l))], []⟩) := by
  intro l
  induction l with
  | nil =>
    intro pre h
    rw [r88_l0]
    simp [c88_l0b, firstE]
  | cons c r ih =>
    intro pre h
    have ih := ih (pre ++ [c]) (by simp at h ⊢; omega)
    simp at ih h
    have hw : IntKind.i64.wrap (↑pre.length + 1) = ↑pre.length + 1 := wrap64 (by omega) (by omega)
    have hlt : (pre.length : Int) < pre.length + (r.length + 1) := by omega
    rw [r88_l0]
    by_cases hc : c = 0
    · subst hc
      simp [c88_l0b, firstE, hw, hlt, ih]
    · simp [c88_l0b, firstE, hw, hlt, hc]
@[simp] theorem S88 (l : List Int) (h : l.length < 9223372036854775807) : fn P 88 [.slice (l.map ci)] = some (ci (firstE l)) := by
  have := L88 (P := P) l [] (by simp; omega)
  rw [u88]
  simp at this
  simp [c88, this]
  by_cases hc : firstE l = 0 <;> simp [hc]
@[simp] theorem S88_1 (a : Int) : fn P 88 [.slice [ci a]] = some (ci (firstE [a])) := S88 [a] (by simp)
@[simp] theorem S88_2 (a b : Int) : fn P 88 [.slice [ci a, ci b]] = some (ci (firstE [a, b])) := S88 [a, b] (by simp)
@[simp] theorem S88_3 (a b c : Int) : fn P 88 [.slice [ci a, ci b, ci c]] = some (ci (firstE [a, b, c])) := S88 [a, b, c] (by simp)
@[simp] theorem S88_4 (a b c d : Int) : fn P 88 [.slice [ci a, ci b, ci c, ci d]] = some (ci (firstE [a, b, c, d])) := S88 [a, b, c, d] (by simp)
@[simp] theorem S88_5 (a b c d e : Int) : fn P 88 [.slice [ci a, ci b, ci c, ci d, ci e]] = some (ci (firstE [a, b, c, d, e])) := S88 [a, b, c, d, e] (by simp)
theorem L22 : ∀ (l pre : List Int), (l.length : Int) + pre.length < 9223372036854775807 → execS P (limS P) c22_l0 ⟨[.c (.slice ((pre ++ l).map ci)), .c (ci pre.length)], []⟩ = if firstE l = 0 then some (.exit 0, ⟨[], []⟩) else some (.ret, ⟨[.c (ci (firstE l))], []⟩) := by
  intro l
  induction l with
  | nil =>
    intro pre h
    rw [r22_l0]
    simp [c22_l0b, firstE]
  | cons c r ih =>
    intro pre h
    have ih := ih (pre ++ [c]) (by simp at h ⊢; omega)
    simp at ih h
    have hw : IntKind.i64.wrap (↑pre.length + 1) = ↑pre.length + 1 := wrap64 (by omega) (by omega)
    have hlt : (pre.length : Int) < pre.length + (r.length + 1) := by omega
    rw [r22_l0]
    by_cases hc : c = 0
    · subst hc
      simp [c22_l0b, firstE, hw, hlt, ih]
    · simp [c22_l0b, firstE, hw, hlt, hc]
@[simp] theorem S22 (l : List Int) (h : l.length < 9223372036854775807) : fn P 22 [.slice (l.map ci)] = some (ci (firstE l)) := by
  have := L22 (P := P) l [] (by simp; omega)
  rw [u22]
  simp at this
  simp [c22, this]
  by_cases hc : firstE l = 0 <;> simp [hc]
@[simp] theorem S22_2 (a b : Int) : fn P 22 [.slice [ci a, ci b]] = some (ci (firstE [a, b])) := S22 [a, b] (by simp)
@[simp] theorem S22_3 (a b c : Int) : fn P 22 [.slice [ci a, ci b, ci c]] = some (ci (firstE [a, b, c])) := S22 [a, b, c] (by simp)
@[simp] theorem S22_4 (a b c d : Int) : fn P 22 [.slice [ci a, ci b, ci c, ci d]] = some (ci (firstE [a, b, c, d])) := S22 [a, b, c, d] (by simp)
theorem L85 (s : Str) (hs : s.length ≤ 24) : ∀ (l pre : Str), s = pre ++ l → execS P (limS P) c85_l0 ⟨[.c (.str s), .c (ci pre.length)], []⟩ = if nameFrom pre.length l then some (.exit 0, ⟨[], []⟩) else some (.ret, ⟨[.c (.bool false)], []⟩) := by
  intro l
  induction l with
  | nil =>
    intro pre h
    rw [r85_l0]
    simp [c85_l0b, h, nameFrom]
  | cons c r ih =>
    intro pre h
    have ih := ih (pre ++ [c]) (by simp [h])
    simp at ih
    rw [h] at hs
    simp at hs
    have hw : IntKind.i64.wrap (↑pre.length + 1) = ↑pre.length + 1 := wrap64 (by omega) (by omega)
    have hlt : (pre.length : Int) < pre.length + (r.length + 1) := by omega
    have hn : (((↑c.toNat : Int) < 97 ∨ 122 < (↑c.toNat : Int)) ∧ ((↑c.toNat : Int) < 65 ∨ 90 < (↑c.toNat : Int))) ∧ (pre = [] ∨ ((↑c.toNat : Int) < 48 ∨ 57 < (↑c.toNat : Int)) ∧ ¬(↑c.toNat : Int) = 95) ↔ nameN pre.length c.toNat = false := by
      have hp : pre = [] ↔ pre.length = 0 := by simp
      unfold nameN letterN digitN
      cases pre with
      | nil => simp; omega
      | cons x y => simp; omega
    rw [r85_l0]
    simp [c85_l0b, h, nameFrom, hw, hlt, hn]
    rw [← h, ih]
    cases nameN pre.length c.toNat <;> simp
@[simp] theorem S85 (s : Str) : fn P 85 [.str s] = some (.bool (isName s)) := by
  rw [u85]
  by_cases h1 : s.length < 1
  · have : s = [] := List.eq_nil_of_length_eq_zero (by omega)
    subst this
    simp [c85, isName]
  · by_cases h2 : s.length > 24
    · have h3 : ¬ (s.length : Int) < 1 := by omega
      have h4 : (24 : Int) < (s.length : Int) := by omega
      have h5 : ¬ s.length ≤ 24 := by omega
      simp [c85, isName, h3, h4, h5]
    · have := L85 (P := P) s (by omega) s [] rfl
      simp at this
      have h3 : ¬ (s.length : Int) < 1 := by omega
      have h4 : ¬ (24 : Int) < (s.length : Int) := by omega
      have h5 : s.length ≤ 24 := by omega
      have h6 : 1 ≤ s.length := by omega
      simp [c85, isName, h3, h4, h5, h6, this]
      cases nameFrom 0 s <;> simp
theorem L90 (s : Str) (hs : s.length < 9223372036854775807) : ∀ (l pre : Str), s = pre ++ l → ∃ q, execS P (limS P) c90_l0 ⟨[.c (.str s), .ptr 0 0 0], [.iter s pre.length]⟩ = if nameFrom pre.length l then some (.exit 0, ⟨[.c (.str s)], [.iter s s.length]⟩) else some (.ret, ⟨[.c (.bool false)], [.iter s q]⟩) := by
  intro l
  induction l with
  | nil =>
    intro pre h
    refine ⟨0, ?_⟩
    rw [r90_l0]
    simp [c90_l0b, h, nameFrom]
  | cons c r ih =>
    intro pre h
    obtain ⟨q, ih⟩ := ih (pre ++ [c]) (by simp [h])
    simp at ih
    have hc : s[pre.length]? = some c := by simp [h]
    rw [r90_l0]
    rcases Nat.lt_or_ge c.toNat 128 with hlo | hhi
    · have hd := decode_lo hc hlo
      rw [h] at hd
      have hn : (letterN c.toNat = false ∧ (pre = [] ∨ ¬(↑c.toNat : Int) = 95 ∧ ((↑c.toNat : Int) < 48 ∨ 57 < (↑c.toNat : Int)))) ↔ nameN pre.length c.toNat = false := by
        unfold nameN digitN
        cases pre with
        | nil => simp
        | cons x y => simp; cases letterN c.toNat <;> simp; omega
      refine ⟨if nameN pre.length c.toNat = false then pre.length + 1 else q, ?_⟩
      simp [c90_l0b, h, nameFrom, hd, hn]
      rw [h] at ih
      simp at ih
      cases nameN pre.length c.toNat <;> simp [ih]
    · have hd := decode_hi hc hhi
      rw [h] at hd
      have hl : letterN (Utf8.decode { data := List.toArray (pre ++ c :: r) } pre.length).fst = false := by
        have := nameN_hi (i := 0) hd
        simpa [nameN] using this
      have h1 : ¬ (↑(Utf8.decode { data := List.toArray (pre ++ c :: r) } pre.length).fst : Int) = 95 := by omega
      have h2 : (57 : Int) < (↑(Utf8.decode { data := List.toArray (pre ++ c :: r) } pre.length).fst : Int) := by omega
      refine ⟨pre.length + (Utf8.decode { data := List.toArray (pre ++ c :: r) } pre.length).snd, ?_⟩
      simp [c90_l0b, h, nameFrom, hl, h1, h2, nameN_hi hhi]
@[simp] theorem S90 (s : Str) (hs : s.length < 9223372036854775807) : fn P 90 [.str s] = some (.bool (isName s)) := by
  rw [u90]
  obtain ⟨q, this⟩ := L90 (P := P) s hs s [] rfl
  simp at this
  simp [c90, this]
  cases hn : nameFrom 0 s
  · simp [isName, hn]
  · cases s with
    | nil => simp [isName]
    | cons c r =>
      simp [isName, hn]
      omega
end LM.G6
namespace LM.G6
open Go LM
variable {P : Nat → Option SFunc} [Has P]
structure Lic where
  name : Str
  frm : Int
  to : Int
def Lic.enc (x : Lic) : CV := .agg [.str x.name, ci x.frm, ci x.to]
def Lic.ok (x : Lic) : Prop := x.name.length < 9223372036854775807
/-- The first error of a list's elements. -/
def eachE {α : Type} (chk : List α → α → Int) : List α → List α → Int
  | _, [] => 0
  | pre, x :: r => if chk pre x ≠ 0 then chk pre x else eachE chk (pre ++ [x]) r
end LM.G6
namespace LM.G6
open Go LM
/-- The number of the first element of a kind, or -1. -/
def idxF {α : Type} (p : α → Bool) : Nat → List α → Int
  | _, [] => -1
  | n, x :: r => if p x then n else idxF p (n + 1) r
theorem idxF_lt {α : Type} (p : α → Bool) : ∀ (l : List α) (n : Nat), (idxF p n l < 0) ↔ l.any p = false
  | [], n => by simp [idxF]
  | x :: r, n => by
    unfold idxF
    cases h : p x
    · simp [h, idxF_lt p r (n + 1)]
    · simp [h]
theorem idxF_none {α : Type} {p : α → Bool} : ∀ {l : List α} {n : Nat}, l.any p = false → idxF p n l = -1
  | [], n, _ => rfl
  | x :: r, n, h => by
    simp only [List.any_cons, Bool.or_eq_false_iff] at h
    rw [idxF, if_neg (by simp [h.1]), idxF_none h.2]
theorem idxF_dec {α : Type} (p : α → Bool) (l : List α) (n : Nat) : decide (0 ≤ idxF p n l) = l.any p := by
  have := idxF_lt p l n
  cases h : l.any p
  · have := this.2 h
    simp; omega
  · have : ¬ idxF p n l < 0 := fun q => by rw [this.1 q] at h; cases h
    simp; omega
end LM.G6
namespace LM.G6
open Go LM
variable {P : Nat → Option SFunc} [Has P]
def Str.is (s : Str) (x : Str) : Bool := x == s
theorem Str.is_eq (s x : Str) : Str.is s x = decide (x = s) := by unfold Str.is; by_cases h : x = s <;> simp [h]
theorem Str.is_eq' (s x : Str) : Str.is s x = decide (s = x) := by rw [Str.is_eq]; exact decide_eq_decide.2 eq_comm
theorem L148 (s : Str) : ∀ (l pre : List Str), ((pre ++ l).length : Int) < 9223372036854775807 →
    execS P (limS P) c148_l0 ⟨[.c (.slice ((pre ++ l).map CV.str)), .c (.str s), .c (ci (pre ++ l).length), .c (ci pre.length)], []⟩ = if l.any (Str.is s) then some (.ret, ⟨[.c (ci (idxF (Str.is s) pre.length l))], []⟩) else some (.exit 0, ⟨[], []⟩) := by
  intro l
  induction l with
  | nil =>
    intro pre h
    rw [r148_l0]
    simp [c148_l0b]
  | cons x r ih =>
    intro pre h
    have ih := ih (pre ++ [x]) (by simpa using h)
    simp at ih h
    have hw : IntKind.i64.wrap (↑pre.length + 1) = ↑pre.length + 1 := wrap64 (by omega) (by omega)
    have hlt : (pre.length : Int) < pre.length + (r.length + 1) := by omega
    have e := Str.is_eq' s x
    rw [r148_l0]
    by_cases h0 : s = x
    · simp only [h0, decide_true] at e
      simp [c148_l0b, hw, hlt, idxF, h0, e]
    · simp only [h0, decide_false] at e
      simp [c148_l0b, hw, hlt, idxF, h0, e, ih]
theorem S113 (s : Str) (l : List Str) (h : (l.length : Int) < 9223372036854775807) : fn P 113 [.slice (l.map CV.str), .str s] = some (.bool (l.any (Str.is s))) := by
  have hl := L148 (P := P) s l [] (by simpa using h)
  have h2 : fn P 148 [.slice (l.map CV.str), .str s] = some (ci (idxF (Str.is s) 0 l)) := by
    rw [u148]
    simp at hl
    simp [c148, hl]
    exact fun hx => (idxF_none (by simpa using hx)).symm
  rw [u113]
  simp [c113, h2, idxF_dec]
def once (pre : List Str) (s : Str) : Int := firstE [named s, whenE (pre.any (Str.is s)) 9]
theorem L81 (s : Str) : ∀ (l pre : List Str), ((pre ++ l).length : Int) < 9223372036854775807 →
    execS P (limS P) c81_l0 ⟨[.c (.slice ((pre ++ l).map CV.str)), .c (.str s), .c (ci pre.length)], []⟩ = if l.any (Str.is s) then some (.ret, ⟨[.c (.bool true)], []⟩) else some (.exit 0, ⟨[], []⟩) := by
  intro l
  induction l with
  | nil =>
    intro pre h
    rw [r81_l0]
    simp [c81_l0b]
  | cons x r ih =>
    intro pre h
    have ih := ih (pre ++ [x]) (by simpa using h)
    simp at ih h
    have hw : IntKind.i64.wrap (↑pre.length + 1) = ↑pre.length + 1 := wrap64 (by omega) (by omega)
    have hlt : (pre.length : Int) < pre.length + (r.length + 1) := by omega
    have e := Str.is_eq s x
    rw [r81_l0]
    by_cases h0 : x = s
    · simp only [h0, decide_true] at e
      simp [c81_l0b, hw, hlt, h0, e]
    · simp only [h0, decide_false] at e
      simp [c81_l0b, hw, hlt, h0, e, ih]
theorem S81 (s : Str) (l : List Str) (h : (l.length : Int) < 9223372036854775807) : fn P 81 [.slice (l.map CV.str), .str s] = some (.bool (l.any (Str.is s))) := by
  have hl := L81 (P := P) s l [] (by simpa using h)
  simp [-List.any_eq_true] at hl
  rw [u81]
  cases h0 : l.any (Str.is s) <;> rw [h0] at hl <;> simp [c81, hl]
theorem once_eq (pre : List Str) (s : Str) : once pre s = if isName s = false then 8 else if pre.any (Str.is s) then 9 else 0 := by
  unfold once named whenE
  cases isName s <;> cases pre.any (Str.is s) <;> simp [firstE]
end LM.G6
namespace LM.G6
open Go LM
variable {P : Nat → Option SFunc} [Has P]
def cI (xs : List Int) : List LV := xs.map fun v => LV.c (ci v)
theorem cI_length (xs : List Int) : (cI xs).length = xs.length := by simp [cI]
theorem cI_set (xs : List Int) (i : Nat) (v : Int) : (cI xs).set i (.c (ci v)) = cI (xs.set i v) := by
  unfold cI
  rw [List.map_set]
theorem cellsOf_ints (xs : List Int) : cellsOf (xs.map ci) = cI xs := by
  induction xs with
  | nil => rfl
  | cons x r ih =>
    have : cellsOf ((x :: r).map ci) = .c (ci x) :: cellsOf (r.map ci) := rfl
    rw [this, ih]
    rfl
theorem intElems (l : List Int) : ∀ x ∈ l.map ci, Elem none x := by
  intro x hx
  obtain ⟨y, _, rfl⟩ := List.mem_map.1 hx
  exact ⟨rfl, rfl⟩
end LM.G6
namespace LM.G6
open Go LM
def brkF : Nat → List Int
  | 0 => [1]
  | k + 1 => (brkF k).flatMap fun s => [s, (2 : Int) ^ (k + 1) + 1 - s]
/-- How many rounds a bracket has. -/
def levN (n : Nat) : Nat := if n ≤ 1 then 0 else if n ≤ 2 then 1 else if n ≤ 4 then 2 else if n ≤ 8 then 3 else if n ≤ 16 then 4 else if n ≤ 32 then 5 else 6
/-- The seeds of the slots. -/
def brk (n : Nat) : List Int := (brkF (levN n)).map fun (s : Int) => if s > (n : Int) then 0 else s
theorem brk_length' (n : Nat) : (brk n).length = (brkF (levN n)).length := by simp [brk]
def constL : List LV → Bool
  | [] => true
  | .c _ :: r => constL r
  | _ => false
def constH : Heap → Bool
  | [] => true
  | .cells _ cs _ :: r => constL cs && constH r
  | .dead :: r => constH r
  | _ => false
theorem under_const : ∀ {l : List LV} (n : Nat), constL l = true → underL n l = true
  | [], _, _ => rfl
  | .c v :: r, n, h => by
    simp only [constL] at h
    simp only [underL, LV.under, under_const n h, Bool.and_self]
theorem underB_const : ∀ {H : Heap} (n : Nat), constH H = true → underB n H = true
  | [], _, _ => rfl
  | .cells g cs fz :: r, n, h => by
    simp only [constH, Bool.and_eq_true] at h
    simp only [underB, LB.under, under_const n h.1, underB_const n h.2, Bool.and_self]
  | .dead :: r, n, h => by
    simp only [constH] at h
    simp only [underB, LB.under, underB_const n h, Bool.and_self]
theorem constL_cI : ∀ xs : List Int, constL (cI xs) = true
  | [] => rfl
  | _ :: r => constL_cI r
theorem constH_append : ∀ H K : Heap, constH (H ++ K) = (constH H && constH K)
  | [], K => by simp [constH]
  | .cells g cs fz :: r, K => by simp [constH, constH_append r K, Bool.and_assoc]
  | .map .. :: r, K => by simp [constH]
  | .iter .. :: r, K => by simp [constH]
  | .dead :: r, K => by simp [constH, constH_append r K]
theorem constH_snoc {H : Heap} (h : constH H = true) (g : Nat) (xs : List Int) (fz : Nat) : constH (H ++ [.cells g (cI xs) fz]) = true := by
  rw [constH_append, h]
  simp [constH, constL_cI]
theorem constH_set : ∀ {H : Heap} (b g : Nat) (xs : List Int) (fz : Nat), constH H = true → constH (H.set b (.cells g (cI xs) fz)) = true
  | [], _, _, _, _, _ => rfl
  | .cells g' cs fz' :: r, 0, g, xs, fz, h => by
    simp only [constH, Bool.and_eq_true] at h
    simp [constH, constL_cI, h.2]
  | .cells g' cs fz' :: r, b + 1, g, xs, fz, h => by
    simp only [constH, Bool.and_eq_true] at h
    simp [constH, h.1, constH_set b g xs fz h.2]
  | .dead :: r, 0, g, xs, fz, h => by
    simp only [constH] at h
    simp [constH, constL_cI, h]
  | .dead :: r, b + 1, g, xs, fz, h => by
    simp only [constH] at h
    simp [constH, constH_set b g xs fz h]
theorem brkF_length : ∀ k, (brkF k).length = 2 ^ k
  | 0 => rfl
  | k + 1 => by
    have h := brkF_length k
    have : ∀ (l : List Int) (c : Int), (l.flatMap fun s => [s, c - s]).length = 2 * l.length := by
      intro l c
      induction l with
      | nil => rfl
      | cons a r ih => simp [List.flatMap_cons] at ih ⊢; omega
    rw [brkF, this, h, Nat.pow_succ]
    omega
theorem brkF_bound : ∀ k, ∀ x ∈ brkF k, 1 ≤ x ∧ x ≤ (2 : Int) ^ k
  | 0, x, h => by simp [brkF] at h; subst h; decide
  | k + 1, x, h => by
    rw [brkF, List.mem_flatMap] at h
    obtain ⟨s, hs, hx⟩ := h
    have := brkF_bound k s hs
    have e : (2 : Int) ^ (k + 1) = 2 * 2 ^ k := by rw [Int.pow_succ]; omega
    simp at hx
    rcases hx with rfl | rfl <;> omega
theorem levN_lt {n k : Nat} (hn : n ≤ 64) (h1 : 1 ≤ n) (hk : k ≤ 6) : 2 ^ k < n ↔ k < levN n := by
  unfold levN
  have h : k = 0 ∨ k = 1 ∨ k = 2 ∨ k = 3 ∨ k = 4 ∨ k = 5 ∨ k = 6 := by omega
  rcases h with rfl | rfl | rfl | rfl | rfl | rfl | rfl <;> (repeat' split) <;> omega
theorem levN_le (n : Nat) : levN n ≤ 6 := by
  unfold levN
  (repeat' split) <;> omega
def cut (n : Nat) (s : Int) : Int := if s > (n : Int) then 0 else s
def chkI (r : Option CV) (x : Int) : Bool := match r with
  | some (.int .i64 v) => v == x
  | _ => false
theorem chkI_eq {r : Option CV} {x : Int} (h : chkI r x = true) : r = some (ci x) := by
  unfold chkI at h
  split at h
  · simp only [beq_iff_eq] at h; rw [h]
  · cases h
/-- How many bits a number has. -/
def blen : Nat → Nat → Nat
  | 0, _ => 0
  | f + 1, x => if x = 0 then 0 else blen f (x / 2) + 1
def pops : Nat → Nat → Nat
  | 0, _ => 0
  | f + 1, x => x % 2 + pops f (x / 2)
/-- What the program's small functions answer, reckoned. -/
structure Tabs (P : Nat → Option SFunc) : Prop where
  len : ∀ x : Nat, x < 64 → fn P 111 [.int .u64 x] = some (ci (blen 7 x))
  pop : ∀ x : Nat, x ≤ 64 → fn P 117 [.int .u64 x] = some (ci (pops 7 x))
end LM.G6
namespace LM.G6
open Go LM
theorem all_range {p : Nat → Bool} {n : Nat} (h : (List.range n).all p = true) : ∀ k, k < n → p k = true := by
  intro k hk
  rw [List.all_eq_true] at h
  exact h k (List.mem_range.2 hk)
theorem ev111 : (List.range 64).all (fun k => chkI (pcallS prog 1000 111 [.int .u64 (k : Nat)]) (blen 7 k)) = true := by kernel_rfl
theorem ev117 : (List.range 65).all (fun k => chkI (pcallS prog 1000 117 [.int .u64 (k : Nat)]) (pops 7 k)) = true := by kernel_rfl
theorem tabs : Tabs prog where
  len x hx := pcallS_fn (chkI_eq (all_range ev111 x hx))
  pop x hx := pcallS_fn (chkI_eq (all_range ev117 x (by omega)))
end LM.G6
namespace LM.G6
open Go LM
variable {P : Nat → Option SFunc} [Has P]
@[simp] theorem S23 (n a b : Int) : fn P 23 [ci n, ci a, ci b] = some (ci (whenE (outside n a b) 3)) := by
  rw [u23]
  unfold outside whenE
  by_cases h1 : n < a <;> by_cases h2 : b < n <;> simp [c23, h1, h2]
@[simp] theorem S91 (n a b : Int) : fn P 91 [ci n, ci a, ci b] = some (ci (whenE (outside n a b) 3)) := by
  rw [u91]
  unfold outside
  by_cases h1 : n < a <;> by_cases h2 : b < n <;> simp [c91, h1, h2]
end LM.G6
namespace LM.G6
open Go LM
variable {P : Nat → Option SFunc} [Has P]
/-- Both slots that a slot becomes. -/
def two (m : Nat) (s : Int) : List Int := [s, 2 * (m : Int) + 1 - s]
theorem L110_0 (n : Int) (H : Heap) (hU : constH H = true) (b g : Nat) (cap : Option Nat) (xs : List Int) (hb : H[b]? = some (.cells g (cI xs) 0)) (hx : ∀ x ∈ xs, 0 ≤ x ∧ x ≤ 1000) (hl : xs.length ≤ 64) : ∀ (r pre : List Int) (ys : List Int) (z : Nat), xs = pre ++ r → ys.length = 2 * pre.length → z = 1 + pre.length →
    execS P (limS P) c110_l0 ⟨[.c (ci n), .slice b g 0 xs.length none cap, .slice H.length z 0 ys.length none none, .slice b g 0 xs.length none cap, .c (ci xs.length), .c (ci pre.length)], H ++ [.cells z (cI ys) 0]⟩ =
      some (.exit 2, ⟨[.c (ci n), .slice H.length (1 + xs.length) 0 (ys ++ r.flatMap (two xs.length)).length none none], H ++ [.cells (1 + xs.length) (cI (ys ++ r.flatMap (two xs.length))) 0]⟩) := by
  intro r
  induction r with
  | nil =>
    intro pre ys z hp hy hz
    have hp : xs = pre := by simpa using hp
    subst hp hz
    rw [r110_l0]
    simp [c110_l0b]
  | cons x r ih =>
    intro pre ys z hp hy hz
    have hpl : xs.length = pre.length + (r.length + 1) := by rw [hp]; simp
    have ih := ih (pre ++ [x]) (ys ++ two xs.length x) (z + 1) (by simp [hp]) (by simp [two]; omega) (by simp; omega)
    have hx0 := hx x (by rw [hp]; simp)
    have hw : IntKind.i64.wrap (↑pre.length + 1) = ↑pre.length + 1 := wrap64 (by omega) (by omega)
    have hw2 : IntKind.i64.wrap (2 * (xs.length : Int)) = 2 * xs.length := wrap64 (by omega) (by omega)
    have hw3 : IntKind.i64.wrap (2 * (xs.length : Int) + 1) = 2 * xs.length + 1 := wrap64 (by omega) (by omega)
    have hw4 : IntKind.i64.wrap (2 * (xs.length : Int) + 1 - x) = 2 * xs.length + 1 - x := wrap64 (by omega) (by omega)
    have hlt : (pre.length : Int) < xs.length := by omega
    have hltN : pre.length < xs.length := by omega
    have hbl : b < H.length := (List.getElem?_eq_some_iff.1 hb).1
    have hb2 : (H ++ [LB.cells z (cI ys) 0])[b]? = some (.cells g (cI xs) 0) := by rw [List.getElem?_append_left hbl]; exact hb
    have g1 : (cI xs)[pre.length]? = some (.c (ci x)) := by rw [hp]; unfold cI; simp
    have ha := append_own (b := H.length) (g := z) (bytes := 8) (e := none) (ys := ys.map ci) (xs := [ci x, ci (2 * xs.length + 1 - x)]) (h := H ++ [.cells z (cellsOf (ys.map ci)) 0]) (len := ys.length) (fz := 0) (by simp) (intElems _) (intElems [x, 2 * (xs.length : Int) + 1 - x]) (by simp) (Nat.zero_le _) (by simp) (by simp; omega) (by simp; omega)
    have e2 : ys.map ci ++ [ci x, ci (2 * xs.length + 1 - x)] = (ys ++ two xs.length x).map ci := by simp [two]
    rw [e2, cellsOf_ints, cellsOf_ints] at ha
    have hu : ∀ n, underB n (H ++ [LB.cells (z + 1) (cI (ys ++ two xs.length x)) 0]) = true := by
      intro n
      exact underB_const n (constH_snoc hU _ _ _)
    have htk : List.take (H.length + 1) (H ++ [LB.cells (z + 1) (cI (ys ++ two xs.length x)) 0]) = H ++ [LB.cells (z + 1) (cI (ys ++ two xs.length x)) 0] := List.take_of_length_le (by simp)
    have hbl1 : b < H.length + 1 := by omega
    have hb3 := (List.getElem?_eq_some_iff.1 hb2).2
    have el : (ys ++ two xs.length x).length = ys.length + 2 := by simp [two]
    rw [el] at ih
    simp at ih ha
    rw [r110_l0]
    simp [c110_l0b, hw, hw2, hw3, hw4, hlt, hltN, hb2, hb3, g1, ha, hu, htk, hbl1, ih]
theorem two_flat (k : Nat) : (brkF k).flatMap (two (brkF k).length) = brkF (k + 1) := by
  rw [brkF_length, brkF]
  congr 1
  funext s
  unfold two
  congr 2
  have : (2 : Int) ^ (k + 1) = 2 * ((2 ^ k : Nat) : Int) := by rw [Int.pow_succ]; push_cast; omega
  omega
theorem brkF_len64 {k : Nat} (h : k ≤ 6) : (brkF k).length ≤ 64 := by
  rw [brkF_length]
  exact Nat.le_trans (Nat.pow_le_pow_right (by omega) h) (by decide)
theorem brkF_1000 {k : Nat} (h : k ≤ 6) : ∀ x ∈ brkF k, 0 ≤ x ∧ x ≤ 1000 := by
  intro x hx
  have h1 := brkF_bound k x hx
  have h2 := brkF_len64 h
  rw [brkF_length] at h2
  have : ((2 ^ k : Nat) : Int) = (2 : Int) ^ k := by push_cast; rfl
  omega
theorem L110_1 (n : Nat) (hn : n ≤ 64) (hn1 : 1 ≤ n) : ∀ (m k : Nat), k + m = levN n → ∀ (H : Heap) (b g : Nat) (cap : Option Nat), constH H = true → H[b]? = some (.cells g (cI (brkF k)) 0) →
    ∃ H' b' g' cap', execS P (limS P) c110_l1 ⟨[.c (ci n), .slice b g 0 (brkF k).length none cap], H⟩ = some (.exit 0, ⟨[.c (ci n), .slice b' g' 0 (brkF (levN n)).length none cap'], H'⟩) ∧ constH H' = true ∧ H'[b']? = some (.cells g' (cI (brkF (levN n))) 0) := by
  intro m
  induction m with
  | zero =>
    intro k hk H b g cap hU hb
    have hk : k = levN n := by omega
    subst hk
    refine ⟨H, b, g, cap, ?_, hU, hb⟩
    have hlt : ¬ ((brkF (levN n)).length : Int) < n := by
      have : ¬ 2 ^ levN n < n := fun q => Nat.lt_irrefl _ ((levN_lt hn hn1 (levN_le n)).1 q)
      rw [brkF_length]
      omega
    rw [r110_l1]
    simp [c110_l1b, hlt]
  | succ m ih =>
    intro k hk H b g cap hU hb
    have hk6 : k ≤ 6 := by have := levN_le n; omega
    have hlt : ((brkF k).length : Int) < n := by
      have := (levN_lt hn hn1 hk6).2 (by omega)
      rw [brkF_length]
      omega
    have h0 := L110_0 (P := P) n H hU b g cap (brkF k) hb (brkF_1000 hk6) (brkF_len64 hk6) (brkF k) [] [] 1 rfl rfl rfl
    simp only [List.nil_append, two_flat] at h0
    obtain ⟨H', b', g', cap', h1, h2, h3⟩ := ih (k + 1) (by omega) (H ++ [.cells (1 + (brkF k).length) (cI (brkF (k + 1))) 0]) H.length (1 + (brkF k).length) none (constH_snoc hU _ _ _) (by simp)
    refine ⟨H', b', g', cap', ?_, h2, h3⟩
    have e0 : cI [] = [] := rfl
    simp [e0] at h0 h1
    rw [r110_l1]
    simp [c110_l1b, c110_n6, hlt, h0, h1]
theorem L110_2 (n : Nat) (b g : Nat) (cap : Option Nat) (len : Nat) (hlen : len ≤ 64) (H : Heap) (hU : constH H = true) (hb : b < H.length) : ∀ (r pre : List Int), len = (pre ++ r).length →
    execS P (limS P) c110_l2 ⟨[.c (ci n), .slice b g 0 len none cap, .slice b g 0 len none cap, .c (ci len), .c (ci pre.length)], H.set b (.cells g (cI (pre.map (cut n) ++ r)) 0)⟩ =
      some (.exit 4, ⟨[.slice b g 0 len none cap], H.set b (.cells g (cI ((pre ++ r).map (cut n))) 0)⟩) := by
  intro r
  induction r with
  | nil =>
    intro pre hl
    simp at hl
    rw [r110_l2]
    simp [c110_l2b, hl]
  | cons x r ih =>
    intro pre hl
    have ih := ih (pre ++ [x]) (by simpa using hl)
    simp at hl
    have hw : IntKind.i64.wrap (↑pre.length + 1) = ↑pre.length + 1 := wrap64 (by omega) (by omega)
    have hlt : (pre.length : Int) < len := by omega
    have hltN : pre.length < len := by omega
    have hle : pre.length + 1 ≤ len := by omega
    have g1 : (cI (pre.map (cut n) ++ x :: r))[pre.length]? = some (.c (ci x)) := by unfold cI; simp
    have g2 := (List.getElem?_eq_some_iff.1 g1).2
    have htk : ∀ X : LB, List.take H.length (H.set b X) = H.set b X := fun X => List.take_of_length_le (by simp)
    have hcl : (cI (pre.map (cut n) ++ x :: r)).length = len := by rw [cI_length]; simp; omega
    have gs : (cI (pre.map (cut n) ++ x :: r)).set pre.length (.c (ci 0)) = cI (pre.map (cut n) ++ 0 :: r) := by
      rw [cI_set]; congr 1; simp
    have hu : ∀ m zs, underB m (H.set b (.cells g (cI zs) 0)) = true := fun m zs => underB_const m (constH_set b g zs 0 hU)
    have hc : cut n x = if (n : Int) < x then 0 else x := rfl
    rw [r110_l2]
    by_cases h : (n : Int) < x
    · simp [h] at hc
      simp [hc] at ih
      simp [c110_l2b, hw, hlt, hltN, hb, hle, g1, g2, htk, gs, hcl, hu, h, hc, ih]
    · simp [h] at hc
      simp [hc] at ih
      simp [c110_l2b, hw, hlt, hltN, hb, hle, g1, g2, htk, hcl, hu, h, hc, ih]
theorem S110 (n : Nat) (h1 : 1 ≤ n) (hn : n ≤ 64) : fn P 110 [ci n] = some (.slice ((brk n).map ci)) := by
  obtain ⟨H, b, g, cap, h2, hU, hb⟩ := L110_1 (P := P) n hn h1 (levN n) 0 (by omega) [.cells 1 [] 0, .cells 1 [.c (ci 1)] 0] 1 1 (some 1) rfl rfl
  have hbl : b < H.length := (List.getElem?_eq_some_iff.1 hb).1
  have h3 := L110_2 (P := P) n b g cap (brkF (levN n)).length (brkF_len64 (levN_le n)) H hU hbl (brkF (levN n)) [] rfl
  have hs : H.set b (.cells g (cI (brkF (levN n))) 0) = H := by
    apply List.ext_getElem?
    intro i
    rw [List.getElem?_set]
    split
    · rename_i e
      subst e
      simp [hbl]
      exact (List.getElem?_eq_some_iff.1 hb).2.symm
    · rfl
  have e : (brkF (levN n)).map (cut n) = brk n := rfl
  have hl : (brkF (levN n)).length = (brk n).length := by rw [← e]; simp
  simp only [List.map_nil, List.nil_append, hs, e] at h3
  have hr := resV_own1 (b := b) (g := g) (fz := 0) (e := none) (ys := (brk n).map ci) (h := H.set b (.cells g (cellsOf ((brk n).map ci)) 0)) (len := (brkF (levN n)).length) (by simp [hbl]) (intElems _) (by simp [hl]) cap
  rw [cellsOf_ints] at hr
  have b0 : brkF 0 = [1] := rfl
  simp [b0] at h2 h3
  rw [u110]
  simp [c110, h2, h3, hr]
end LM.G6
namespace LM.G6
open Go LM
theorem brk_eq (n : Nat) : brk n = (brkF (levN n)).map (cut n) := rfl
theorem u64_all : (List.range 64).all (fun x => IntKind.u64.wrap ((x : Nat) : Int) == ((x : Nat) : Int)) = true := by decide +kernel
end LM.G6
namespace LM.G6
open Go LM
theorem strElem (s : Str) : Elem none (CV.str s) := ⟨rfl, rfl⟩
theorem strElems (l : List Str) : ∀ x ∈ l.map CV.str, Elem none x := by
  intro x hx
  obtain ⟨y, _, rfl⟩ := List.mem_map.1 hx
  exact strElem y
end LM.G6
namespace LM.G6
open Go LM
variable {P : Nat → Option SFunc} [Has P]
structure Pr where
  a : Int
  b : Int
def Pr.enc (x : Pr) : CV := .agg [ci x.a, ci x.b]
theorem Pr.elem (x : Pr) : Elem (some 2) x.enc := ⟨_, rfl, rfl, by simp⟩
theorem Pr.elems (l : List Pr) : ∀ x ∈ l.map Pr.enc, Elem (some 2) x := by
  intro x hx
  obtain ⟨y, _, rfl⟩ := List.mem_map.1 hx
  exact y.elem
end LM.G6
namespace LM.G6
open Go LM
variable {P : Nat → Option SFunc} [Has P]
theorem firstE_zB (e : Int) (r : List Int) : firstE (e :: r) = 0 ↔ e = 0 ∧ firstE r = 0 := by
  rw [firstE]
  by_cases h : e = 0 <;> simp [h]
end LM.G6
namespace LM.G6
open Go LM
variable {P : Nat → Option SFunc} [Has P]
structure Rc where
  a : Str
  b : Str
  w : Int
def Rc.enc (x : Rc) : CV := .agg [.str x.a, .str x.b, ci x.w]
theorem Rc.elem (x : Rc) : Elem (some 3) x.enc := ⟨_, rfl, rfl, by simp⟩
theorem Rc.elems (l : List Rc) : ∀ x ∈ l.map Rc.enc, Elem (some 3) x := by
  intro x hx
  obtain ⟨y, _, rfl⟩ := List.mem_map.1 hx
  exact y.elem
/-- Who wins a race from the beginning. -/
def walkV (a b : Str) : Int := if a = [] ∧ b = [] then 3 else if b = [] then 1 else if a = [] then 2 else 0
def decR (a b : Str) : Rc := ⟨a, b, walkV a b⟩
def pairsL : List Str → List Rc
  | a :: b :: r => decR a b :: pairsL r
  | _ => []
@[simp] theorem S116 (a b : Str) : fn P 116 [.str a, .str b] = some (ci (walkV a b)) := by
  rw [u116]
  unfold walkV
  by_cases h1 : a = [] <;> by_cases h2 : b = [] <;> simp [c116, h1, h2]
@[simp] theorem S118 (a b : Str) : fn P 118 [.str a, .str b] = some (decR a b).enc := by
  rw [u118]
  have w1 : IntKind.i64.wrap 1 = 1 := rfl
  have w2 : IntKind.i64.wrap 2 = 2 := rfl
  have w3 : IntKind.i64.wrap 3 = 3 := rfl
  unfold decR walkV
  by_cases h1 : a = [] <;> by_cases h2 : b = [] <;> simp [c118, h1, h2, w1, w2, w3, Rc.enc]
  all_goals rfl
theorem L114 : ∀ (k : Nat) (r pre : List Str) (ys : List Rc), r.length ≤ k → ((pre ++ r).length : Int) < 1000 → ys.length ≤ 1000 - r.length →
    execS P (limS P) c114_l0 ⟨[.c (.slice ((pre ++ r).map CV.str)), .slice 1 (1 + ys.length) 0 ys.length (some 3) none, .c (ci pre.length)], [.cells 1 [] 0, .cells (1 + ys.length) (cellsOf (ys.map Rc.enc)) 0]⟩ =
      some (.exit 0, ⟨[.slice 1 (1 + (ys ++ pairsL r).length) 0 (ys ++ pairsL r).length (some 3) none], [.cells 1 [] 0, .cells (1 + (ys ++ pairsL r).length) (cellsOf ((ys ++ pairsL r).map Rc.enc)) 0]⟩) := by
  intro k
  induction k with
  | zero =>
    intro r pre ys hr h hy
    have : r = [] := by simpa using hr
    subst this
    simp at h
    have hw : IntKind.i64.wrap (↑pre.length + 1) = ↑pre.length + 1 := wrap64 (by omega) (by omega)
    have hlt : ¬ (pre.length : Int) + 1 < pre.length := by omega
    rw [r114_l0]
    simp [c114_l0b, pairsL, hw, hlt]
  | succ k ih =>
    intro r pre ys hr h hy
    simp at h
    have hw : IntKind.i64.wrap (↑pre.length + 1) = ↑pre.length + 1 := wrap64 (by omega) (by omega)
    rcases r with _ | ⟨a, _ | ⟨b, r⟩⟩
    · have hlt : ¬ (pre.length : Int) + 1 < pre.length := by omega
      rw [r114_l0]
      simp [c114_l0b, pairsL, hw, hlt]
    · rw [r114_l0]
      simp [c114_l0b, pairsL, hw]
    · simp at h hr hy
      have ih := ih r (pre ++ [a, b]) (ys ++ [decR a b]) (by omega) (by simp; omega) (by simp; omega)
      have hw2 : IntKind.i64.wrap (↑pre.length + 2) = ↑pre.length + 2 := wrap64 (by omega) (by omega)
      have hlt : (pre.length : Int) + 1 < pre.length + (r.length + 1 + 1) := by omega
      have hlt2 : (pre.length : Int) < pre.length + (r.length + 1 + 1) := by omega
      have ha := fun q => append_ownP (some q) (b := 1) (g := 1 + ys.length) (bytes := 40) (e := some 3) (ys := ys.map Rc.enc) (xs := [(decR a b).enc]) (h := [.cells 1 [] 0, .cells (1 + ys.length) (cellsOf (ys.map Rc.enc)) 0, .dead, .dead]) (len := ys.length) (fz := 0) rfl (Rc.elems _) (by simpa using (decR a b).elem) (by simp) (Nat.zero_le _) (by simp) (by simp; omega) (by simp; omega)
      have e1 : 1 + (ys.length + 1) = 1 + ys.length + 1 := by omega
      have hu : ∀ n ys, underL n (cellsOf ys) = true := fun n ys => underL_cellsOf n ys
      have tn : ((pre.length : Int) + 1).toNat = pre.length + 1 := by omega
      have n0 : 0 ≤ (pre.length : Int) + 1 := by omega
      simp [Rc.enc] at ih ha
      rw [e1] at ih
      rw [r114_l0]
      simp [c114_l0b, pairsL, hw, hw2, hlt, hlt2, tn, n0, ha, hu, Rc.enc, ih]
theorem S114 (l : List Str) (h : l.length < 500) : fn P 114 [.slice (l.map CV.str)] = some (.slice ((pairsL l).map Rc.enc)) := by
  have hL := L114 (P := P) l.length l [] [] (Nat.le_refl _) (by simp; omega) (by simp)
  have hr := resV_own1 (b := 1) (g := 1 + (pairsL l).length) (fz := 0) (e := some 3) (ys := (pairsL l).map Rc.enc) (h := [.cells 1 [] 0, .cells (1 + (pairsL l).length) (cellsOf ((pairsL l).map Rc.enc)) 0]) (len := (pairsL l).length) rfl (Rc.elems _) (by simp) none
  have c0 : cellsOf [] = [] := rfl
  simp [c0] at hL
  rw [u114]
  simp [c114, hL, hr]
/-- The error of a bracket's names. -/
def namesE (l : List Str) : Int := if l.length = 0 then 12 else if l.length > 64 then 5 else eachE once [] l
theorem L51_0 (x : Str) (q : List Str) : ∀ (r pre : List Str), ((pre ++ r ++ x :: q).length : Int) < 9223372036854775807 →
    execS P (limS P) c51_l0 ⟨[.c (.slice ((pre ++ r ++ x :: q).map CV.str)), .c (ci (pre ++ r).length), .c (ci pre.length)], []⟩ =
      if r.any (Str.is x) then some (.ret, ⟨[.c (ci 9)], []⟩) else some (.exit 2, ⟨[.c (.slice ((pre ++ r ++ x :: q).map CV.str)), .c (ci (pre ++ r).length)], []⟩) := by
  intro r
  induction r with
  | nil =>
    intro pre h
    rw [r51_l0]
    simp [c51_l0b]
  | cons y r ih =>
    intro pre h
    have ih := ih (pre ++ [y]) (by simpa using h)
    simp [-List.any_eq_true] at ih h
    have hw : IntKind.i64.wrap (↑pre.length + 1) = ↑pre.length + 1 := wrap64 (by omega) (by omega)
    have hlt : (pre.length : Int) < pre.length + (r.length + 1) := by omega
    have b1 : (pre.length : Int) < pre.length + (r.length + (q.length + 1) + 1) := by omega
    have b2 : (pre.length : Int) + (r.length + 1) < pre.length + (r.length + (q.length + 1) + 1) := by omega
    have n0 : 0 ≤ (pre.length : Int) + (r.length + 1) := by omega
    have tn : ((pre.length : Int) + (r.length + 1)).toNat = pre.length + (r.length + 1) := by omega
    have g1 : (pre ++ y :: (r ++ x :: q))[pre.length + (r.length + 1)]? = some x := by
      rw [List.getElem?_append_right (by omega), show pre.length + (r.length + 1) - pre.length = r.length + 1 from by omega]
      simp
    have g2 := (List.getElem?_eq_some_iff.1 g1)
    have e := Str.is_eq x y
    rw [r51_l0]
    by_cases h0 : y = x
    · simp only [h0, decide_true] at e
      simp [c51_l0b, hw, hlt, b1, b2, n0, tn, h0, e, -List.any_eq_true]
    · simp only [h0, decide_false] at e
      simp [c51_l0b, hw, hlt, b1, b2, n0, tn, h0, e, ih, -List.any_eq_true]
theorem L51_1 : ∀ (r pre : List Str), ((pre ++ r).length : Int) < 9223372036854775807 →
    execS P (limS P) c51_l1 ⟨[.c (.slice ((pre ++ r).map CV.str)), .c (ci pre.length)], []⟩ = if eachE once pre r = 0 then some (.exit 0, ⟨[], []⟩) else some (.ret, ⟨[.c (ci (eachE once pre r))], []⟩) := by
  intro r
  induction r with
  | nil =>
    intro pre h
    rw [r51_l1]
    simp [c51_l1b, eachE]
  | cons x r ih =>
    intro pre h
    have ih := ih (pre ++ [x]) (by simpa using h)
    have h0 := L51_0 (P := P) x r pre [] (by simpa using h)
    have ho := once_eq pre x
    simp [-List.any_eq_true] at ih h h0
    have hw : IntKind.i64.wrap (↑pre.length + 1) = ↑pre.length + 1 := wrap64 (by omega) (by omega)
    have hlt : (pre.length : Int) < pre.length + (r.length + 1) := by omega
    rw [r51_l1]
    cases h1 : isName x
    · rw [h1] at ho
      simp at ho
      simp [c51_l1b, hw, hlt, h1, eachE, ho]
    · rw [h1] at ho
      simp [-List.any_eq_true] at ho
      cases h2 : pre.any (Str.is x)
      · rw [h2] at ho h0
        simp at ho h0
        simp [c51_l1b, hw, hlt, h1, eachE, ho, h0, ih]
      · rw [h2] at ho h0
        simp at ho h0
        simp [c51_l1b, hw, hlt, h1, eachE, ho, h0]
theorem S51 (l : List Str) (h : (l.length : Int) < 9223372036854775807) : fn P 51 [.slice (l.map CV.str)] = some (ci (namesE l)) := by
  have hL := L51_1 (P := P) l [] (by simpa using h)
  simp at hL
  rw [u51]
  unfold namesE
  by_cases h1 : l.length = 0
  · simp [c51, h1]
  · by_cases h2 : 64 < l.length
    · have h2' : (64 : Int) < l.length := by omega
      have h1' : ¬ (l.length : Int) = 0 := by omega
      simp [c51, h1, h1', h2, h2']
    · have h2' : ¬ (64 : Int) < l.length := by omega
      have h1' : ¬ (l.length : Int) = 0 := by omega
      simp [c51, h1, h1', h2, h2', hL]
      intro h; exact h.symm
end LM.G6
namespace LM.G6
open Go LM
variable {P : Nat → Option SFunc} [Has P]
/-- The name of a slot. -/
def slotF (l : List Str) (s : Int) : Str := if s = 0 then [] else l.getD (s.toNat - 1) []
def slotsL (l : List Str) : List Str := (brk l.length).map (slotF l) ++ if l.length = 1 then [[]] else []
def racesL (l : List Str) : List Rc := pairsL (slotsL l)
theorem brk_bound {n : Nat} (h1 : 1 ≤ n) (hn : n ≤ 64) : ∀ s ∈ brk n, s = 0 ∨ (1 ≤ s ∧ s ≤ n) := by
  intro s hs
  rw [brk_eq, List.mem_map] at hs
  obtain ⟨t, ht, rfl⟩ := hs
  have := brkF_bound _ t ht
  unfold cut
  split <;> omega
theorem brk_len64 (n : Nat) : (brk n).length ≤ 64 := by
  have := brkF_len64 (levN_le n)
  rw [brk_length']
  omega
theorem brk_len1 {n : Nat} (h1 : 1 ≤ n) (hn : n ≤ 64) : (brk n).length = 1 ↔ n = 1 := by
  rw [brk_length', brkF_length]
  have h := levN_lt (k := 0) hn h1 (by omega)
  constructor
  · intro e
    rcases Nat.eq_or_lt_of_le h1 with q | q
    · exact q.symm
    · have := h.1 q
      have : 2 ^ 1 ≤ 2 ^ levN n := Nat.pow_le_pow_right (by omega) this
      omega
  · rintro rfl; rfl
theorem L50_0 : ∀ (r pre : List Str), ((pre ++ r).length : Int) < 9223372036854775807 → (∀ x ∈ r, x.length < 9223372036854775807) →
    execS P (limS P) c50_l0 ⟨[.c (.slice ((pre ++ r).map CV.str)), .c (.slice ((pre ++ r).map CV.str)), .c (ci (pre ++ r).length), .c (ci pre.length)], [.cells 1 [] 0]⟩ =
      if eachE once pre r = 0 then some (.exit 0, ⟨[.c (.slice ((pre ++ r).map CV.str))], [.cells 1 [] 0]⟩) else some (.ret, ⟨[.slice 2 1 0 0 (some 3) none, .c (ci (eachE once pre r))], [.cells 1 [] 0, .dead, .cells 1 [] 0]⟩) := by
  intro r
  induction r with
  | nil =>
    intro pre h _
    rw [r50_l0]
    simp [c50_l0b, eachE]
  | cons x r ih =>
    intro pre h hx
    have ih := ih (pre ++ [x]) (by simpa using h) (fun y hy => hx y (by simp [hy]))
    have ho := once_eq pre x
    simp [-List.any_eq_true] at ih h
    have e113 := S113 (P := P) x pre (by omega)
    have e90 := S90 (P := P) x (hx x (by simp))
    have hw : IntKind.i64.wrap (↑pre.length + 1) = ↑pre.length + 1 := wrap64 (by omega) (by omega)
    have hlt : (pre.length : Int) < pre.length + (r.length + 1) := by omega
    have hle : (pre.length : Int) ≤ pre.length + (r.length + 1) := by omega
    have hz : szFits 1 (List.map CV.str pre ++ CV.str x :: List.map CV.str r) = true := by cases pre <;> rfl
    rw [r50_l0]
    cases h1 : isName x
    · rw [h1] at ho e90
      simp at ho
      cases h2 : pre.any (Str.is x) <;> rw [h2] at e113 <;> simp [c50_l0b, hw, hlt, hle, hz, e90, e113, eachE, ho, firstE, whenE]
    · rw [h1] at ho e90
      simp [-List.any_eq_true] at ho
      cases h2 : pre.any (Str.is x)
      · rw [h2] at ho e113
        simp at ho
        simp [c50_l0b, hw, hlt, hle, hz, e90, e113, eachE, ho, firstE, whenE, ih]
      · rw [h2] at ho e113
        simp at ho
        simp [c50_l0b, hw, hlt, hle, hz, e90, e113, eachE, ho, firstE, whenE]
theorem L50_1 (l : List Str) (hl : l.length ≤ 64) : ∀ (r pre : List Int) (ys : List Str), (∀ s ∈ r, s = 0 ∨ (1 ≤ s ∧ s ≤ l.length)) → ys.length = pre.length → (pre ++ r).length ≤ 64 →
    execS P (limS P) c50_l1 ⟨[.c (.slice (l.map CV.str)), .slice 1 (1 + ys.length) 0 ys.length none none, .c (.slice ((pre ++ r).map ci)), .c (ci (pre ++ r).length), .c (ci pre.length)], [.cells 1 [] 0, .cells (1 + ys.length) (cellsOf (ys.map CV.str)) 0]⟩ =
      some (.exit 2, ⟨[.slice 1 (1 + (ys ++ r.map (slotF l)).length) 0 (ys ++ r.map (slotF l)).length none none], [.cells 1 [] 0, .cells (1 + (ys ++ r.map (slotF l)).length) (cellsOf ((ys ++ r.map (slotF l)).map CV.str)) 0]⟩) := by
  intro r
  induction r with
  | nil =>
    intro pre ys _ hy h
    rw [r50_l1]
    simp [c50_l1b]
  | cons s r ih =>
    intro pre ys hs hy h
    have ih := ih (pre ++ [s]) (ys ++ [slotF l s]) (fun t ht => hs t (by simp [ht])) (by simp [hy]) (by simpa using h)
    have hs0 := hs s (by simp)
    simp at ih h
    have hw : IntKind.i64.wrap (↑pre.length + 1) = ↑pre.length + 1 := wrap64 (by omega) (by omega)
    have hlt : (pre.length : Int) < pre.length + (r.length + 1) := by omega
    have ha := append_own (b := 1) (g := 1 + ys.length) (bytes := 16) (e := none) (ys := ys.map CV.str) (xs := [.str (slotF l s)]) (h := [.cells 1 [] 0, .cells (1 + ys.length) (cellsOf (ys.map CV.str)) 0]) (len := ys.length) (fz := 0) rfl (strElems _) (by simpa using strElem (slotF l s)) (by simp) (Nat.zero_le _) (by simp) (by simp; omega) (by simp; omega)
    have e1 : 1 + (ys.length + 1) = 1 + ys.length + 1 := by omega
    have hu : ∀ n ys, underL n (cellsOf ys) = true := fun n ys => underL_cellsOf n ys
    simp at ha
    rw [e1] at ih
    rw [r50_l1]
    by_cases q : s = 0
    · subst q
      have eF : slotF l 0 = [] := rfl
      rw [eF] at ih ha
      simp [c50_l1b, hw, hlt, ha, hu, eF, ih]
    · have hs1 : 1 ≤ s ∧ s ≤ l.length := by omega
      have w2 : IntKind.i64.wrap (s - 1) = s - 1 := wrap64 (by omega) (by omega)
      have hn : s.toNat - 1 < l.length := by omega
      have n1 : s - 1 < l.length := by omega
      have g1 : l[s.toNat - 1]? = some (slotF l s) := by unfold slotF; rw [if_neg q]; simp [List.getD_eq_getElem?_getD, hn]
      have g2 := (List.getElem?_eq_some_iff.1 g1).2
      simp [c50_l1b, hw, hlt, q, w2, hs1.1, hn, n1, g1, g2, ha, hu, ih]
theorem S50_one (s : Str) (hs : s.length < 9223372036854775807) (h2 : namesE [s] = 0) : fn P 50 [.slice [.str s]] = some (.tuple [.slice ((racesL [s]).map Rc.enc), ci 0]) := by
  have hL := L50_0 (P := P) [s] [] (by simp) (by simpa using hs)
  have hn : namesE [s] = eachE once [] [s] := rfl
  rw [← hn, if_pos h2] at hL
  have e110 := S110 (P := P) 1 (by omega) (by omega)
  have eb : brk 1 = [1] := rfl
  have hK := L50_1 (P := P) [s] (by simp) [1] [] [] (by simp) rfl (by simp)
  have c0 : cellsOf [] = [] := rfl
  have eS : slotF [s] 1 = s := rfl
  have eR : racesL [s] = pairsL [s, []] := rfl
  have e114 := S114 (P := P) [s, []] (by simp)
  have ha := append_own (b := 1) (g := 2) (bytes := 16) (e := none) (ys := [CV.str s]) (xs := [.str []]) (h := [.cells 1 [] 0, .cells 2 (cellsOf [CV.str s]) 0]) (len := 1) (fz := 0) rfl (strElems [s]) (strElems [[]]) rfl (Nat.zero_le _) (by simp) (by simp) (by simp)
  have hf := frz_own (b := 1) (g := 3) (fz := 0) (e := none) (ys := [CV.str s, CV.str []]) (h := [.cells 1 [] 0, .cells 3 (cellsOf [CV.str s, CV.str []]) 0]) (len := 2) rfl (strElems [s, []]) rfl none
  rw [eb] at e110
  simp [eS, c0] at hK hL ha
  simp at e110
  simp [-frz_slice] at hf
  simp at e114
  rw [u50]
  simp [c50, firstE, whenE, hL, e110, hK, ha, hf, e114, eR, -frz_slice]
theorem S50' (l : List Str) (hne1 : ¬ l.length = 1) (hl : (l.length : Int) < 9223372036854775807) (hx : ∀ x ∈ l, x.length < 9223372036854775807) : fn P 50 [.slice (l.map CV.str)] = some (.tuple (if namesE l = 0 then [.slice ((racesL l).map Rc.enc), ci 0] else [.slice [], ci (namesE l)])) := by
  have hn : namesE l = if l.length = 0 then 12 else if l.length > 64 then 5 else eachE once [] l := rfl
  rw [u50]
  by_cases h0 : l.length = 0
  · have h0' : l = [] := List.eq_nil_of_length_eq_zero h0
    subst h0'
    simp [c50, firstE, whenE, hn]
  · have h0' : ¬ (l.length : Int) = 0 := by omega
    rw [if_neg h0] at hn
    by_cases h1 : l.length > 64
    · have h1' : (64 : Int) < l.length := by omega
      rw [if_pos h1] at hn
      simp [c50, firstE, whenE, hn, h0, h0', h1']
    · have h1' : ¬ (64 : Int) < l.length := by omega
      rw [if_neg h1] at hn
      have hL := L50_0 (P := P) l [] (by simpa using hl) hx
      rw [← hn] at hL
      by_cases h2 : namesE l = 0
      · rw [if_pos h2] at hL ⊢
        have e110 := S110 (P := P) l.length (by omega) (by omega)
        have hK := L50_1 (P := P) l (by omega) (brk l.length) [] [] (brk_bound (by omega) (by omega)) rfl (brk_len64 _)
        have c0 : cellsOf [] = [] := rfl
        by_cases h3 : l.length = 1
        · exact absurd h3 hne1
        · have hne : ¬ (brk l.length).length = 1 := fun e => h3 ((brk_len1 (by omega) (by omega)).1 e)
          have hsl : (brk l.length).map (slotF l) = slotsL l := by unfold slotsL; rw [if_neg h3]; simp
          have hsn : ¬ (slotsL l).length = 1 := by rw [← hsl]; simpa using hne
          have hsn' : ¬ ((slotsL l).length : Int) = 1 := by omega
          have e114 := S114 (P := P) (slotsL l) (by rw [← hsl]; have := brk_len64 l.length; simp; omega)
          have hf := frz_own (b := 1) (g := 1 + (slotsL l).length) (fz := 0) (e := none) (ys := (slotsL l).map CV.str) (h := [.cells 1 [] 0, .cells (1 + (slotsL l).length) (cellsOf ((slotsL l).map CV.str)) 0]) (len := (slotsL l).length) rfl (strElems _) (by simp) none
          simp only [hsl, List.nil_append] at hK
          simp [c0] at hK
          simp at hL
          simp [-frz_slice] at hf
          simp [c50, firstE, whenE, h0, h0', h1', hL, e110, hK, hf, hsn', e114, racesL, -frz_slice]
      · rw [if_neg h2] at hL ⊢
        simp at hL
        simp [c50, firstE, whenE, h0, h0', h1', hL]
theorem S50 (l : List Str) (hl : (l.length : Int) < 9223372036854775807) (hx : ∀ x ∈ l, x.length < 9223372036854775807) : fn P 50 [.slice (l.map CV.str)] = some (.tuple (if namesE l = 0 then [.slice ((racesL l).map Rc.enc), ci 0] else [.slice [], ci (namesE l)])) := by
  by_cases h : l.length = 1
  · by_cases h2 : namesE l = 0
    · obtain ⟨s, rfl⟩ := List.length_eq_one_iff.1 h
      rw [if_pos h2]
      exact S50_one s (hx s (by simp)) h2
    · have hn : namesE l = eachE once [] l := by unfold namesE; rw [if_neg (by omega), if_neg (by omega)]
      have hL := L50_0 (P := P) l [] (by simpa using hl) hx
      rw [← hn, if_neg h2] at hL
      have h0' : ¬ (l.length : Int) = 0 := by omega
      have h1' : ¬ (64 : Int) < l.length := by omega
      rw [if_neg h2]
      simp at hL
      rw [u50]
      have h0 : ¬ l = [] := fun e => by subst e; simp at h
      simp [c50, firstE, whenE, h0, h0', h1', hL]
  · exact S50' l h hl hx
end LM.G6
namespace LM.G6
open Go LM
variable {P : Nat → Option SFunc} [Has P]
/-- A map from texts to truth values. -/
abbrev Mb := List (Str × Bool)
def bKs (M : Mb) : List CV := M.map fun p => CV.str p.1
def bVs (M : Mb) : List LV := M.map fun p => .c (.bool p.2)
def bIdx (k : Str) : Mb → Option Nat
  | [] => none
  | p :: r => if k = p.1 then some 0 else (bIdx k r).map (· + 1)
def bGet (k : Str) : Mb → Bool
  | [] => false
  | p :: r => if k = p.1 then p.2 else bGet k r
def bPut (M : Mb) (k : Str) (v : Bool) : Mb := match bIdx k M with
  | some i => M.set i (k, v)
  | none => M ++ [(k, v)]
theorem findK_mb (k : Str) : ∀ M : Mb, findK (.one 1) (.str k) (bKs M) = some (bIdx k M)
  | [] => rfl
  | p :: r => by
    have ih := findK_mb k r
    unfold bKs at ih ⊢
    simp only [List.map_cons, findK]
    have e : eqK (.one 1) (.str k) (.str p.1) = some (decide (k = p.1)) := by by_cases h : k = p.1 <;> simp [eqK, keyOk, kindOf, eqS, h]
    rw [e, bIdx]
    by_cases h : k = p.1
    · simp [h]
    · simp only [h, decide_false, if_false]
      rw [ih]
      cases bIdx k r <;> rfl
theorem bIdx_some {k : Str} : ∀ {M : Mb} {i : Nat}, bIdx k M = some i → M[i]? = some (k, bGet k M)
  | [], _, h => by simp [bIdx] at h
  | p :: r, i, h => by
    rw [bIdx] at h
    split at h
    · rename_i hk
      simp at h
      subst h
      simp [bGet, hk]
    · rename_i hk
      cases h2 : bIdx k r with
      | none => rw [h2] at h; simp at h
      | some i' =>
        rw [h2] at h
        simp at h
        subst h
        have := bIdx_some h2
        simpa [bGet, hk] using this
theorem bIdx_none {k : Str} : ∀ {M : Mb}, bIdx k M = none → bGet k M = false
  | [], _ => rfl
  | p :: r, h => by
    rw [bIdx] at h
    split at h
    · cases h
    · rename_i hk
      cases h2 : bIdx k r with
      | none => rw [bGet, if_neg hk]; exact bIdx_none h2
      | some i' => rw [h2] at h; simp at h
theorem bGet_append (k k' : Str) (v : Bool) : ∀ M : Mb, bIdx k M = none → bGet k' (M ++ [(k, v)]) = if k' = k then v else bGet k' M
  | [], _ => by simp [bGet]
  | p :: r, h => by
    rw [bIdx] at h
    split at h
    · cases h
    · rename_i hk
      have h2 : bIdx k r = none := by
        cases h2 : bIdx k r with
        | none => rfl
        | some i => rw [h2] at h; simp at h
      simp only [List.cons_append, bGet]
      by_cases e : k' = p.1
      · rw [if_pos e, if_pos e, if_neg (fun q => hk (by rw [← q, e]))]
      · rw [if_neg e, if_neg e]
        exact bGet_append k k' v r h2
theorem bGet_set {k : Str} (k' : Str) (v : Bool) : ∀ {M : Mb} {i : Nat}, bIdx k M = some i → bGet k' (M.set i (k, v)) = if k' = k then v else bGet k' M
  | [], _, h => by simp [bIdx] at h
  | p :: r, i, h => by
    rw [bIdx] at h
    split at h
    · rename_i hk
      simp at h
      subst h
      simp only [List.set_cons_zero, bGet]
      by_cases e : k' = k
      · simp [e]
      · have : ¬ k' = p.1 := by rw [← hk]; exact e
        simp [e, this]
    · rename_i hk
      cases h2 : bIdx k r with
      | none => rw [h2] at h; simp at h
      | some i' =>
        rw [h2] at h
        simp at h
        subst h
        have ih := bGet_set k' v h2
        simp only [List.set_cons_succ, bGet, ih]
        by_cases e : k' = p.1
        · have : ¬ k' = k := fun q => hk (by rw [← q, e])
          simp [e, this]
          intro q
          exact absurd (q ▸ rfl) hk
        · simp [e]
theorem bGet_put (M : Mb) (k k' : Str) (v : Bool) : bGet k' (bPut M k v) = if k' = k then v else bGet k' M := by
  unfold bPut
  cases h : bIdx k M with
  | some i => exact bGet_set k' v h
  | none => exact bGet_append k k' v M h
theorem bKs_put (M : Mb) (k : Str) (v : Bool) : bKs (bPut M k v) = match bIdx k M with | some _ => bKs M | none => bKs M ++ [.str k] := by
  unfold bPut
  cases h : bIdx k M with
  | none => simp [bKs]
  | some i =>
    have hw := bIdx_some h
    obtain ⟨hi, hw⟩ := List.getElem?_eq_some_iff.1 hw
    simp only
    unfold bKs
    rw [List.map_set]
    apply List.ext_getElem
    · simp
    · intro j h1 h2
      rw [List.getElem_set]
      by_cases e : i = j
      · subst e; simp [hw]
      · simp [e]
theorem bVs_put (M : Mb) (k : Str) (v : Bool) : bVs (bPut M k v) = match bIdx k M with | some i => (bVs M).set i (.c (.bool v)) | none => bVs M ++ [.c (.bool v)] := by
  unfold bPut
  cases h : bIdx k M with
  | none => simp [bVs]
  | some i =>
    simp only
    unfold bVs
    rw [List.map_set]
theorem bVs_get {M : Mb} {k : Str} {i : Nat} (h : bIdx k M = some i) : (bVs M)[i]? = some (.c (.bool (bGet k M))) := by
  have := bIdx_some h
  simp [bVs, this]
theorem under_bVs (n : Nat) (M : Mb) : underL n (bVs M) = true := by
  unfold bVs
  induction M with
  | nil => rfl
  | cons p r ih => simpa [underL, LV.under] using ih
/-- The names that were there. -/
def namesR (l : List Rc) : List Str := l.flatMap fun r => [r.a, r.b].filter fun s => decide (s ≠ [])
def strangeR (r : Rc) : Bool := (decide (r.a ≠ []) && !isName r.a) || (decide (r.b ≠ []) && !isName r.b)
def twiceR (s : List Str) (r : Rc) : Bool := (decide (r.a ≠ []) && s.any (Str.is r.a)) || (decide (r.b ≠ []) && s.any (Str.is r.b)) || (decide (r.a ≠ []) && decide (r.a = r.b))
def rcE (pre : List Rc) (r : Rc) : Int := if strangeR r then 8 else if twiceR (namesR pre) r then 9 else if outside r.w 0 3 then 3 else if decide (0 < walkV r.a r.b) && decide (r.w ≠ walkV r.a r.b) then 19 else 0
/-- The error of races. -/
def racesE (l : List Rc) : Int := if l.length = 1 ∨ l.length = 2 ∨ l.length = 4 ∨ l.length = 8 ∨ l.length = 16 ∨ l.length = 32 then eachE rcE [] l else 2
/-- The map that the program keeps, of the names that were there. -/
def seenM (M : Mb) (s : List Str) : Prop := ∀ k, bGet k M = (decide (k ≠ []) && s.any (Str.is k))
def putR (M : Mb) (r : Rc) : Mb := bPut (bPut M r.a (decide (r.a ≠ []))) r.b (decide (r.b ≠ []))
theorem seenM_put {M : Mb} {s : List Str} (h : seenM M s) (r : Rc) (ht : twiceR s r = false) : seenM (putR M r) (s ++ [r.a, r.b].filter fun x => decide (x ≠ [])) := by
  intro k
  unfold putR
  rw [bGet_put, bGet_put, h k, List.any_append]
  by_cases e1 : k = r.b
  · subst e1
    by_cases e2 : r.b = []
    · simp [e2]
    · simp [e2, Str.is]
  · by_cases e2 : k = r.a
    · subst e2
      by_cases e3 : r.a = []
      · simp [e3, e1]
      · simp [e1, e3, Str.is]
    · have e1' : ¬ r.b = k := fun q => e1 q.symm
      have e2' : ¬ r.a = k := fun q => e2 q.symm
      have f1 : (r.b == k) = false := beq_eq_false_iff_ne.2 e1'
      have f2 : (r.a == k) = false := beq_eq_false_iff_ne.2 e2'
      rw [if_neg e1, if_neg e2]
      by_cases e3 : r.a = [] <;> by_cases e4 : r.b = [] <;> simp [e3, e4, Str.is, f1, f2]
end LM.G6
namespace LM.G6
open Go LM
variable {P : Nat → Option SFunc} [Has P]
def RB (x : Rc) : LB := .cells 0 [.c (.str x.a), .c (.str x.b), .c (ci x.w)] 0
def MB (M : Mb) : LB := .map (bKs M) (bVs M) false
theorem seg6 (x : Rc) (hxa : x.a.length < 9223372036854775807) (hxb : x.b.length < 9223372036854775807) (M : Mb) (L N I : CV) :
    execS P (limS P) c57_n6 ⟨[.map 0, .ptr 1 0 0, .c L, .c N, .c I], [MB M, RB x]⟩ = some (.normal, ⟨[.map 0, .ptr 1 0 0, .c (.bool (strangeR x)), .c L, .c N, .c I], [MB M, RB x]⟩) := by
  have ea := S90 (P := P) x.a hxa
  have eb := S90 (P := P) x.b hxb
  unfold strangeR RB
  by_cases ha : x.a = []
  · by_cases hb : x.b = []
    · simp [ha, hb]
    · cases h2 : isName x.b <;> rw [h2] at eb <;> simp [ha, hb, eb]
  · cases h1 : isName x.a
    · rw [h1] at ea
      simp [ha, ea]
    · rw [h1] at ea
      by_cases hb : x.b = []
      · simp [ha, hb, ea]
      · cases h2 : isName x.b <;> rw [h2] at eb <;> simp [ha, hb, ea, eb]
/-- A look into the map. -/
theorem look_cases (k : Str) (M : Mb) : (findK (.one 1) (.str k) (bKs M) = some none ∧ bGet k M = false) ∨ (∃ i, findK (.one 1) (.str k) (bKs M) = some (some i) ∧ (bVs M)[i]? = some (.c (.bool (bGet k M)))) := by
  have hf := findK_mb k M
  cases ia : bIdx k M with
  | none => rw [ia] at hf; exact .inl ⟨hf, bIdx_none ia⟩
  | some i => rw [ia] at hf; exact .inr ⟨i, hf, bVs_get ia⟩
theorem seg8 (x : Rc) (M : Mb) (s : Bool) (L N I : CV) :
    execS P (limS P) c57_n8 ⟨[.map 0, .ptr 1 0 0, .c (.bool s), .c L, .c N, .c I], [MB M, RB x]⟩ = some (.normal, ⟨[.map 0, .ptr 1 0 0, .c (.bool s), .c (.bool (bGet x.a M || bGet x.b M || (decide (x.a ≠ []) && decide (x.a = x.b)))), .c L, .c N, .c I], [MB M, RB x]⟩) := by
  have hk : ∀ s, keyOk (.one 1) (CV.str s) = true := fun _ => rfl
  obtain ⟨a, b, w⟩ := x
  simp only [RB, MB]
  rcases look_cases a M with ⟨fa, ga⟩ | ⟨i, fa, va⟩
  · rcases look_cases b M with ⟨fb, gb⟩ | ⟨j, fb, vb⟩
    · rw [ga, gb]
      by_cases ha : a = []
      · subst ha
        simp [hk, fa, fb]
      · by_cases hab : a = b
        · subst hab
          simp [hk, fa, ha]
        · simp [hk, fa, fb, ha, hab]
    · rw [ga]
      cases gb : bGet b M <;> rw [gb] at vb
      · by_cases ha : a = []
        · subst ha
          simp [hk, fa, fb, vb]
        · by_cases hab : a = b
          · subst hab
            simp [hk, fa, fb, ha] at fb
          · simp [hk, fa, fb, vb, ha, hab]
      · simp [hk, fa, fb, vb]
  · cases ga : bGet a M <;> rw [ga] at va
    · rcases look_cases b M with ⟨fb, gb⟩ | ⟨j, fb, vb⟩
      · rw [gb]
        by_cases ha : a = []
        · subst ha
          simp [hk, fa, fb, va]
        · by_cases hab : a = b
          · subst hab
            simp [fa] at fb
          · simp [hk, fa, fb, va, ha, hab]
      · cases gb : bGet b M <;> rw [gb] at vb
        · by_cases ha : a = []
          · subst ha
            simp [hk, fa, fb, va, vb]
          · by_cases hab : a = b
            · subst hab
              simp [hk, fa, va, ha]
            · simp [hk, fa, fb, va, vb, ha, hab]
        · simp [hk, fa, fb, va, vb]
    · simp [hk, fa, va]
theorem seg10 (x : Rc) (M : Mb) (s t : Bool) (L N I : CV) :
    execS P (limS P) c57_n10 ⟨[.map 0, .ptr 1 0 0, .c (.bool s), .c (.bool t), .c L, .c N, .c I], [MB M, RB x]⟩ = some (.normal, ⟨[.map 0, .ptr 1 0 0, .c (.bool s), .c (.bool t), .ptr 2 0 0, .c L, .c N, .c I], [MB M, RB x, RB (decR x.a x.b)]⟩) := by
  simp [RB, MB, decR, Rc.enc]
def rE (x : Rc) (s t : Bool) : Int := firstE [whenE s 8, whenE t 9, whenE (outside x.w 0 3) 3, whenE (decide (0 < walkV x.a x.b) && decide (x.w ≠ walkV x.a x.b)) 19]
theorem seg12 (x : Rc) (M : Mb) (s t : Bool) (L N I : CV) :
    execS P (limS P) c57_n12 ⟨[.map 0, .ptr 1 0 0, .c (.bool s), .c (.bool t), .ptr 2 0 0, .c L, .c N, .c I], [MB M, RB x, RB (decR x.a x.b)]⟩ = if rE x s t = 0 then some (.normal, ⟨[.map 0, .ptr 1 0 0, .c L, .c N, .c I], [MB M, RB x, RB (decR x.a x.b), .dead]⟩) else some (.ret, ⟨[.c (ci (rE x s t))], [MB M, RB x, RB (decR x.a x.b), .dead]⟩) := by
  obtain ⟨a, b, w⟩ := x
  have hk : eqK (.many [1, 1, 0]) (CV.agg [.str a, .str b, ci w]) (CV.agg [.str a, .str b, ci (walkV a b)]) = some (decide (w = walkV a b)) := by
    by_cases h : w = walkV a b <;> simp [eqK, keyOk, kindsOk, kindOf, eqCells, eqS, h]
  unfold rE
  by_cases h1 : 0 < walkV a b
  · by_cases h2 : w = walkV a b
    · subst h2
      simp at hk
      simp [RB, MB, decR, Rc.enc, hk, h1]
    · simp [RB, MB, decR, Rc.enc, hk, h1, h2]
  · simp [RB, MB, decR, Rc.enc, hk, h1]
theorem put_cases (k : Str) (v : Bool) (M : Mb) : (findK (.one 1) (.str k) (bKs M) = some none ∧ bKs M ++ [.str k] = bKs (bPut M k v) ∧ bVs M ++ [.c (.bool v)] = bVs (bPut M k v)) ∨ (∃ i, findK (.one 1) (.str k) (bKs M) = some (some i) ∧ bKs M = bKs (bPut M k v) ∧ (bVs M).set i (.c (.bool v)) = bVs (bPut M k v) ∧ i < (bVs M).length) := by
  have hf := findK_mb k M
  have h1 := bKs_put M k v
  have h2 := bVs_put M k v
  cases ia : bIdx k M with
  | none => rw [ia] at hf h1 h2; exact .inl ⟨hf, h1.symm, h2.symm⟩
  | some i => rw [ia] at hf h1 h2; exact .inr ⟨i, hf, h1.symm, h2.symm, (List.getElem?_eq_some_iff.1 (bVs_get ia)).1⟩
theorem seg13 (x : Rc) (Y Z : LB) (M : Mb) (L N I : CV) :
    execS P (limS P) c57_n13 ⟨[.map 0, .ptr 1 0 0, .c L, .c N, .c I], [MB M, RB x, Y, Z]⟩ = some (.normal, ⟨[.map 0, .c L, .c N, .c I], [MB (putR M x), RB x, Y, Z]⟩) := by
  have hk : ∀ s, keyOk (.one 1) (CV.str s) = true := fun _ => rfl
  obtain ⟨a, b, w⟩ := x
  simp only [RB, MB, putR]
  have e1 : (a != []) = decide (a ≠ []) := by by_cases h : a = [] <;> simp [h]
  have e2 : (b != []) = decide (b ≠ []) := by by_cases h : b = [] <;> simp [h]
  generalize hva : decide (a ≠ []) = va at e1
  generalize hvb : decide (b ≠ []) = vb at e2
  have e3 : (!decide (a = [])) = va := by rw [← hva]; simp
  have e4 : (!decide (b = [])) = vb := by rw [← hvb]; simp
  have e5 : (!a.isEmpty) = va := by rw [← hva]; cases a <;> rfl
  have e6 : (!b.isEmpty) = vb := by rw [← hvb]; cases b <;> rfl
  rcases put_cases a va M with ⟨f1, k1, v1⟩ | ⟨i, f1, k1, v1, i1⟩
  · rcases put_cases b vb (bPut M a va) with ⟨f2, k2, v2⟩ | ⟨j, f2, k2, v2, i2⟩
    · simp [hk, f1, k1, v1, f2, k2, v2, e5, e6]
    · rw [← k2]
      simp [hk, f1, k1, v1, f2, v2, i2, e5, e6]
  · rcases put_cases b vb (bPut M a va) with ⟨f2, k2, v2⟩ | ⟨j, f2, k2, v2, i2⟩
    · rw [← k1] at f2 k2
      simp [hk, f1, v1, i1, f2, k2, v2, e5, e6]
    · rw [← k1] at f2 k2
      rw [← k2]
      simp [hk, f1, v1, i1, f2, v2, i2, e5, e6]
theorem rE_rcE (x : Rc) (pre : List Rc) (M : Mb) (hM : seenM M (namesR pre)) : rE x (strangeR x) (bGet x.a M || bGet x.b M || (decide (x.a ≠ []) && decide (x.a = x.b))) = rcE pre x := by
  have ha := hM x.a
  have hb := hM x.b
  have ht : twiceR (namesR pre) x = (bGet x.a M || bGet x.b M || (decide (x.a ≠ []) && decide (x.a = x.b))) := by rw [ha, hb]; rfl
  unfold rE rcE
  rw [ht]
  cases strangeR x <;> cases (bGet x.a M || bGet x.b M || (decide (x.a ≠ []) && decide (x.a = x.b))) <;> cases outside x.w 0 3 <;> cases (decide (0 < walkV x.a x.b) && decide (x.w ≠ walkV x.a x.b)) <;> simp [firstE, whenE]
theorem rcE_twice {pre : List Rc} {x : Rc} (h : rcE pre x = 0) : twiceR (namesR pre) x = false := by
  unfold rcE at h
  cases ht : twiceR (namesR pre) x
  · rfl
  · rw [ht] at h
    simp at h
    split at h <;> cases h
theorem L57 : ∀ (r pre : List Rc) (M : Mb), ((pre ++ r).length : Int) < 1000 → (∀ x ∈ r, x.a.length < 9223372036854775807 ∧ x.b.length < 9223372036854775807) → seenM M (namesR pre) →
    ∃ H, execS P (limS P) c57_l0 ⟨[.map 0, .c (.slice ((pre ++ r).map Rc.enc)), .c (ci (pre ++ r).length), .c (ci pre.length)], [MB M]⟩ = if eachE rcE pre r = 0 then some (.exit 0, ⟨[], H⟩) else some (.ret, ⟨[.c (ci (eachE rcE pre r))], H⟩) := by
  intro r
  induction r with
  | nil =>
    intro pre M h _ _
    refine ⟨[MB M], ?_⟩
    rw [r57_l0]
    simp [c57_l0b, eachE]
  | cons x r ih =>
    intro pre M h hx hM
    have hx0 := hx x (by simp)
    have hE := rE_rcE x pre M hM
    have e6 := seg6 (P := P) x hx0.1 hx0.2 M
    have e8 := seg8 (P := P) x M
    generalize (bGet x.a M || bGet x.b M || (decide (x.a ≠ []) && decide (x.a = x.b))) = t at hE e8
    have e10 := seg10 (P := P) x M
    have e12 := seg12 (P := P) x M
    have e13 := fun Y Z => seg13 (P := P) x Y Z M
    simp at h
    have hw : IntKind.i64.wrap (↑pre.length + 1) = ↑pre.length + 1 := wrap64 (by omega) (by omega)
    have hlt : (pre.length : Int) < pre.length + (r.length + 1) := by omega
    have hRB : LB.cells 0 [.c (.str x.a), .c (.str x.b), .c (ci x.w)] 0 = RB x := rfl
    by_cases h0 : rcE pre x = 0
    · have hM' := seenM_put hM x (rcE_twice h0)
      have hn : namesR (pre ++ [x]) = namesR pre ++ [x.a, x.b].filter fun s => decide (s ≠ []) := by simp [namesR]
      rw [← hn] at hM'
      obtain ⟨H, ih⟩ := ih (pre ++ [x]) (putR M x) (by simp; omega) (fun y hy => hx y (by simp [hy])) hM'
      refine ⟨H, ?_⟩
      have hec : eachE rcE pre (x :: r) = eachE rcE (pre ++ [x]) r := by rw [eachE, if_neg (by simpa using h0)]
      rw [h0] at hE
      simp [Rc.enc] at ih
      have hu : ∀ n, underB n [MB (putR M x)] = true := fun n => by simp [MB, underB, LB.under, under_bVs]
      rw [hec, r57_l0]
      simp [c57_l0b, hw, hlt, Rc.enc, hRB, e6, e8, e10, e12, e13, hE, hu, ih, -c57_n6, -c57_n8, -c57_n10, -c57_n12, -c57_n13]
    · have hec : eachE rcE pre (x :: r) = rcE pre x := by rw [eachE, if_pos h0]
      refine ⟨[MB M, RB x, RB (decR x.a x.b), .dead], ?_⟩
      rw [hec, r57_l0, if_neg h0]
      simp [c57_l0b, hw, hlt, Rc.enc, hRB, e6, e8, e10, e12, e13, hE, h0, -c57_n6, -c57_n8, -c57_n10, -c57_n12, -c57_n13]
theorem S57 (T : Tabs P) (l : List Rc) (h : (l.length : Int) < 9223372036854775807) (hx : ∀ x ∈ l, x.a.length < 9223372036854775807 ∧ x.b.length < 9223372036854775807) : fn P 57 [.slice (l.map Rc.enc)] = some (ci (racesE l)) := by
  rw [u57]
  unfold racesE
  by_cases h1 : l.length = 0
  · have : l = [] := List.eq_nil_of_length_eq_zero h1
    subst this
    simp [c57]
  · by_cases h2 : l.length > 32
    · have h2' : (32 : Int) < l.length := by omega
      have h1' : ¬ (l.length : Int) < 1 := by omega
      have : ¬ (l.length = 1 ∨ l.length = 2 ∨ l.length = 4 ∨ l.length = 8 ∨ l.length = 16 ∨ l.length = 32) := by omega
      rw [if_neg this]
      simp [c57, h1', h2']
    · have h2' : ¬ (32 : Int) < l.length := by omega
      have h1' : ¬ (l.length : Int) < 1 := by omega
      have eT := T.pop l.length (by omega)
      have hw : IntKind.u64.wrap (l.length : Int) = l.length := by
        have := u64_all
        rw [List.all_eq_true] at this
        have := this l.length (List.mem_range.2 (by omega))
        simpa using this
      have hp : (pops 7 l.length = 1) ↔ (l.length = 1 ∨ l.length = 2 ∨ l.length = 4 ∨ l.length = 8 ∨ l.length = 16 ∨ l.length = 32) := by
        have key : (List.range 33).all (fun n => decide (pops 7 n = 1) == decide (n = 1 ∨ n = 2 ∨ n = 4 ∨ n = 8 ∨ n = 16 ∨ n = 32)) = true := by decide +kernel
        rw [List.all_eq_true] at key
        have := key l.length (List.mem_range.2 (by omega))
        simp only [beq_iff_eq, decide_eq_decide] at this
        exact this
      by_cases h3 : pops 7 l.length = 1
      · rw [if_pos (hp.1 h3)]
        rw [h3] at eT
        obtain ⟨H, hL⟩ := L57 (P := P) l [] [] (by simp; omega) hx (fun k => by simp [bGet, namesR])
        simp at hL
        have e0 : MB [] = .map [] [] false := rfl
        rw [e0] at hL
        by_cases h4 : eachE rcE [] l = 0
        · rw [if_pos h4] at hL
          simp [c57, h1', h2', hw, eT, hL, h4]
        · rw [if_neg h4] at hL
          simp [c57, h1', h2', hw, eT, hL]
      · rw [if_neg (fun q => h3 (hp.2 q))]
        have h3' : ¬ (pops 7 l.length : Int) = 1 := by omega
        simp [c57, h1', h2', hw, eT, h3']
end LM.G6
namespace LM.G6
open Go LM
variable {P : Nat → Option SFunc} [Has P]
/-- The first power of two that is not less, or 32. -/
def dblN (len : Int) : Nat → Int → Int
  | 0, n => n
  | f + 1, n => if n < len ∧ n < 32 then dblN len f (2 * n) else n
theorem L56_0 (l : List CV) : ∀ (f : Nat) (n : Int), n * 2 ^ f = 32 → 1 ≤ n →
    execS P (limS P) c56_l0 ⟨[.c (.slice l), .c (ci n)], []⟩ = some (.exit 0, ⟨[.c (.slice l), .c (ci (dblN l.length f n))], []⟩) := by
  intro f
  induction f with
  | zero =>
    intro n h h1
    have : n = 32 := by simpa using h
    subst this
    rw [r56_l0]
    by_cases hl : (32 : Int) < l.length <;> simp [c56_l0b, dblN, hl]
  | succ f ih =>
    intro n h h1
    have e : (2 : Int) ^ (f + 1) = 2 * 2 ^ f := by rw [Int.pow_succ]; omega
    rw [e] at h
    have h32 : n ≤ 32 := by
      have : 0 < (2 : Int) ^ f := Int.pow_pos (by omega)
      have h2 : n * 1 ≤ n * (2 * 2 ^ f) := Int.mul_le_mul_of_nonneg_left (by omega) (by omega)
      omega
    have ih := ih (2 * n) (by rw [← h, Int.mul_comm 2 n, Int.mul_assoc]) (by omega)
    have hw : IntKind.i64.wrap (2 * n) = 2 * n := wrap64 (by omega) (by omega)
    rw [r56_l0]
    by_cases h2 : n < l.length
    · by_cases h3 : n < 32
      · have ed : dblN l.length (f + 1) n = dblN l.length f (2 * n) := by rw [dblN, if_pos ⟨h2, h3⟩]
        rw [ed]
        simp [c56_l0b, h2, h3, hw, ih]
      · have ed : dblN l.length (f + 1) n = n := by rw [dblN, if_neg (fun q => h3 q.2)]
        rw [ed]
        simp [c56_l0b, h2, h3]
    · have ed : dblN l.length (f + 1) n = n := by rw [dblN, if_neg (fun q => h2 q.1)]
      rw [ed]
      simp [c56_l0b, h2]
theorem dblN_eq (k : Nat) : ((k : Int) = dblN k 5 1) ↔ (k = 1 ∨ k = 2 ∨ k = 4 ∨ k = 8 ∨ k = 16 ∨ k = 32) := by
  simp only [dblN]
  (repeat' split) <;> omega
def SB (ys : List Str) : LB := .cells (1 + ys.length) (cellsOf (ys.map CV.str)) 0
def NB (x : Rc) : LB := .cells 1 [.c (.str x.a), .c (.str x.b)] 0
theorem SB_under (n : Nat) (ys : List Str) : (SB ys).under n = true := by simp [SB, LB.under, underL_cellsOf]
theorem L56_1 (x : Rc) (ys : List Str) (L : CV) (I : CV) (n : Nat) :
    ∃ H, execS P (limS P) c56_l1 ⟨[.c L, .slice 0 (1 + ys.length) 0 n none none, .c I, .slice 1 1 0 2 none (some 2), .c (ci 0)], [SB ys, NB x]⟩ = if strangeR x then some (.ret, ⟨[.c (ci 8)], H⟩) else some (.exit 4, ⟨[.c L, .slice 0 (1 + ys.length) 0 n none none, .c I, .slice 1 1 0 2 none (some 2)], [SB ys, NB x]⟩) := by
  refine ⟨[SB ys, NB x], ?_⟩
  have hu := fun n => SB_under n ys
  have hun : ∀ n, (NB x).under n = true := fun n => rfl
  have w1 : IntKind.i64.wrap 1 = 1 := rfl
  have w2 : IntKind.i64.wrap 2 = 2 := rfl
  have k2 : execS P (limS P) c56_l1 ⟨[.c L, .slice 0 (1 + ys.length) 0 n none none, .c I, .slice 1 1 0 2 none (some 2), .c (ci 2)], [SB ys, NB x]⟩ = some (.exit 4, ⟨[.c L, .slice 0 (1 + ys.length) 0 n none none, .c I, .slice 1 1 0 2 none (some 2)], [SB ys, NB x]⟩) := by
    rw [r56_l1]; simp [c56_l1b]
  have k1 : execS P (limS P) c56_l1 ⟨[.c L, .slice 0 (1 + ys.length) 0 n none none, .c I, .slice 1 1 0 2 none (some 2), .c (ci 1)], [SB ys, NB x]⟩ = if decide (x.b ≠ []) && !isName x.b then some (.ret, ⟨[.c (ci 8)], [SB ys, NB x]⟩) else some (.exit 4, ⟨[.c L, .slice 0 (1 + ys.length) 0 n none none, .c I, .slice 1 1 0 2 none (some 2)], [SB ys, NB x]⟩) := by
    rw [r56_l1]
    simp only [NB] at hun k2 ⊢
    by_cases hb : x.b = []
    · simp [c56_l1b, hb, w2, hu, hun]
      simp [hb] at k2
      simp [k2]
    · cases hi : isName x.b <;> simp [c56_l1b, hb, hi, w2, hu, hun, k2]
  rw [r56_l1]
  unfold strangeR
  obtain ⟨a, b, w⟩ := x
  simp only [NB] at hun k1 k2 ⊢
  by_cases ha : a = []
  · subst ha
    cases hb : (decide (b ≠ []) && !isName b) <;> rw [hb] at k1 <;> simp at k1 <;> simp [c56_l1b, w1, hu, hun, k1]
  · cases hi : isName a
    · simp [c56_l1b, ha, hi]
    · cases hb : (decide (b ≠ []) && !isName b) <;> rw [hb] at k1 <;> simp at k1 <;> simp [c56_l1b, ha, hi, w1, hu, hun, k1]
theorem L56_2 (x : Rc) (ys : List Str) (L : CV) (I : CV) (hy : ys.length ≤ 1000) :
    ∃ H, execS P (limS P) c56_l2 ⟨[.c L, .slice 0 (1 + ys.length) 0 ys.length none none, .c I, .slice 1 1 0 2 none (some 2), .c (ci 0)], [SB ys, NB x]⟩ = if twiceR ys x then some (.ret, ⟨[.c (ci 9)], H⟩) else some (.exit 6, ⟨[.c L, .slice 0 (1 + (ys ++ [x.a, x.b].filter fun s => decide (s ≠ [])).length) 0 (ys ++ [x.a, x.b].filter fun s => decide (s ≠ [])).length none none, .c I], [SB (ys ++ [x.a, x.b].filter fun s => decide (s ≠ [])), NB x]⟩) := by
  obtain ⟨a, b, w⟩ := x
  have hu := fun n ys => SB_under n ys
  have hun : ∀ n, (NB ⟨a, b, w⟩).under n = true := fun n => rfl
  have w1 : IntKind.i64.wrap 1 = 1 := rfl
  have w2 : IntKind.i64.wrap 2 = 2 := rfl
  have k2 : ∀ zs : List Str, execS P (limS P) c56_l2 ⟨[.c L, .slice 0 (1 + zs.length) 0 zs.length none none, .c I, .slice 1 1 0 2 none (some 2), .c (ci 2)], [SB zs, NB ⟨a, b, w⟩]⟩ = some (.exit 6, ⟨[.c L, .slice 0 (1 + zs.length) 0 zs.length none none, .c I], [SB zs, NB ⟨a, b, w⟩]⟩) := by
    intro zs
    rw [r56_l2]; simp [c56_l2b]
  have app : ∀ (zs : List Str) (s : Str), zs.length ≤ 2000 → appendOp none none 16 (.slice 0 (1 + zs.length) 0 zs.length none none) (.c (.slice [.str s])) [SB zs, NB ⟨a, b, w⟩] = some (.slice 0 (1 + zs.length + 1) 0 (zs.length + 1) none none, [SB (zs ++ [s]), NB ⟨a, b, w⟩]) := by
    intro zs s hz
    have ha := append_own (b := 0) (g := 1 + zs.length) (bytes := 16) (e := none) (ys := zs.map CV.str) (xs := [.str s]) (h := [SB zs, NB ⟨a, b, w⟩]) (len := zs.length) (fz := 0) rfl (strElems _) (by simpa using strElem s) (by simp) (Nat.zero_le _) (by simp) (by simp; omega) (by simp; omega)
    rw [ha]
    simp [SB, Nat.add_assoc]
  have fr : ∀ (zs : List Str), frz frzDepth (.slice 0 (1 + zs.length) 0 zs.length none none) [SB zs, NB ⟨a, b, w⟩] = some (.slice (zs.map CV.str), bump 0 (zs.length * szOf none) [SB zs, NB ⟨a, b, w⟩]) := fun zs => frz_own (b := 0) (g := 1 + zs.length) (fz := 0) (e := none) (ys := zs.map CV.str) (h := [SB zs, NB ⟨a, b, w⟩]) (len := zs.length) rfl (strElems _) (by simp) none
  have k1 : ∀ zs : List Str, zs.length ≤ 1500 → ∃ H, execS P (limS P) c56_l2 ⟨[.c L, .slice 0 (1 + zs.length) 0 zs.length none none, .c I, .slice 1 1 0 2 none (some 2), .c (ci 1)], [SB zs, NB ⟨a, b, w⟩]⟩ = if decide (b ≠ []) && zs.any (Str.is b) then some (.ret, ⟨[.c (ci 9)], H⟩) else some (.exit 6, ⟨[.c L, .slice 0 (1 + (zs ++ if b = [] then [] else [b]).length) 0 (zs ++ if b = [] then [] else [b]).length none none, .c I], [SB (zs ++ if b = [] then [] else [b]), NB ⟨a, b, w⟩]⟩) := by
    intro zs hz
    refine ⟨[SB zs, NB ⟨a, b, w⟩], ?_⟩
    have e81 := S81 (P := P) b zs (by omega)
    have k2z := k2 (zs ++ [b])
    have k2y := k2 zs
    have ap := app zs b (by omega)
    have fz := fr zs
    have e1 : 1 + (zs.length + 1) = 1 + zs.length + 1 := by omega
    simp [e1] at k2z
    simp only [NB] at hun k2z k2y ap fz ⊢
    rw [r56_l2]
    by_cases hb : b = []
    · subst hb
      simp [c56_l2b, w2, hu, hun, k2y]
    · cases h2 : zs.any (Str.is b)
      · rw [h2] at e81
        simp [c56_l2b, hb, w2, hu, hun, fz, e81, ap, k2z, -frz_slice]
        omega
      · rw [h2] at e81
        simp [c56_l2b, hb, fz, e81, -frz_slice]
  by_cases ha : a = []
  · subst ha
    obtain ⟨H, h1⟩ := k1 ys (by omega)
    refine ⟨H, ?_⟩
    have et : twiceR ys ⟨[], b, w⟩ = (decide (b ≠ []) && ys.any (Str.is b)) := by simp [twiceR]
    have ef : ([([] : Str), b].filter fun s => decide (s ≠ [])) = if b = [] then [] else [b] := by by_cases hb : b = [] <;> simp [hb]
    rw [et, ef, ← h1, r56_l2]
    have hyu := hu
    simp only [NB] at hun ⊢
    simp [c56_l2b, w1, hu, hun]
  · have e81 := S81 (P := P) a ys (by omega)
    have ap := app ys a (by omega)
    have fz := fr ys
    cases h2 : ys.any (Str.is a)
    · obtain ⟨H, h1⟩ := k1 (ys ++ [a]) (by simp; omega)
      refine ⟨H, ?_⟩
      have et : twiceR ys ⟨a, b, w⟩ = (decide (b ≠ []) && (ys ++ [a]).any (Str.is b)) := by
        by_cases hab : a = b
        · subst hab
          simp [twiceR, h2, ha, Str.is]
        · have : (a == b) = false := beq_eq_false_iff_ne.2 hab
          simp [twiceR, h2, ha, hab, Str.is, this]
      have ef : ys ++ ([a, b].filter fun s => decide (s ≠ [])) = (ys ++ [a]) ++ if b = [] then [] else [b] := by by_cases hb : b = [] <;> simp [ha, hb]
      rw [et, ef, ← h1, r56_l2]
      rw [h2] at e81
      have e1 : 1 + (ys.length + 1) = 1 + ys.length + 1 := by omega
      simp only [NB] at hun ap fz ⊢
      simp [c56_l2b, ha, w1, hu, hun, fz, e81, ap, e1, -frz_slice]
    · refine ⟨[SB ys, NB ⟨a, b, w⟩], ?_⟩
      have et : twiceR ys ⟨a, b, w⟩ = true := by simp [twiceR, h2, ha]
      rw [h2] at e81
      rw [et, r56_l2]
      simp only [NB] at hun ap fz ⊢
      simp [c56_l2b, ha, fz, e81, -frz_slice]
theorem namesR_le : ∀ pre : List Rc, (namesR pre).length ≤ 2 * pre.length
  | [] => by simp [namesR]
  | a :: t => by
    have h1 : ([a.a, a.b].filter fun s => decide (s ≠ [])).length ≤ 2 := List.length_filter_le _ _
    have h2 := namesR_le t
    have e : namesR (a :: t) = ([a.a, a.b].filter fun s => decide (s ≠ [])) ++ namesR t := rfl
    rw [e, List.length_append, List.length_cons]
    omega
theorem L56_3 : ∀ (r pre : List Rc), ((pre ++ r).length : Int) < 500 → ∃ H, execS P (limS P) c56_l3 ⟨[.c (.slice ((pre ++ r).map Rc.enc)), .slice 0 (1 + (namesR pre).length) 0 (namesR pre).length none none, .c (ci pre.length)], [SB (namesR pre)]⟩ = if eachE rcE pre r = 0 then some (.exit 2, ⟨[], H⟩) else some (.ret, ⟨[.c (ci (eachE rcE pre r))], H⟩) := by
  intro r
  induction r with
  | nil =>
    intro pre h
    refine ⟨[SB (namesR pre)], ?_⟩
    rw [r56_l3]
    simp [c56_l3b, eachE]
  | cons x r ih =>
    intro pre h
    obtain ⟨H', ih⟩ := ih (pre ++ [x]) (by simpa using h)
    have hln := namesR_le pre
    have hn : namesR (pre ++ [x]) = namesR pre ++ [x.a, x.b].filter fun s => decide (s ≠ []) := by simp [namesR]
    rw [hn] at ih
    obtain ⟨H1, h1⟩ := L56_1 (P := P) x (namesR pre) (.slice ((pre ++ x :: r).map Rc.enc)) (ci pre.length) (namesR pre).length
    simp at h
    obtain ⟨H2, h2⟩ := L56_2 (P := P) x (namesR pre) (.slice ((pre ++ x :: r).map Rc.enc)) (ci pre.length) (by omega)
    have hw : IntKind.i64.wrap (↑pre.length + 1) = ↑pre.length + 1 := wrap64 (by omega) (by omega)
    have hlt : (pre.length : Int) < pre.length + (r.length + 1) := by omega
    have hu := fun n ys => SB_under n ys
    have hNB : LB.cells 1 [.c (.str x.a), .c (.str x.b)] 0 = NB x := rfl
    generalize hys : namesR pre ++ [x.a, x.b].filter (fun s => decide (s ≠ [])) = ys at ih h2
    simp [Rc.enc] at ih h1 h2
    have hu2 := hu 1 ys
    unfold LB.under at hu2
    have hE : eachE rcE pre (x :: r) = if rcE pre x ≠ 0 then rcE pre x else eachE rcE (pre ++ [x]) r := rfl
    have hR : rcE pre x = if strangeR x then 8 else if twiceR (namesR pre) x then 9 else if outside x.w 0 3 then 3 else if decide (0 < walkV x.a x.b) && decide (x.w ≠ walkV x.a x.b) then 19 else 0 := rfl
    cases q1 : strangeR x
    · rw [q1] at hR h1
      simp only [Bool.false_eq_true, if_false] at hR h1
      cases q2 : twiceR (namesR pre) x
      · rw [q2] at hR h2
        simp only [Bool.false_eq_true, if_false] at hR h2
        have hNu : ∀ n, (NB x).under n = true := fun n => rfl
        cases q3 : outside x.w 0 3
        · rw [q3] at hR
          simp only [Bool.false_eq_true, if_false] at hR
          by_cases q4 : 0 < walkV x.a x.b
          · by_cases q5 : x.w = walkV x.a x.b
            · have hR0 : rcE pre x = 0 := by rw [hR]; simp [q5]
              have q4' : ¬ walkV x.a x.b = 0 := by omega
              refine ⟨H', ?_⟩
              rw [hE, hR0, r56_l3]
              simp [c56_l3b, hw, hlt, Rc.enc, hNB, h1, h2, q3, q4, q4', ← q5, whenE, hu, hu2, hNu, ih]
            · have hR0 : rcE pre x = 19 := by rw [hR]; simp [q4, q5]
              have q4' : ¬ walkV x.a x.b = 0 := by omega
              refine ⟨[SB ys, NB x], ?_⟩
              rw [hE, hR0, r56_l3]
              simp [c56_l3b, hw, hlt, Rc.enc, hNB, h1, h2, q3, q4, q4', q5, whenE, hu, hNu]
          · have hR0 : rcE pre x = 0 := by rw [hR]; simp [q4]
            have q4' : walkV x.a x.b = 0 := by
              have : 0 ≤ walkV x.a x.b := by unfold walkV; (repeat' split) <;> omega
              omega
            refine ⟨H', ?_⟩
            rw [hE, hR0, r56_l3]
            simp [c56_l3b, hw, hlt, Rc.enc, hNB, h1, h2, q3, q4', whenE, hu, hu2, hNu, ih]
        · rw [q3] at hR
          simp at hR
          refine ⟨[SB ys, NB x], ?_⟩
          rw [hE, hR, r56_l3]
          simp [c56_l3b, hw, hlt, Rc.enc, hNB, h1, h2, q3, whenE]
      · rw [q2] at hR h2
        simp at hR h2
        refine ⟨H2, ?_⟩
        rw [hE, hR, r56_l3]
        simp [c56_l3b, hw, hlt, Rc.enc, hNB, h1, h2]
    · rw [q1] at hR h1
      simp at hR h1
      refine ⟨H1, ?_⟩
      rw [hE, hR, r56_l3]
      simp [c56_l3b, hw, hlt, Rc.enc, hNB, h1]
theorem S56 (l : List Rc) (h : (l.length : Int) < 9223372036854775807) : fn P 56 [.slice (l.map Rc.enc)] = some (ci (racesE l)) := by
  have h0 := L56_0 (P := P) (l.map Rc.enc) 5 1 (by decide) (by omega)
  have hd := dblN_eq l.length
  rw [u56]
  unfold racesE
  simp at h0
  by_cases h1 : l.length = 1 ∨ l.length = 2 ∨ l.length = 4 ∨ l.length = 8 ∨ l.length = 16 ∨ l.length = 32
  · rw [if_pos h1]
    have hd := hd.2 h1
    obtain ⟨H, hL⟩ := L56_3 (P := P) l [] (by simp; omega)
    have e0 : SB (namesR []) = .cells 1 [] 0 := rfl
    have e1 : namesR [] = [] := rfl
    rw [e0, e1] at hL
    simp at hL
    rw [← hd] at h0
    by_cases h2 : eachE rcE [] l = 0
    · rw [if_pos h2] at hL
      simp [c56, h0, hL, h2]
    · rw [if_neg h2] at hL
      simp [c56, h0, hL]
  · rw [if_neg h1]
    have hd : ¬ (l.length : Int) = dblN l.length 5 1 := fun q => h1 (hd.1 q)
    simp [c56, h0, hd]
end LM.G6
namespace LM.G6
open Go LM
variable {P : Nat → Option SFunc} [Has P]
def winR (r : Rc) : Str := if r.w = 1 then r.a else if r.w = 2 then r.b else []
def Rc.opn (r : Rc) : Bool := decide (r.w = 0)
def nextL (l : List Rc) : List Rc := pairsL (l.map winR)
@[simp] theorem S126 (r : Rc) : fn P 126 [r.enc] = some (.str (winR r)) := by
  rw [u126]
  unfold winR
  by_cases h1 : r.w = 1
  · simp [c126, Rc.enc, h1]
  · by_cases h2 : r.w = 2 <;> simp [c126, Rc.enc, h1, h2]
theorem S152 (r : Rc) : fn P 152 [r.enc] = some (.bool r.opn) := by
  rw [u152]
  unfold Rc.opn
  by_cases h : r.w = 0 <;> simp [c152, Rc.enc, h]
theorem L169 : ∀ (l pre : List Rc), ((pre ++ l).length : Int) < 9223372036854775807 →
    ∃ k : Nat, execS P (limS P) c169_l0 ⟨[.c (.slice ((pre ++ l).map Rc.enc)), .c (.func 152 [] []), .c (ci (pre ++ l).length), .c (ci pre.length)], []⟩ = if l.any Rc.opn then some (.ret, ⟨[.c (ci k)], []⟩) else some (.exit 0, ⟨[], []⟩) := by
  intro l
  induction l with
  | nil =>
    intro pre h
    refine ⟨0, ?_⟩
    rw [r169_l0]
    simp [c169_l0b]
  | cons x r ih =>
    intro pre h
    obtain ⟨k, ih⟩ := ih (pre ++ [x]) (by simpa using h)
    have es := S152 (P := P) x
    simp [Rc.enc, -List.any_eq_true] at ih h es
    have hw : IntKind.i64.wrap (↑pre.length + 1) = ↑pre.length + 1 := wrap64 (by omega) (by omega)
    have hlt : (pre.length : Int) < pre.length + (r.length + 1) := by omega
    cases h0 : x.opn
    · refine ⟨k, ?_⟩
      rw [h0] at es
      rw [r169_l0]
      simp [c169_l0b, hw, hlt, Rc.enc, es, h0, ih, -List.any_eq_true]
    · refine ⟨pre.length, ?_⟩
      rw [h0] at es
      rw [r169_l0]
      simp [c169_l0b, hw, hlt, Rc.enc, es, h0, -List.any_eq_true]
theorem S119 (l : List Rc) (h : (l.length : Int) < 9223372036854775807) : fn P 119 [.slice (l.map Rc.enc)] = some (.bool (l.any Rc.opn)) := by
  obtain ⟨k, hl⟩ := L169 (P := P) l [] (by simpa using h)
  simp [-List.any_eq_true] at hl
  have e169 : fn P 169 [.slice (l.map Rc.enc), .func 152 [] []] = some (ci (if l.any Rc.opn then (k : Int) else -1)) := by
    rw [u169]
    cases h0 : l.any Rc.opn <;> rw [h0] at hl <;> simp [c169, hl]
  have e151 : fn P 151 [.slice (l.map Rc.enc), .func 152 [] []] = some (.bool (l.any Rc.opn)) := by
    rw [u151]
    cases h0 : l.any Rc.opn <;> rw [h0] at e169 <;> simp [c151, e169]
  rw [u119]
  simp [c119, e151]
theorem L120 : ∀ (r pre : List Rc) (ys : List Str), ys.length = pre.length → ((pre ++ r).length : Int) < 1000 →
    execS P (limS P) c120_l0 ⟨[.slice 1 (1 + ys.length) 0 ys.length none none, .c (.slice ((pre ++ r).map Rc.enc)), .c (ci (pre ++ r).length), .c (ci pre.length)], [.cells 1 [] 0, SB ys]⟩ = some (.exit 0, ⟨[.slice 1 (1 + (ys ++ r.map winR).length) 0 (ys ++ r.map winR).length none none], [.cells 1 [] 0, SB (ys ++ r.map winR)]⟩) := by
  intro r
  induction r with
  | nil =>
    intro pre ys _ h
    rw [r120_l0]
    simp [c120_l0b]
  | cons x r ih =>
    intro pre ys hy h
    have ih := ih (pre ++ [x]) (ys ++ [winR x]) (by simp [hy]) (by simpa using h)
    have ha := append_own (b := 1) (g := 1 + ys.length) (bytes := 16) (e := none) (ys := ys.map CV.str) (xs := [.str (winR x)]) (h := [.cells 1 [] 0, SB ys, .cells 0 [.c (.str x.a), .c (.str x.b), .c (ci x.w)] 0]) (len := ys.length) (fz := 0) rfl (strElems _) (by simpa using strElem (winR x)) (by simp) (Nat.zero_le _) (by simp) (by simp at h ⊢; omega) (by simp at h ⊢; omega)
    have eS : LB.cells (1 + ys.length + 1) (cellsOf (ys.map CV.str ++ [CV.str (winR x)])) 0 = SB (ys ++ [winR x]) := by simp [SB, Nat.add_assoc]
    have es := S126 (P := P) x
    simp [Rc.enc] at ih h es
    simp at ha
    rw [eS] at ha
    have hw : IntKind.i64.wrap (↑pre.length + 1) = ↑pre.length + 1 := wrap64 (by omega) (by omega)
    have hlt : (pre.length : Int) < pre.length + (r.length + 1) := by omega
    have e1 : 1 + (ys.length + 1) = 1 + ys.length + 1 := by omega
    rw [e1] at ih
    have hu2 := SB_under 2 (ys ++ [winR x])
    unfold LB.under at hu2
    rw [r120_l0]
    simp [c120_l0b, hw, hlt, Rc.enc, es, ha, hu2, ih]
theorem S120 (l : List Rc) (h : l.length < 500) : fn P 120 [.slice (l.map Rc.enc)] = some (.slice ((nextL l).map Rc.enc)) := by
  have hL := L120 (P := P) l [] [] rfl (by simp; omega)
  have e0 : SB [] = .cells 1 [] 0 := rfl
  have e114 := S114 (P := P) (l.map winR) (by simpa using h)
  have hf := frz_own (b := 1) (g := 1 + (l.map winR).length) (fz := 0) (e := none) (ys := (l.map winR).map CV.str) (h := [.cells 1 [] 0, SB (l.map winR)]) (len := (l.map winR).length) rfl (strElems _) (by simp) none
  unfold nextL
  generalize l.map winR = W at *
  simp [e0] at hL
  simp [-frz_slice] at hf
  rw [u120]
  simp [c120, hL, hf, e114, -frz_slice]
end LM.G6
namespace LM.G6
open Go LM
variable {P : Nat → Option SFunc} [Has P]
def nextE (l : List Rc) : Int := firstE [racesE l, whenE ((l.length : Int) == 1) 20, whenE (l.any Rc.opn) 24]
theorem racesE_len {l : List Rc} (h : racesE l = 0) : l.length ≤ 32 := by
  unfold racesE at h
  split at h
  · omega
  · cases h
theorem S58 (T : Tabs P) (l : List Rc) (h : (l.length : Int) < 9223372036854775807) (hx : ∀ x ∈ l, x.a.length < 9223372036854775807 ∧ x.b.length < 9223372036854775807) : fn P 58 [.slice (l.map Rc.enc)] = some (.tuple (if nextE l = 0 then [.slice ((nextL l).map Rc.enc), ci 0] else [.slice [], ci (nextE l)])) := by
  have e57 := S57 (P := P) T l h hx
  have e119 := S119 (P := P) l h
  rw [u58]
  by_cases h0 : nextE l = 0
  · rw [if_pos h0]
    have h1 := h0
    unfold nextE at h0 h1
    simp only [firstE_zB] at h1
    have hl := racesE_len h1.1
    have e120 := S120 (P := P) l (by omega)
    simp [c58, e57, e119, h0, e120, -List.any_eq_true]
  · rw [if_neg h0]
    unfold nextE at h0 ⊢
    simp [c58, e57, e119, h0, -List.any_eq_true]
theorem L54 : ∀ (l pre : List Rc), (pre ++ l).length * 40 ≤ 2 ^ 47 →
    execS P (limS P) c54_l0 ⟨[.c (.slice ((pre ++ l).map Rc.enc)), .slice 1 (1 + pre.length) 0 pre.length (some 3) none, .c (ci pre.length)], [.cells 1 [] 0, .cells (1 + pre.length) (cellsOf (pre.map Rc.enc)) 0]⟩ =
      some (.exit 0, ⟨[.slice 1 (1 + (pre ++ l).length) 0 (pre ++ l).length (some 3) none], [.cells 1 [] 0, .cells (1 + (pre ++ l).length) (cellsOf ((pre ++ l).map Rc.enc)) 0]⟩) := by
  intro l
  induction l with
  | nil =>
    intro pre h
    rw [r54_l0]
    simp [c54_l0b]
  | cons c r ih =>
    intro pre h
    have ih := ih (pre ++ [c]) (by simpa using h)
    have ha := append_own (b := 1) (g := 1 + pre.length) (bytes := 40) (e := some 3) (ys := pre.map Rc.enc) (xs := [c.enc]) (h := [.cells 1 [] 0, .cells (1 + pre.length) (cellsOf (pre.map Rc.enc)) 0]) (len := pre.length) (fz := 0) rfl (Rc.elems _) (by simpa using c.elem) (by simp) (Nat.zero_le _) (by simp) (by simp at h ⊢; omega) (by simp at h ⊢; omega)
    simp at h
    simp [Rc.enc] at ih ha
    have hw : IntKind.i64.wrap (↑pre.length + 1) = ↑pre.length + 1 := wrap64 (by omega) (by omega)
    have hlt : (pre.length : Int) < pre.length + (r.length + 1) := by omega
    have e1 : 1 + (pre.length + 1) = 1 + pre.length + 1 := by omega
    rw [r54_l0]
    rw [e1] at ih
    simp [c54_l0b, Rc.enc, hw, hlt, ha, ih]
theorem S54 (l : List Rc) (h : l.length * 40 ≤ 2 ^ 47) : fn P 54 [.slice (l.map Rc.enc)] = some (.slice (l.map Rc.enc)) := by
  rw [u54]
  have := L54 (P := P) l [] (by simpa using h)
  have hf := frz_own (b := 1) (g := 1 + l.length) (fz := 0) (e := some 3) (ys := l.map Rc.enc) (h := [.cells 1 [] 0, .cells (1 + l.length) (cellsOf (l.map Rc.enc)) 0]) (len := l.length) rfl (Rc.elems _) (by simp) none
  simp at this
  simp [c54, this, resV, hf, -frz_slice]
end LM.G6
namespace LM.G6
open Go LM
def lbody156 : LCode := match lc156 with
  | .seq _ (.seq _ (.block _ (.loop _ b))) => b
  | _ => .skip
def inner156 : LCode := match lbody156 with
  | .seq _ (.seq _ (.seq (.block _ (.seq _ (.seq _ (.block _ (.loop _ b))))) _)) => b
  | _ => .skip
variable {Q : Nat → Option LFunc} {m : Nat} {yh : Hand} {l : List Rc} {x : Rc} {a b : Str} {x2 x3 x4 x5 x6 x7 x8 x9 x10 x11 x12 x13 x14 x15 x16 x17 x18 x19 x20 x21 x22 x23 x24 x25 x26 x27 x28 x29 x30 x31 x32 x33 x34 : LV} {H H' : Heap} {p : Nat}
def nmA (a b : Str) (k : Nat) : Str := if k = 0 then a else b
/-- One name of a race, told. -/
theorem I156_go (k : Nat) (hk : k < 2) (hg : H[p]? = some (.cells 0 [.c (.str x.a), .c (.str x.b), .c (ci x.w)] 0)) (h0 : nmA a b k ≠ []) (h1 : nmA a b k ≠ winR x) (hc : pcall Q m 126 [x.enc] = some (.str (winR x))) (hy : yh [.c (.str (nmA a b k))] H = some (H', none)) :
    execI Q (runs Q m).1 (runs Q m).2 yh inner156 ⟨[.tuple [], .c (.ptr [.slice (l.map Rc.enc)] 0), x2, x3, .ptr p 0 0, x5, x6, x7, x8, x9, x10, x11, x12, x13, x14, x15, x16, .c (.agg [.str a, .str b]), .c (ci k), x19, x20, x21, x22, x23, x24, x25, x26, x27, x28, x29, x30, x31, x32, x33, x34], H⟩ none =
    some (.normal, ⟨[.tuple [], .c (.ptr [.slice (l.map Rc.enc)] 0), x2, x3, .ptr p 0 0, x5, .c (.str (nmA a b k)), x7, x8, x9, x10, x11, x12, x13, x14, x15, x16, .c (.agg [.str a, .str b]), .c (ci (k + 1)), .c (.bool true), .c (.str (nmA a b k)), .c (.str (nmA a b k)), .c (.bool false), .c (.bool false), .c (.str (nmA a b k)), .c x.enc, .c (.str (winR x)), .c (.bool false), .c (.bool false), .tuple [], .c (.str (nmA a b k)), .c (.bool true), .c (.bool false), .c (ci (k + 1)), x34], H'⟩, none) := by
  have hf := callF_of hc
  have hw : IntKind.i64.wrap ((k : Int) + 1) = (k : Int) + 1 := wrap64 (by omega) (by omega)
  have hk1 : (k : Int) < 2 := by omega
  have hnm : [CV.str a, CV.str b][k]? = some (.str (nmA a b k)) := by
    rcases k with _ | _ | k
    · rfl
    · rfl
    · omega
  obtain ⟨_, hnm'⟩ := List.getElem?_eq_some_iff.1 hnm
  generalize nmA a b k = nm at *
  have hem : nm.isEmpty = false := by cases nm with | nil => exact absurd rfl h0 | cons => rfl
  unfold inner156 lbody156 lc156
  simp [Rc.enc] at hf hc
  simp [plainI_eq, opI, hg, hw, hk1, hnm, hnm', hk, hem, h0, h1, hf, hc, hy, Rc.enc]
/-- One name of a race, passed over. -/
theorem I156_none (k : Nat) (hk : k < 2) (h0 : nmA a b k = []) :
    execI Q (runs Q m).1 (runs Q m).2 yh inner156 ⟨[.tuple [], .c (.ptr [.slice (l.map Rc.enc)] 0), x2, x3, .ptr p 0 0, x5, x6, x7, x8, x9, x10, x11, x12, x13, x14, x15, x16, .c (.agg [.str a, .str b]), .c (ci k), x19, x20, x21, x22, x23, x24, x25, x26, x27, x28, x29, x30, x31, x32, x33, x34], H⟩ none =
    some (.normal, ⟨[.tuple [], .c (.ptr [.slice (l.map Rc.enc)] 0), x2, x3, .ptr p 0 0, x5, .c (.str []), x7, x8, x9, x10, x11, x12, x13, x14, x15, x16, .c (.agg [.str a, .str b]), .c (ci (k + 1)), .c (.bool true), .c (.str []), .c (.str []), .c (.bool true), .c (.bool true), .c (.tuple []), .c (.tuple []), .c (.tuple []), .c (.tuple []), .c (.bool true), x29, x30, x31, x32, .c (ci (k + 1)), x34], H⟩, none) := by
  have hw : IntKind.i64.wrap ((k : Int) + 1) = (k : Int) + 1 := wrap64 (by omega) (by omega)
  have hk1 : (k : Int) < 2 := by omega
  have hnm : [CV.str a, CV.str b][k]? = some (.str (nmA a b k)) := by
    rcases k with _ | _ | k
    · rfl
    · rfl
    · omega
  obtain ⟨_, hnm'⟩ := List.getElem?_eq_some_iff.1 hnm
  rw [h0] at hnm hnm'
  unfold inner156 lbody156 lc156
  simp [plainI_eq, opI, hw, hk1, hnm, hnm', hk]
theorem I156_won (k : Nat) (hk : k < 2) (hg : H[p]? = some (.cells 0 [.c (.str x.a), .c (.str x.b), .c (ci x.w)] 0)) (h0 : nmA a b k ≠ []) (h1 : nmA a b k = winR x) (hc : pcall Q m 126 [x.enc] = some (.str (winR x))) :
    execI Q (runs Q m).1 (runs Q m).2 yh inner156 ⟨[.tuple [], .c (.ptr [.slice (l.map Rc.enc)] 0), x2, x3, .ptr p 0 0, x5, x6, x7, x8, x9, x10, x11, x12, x13, x14, x15, x16, .c (.agg [.str a, .str b]), .c (ci k), x19, x20, x21, x22, x23, x24, x25, x26, x27, x28, x29, x30, x31, x32, x33, x34], H⟩ none =
    some (.normal, ⟨[.tuple [], .c (.ptr [.slice (l.map Rc.enc)] 0), x2, x3, .ptr p 0 0, x5, .c (.str (nmA a b k)), x7, x8, x9, x10, x11, x12, x13, x14, x15, x16, .c (.agg [.str a, .str b]), .c (ci (k + 1)), .c (.bool true), .c (.str (nmA a b k)), .c (.str (nmA a b k)), .c (.bool false), .c (.bool false), .c (.str (nmA a b k)), .c x.enc, .c (.str (winR x)), .c (.bool true), .c (.bool true), x29, x30, x31, x32, .c (ci (k + 1)), x34], H⟩, none) := by
  have hf := callF_of hc
  have hw : IntKind.i64.wrap ((k : Int) + 1) = (k : Int) + 1 := wrap64 (by omega) (by omega)
  have hk1 : (k : Int) < 2 := by omega
  have hnm : [CV.str a, CV.str b][k]? = some (.str (nmA a b k)) := by
    rcases k with _ | _ | k
    · rfl
    · rfl
    · omega
  obtain ⟨_, hnm'⟩ := List.getElem?_eq_some_iff.1 hnm
  generalize nmA a b k = nm at *
  have hem : nm.isEmpty = false := by cases nm with | nil => exact absurd rfl h0 | cons => rfl
  subst h1
  unfold inner156 lbody156 lc156
  simp [Rc.enc] at hf hc
  simp [plainI_eq, opI, hg, hw, hk1, hnm, hnm', hk, hem, h0, hf, hc, Rc.enc]
/-- Behind both names. -/
theorem I156_end : execI Q (runs Q m).1 (runs Q m).2 yh inner156 ⟨[.tuple [], .c (.ptr [.slice (l.map Rc.enc)] 0), x2, x3, x4, x5, x6, x7, x8, x9, x10, x11, x12, x13, x14, x15, x16, x17, .c (ci 2), x19, x20, x21, x22, x23, x24, x25, x26, x27, x28, x29, x30, x31, x32, x33, x34], H⟩ none = some (.exit 2, ⟨[.tuple [], .c (.ptr [.slice (l.map Rc.enc)] 0), x2, x3, x4, x5, x6, x7, x8, x9, x10, x11, x12, x13, x14, x15, x16, x17, .c (ci 2), .c (.bool false), x20, x21, x22, x23, x24, x25, x26, x27, x28, x29, x30, x31, x32, x33, x34], H⟩, none) := by
  unfold inner156 lbody156 lc156
  simp [plainI_eq, opI]
end LM.G6
namespace LM.G6
open Go LM
/-- A place. -/
structure Pl where
  n : Str
  p : Int
def Pl.enc (x : Pl) : CV := .agg [.str x.n, ci x.p]
def cPl (xs : List Pl) : List LV := cellsOf (xs.map Pl.enc)
/-- The places so far, in the heap. -/
def Inv (out : List Pl) (H : Heap) : Prop :=
  if out = [] then H[1]? = some (.cells 0 [.nil] 0) else ∃ b, H[1]? = some (.cells 0 [.slice b out.length 0 out.length (some 2) none] 0) ∧ H[b]? = some (.cells out.length (cPl out) 0)
def Fr (H H' : Heap) : Prop := H.length ≤ H'.length ∧ ∀ (i : Nat) (cs : List LV), i ≠ 1 → H[i]? = some (.cells 0 cs 0) → H'[i]? = some (.cells 0 cs 0)
theorem Fr.refl (H : Heap) : Fr H H := ⟨Nat.le_refl _, fun _ _ _ h => h⟩
theorem Fr.trans {A B C : Heap} (h : Fr A B) (k : Fr B C) : Fr A C := ⟨Nat.le_trans h.1 k.1, fun i cs hi hc => k.2 i cs hi (h.2 i cs hi hc)⟩
theorem Fr.app (H : Heap) (K : Heap) : Fr H (H ++ K) := ⟨by simp, fun i cs _ h => by
  have := (List.getElem?_eq_some_iff.1 h).1
  rw [List.getElem?_append_left this]
  exact h⟩
def gcH (n : Nat) (H : Heap) : Heap := if underB n (H.take n) then H.take n else H
theorem underB_get {n : Nat} : ∀ {h : Heap} {i : Nat} {x : LB}, underB n h = true → h[i]? = some x → x.under n = true
  | [], i, x, _, h => by simp at h
  | y :: r, 0, x, hu, h => by
    simp only [underB, Bool.and_eq_true] at hu
    simp at h
    subst h
    exact hu.1
  | y :: r, i + 1, x, hu, h => by
    simp only [underB, Bool.and_eq_true] at hu
    simp at h
    exact underB_get hu.2 h
theorem Inv.gc {out : List Pl} {H : Heap} (h : Inv out H) (n : Nat) (hn : 1 < n) : Inv out (gcH n H) := by
  unfold gcH
  split
  · rename_i hu
    unfold Inv at h ⊢
    split
    · rename_i ho
      rw [if_pos ho] at h
      rw [List.getElem?_take_of_lt hn]
      exact h
    · rename_i ho
      rw [if_neg ho] at h
      obtain ⟨b, h1, h2⟩ := h
      have h1' : (H.take n)[1]? = some (.cells 0 [.slice b out.length 0 out.length (some 2) none] 0) := by rw [List.getElem?_take_of_lt hn]; exact h1
      have := underB_get hu h1'
      simp [LB.under, underL, LV.under] at this
      exact ⟨b, h1', by rw [List.getElem?_take_of_lt this]; exact h2⟩
  · exact h
theorem Fr.gc {H H' : Heap} (h : Fr H H') (n : Nat) (hn : H.length ≤ n) : Fr H (gcH n H') := by
  unfold gcH
  split
  · refine ⟨by rw [List.length_take]; have := h.1; omega, fun i cs hi hc => ?_⟩
    have := (List.getElem?_eq_some_iff.1 hc).1
    rw [List.getElem?_take_of_lt (by omega)]
    exact h.2 i cs hi hc
  · exact h
theorem Inv.app {out : List Pl} {H : Heap} (h : Inv out H) (K : Heap) : Inv out (H ++ K) := by
  have ap : ∀ (i : Nat) (x : LB), H[i]? = some x → (H ++ K)[i]? = some x := fun i x hx => by
    rw [List.getElem?_append_left (List.getElem?_eq_some_iff.1 hx).1]
    exact hx
  unfold Inv at h ⊢
  split
  · rename_i ho
    rw [if_pos ho] at h
    exact ap _ _ h
  · rename_i ho
    rw [if_neg ho] at h
    obtain ⟨b, h1, h2⟩ := h
    exact ⟨b, ap _ _ h1, ap _ _ h2⟩
theorem Inv.pos {out : List Pl} {H : Heap} (h : Inv out H) : 1 < H.length := by
  unfold Inv at h
  split at h
  · exact (List.getElem?_eq_some_iff.1 h).1
  · obtain ⟨b, h1, _⟩ := h
    exact (List.getElem?_eq_some_iff.1 h1).1
def tellN (x : Rc) (nm : Str) : List Str := if nm = [] ∨ nm = winR x then [] else [nm]
def tellF (x : Rc) (k : Nat) : List Str := if k = 0 then tellN x x.a ++ tellN x x.b else if k = 1 then tellN x x.b else []
theorem tellN_len (x : Rc) (nm : Str) : (tellN x nm).length ≤ 1 := by unfold tellN; split <;> simp
theorem tellF_len (x : Rc) (k : Nat) : (tellF x k).length ≤ 2 := by
  have h1 := tellN_len x x.a
  have h2 := tellN_len x x.b
  unfold tellF
  split
  · rw [List.length_append]; omega
  · split
    · omega
    · simp
theorem tellF_step (x : Rc) (k : Nat) (hk : k < 2) : tellF x k = tellN x (nmA x.a x.b k) ++ tellF x (k + 1) := by
  rcases k with _ | _ | k
  · rfl
  · simp [tellF, nmA]
  · omega
/-- The iterator's temporaries at a name of a race. -/
def InR (l : List Rc) (j p : Nat) (a b : Str) (k : Nat) (ts : List LV) : Prop := ∃ x2 x3 x5 x6 x10 x11 x12 x13 x14 x15 x16 x19 x20 x21 x22 x23 x24 x25 x26 x27 x28 x29 x30 x31 x32 x33 x34 : LV, ts = [.tuple [], .c (.ptr [.slice (l.map Rc.enc)] 0), x2, x3, .ptr p 0 0, x5, x6, .c (.slice (l.map Rc.enc)), .c (ci l.length), .c (ci j), x10, x11, x12, x13, x14, x15, x16, .c (.agg [.str a, .str b]), .c (ci k), x19, x20, x21, x22, x23, x24, x25, x26, x27, x28, x29, x30, x31, x32, x33, x34]
/-- At a race. -/
def AtR (l : List Rc) (j : Nat) (ts : List LV) : Prop := ∃ x2 x3 x4 x5 x6 x10 x11 x12 x13 x14 x15 x16 x17 x18 x19 x20 x21 x22 x23 x24 x25 x26 x27 x28 x29 x30 x31 x32 x33 x34 : LV, ts = [.tuple [], .c (.ptr [.slice (l.map Rc.enc)] 0), x2, x3, x4, x5, x6, .c (.slice (l.map Rc.enc)), .c (ci l.length), .c (ci j), x10, x11, x12, x13, x14, x15, x16, x17, x18, x19, x20, x21, x22, x23, x24, x25, x26, x27, x28, x29, x30, x31, x32, x33, x34]
theorem InR.scrub {l : List Rc} {j p : Nat} {a b : Str} {k : Nat} {ts : List LV} {n : Nat} (h : InR l j p a b k ts) (hp : p < n) : InR l j p a b k (LM.scrub n ts) := by
  obtain ⟨x2, x3, x5, x6, x10, x11, x12, x13, x14, x15, x16, x19, x20, x21, x22, x23, x24, x25, x26, x27, x28, x29, x30, x31, x32, x33, x34, rfl⟩ := h
  simp only [LM.scrub, LV.under, underL, decide_eq_true hp, if_true]
  exact ⟨_, _, _, _, _, _, _, _, _, _, _, _, _, _, _, _, _, _, _, _, _, _, _, _, _, _, _, rfl⟩
theorem AtR.scrub {l : List Rc} {j : Nat} {ts : List LV} {n : Nat} (h : AtR l j ts) : AtR l j (LM.scrub n ts) := by
  obtain ⟨x2, x3, x4, x5, x6, x10, x11, x12, x13, x14, x15, x16, x17, x18, x19, x20, x21, x22, x23, x24, x25, x26, x27, x28, x29, x30, x31, x32, x33, x34, rfl⟩ := h
  simp only [LM.scrub, LV.under, underL, if_true]
  exact ⟨_, _, _, _, _, _, _, _, _, _, _, _, _, _, _, _, _, _, _, _, _, _, _, _, _, _, _, _, _, _, rfl⟩
theorem InR.g {l : List Rc} {j p : Nat} {a b : Str} {k : Nat} {ts : List LV} (h : InR l j p a b k ts) : AtR l j ts := by
  obtain ⟨x2, x3, x5, x6, x10, x11, x12, x13, x14, x15, x16, x19, x20, x21, x22, x23, x24, x25, x26, x27, x28, x29, x30, x31, x32, x33, x34, rfl⟩ := h
  exact ⟨_, _, _, _, _, _, _, _, _, _, _, _, _, _, _, _, _, _, _, _, _, _, _, _, _, _, _, _, _, _, rfl⟩
theorem gc_eq (n : Nat) (ts : List LV) (H : Heap) : gc n ⟨ts, H⟩ = ⟨if underB n (H.take n) then LM.scrub n ts else ts, gcH n H⟩ := by
  unfold gc gcH
  split <;> simp_all
variable {Q : Nat → Option LFunc} {yh : Hand} {l : List Rc}
/-- What the body does with a name. -/
def Tells (yh : Hand) (kb : Nat) (cs : List LV) (N : Int) : Prop := ∀ (H : Heap) (out : List Pl) (nm : Str), Inv out H → H[kb]? = some (.cells 0 cs 0) → out.length < 100000 → ∃ H', yh [.c (.str nm)] H = some (H', none) ∧ Inv (out ++ [⟨nm, N⟩]) H' ∧ Fr H H'
theorem J156 {N kb : Nat} {cs : List LV} {pl : Int} (hkb : kb ≠ 1) (hy : Tells yh kb cs pl) (x : Rc) (hc : ∀ M, N ≤ M → pcall Q M 126 [x.enc] = some (.str (winR x))) (j p : Nat) (hp : p ≠ 1) : ∀ (i k : Nat), k + i = 2 → ∀ (M : Nat), N + i ≤ M → ∀ (ts : List LV) (H : Heap) (out : List Pl), InR l j p x.a x.b k ts → H[p]? = some (.cells 0 [.c (.str x.a), .c (.str x.b), .c (ci x.w)] 0) → Inv out H → H[kb]? = some (.cells 0 cs 0) → out.length + i ≤ 100000 →
    ∃ ts' H', execI Q (runs Q M).1 (runs Q M).2 yh (.loop true inner156) ⟨ts, H⟩ none = some (.exit 2, ⟨ts', H'⟩, none) ∧ AtR l j ts' ∧ Inv (out ++ (tellF x k).map (fun nm => ⟨nm, pl⟩)) H' ∧ Fr H H' := by
  intro i
  induction i with
  | zero =>
    intro k hk M hM ts H out hF hb hI hB hO
    have : k = 2 := by omega
    subst this
    obtain ⟨x2, x3, x5, x6, x10, x11, x12, x13, x14, x15, x16, x19, x20, x21, x22, x23, x24, x25, x26, x27, x28, x29, x30, x31, x32, x33, x34, rfl⟩ := hF
    refine ⟨?ts, H, ?e, ?f, ?g, Fr.refl H⟩
    case e => rw [show (ci ((2 : Nat) : Int)) = ci 2 from rfl, ix_loop, I156_end]; rfl
    case f => exact ⟨_, _, _, _, _, _, _, _, _, _, _, _, _, _, _, _, _, _, _, _, _, _, _, _, _, _, _, _, _, _, rfl⟩
    case g => simpa [tellF] using hI
  | succ i ih =>
    intro k hk M hM ts H out hF hb hI hB hO
    obtain ⟨M', rfl⟩ : ∃ M', M = M' + 1 := ⟨M - 1, by omega⟩
    have hk2 : k < 2 := by omega
    have hcM := hc (M' + 1) (by omega)
    have hpl : p < H.length := (List.getElem?_eq_some_iff.1 hb).1
    have hst := tellF_step x k hk2
    have fin : ∀ (ts1 : List LV) (H1 : Heap) (out1 : List Pl), InR l j p x.a x.b (k + 1) ts1 → Inv out1 H1 → Fr H H1 → out1 = out ++ (tellN x (nmA x.a x.b k)).map (fun nm => ⟨nm, pl⟩) →
        execI Q (runs Q (M' + 1)).1 (runs Q (M' + 1)).2 yh inner156 ⟨ts, H⟩ none = some (.normal, ⟨ts1, H1⟩, none) →
        ∃ ts' H', execI Q (runs Q (M' + 1)).1 (runs Q (M' + 1)).2 yh (.loop true inner156) ⟨ts, H⟩ none = some (.exit 2, ⟨ts', H'⟩, none) ∧ AtR l j ts' ∧ Inv (out ++ (tellF x k).map (fun nm => ⟨nm, pl⟩)) H' ∧ Fr H H' := by
      intro ts1 H1 out1 hF1 hI1 hFr ho he
      have hFr2 := hFr.gc H.length (Nat.le_refl _)
      have hI2 := hI1.gc H.length hI.pos
      have hF2 : InR l j p x.a x.b (k + 1) (if underB H.length (H1.take H.length) then LM.scrub H.length ts1 else ts1) := by
        split
        · exact hF1.scrub hpl
        · exact hF1
      obtain ⟨ts', H', e1, e2, e3, e4⟩ := ih (k + 1) (by omega) M' (by omega) _ _ out1 hF2 (hFr2.2 _ _ hp hb) hI2 (hFr2.2 _ _ hkb hB) (by have := tellN_len x (nmA x.a x.b k); rw [ho, List.length_append, List.length_map]; omega)
      refine ⟨ts', H', ?_, e2, ?_, hFr2.trans e4⟩
      · rw [ix_loop, he]
        simp only [seqI_normal, if_true]
        rw [gc_eq]
        exact e1
      · rw [hst, List.map_append, ← List.append_assoc, ← ho]
        exact e3
    obtain ⟨x2, x3, x5, x6, x10, x11, x12, x13, x14, x15, x16, x19, x20, x21, x22, x23, x24, x25, x26, x27, x28, x29, x30, x31, x32, x33, x34, rfl⟩ := hF
    by_cases h0 : nmA x.a x.b k = []
    · exact fin _ H out ⟨_, _, _, _, _, _, _, _, _, _, _, _, _, _, _, _, _, _, _, _, _, _, _, _, _, _, _, rfl⟩ hI (Fr.refl H) (by simp [tellN, h0]) (I156_none k hk2 h0)
    · by_cases h1 : nmA x.a x.b k = winR x
      · exact fin _ H out ⟨_, _, _, _, _, _, _, _, _, _, _, _, _, _, _, _, _, _, _, _, _, _, _, _, _, _, _, rfl⟩ hI (Fr.refl H) (by simp [tellN, h1]) (I156_won k hk2 hb h0 h1 hcM)
      · obtain ⟨H1, hy1, hI1, hF1⟩ := hy H out (nmA x.a x.b k) hI hB (by omega)
        exact fin _ H1 _ ⟨_, _, _, _, _, _, _, _, _, _, _, _, _, _, _, _, _, _, _, _, _, _, _, _, _, _, _, rfl⟩ hI1 hF1 (by simp [tellN, h0, h1]) (I156_go k hk2 hb h0 h1 hcM hy1)
end LM.G6
namespace LM.G6
open Go LM
def rA156 : LCode := match lbody156 with
  | .seq _ (.seq _ (.seq (.block _ (.seq a _)) _)) => a
  | _ => .skip
def rB156 : LCode := match lbody156 with
  | .seq _ (.seq _ (.seq (.block _ (.seq _ (.seq b _))) _)) => b
  | _ => .skip
theorem lbody156_eq : lbody156 = .seq (.region [.mk (some 10) (.bin .lss (.t 9) (.t 8)) none none .any]) (.seq (.cond (.t 10) .skip (.exit 0)) (.seq (.block 1 (.seq rA156 (.seq rB156 (.block 2 (.loop true inner156))))) (.region [.mk (some 34) (.bin .add (.t 9) (.k (.c (.int .i64 1)))) none none .any, .mk (some 9) (.move (.t 34)) none none .any]))) := rfl
def rC156 : LCode := match lc156 with
  | .seq _ (.seq a _) => a
  | _ => .skip
theorem lc156_eq : lc156 = .seq .skip (.seq rC156 (.block 0 (.loop true lbody156))) := rfl
variable {Q : Nat → Option LFunc} {m : Nat} {yh : Hand} {l : List Rc}
def RBx (x : Rc) : LB := .cells 0 [.c (.str x.a), .c (.str x.b), .c (ci x.w)] 0
def AtP (l : List Rc) (j p : Nat) (ts : List LV) : Prop := ∃ x2 x3 x5 x6 x10 x11 x12 x13 x14 x15 x16 x17 x18 x19 x20 x21 x22 x23 x24 x25 x26 x27 x28 x29 x30 x31 x32 x33 x34 : LV, ts = [.tuple [], .c (.ptr [.slice (l.map Rc.enc)] 0), x2, x3, .ptr p 0 0, x5, x6, .c (.slice (l.map Rc.enc)), .c (ci l.length), .c (ci j), x10, x11, x12, x13, x14, x15, x16, x17, x18, x19, x20, x21, x22, x23, x24, x25, x26, x27, x28, x29, x30, x31, x32, x33, x34]
theorem stepA (x : Rc) (j : Nat) (hj : l[j]? = some x) (ts : List LV) (H : Heap) (h : AtR l j ts) :
    ∃ ts', execI Q (runs Q m).1 (runs Q m).2 yh rA156 ⟨ts, H⟩ none = some (.normal, ⟨ts', H ++ [RBx x]⟩, none) ∧ AtP l j H.length ts' := by
  obtain ⟨x2, x3, x4, x5, x6, x10, x11, x12, x13, x14, x15, x16, x17, x18, x19, x20, x21, x22, x23, x24, x25, x26, x27, x28, x29, x30, x31, x32, x33, x34, rfl⟩ := h
  have hjl : j < l.length := (List.getElem?_eq_some_iff.1 hj).1
  obtain ⟨_, hj'⟩ := List.getElem?_eq_some_iff.1 hj
  refine ⟨?ts, ?e, ?f⟩
  case e =>
    unfold rA156 lbody156 lc156
    simp [plainI_eq, opI, hj, hj', hjl, Rc.enc, RBx]
    rfl
  case f => exact ⟨_, _, _, _, _, _, _, _, _, _, _, _, _, _, _, _, _, _, _, _, _, _, _, _, _, _, _, _, _, rfl⟩
theorem stepB (x : Rc) (j p : Nat) (ts : List LV) (H : Heap) (hp : H[p]? = some (RBx x)) (h : AtP l j p ts) :
    ∃ ts', execI Q (runs Q m).1 (runs Q m).2 yh rB156 ⟨ts, H⟩ none = some (.normal, ⟨ts', H⟩, none) ∧ InR l j p x.a x.b 0 ts' := by
  obtain ⟨x2, x3, x5, x6, x10, x11, x12, x13, x14, x15, x16, x17, x18, x19, x20, x21, x22, x23, x24, x25, x26, x27, x28, x29, x30, x31, x32, x33, x34, rfl⟩ := h
  unfold RBx at hp
  refine ⟨?ts, ?e, ?f⟩
  case e =>
    unfold rB156 lbody156 lc156
    simp [plainI_eq, opI, hp]
    rfl
  case f => exact ⟨_, _, _, _, _, _, _, _, _, _, _, _, _, _, _, _, _, _, _, _, _, _, _, _, _, _, _, rfl⟩
set_option maxHeartbeats 2000000 in
theorem L156 {N kb : Nat} {cs : List LV} {pl : Int} (hkb : kb ≠ 1) (hy : Tells yh kb cs pl) (hl : (l.length : Int) < 9223372036854775807) (hc : ∀ M, N ≤ M → ∀ x ∈ l, pcall Q M 126 [x.enc] = some (.str (winR x))) : ∀ (i j : Nat), j + i = l.length → ∀ (M : Nat), N + 3 + i ≤ M → ∀ (ts : List LV) (H : Heap) (out : List Pl), AtR l j ts → Inv out H → H[kb]? = some (.cells 0 cs 0) → out.length + 2 * i ≤ 100000 →
    ∃ ts' H', execI Q (runs Q M).1 (runs Q M).2 yh (.loop true lbody156) ⟨ts, H⟩ none = some (.exit 0, ⟨ts', H'⟩, none) ∧ Inv (out ++ ((l.drop j).flatMap (fun x => tellF x 0)).map (fun nm => ⟨nm, pl⟩)) H' ∧ Fr H H' := by
  intro i
  induction i with
  | zero =>
    intro j hj M hM ts H out hF hI hB hO
    have : j = l.length := by omega
    subst this
    obtain ⟨x2, x3, x4, x5, x6, x10, x11, x12, x13, x14, x15, x16, x17, x18, x19, x20, x21, x22, x23, x24, x25, x26, x27, x28, x29, x30, x31, x32, x33, x34, rfl⟩ := hF
    refine ⟨?ts0, H, ?e0, ?f0, Fr.refl H⟩
    case e0 => rw [ix_loop, lbody156_eq]; simp [plainI_eq, opI]; rfl
    case f0 => simpa using hI
  | succ i ih =>
    intro j hj M hM ts H out hF hI hB hO
    obtain ⟨M', rfl⟩ : ∃ M', M = M' + 1 := ⟨M - 1, by omega⟩
    have hjl : j < l.length := by omega
    obtain ⟨x, hx⟩ : ∃ x, l[j]? = some x := ⟨_, List.getElem?_eq_getElem hjl⟩
    have hxm : x ∈ l := List.mem_of_getElem? hx
    have hdr : l.drop j = x :: l.drop (j + 1) := by rw [List.drop_eq_getElem_cons hjl]; congr 1; exact (List.getElem?_eq_some_iff.1 hx).2
    have hw : IntKind.i64.wrap ((j : Int) + 1) = ((j + 1 : Nat) : Int) := wrap64 (by omega) (by omega)
    have hlt : (j : Int) < l.length := by omega
    obtain ⟨x2, x3, x4, x5, x6, x10, x11, x12, x13, x14, x15, x16, x17, x18, x19, x20, x21, x22, x23, x24, x25, x26, x27, x28, x29, x30, x31, x32, x33, x34, rfl⟩ := hF
    obtain ⟨ts1, a1, a2⟩ := stepA (Q := Q) (m := M' + 1) (yh := yh) x j hx _ H (show AtR l j [.tuple [], .c (.ptr [.slice (l.map Rc.enc)] 0), x2, x3, x4, x5, x6, .c (.slice (l.map Rc.enc)), .c (ci l.length), .c (ci j), .c (.bool true), x11, x12, x13, x14, x15, x16, x17, x18, x19, x20, x21, x22, x23, x24, x25, x26, x27, x28, x29, x30, x31, x32, x33, x34] from ⟨_, _, _, _, _, _, _, _, _, _, _, _, _, _, _, _, _, _, _, _, _, _, _, _, _, _, _, _, _, _, rfl⟩)
    have hget : (H ++ [RBx x])[H.length]? = some (RBx x) := by simp
    obtain ⟨ts2, b1, b2⟩ := stepB (Q := Q) (m := M' + 1) (yh := yh) x j H.length ts1 (H ++ [RBx x]) hget a2
    have hpos := hI.pos
    have fr0 := Fr.app H [RBx x]
    obtain ⟨ts3, H3, w1q, w2q, w3q, w4q⟩ := J156 (Q := Q) (N := N) hkb hy x (fun M hM => hc M hM x hxm) j H.length (by omega) 2 0 rfl (M' + 1) (by omega) ts2 (H ++ [RBx x]) out b2 hget (hI.app _) (fr0.2 _ _ hkb hB) (by omega)
    obtain ⟨y2, y3, y4, y5, y6, y10, y11, y12, y13, y14, y15, y16, y17, y18, y19, y20, y21, y22, y23, y24, y25, y26, y27, y28, y29, y30, y31, y32, y33, y34, rfl⟩ := w2q
    have fr1 := fr0.trans w4q
    have fr2 := fr1.gc H.length (Nat.le_refl _)
    have i2 := w3q.gc H.length hpos
    have body : ∃ ts4, execI Q (runs Q (M' + 1)).1 (runs Q (M' + 1)).2 yh lbody156 ⟨[.tuple [], .c (.ptr [.slice (l.map Rc.enc)] 0), x2, x3, x4, x5, x6, .c (.slice (l.map Rc.enc)), .c (ci l.length), .c (ci j), x10, x11, x12, x13, x14, x15, x16, x17, x18, x19, x20, x21, x22, x23, x24, x25, x26, x27, x28, x29, x30, x31, x32, x33, x34], H⟩ none = some (.normal, ⟨ts4, H3⟩, none) ∧ AtR l (j + 1) ts4 := by
      refine ⟨?ts4, ?b1, ?b2⟩
      case b1 =>
        rw [lbody156_eq]
        simp [plainI_eq, opI, hlt, a1, b1, w1q, hw]
        rfl
      case b2 => exact ⟨_, _, _, _, _, _, _, _, _, _, _, _, _, _, _, _, _, _, _, _, _, _, _, _, _, _, _, _, _, _, rfl⟩
    obtain ⟨ts4, d1, d2⟩ := body
    have d3 : AtR l (j + 1) (if underB H.length (H3.take H.length) then LM.scrub H.length ts4 else ts4) := by
      split
      · exact d2.scrub
      · exact d2
    obtain ⟨ts', H', f1, f2, f3⟩ := ih (j + 1) (by omega) M' (by omega) _ _ _ d3 i2 (fr2.2 _ _ hkb hB) (by have := tellF_len x 0; rw [List.length_append, List.length_map]; omega)
    refine ⟨ts', H', ?_, ?_, fr2.trans f3⟩
    · rw [ix_loop, d1]
      simp only [seqI_normal, if_true]
      rw [gc_eq]
      exact f1
    · rw [hdr, List.flatMap_cons, List.map_append, ← List.append_assoc]
      exact f2
theorem runs_two (Q : Nat → Option LFunc) (M : Nat) : (runs Q (M + 1)).2 = execI Q (runs Q M).1 (runs Q M).2 := rfl
/-- The iterator over all lost names. -/
theorem E156 {N kb : Nat} {cs : List LV} {pl : Int} (hkb : kb ≠ 1) (hy : Tells yh kb cs pl) (hl : (l.length : Int) < 9223372036854775807) (hc : ∀ M, N ≤ M → ∀ x ∈ l, pcall Q M 126 [x.enc] = some (.str (winR x))) (M : Nat) (hM : N + 3 + l.length ≤ M) (H : Heap) (out : List Pl) (hI : Inv out H) (hB : H[kb]? = some (.cells 0 cs 0)) (hO : out.length + 2 * l.length ≤ 100000) :
    ∃ ts' H', (runs Q (M + 1)).2 yh lc156 ⟨pad 35 [.tuple [], .c (.ptr [.slice (l.map Rc.enc)] 0)], H⟩ none = some (.normal, ⟨ts', H'⟩, none) ∧ Inv (out ++ (l.flatMap (fun x => tellF x 0)).map (fun nm => ⟨nm, pl⟩)) H' ∧ Fr H H' := by
  have hC : ∃ ts, execI Q (runs Q M).1 (runs Q M).2 yh rC156 ⟨pad 35 [.tuple [], .c (.ptr [.slice (l.map Rc.enc)] 0)], H⟩ none = some (.normal, ⟨ts, H⟩, none) ∧ AtR l 0 ts := by
    refine ⟨?ts4, ?b1, ?b2⟩
    case b1 =>
      unfold rC156 lc156
      simp [plainI_eq, opI, pad, List.replicate]
      rfl
    case b2 => exact ⟨.undef, .undef, .undef, .undef, .undef, .undef, .undef, .undef, .undef, .undef, .undef, .undef, .undef, .undef, .undef, .undef, .undef, .undef, .undef, .undef, .undef, .undef, .undef, .undef, .undef, .undef, .undef, .undef, .undef, .undef, rfl⟩
  obtain ⟨ts, e1, e2⟩ := hC
  obtain ⟨ts', H', f1, f2, f3⟩ := L156 (Q := Q) hkb hy hl hc l.length 0 (by omega) M hM ts H out e2 hI hB hO
  rw [List.drop_zero] at f2
  refine ⟨ts', H', ?_, f2, f3⟩
  rw [runs_two, lc156_eq]
  simp [e1, f1]
end LM.G6
namespace LM.G6
open Go LM
def asg66 : LCode := match lc66 with
  | .seq _ (.seq _ (.seq _ (.seq _ (.seq (.seq _ (.block _ (.rangeFn _ _ a _))) _)))) => a
  | _ => .skip
def bod66 : LCode := match lc66 with
  | .seq _ (.seq _ (.seq _ (.seq _ (.seq (.seq _ (.block _ (.rangeFn _ _ _ b))) _)))) => b
  | _ => .skip
def asg66i : LCode := match bod66 with
  | .block _ (.seq _ (.block _ (.rangeFn _ _ a _))) => a
  | _ => .skip
def bod66i : LCode := match bod66 with
  | .block _ (.seq _ (.block _ (.rangeFn _ _ _ b))) => b
  | _ => .skip
theorem bod66_eq : bod66 = .block 1 (.seq (.region [.mk (some 35) (.load none (.t 8)) none none .any, .mk (some 36) (.call false (.k (.c (.func 128 [] []))) [(.t 35)]) none none .any]) (.block 2 (.rangeFn (.t 36) [37] asg66i bod66i))) := rfl
theorem Pl.elem (x : Pl) : Elem (some 2) x.enc := ⟨_, rfl, rfl, by simp⟩
theorem Pl.elems (l : List Pl) : ∀ x ∈ l.map Pl.enc, Elem (some 2) x := by
  intro x hx
  obtain ⟨y, _, rfl⟩ := List.mem_map.1 hx
  exact y.elem
variable {Q : Nat → Option LFunc} {m : Nat}
theorem tells66 (x0 x1 x2 x3 x4 x6 x7 x9 x10 x11 x12 x13 x14 x15 x16 x17 x18 x19 x20 x21 x22 x23 x24 x25 x26 x27 x28 x29 x30 x31 x32 x33 x34 x35 x36 x37 x38 x39 x40 x41 x42 x43 x44 x45 x46 : LV) (kb : Nat) (hkb : kb ≠ 1) (l : List Rc) (hl : l.length < 1000) : Tells (handOf (exec Q (runs Q m).1 (runs Q m).2 asg66i) (exec Q (runs Q m).1 (runs Q m).2 bod66i) [37] [x0, x1, x2, x3, x4, .ptr 1 0 0, x6, x7, .ptr kb 0 0, x9, x10, x11, x12, x13, x14, x15, x16, x17, x18, x19, x20, x21, x22, x23, x24, x25, x26, x27, x28, x29, x30, x31, x32, x33, x34, x35, x36, x37, x38, x39, x40, x41, x42, x43, x44, x45, x46]) kb [.c (.slice (l.map Rc.enc))] (l.length + 1) := by
  intro H out nm hI hB hO
  have hw : IntKind.i64.wrap ((l.length : Int) + 1) = (l.length : Int) + 1 := wrap64 (by omega) (by omega)
  have hkl : kb < H.length := (List.getElem?_eq_some_iff.1 hB).1
  unfold Inv at hI
  by_cases ho : out = []
  · subst ho
    rw [if_pos rfl] at hI
    have h0l : 1 < H.length := (List.getElem?_eq_some_iff.1 hI).1
    have hap : appendOp none (some 2) 24 .nil (.c (.slice [Pl.enc ⟨nm, l.length + 1⟩])) H = some (.slice H.length 1 0 1 (some 2) none, H ++ [.cells 1 (cPl [⟨nm, l.length + 1⟩]) 0]) := rfl
    have g0 : ∀ (X : LB) (h : 1 < (H ++ [X]).length), (H ++ [X])[1]'h = .cells 0 [.nil] 0 := fun X h => by
      rw [List.getElem_append_left h0l]
      exact (List.getElem?_eq_some_iff.1 hI).2
    have g0' : ∀ (X : LB), (H ++ [X])[1]? = some (.cells 0 [.nil] 0) := fun X => by
      rw [List.getElem?_append_left h0l]
      exact hI
    refine ⟨(H ++ [LB.cells 1 (cPl [⟨nm, l.length + 1⟩]) 0]).set 1 (.cells 0 [.slice H.length 1 0 1 (some 2) none] 0), ?_, ?_, ?_, ?_⟩
    · simp [Pl.enc] at hap
      unfold handOf asg66i bod66i bod66 lc66
      simp [setPs, hI, hB, hw, hap, g0, g0', cPl, cellsOf]
    · unfold Inv
      rw [if_neg (by simp)]
      refine ⟨H.length, by rw [List.getElem?_set_self (by rw [List.length_append]; omega)]; rfl, ?_⟩
      rw [List.getElem?_set_ne (by omega)]
      simp
    · simp
    · intro i cs hi hc
      have := (List.getElem?_eq_some_iff.1 hc).1
      rw [List.getElem?_set_ne (by omega), List.getElem?_append_left this]
      exact hc
  · rw [if_neg ho] at hI
    obtain ⟨b, h1, h2⟩ := hI
    have hol : 0 < out.length := List.length_pos_iff.2 ho
    have hb0 : b ≠ 1 := by
      intro e
      subst e
      rw [h1] at h2
      simp at h2
      omega
    have hbl : b < H.length := (List.getElem?_eq_some_iff.1 h2).1
    have hbk : b ≠ kb := by
      intro e
      subst e
      rw [hB] at h2
      simp at h2
      omega
    have hap := append_own (b := b) (g := out.length) (bytes := 24) (e := some 2) (ys := out.map Pl.enc) (xs := [Pl.enc ⟨nm, l.length + 1⟩]) (h := H) (len := out.length) (fz := 0) h2 (Pl.elems _) (by simpa using Pl.elem _) (by simp) (Nat.zero_le _) (by simp) (by simp; omega) (by simp; omega)
    have e1 : out.map Pl.enc ++ [Pl.enc ⟨nm, l.length + 1⟩] = (out ++ [(⟨nm, l.length + 1⟩ : Pl)]).map Pl.enc := by simp
    rw [e1] at hap
    have e2 : cellsOf ((out ++ [(⟨nm, l.length + 1⟩ : Pl)]).map Pl.enc) = cPl (out ++ [(⟨nm, l.length + 1⟩ : Pl)]) := rfl
    rw [e2] at hap
    generalize hC : cPl (out ++ [(⟨nm, l.length + 1⟩ : Pl)]) = C at *
    have g0 : ∀ (X : LB) (h : 1 < (H.set b X).length), (H.set b X)[1]'h = .cells 0 [.slice b out.length 0 out.length (some 2) none] 0 := fun X h => by
      rw [List.getElem_set_ne hb0]
      exact (List.getElem?_eq_some_iff.1 h1).2
    have h0l : 1 < H.length := (List.getElem?_eq_some_iff.1 h1).1
    obtain ⟨_, h1'⟩ := List.getElem?_eq_some_iff.1 h1
    have g0' : ∀ (X : LB), (H.set b X)[1]? = some (.cells 0 [.slice b out.length 0 out.length (some 2) none] 0) := fun X => by
      rw [List.getElem?_set_ne hb0]
      exact h1
    refine ⟨(H.set b (LB.cells (out.length + 1) C 0)).set 1 (.cells 0 [.slice b (out.length + 1) 0 (out.length + 1) (some 2) none] 0), ?_, ?_, ?_, ?_⟩
    · simp [Pl.enc] at hap
      unfold handOf asg66i bod66i bod66 lc66
      simp [setPs, h1, h1', hB, hw, hap, g0, g0', h0l]
    · unfold Inv
      rw [if_neg (by simp)]
      refine ⟨b, by simp [h0l], ?_⟩
      rw [List.getElem?_set_ne (by omega)]
      simp [hbl, hC]
    · simp
    · intro i cs hi hc
      have hib : b ≠ i := by
        intro e
        subst e
        rw [hc] at h2
        simp at h2
        omega
      rw [List.getElem?_set_ne (by omega), List.getElem?_set_ne hib]
      exact hc
end LM.G6
namespace LM.G6
open Go LM
def encR (r : List Rc) : CV := .slice (r.map Rc.enc)
/-- The places of those who lost in a round. -/
def itemsS (r : List Rc) : List Pl := (r.flatMap (fun x => tellF x 0)).map (fun nm => ⟨nm, (r.length : Int) + 1⟩)
theorem itemsS_len (r : List Rc) : (itemsS r).length ≤ 2 * r.length := by
  unfold itemsS
  rw [List.length_map]
  induction r with
  | nil => simp
  | cons x r ih =>
    have := tellF_len x 0
    rw [List.flatMap_cons, List.length_append, List.length_cons]
    omega
variable {Q : Nat → Option LFunc}
theorem tellsR (x0 x1 x2 x3 x4 x6 x7 x8 x9 x10 x11 x12 x13 x14 x15 x16 x17 x18 x19 x20 x21 x22 x23 x24 x25 x26 x27 x28 x29 x30 x31 x32 x33 x34 x35 x36 x37 x38 x39 x40 x41 x42 x43 x44 x45 x46 : LV) {N M : Nat} (r : List Rc) (hr : r.length < 1000) (h128 : pcall Q (M + 1) 128 [encR r] = some (.func 156 [] [.ptr [encR r] 0])) (q156 : Q 156 = some lf156) (hc : ∀ M', N ≤ M' → ∀ x ∈ r, pcall Q M' 126 [x.enc] = some (.str (winR x))) (hM : N + 3 + r.length ≤ M) (i : CV) (H : Heap) (out : List Pl) (hI : Inv out H) (hO : out.length + 2 * r.length ≤ 100000) :
    ∃ H', handOf (exec Q (runs Q (M + 1)).1 (runs Q (M + 1)).2 asg66) (exec Q (runs Q (M + 1)).1 (runs Q (M + 1)).2 bod66) [33, 34] [x0, x1, x2, x3, x4, .ptr 1 0 0, x6, x7, x8, x9, x10, x11, x12, x13, x14, x15, x16, x17, x18, x19, x20, x21, x22, x23, x24, x25, x26, x27, x28, x29, x30, x31, x32, x33, x34, x35, x36, x37, x38, x39, x40, x41, x42, x43, x44, x45, x46] [.c i, .c (encR r)] H = some (H', none) ∧ Inv (out ++ itemsS r) H' ∧ Fr H H' := by
  have hpos := hI.pos
  have hf := callF_of h128
  have hasg : exec Q (runs Q (M + 1)).1 (runs Q (M + 1)).2 asg66 ⟨[x0, x1, x2, x3, x4, .ptr 1 0 0, x6, x7, x8, x9, x10, x11, x12, x13, x14, x15, x16, x17, x18, x19, x20, x21, x22, x23, x24, x25, x26, x27, x28, x29, x30, x31, x32, .c i, .c (encR r), x35, x36, x37, x38, x39, x40, x41, x42, x43, x44, x45, x46], H⟩ = some (.normal, ⟨[x0, x1, x2, x3, x4, .ptr 1 0 0, x6, x7, .ptr H.length 0 0, x9, x10, x11, x12, x13, x14, x15, x16, x17, x18, x19, x20, x21, x22, x23, x24, x25, x26, x27, x28, x29, x30, x31, x32, .c i, .c (encR r), x35, x36, x37, x38, x39, x40, x41, x42, x43, x44, x45, x46], H ++ [.cells 0 [.c (encR r)] 0]⟩) := by
    unfold asg66 lc66
    simp [encR, setCells]
  have hy := tells66 (Q := Q) (m := M + 1) x0 x1 x2 x3 x4 x6 x7 x9 x10 x11 x12 x13 x14 x15 x16 x17 x18 x19 x20 x21 x22 x23 x24 x25 x26 x27 x28 x29 x30 x31 x32 (.c i) (.c (encR r)) (.c (encR r)) (.c (.func 156 [] [.ptr [encR r] 0])) x37 x38 x39 x40 x41 x42 x43 x44 x45 x46 H.length (by omega) r hr
  have hget : (H ++ [LB.cells 0 [.c (encR r)] 0])[H.length]? = some (.cells 0 [.c (encR r)] 0) := by simp
  obtain ⟨ts', H', e1, e2, e3⟩ := E156 (Q := Q) (l := r) (by omega) hy (by omega) hc M hM (H ++ [.cells 0 [.c (encR r)] 0]) out (hI.app _) hget hO
  refine ⟨H', ?_, e2, (Fr.app H _).trans e3⟩
  unfold handOf
  simp only [setPs, List.length_cons, List.length_nil, List.set_cons_zero, List.set_cons_succ, if_true]
  rw [hasg, bod66_eq]
  have e1' : (runs Q (M + 1)).2 (handOf (exec Q (runs Q (M + 1)).1 (runs Q (M + 1)).2 asg66i) (exec Q (runs Q (M + 1)).1 (runs Q (M + 1)).2 bod66i) [37] [x0, x1, x2, x3, x4, .ptr 1 0 0, x6, x7, .ptr H.length 0 0, x9, x10, x11, x12, x13, x14, x15, x16, x17, x18, x19, x20, x21, x22, x23, x24, x25, x26, x27, x28, x29, x30, x31, x32, .c i, .c (encR r), .c (encR r), .c (.func 156 [] [.ptr [encR r] 0]), x37, x38, x39, x40, x41, x42, x43, x44, x45, x46]) lc156 ⟨pad 35 [.tuple [], .c (.ptr [encR r] 0)], H ++ [.cells 0 [.c (encR r)] 0]⟩ none = some (.normal, ⟨ts', H'⟩, none) := e1
  simp [h128, hf, rangeF_func q156, e1']
end LM.G6
namespace LM.G6
open Go LM
variable {P : Nat → Option SFunc} [Has P]
/-- A result: a climber, a state, and values. -/
structure Rs where
  who : Str
  state : Str
  vals : List Int
def Rs.enc (x : Rs) : CV := .agg [.str x.who, .str x.state, .slice (x.vals.map ci)]
def Rs.ptr (x : Rs) : CV := .ptr [.str x.who, .str x.state, .slice (x.vals.map ci)] 0
def Rs.ok (x : Rs) : Prop := x.who.length < 9223372036854775807 ∧ x.state.length < 9223372036854775807 ∧ (x.vals.length : Int) < 9223372036854775807
theorem Rs.elem (x : Rs) : Elem (some 3) x.enc := ⟨_, rfl, rfl, by simp [CV.flat]⟩
theorem Rs.elems (l : List Rs) : ∀ x ∈ l.map Rs.enc, Elem (some 3) x := by
  intro x hx
  obtain ⟨y, _, rfl⟩ := List.mem_map.1 hx
  exact y.elem
end LM.G6
namespace LM.G6
open Go LM
variable {P : Nat → Option SFunc} [Has P]
theorem S127 (L : List (List Rc)) : fn P 127 [.slice (L.map encR)] = some (.func 155 [] [.ptr [.slice (L.map encR)] 0]) := by
  rw [u127]
  simp [c127, resV, frz_func]
theorem S128 (r : List Rc) : fn P 128 [encR r] = some (.func 156 [] [.ptr [encR r] 0]) := by
  rw [u128]
  simp [c128, encR, resV, frz_func]
def keyR (x : Rc) : Str × Str := (x.a, x.b)
def sameK (a b : List Rc) : Bool := decide (a.map keyR = b.map keyR)
/-- The error of a round, behind those before it. -/
def rndE (pre : List (List Rc)) (r : List Rc) : Int := match pre.getLast? with
  | none => racesE r
  | some p => firstE [racesE r, whenE (decide (2 * (r.length : Int) ≠ p.length)) 2, whenE (p.any Rc.opn) 24, whenE (!sameK r (nextL p)) 29]
def lastE (L : List (List Rc)) : Int := match L.getLast? with
  | none => 12
  | some r => firstE [whenE (decide ((r.length : Int) > 1)) 20, whenE (r.any Rc.opn) 24]
def roundsE (L : List (List Rc)) : Int := if L.length = 0 then 12 else if (L.length : Int) > 6 then 5 else if eachE rndE [] L ≠ 0 then eachE rndE [] L else lastE L
end LM.G6
namespace LM.G6
open Go LM
variable {P : Nat → Option SFunc} [Has P]
theorem L125_0 (Ll L2 n i : CV) (X Y : List Rc) (hX : X.length < 500) : ∀ (qn pn qr pr : List Rc), X = pn ++ qn → Y = pr ++ qr → pn.length = pr.length → qn.length = qr.length →
    ∃ H, execS P (limS P) c125_l0 ⟨[.c Ll, .c (encR Y), .c L2, .c n, .c i, .c (encR X), .c (ci X.length), .c (ci pn.length)], [.dead]⟩ = if sameK qr qn then some (.exit 2, ⟨[.c Ll, .c L2, .c n, .c i], [.dead]⟩) else some (.ret, ⟨[.c (ci 29)], H⟩) := by
  intro qn
  induction qn with
  | nil =>
    intro pn qr pr h1 h2 h3 h4
    have : qr = [] := List.eq_nil_of_length_eq_zero (by simpa using h4.symm)
    subst this
    refine ⟨[], ?_⟩
    rw [r125_l0]
    simp [c125_l0b, sameK, h1]
  | cons x qn ih =>
    intro pn qr pr h1 h2 h3 h4
    rcases qr with _ | ⟨y, qr⟩
    · simp at h4
    obtain ⟨H, ih⟩ := ih (pn ++ [x]) qr (pr ++ [y]) (by simp [h1]) (by simp [h2]) (by simp [h3]) (by simpa using h4)
    have hx : X[pn.length]? = some x := by rw [h1]; simp
    have hy : Y[pn.length]? = some y := by rw [h2, h3]; simp
    obtain ⟨hxl, hx'⟩ := List.getElem?_eq_some_iff.1 hx
    obtain ⟨hyl, hy'⟩ := List.getElem?_eq_some_iff.1 hy
    have hw : IntKind.i64.wrap (↑pn.length + 1) = ↑pn.length + 1 := wrap64 (by omega) (by omega)
    have hlt : (pn.length : Int) < X.length := by omega
    simp [encR] at ih
    by_cases h0 : x.a = y.a
    · by_cases h1 : x.b = y.b
      · have hs : sameK (y :: qr) (x :: qn) = sameK qr qn := by simp [sameK, keyR, h0, h1]
        rw [hs]
        refine ⟨H, ?_⟩
        rw [r125_l0]
        simp [c125_l0b, hw, hlt, hx, hx', hxl, hy, hy', hyl, h0, h1, encR, Rc.enc, ih]
      · have h1' : ¬ y.b = x.b := fun e => h1 e.symm
        have hs : sameK (y :: qr) (x :: qn) = false := by simp [sameK, keyR, h0, h1']
        rw [hs]
        refine ⟨[.dead, .cells 0 [.c (.str x.a), .c (.str x.b), .c (ci x.w)] 0], ?_⟩
        rw [r125_l0]
        simp [c125_l0b, hw, hlt, hx, hx', hxl, hy, hy', hyl, h0, h1, encR, Rc.enc]
    · have h0' : ¬ y.a = x.a := fun e => h0 e.symm
      have hs : sameK (y :: qr) (x :: qn) = false := by simp [sameK, keyR, h0']
      rw [hs]
      refine ⟨[.dead, .cells 0 [.c (.str x.a), .c (.str x.b), .c (ci x.w)] 0], ?_⟩
      rw [r125_l0]
      simp [c125_l0b, hw, hlt, hx, hx', hxl, hy, hy', hyl, h0, encR, Rc.enc]
theorem nextL_len : ∀ l : List Rc, (nextL l).length = l.length / 2 := by
  have key : ∀ (n : Nat) (s : List Str), s.length ≤ n → (pairsL s).length = s.length / 2 := by
    intro n
    induction n with
    | zero => intro s h; have : s = [] := List.eq_nil_of_length_eq_zero (by omega); subst this; rfl
    | succ n ih =>
      intro s h
      rcases s with _ | ⟨a, _ | ⟨b, s⟩⟩
      · rfl
      · simp [pairsL]
      · have := ih s (by simp at h; omega)
        rw [pairsL, List.length_cons, this]
        simp
        omega
  intro l
  unfold nextL
  rw [key _ _ (Nat.le_refl _), List.length_map]
theorem L125_1 (T : Tabs P) (L : List (List Rc)) (hlen : ∀ r ∈ L, r.length < 500) (hL : L.length < 500) (hx : ∀ r ∈ L, ∀ x ∈ r, x.a.length < 9223372036854775807 ∧ x.b.length < 9223372036854775807) : ∀ (r pre : List (List Rc)), L = pre ++ r →
    ∃ H, execS P (limS P) c125_l1 ⟨[.c (.slice (L.map encR)), .c (.slice (L.map encR)), .c (ci L.length), .c (ci pre.length)], []⟩ = if eachE rndE pre r = 0 then some (.exit 0, ⟨[.c (.slice (L.map encR))], []⟩) else some (.ret, ⟨[.c (ci (eachE rndE pre r))], H⟩) := by
  intro r
  induction r with
  | nil =>
    intro pre hp
    refine ⟨[], ?_⟩
    rw [r125_l1]
    simp [c125_l1b, eachE, hp]
  | cons x r ih =>
    intro pre hp
    obtain ⟨H0, ih⟩ := ih (pre ++ [x]) (by simp [hp])
    have hxL : L[pre.length]? = some x := by rw [hp]; simp
    have hxm : x ∈ L := List.mem_of_getElem? hxL
    have h500 := hlen x hxm
    have hpl : pre.length < L.length := (List.getElem?_eq_some_iff.1 hxL).1
    have e57 := S57 (P := P) T x (by omega) (hx x hxm)
    have hw : IntKind.i64.wrap (↑pre.length + 1) = ↑pre.length + 1 := wrap64 (by omega) (by omega)
    have hE : eachE rndE pre (x :: r) = if rndE pre x ≠ 0 then rndE pre x else eachE rndE (pre ++ [x]) r := rfl
    rw [hE]
    simp at ih
    rcases List.eq_nil_or_concat pre with h0 | ⟨pre', y, h0⟩
    · subst h0
      have hR : rndE [] x = racesE x := rfl
      rw [hR]
      simp at hxL
      obtain ⟨hxl, hx'⟩ := List.getElem?_eq_some_iff.1 hxL
      have hlt : (0 : Int) < L.length := by omega
      have w1 : IntKind.i64.wrap 1 = 1 := rfl
      by_cases h1 : racesE x = 0
      · simp at ih
        refine ⟨H0, ?_⟩
        rw [r125_l1]
        simp [c125_l1b, hxL, hx', hxl, hlt, e57, h1, encR, w1, ih]
      · refine ⟨[], ?_⟩
        rw [r125_l1]
        simp [c125_l1b, hxL, hx', hxl, hlt, e57, h1, encR]
    · rw [List.concat_eq_append] at h0
      have hyL : L[pre'.length]? = some y := by rw [hp, h0]; simp
      obtain ⟨hyl, hy'⟩ := List.getElem?_eq_some_iff.1 hyL
      have hym : y ∈ L := List.mem_of_getElem? hyL
      have hy500 := hlen y hym
      have e119 := S119 (P := P) y (by omega)
      have e120 := S120 (P := P) y (by omega)
      have hplen : pre.length = pre'.length + 1 := by rw [h0]; simp
      have hgl : pre.getLast? = some y := by rw [h0]; simp
      have hR : rndE pre x = firstE [racesE x, whenE (decide (2 * (x.length : Int) ≠ y.length)) 2, whenE (y.any Rc.opn) 24, whenE (!sameK x (nextL y)) 29] := by unfold rndE; rw [hgl]
      have hw2 : IntKind.i64.wrap (2 * (x.length : Int)) = 2 * (x.length : Int) := wrap64 (by omega) (by omega)
      have hi0 : ¬ ((pre'.length + 1 : Nat) : Int) = 0 := by omega
      have hlt : ((pre'.length + 1 : Nat) : Int) < L.length := by rw [hp, h0]; simp; omega
      rw [hplen] at hxL hw ih ⊢
      obtain ⟨hxl, hx'⟩ := List.getElem?_eq_some_iff.1 hxL
      have hc : ((pre'.length + 1 : Nat) : Int) = (pre'.length : Int) + 1 := by omega
      have hwp : IntKind.i64.wrap (pre'.length : Int) = (pre'.length : Int) := wrap64 (by omega) (by omega)
      have hwy : IntKind.i64.wrap (y.length : Int) = (y.length : Int) := wrap64 (by omega) (by omega)
      have j0 : (0 : Int) ≤ (pre'.length : Int) + 1 := by omega
      have t1 : ((pre'.length : Int) + 1).toNat = pre'.length + 1 := by omega
      rw [hR]
      simp only [hc] at hw hlt hi0 ih ⊢
      by_cases h1 : racesE x = 0
      · by_cases h2 : 2 * (x.length : Int) = y.length
        · have hn := nextL_len y
          obtain ⟨H1, k0⟩ := L125_0 (P := P) (.slice (L.map encR)) (.slice (L.map encR)) (ci L.length) (ci (pre'.length + 1)) (nextL y) x (by omega) (nextL y) [] x [] rfl rfl rfl (by omega)
          simp [encR] at k0
          cases h3 : y.any Rc.opn
          · rw [h3] at e119
            cases h4 : sameK x (nextL y)
            · rw [h4] at k0
              refine ⟨H1, ?_⟩
              rw [r125_l1]
              simp [c125_l1b, hxL, hx', hxl, hyL, hy', hyl, hlt, hwp, hwy, j0, t1, hw2, hi0, e57, e119, e120, k0, h1, h2, h3, h4, encR, firstE, whenE, -List.any_eq_true]
            · rw [h4] at k0
              refine ⟨H0, ?_⟩
              rw [r125_l1]
              simp [c125_l1b, hxL, hx', hxl, hyL, hy', hyl, hlt, hw, hwp, hwy, j0, t1, hw2, hi0, e57, e119, e120, k0, h1, h2, h3, h4, encR, firstE, whenE, ih, -List.any_eq_true]
          · rw [h3] at e119
            refine ⟨[.dead], ?_⟩
            rw [r125_l1]
            simp [c125_l1b, hxL, hx', hxl, hyL, hy', hyl, hlt, hwp, hwy, j0, t1, hw2, hi0, e57, e119, h1, h2, h3, encR, firstE, whenE, -List.any_eq_true]
        · have h2' : decide (2 * (x.length : Int) ≠ y.length) = true := by simp [h2]
          refine ⟨[.dead], ?_⟩
          rw [r125_l1]
          cases h3 : y.any Rc.opn <;> rw [h3] at e119 <;> simp [c125_l1b, hxL, hx', hxl, hyL, hy', hyl, hlt, hwp, hwy, j0, t1, hw2, hi0, e57, e119, h1, h2, encR, firstE, whenE, -List.any_eq_true]
      · refine ⟨[], ?_⟩
        rw [r125_l1]
        simp [c125_l1b, hxL, hx', hxl, hlt, hwp, j0, t1, hi0, e57, h1, encR, firstE]
end LM.G6
namespace LM.G6
open Go LM
def lbody155 : LCode := match lc155 with
  | .seq _ (.block _ (.loop _ b)) => b
  | _ => .skip
def rC155 : LCode := match lc155 with
  | .seq a _ => a
  | _ => .skip
theorem lc155_eq : lc155 = .seq rC155 (.block 0 (.loop true lbody155)) := rfl
def AtO (L : List (List Rc)) (k : Nat) (ts : List LV) : Prop := ∃ x2 x4 x5 x6 x7 x8 x9 x10 x11 x12 x13 x14 x15 x16 x17 x18 : LV, ts = [.tuple [], .c (.ptr [.slice (L.map encR)] 0), x2, .c (ci ((k : Int) - 1)), x4, x5, x6, x7, x8, x9, x10, x11, x12, x13, x14, x15, x16, x17, x18]
theorem AtO.scrub {L : List (List Rc)} {k : Nat} {ts : List LV} {n : Nat} (h : AtO L k ts) : AtO L k (LM.scrub n ts) := by
  obtain ⟨x2, x4, x5, x6, x7, x8, x9, x10, x11, x12, x13, x14, x15, x16, x17, x18, rfl⟩ := h
  simp only [LM.scrub, LV.under, underL, if_true]
  exact ⟨_, _, _, _, _, _, _, _, _, _, _, _, _, _, _, _, rfl⟩
variable {Q : Nat → Option LFunc} {m : Nat} {yh : Hand} {L : List (List Rc)}
theorem step155 (k : Nat) (r : List Rc) (hr : L[k]? = some r) (hL : L.length < 1000) (H H1 : Heap) (hy : yh [.c (ci k), .c (encR r)] H = some (H1, none)) (ts : List LV) (h : AtO L (k + 1) ts) :
    ∃ ts', execI Q (runs Q m).1 (runs Q m).2 yh lbody155 ⟨ts, H⟩ none = some (.normal, ⟨ts', H1⟩, none) ∧ AtO L k ts' := by
  obtain ⟨x2, x4, x5, x6, x7, x8, x9, x10, x11, x12, x13, x14, x15, x16, x17, x18, rfl⟩ := h
  have hkl : k < L.length := (List.getElem?_eq_some_iff.1 hr).1
  obtain ⟨_, hr'⟩ := List.getElem?_eq_some_iff.1 hr
  have e0 : (((k + 1 : Nat) : Int) - 1) = (k : Int) := by omega
  have hw : IntKind.i64.wrap ((k : Int) - 1) = (k : Int) - 1 := wrap64 (by omega) (by omega)
  rw [e0]
  refine ⟨?ts, ?e, ?f⟩
  case e =>
    unfold lbody155 lc155
    simp only [encR] at hy
    simp [plainI_eq, opI, hr, hr', hkl, hw, encR, hy]
    rfl
  case f => exact ⟨_, _, _, _, _, _, _, _, _, _, _, _, _, _, _, _, rfl⟩
theorem end155 (H : Heap) (ts : List LV) (h : AtO L 0 ts) : ∃ ts', execI Q (runs Q m).1 (runs Q m).2 yh lbody155 ⟨ts, H⟩ none = some (.exit 0, ⟨ts', H⟩, none) := by
  obtain ⟨x2, x4, x5, x6, x7, x8, x9, x10, x11, x12, x13, x14, x15, x16, x17, x18, rfl⟩ := h
  have e0 : (((0 : Nat) : Int) - 1) = -1 := rfl
  rw [e0]
  refine ⟨?ts, ?e⟩
  case e =>
    unfold lbody155 lc155
    simp [plainI_eq, opI]
    rfl
theorem L155 (hL : L.length < 1000) (hlen : ∀ r ∈ L, r.length < 1000) (hy : ∀ (H : Heap) (out : List Pl) (i : CV) (r : List Rc), r ∈ L → Inv out H → out.length + 2 * r.length ≤ 100000 → ∃ H', yh [.c i, .c (encR r)] H = some (H', none) ∧ Inv (out ++ itemsS r) H' ∧ Fr H H') :
    ∀ (k : Nat), k ≤ L.length → ∀ (M : Nat), k ≤ M → ∀ (ts : List LV) (H : Heap) (out : List Pl), AtO L k ts → Inv out H → out.length + 2000 * k ≤ 100000 →
    ∃ ts' H', execI Q (runs Q M).1 (runs Q M).2 yh (.loop true lbody155) ⟨ts, H⟩ none = some (.exit 0, ⟨ts', H'⟩, none) ∧ Inv (out ++ (L.take k).reverse.flatMap itemsS) H' := by
  intro k
  induction k with
  | zero =>
    intro _ M _ ts H out hF hI _
    obtain ⟨ts', e⟩ := end155 (Q := Q) (m := M) (yh := yh) H ts hF
    exact ⟨ts', H, by rw [ix_loop, e]; rfl, by simpa using hI⟩
  | succ k ih =>
    intro hk M hM ts H out hF hI hO
    obtain ⟨M', rfl⟩ : ∃ M', M = M' + 1 := ⟨M - 1, by omega⟩
    obtain ⟨r, hr⟩ : ∃ r, L[k]? = some r := ⟨_, List.getElem?_eq_getElem (by omega)⟩
    have hrm : r ∈ L := List.mem_of_getElem? hr
    have hrl := hlen r hrm
    obtain ⟨H1, y1, y2, y3⟩ := hy H out (ci k) r hrm hI (by omega)
    obtain ⟨ts1, d1, d2⟩ := step155 (Q := Q) (m := M' + 1) k r hr hL H H1 y1 ts hF
    have d3 : AtO L k (if underB H.length (H1.take H.length) then LM.scrub H.length ts1 else ts1) := by
      split
      · exact d2.scrub
      · exact d2
    have hil := itemsS_len r
    obtain ⟨ts', H', f1, f2⟩ := ih (by omega) M' (by omega) _ _ _ d3 (y2.gc H.length hI.pos) (by rw [List.length_append]; omega)
    refine ⟨ts', H', ?_, ?_⟩
    · rw [ix_loop, d1]
      simp only [seqI_normal, if_true]
      rw [gc_eq]
      exact f1
    · rw [List.take_succ, hr]
      simp only [Option.toList, List.reverse_append, List.reverse_cons, List.reverse_nil, List.nil_append, List.flatMap_append, List.flatMap_cons, List.flatMap_nil, List.append_nil]
      rw [← List.append_assoc]
      exact f2
theorem E155 (hL : L.length < 50) (hlen : ∀ r ∈ L, r.length < 1000) (hy : ∀ (H : Heap) (out : List Pl) (i : CV) (r : List Rc), r ∈ L → Inv out H → out.length + 2 * r.length ≤ 100000 → ∃ H', yh [.c i, .c (encR r)] H = some (H', none) ∧ Inv (out ++ itemsS r) H' ∧ Fr H H') (M : Nat) (hM : L.length ≤ M) (H : Heap) (out : List Pl) (hI : Inv out H) (hO : out.length ≤ 1) :
    ∃ ts' H', (runs Q (M + 1)).2 yh lc155 ⟨pad 19 [.tuple [], .c (.ptr [.slice (L.map encR)] 0)], H⟩ none = some (.normal, ⟨ts', H'⟩, none) ∧ Inv (out ++ L.reverse.flatMap itemsS) H' := by
  have hC : ∃ ts, execI Q (runs Q M).1 (runs Q M).2 yh rC155 ⟨pad 19 [.tuple [], .c (.ptr [.slice (L.map encR)] 0)], H⟩ none = some (.normal, ⟨ts, H⟩, none) ∧ AtO L L.length ts := by
    have hw : IntKind.i64.wrap ((L.length : Int) - 1) = (L.length : Int) - 1 := wrap64 (by omega) (by omega)
    refine ⟨?ts4, ?b1, ?b2⟩
    case b1 =>
      unfold rC155 lc155
      simp [plainI_eq, opI, pad, List.replicate, hw]
      rfl
    case b2 => exact ⟨_, _, _, _, _, _, _, _, _, _, _, _, _, _, _, _, rfl⟩
  obtain ⟨ts, e1, e2⟩ := hC
  obtain ⟨ts', H', f1, f2⟩ := L155 (Q := Q) (by omega) hlen hy L.length (Nat.le_refl _) M hM ts H out e2 hI (by omega)
  rw [List.take_length] at f2
  refine ⟨ts', H', ?_, f2⟩
  rw [runs_two, lc155_eq]
  simp [e1, f1]
end LM.G6
namespace LM.G6
open Go LM
def pA66 : LCode := match lc66 with
  | .seq a _ => a
  | _ => .skip
def pB66 : LCode := match lc66 with
  | .seq _ (.seq b _) => b
  | _ => .skip
def pC66 : LCode := match lc66 with
  | .seq _ (.seq _ (.seq c _)) => c
  | _ => .skip
def pD66 : LCode := match lc66 with
  | .seq _ (.seq _ (.seq _ (.seq d _))) => d
  | _ => .skip
def pE66 : LCode := match lc66 with
  | .seq _ (.seq _ (.seq _ (.seq _ (.seq (.seq e _) _)))) => e
  | _ => .skip
def pF66 : LCode := match lc66 with
  | .seq _ (.seq _ (.seq _ (.seq _ (.seq _ (.seq f _))))) => f
  | _ => .skip
theorem lc66_eq : lc66 = .seq pA66 (.seq pB66 (.seq pC66 (.seq pD66 (.seq (.seq pE66 (.block 0 (.rangeFn (.t 32) [33, 34] asg66 bod66))) (.seq pF66 .ret))))) := rfl
/-- What the small machine answers, the larger one does, with enough fuel. -/
def Over (P : Nat → Option SFunc) (Q : Nat → Option LFunc) : Prop := ∀ f args v, fn P f args = some v → ∃ n, pcall Q n f args = some v
theorem Over.all {P : Nat → Option SFunc} {Q : Nat → Option LFunc} (h : Over P Q) {f : Nat} {args : List CV} {v : CV} (e : fn P f args = some v) : ∃ N, ∀ M, N ≤ M → pcall Q M f args = some v := by
  obtain ⟨n, hn⟩ := h f args v e
  exact ⟨n, pcall_all hn⟩
theorem fuel_list {Q : Nat → Option LFunc} {α : Type} {f : Nat} {ar : α → List CV} {vv : α → CV} : ∀ (l : List α), (∀ x ∈ l, ∃ N, ∀ M, N ≤ M → pcall Q M f (ar x) = some (vv x)) → ∃ N, ∀ M, N ≤ M → ∀ x ∈ l, pcall Q M f (ar x) = some (vv x)
  | [], _ => ⟨0, fun _ _ x hx => by cases hx⟩
  | a :: l, h => by
    obtain ⟨n1, h1⟩ := h a (by simp)
    obtain ⟨n2, h2⟩ := fuel_list l (fun x hx => h x (by simp [hx]))
    refine ⟨n1 + n2, fun M hM x hx => ?_⟩
    rcases List.mem_cons.1 hx with rfl | hx
    · exact h1 M (by omega)
    · exact h2 M (by omega) x hx
/-- The places as the program tells them. -/
def winP (x : Rc) : List Pl := if winR x = [] then [] else [⟨winR x, 1⟩]
def placesS (L : List (List Rc)) (x : Rc) : List Pl := winP x ++ L.reverse.flatMap itemsS
theorem E66 {P : Nat → Option SFunc} {Q : Nat → Option LFunc} (hQ : Over P Q) (q66 : Q 66 = some lf66) (q155 : Q 155 = some lf155) (q156 : Q 156 = some lf156) (L : List (List Rc)) (e : Int) (e125 : fn P 125 [.slice (L.map encR)] = some (ci e))
    (e126 : ∀ x : Rc, fn P 126 [x.enc] = some (.str (winR x))) (e127 : fn P 127 [.slice (L.map encR)] = some (.func 155 [] [.ptr [.slice (L.map encR)] 0])) (e128 : ∀ r : List Rc, fn P 128 [encR r] = some (.func 156 [] [.ptr [encR r] 0]))
    (x : Rc) (hx : e = 0 → L.length < 50 ∧ (∀ r ∈ L, r.length < 1000) ∧ L[L.length - 1]? = some [x] ∧ 0 < L.length) :
    ∃ n, pcall Q n 66 [.slice (L.map encR)] = some (.tuple (if e = 0 then [.slice ((placesS L x).map Pl.enc), ci 0] else [.slice [], ci e])) := by
  obtain ⟨n1, f1⟩ := hQ.all e125
  obtain ⟨n2, f2⟩ := fuel_list (Q := Q) (f := 126) (ar := fun x : Rc => [x.enc]) (vv := fun x => .str (winR x)) (x :: L.flatMap _root_.id) (fun x _ => hQ.all (e126 x))
  obtain ⟨n3, f3⟩ := hQ.all e127
  obtain ⟨n4, f4⟩ := fuel_list (Q := Q) (f := 128) (ar := fun r : List Rc => [encR r]) (vv := fun r => .func 156 [] [.ptr [encR r] 0]) L (fun r _ => hQ.all (e128 r))
  have hM : ∃ M, n1 ≤ M + 1 ∧ n2 + 3 + 1000 ≤ M ∧ n3 ≤ M + 1 ∧ n4 ≤ M + 1 ∧ 1000 ≤ M := ⟨n1 + n2 + n3 + n4 + 3000, by omega⟩
  obtain ⟨M, m1, m2, m3, m4, m5⟩ := hM
  have f1 := f1 _ m1
  have f2x := f2 (M + 1) (by omega) x (by simp)
  have f3 := f3 _ m3
  have f4 := f4 _ m4
  have g1 := callF_of f1
  have g2 := callF_of f2x
  have g3 := callF_of f3
  simp only [Rc.enc] at f2x g2
  refine ⟨M + 2, ?_⟩
  rw [pcall_code (n := M + 1) q66]
  by_cases he : e = 0
  · subst he
    obtain ⟨hL, hlen, hlast, hL0⟩ := hx rfl
    obtain ⟨hll, hlast'⟩ := List.getElem?_eq_some_iff.1 hlast
    have hw : IntKind.i64.wrap ((L.length : Int) - 1) = ((L.length - 1 : Nat) : Int) := by rw [show (L.length : Int) - 1 = ((L.length - 1 : Nat) : Int) from by omega]; exact wrap64 (by omega) (by omega)
    by_cases hwn : winR x = []
    · rw [lc66_eq]
      simp [pA66, pB66, pC66, pD66, pE66, lc66, pad, List.replicate, f1, g1, f2x, g2, f3, g3, hw, hlast, hlast', hll, hL0, encR, hwn, Rc.enc, rangeF_func q155]
      have hI : Inv (winP x) [.cells 1 [] 0, .cells 0 [.nil] 0] := by unfold winP; rw [if_pos hwn]; rfl
      generalize hyh : handOf _ _ _ _ = yh
      have hy : ∀ (H : Heap) (out : List Pl) (i : CV) (r : List Rc), r ∈ L → Inv out H → out.length + 2 * r.length ≤ 100000 → ∃ H', yh [.c i, .c (encR r)] H = some (H', none) ∧ Inv (out ++ itemsS r) H' ∧ Fr H H' := by
        intro H out i r hr hI hO
        rw [← hyh]
        exact tellsR _ _ _ _ _ _ _ _ _ _ _ _ _ _ _ _ _ _ _ _ _ _ _ _ _ _ _ _ _ _ _ _ _ _ _ _ _ _ _ _ _ _ _ _ _ _ r (hlen r hr) (f4 r hr) q156 (fun M' hM' y hy => f2 M' hM' y (by simp; exact .inr ⟨r, hr, hy⟩)) (by have := hlen r hr; omega) i H out hI hO
      obtain ⟨ts', H', e1, e2⟩ := E155 (Q := Q) hL hlen hy M (by omega) _ (winP x) hI (by unfold winP; split <;> simp)
      simp [pad, List.replicate] at e1
      rw [e1]
      have e2 : Inv (placesS L x) H' := e2
      unfold Inv at e2
      by_cases hp : placesS L x = []
      · rw [if_pos hp] at e2
        obtain ⟨e3, e4⟩ := List.getElem?_eq_some_iff.1 e2
        simp [pF66, lc66, e2, e3, e4, hp, mkTuple, frz, resV]
      · rw [if_neg hp] at e2
        obtain ⟨b, e2, e5⟩ := e2
        obtain ⟨e3, e4⟩ := List.getElem?_eq_some_iff.1 e2
        have h2 : (cPl (placesS L x)).length = (placesS L x).length * 2 := by have := cellsOf_length (Pl.elems (placesS L x)); rw [List.length_map] at this; exact this
        have h3 : (cPl (placesS L x)).take ((placesS L x).length * 2) = cPl (placesS L x) := List.take_of_length_le (by omega)
        have h4 : ∀ h, mapH (frz 38) (cPl (placesS L x)) h = some (((placesS L x).map Pl.enc).flatMap CV.cells, h) := fun h => by unfold cPl cellsOf; rw [mapH_map_c 37]
        have h6 : chunk (some 2) (placesS L x).length (((placesS L x).map Pl.enc).flatMap CV.cells) = some ((placesS L x).map Pl.enc) := by have := chunk_cellsOf (Pl.elems (placesS L x)); rw [List.length_map] at this; exact this
        generalize placesS L x = Z at *
        generalize cPl Z = C at *
        generalize Z.map Pl.enc = ZE at *
        generalize ZE.flatMap CV.cells = CE at *
        simp [pF66, lc66, e2, e3, e4, e5, hp, mkTuple, frz, resV, h2, h3, h4, h6]
    · have hem : (winR x).isEmpty = false := by cases h : winR x with | nil => exact absurd h hwn | cons => rfl
      have hap : appendOp none (some 2) 24 .nil (.c (.slice [.agg [.str (winR x), .int .i64 1]])) [.cells 1 [] 0, .cells 0 [.nil] 0] = some (.slice 2 1 0 1 (some 2) none, [.cells 1 [] 0, .cells 0 [.nil] 0, .cells 1 (cPl [⟨winR x, 1⟩]) 0]) := rfl
      rw [lc66_eq]
      simp [pA66, pB66, pC66, pD66, pE66, lc66, pad, List.replicate, f1, g1, f2x, g2, f3, g3, hw, hlast, hlast', hll, hL0, encR, hwn, hem, hap, Rc.enc, rangeF_func q155]
      have hI : Inv (winP x) [.cells 1 [] 0, .cells 0 [.slice 2 1 0 1 (some 2) none] 0, .cells 1 (cPl [⟨winR x, 1⟩]) 0] := by unfold winP; rw [if_neg hwn]; exact ⟨2, rfl, rfl⟩
      generalize hyh : handOf _ _ _ _ = yh
      have hy : ∀ (H : Heap) (out : List Pl) (i : CV) (r : List Rc), r ∈ L → Inv out H → out.length + 2 * r.length ≤ 100000 → ∃ H', yh [.c i, .c (encR r)] H = some (H', none) ∧ Inv (out ++ itemsS r) H' ∧ Fr H H' := by
        intro H out i r hr hI hO
        rw [← hyh]
        exact tellsR _ _ _ _ _ _ _ _ _ _ _ _ _ _ _ _ _ _ _ _ _ _ _ _ _ _ _ _ _ _ _ _ _ _ _ _ _ _ _ _ _ _ _ _ _ _ r (hlen r hr) (f4 r hr) q156 (fun M' hM' y hy => f2 M' hM' y (by simp; exact .inr ⟨r, hr, hy⟩)) (by have := hlen r hr; omega) i H out hI hO
      obtain ⟨ts', H', e1, e2⟩ := E155 (Q := Q) hL hlen hy M (by omega) _ (winP x) hI (by unfold winP; split <;> simp)
      simp [pad, List.replicate] at e1
      rw [e1]
      have e2 : Inv (placesS L x) H' := e2
      unfold Inv at e2
      by_cases hp : placesS L x = []
      · rw [if_pos hp] at e2
        obtain ⟨e3, e4⟩ := List.getElem?_eq_some_iff.1 e2
        simp [pF66, lc66, e2, e3, e4, hp, mkTuple, frz, resV]
      · rw [if_neg hp] at e2
        obtain ⟨b, e2, e5⟩ := e2
        obtain ⟨e3, e4⟩ := List.getElem?_eq_some_iff.1 e2
        have h2 : (cPl (placesS L x)).length = (placesS L x).length * 2 := by have := cellsOf_length (Pl.elems (placesS L x)); rw [List.length_map] at this; exact this
        have h3 : (cPl (placesS L x)).take ((placesS L x).length * 2) = cPl (placesS L x) := List.take_of_length_le (by omega)
        have h4 : ∀ h, mapH (frz 38) (cPl (placesS L x)) h = some (((placesS L x).map Pl.enc).flatMap CV.cells, h) := fun h => by unfold cPl cellsOf; rw [mapH_map_c 37]
        have h6 : chunk (some 2) (placesS L x).length (((placesS L x).map Pl.enc).flatMap CV.cells) = some ((placesS L x).map Pl.enc) := by have := chunk_cellsOf (Pl.elems (placesS L x)); rw [List.length_map] at this; exact this
        generalize placesS L x = Z at *
        generalize cPl Z = C at *
        generalize Z.map Pl.enc = ZE at *
        generalize ZE.flatMap CV.cells = CE at *
        simp [pF66, lc66, e2, e3, e4, e5, hp, mkTuple, frz, resV, h2, h3, h4, h6]
  · rw [lc66_eq]
    simp [pA66, pB66, lc66, pad, List.replicate, f1, g1, he, resultV, resultsAll, resultOne, resV, mkTuple, frz]
end LM.G6
namespace LM.G6
open Go LM
variable {P : Nat → Option SFunc} [Has P]
theorem S125 (T : Tabs P) (L : List (List Rc)) (hlen : ∀ r ∈ L, r.length < 500) (hL : L.length < 500) (hx : ∀ r ∈ L, ∀ x ∈ r, x.a.length < 9223372036854775807 ∧ x.b.length < 9223372036854775807) : fn P 125 [.slice (L.map encR)] = some (ci (roundsE L)) := by
  obtain ⟨H, hl⟩ := L125_1 (P := P) T L hlen hL hx L [] rfl
  simp at hl
  rw [u125]
  unfold roundsE
  by_cases h0 : L = []
  · subst h0
    simp [c125, whenE, firstE]
  · have hp : 0 < L.length := List.length_pos_iff.2 h0
    have hp' : ¬ (L.length : Int) = 0 := by omega
    have hp'' : ¬ L.length = 0 := by omega
    rw [if_neg hp'']
    by_cases h1 : (L.length : Int) > 6
    · have h1' : (6 : Int) < (L.length : Int) := h1
      simp [c125, h0, hp', h1', whenE, firstE]
    · have h1' : ¬ (6 : Int) < (L.length : Int) := h1
      rw [if_neg h1]
      by_cases h2 : eachE rndE [] L = 0
      · obtain ⟨x, hx⟩ : ∃ x, L[L.length - 1]? = some x := ⟨_, List.getElem?_eq_getElem (by omega)⟩
        obtain ⟨hxl, hx'⟩ := List.getElem?_eq_some_iff.1 hx
        have hxm : x ∈ L := List.mem_of_getElem? hx
        have h500 := hlen x hxm
        have e119 := S119 (P := P) x (by omega)
        have hgl : L.getLast? = some x := by rw [List.getLast?_eq_getElem?]; exact hx
        have hw : IntKind.i64.wrap ((L.length : Int) - 1) = ((L.length - 1 : Nat) : Int) := by rw [show (L.length : Int) - 1 = ((L.length - 1 : Nat) : Int) from by omega]; exact wrap64 (by omega) (by omega)
        rw [h2] at hl
        have hE : lastE L = firstE [whenE (decide ((x.length : Int) > 1)) 20, whenE (x.any Rc.opn) 24] := by unfold lastE; rw [hgl]
        rw [hE]
        cases h4 : x.any Rc.opn <;> rw [h4] at e119 <;> by_cases h3 : (1 : Int) < (x.length : Int) <;> simp [c125, h0, hp', h1', h2, hl, hw, hx, hx', hxl, encR, h3, e119, firstE, whenE] <;> omega
      · simp [c125, h0, hp', h1', h2, hl, whenE, firstE]
end LM.G6
namespace LM.G6
open Go LM
variable {P : Nat → Option SFunc} [Has P]
/-- The places of those who lost a race, as the reference tells them. -/
def refA (N : Int) (x : Rc) : List Pl := if x.a ≠ [] ∧ x.w ≠ 1 then [⟨x.a, N⟩] else []
def refB (N : Int) (x : Rc) : List Pl := if x.b ≠ [] ∧ x.w ≠ 2 then [⟨x.b, N⟩] else []
def refX (N : Int) (x : Rc) : List Pl := refA N x ++ refB N x
def itemsR (r : List Rc) : List Pl := r.flatMap (refX ((r.length : Int) + 1))
def placesR (L : List (List Rc)) (x : Rc) : List Pl := winP x ++ L.reverse.flatMap itemsR
end LM.G6
namespace LM.G6
open Go LM
variable {P : Nat → Option SFunc} [Has P]
/-- Elements of one cell. -/
def CellOk {α : Type} (enc : α → CV) : Prop := ∀ x, Elem none (enc x)
theorem CellOk.cells {α : Type} {enc : α → CV} (h : CellOk enc) (x : α) : CV.cells (enc x) = [enc x] := (h x).1
theorem CellOk.flat {α : Type} {enc : α → CV} (h : CellOk enc) (x : α) : flatAll [LV.c (enc x)] = true := by have := (h x).2; simpa [flatAll] using this
variable {α : Type} {enc : α → CV} {f : Nat} {B : List CV} {c : α → α → Int} {H : Heap} {b g : Nat} {cp : Option Nat}
end LM.G6
namespace LM.G6
open Go LM
theorem firstE_zD (e : Int) (r : List Int) : firstE (e :: r) = 0 ↔ e = 0 ∧ firstE r = 0 := by
  rw [firstE]
  by_cases h : e = 0 <;> simp [h]
theorem whenE_zD {b : Bool} {e : Int} (h : e ≠ 0) : whenE b e = 0 ↔ b = false := by cases b <;> simp [whenE, h]
theorem each_some {α : Type} {chk : List α → α → Int} : ∀ (l pre : List α), eachE chk pre l = 0 → ∀ x ∈ l, ∃ p, chk p x = 0
  | [], _, _, x, hx => by cases hx
  | y :: l, pre, h, x, hx => by
    rw [eachE] at h
    split at h
    · rename_i q; exact absurd h q
    · rename_i q
      rcases List.mem_cons.1 hx with rfl | hx
      · exact ⟨pre, by simpa using q⟩
      · exact each_some l (pre ++ [y]) h x hx
theorem races_differ {r : List Rc} (h : racesE r = 0) : ∀ x ∈ r, x.a ≠ [] → x.a ≠ x.b := by
  unfold racesE at h
  split at h
  · intro x hx ha hab
    obtain ⟨p, hp⟩ := each_some r [] h x hx
    unfold rcE at hp
    split at hp
    · cases hp
    · split at hp
      · cases hp
      · rename_i q
        apply q
        unfold twiceR
        simp [ha, ← hab]
  · cases h
theorem tell_ref {x : Rc} (h : x.a ≠ [] → x.a ≠ x.b) (N : Int) : (tellF x 0).map (fun nm => (⟨nm, N⟩ : Pl)) = refX N x := by
  unfold tellF refX refA refB
  rw [if_pos rfl, List.map_append]
  congr 1
  · unfold tellN winR
    by_cases ha : x.a = []
    · simp [ha]
    · have hab := h ha
      by_cases h1 : x.w = 1
      · simp [ha, h1]
      · by_cases h2 : x.w = 2
        · simp [ha, h1, h2, hab]
        · simp [ha, h1, h2]
  · unfold tellN winR
    by_cases hb : x.b = []
    · simp [hb]
    · by_cases h1 : x.w = 1
      · have hab : ¬ x.b = x.a := by
          intro e
          exact h (by rw [← e]; exact hb) e.symm
        simp [hb, h1, hab]
      · by_cases h2 : x.w = 2
        · simp [hb, h1, h2]
        · simp [hb, h1, h2]
theorem items_eq {r : List Rc} (h : racesE r = 0) : itemsS r = itemsR r := by
  unfold itemsS itemsR
  have hd := races_differ h
  generalize ((r.length : Int) + 1) = N
  clear h
  induction r with
  | nil => rfl
  | cons x r ih =>
    rw [List.flatMap_cons, List.flatMap_cons, List.map_append, tell_ref (hd x (by simp)), ih (fun y hy => hd y (by simp [hy]))]
theorem rounds_ok {L : List (List Rc)} (h : roundsE L = 0) : 0 < L.length ∧ L.length ≤ 6 ∧ (∀ r ∈ L, racesE r = 0) ∧ ∃ x, L[L.length - 1]? = some [x] := by
  unfold roundsE at h
  split at h
  · cases h
  · rename_i h0
    split at h
    · cases h
    · rename_i h1
      split at h
      · rename_i q; exact absurd h q
      · rename_i h2
        have h2 : eachE rndE [] L = 0 := by simpa using h2
        have hr : ∀ r ∈ L, racesE r = 0 := by
          intro r hr
          obtain ⟨p, hp⟩ := each_some L [] h2 r hr
          unfold rndE at hp
          split at hp
          · exact hp
          · exact ((firstE_zD _ _).1 hp).1
        refine ⟨by omega, by omega, hr, ?_⟩
        obtain ⟨l, hl⟩ : ∃ l, L[L.length - 1]? = some l := ⟨_, List.getElem?_eq_getElem (by omega)⟩
        have hlm : l ∈ L := List.mem_of_getElem? hl
        have hgl : L.getLast? = some l := by rw [List.getLast?_eq_getElem?]; exact hl
        unfold lastE at h
        rw [hgl] at h
        have h3 := ((firstE_zD _ _).1 h).1
        rw [whenE_zD (by decide)] at h3
        simp at h3
        have h4 := hr l hlm
        unfold racesE at h4
        split at h4
        · rename_i h5
          have : l.length = 1 := by omega
          obtain ⟨x, rfl⟩ := List.length_eq_one_iff.1 this
          exact ⟨x, hl⟩
        · cases h4
theorem places_eq {L : List (List Rc)} (h : ∀ r ∈ L, racesE r = 0) (x : Rc) : placesS L x = placesR L x := by
  unfold placesS placesR
  congr 1
  have : ∀ r ∈ L.reverse, racesE r = 0 := fun r hr => h r (by simpa using hr)
  generalize L.reverse = M at *
  induction M with
  | nil => rfl
  | cons r M ih => rw [List.flatMap_cons, List.flatMap_cons, items_eq (this r (by simp)), ih (fun y hy => this y (by simp [hy]))]
variable {P : Nat → Option SFunc} [Has P] [HasP P]
end LM.G6
namespace LM.G6
open Go LM
theorem pairsL_names : ∀ (n : Nat) (s : List Str), s.length ≤ n → s.length % 2 = 0 → namesR (pairsL s) = s.filter (fun x => decide (x ≠ []))
  | 0, s, h, _ => by
    have : s = [] := List.eq_nil_of_length_eq_zero (by omega)
    subst this
    rfl
  | n + 1, s, h, he => by
    rcases s with _ | ⟨a, _ | ⟨b, s⟩⟩
    · rfl
    · simp at he
    · have ih := pairsL_names n s (by simp at h; omega) (by simp at he; omega)
      rw [pairsL]
      unfold namesR at ih ⊢
      rw [List.flatMap_cons, ih]
      simp only [decR]
      rw [show a :: b :: s = [a, b] ++ s from rfl, List.filter_append]
theorem rcE_zero {pre : List Rc} {x : Rc} (h : rcE pre x = 0) : strangeR x = false ∧ twiceR (namesR pre) x = false := by
  unfold rcE at h
  split at h
  · cases h
  · rename_i h1
    split at h
    · cases h
    · rename_i h2
      exact ⟨by simpa using h1, by simpa using h2⟩
theorem twiceR_false {s : List Str} {x : Rc} (h : twiceR s x = false) : (x.a ≠ [] → x.a ∉ s) ∧ (x.b ≠ [] → x.b ∉ s) ∧ (x.a ≠ [] → x.a ≠ x.b) := by
  unfold twiceR at h
  simp only [Bool.or_eq_false_iff, Bool.and_eq_false_iff, decide_eq_false_iff_not, List.any_eq_false] at h
  obtain ⟨⟨h1, h2⟩, h3⟩ := h
  refine ⟨fun ha hm => ?_, fun hb hm => ?_, fun ha => ?_⟩
  · rcases h1 with h1 | h1
    · exact h1 ha
    · exact h1 _ hm (by simp [Str.is])
  · rcases h2 with h2 | h2
    · exact h2 hb
    · exact h2 _ hm (by simp [Str.is])
  · rcases h3 with h3 | h3
    · exact absurd ha h3
    · exact h3
/-- The names of good races are there once. -/
theorem names_nodup : ∀ (l pre : List Rc), eachE rcE pre l = 0 → (namesR pre).Nodup → (namesR (pre ++ l)).Nodup
  | [], pre, _, h => by simpa using h
  | x :: l, pre, h, hn => by
    rw [eachE] at h
    split at h
    · rename_i q; exact absurd h q
    · rename_i q
      have q : rcE pre x = 0 := by simpa using q
      obtain ⟨t1, t2, t3⟩ := twiceR_false (rcE_zero q).2
      have h1 : (namesR (pre ++ [x])).Nodup := by
        have e : namesR (pre ++ [x]) = namesR pre ++ [x.a, x.b].filter (fun s => decide (s ≠ [])) := by simp [namesR]
        rw [e, List.nodup_append]
        refine ⟨hn, ?_, ?_⟩
        · by_cases ha : x.a = [] <;> by_cases hb : x.b = [] <;> simp [ha, hb, List.filter_cons]
          intro e
          exact t3 ha e
        · intro a ha b hb e
          subst e
          rw [List.mem_filter] at hb
          obtain ⟨hb1, hb2⟩ := hb
          simp at hb1 hb2
          rcases hb1 with rfl | rfl
          · exact t1 hb2 ha
          · exact t2 hb2 ha
      have := names_nodup l (pre ++ [x]) h h1
      simpa using this
theorem wins_sub : ∀ l : List Rc, List.Sublist ((l.map winR).filter (fun s => decide (s ≠ []))) (namesR l)
  | [] => List.Sublist.refl _
  | x :: l => by
    have ih := wins_sub l
    have e1 : namesR (x :: l) = [x.a, x.b].filter (fun s => decide (s ≠ [])) ++ namesR l := rfl
    have e2 : ((x :: l).map winR).filter (fun s => decide (s ≠ [])) = [winR x].filter (fun s => decide (s ≠ [])) ++ (l.map winR).filter (fun s => decide (s ≠ [])) := by
      rw [List.map_cons, show winR x :: l.map winR = [winR x] ++ l.map winR from rfl, List.filter_append]
    rw [e1, e2]
    refine List.Sublist.append ?_ ih
    unfold winR
    by_cases h1 : x.w = 1
    · rw [if_pos h1]
      exact List.Sublist.filter _ (by simp)
    · rw [if_neg h1]
      by_cases h2 : x.w = 2
      · rw [if_pos h2]
        exact List.Sublist.filter _ (by simp)
      · rw [if_neg h2]
        simp
theorem walk_range (a b : Str) : outside (walkV a b) 0 3 = false := by
  unfold walkV
  (repeat' split) <;> rfl
theorem pairs_good : ∀ (n : Nat) (s : List Str) (pre : List Rc), s.length ≤ n → (∀ x ∈ s, x ≠ [] → isName x = true) → (namesR pre ++ s.filter (fun x => decide (x ≠ []))).Nodup → eachE rcE pre (pairsL s) = 0
  | 0, s, pre, h, _, _ => by
    have : s = [] := List.eq_nil_of_length_eq_zero (by omega)
    subst this
    rfl
  | n + 1, s, pre, h, hn, hd => by
    rcases s with _ | ⟨a, _ | ⟨b, s⟩⟩
    · rfl
    · simp [pairsL, eachE]
    · have e0 : (a :: b :: s).filter (fun x => decide (x ≠ [])) = [a, b].filter (fun x => decide (x ≠ [])) ++ s.filter (fun x => decide (x ≠ [])) := by
        rw [show a :: b :: s = [a, b] ++ s from rfl, List.filter_append]
      have e1 : namesR (pre ++ [decR a b]) = namesR pre ++ [a, b].filter (fun x => decide (x ≠ [])) := by simp [namesR, decR]
      rw [e0, ← List.append_assoc] at hd
      have ih := pairs_good n s (pre ++ [decR a b]) (by simp at h; omega) (fun x hx => hn x (by simp [hx])) (by rw [e1]; exact hd)
      have hd1 := (List.nodup_append.1 hd).1
      obtain ⟨_, hd2, hd3⟩ := List.nodup_append.1 hd1
      have hs : strangeR (decR a b) = false := by
        unfold strangeR decR
        have h1 := hn a (by simp)
        have h2 := hn b (by simp)
        by_cases ha : a = [] <;> by_cases hb : b = [] <;> simp [ha, hb] <;> simp_all
      have ht : twiceR (namesR pre) (decR a b) = false := by
        unfold twiceR decR
        have ha1 : a ≠ [] → a ∉ namesR pre := fun ha hm => hd3 a hm a (by simp [List.mem_filter, ha]) rfl
        have hb1 : b ≠ [] → b ∉ namesR pre := fun hb hm => hd3 b hm b (by simp [List.mem_filter, hb]) rfl
        have hab : a ≠ [] → a ≠ b := fun ha e => by
          subst e
          simp [List.filter_cons, ha] at hd2
        simp only [Bool.or_eq_false_iff, Bool.and_eq_false_iff, decide_eq_false_iff_not, List.any_eq_false]
        refine ⟨⟨?_, ?_⟩, ?_⟩
        · by_cases ha : a = []
          · exact .inl (by simp [ha])
          · exact .inr (fun y hy => by rw [Str.is_eq]; simp; intro e; exact ha1 ha (e ▸ hy))
        · by_cases hb : b = []
          · exact .inl (by simp [hb])
          · exact .inr (fun y hy => by rw [Str.is_eq]; simp; intro e; exact hb1 hb (e ▸ hy))
        · by_cases ha : a = []
          · exact .inl (by simp [ha])
          · exact .inr (hab ha)
      have hr : rcE pre (decR a b) = 0 := by
        unfold rcE
        rw [hs, ht]
        have hw := walk_range a b
        simp [decR, hw]
      rw [pairsL, eachE, hr]
      simpa using ih
/-- The next round of good races is good. -/
theorem next_good {l : List Rc} (h : racesE l = 0) (h2 : l.length ≠ 1) : racesE (nextL l) = 0 := by
  have hlen := nextL_len l
  unfold racesE at h ⊢
  split at h
  · rename_i hp
    have hpow : (nextL l).length = 1 ∨ (nextL l).length = 2 ∨ (nextL l).length = 4 ∨ (nextL l).length = 8 ∨ (nextL l).length = 16 ∨ (nextL l).length = 32 := by omega
    rw [if_pos hpow]
    unfold nextL
    refine pairs_good _ _ [] (Nat.le_refl _) ?_ ?_
    · intro y hy hne
      obtain ⟨x, hx, rfl⟩ := List.mem_map.1 hy
      obtain ⟨p, hp⟩ := each_some l [] h x hx
      have hs := (rcE_zero hp).1
      unfold strangeR at hs
      simp only [Bool.or_eq_false_iff, Bool.and_eq_false_iff, decide_eq_false_iff_not, Bool.not_eq_false'] at hs
      unfold winR at hne ⊢
      by_cases h1 : x.w = 1
      · rw [if_pos h1] at hne ⊢
        rcases hs.1 with q | q
        · exact absurd hne q
        · exact q
      · rw [if_neg h1] at hne ⊢
        by_cases h3 : x.w = 2
        · rw [if_pos h3] at hne ⊢
          rcases hs.2 with q | q
          · exact absurd hne q
          · exact q
        · rw [if_neg h3] at hne
          exact absurd rfl hne
    · have hn := names_nodup l [] h (by simp [namesR])
      simpa [namesR] using (wins_sub l).nodup hn
  · cases h
end LM.G6
namespace LM.G6
open Go LM
theorem sameK_next_w (l : List Rc) (m : List Rc) (h : m.map keyR = l.map keyR) : sameK m l = true := by unfold sameK; exact decide_eq_true h
/-- Each round is good, and has the races that the one before leads to. -/
def Chain : List (List Rc) → Prop
  | [] => True
  | [r] => racesE r = 0
  | r :: s :: L => racesE r = 0 ∧ r.any Rc.opn = false ∧ r.length ≠ 1 ∧ s.map keyR = (nextL r).map keyR ∧ Chain (s :: L)
theorem chain_each : ∀ (L pre : List (List Rc)) (p : List Rc), Chain (p :: L) → eachE rndE (pre ++ [p]) L = 0
  | [], pre, p, _ => rfl
  | s :: L, pre, p, h => by
    obtain ⟨h1, h2, h3, h4, h5⟩ := h
    have hs : racesE s = 0 := by
      cases L with
      | nil => exact h5
      | cons t L => exact h5.1
    have hl : s.length = (nextL p).length := by have := congrArg List.length h4; simpa using this
    have hn := nextL_len p
    have hp : p.length = 2 ∨ p.length = 4 ∨ p.length = 8 ∨ p.length = 16 ∨ p.length = 32 := by
      unfold racesE at h1
      split at h1
      · omega
      · cases h1
    have hr : rndE (pre ++ [p]) s = 0 := by
      unfold rndE
      rw [List.getLast?_append]
      simp only [List.getLast?_singleton, Option.some_or]
      rw [hs, h2, sameK_next_w _ _ h4, decide_eq_false (by omega)]
      rfl
    rw [eachE, hr]
    simpa using chain_each L (pre ++ [p]) s h5
theorem chain_rounds {L : List (List Rc)} {p : List Rc} (h : Chain (p :: L)) (hl : (p :: L).length ≤ 6) {x : Rc} (hx : (p :: L).getLast? = some [x]) (hw : x.w ≠ 0) : roundsE (p :: L) = 0 := by
  have he := chain_each L [] p h
  have hp : racesE p = 0 := by
    cases L with
    | nil => exact h
    | cons t L => exact h.1
  have hr : rndE [] p = 0 := by unfold rndE; exact hp
  have e1 : eachE rndE [] (p :: L) = 0 := by
    rw [eachE, hr]
    simpa using he
  unfold roundsE
  rw [if_neg (by simp), if_neg (by simp only [List.length_cons] at hl ⊢; omega), e1]
  unfold lastE
  rw [hx]
  simp [whenE, firstE, Rc.opn, hw]
end LM.G6
namespace LM.G6
open Go LM
def neB (s : Str) : Bool := decide (s ≠ [])
theorem race_names {x : Rc} (h : x.a ≠ [] → x.a ≠ x.b) : ([x.a, x.b].filter neB).Perm (tellF x 0 ++ [winR x].filter neB) := by
  unfold tellF tellN winR
  rw [if_pos rfl]
  by_cases ha : x.a = []
  · by_cases hb : x.b = []
    · by_cases h1 : x.w = 1 <;> by_cases h2 : x.w = 2 <;> simp [ha, hb, h1, h2, neB, List.filter_cons]
    · by_cases h1 : x.w = 1 <;> by_cases h2 : x.w = 2 <;> simp [ha, hb, h1, h2, neB, List.filter_cons]
  · have hab := h ha
    have hba : ¬ x.b = x.a := fun e => hab e.symm
    by_cases hb : x.b = []
    · by_cases h1 : x.w = 1 <;> by_cases h2 : x.w = 2 <;> simp [ha, hb, h1, h2, neB, List.filter_cons]
    · by_cases h1 : x.w = 1 <;> by_cases h2 : x.w = 2 <;> simp [ha, hb, hab, hba, h1, h2, neB, List.filter_cons] <;> first | exact List.Perm.swap _ _ _ | skip
/-- Who lost in a round, and who goes on: all that were in it. -/
def lostL (r : List Rc) : List Str := r.flatMap (fun x => tellF x 0)
theorem round_names : ∀ (r : List Rc), (∀ x ∈ r, x.a ≠ [] → x.a ≠ x.b) → (namesR r).Perm (lostL r ++ (r.map winR).filter neB)
  | [], _ => List.Perm.refl _
  | x :: r, h => by
    have ih := round_names r (fun y hy => h y (by simp [hy]))
    have hx := race_names (h x (by simp))
    have e1 : namesR (x :: r) = [x.a, x.b].filter neB ++ namesR r := rfl
    have e2 : lostL (x :: r) = tellF x 0 ++ lostL r := rfl
    have e3 : ((x :: r).map winR).filter neB = [winR x].filter neB ++ (r.map winR).filter neB := by
      rw [List.map_cons, show winR x :: r.map winR = [winR x] ++ r.map winR from rfl, List.filter_append]
    rw [e1, e2, e3]
    refine (hx.append ih).trans ?_
    rw [List.append_assoc, List.append_assoc]
    refine List.Perm.append_left _ ?_
    rw [← List.append_assoc, ← List.append_assoc]
    exact List.Perm.append_right _ List.perm_append_comm
theorem names_key {m l : List Rc} (h : m.map keyR = l.map keyR) : namesR m = namesR l := by
  have e : ∀ r : List Rc, namesR r = (r.map keyR).flatMap (fun p => [p.1, p.2].filter neB) := by
    intro r
    rw [List.flatMap_map]
    rfl
  rw [e, e, h]
/-- All names of the first round: the lost ones of all rounds, and who wins. -/
theorem chain_names : ∀ (L : List (List Rc)) (p : List Rc) (x : Rc), Chain (p :: L) → (p :: L).getLast? = some [x] → (namesR p).Perm ((p :: L).flatMap lostL ++ [winR x].filter neB)
  | [], p, x, h, hx => by
    simp at hx
    subst hx
    have := round_names [x] (races_differ h)
    simpa using this
  | s :: L, p, x, h, hx => by
    obtain ⟨h1, h2, h3, h4, h5⟩ := h
    have ih := chain_names L s x h5 (by simpa using hx)
    have hr := round_names p (races_differ h1)
    have hp : p.length = 2 ∨ p.length = 4 ∨ p.length = 8 ∨ p.length = 16 ∨ p.length = 32 := by
      unfold racesE at h1
      split at h1
      · omega
      · cases h1
    have hn : namesR s = (p.map winR).filter neB := by
      rw [names_key h4]
      exact pairsL_names _ _ (Nat.le_refl _) (by rw [List.length_map]; omega)
    rw [← hn] at hr
    refine hr.trans ?_
    rw [List.flatMap_cons, List.append_assoc]
    exact List.Perm.append_left _ ih
end LM.G6
namespace LM.G6
open Go LM
theorem items_names (r : List Rc) : (itemsS r).map (·.n) = lostL r := by
  unfold itemsS lostL
  rw [List.map_map]
  exact List.map_id _
theorem places_names (L : List (List Rc)) (x : Rc) : ((placesS L x).map (·.n)).Perm (L.flatMap lostL ++ [winR x].filter neB) := by
  have hw : (winP x).map (·.n) = [winR x].filter neB := by
    unfold winP
    by_cases h : winR x = [] <;> simp [h, neB, List.filter_cons]
  have hl : (L.reverse.flatMap itemsS).map (·.n) = L.reverse.flatMap lostL := by
    rw [List.map_flatMap]
    congr 1
    funext r
    exact items_names r
  unfold placesS
  rw [List.map_append, hw, hl]
  refine List.perm_append_comm.trans ?_
  exact List.Perm.append_right _ (List.Perm.flatMap_right _ (List.reverse_perm L))
theorem chain_places {L : List (List Rc)} {p : List Rc} {x : Rc} (h : Chain (p :: L)) (hx : (p :: L).getLast? = some [x]) : ((placesS (p :: L) x).map (·.n)).Perm (namesR p) :=
  (places_names _ x).trans (chain_names L p x h hx).symm
/-- Who lost a race has the place of the round. -/
theorem lost_in {r : List Rc} {x : Rc} (hx : x ∈ r) {nm : Str} (hne : nm ≠ []) (h : (x.a = nm ∧ x.w ≠ 1) ∨ (x.b = nm ∧ x.w ≠ 2)) : (⟨nm, (r.length : Int) + 1⟩ : Pl) ∈ itemsR r := by
  unfold itemsR
  refine List.mem_flatMap.2 ⟨x, hx, ?_⟩
  unfold refX
  rw [List.mem_append]
  rcases h with ⟨h1, h2⟩ | ⟨h1, h2⟩
  · left
    unfold refA
    rw [if_pos ⟨by rw [h1]; exact hne, h2⟩]
    simp [h1]
  · right
    unfold refB
    rw [if_pos ⟨by rw [h1]; exact hne, h2⟩]
    simp [h1]
theorem lost_place {L : List (List Rc)} (hr : ∀ r ∈ L, racesE r = 0) {r : List Rc} (hm : r ∈ L) {x z : Rc} (hx : x ∈ r) {nm : Str} (hne : nm ≠ []) (h : (x.a = nm ∧ x.w ≠ 1) ∨ (x.b = nm ∧ x.w ≠ 2)) : (⟨nm, (r.length : Int) + 1⟩ : Pl) ∈ placesS L z := by
  rw [places_eq hr]
  unfold placesR
  rw [List.mem_append]
  right
  exact List.mem_flatMap.2 ⟨r, by simpa using hm, lost_in hx hne h⟩
end LM.G6
namespace LM.G6
open Go LM
theorem all_rangeQ {p : Nat → Bool} {n : Nat} (h : (List.range n).all p = true) {k : Nat} (hk : k < n) : p k = true := List.all_eq_true.1 h k (List.mem_range.2 hk)
def nzPerm (n : Nat) : Bool := ((brk n).filter (fun s => decide (s ≠ 0))).isPerm ((List.range n).map fun (k : Nat) => (k : Int) + 1)
theorem nzPerm_all : (List.range 65).all nzPerm = true := by decide +kernel
theorem filter_map_ne {f : Int → Str} : ∀ l : List Int, (∀ s ∈ l, s ≠ 0 → f s ≠ []) → f 0 = [] → (l.map f).filter neB = (l.filter (fun s => decide (s ≠ 0))).map f
  | [], _, _ => rfl
  | s :: l, h, h0 => by
    have ih := filter_map_ne l (fun t ht => h t (by simp [ht])) h0
    by_cases hs : s = 0
    · subst hs
      simp [h0, neB] at ih ⊢
      simpa [neB] using ih
    · have := h s (by simp) hs
      simp [this, hs, neB] at ih ⊢
      simpa [neB] using ih
theorem slot_ne {l : List Str} (hne : ∀ x ∈ l, x ≠ []) {s : Int} (h1 : 1 ≤ s) (h2 : s ≤ l.length) : slotF l s ∈ l := by
  unfold slotF
  rw [if_neg (by omega)]
  have : s.toNat - 1 < l.length := by omega
  rw [List.getD_eq_getElem?_getD, List.getElem?_eq_getElem this]
  simp
theorem slots_perm {l : List Str} (h1 : 1 ≤ l.length) (hn : l.length ≤ 64) (hne : ∀ x ∈ l, x ≠ []) : ((slotsL l).filter neB).Perm l := by
  unfold slotsL
  rw [List.filter_append]
  have e2 : (if l.length = 1 then [([] : Str)] else []).filter neB = [] := by split <;> rfl
  rw [e2, List.append_nil, filter_map_ne _ (fun s hs h0 => ?_) rfl]
  · have hp := all_rangeQ (k := l.length) nzPerm_all (by omega)
    unfold nzPerm at hp
    have hp := List.isPerm_iff.1 hp
    refine (hp.map (slotF l)).trans ?_
    rw [List.map_map]
    have : (List.range l.length).map (slotF l ∘ fun (k : Nat) => (k : Int) + 1) = l := by
      apply List.ext_getElem
      · simp
      · intro i h3 h4
        simp only [List.getElem_map, List.getElem_range, Function.comp]
        unfold slotF
        rw [if_neg (by omega), show ((i : Int) + 1).toNat - 1 = i from by omega]
        simp [List.getD_eq_getElem?_getD, List.getElem?_eq_getElem h4]
    rw [this]
  · rcases brk_bound h1 hn s hs with q | q
    · exact absurd q h0
    · exact hne _ (slot_ne hne q.1 q.2)
theorem slots_len {l : List Str} (h1 : 1 ≤ l.length) (hn : l.length ≤ 64) : (slotsL l).length = 2 ∨ (slotsL l).length = 4 ∨ (slotsL l).length = 8 ∨ (slotsL l).length = 16 ∨ (slotsL l).length = 32 ∨ (slotsL l).length = 64 := by
  unfold slotsL
  rw [List.length_append, List.length_map, brk_length', brkF_length]
  unfold levN
  by_cases h : l.length = 1
  · simp [h]
  · rw [if_neg h, List.length_nil, if_neg (by omega)]
    split
    · simp
    · split
      · simp
      · split
        · simp
        · split
          · simp
          · split <;> simp
theorem pairs_len : ∀ (n : Nat) (s : List Str), s.length ≤ n → (pairsL s).length = s.length / 2
  | 0, s, h => by
    have : s = [] := List.eq_nil_of_length_eq_zero (by omega)
    subst this
    rfl
  | n + 1, s, h => by
    rcases s with _ | ⟨a, _ | ⟨b, s⟩⟩
    · rfl
    · simp [pairsL]
    · have ih := pairs_len n s (by simp at h; omega)
      rw [pairsL, List.length_cons, ih]
      simp
      omega
theorem first_names {l : List Str} (h1 : 1 ≤ l.length) (hn : l.length ≤ 64) (hne : ∀ x ∈ l, x ≠ []) : (namesR (racesL l)).Perm l := by
  unfold racesL
  have hl := slots_len h1 hn
  rw [pairsL_names _ _ (Nat.le_refl _) (by omega)]
  exact slots_perm h1 hn hne
theorem once_zero {pre : List Str} {s : Str} (h : once pre s = 0) : isName s = true ∧ s ∉ pre := by
  rw [once_eq] at h
  split at h
  · cases h
  · rename_i h1
    split at h
    · cases h
    · rename_i h2
      refine ⟨by simpa using h1, fun hm => h2 ?_⟩
      rw [List.any_eq_true]
      exact ⟨s, hm, by simp [Str.is]⟩
theorem once_all : ∀ (l pre : List Str), eachE once pre l = 0 → pre.Nodup → (pre ++ l).Nodup ∧ ∀ x ∈ l, isName x = true
  | [], pre, _, h => ⟨by simpa using h, by simp⟩
  | x :: l, pre, h, hn => by
    rw [eachE] at h
    split at h
    · rename_i q; exact absurd h q
    · rename_i q
      have q : once pre x = 0 := by simpa using q
      obtain ⟨q1, q2⟩ := once_zero q
      have h1 : (pre ++ [x]).Nodup := by
        rw [List.nodup_append]
        refine ⟨hn, by simp, ?_⟩
        intro a ha b hb e
        simp at hb
        subst hb
        subst e
        exact q2 ha
      obtain ⟨r1, r2⟩ := once_all l (pre ++ [x]) h h1
      refine ⟨by simpa using r1, ?_⟩
      intro y hy
      rcases List.mem_cons.1 hy with rfl | hy
      · exact q1
      · exact r2 y hy
theorem names_ok {l : List Str} (h : namesE l = 0) : 1 ≤ l.length ∧ l.length ≤ 64 ∧ l.Nodup ∧ (∀ x ∈ l, isName x = true) ∧ ∀ x ∈ l, x ≠ [] := by
  unfold namesE at h
  split at h
  · cases h
  · split at h
    · cases h
    · rename_i h0 h1
      obtain ⟨a, b⟩ := once_all l [] h (by simp)
      refine ⟨by omega, by omega, by simpa using a, b, ?_⟩
      intro x hx e
      have := b x hx
      rw [e] at this
      exact absurd this (by decide)
theorem first_good {l : List Str} (h : namesE l = 0) : racesE (racesL l) = 0 := by
  obtain ⟨h1, hn, hd, hi, hne⟩ := names_ok h
  have hl := slots_len h1 hn
  have hp := pairs_len _ (slotsL l) (Nat.le_refl _)
  unfold racesE
  rw [if_pos (by unfold racesL; omega)]
  unfold racesL
  refine pairs_good _ _ [] (Nat.le_refl _) ?_ ?_
  · intro x hx hx0
    have : x ∈ (slotsL l).filter neB := by
      rw [List.mem_filter]
      exact ⟨hx, by simp [neB, hx0]⟩
    exact hi x ((slots_perm h1 hn hne).mem_iff.1 this)
  · have : (namesR [] ++ (slotsL l).filter (fun x => decide (x ≠ []))) = (slotsL l).filter neB := rfl
    rw [this]
    exact (slots_perm h1 hn hne).nodup_iff.2 hd
end LM.G6
namespace LM.G6
open Go LM
/-- The place of a name in a list, or how many there are. -/
def seedN : List Str → Str → Nat
  | [], _ => 0
  | x :: l, s => if x = s then 0 else seedN l s + 1
/-- Who wins by the seeds. -/
def betW (names : List Str) (x : Rc) : Int := if seedN names x.b < seedN names x.a then 2 else 1
/-- Who wins by the numbers, or by the seeds. -/
def decX (names : List Str) (d : Nat) (x : Rc) : Rc := ⟨x.a, x.b, if 0 < d then (d : Int) else betW names x⟩
def fixL (names : List Str) (dec : List Nat) : List Rc → Nat → Bool → List Rc × Nat × Bool
  | [], k, b => ([], k, b)
  | x :: l, k, b => if x.w ≠ 0 then (x :: (fixL names dec l k b).1, (fixL names dec l k b).2)
    else (decX names (dec.getD k 0 % 4) x :: (fixL names dec l (k + 1) (b && decide (dec.getD k 0 % 4 = 0))).1, (fixL names dec l (k + 1) (b && decide (dec.getD k 0 % 4 = 0))).2)
theorem fix_len (names : List Str) (dec : List Nat) : ∀ (l : List Rc) (k : Nat) (b : Bool), (fixL names dec l k b).1.length = l.length
  | [], _, _ => rfl
  | x :: l, k, b => by
    rw [fixL]
    split
    · rw [List.length_cons, fix_len names dec l, List.length_cons]
    · rw [List.length_cons, fix_len names dec l, List.length_cons]
theorem fix_key (names : List Str) (dec : List Nat) : ∀ (l : List Rc) (k : Nat) (b : Bool), (fixL names dec l k b).1.map keyR = l.map keyR
  | [], _, _ => rfl
  | x :: l, k, b => by
    rw [fixL]
    split
    · rw [List.map_cons, fix_key names dec l, List.map_cons]
    · rw [List.map_cons, fix_key names dec l, List.map_cons]
      rfl
theorem decX_w (names : List Str) {d : Nat} (hd : d < 4) (x : Rc) : 1 ≤ (decX names d x).w ∧ (decX names d x).w ≤ 3 := by
  unfold decX betW
  simp only
  split
  · omega
  · split <;> omega
theorem fix_open (names : List Str) (dec : List Nat) : ∀ (l : List Rc) (k : Nat) (b : Bool), (fixL names dec l k b).1.any Rc.opn = false
  | [], _, _ => rfl
  | x :: l, k, b => by
    rw [fixL]
    split
    · rename_i h
      rw [List.any_cons, fix_open names dec l]
      simp [Rc.opn, h]
    · rw [List.any_cons, fix_open names dec l]
      have := decX_w names (Nat.mod_lt (dec.getD k 0) (show 0 < 4 by decide)) x
      unfold Rc.opn
      rw [decide_eq_false (by omega)]
      rfl
theorem rc_fix {pre qre : List Rc} {x : Rc} {w : Int} (he : namesR pre = namesR qre) (h : rcE pre x = 0) (hw : x.w = 0) (h1 : 1 ≤ w) (h3 : w ≤ 3) : rcE qre ⟨x.a, x.b, w⟩ = 0 := by
  unfold rcE at h ⊢
  rw [he] at h
  split at h
  · cases h
  · rename_i g1
    split at h
    · cases h
    · rename_i g2
      split at h
      · cases h
      · split at h
        · cases h
        · rename_i g4
          rw [if_neg (by exact g1), if_neg (by exact g2)]
          have ho : outside w 0 3 = false := by unfold outside; simp; omega
          rw [hw] at g4
          have hv : decide (0 < walkV x.a x.b) = false := by
            by_cases hv : 0 < walkV x.a x.b
            · exfalso
              apply g4
              simp [hv]
              omega
            · simp [hv]
          simp [ho, hv]
theorem fix_good (names : List Str) (dec : List Nat) : ∀ (l : List Rc) (k : Nat) (b : Bool) (pre qre : List Rc), pre.map keyR = qre.map keyR → eachE rcE pre l = 0 → eachE rcE qre (fixL names dec l k b).1 = 0
  | [], _, _, _, _, _, _ => rfl
  | x :: l, k, b, pre, qre, he, h => by
    rw [eachE] at h
    split at h
    · rename_i q; exact absurd h q
    · rename_i q
      have q : rcE pre x = 0 := by simpa using q
      have hn : namesR pre = namesR qre := names_key he
      rw [fixL]
      split
      · have ih := fix_good names dec l k b (pre ++ [x]) (qre ++ [x]) (by rw [List.map_append, List.map_append, he]) h
        have q2 : rcE qre x = 0 := by
          unfold rcE at q ⊢
          rw [← hn]
          exact q
        rw [eachE, q2]
        simpa using ih
      · rename_i hw
        have hw : x.w = 0 := by simpa using hw
        have hd := decX_w names (Nat.mod_lt (dec.getD k 0) (show 0 < 4 by decide)) x
        have ih := fix_good names dec l (k + 1) (b && decide (dec.getD k 0 % 4 = 0)) (pre ++ [x]) (qre ++ [decX names (dec.getD k 0 % 4) x]) (by rw [List.map_append, List.map_append, he]; rfl) h
        have q2 : rcE qre (decX names (dec.getD k 0 % 4) x) = 0 := rc_fix hn q hw hd.1 hd.2
        rw [eachE, q2]
        simpa using ih
theorem fix_races {names : List Str} {dec : List Nat} {l : List Rc} {k : Nat} {b : Bool} (h : racesE l = 0) : racesE (fixL names dec l k b).1 = 0 := by
  unfold racesE at h ⊢
  rw [fix_len]
  split at h
  · rename_i hp
    rw [if_pos hp]
    exact fix_good names dec l k b [] [] rfl h
  · cases h
/-- The rounds. -/
def runsL (names : List Str) (dec : List Nat) : Nat → List Rc → Nat → Bool → List (List Rc)
  | 0, _, _, _ => []
  | f + 1, l, k, b => if (fixL names dec l k b).1.length = 1 then [(fixL names dec l k b).1]
    else (fixL names dec l k b).1 :: runsL names dec f (nextL (fixL names dec l k b).1) (fixL names dec l k b).2.1 (fixL names dec l k b).2.2
/-- Have all races been decided by the seeds? -/
def runsB (names : List Str) (dec : List Nat) : Nat → List Rc → Nat → Bool → Bool
  | 0, _, _, b => b
  | f + 1, l, k, b => if (fixL names dec l k b).1.length = 1 then (fixL names dec l k b).2.2
    else runsB names dec f (nextL (fixL names dec l k b).1) (fixL names dec l k b).2.1 (fixL names dec l k b).2.2
theorem runs_chain (names : List Str) (dec : List Nat) : ∀ (f : Nat) (l : List Rc) (k : Nat) (b : Bool), racesE l = 0 → l.length < 2 ^ f → ∃ p L x, runsL names dec f l k b = p :: L ∧ Chain (p :: L) ∧ p.map keyR = l.map keyR ∧ (p :: L).length ≤ f ∧ (p :: L).getLast? = some [x] ∧ x.w ≠ 0
  | 0, l, k, b, h, hl => by
    exfalso
    unfold racesE at h
    split at h
    · omega
    · cases h
  | f + 1, l, k, b, h, hl => by
    have hr := fix_races (names := names) (dec := dec) (k := k) (b := b) h
    have ho := fix_open names dec l k b
    have hk := fix_key names dec l k b
    have hlen := fix_len names dec l k b
    rw [runsL]
    generalize fixL names dec l k b = q at *
    by_cases h1 : q.1.length = 1
    · rw [if_pos h1]
      obtain ⟨x, hx⟩ := List.length_eq_one_iff.1 h1
      refine ⟨q.1, [], x, rfl, hr, hk, by simp, by simp [hx], ?_⟩
      rw [hx] at ho
      simpa [Rc.opn] using ho
    · rw [if_neg h1]
      have hg := next_good hr h1
      have hn := nextL_len q.1
      have hpow : l.length ≤ 2 ^ f * 2 := by
        have : 2 ^ (f + 1) = 2 ^ f * 2 := Nat.pow_succ 2 f
        omega
      obtain ⟨p, L, x, e, hc, hpk, hle, hlast, hx⟩ := runs_chain names dec f (nextL q.1) q.2.1 q.2.2 hg (by
        have : 2 ^ (f + 1) = 2 ^ f * 2 := Nat.pow_succ 2 f
        omega)
      rw [e]
      refine ⟨q.1, p :: L, x, rfl, ⟨hr, ho, h1, hpk, hc⟩, hk, by simp at hle ⊢; omega, by simpa using hlast, hx⟩
end LM.G6
namespace LM.G6
open Go LM
theorem chain_shorter : ∀ (L : List (List Rc)) (p : List Rc), Chain (p :: L) → ∀ r ∈ L, r.length ≤ p.length
  | [], _, _, r, hr => by cases hr
  | s :: L, p, h, r, hr => by
    obtain ⟨h1, h2, h3, h4, h5⟩ := h
    have hl : s.length = (nextL p).length := by have := congrArg List.length h4; simpa using this
    have hn := nextL_len p
    rcases List.mem_cons.1 hr with rfl | hr
    · omega
    · have := chain_shorter L s h5 r hr
      omega
theorem chain_good : ∀ (L : List (List Rc)) (p : List Rc), Chain (p :: L) → ∀ r ∈ p :: L, racesE r = 0
  | [], p, h, r, hr => by
    simp at hr
    subst hr
    exact h
  | s :: L, p, h, r, hr => by
    obtain ⟨h1, h2, h3, h4, h5⟩ := h
    rcases List.mem_cons.1 hr with rfl | hr
    · exact h1
    · exact chain_good L s h5 r hr
theorem good_pos {r : List Rc} (h : racesE r = 0) : 1 ≤ r.length ∧ r.length ≤ 32 := by
  unfold racesE at h
  split at h
  · omega
  · cases h
theorem items_mem {r : List Rc} {q : Pl} (h : q ∈ itemsS r) : q.p = (r.length : Int) + 1 := by
  unfold itemsS at h
  obtain ⟨nm, _, rfl⟩ := List.mem_map.1 h
  rfl
theorem items_up (r : List Rc) : (itemsS r).Pairwise (fun a b => a.p ≤ b.p) := by
  refine List.pairwise_of_forall_mem_list ?_
  intro a ha b hb
  rw [items_mem ha, items_mem hb]
  omega
theorem chain_up : ∀ (L : List (List Rc)) (p : List Rc), Chain (p :: L) → ((p :: L).reverse.flatMap itemsS).Pairwise (fun a b => a.p ≤ b.p)
  | [], p, h => by simpa using items_up p
  | s :: L, p, h => by
    have hs := chain_shorter (s :: L) p h
    have ih := chain_up L s h.2.2.2.2
    rw [List.reverse_cons, List.flatMap_append, List.pairwise_append]
    refine ⟨ih, by simpa using items_up p, ?_⟩
    intro a ha b hb
    obtain ⟨r, hr, har⟩ := List.mem_flatMap.1 ha
    have hb' : b ∈ itemsS p := by simpa using hb
    rw [items_mem har, items_mem hb']
    have := hs r (List.mem_reverse.1 hr)
    omega
theorem rest_two {L : List (List Rc)} {p : List Rc} (h : Chain (p :: L)) : ∀ q ∈ (p :: L).reverse.flatMap itemsS, 2 ≤ q.p := by
  intro q hq
  obtain ⟨r, hr, hqr⟩ := List.mem_flatMap.1 hq
  have := good_pos (chain_good L p h r (List.mem_reverse.1 hr))
  rw [items_mem hqr]
  omega
/-- The places ascend. -/
theorem places_up {L : List (List Rc)} {p : List Rc} (h : Chain (p :: L)) (x : Rc) : (placesS (p :: L) x).Pairwise (fun a b => a.p ≤ b.p) := by
  unfold placesS
  rw [List.pairwise_append]
  refine ⟨?_, chain_up L p h, ?_⟩
  · unfold winP
    split <;> simp
  · intro a ha b hb
    have hb2 := rest_two h b hb
    unfold winP at ha
    split at ha
    · cases ha
    · simp at ha
      subst ha
      simp only
      omega
/-- The first place is that of the first of the list alone. -/
theorem places_one {L : List (List Rc)} {p : List Rc} (h : Chain (p :: L)) (x : Rc) {i : Nat} {q : Pl} (hi : (placesS (p :: L) x)[i]? = some q) (h0 : 0 < i) : 2 ≤ q.p := by
  unfold placesS at hi
  unfold winP at hi
  split at hi
  · exact rest_two h q (List.mem_of_getElem? hi)
  · rw [List.getElem?_append_right (by simp; omega)] at hi
    exact rest_two h q (List.mem_of_getElem? hi)
theorem names_inj : ∀ {Z : List Pl}, (Z.map (·.n)).Nodup → ∀ {a b : Pl}, a ∈ Z → b ∈ Z → a.n = b.n → a = b
  | [], _, a, _, ha, _, _ => by cases ha
  | z :: Z, h, a, b, ha, hb, e => by
    rw [List.map_cons, List.nodup_cons] at h
    have key : ∀ c ∈ Z, z.n ≠ c.n := fun c hc e => h.1 (e ▸ List.mem_map.2 ⟨c, hc, rfl⟩)
    rcases List.mem_cons.1 ha with ha2 | ha2
    · rcases List.mem_cons.1 hb with hb2 | hb2
      · rw [ha2, hb2]
      · exact absurd (ha2 ▸ e) (key b hb2)
    · rcases List.mem_cons.1 hb with hb2 | hb2
      · exact absurd (hb2 ▸ e.symm) (key a ha2)
      · exact names_inj h.2 ha2 hb2 e
/-- Has the name lost the race? -/
def lostB (x : Rc) (nm : Str) : Bool := (decide (x.a = nm) && decide (x.w ≠ 1)) || (decide (x.b = nm) && decide (x.w ≠ 2))
/-- What the statement says of the places Z of the rounds L: by index. -/
structure Titles (names : List Str) (L : List (List Rc)) (Z : List Pl) : Prop where
  len : Z.length = names.length
  nodup : (Z.map (·.n)).Nodup
  mem : ∀ q ∈ Z, q.n ∈ names
  up : Z.Pairwise (fun a b => a.p ≤ b.p)
  one : ∀ (i : Nat) (q : Pl), Z[i]? = some q → 0 < i → q.p ≠ 1
  lost : ∀ q ∈ Z, ∀ r ∈ L, ∀ x ∈ r, lostB x q.n = true → q.p ≠ 1 ∧ q.p = (r.length : Int) + 1
theorem titles {names : List Str} {L : List (List Rc)} {p : List Rc} {x : Rc} (hN : namesE names = 0) (h : Chain (p :: L)) (hx : (p :: L).getLast? = some [x]) (hk : p.map keyR = (racesL names).map keyR) : Titles names (p :: L) (placesS (p :: L) x) := by
  obtain ⟨h1, hn, hd, hi, hne⟩ := names_ok hN
  have hp : ((placesS (p :: L) x).map (·.n)).Perm names := (chain_places h hx).trans ((List.Perm.of_eq (names_key hk)).trans (first_names h1 hn hne))
  have hnd := hp.nodup_iff.2 hd
  have hmem : ∀ q ∈ placesS (p :: L) x, q.n ∈ names := fun q hq => hp.mem_iff.1 (List.mem_map.2 ⟨q, hq, rfl⟩)
  refine ⟨by simpa using hp.length_eq, hnd, hmem, places_up h x, ?_, ?_⟩
  · intro i q hq h0
    have := places_one h x hq h0
    omega
  · intro q hq r hr y hy hl
    have hgood := chain_good L p h
    have hqn := hne _ (hmem q hq)
    have hin := lost_place (z := x) hgood hr hy hqn (by
      unfold lostB at hl
      simp only [Bool.or_eq_true, Bool.and_eq_true, decide_eq_true_eq] at hl
      exact hl)
    have e := names_inj hnd hq hin rfl
    have := good_pos (hgood r hr)
    have ep : q.p = (r.length : Int) + 1 := congrArg Pl.p e
    omega
end LM.G6
namespace LM.G6
open Go LM
def betX (names : List Str) (x : Rc) : Rc := if x.w ≠ 0 then x else ⟨x.a, x.b, betW names x⟩
theorem fix_better (names : List Str) (dec : List Nat) : ∀ (l : List Rc) (k : Nat) (b : Bool), (fixL names dec l k b).2.2 = true → b = true ∧ (fixL names dec l k b).1 = l.map (betX names)
  | [], _, b, h => ⟨h, rfl⟩
  | x :: l, k, b, h => by
    rw [fixL] at h ⊢
    by_cases hw : x.w ≠ 0
    · rw [if_pos hw] at h ⊢
      obtain ⟨h1, h2⟩ := fix_better names dec l k b h
      refine ⟨h1, ?_⟩
      simp only
      rw [h2, List.map_cons, betX, if_pos hw]
    · rw [if_neg hw] at h ⊢
      obtain ⟨h1, h2⟩ := fix_better names dec l (k + 1) _ h
      rw [Bool.and_eq_true, decide_eq_true_eq] at h1
      refine ⟨h1.1, ?_⟩
      simp only
      rw [h2, h1.2, List.map_cons, betX, if_neg hw]
      rfl
def betL (names : List Str) : Nat → List Rc → List (List Rc)
  | 0, _ => []
  | f + 1, l => if (l.map (betX names)).length = 1 then [l.map (betX names)] else l.map (betX names) :: betL names f (nextL (l.map (betX names)))
theorem runs_better (names : List Str) (dec : List Nat) : ∀ (f : Nat) (l : List Rc) (k : Nat) (b : Bool), runsB names dec f l k b = true → b = true ∧ runsL names dec f l k b = betL names f l
  | 0, _, _, b, h => ⟨h, rfl⟩
  | f + 1, l, k, b, h => by
    rw [runsB] at h
    rw [runsL, betL]
    have hf := fix_better names dec l k b
    generalize fixL names dec l k b = q at *
    by_cases h1 : q.1.length = 1
    · rw [if_pos h1] at h ⊢
      obtain ⟨e1, e2⟩ := hf h
      rw [e2] at h1
      rw [if_pos h1]
      exact ⟨e1, by rw [e2]⟩
    · rw [if_neg h1] at h ⊢
      obtain ⟨e1, e2⟩ := runs_better names dec f _ _ _ h
      obtain ⟨e3, e4⟩ := hf e1
      rw [e4] at h1
      rw [if_neg h1]
      exact ⟨e3, by rw [e2, e4]⟩
/-- Names A and B of one length, each name once. -/
structure Twin (A B : List Str) : Prop where
  len : A.length = B.length
  a : A.Nodup
  b : B.Nodup
  na : ([] : Str) ∉ A
  nb : ([] : Str) ∉ B
def phi (A B : List Str) (s : Str) : Str := if s = [] then [] else B.getD (seedN A s) []
theorem seed_mem : ∀ {A : List Str} {s : Str}, s ∈ A → ∃ h : seedN A s < A.length, A[seedN A s] = s
  | [], s, h => by cases h
  | x :: A, s, h => by
    by_cases e : x = s
    · subst e
      have : seedN (x :: A) x = 0 := by rw [seedN, if_pos rfl]
      exact ⟨by rw [this]; simp, by simp [this]⟩
    · have hs : s ∈ A := by
        rcases List.mem_cons.1 h with q | q
        · exact absurd q.symm e
        · exact q
      obtain ⟨h1, h2⟩ := seed_mem hs
      have : seedN (x :: A) s = seedN A s + 1 := by rw [seedN, if_neg e]
      exact ⟨by rw [this]; simp; exact h1, by simp [this, h2]⟩
theorem seed_at : ∀ {A : List Str}, A.Nodup → ∀ (k : Nat) (h : k < A.length), seedN A A[k] = k
  | [], _, k, h => by simp at h
  | x :: A, hd, k, h => by
    rw [List.nodup_cons] at hd
    cases k with
    | zero => simp [seedN]
    | succ k =>
      have hk : k < A.length := by simpa using h
      have ih := seed_at hd.2 k hk
      have : x ≠ A[k] := fun e => hd.1 (by rw [e]; exact List.getElem_mem hk)
      simp only [List.getElem_cons_succ]
      rw [seedN, if_neg this, ih]
variable {A B : List Str}
theorem phi_nil : phi A B [] = [] := if_pos rfl
theorem phi_at (T : Twin A B) (k : Nat) (h : k < A.length) : phi A B A[k] = B[k]'(by rw [← T.len]; exact h) := by
  unfold phi
  have hne : A[k] ≠ [] := fun e => T.na (by rw [← e]; exact List.getElem_mem h)
  rw [if_neg hne, seed_at T.a k h, List.getD_eq_getElem?_getD, List.getElem?_eq_getElem (by rw [← T.len]; exact h)]
  rfl
theorem phi_mem (T : Twin A B) {s : Str} (h : s ∈ A) : phi A B s ∈ B ∧ seedN B (phi A B s) = seedN A s := by
  obtain ⟨h1, h2⟩ := seed_mem h
  have h3 := phi_at T (seedN A s) h1
  rw [h2] at h3
  rw [h3]
  exact ⟨List.getElem_mem _, seed_at T.b _ _⟩
theorem phi_ne (T : Twin A B) {s : Str} (h : s ∈ A) : phi A B s ≠ [] := fun e => T.nb (by rw [← e]; exact (phi_mem T h).1)
theorem phi_inj (T : Twin A B) {s t : Str} (hs : s ∈ A) (ht : t ∈ A) (e : phi A B s = phi A B t) : s = t := by
  have e1 := (phi_mem T hs).2
  have e2 := (phi_mem T ht).2
  rw [e, e2] at e1
  obtain ⟨h1, h2⟩ := seed_mem hs
  obtain ⟨h3, h4⟩ := seed_mem ht
  rw [← h2, ← h4]
  simp only [e1]
def oneOf (A : List Str) (s : Str) : Prop := s = [] ∨ s ∈ A
theorem phi_zero (T : Twin A B) {s : Str} (h : oneOf A s) : phi A B s = [] ↔ s = [] := by
  rcases h with rfl | h
  · simp [phi_nil]
  · constructor
    · intro e; exact absurd e (phi_ne T h)
    · rintro rfl; exact absurd h T.na
theorem phi_eq (T : Twin A B) {s t : Str} (hs : oneOf A s) (ht : oneOf A t) : phi A B s = phi A B t ↔ s = t := by
  constructor
  · intro e
    rcases hs with rfl | hs
    · rw [phi_nil] at e
      exact ((phi_zero T ht).1 e.symm).symm
    · rcases ht with rfl | ht
      · rw [phi_nil] at e
        exact absurd e (phi_ne T hs)
      · exact phi_inj T hs ht e
  · rintro rfl; rfl
def mapR (f : Str → Str) (x : Rc) : Rc := ⟨f x.a, f x.b, x.w⟩
def inA (A : List Str) (x : Rc) : Prop := oneOf A x.a ∧ oneOf A x.b ∧ (x.w = 0 → x.a ≠ [] ∧ x.b ≠ [])
theorem bet_map (T : Twin A B) {x : Rc} (h : inA A x) : betX B (mapR (phi A B) x) = mapR (phi A B) (betX A x) := by
  obtain ⟨h1, h2, h3⟩ := h
  unfold betX mapR
  by_cases hw : x.w ≠ 0
  · simp [hw]
  · simp only [hw, if_false]
    have hw : x.w = 0 := by simpa using hw
    obtain ⟨ha, hb⟩ := h3 hw
    have ha' : x.a ∈ A := h1.resolve_left ha
    have hb' : x.b ∈ A := h2.resolve_left hb
    unfold betW
    simp only [(phi_mem T ha').2, (phi_mem T hb').2]
theorem bet_in {x : Rc} (h : inA A x) : inA A (betX A x) ∧ (betX A x).w ≠ 0 := by
  obtain ⟨h1, h2, h3⟩ := h
  unfold betX
  by_cases hw : x.w ≠ 0
  · rw [if_pos hw]
    exact ⟨⟨h1, h2, h3⟩, hw⟩
  · rw [if_neg hw]
    have : betW A x ≠ 0 := by unfold betW; split <;> decide
    exact ⟨⟨h1, h2, fun e => absurd e this⟩, this⟩
theorem win_map (f : Str → Str) (hf : f [] = []) (x : Rc) : winR (mapR f x) = f (winR x) := by
  unfold winR mapR
  simp only
  split
  · rfl
  · split
    · rfl
    · exact hf.symm
theorem win_in {x : Rc} (h : inA A x) : oneOf A (winR x) := by
  unfold winR
  split
  · exact h.1
  · split
    · exact h.2.1
    · exact .inl rfl
theorem pairs_map (T : Twin A B) : ∀ (n : Nat) (s : List Str), s.length ≤ n → (∀ y ∈ s, oneOf A y) → pairsL (s.map (phi A B)) = (pairsL s).map (mapR (phi A B)) ∧ ∀ x ∈ pairsL s, inA A x
  | 0, s, h, _ => by
    have : s = [] := List.eq_nil_of_length_eq_zero (by omega)
    subst this
    exact ⟨rfl, by simp [pairsL]⟩
  | n + 1, s, h, hs => by
    rcases s with _ | ⟨a, _ | ⟨b, s⟩⟩
    · exact ⟨rfl, by simp [pairsL]⟩
    · exact ⟨rfl, by simp [pairsL]⟩
    · obtain ⟨i1, i2⟩ := pairs_map T n s (by simp at h; omega) (fun y hy => hs y (by simp [hy]))
      have ha := hs a (by simp)
      have hb := hs b (by simp)
      have hwk : walkV (phi A B a) (phi A B b) = walkV a b := by
        unfold walkV
        simp only [phi_zero T ha, phi_zero T hb]
      constructor
      · simp only [List.map_cons, pairsL, i1]
        congr 1
        unfold decR mapR
        rw [hwk]
      · intro x hx
        rw [pairsL] at hx
        rcases List.mem_cons.1 hx with rfl | hx
        · refine ⟨ha, hb, ?_⟩
          unfold decR walkV
          simp only
          split
          · intro e; exact absurd e (by decide)
          · split
            · intro e; exact absurd e (by decide)
            · split
              · intro e; exact absurd e (by decide)
              · rename_i q1 q2 q3
                intro _
                exact ⟨q3, q2⟩
        · exact i2 x hx
theorem bets_map (T : Twin A B) {l : List Rc} (h : ∀ x ∈ l, inA A x) : (l.map (mapR (phi A B))).map (betX B) = (l.map (betX A)).map (mapR (phi A B)) := by
  rw [List.map_map, List.map_map]
  apply List.map_congr_left
  intro x hx
  exact bet_map T (h x hx)
theorem next_map (T : Twin A B) {l : List Rc} (h : ∀ x ∈ l, inA A x) : nextL (l.map (mapR (phi A B))) = (nextL l).map (mapR (phi A B)) ∧ ∀ x ∈ nextL l, inA A x := by
  unfold nextL
  have e : (l.map (mapR (phi A B))).map winR = (l.map winR).map (phi A B) := by
    rw [List.map_map, List.map_map]
    apply List.map_congr_left
    intro x _
    exact win_map _ phi_nil x
  rw [e]
  refine pairs_map T _ _ (Nat.le_refl _) ?_
  intro y hy
  obtain ⟨x, hx, rfl⟩ := List.mem_map.1 hy
  exact win_in (h x hx)
theorem betL_map (T : Twin A B) : ∀ (f : Nat) (l : List Rc), (∀ x ∈ l, inA A x) → betL B f (l.map (mapR (phi A B))) = (betL A f l).map (List.map (mapR (phi A B))) ∧ ∀ r ∈ betL A f l, ∀ x ∈ r, inA A x
  | 0, _, _ => ⟨rfl, by simp [betL]⟩
  | f + 1, l, h => by
    have hb : ∀ x ∈ l.map (betX A), inA A x := by
      intro y hy
      obtain ⟨x, hx, rfl⟩ := List.mem_map.1 hy
      exact (bet_in (h x hx)).1
    obtain ⟨n1, n2⟩ := next_map T hb
    obtain ⟨i1, i2⟩ := betL_map T f _ n2
    rw [betL, betL, bets_map T h]
    simp only [List.length_map] at *
    by_cases h1 : l.length = 1
    · simp only [h1, if_true, List.map_cons, List.map_nil]
      refine ⟨trivial, ?_⟩
      intro r hr
      simp at hr
      subst hr
      exact hb
    · simp only [h1, if_false, List.map_cons]
      rw [n1, i1]
      refine ⟨rfl, ?_⟩
      intro r hr
      rcases List.mem_cons.1 hr with rfl | hr
      · exact hb
      · exact i2 r hr
def mapP (f : Str → Str) (q : Pl) : Pl := ⟨f q.n, q.p⟩
theorem tell_map (T : Twin A B) {x : Rc} (h : inA A x) : tellF (mapR (phi A B) x) 0 = (tellF x 0).map (phi A B) := by
  have hw := win_in h
  have key : ∀ s, oneOf A s → tellN (mapR (phi A B) x) (phi A B s) = (tellN x s).map (phi A B) := by
    intro s hs
    unfold tellN
    rw [win_map _ phi_nil]
    simp only [phi_zero T hs, phi_eq T hs hw]
    split <;> rfl
  unfold tellF
  rw [if_pos rfl, if_pos rfl, List.map_append]
  rw [show (mapR (phi A B) x).a = phi A B x.a from rfl, show (mapR (phi A B) x).b = phi A B x.b from rfl, key _ h.1, key _ h.2.1]
theorem items_map (T : Twin A B) {r : List Rc} (h : ∀ x ∈ r, inA A x) : itemsS (r.map (mapR (phi A B))) = (itemsS r).map (mapP (phi A B)) := by
  unfold itemsS
  rw [List.length_map, List.map_map]
  have : (r.map (mapR (phi A B))).flatMap (fun x => tellF x 0) = (r.flatMap (fun x => tellF x 0)).map (phi A B) := by
    induction r with
    | nil => rfl
    | cons x r ih =>
      rw [List.map_cons, List.flatMap_cons, List.flatMap_cons, List.map_append, ih (fun y hy => h y (by simp [hy])), tell_map T (h x (by simp))]
  rw [this, List.map_map]
  rfl
theorem places_map (T : Twin A B) {L : List (List Rc)} (h : ∀ r ∈ L, ∀ x ∈ r, inA A x) {x : Rc} (hx : inA A x) : placesS (L.map (List.map (mapR (phi A B)))) (mapR (phi A B) x) = (placesS L x).map (mapP (phi A B)) := by
  unfold placesS
  rw [List.map_append, ← List.map_reverse]
  congr 1
  · unfold winP
    rw [win_map _ phi_nil]
    simp only [phi_zero T (win_in hx)]
    split <;> rfl
  · have : ∀ M : List (List Rc), (∀ r ∈ M, ∀ x ∈ r, inA A x) → (M.map (List.map (mapR (phi A B)))).flatMap itemsS = (M.flatMap itemsS).map (mapP (phi A B)) := by
      intro M
      induction M with
      | nil => intro _; rfl
      | cons r M ih =>
        intro hM
        rw [List.map_cons, List.flatMap_cons, List.flatMap_cons, List.map_append, ih (fun y hy => hM y (by simp [hy])), items_map T (hM r (by simp))]
    exact this _ (fun r hr => h r (by simpa using hr))
theorem slot_in {s : Int} (h : s = 0 ∨ (1 ≤ s ∧ s ≤ A.length)) : oneOf A (slotF A s) := by
  unfold slotF
  rcases h with h | h
  · exact .inl (if_pos h)
  · right
    rw [if_neg (by omega)]
    have : s.toNat - 1 < A.length := by omega
    rw [List.getD_eq_getElem?_getD, List.getElem?_eq_getElem this]
    simp
theorem slot_map (T : Twin A B) {s : Int} (h : s = 0 ∨ (1 ≤ s ∧ s ≤ A.length)) : slotF B s = phi A B (slotF A s) := by
  unfold slotF
  by_cases h0 : s = 0
  · simp [h0, phi_nil]
  · rw [if_neg h0, if_neg h0]
    have : s.toNat - 1 < A.length := by omega
    have hB : s.toNat - 1 < B.length := by rw [← T.len]; exact this
    rw [List.getD_eq_getElem?_getD, List.getD_eq_getElem?_getD, List.getElem?_eq_getElem this, List.getElem?_eq_getElem hB]
    simp only [Option.getD_some]
    exact (phi_at T _ this).symm
theorem races_map (T : Twin A B) (h1 : 1 ≤ A.length) (hn : A.length ≤ 64) : racesL B = (racesL A).map (mapR (phi A B)) ∧ ∀ x ∈ racesL A, inA A x := by
  have hb := brk_bound h1 hn
  have e : slotsL B = (slotsL A).map (phi A B) := by
    unfold slotsL
    rw [List.map_append, List.map_map, ← T.len]
    congr 1
    · apply List.map_congr_left
      intro s hs
      exact slot_map T (hb s hs)
    · split <;> simp [phi_nil]
  unfold racesL
  rw [e]
  refine pairs_map T _ _ (Nat.le_refl _) ?_
  intro y hy
  unfold slotsL at hy
  rw [List.mem_append] at hy
  rcases hy with hy | hy
  · obtain ⟨s, hs, rfl⟩ := List.mem_map.1 hy
    exact slot_in (hb s hs)
  · left
    split at hy
    · simpa using hy
    · cases hy
def nums (n : Nat) : List Str := (List.range n).map fun k => [UInt8.ofNat (k + 1)]
/-- The first places are those of the first seeds. -/
def firstB (names : List Str) (q : Pl) : Bool := (decide (q.p = 1) == decide (seedN names q.n = 0)) && (decide (q.p = 2) == decide (seedN names q.n = 1)) && (decide (q.p = 3) == (decide (seedN names q.n = 2) || decide (seedN names q.n = 3)))
def chkN (n : Nat) : Bool := match (betL (nums n) 6 (racesL (nums n))).getLast? with
  | some [x] => (placesS (betL (nums n) 6 (racesL (nums n))) x).all fun q => (nums n).contains q.n && firstB (nums n) q
  | _ => false
theorem chk_all : (List.range 33).all (fun n => n == 0 || chkN n) = true := by decide +kernel
theorem nums_ok : (List.range 33).all (fun n => decide (nums n).Nodup && !(nums n).contains []) = true := by decide +kernel
theorem better_first {names : List Str} {dec : List Nat} (hN : namesE names = 0) (h32 : names.length ≤ 32) (hb : runsB names dec 6 (racesL names) 0 true = true) {x : Rc} (hx : (runsL names dec 6 (racesL names) 0 true).getLast? = some [x]) : ∀ q ∈ placesS (runsL names dec 6 (racesL names) 0 true) x, firstB names q = true := by
  obtain ⟨h1, hn, hd, hi, hne⟩ := names_ok hN
  have hc := all_rangeQ (k := names.length) chk_all (by omega)
  have ho := all_rangeQ (k := names.length) nums_ok (by omega)
  have hlen : (nums names.length).length = names.length := by simp [nums]
  simp only [Bool.and_eq_true, decide_eq_true_eq, Bool.not_eq_true', List.contains_eq_mem, decide_eq_false_iff_not] at ho
  have T : Twin (nums names.length) names := ⟨hlen, ho.1, hd, ho.2, fun h => hne _ h rfl⟩
  have hc : chkN names.length = true := by
    rcases Bool.or_eq_true_iff.1 hc with q | q
    · have := eq_of_beq q
      omega
    · exact q
  unfold chkN at hc
  generalize nums names.length = A at *
  obtain ⟨r1, r2⟩ := races_map T (by omega) (by omega)
  obtain ⟨b1, b2⟩ := betL_map T 6 (racesL A) r2
  rw [← r1] at b1
  rw [(runs_better names dec 6 _ _ _ hb).2, b1] at hx ⊢
  split at hc
  · rename_i y hy
    rw [List.getLast?_map, hy] at hx
    simp at hx
    have hym : [y] ∈ betL A 6 (racesL A) := List.mem_of_getLast? hy
    rw [← hx, places_map T b2 (b2 _ hym y (by simp))]
    intro q hq
    obtain ⟨t, ht, rfl⟩ := List.mem_map.1 hq
    have := List.all_eq_true.1 hc t ht
    rw [Bool.and_eq_true, List.contains_eq_mem, decide_eq_true_eq] at this
    have hs := (phi_mem T this.1).2
    unfold firstB mapP
    simp only [hs]
    exact this.2
  · cases hc
end LM.G6
namespace LM.G6
open Go LM
variable {P : Nat → Option SFunc} [Has P]
theorem seedN_le : ∀ (l : List Str) (s : Str), seedN l s ≤ l.length
  | [], _ => Nat.le_refl _
  | x :: l, s => by
    have := seedN_le l s
    rw [seedN]
    split <;> simp <;> omega
theorem L80 (s : Str) : ∀ (l pre : List Str), ((pre ++ l).length : Int) < 9223372036854775807 →
    execS P (limS P) c80_l0 ⟨[.c (.slice ((pre ++ l).map CV.str)), .c (.str s), .c (ci (pre ++ l).length), .c (ci pre.length)], []⟩ =
      if seedN l s < l.length then some (.ret, ⟨[.c (ci (pre.length + seedN l s : Nat))], []⟩) else some (.exit 0, ⟨[.c (.slice ((pre ++ l).map CV.str))], []⟩) := by
  intro l
  induction l with
  | nil =>
    intro pre h
    rw [r80_l0]
    simp [c80_l0b, seedN]
  | cons x l ih =>
    intro pre h
    have ih := ih (pre ++ [x]) (by simpa using h)
    simp at ih h
    have hw : IntKind.i64.wrap (↑pre.length + 1) = ↑pre.length + 1 := wrap64 (by omega) (by omega)
    have hlt : (pre.length : Int) < pre.length + (l.length + 1) := by omega
    rw [r80_l0]
    by_cases e : x = s
    · subst e
      simp [c80_l0b, hw, hlt, seedN]
    · have e' : ¬ s = x := fun q => e q.symm
      simp [c80_l0b, hw, hlt, seedN, e, e', ih]
      have ea : (pre.length : Int) + 1 + (seedN l s : Nat) = pre.length + ((seedN l s : Nat) + 1) := by omega
      rw [ea]
theorem S80 (s : Str) (l : List Str) (h : (l.length : Int) < 9223372036854775807) : fn P 80 [.slice (l.map CV.str), .str s] = some (ci (seedN l s : Nat)) := by
  have := L80 (P := P) s l [] (by simpa using h)
  have hle := seedN_le l s
  simp at this
  rw [u80]
  by_cases hs : seedN l s < l.length
  · simp [c80, this, hs]
  · have e : seedN l s = l.length := by omega
    simp [c80, this, e]
abbrev u8C (d : Nat) : CV := .int .u8 (d : Nat)
/-- The state of a round's loop. -/
def T12 (names : List Str) (dec : List Nat) (L AL : LV) (k : Nat) (bt : Bool) (round n i : Int) : List LV := [.c (.slice (names.map CV.str)), .c (.slice (dec.map u8C)), L, AL, .c (ci k), .c (.bool bt), .c (ci round), .c (ci n), .c (ci i)]
theorem B12_skip (names : List Str) (dec : List Nat) (AL : LV) (k : Nat) (bt : Bool) (round : Int) (n i : Nat) (hi : i < n) (hn : n ≤ 64) (h : Heap) (b : Nat) (hb : b < h.length) (C : List LV) (x : Rc) (hC : h[b]? = some (.cells 1 C 0)) (h2 : C[i * 3 + 2]? = some (.c (ci x.w))) (hw0 : ¬ x.w = 0) :
    execS P (limS P) c12_l0b ⟨T12 names dec (.slice b 1 0 n (some 3) none) AL k bt round n i, h⟩ = some (.normal, ⟨T12 names dec (.slice b 1 0 n (some 3) none) AL k bt round n (i + 1), h⟩) := by
  have hw : IntKind.i64.wrap ((i : Int) + 1) = (i : Int) + 1 := wrap64 (by omega) (by omega)
  obtain ⟨hbl, hb'⟩ := List.getElem?_eq_some_iff.1 hC
  simp [T12, c12_l0b, hi, hw, hb, hC, hb', h2, hw0]
theorem B12_fix (names : List Str) (dec : List Nat) (hN : (names.length : Int) < 9223372036854775807) (AL : LV) (k : Nat) (hk : k < 1000) (bt : Bool) (round : Int) (n i : Nat) (hi : i < n) (hn : n ≤ 64) (h : Heap) (b : Nat) (hb : b < h.length) (C : List LV) (x : Rc) (hC : h[b]? = some (.cells 1 C 0)) (h0 : C[i * 3]? = some (.c (.str x.a))) (h1 : C[i * 3 + 1]? = some (.c (.str x.b))) (h2 : C[i * 3 + 2]? = some (.c (ci x.w))) (hw0 : x.w = 0) :
    execS P (limS P) c12_l0b ⟨T12 names dec (.slice b 1 0 n (some 3) none) AL k bt round n i, h⟩ = some (.normal, ⟨T12 names dec (.slice b 1 0 n (some 3) none) AL (k + 1) (bt && decide (dec.getD k 0 % 4 = 0)) round n (i + 1), h.set b (.cells 1 (C.set (i * 3 + 2) (.c (ci (decX names (dec.getD k 0 % 4) x).w))) 0)⟩) := by
  have hw : IntKind.i64.wrap ((i : Int) + 1) = (i : Int) + 1 := wrap64 (by omega) (by omega)
  have hwk : IntKind.i64.wrap ((k : Int) + 1) = (k : Int) + 1 := wrap64 (by omega) (by omega)
  obtain ⟨hbl, hb'⟩ := List.getElem?_eq_some_iff.1 hC
  have ea := S80 (P := P) x.a names hN
  have eb := S80 (P := P) x.b names hN
  have hC2 : i * 3 + 2 < C.length := (List.getElem?_eq_some_iff.1 h2).1
  have g0 : ∀ v, (C.set (i * 3 + 2) v)[i * 3]? = some (.c (.str x.a)) := fun v => by rw [List.getElem?_set_ne (by omega)]; exact h0
  have g1 : ∀ v, (C.set (i * 3 + 2) v)[i * 3 + 1]? = some (.c (.str x.b)) := fun v => by rw [List.getElem?_set_ne (by omega)]; exact h1
  have h2' := (List.getElem?_eq_some_iff.1 h2).2
  have g0' := fun v => (List.getElem?_eq_some_iff.1 (g0 v)).2
  have g1' := fun v => (List.getElem?_eq_some_iff.1 (g1 v)).2
  have hbet : ((decX names 0 x).w) = if seedN names x.b < seedN names x.a then 2 else 1 := rfl
  have hC3 : i * 3 + 2 + 1 ≤ C.length := hC2
  have hmod : ∀ d : Nat, (d : Int).tmod 4 = ((d % 4 : Nat) : Int) := fun d => by rw [Int.tmod_eq_emod_of_nonneg (by omega)]; omega
  by_cases hkd : k < dec.length
  · have hg : dec.getD k 0 = dec[k] := by rw [List.getD_eq_getElem?_getD, List.getElem?_eq_getElem hkd]; rfl
    have hm := hmod dec[k]
    have hlt := Nat.mod_lt dec[k] (show 0 < 4 by decide)
    have hwm : IntKind.i64.wrap ((dec[k] % 4 : Nat) : Int) = ((dec[k] % 4 : Nat) : Int) := wrap64 (by omega) (by omega)
    rw [hg]
    by_cases hd : dec[k] % 4 = 0
    · rw [hd] at hm ⊢
      rw [hbet]
      by_cases hs : seedN names x.b < seedN names x.a
      · simp [T12, c12_l0b, hi, hw, hwk, hb, hC, hb', h2', hw0, hC2, hC3, g0, g1, g0', g1', ea, eb, hs, hkd, hm]
      · simp [T12, c12_l0b, hi, hw, hwk, hb, hC, hb', h2', hw0, hC2, hC3, g0, g1, g0', g1', ea, eb, hs, hkd, hm]
    · have hpos : 0 < dec[k] % 4 := by omega
      have hdx : (decX names (dec[k] % 4) x).w = ((dec[k] % 4 : Nat) : Int) := if_pos hpos
      rw [hdx]
      generalize dec[k] % 4 = d at *
      have hpos' : (0 : Int) < (d : Int) := by omega
      by_cases hs : seedN names x.b < seedN names x.a
      · simp [T12, c12_l0b, hi, hw, hwk, hb, hC, hb', h2', hw0, hC2, hC3, g0, g1, g0', g1', ea, eb, hs, hkd, hm, hwm, hpos, hpos', hd]
      · simp [T12, c12_l0b, hi, hw, hwk, hb, hC, hb', h2', hw0, hC2, hC3, g0, g1, g0', g1', ea, eb, hs, hkd, hm, hwm, hpos, hpos', hd]
  · have hg : dec.getD k 0 = 0 := by rw [List.getD_eq_getElem?_getD, List.getElem?_eq_none (by omega)]; rfl
    rw [hg, Nat.zero_mod, hbet]
    by_cases hs : seedN names x.b < seedN names x.a
    · simp [T12, c12_l0b, hi, hw, hwk, hb, hC, hb', h2', hw0, hC2, hC3, g0, g1, g0', g1', ea, eb, hs, hkd]
    · simp [T12, c12_l0b, hi, hw, hwk, hb, hC, hb', h2', hw0, hC2, hC3, g0, g1, g0', g1', ea, eb, hs, hkd]
end LM.G6
namespace LM.G6
open Go LM
variable {P : Nat → Option SFunc} [Has P]
theorem gc_id {n : Nat} {ts : List LV} {h : Heap} (hn : n = h.length) (hu : ∀ v ∈ ts, v.under n = true) : gc n ⟨ts, h⟩ = ⟨ts, h⟩ := by
  have hs : ∀ ts : List LV, (∀ v ∈ ts, v.under n = true) → scrub n ts = ts := by
    intro ts
    induction ts with
    | nil => intro _; rfl
    | cons v r ih =>
      intro hu
      rw [scrub, hu v (by simp), ih (fun w hw => hu w (by simp [hw]))]
      rfl
  have ht : h.take n = h := by rw [hn]; exact List.take_length
  unfold gc
  simp only [ht, hs ts hu]
  split <;> rfl
theorem heap_same {h : Heap} {b : Nat} {X : LB} (hb : h[b]? = some X) : h.set b X = h := by
  obtain ⟨h1, h2⟩ := List.getElem?_eq_some_iff.1 hb
  rw [← h2]
  exact List.set_getElem_self h1
/-- The cells of races. -/
def cRc (l : List Rc) : List LV := cellsOf (l.map Rc.enc)
theorem cRc_cons (x : Rc) (l : List Rc) : cRc (x :: l) = .c (.str x.a) :: .c (.str x.b) :: .c (ci x.w) :: cRc l := rfl
theorem cRc_app : ∀ (p l : List Rc), cRc (p ++ l) = cRc p ++ cRc l
  | [], _ => rfl
  | x :: p, l => by rw [List.cons_append, cRc_cons, cRc_app p l, cRc_cons]; rfl
theorem cRc_len : ∀ l : List Rc, (cRc l).length = l.length * 3
  | [] => rfl
  | x :: l => by rw [cRc_cons, List.length_cons, List.length_cons, List.length_cons, cRc_len l, List.length_cons]; omega
theorem cRc_get (p : List Rc) (x : Rc) (l : List Rc) : (cRc (p ++ x :: l))[p.length * 3]? = some (.c (.str x.a)) ∧ (cRc (p ++ x :: l))[p.length * 3 + 1]? = some (.c (.str x.b)) ∧ (cRc (p ++ x :: l))[p.length * 3 + 2]? = some (.c (ci x.w)) := by
  have hl := cRc_len p
  rw [cRc_app, cRc_cons]
  refine ⟨?_, ?_, ?_⟩
  · rw [List.getElem?_append_right (by omega), hl, Nat.sub_self]; rfl
  · rw [List.getElem?_append_right (by omega), hl, Nat.add_sub_cancel_left]; rfl
  · rw [List.getElem?_append_right (by omega), hl, Nat.add_sub_cancel_left]; rfl
theorem cRc_set (p : List Rc) (x : Rc) (l : List Rc) (w : Int) : (cRc (p ++ x :: l)).set (p.length * 3 + 2) (.c (ci w)) = cRc (p ++ ⟨x.a, x.b, w⟩ :: l) := by
  have hl := cRc_len p
  rw [cRc_app, cRc_app, cRc_cons, cRc_cons, List.set_append_right _ _ (by omega), hl, Nat.add_sub_cancel_left]
  rfl
theorem under12 {names : List Str} {dec : List Nat} {AL : LV} {k : Nat} {bt : Bool} {round n i : Int} {b m N : Nat} (hb : b < N) (hA : AL.under N = true) : ∀ v ∈ T12 names dec (.slice b 1 0 m (some 3) none) AL k bt round n i, v.under N = true := by
  intro v hv
  simp only [T12, List.mem_cons, List.not_mem_nil, or_false] at hv
  rcases hv with rfl | rfl | rfl | rfl | rfl | rfl | rfl | rfl | rfl <;> first | rfl | exact hA | simp [LV.under, hb]
theorem L12_0 (names : List Str) (dec : List Nat) (hN : (names.length : Int) < 9223372036854775807) (AL : LV) (round : Int) (n : Nat) (hn : n ≤ 64) (b N : Nat) (hb : b < N) (hA : AL.under N = true) : ∀ (r pre : List Rc) (k : Nat) (bt : Bool) (h : Heap), N = h.length → n = (pre ++ r).length → k + r.length < 1000 → h[b]? = some (.cells 1 (cRc (pre ++ r)) 0) →
    execS P (limS P) c12_l0 ⟨T12 names dec (.slice b 1 0 n (some 3) none) AL k bt round n pre.length, h⟩ =
      some (.exit 2, ⟨[.c (.slice (names.map CV.str)), .c (.slice (dec.map u8C)), .slice b 1 0 n (some 3) none, AL, .c (ci (fixL names dec r k bt).2.1), .c (.bool (fixL names dec r k bt).2.2), .c (ci round)], h.set b (.cells 1 (cRc (pre ++ (fixL names dec r k bt).1)) 0)⟩) := by
  intro r
  induction r with
  | nil =>
    intro pre k bt h hN hl hk hC
    rw [r12_l0, fixL, heap_same hC]
    simp at hl
    simp [T12, c12_l0b, hl]
  | cons x r ih =>
    intro pre k bt h hNh hl hk hC
    have hi : pre.length < n := by rw [hl]; simp
    obtain ⟨h0, h1, h2⟩ := cRc_get pre x r
    simp only [List.length_cons] at hk
    rw [r12_l0, fixL]
    by_cases hw : x.w ≠ 0
    · rw [if_pos hw, B12_skip names dec AL k bt round n pre.length hi hn h b (by omega) _ x hC h2 hw, seqK_normal]
      have ih := ih (pre ++ [x]) k bt h hNh (by simpa using hl) (by omega) (by simpa using hC)
      simp only
      rw [gc_id rfl (hNh ▸ under12 hb hA)]
      simpa using ih
    · rw [if_neg hw, B12_fix names dec hN AL k (by omega) bt round n pre.length hi hn h b (by omega) _ x hC h0 h1 h2 (by simpa using hw), seqK_normal]
      simp only
      rw [cRc_set]
      have hd : (⟨x.a, x.b, (decX names (dec.getD k 0 % 4) x).w⟩ : Rc) = decX names (dec.getD k 0 % 4) x := rfl
      rw [hd]
      generalize decX names (dec.getD k 0 % 4) x = y
      have hbh : b < h.length := by omega
      have ih := ih (pre ++ [y]) (k + 1) (bt && decide (dec.getD k 0 % 4 = 0)) (h.set b (.cells 1 (cRc (pre ++ y :: r)) 0)) (by simpa using hNh) (by simpa using hl) (by omega) (by simp [hbh])
      rw [gc_id (by simp) (hNh ▸ under12 hb hA)]
      simpa [hbh] using ih
end LM.G6
namespace LM.G6
open Go LM
variable {P : Nat → Option SFunc} [Has P]
/-- A slice of races, in a heap behind its first block. -/
def Hold (H : Heap) (v : LV) (r : List Rc) : Prop := ∃ b f, v = .slice (b + 1) 1 0 r.length (some 3) none ∧ H[b]? = some (.cells 1 (cRc r) f)
def HpA (L : List (List Rc)) (cs : List LV) (H : Heap) : Prop := cs.length = L.length ∧ ∀ (i : Nat) (r : List Rc), L[i]? = some r → ∃ v, cs[i]? = some v ∧ Hold H v r
def AL (n : Nat) : LV := .slice 0 (1 + n) 0 n none none
def rV (l : List Rc) : LV := .c (.slice (l.map Rc.enc))
def T11 (names : List Str) (dec : List Nat) (l : List Rc) (n : Nat) (k : Nat) (bt : Bool) (round : Nat) : List LV := [.c (.slice (names.map CV.str)), .c (.slice (dec.map u8C)), rV l, .c (ci 0), AL n, .c (ci k), .c (.bool bt), .c (ci round)]
theorem B12_1 (T : Tabs P) (names : List Str) (dec : List Nat) (hN : (names.length : Int) < 9223372036854775807) (n : Nat) (hn : n < 100) (cs : List LV) (hcs : cs.length = n) (H : Heap) (l : List Rc) (hl : racesE l = 0) (hx : ∀ x ∈ l, x.a.length < 9223372036854775807 ∧ x.b.length < 9223372036854775807) (k : Nat) (hk : k < 500) (bt : Bool) (round : Nat) (hr : round < 6) :
    ∃ f, execS P (limS P) c12_l1b ⟨T11 names dec l n k bt round, .cells (1 + n) cs 0 :: H⟩ =
      if (fixL names dec l k bt).1.length = 1 then some (.exit 0, ⟨[.c (.slice (names.map CV.str)), AL (n + 1), .c (.bool (fixL names dec l k bt).2.2)], .cells (1 + (n + 1)) (cs ++ [.slice (H.length + 1 + 1) 1 0 (fixL names dec l k bt).1.length (some 3) none]) 0 :: (H ++ [.cells 1 [] 0, .cells 1 (cRc (fixL names dec l k bt).1) f, .cells 1 [.slice (H.length + 1 + 1) 1 0 (fixL names dec l k bt).1.length (some 3) none] 0])⟩)
      else some (.normal, ⟨T11 names dec (nextL (fixL names dec l k bt).1) (n + 1) (fixL names dec l k bt).2.1 (fixL names dec l k bt).2.2 (round + 1), .cells (1 + (n + 1)) (cs ++ [.slice (H.length + 1 + 1) 1 0 (fixL names dec l k bt).1.length (some 3) none]) 0 :: (H ++ [.cells 1 [] 0, .cells 1 (cRc (fixL names dec l k bt).1) f, .cells 1 [.slice (H.length + 1 + 1) 1 0 (fixL names dec l k bt).1.length (some 3) none] 0])⟩) := by
  have hp := good_pos hl
  have e54 := S54 (P := P) l (by omega)
  have e56 := S56 (P := P) l (by omega)
  rw [hl] at e56
  have hlen := fix_len names dec l k bt
  have hgood := fix_races (names := names) (dec := dec) (k := k) (b := bt) hl
  have hopen := fix_open names dec l k bt
  have hkey := fix_key names dec l k bt
  have hAL : (AL n).under (H.length + 1 + 1 + 1) = true := by simp [AL, LV.under]
  have k0 := L12_0 (P := P) names dec hN (AL n) round l.length (by omega) (H.length + 1 + 1) (H.length + 1 + 1 + 1) (by omega) hAL l [] k bt (.cells (1 + n) cs 0 :: (H ++ [.cells 1 [] 0, .cells 1 (cRc l) 0])) (by simp) rfl (by omega) (by simp)
  have hw : IntKind.i64.wrap ((round : Int) + 1) = (round : Int) + 1 := wrap64 (by omega) (by omega)
  generalize fixL names dec l k bt = q at *
  obtain ⟨r, k', bt'⟩ := q
  simp only at *
  have hset : (LB.cells (1 + n) cs 0 :: (H ++ [.cells 1 [] 0, .cells 1 (cRc l) 0])).set (H.length + 1 + 1) (.cells 1 (cRc ([] ++ r)) 0) = .cells (1 + n) cs 0 :: (H ++ [.cells 1 [] 0, .cells 1 (cRc r) 0]) := by
    rw [List.set_cons_succ, List.set_append_right _ _ (by omega), Nat.add_sub_cancel_left]
    rfl
  rw [hset] at k0
  have hce : cellsOf (l.map Rc.enc) = cRc l := rfl
  simp only [T12, List.length_nil, AL] at k0
  simp only [T11, rV, AL]
  have hr' : (round : Int) < 6 := by omega
  have hfl : flatAll (cRc l) = true := flatAll_cellsOf (e := some 3) (Rc.elems l)
  have hcl := cRc_len l
  have ha1 : appendOp none (some 3) 40 (.slice (H.length + 1) 1 0 0 (some 3) (some 0)) (.c (.slice (l.map Rc.enc))) (.cells (1 + n) cs 0 :: (H ++ [.cells 1 [] 0])) = some (.slice (H.length + 1 + 1) 1 0 l.length (some 3) none, .cells (1 + n) cs 0 :: (H ++ [.cells 1 [] 0, .cells 1 (cRc l) 0])) := by
    have h1 : sliceCells (some 3) (.cells (1 + n) cs 0 :: (H ++ [.cells 1 [] 0])) (.c (.slice (l.map Rc.enc))) = some (l.length, cRc l) := by
      show some ((l.map Rc.enc).length, cRc l) = _
      rw [List.length_map]
    simp only [appendOp, h1, hfl, hcl, szOf]
    have h2 : (LB.cells (1 + n) cs 0 :: (H ++ [.cells 1 [] 0]))[H.length + 1]? = some (.cells 1 [] 0) := by simp
    rw [h2]
    simp [newId, newAt, ok]
    exact ⟨by omega, fun e => by subst e; simp at hp⟩
  have ha2 : ∀ (X : LV) (H2 : Heap) (Z : LB), Z = .cells 1 [X] 0 → X.flat = true → appendOp none none 24 (.slice 0 (1 + n) 0 n none none) (.slice (H2.length + 1) 1 0 1 none (some 1)) (.cells (1 + n) cs 0 :: (H2 ++ [Z])) = some (.slice 0 (1 + (n + 1)) 0 (n + 1) none none, .cells (1 + (n + 1)) (cs ++ [X]) 0 :: (H2 ++ [Z])) := by
    intro X H2 Z hZ hX
    subst hZ
    have h1 : sliceCells none (.cells (1 + n) cs 0 :: (H2 ++ [.cells 1 [X] 0])) (.slice (H2.length + 1) 1 0 1 none (some 1)) = some (1, [X]) := by
      simp [sliceCells, szOf]
    simp only [appendOp, h1, flatAll, hX]
    simp [szOf, ok, hcs]
    omega
  have ha3 := ha2 (.slice (H.length + 1 + 1) 1 0 l.length (some 3) none) (H ++ [.cells 1 [] 0, .cells 1 (cRc r) 0]) _ rfl rfl
  simp at ha3 k0
  have hlen' : (l.length : Int) = (r.length : Int) := by omega
  rw [hlen.symm] at k0 ha1 ha3
  by_cases h1 : r.length = 1
  · refine ⟨0, ?_⟩
    rw [if_pos h1]
    have h1' : (r.length : Int) = 1 := by omega
    rw [h1'] at k0
    simp [c12_l1b, hr', e54, e56, k0, hw, ha1, ha3, hlen', h1']
  · refine ⟨r.length * 3, ?_⟩
    rw [if_neg h1]
    have h1' : ¬ (r.length : Int) = 1 := by omega
    have hfz := frz_own (b := H.length + 1 + 1) (g := 1) (fz := 0) (e := some 3) (ys := r.map Rc.enc) (h := .cells (1 + (n + 1)) (cs ++ [.slice (H.length + 1 + 1) 1 0 r.length (some 3) none]) 0 :: (H ++ [.cells 1 [] 0, .cells 1 (cRc r) 0, .cells 1 [.slice (H.length + 1 + 1) 1 0 r.length (some 3) none] 0])) (len := r.length) (by simp; rfl) (Rc.elems _) (by simp) none
    have hE : nextE r = 0 := by
      unfold nextE
      rw [hgood, hopen]
      have : ((r.length : Int) == 1) = false := by simpa using h1'
      rw [this]
      rfl
    have hrx : ∀ x ∈ r, x.a.length < 9223372036854775807 ∧ x.b.length < 9223372036854775807 := by
      intro x hxr
      have : keyR x ∈ l.map keyR := by rw [← hkey]; exact List.mem_map.2 ⟨x, hxr, rfl⟩
      obtain ⟨y, hy, e⟩ := List.mem_map.1 this
      have := hx y hy
      unfold keyR at e
      rw [← (Prod.mk.inj e).1, ← (Prod.mk.inj e).2]
      exact this
    have e58 := S58 (P := P) T r (by omega) hrx
    rw [if_pos hE] at e58
    simp [-frz_slice] at hfz
    simp [c12_l1b, hr', e54, e56, k0, hw, ha1, ha3, hlen', h1', hfz, e58, -frz_slice]
end LM.G6
namespace LM.G6
open Go LM
variable {P : Nat → Option SFunc} [Has P]
theorem fix_k (names : List Str) (dec : List Nat) : ∀ (l : List Rc) (k : Nat) (b : Bool), (fixL names dec l k b).2.1 ≤ k + l.length
  | [], k, b => by simp [fixL]
  | x :: l, k, b => by
    rw [fixL]
    split
    · have := fix_k names dec l k b
      simp only [List.length_cons]
      omega
    · have := fix_k names dec l (k + 1) (b && decide (dec.getD k 0 % 4 = 0))
      simp only [List.length_cons]
      omega
theorem gc_not {n : Nat} {ts : List LV} {h : Heap} (hu : underB n (h.take n) = false) : gc n ⟨ts, h⟩ = ⟨ts, h⟩ := by
  unfold gc
  simp [hu]
theorem under_mono {n m : Nat} (h : n ≤ m) : ∀ (v : LV), v.under n = true → v.under m = true := by
  have key : ∀ (k : Nat) (v : LV), sizeOf v ≤ k → v.under n = true → v.under m = true := by
    intro k
    induction k with
    | zero => intro v hk; cases v <;> simp at hk
    | succ k ih =>
      have hL : ∀ l : List LV, sizeOf l ≤ k → underL n l = true → underL m l = true := by
        intro l
        induction l with
        | nil => intro _ _; rfl
        | cons v r ihl =>
          intro hk hu
          rw [underL, Bool.and_eq_true] at hu ⊢
          simp at hk
          exact ⟨ih v (by omega) hu.1, ihl (by omega) hu.2⟩
      intro v hk hu
      cases v with
      | c | nil | emp | undef => rfl
      | ptr b g o => simp [LV.under] at hu ⊢; omega
      | slice b g o l e c => simp [LV.under] at hu ⊢; omega
      | map b => simp [LV.under] at hu ⊢; omega
      | func f a b =>
        simp [LV.under] at hu hk ⊢
        exact ⟨hL a (by omega) hu.1, hL b (by omega) hu.2⟩
      | agg cs =>
        simp [LV.under] at hu hk ⊢
        exact hL cs (by omega) hu
      | tuple cs =>
        simp [LV.under] at hu hk ⊢
        exact hL cs (by omega) hu
  exact fun v => key _ v (Nat.le_refl _)
theorem underL_mono {n m : Nat} (h : n ≤ m) : ∀ (l : List LV), underL n l = true → underL m l = true
  | [], _ => rfl
  | v :: r, hu => by
    rw [underL, Bool.and_eq_true] at hu ⊢
    exact ⟨under_mono h v hu.1, underL_mono h r hu.2⟩
theorem underB_mono {n m : Nat} (h : n ≤ m) : ∀ (H : Heap), underB n H = true → underB m H = true
  | [], _ => rfl
  | B :: r, hu => by
    rw [underB, Bool.and_eq_true] at hu ⊢
    refine ⟨?_, underB_mono h r hu.2⟩
    cases B with
    | cells g cs fz => exact underL_mono h cs hu.1
    | map ks vs fz => exact underL_mono h vs hu.1
    | iter s p => rfl
    | dead => rfl
theorem underB_app {n : Nat} : ∀ (H K : Heap), underB n (H ++ K) = (underB n H && underB n K)
  | [], K => by simp [underB]
  | B :: r, K => by rw [List.cons_append, underB, underB, underB_app r K, Bool.and_assoc]
theorem under_cRc (n : Nat) (l : List Rc) : underL n (cRc l) = true := underL_cellsOf n _
theorem pairs_mem : ∀ (n : Nat) (s : List Str), s.length ≤ n → ∀ x ∈ pairsL s, x.a ∈ s ∧ x.b ∈ s
  | 0, s, h, x, hx => by
    have : s = [] := List.eq_nil_of_length_eq_zero (by omega)
    subst this
    simp [pairsL] at hx
  | n + 1, s, h, x, hx => by
    rcases s with _ | ⟨a, _ | ⟨b, s⟩⟩
    · simp [pairsL] at hx
    · simp [pairsL] at hx
    · rw [pairsL] at hx
      rcases List.mem_cons.1 hx with rfl | hx
      · exact ⟨by simp [decR], by simp [decR]⟩
      · have := pairs_mem n s (by simp at h; omega) x hx
        exact ⟨by simp [this.1], by simp [this.2]⟩
theorem win_short {r : List Rc} (hrx : ∀ x ∈ r, x.a.length < 9223372036854775807 ∧ x.b.length < 9223372036854775807) (s : Str) (h : s ∈ r.map winR) : s.length < 9223372036854775807 := by
  obtain ⟨x, hx, rfl⟩ := List.mem_map.1 h
  have := hrx x hx
  unfold winR
  split
  · exact this.1
  · split
    · exact this.2
    · simp
theorem L12_1 (T : Tabs P) (names : List Str) (dec : List Nat) (hN : (names.length : Int) < 9223372036854775807) : ∀ (f : Nat) (l : List Rc) (k : Nat) (bt : Bool) (round : Nat) (L : List (List Rc)) (cs : List LV) (H : Heap), racesE l = 0 → (∀ x ∈ l, x.a.length < 9223372036854775807 ∧ x.b.length < 9223372036854775807) → l.length < 2 ^ f → round + f = 6 → k ≤ 32 * round → L.length = round → HpA L cs H → underB (H.length + 1) (.cells (1 + L.length) cs 0 :: H) = true →
    ∃ cs' H', execS P (limS P) c12_l1 ⟨T11 names dec l L.length k bt round, .cells (1 + L.length) cs 0 :: H⟩ = some (.exit 0, ⟨[.c (.slice (names.map CV.str)), AL (L ++ runsL names dec f l k bt).length, .c (.bool (runsB names dec f l k bt))], .cells (1 + (L ++ runsL names dec f l k bt).length) cs' 0 :: H'⟩) ∧
      HpA (L ++ runsL names dec f l k bt) cs' H' ∧ underB (H'.length + 1) (.cells (1 + (L ++ runsL names dec f l k bt).length) cs' 0 :: H') = true := by
  intro f
  induction f with
  | zero =>
    intro l k bt round L cs H hl _ hlen
    exfalso
    have := good_pos hl
    omega
  | succ f ih =>
    intro l k bt round L cs H hl hx hlen hr hk hL hA hU
    have hp := good_pos hl
    obtain ⟨fz, k1⟩ := B12_1 (P := P) T names dec hN L.length (by omega) cs hA.1 H l hl hx k (by omega) bt round (by omega)
    have hfk := fix_k names dec l k bt
    have hfl := fix_len names dec l k bt
    have hgood := fix_races (names := names) (dec := dec) (k := k) (b := bt) hl
    have hopen := fix_open names dec l k bt
    have hkey := fix_key names dec l k bt
    rw [r12_l1, k1, runsL, runsB]
    generalize fixL names dec l k bt = q at *
    obtain ⟨r, k', bt'⟩ := q
    simp only at *
    have hrx : ∀ x ∈ r, x.a.length < 9223372036854775807 ∧ x.b.length < 9223372036854775807 := by
      intro x hxr
      have : keyR x ∈ l.map keyR := by rw [← hkey]; exact List.mem_map.2 ⟨x, hxr, rfl⟩
      obtain ⟨y, hy, e⟩ := List.mem_map.1 this
      have := hx y hy
      unfold keyR at e
      rw [← (Prod.mk.inj e).1, ← (Prod.mk.inj e).2]
      exact this
    have hA' : HpA (L ++ [r]) (cs ++ [.slice (H.length + 1 + 1) 1 0 r.length (some 3) none]) (H ++ [.cells 1 [] 0, .cells 1 (cRc r) fz, .cells 1 [.slice (H.length + 1 + 1) 1 0 r.length (some 3) none] 0]) := by
      refine ⟨by simp [hA.1], ?_⟩
      intro i y hy
      by_cases hi : i < L.length
      · rw [List.getElem?_append_left hi] at hy
        obtain ⟨v, hv, b, f2, e1, e2⟩ := hA.2 i y hy
        refine ⟨v, ?_, b, f2, e1, ?_⟩
        · rw [List.getElem?_append_left (by rw [hA.1]; exact hi)]; exact hv
        · rw [List.getElem?_append_left (List.getElem?_eq_some_iff.1 e2).1]; exact e2
      · have hi2 : i = L.length := by
          have := (List.getElem?_eq_some_iff.1 hy).1
          simp at this
          omega
        subst hi2
        simp at hy
        subst hy
        refine ⟨.slice (H.length + 1 + 1) 1 0 r.length (some 3) none, ?_, H.length + 1, fz, rfl, ?_⟩
        · rw [List.getElem?_append_right (by rw [hA.1]; exact Nat.le_refl _), hA.1]; simp
        · rw [List.getElem?_append_right (by omega), Nat.add_sub_cancel_left]; rfl
    have hU' : underB (H.length + 3 + 1) (LB.cells (1 + (L.length + 1)) (cs ++ [.slice (H.length + 1 + 1) 1 0 r.length (some 3) none]) 0 :: (H ++ [LB.cells 1 [] 0, LB.cells 1 (cRc r) fz, LB.cells 1 [.slice (H.length + 1 + 1) 1 0 r.length (some 3) none] 0])) = true := by
      have h2 := underB_mono (show H.length + 1 ≤ H.length + 3 + 1 by omega) _ hU
      simp only [underB, LB.under, Bool.and_eq_true] at h2
      simp [underB_app, h2.1, h2.2, under_cRc, LV.under, LB.under]
    by_cases h1 : r.length = 1
    · rw [if_pos h1, if_pos h1, if_pos h1, seqK_exit]
      refine ⟨_, _, ?_, hA', ?_⟩
      · simp
      · simpa using hU'
    · rw [if_neg h1, if_neg h1, if_neg h1, seqK_normal]
      rw [gc_not (by simp [List.take_succ_cons, LB.under, LV.under]; intro _ h; omega)]
      have hg := next_good hgood h1
      have hn := nextL_len r
      have h2f : 2 ^ (f + 1) = 2 ^ f * 2 := Nat.pow_succ 2 f
      have hnx : ∀ x ∈ nextL r, x.a.length < 9223372036854775807 ∧ x.b.length < 9223372036854775807 := by
        intro x hxn
        obtain ⟨h3, h4⟩ := pairs_mem _ _ (Nat.le_refl _) x hxn
        exact ⟨win_short hrx _ h3, win_short hrx _ h4⟩
      obtain ⟨cs', H', i1, i2, i3⟩ := ih (nextL r) k' bt' (round + 1) (L ++ [r]) _ _ hg hnx (by omega) (by omega) (by omega) (by simp [hL]) hA' (by simpa using hU')
      refine ⟨cs', H', ?_, by simpa using i2, by simpa using i3⟩
      simpa using i1
end LM.G6
namespace LM.G6
open Go LM
variable {P : Nat → Option SFunc} [Has P]
theorem gc_drop {ts : List LV} {h : Heap} {X : LB} {n : Nat} (hn : n = h.length) (hU : underB h.length h = true) (hu : ∀ v ∈ ts, v.under h.length = true) : gc n ⟨ts, h ++ [X]⟩ = ⟨ts, h⟩ := by
  subst hn
  have hs : ∀ ts : List LV, (∀ v ∈ ts, v.under h.length = true) → scrub h.length ts = ts := by
    intro ts
    induction ts with
    | nil => intro _; rfl
    | cons v r ih =>
      intro hu
      rw [scrub, hu v (by simp), ih (fun w hw => hu w (by simp [hw]))]
      rfl
  unfold gc
  simp [hU, hs ts hu]
/-- The state of the loop over a round's races. -/
def T2 (names : List Str) (Lall : LV) (bt : Bool) (Z : List Pl) (sn : LV) (i n : Int) (rd : LV) (La : LV) (na k : Int) (m j : Int) : List LV := [.c (.slice (names.map CV.str)), Lall, .c (.bool bt), .c (.slice (Z.map Pl.enc)), sn, .c (ci i), rd, .c (ci n), .c (ci i), La, .c (ci na), .c (ci k), rd, .c (ci m), .c (ci j)]
theorem B12_2 (names : List Str) (Lall : LV) (bt : Bool) (Z : List Pl) (sn : LV) (i : Nat) (q : Pl) (hq : Z[i]? = some q) (La : LV) (na k : Int) (hh : Heap) (b f m j : Nat) (hj : j < m) (hm : m ≤ 64) (C : List LV) (hbl : b < hh.length) (hb : hh[b]? = some (.cells 1 C f)) (x : Rc)
    (hd : C.drop (j * 3) = .c (.str x.a) :: .c (.str x.b) :: .c (ci x.w) :: C.drop (j * 3 + 3)) (hok : lostB x q.n = true → q.p ≠ 1 ∧ q.p = (m : Int) + 1) :
    execS P (limS P) c12_l2b ⟨T2 names Lall bt Z sn i Z.length (.slice b 1 0 m (some 3) none) La na k m j, hh⟩ = some (.normal, ⟨T2 names Lall bt Z sn i Z.length (.slice b 1 0 m (some 3) none) La na k m (j + 1), hh ++ [.cells 0 [.c (.str x.a), .c (.str x.b), .c (ci x.w)] 0]⟩) := by
  have hw : IntKind.i64.wrap ((j : Int) + 1) = (j : Int) + 1 := wrap64 (by omega) (by omega)
  have hwm : IntKind.i64.wrap ((m : Int) + 1) = (m : Int) + 1 := wrap64 (by omega) (by omega)
  obtain ⟨hil, hq'⟩ := List.getElem?_eq_some_iff.1 hq
  have hb2 : hh[b] = .cells 1 C f := (List.getElem?_eq_some_iff.1 hb).2
  unfold lostB at hok
  obtain ⟨qn, qp⟩ := q
  obtain ⟨xa, xb, xw⟩ := x
  simp only at *
  have hm1 : ¬ (m : Int) + 1 = 1 := by omega
  by_cases ha : xa = qn <;> by_cases hb1 : xb = qn <;> by_cases h1 : xw = 1
  · subst h1
    simp [ha, hb1] at hok
    simp [T2, c12_l2b, hj, hw, hwm, hb, hbl, hb2, hd, hq, hil, hq', Pl.enc, hok, ha, hb1, hm1]
  · simp [ha, hb1, h1] at hok
    simp [T2, c12_l2b, hj, hw, hwm, hb, hbl, hb2, hd, hq, hil, hq', Pl.enc, hok, ha, hb1, hm1, h1]
  · subst h1
    simp [ha, hb1] at hok
    simp [T2, c12_l2b, hj, hw, hwm, hb, hbl, hb2, hd, hq, hil, hq', Pl.enc, ha, hb1, hm1]
  · simp [ha, hb1, h1] at hok
    simp [T2, c12_l2b, hj, hw, hwm, hb, hbl, hb2, hd, hq, hil, hq', Pl.enc, hok, ha, hb1, hm1, h1]
  · subst h1
    simp [ha, hb1] at hok
    simp [T2, c12_l2b, hj, hw, hwm, hb, hbl, hb2, hd, hq, hil, hq', Pl.enc, hok, ha, hb1, hm1]
  · by_cases h2 : xw = 2
    · subst h2
      simp [T2, c12_l2b, hj, hw, hwm, hb, hbl, hb2, hd, hq, hil, hq', Pl.enc, ha, hb1, hm1]
    · simp [ha, hb1, h2] at hok
      simp [T2, c12_l2b, hj, hw, hwm, hb, hbl, hb2, hd, hq, hil, hq', Pl.enc, hok, ha, hb1, hm1, h2]
  · simp [T2, c12_l2b, hj, hw, hwm, hb, hbl, hb2, hd, hq, hil, hq', Pl.enc, ha, hb1, hm1]
  · simp [T2, c12_l2b, hj, hw, hwm, hb, hbl, hb2, hd, hq, hil, hq', Pl.enc, ha, hb1, hm1]
theorem cRc_drop (p : List Rc) (x : Rc) (l : List Rc) : (cRc (p ++ x :: l)).drop (p.length * 3) = .c (.str x.a) :: .c (.str x.b) :: .c (ci x.w) :: (cRc (p ++ x :: l)).drop (p.length * 3 + 3) := by
  have hl := cRc_len p
  rw [cRc_app, cRc_cons]
  have e1 : (cRc p ++ (.c (.str x.a) :: .c (.str x.b) :: .c (ci x.w) :: cRc l)).drop (p.length * 3) = .c (.str x.a) :: .c (.str x.b) :: .c (ci x.w) :: cRc l := by rw [← hl]; exact List.drop_left
  rw [← List.drop_drop, e1]
  rfl
theorem under2 {N : Nat} {names : List Str} {Lall : LV} {bt : Bool} {Z : List Pl} {sn : LV} {i n : Int} {rd La : LV} {na k m j : Int} (h1 : Lall.under N = true) (h2 : sn.under N = true) (h3 : rd.under N = true) (h4 : La.under N = true) : ∀ v ∈ T2 names Lall bt Z sn i n rd La na k m j, v.under N = true := by
  intro v hv
  simp only [T2, List.mem_cons, List.not_mem_nil, or_false] at hv
  rcases hv with rfl | rfl | rfl | rfl | rfl | rfl | rfl | rfl | rfl | rfl | rfl | rfl | rfl | rfl | rfl <;> first | rfl | assumption
theorem L12_2 (names : List Str) (Lall : LV) (bt : Bool) (Z : List Pl) (sn : LV) (i : Nat) (q : Pl) (hq : Z[i]? = some q) (La : LV) (na k : Int) (hh : Heap) (b f m : Nat) (hm : m ≤ 64) (hbl : b < hh.length) (hU : underB hh.length hh = true) (h1 : Lall.under hh.length = true) (h2 : sn.under hh.length = true) (h4 : La.under hh.length = true) : ∀ (r pre : List Rc), m = (pre ++ r).length → hh[b]? = some (.cells 1 (cRc (pre ++ r)) f) → (∀ x ∈ r, lostB x q.n = true → q.p ≠ 1 ∧ q.p = (m : Int) + 1) →
    execS P (limS P) c12_l2 ⟨T2 names Lall bt Z sn i Z.length (.slice b 1 0 m (some 3) none) La na k m pre.length, hh⟩ = some (.exit 8, ⟨[.c (.slice (names.map CV.str)), Lall, .c (.bool bt), .c (.slice (Z.map Pl.enc)), sn, .c (ci i), .c (ci Z.length), .c (ci i), La, .c (ci na), .c (ci k)], hh⟩) := by
  intro r
  induction r with
  | nil =>
    intro pre hl hb _
    rw [r12_l2]
    simp at hl
    simp [T2, c12_l2b, hl]
  | cons x r ih =>
    intro pre hl hb hok
    have ih := ih (pre ++ [x]) (by simpa using hl) (by simpa using hb) (fun y hy => hok y (by simp [hy]))
    rw [r12_l2, B12_2 names Lall bt Z sn i q hq La na k hh b f m pre.length (by rw [hl]; simp) hm _ hbl hb x (cRc_drop pre x r) (hok x (by simp)), seqK_normal, gc_drop rfl hU (under2 h1 h2 (by simp [LV.under, hbl]) h4)]
    simpa using ih
/-- The state of the loop over the rounds. -/
def T3 (names : List Str) (Lall : LV) (bt : Bool) (Z : List Pl) (sn : LV) (i n : Int) (La : LV) (na k : Int) : List LV := [.c (.slice (names.map CV.str)), Lall, .c (.bool bt), .c (.slice (Z.map Pl.enc)), sn, .c (ci i), .c (ci n), .c (ci i), La, .c (ci na), .c (ci k)]
theorem B12_3 (names : List Str) (Lall : LV) (bt : Bool) (Z : List Pl) (sn : LV) (i : Nat) (q : Pl) (hq : Z[i]? = some q) (n : Nat) (hn : n < 100) (g fa : Nat) (cs : List LV) (H : Heap) (k : Nat) (hk : k < n) (r : List Rc) (hm : r.length ≤ 64) (b f : Nat) (hcs : cs[k]? = some (.slice (b + 1) 1 0 r.length (some 3) none)) (hb : H[b]? = some (.cells 1 (cRc r) f))
    (hU : underB (H.length + 1) (.cells g cs fa :: H) = true) (h1 : Lall.under (H.length + 1) = true) (h2 : sn.under (H.length + 1) = true) (hok : ∀ x ∈ r, lostB x q.n = true → q.p ≠ 1 ∧ q.p = (r.length : Int) + 1) :
    execS P (limS P) c12_l3b ⟨T3 names Lall bt Z sn i Z.length (.slice 0 g 0 n none none) n k, .cells g cs fa :: H⟩ = some (.normal, ⟨T3 names Lall bt Z sn i Z.length (.slice 0 g 0 n none none) n (k + 1), .cells g cs fa :: H⟩) := by
  have hw : IntKind.i64.wrap ((k : Int) + 1) = (k : Int) + 1 := wrap64 (by omega) (by omega)
  have hbl : b < H.length := (List.getElem?_eq_some_iff.1 hb).1
  obtain ⟨hcl, hcs'⟩ := List.getElem?_eq_some_iff.1 hcs
  have k2 := L12_2 (P := P) names Lall bt Z sn i q hq (.slice 0 g 0 n none none) n k (.cells g cs fa :: H) (b + 1) f r.length hm (by simpa using hbl) hU h1 h2 (by simp [LV.under]) r [] rfl (by simpa using hb) hok
  simp [T2] at k2
  simp [T3, c12_l3b, hk, hw, hcs, hcl, hcs', k2]
  done
end LM.G6
namespace LM.G6
open Go LM
variable {P : Nat → Option SFunc} [Has P]
theorem under3 {N : Nat} {names : List Str} {Lall : LV} {bt : Bool} {Z : List Pl} {sn : LV} {i n : Int} {La : LV} {na k : Int} (h1 : Lall.under N = true) (h2 : sn.under N = true) (h4 : La.under N = true) : ∀ v ∈ T3 names Lall bt Z sn i n La na k, v.under N = true := by
  intro v hv
  simp only [T3, List.mem_cons, List.not_mem_nil, or_false] at hv
  rcases hv with rfl | rfl | rfl | rfl | rfl | rfl | rfl | rfl | rfl | rfl | rfl <;> first | rfl | assumption
theorem L12_3 (names : List Str) (bt : Bool) (Z : List Pl) (sn : LV) (i : Nat) (q : Pl) (hq : Z[i]? = some q) (L : List (List Rc)) (hn : L.length < 100) (g fa : Nat) (cs : List LV) (H : Heap) (hA : HpA L cs H) (hlen : ∀ r ∈ L, r.length ≤ 64)
    (hU : underB (H.length + 1) (.cells g cs fa :: H) = true) (h2 : sn.under (H.length + 1) = true) (hok : ∀ r ∈ L, ∀ x ∈ r, lostB x q.n = true → q.p ≠ 1 ∧ q.p = (r.length : Int) + 1) : ∀ (m k : Nat), k + m = L.length →
    execS P (limS P) c12_l3 ⟨T3 names (.slice 0 g 0 L.length none none) bt Z sn i Z.length (.slice 0 g 0 L.length none none) L.length k, .cells g cs fa :: H⟩ = some (.exit 6, ⟨[.c (.slice (names.map CV.str)), .slice 0 g 0 L.length none none, .c (.bool bt), .c (.slice (Z.map Pl.enc)), sn, .c (ci Z.length), .c (ci i)], .cells g cs fa :: H⟩) := by
  intro m
  induction m with
  | zero =>
    intro k hk
    have hk' : k = L.length := by omega
    rw [r12_l3]
    simp [T3, c12_l3b, hk']
  | succ m ih =>
    intro k hk
    have ih := ih (k + 1) (by omega)
    have hkl : k < L.length := by omega
    have hr : L[k]? = some L[k] := List.getElem?_eq_getElem hkl
    have hrm : L[k] ∈ L := List.getElem_mem hkl
    obtain ⟨v, hv, b, f, e, hb⟩ := hA.2 k _ hr
    rw [e] at hv
    rw [r12_l3, B12_3 names _ bt Z sn i q hq L.length hn g fa cs H k hkl L[k] (hlen _ hrm) b f hv hb hU (by simp [LV.under]) h2 (hok _ hrm), seqK_normal]
    show execS P (limS P) c12_l3 (gc (H.length + 1) _) = _
    rw [gc_id (by simp) (under3 (by simp [LV.under]) h2 (by simp [LV.under]))]
    simpa using ih
/-- The state of the loop over the places. -/
def T4 (names : List Str) (La : LV) (bt : Bool) (Z : List Pl) (sn : LV) (n i : Int) : List LV := [.c (.slice (names.map CV.str)), La, .c (.bool bt), .c (.slice (Z.map Pl.enc)), sn, .c (ci n), .c (ci i)]
def sB (pre : List Pl) : LB := .cells (1 + pre.length) (cellsOf ((pre.map (·.n)).map CV.str)) 0
theorem B12_4 (names : List Str) (hN : (names.length : Int) < 9223372036854775807) (bt : Bool) (pre post : List Pl) (q : Pl) (hZ : (pre ++ q :: post).length < 1000) (L : List (List Rc)) (hn : L.length < 100) (g fa : Nat) (cs : List LV) (H : Heap) (hA : HpA L cs H) (hlen : ∀ r ∈ L, r.length ≤ 64)
    (hU : underB (H.length + 1) (.cells g cs fa :: H) = true) (hok : ∀ r ∈ L, ∀ x ∈ r, lostB x q.n = true → q.p ≠ 1 ∧ q.p = (r.length : Int) + 1)
    (hs : q.n ∉ pre.map (·.n)) (hm : q.n ∈ names) (hup : ∀ z, pre.getLast? = some z → z.p ≤ q.p) (h1 : 0 < pre.length → q.p ≠ 1) :
    execS P (limS P) c12_l4b ⟨T4 names (.slice 0 g 0 L.length none none) bt (pre ++ q :: post) (.slice (H.length + 1) (1 + pre.length) 0 pre.length none none) (pre ++ q :: post).length pre.length, .cells g cs fa :: (H ++ [sB pre])⟩ = some (.normal, ⟨T4 names (.slice 0 g 0 L.length none none) bt (pre ++ q :: post) (.slice (H.length + 1) (1 + (pre ++ [q]).length) 0 (pre ++ [q]).length none none) (pre ++ q :: post).length (pre.length + 1), .cells g cs fa :: (H ++ [sB (pre ++ [q])])⟩) := by
  have hw : IntKind.i64.wrap ((pre.length : Int) + 1) = (pre.length : Int) + 1 := wrap64 (by simp at hZ; omega) (by simp at hZ; omega)
  have hq : (pre ++ q :: post)[pre.length]? = some q := by simp
  have hA' : HpA L cs (H ++ [sB (pre ++ [q])]) := by
    refine ⟨hA.1, fun i r hr => ?_⟩
    obtain ⟨v, hv, b, f, e1, e2⟩ := hA.2 i r hr
    exact ⟨v, hv, b, f, e1, by rw [List.getElem?_append_left (List.getElem?_eq_some_iff.1 e2).1]; exact e2⟩
  have hU' : underB ((H ++ [sB (pre ++ [q])]).length + 1) (.cells g cs fa :: (H ++ [sB (pre ++ [q])])) = true := by
    have h2 := underB_mono (show H.length + 1 ≤ H.length + 1 + 1 by omega) _ hU
    simp only [underB, LB.under, Bool.and_eq_true] at h2
    simp [underB_app, h2.1, h2.2, sB, LB.under, underL_cellsOf]
  have k3 := L12_3 (P := P) names bt (pre ++ q :: post) (.slice (H.length + 1) (1 + (pre ++ [q]).length) 0 (pre ++ [q]).length none none) pre.length q hq L hn g fa cs (H ++ [sB (pre ++ [q])]) hA' hlen hU' (by simp [LV.under]) hok L.length 0 (by omega)
  have ha := append_own (b := H.length + 1) (g := 1 + pre.length) (bytes := 16) (e := none) (ys := (pre.map (·.n)).map CV.str) (xs := [CV.str q.n]) (h := .cells g cs fa :: (H ++ [sB pre])) (len := pre.length) (fz := 0) (by simp [sB]) (strElems _) (by simpa using ⟨rfl, rfl⟩) (by simp) (Nat.zero_le _) (by simp) (by simp at hZ ⊢; omega) (by simp at hZ ⊢; omega)
  have e81a := S81 (P := P) q.n (pre.map (·.n)) (by simp at hZ ⊢; omega)
  have e81b := S81 (P := P) q.n names hN
  have hf1 : (pre.map (·.n)).any (Str.is q.n) = false := by
    rw [List.any_eq_false]
    intro y hy
    rw [Str.is_eq]
    simp only [decide_eq_true_eq]
    intro e
    exact hs (e ▸ hy)
  have hf2 : names.any (Str.is q.n) = true := by
    rw [List.any_eq_true]
    exact ⟨q.n, hm, by rw [Str.is_eq]; simp⟩
  rw [hf1] at e81a
  rw [hf2] at e81b
  have hfz := frz_own (b := H.length + 1) (g := 1 + pre.length) (fz := 0) (e := none) (ys := (pre.map (·.n)).map CV.str) (h := .cells g cs fa :: (H ++ [sB pre])) (len := pre.length) (by simp [sB]) (strElems _) (by simp) none
  have hset : (LB.cells g cs fa :: (H ++ [sB pre])).set (H.length + 1) (sB (pre ++ [q])) = .cells g cs fa :: (H ++ [sB (pre ++ [q])]) := by
    rw [List.set_cons_succ, List.set_append_right _ _ (Nat.le_refl _), Nat.sub_self]
    rfl
  have ha' : appendOp none none 16 (.slice (H.length + 1) (1 + pre.length) 0 pre.length none none) (.c (.slice [.str q.n])) (.cells g cs fa :: (H ++ [sB pre])) = some (.slice (H.length + 1) (1 + (pre ++ [q]).length) 0 (pre ++ [q]).length none none, .cells g cs fa :: (H ++ [sB (pre ++ [q])])) := by
    rw [ha, ← hset]
    simp [sB]
    omega
  have hil : pre.length < (pre ++ q :: post).length := by simp
  have hq' : (pre ++ q :: post)[pre.length] = q := by simp
  have hpz : 0 < pre.length → ∃ z, (pre ++ q :: post)[pre.length - 1]? = some z ∧ z.p ≤ q.p := by
    intro h0
    have hlt : pre.length - 1 < pre.length := by omega
    refine ⟨pre[pre.length - 1], ?_, hup _ ?_⟩
    · rw [List.getElem?_append_left hlt]; exact List.getElem?_eq_getElem hlt
    · rw [List.getLast?_eq_getElem?]; exact List.getElem?_eq_getElem hlt
  generalize pre ++ q :: post = W at *
  rcases Nat.eq_zero_or_pos pre.length with h0 | h0
  · have hp0 : pre = [] := List.eq_nil_of_length_eq_zero h0
    subst hp0
    simp [-frz_slice] at hfz ha'
    simp at hil hq' hq e81a k3
    simp [T3] at k3
    simp [T4, c12_l4b, hw, e81a, e81b, hfz, ha', k3, Pl.enc, hil, hq, hq', -frz_slice]
    exact wrap64 (by omega) (by omega)
  · obtain ⟨z, hz, hzq⟩ := hpz h0
    have hpne : pre ≠ [] := fun e => by subst e; simp at h0
    have hq1 := h1 h0
    have hw1 : IntKind.i64.wrap ((pre.length : Int) - 1) = ((pre.length - 1 : Nat) : Int) := by rw [show (pre.length : Int) - 1 = ((pre.length - 1 : Nat) : Int) from by omega]; exact wrap64 (by omega) (by omega)
    obtain ⟨hzl, hz'⟩ := List.getElem?_eq_some_iff.1 hz
    have hpz' : (0 : Int) < (pre.length : Int) := by omega
    have hzq' : ¬ q.p < z.p := by omega
    simp [-frz_slice] at hfz ha'
    simp [T3] at e81a k3
    simp [T4, c12_l4b, hw, hw1, e81a, e81b, hfz, ha', k3, Pl.enc, hil, hq, hq', hz, hzl, hz', hpz', hzq', hq1, hpne, -frz_slice]
end LM.G6
namespace LM.G6
open Go LM
variable {P : Nat → Option SFunc} [Has P]
theorem under4 {N : Nat} {names : List Str} {La : LV} {bt : Bool} {Z : List Pl} {sn : LV} {n i : Int} (h1 : La.under N = true) (h2 : sn.under N = true) : ∀ v ∈ T4 names La bt Z sn n i, v.under N = true := by
  intro v hv
  simp only [T4, List.mem_cons, List.not_mem_nil, or_false] at hv
  rcases hv with rfl | rfl | rfl | rfl | rfl | rfl | rfl <;> first | rfl | assumption
theorem L12_4 (names : List Str) (hN : (names.length : Int) < 9223372036854775807) (bt : Bool) (L : List (List Rc)) (Z : List Pl) (hT : Titles names L Z) (hZ : Z.length < 1000) (hn : L.length < 100) (g fa : Nat) (cs : List LV) (H : Heap) (hA : HpA L cs H) (hlen : ∀ r ∈ L, r.length ≤ 64)
    (hU : underB (H.length + 1) (.cells g cs fa :: H) = true) : ∀ (post pre : List Pl), Z = pre ++ post →
    execS P (limS P) c12_l4 ⟨T4 names (.slice 0 g 0 L.length none none) bt Z (.slice (H.length + 1) (1 + pre.length) 0 pre.length none none) Z.length pre.length, .cells g cs fa :: (H ++ [sB pre])⟩ = some (.exit 4, ⟨[.c (.slice (names.map CV.str)), .c (.bool bt), .c (.slice (Z.map Pl.enc))], .cells g cs fa :: (H ++ [sB Z])⟩) := by
  intro post
  induction post with
  | nil =>
    intro pre hp
    have hp : Z = pre := by simpa using hp
    subst hp
    rw [r12_l4]
    simp [T4, c12_l4b]
  | cons q post ih =>
    intro pre hp
    have ih := ih (pre ++ [q]) (by simpa using hp)
    have hq : Z[pre.length]? = some q := by rw [hp]; simp
    have hqm : q ∈ Z := List.mem_of_getElem? hq
    have hnd := hT.nodup
    have hup := hT.up
    rw [hp] at hnd hup
    have b4 := B12_4 (P := P) names hN bt pre post q (by rw [← hp]; exact hZ) L hn g fa cs H hA hlen hU (fun r hr x hx hl => hT.lost q hqm r hr x hx hl) (by
      rw [List.map_append, List.nodup_append] at hnd
      intro hm
      exact hnd.2.2 _ hm _ (by simp) rfl) (hT.mem q hqm) (by
      intro z hz
      rw [List.pairwise_append] at hup
      exact hup.2.2 z (List.mem_of_getLast? hz) q (by simp)) (fun h0 => hT.one _ q hq h0)
    rw [← hp] at b4
    rw [r12_l4, b4, seqK_normal]
    show execS P (limS P) c12_l4 (gc (.cells g cs fa :: (H ++ [sB pre])).length _) = _
    rw [gc_id (by simp) (under4 (by simp [LV.under]) (by simp [LV.under]))]
    simpa using ih
theorem B12_5 (names : List Str) (hN : (names.length : Int) < 9223372036854775807) (Z : List Pl) (hZ : Z.length < 1000) (i : Nat) (q : Pl) (hq : Z[i]? = some q) (hf : firstB names q = true) (h : Heap) :
    execS P (limS P) c12_l5b ⟨[.c (.slice (names.map CV.str)), .c (.slice (Z.map Pl.enc)), .c (ci Z.length), .c (ci i)], h⟩ = some (.normal, ⟨[.c (.slice (names.map CV.str)), .c (.slice (Z.map Pl.enc)), .c (ci Z.length), .c (ci (i + 1))], h⟩) := by
  obtain ⟨hil, hq'⟩ := List.getElem?_eq_some_iff.1 hq
  have hw : IntKind.i64.wrap ((i : Int) + 1) = (i : Int) + 1 := wrap64 (by omega) (by omega)
  have e80 := S80 (P := P) q.n names hN
  unfold firstB at hf
  generalize seedN names q.n = s at *
  simp only [Bool.and_eq_true, beq_iff_eq] at hf
  obtain ⟨⟨f1, f2⟩, f3⟩ := hf
  have c0 : ((s : Int) = 0) ↔ s = 0 := by omega
  have c1 : ((s : Int) = 1) ↔ s = 1 := by omega
  have c2 : ((s : Int) = 2) ↔ s = 2 := by omega
  have c3 : ((s : Int) = 3) ↔ s = 3 := by omega
  simp [c12_l5b, hil, hw, hq, hq', Pl.enc, e80]
  rw [decide_eq_decide] at f1 f2
  rw [Bool.eq_iff_iff] at f3
  simp only [decide_eq_true_eq, Bool.or_eq_true] at f3
  refine ⟨⟨?_, ?_⟩, ?_⟩ <;> rw [Bool.eq_iff_iff] <;> simp only [beq_iff_eq, decide_eq_true_eq, Bool.or_eq_true] <;> omega
theorem L12_5 (names : List Str) (hN : (names.length : Int) < 9223372036854775807) (Z : List Pl) (hZ : Z.length < 1000) (hf : ∀ q ∈ Z, firstB names q = true) (h : Heap) : ∀ (m i : Nat), i + m = Z.length →
    execS P (limS P) c12_l5 ⟨[.c (.slice (names.map CV.str)), .c (.slice (Z.map Pl.enc)), .c (ci Z.length), .c (ci i)], h⟩ = some (.exit 10, ⟨[], h⟩) := by
  intro m
  induction m with
  | zero =>
    intro i hi
    have hi' : i = Z.length := by omega
    rw [r12_l5]
    simp [c12_l5b, hi']
  | succ m ih =>
    intro i hi
    have hil : i < Z.length := by omega
    rw [r12_l5, B12_5 names hN Z hZ i Z[i] (List.getElem?_eq_getElem hil) (hf _ (List.getElem_mem hil)) h, seqK_normal]
    show execS P (limS P) c12_l5 (gc h.length _) = _
    rw [gc_id rfl (by
      intro v hv
      simp only [List.mem_cons, List.not_mem_nil, or_false] at hv
      rcases hv with rfl | rfl | rfl | rfl <;> rfl)]
    have ih := ih (i + 1) (by omega)
    simpa using ih
end LM.G6
namespace LM.G6
open Go LM
variable {P : Nat → Option SFunc} [Has P]
theorem bump_len (b t : Nat) (H : Heap) : (bump b t H).length = H.length := by
  unfold bump
  split <;> simp
theorem bump_get (b t : Nat) (H : Heap) {i g : Nat} {C : List LV} {f : Nat} (h : H[i]? = some (.cells g C f)) : ∃ f', (bump b t H)[i]? = some (.cells g C f') := by
  unfold bump
  split
  · rename_i g2 cs fz hb
    by_cases e : b = i
    · subst e
      rw [hb] at h
      cases h
      exact ⟨_, by rw [List.getElem?_set_self (List.getElem?_eq_some_iff.1 hb).1]⟩
    · exact ⟨f, by rw [List.getElem?_set_ne e]; exact h⟩
  · exact ⟨f, h⟩
theorem underB_setQ {n : Nat} : ∀ (H : Heap) (b : Nat) (X : LB), underB n H = true → X.under n = true → underB n (H.set b X) = true
  | [], _, _, h, _ => h
  | B :: r, b, X, h, hX => by
    rw [underB, Bool.and_eq_true] at h
    cases b with
    | zero => rw [List.set_cons_zero, underB, hX, h.2]; rfl
    | succ b => rw [List.set_cons_succ, underB, h.1, underB_setQ r b X h.2 hX]; rfl
theorem underB_getQ {n : Nat} : ∀ (H : Heap) (b : Nat) (X : LB), underB n H = true → H[b]? = some X → X.under n = true
  | [], _, _, _, h => by simp at h
  | B :: r, b, X, h, hX => by
    rw [underB, Bool.and_eq_true] at h
    cases b with
    | zero => simp at hX; subst hX; exact h.1
    | succ b => exact underB_getQ r b X h.2 (by simpa using hX)
theorem bump_under (b t : Nat) (H : Heap) {n : Nat} (h : underB n H = true) : underB n (bump b t H) = true := by
  unfold bump
  split
  · rename_i g2 cs fz hb
    exact underB_setQ _ _ _ h (by have := underB_getQ H b _ h hb; exact this)
  · exact h
theorem bump_succ (b t : Nat) (B : LB) (H : Heap) : bump (b + 1) t (B :: H) = B :: bump b t H := by
  unfold bump
  rw [List.getElem?_cons_succ]
  split <;> simp
theorem hold_bump (b t : Nat) {H : Heap} {v : LV} {r : List Rc} (h : Hold H v r) : Hold (bump b t H) v r := by
  obtain ⟨b2, f, e1, e2⟩ := h
  obtain ⟨f', e3⟩ := bump_get b t H e2
  exact ⟨b2, f', e1, e3⟩
theorem frz_rounds (B : LB) : ∀ (cs : List LV) (L : List (List Rc)) (H : Heap), cs.length = L.length → (∀ (i : Nat) (r : List Rc), L[i]? = some r → ∃ v, cs[i]? = some v ∧ Hold H v r) →
    ∃ H', mapH (frz 39) cs (B :: H) = some (L.map encR, B :: H') ∧ H'.length = H.length ∧ (∀ v r, Hold H v r → Hold H' v r) ∧ ∀ n, underB n H = true → underB n H' = true
  | [], L, H, hl, _ => by
    have : L = [] := List.eq_nil_of_length_eq_zero (by simpa using hl.symm)
    subst this
    exact ⟨H, rfl, rfl, fun _ _ h => h, fun _ h => h⟩
  | c :: cs, L, H, hl, h => by
    rcases L with _ | ⟨r, L⟩
    · simp at hl
    · obtain ⟨v, hv, b, f, e1, e2⟩ := h 0 r rfl
      simp at hv
      subst hv
      have hf := frz_own39 (b := b + 1) (g := 1) (fz := f) (e := some 3) (ys := r.map Rc.enc) (h := B :: H) (len := r.length) (by rw [List.getElem?_cons_succ]; exact e2) (Rc.elems _) (by simp) none
      rw [bump_succ] at hf
      obtain ⟨H', i1, i2, i3, i4⟩ := frz_rounds B cs L (bump b (r.length * szOf (some 3)) H) (by simpa using hl) (by
        intro i y hy
        obtain ⟨w, hw, hh⟩ := h (i + 1) y (by simpa using hy)
        exact ⟨w, by simpa using hw, hold_bump _ _ hh⟩)
      refine ⟨H', ?_, by rw [i2, bump_len], fun v y hv => i3 v y (hold_bump _ _ hv), fun n hn => i4 n (bump_under _ _ _ hn)⟩
      rw [mapH_cons, e1, hf, bnd_some]
      simp only [i1, bnd_some]
      rfl
theorem frz_all {L : List (List Rc)} {cs : List LV} {H : Heap} (hA : HpA L cs H) : ∃ H', frz frzDepth (AL L.length) (.cells (1 + L.length) cs 0 :: H) = some (.slice (L.map encR), .cells (1 + L.length) cs L.length :: H') ∧ HpA L cs H' ∧ H'.length = H.length ∧ ∀ n, underB n H = true → underB n H' = true := by
  obtain ⟨H', i1, i2, i3, i4⟩ := frz_rounds (.cells (1 + L.length) cs L.length) cs L H hA.1 hA.2
  refine ⟨H', ?_, ⟨hA.1, fun i r hr => ?_⟩, i2, i4⟩
  · unfold AL
    rw [frz_slice]
    have hc : chunk none L.length (L.map encR) = some (L.map encR) := chunk_one' (by simp)
    have ht : List.take L.length cs = cs := by rw [← hA.1]; exact List.take_length
    simp [bump, hA.1, ht, i1, hc]
  · obtain ⟨v, hv, hh⟩ := hA.2 i r hr
    exact ⟨v, hv, i3 v r hh⟩
end LM.G6
namespace LM.G6
open Go LM
variable {P : Nat → Option SFunc} [Has P] [HasP P]
theorem races_short {l : List Str} (h1 : 1 ≤ l.length) (hn : l.length ≤ 64) (hx : ∀ x ∈ l, x.length < 9223372036854775807) : ∀ x ∈ racesL l, x.a.length < 9223372036854775807 ∧ x.b.length < 9223372036854775807 := by
  have hs : ∀ s ∈ slotsL l, s.length < 9223372036854775807 := by
    intro s hs
    unfold slotsL at hs
    rw [List.mem_append] at hs
    rcases hs with hs | hs
    · obtain ⟨t, ht, rfl⟩ := List.mem_map.1 hs
      rcases slot_in (A := l) (brk_bound h1 hn t ht) with e | e
      · rw [e]; simp
      · exact hx _ e
    · split at hs
      · simp at hs
        subst hs
        simp
      · cases hs
  intro x hxm
  obtain ⟨a, b⟩ := pairs_mem _ _ (Nat.le_refl _) x hxm
  exact ⟨hs _ a, hs _ b⟩
theorem chain_sub : ∀ (L : List (List Rc)) (p : List Rc), Chain (p :: L) → ∀ r ∈ p :: L, ∀ s ∈ namesR r, s ∈ namesR p
  | [], p, _, r, hr, s, hs => by
    simp at hr
    subst hr
    exact hs
  | q :: L, p, h, r, hr, s, hs => by
    obtain ⟨h1, h2, h3, h4, h5⟩ := h
    rcases List.mem_cons.1 hr with rfl | hr
    · exact hs
    · have hq := chain_sub L q h5 r hr s hs
      have hp : p.length = 2 ∨ p.length = 4 ∨ p.length = 8 ∨ p.length = 16 ∨ p.length = 32 := by
        unfold racesE at h1
        split at h1
        · omega
        · cases h1
      have hn : namesR q = (p.map winR).filter neB := by
        rw [names_key h4]
        exact pairsL_names _ _ (Nat.le_refl _) (by rw [List.length_map]; omega)
      rw [hn] at hq
      exact (wins_sub p).subset hq
theorem chain_short {L : List (List Rc)} {p l : List Rc} (h : Chain (p :: L)) (hk : p.map keyR = l.map keyR) (hl : ∀ s ∈ namesR l, s.length < 9223372036854775807) : ∀ r ∈ p :: L, ∀ y ∈ r, y.a.length < 9223372036854775807 ∧ y.b.length < 9223372036854775807 := by
  have key : ∀ r ∈ p :: L, ∀ s ∈ namesR r, s.length < 9223372036854775807 := fun r hr s hs => hl s (names_key hk ▸ chain_sub L p h r hr s hs)
  have hm : ∀ (r : List Rc), ∀ y ∈ r, ∀ s, (s = y.a ∨ s = y.b) → s ≠ [] → s ∈ namesR r := by
    intro r y hy s hs hne
    unfold namesR
    refine List.mem_flatMap.2 ⟨y, hy, ?_⟩
    rw [List.mem_filter]
    exact ⟨by rcases hs with rfl | rfl <;> simp, by simp [hne]⟩
  intro r hr y hy
  constructor
  · by_cases e : y.a = []
    · rw [e]; simp
    · exact key r hr _ (hm r y hy _ (.inl rfl) e)
  · by_cases e : y.b = []
    · rw [e]; simp
    · exact key r hr _ (hm r y hy _ (.inr rfl) e)
theorem S12 (h16 : fn P 16 [] = some (.bool true)) (T : Tabs P) (names : List Str) (dec : List Nat) (hN : (names.length : Int) < 9223372036854775807) (hx : ∀ x ∈ names, x.length < 9223372036854775807) (hD : (dec.length : Int) < 9223372036854775807)
    (h66 : ∀ (L : List (List Rc)) (x : Rc), roundsE L = 0 → L.getLast? = some [x] → (∀ r ∈ L, racesE r = 0) → (∀ r ∈ L, ∀ y ∈ r, y.a.length < 9223372036854775807 ∧ y.b.length < 9223372036854775807) → fn P 66 [.slice (L.map encR)] = some (.tuple [.slice ((placesS L x).map Pl.enc), ci 0])) :
    fn P 12 [.slice (names.map CV.str), .slice (dec.map u8C)] = some (.bool true) := by
  have e51 := S51 (P := P) names hN
  rw [u12]
  by_cases h32 : (32 : Int) < names.length
  · simp [c12, h16, h32]
  by_cases h40 : (40 : Int) < dec.length
  · simp [c12, h16, h32, h40]
  by_cases hE' : ¬ namesE names = 0
  · simp [c12, h16, h32, h40, e51, hE']
  have hE : namesE names = 0 := by simpa using hE'
  rw [hE] at e51
  have e50 := S50 (P := P) names hN hx
  rw [if_pos hE] at e50
  obtain ⟨n1, n64, hnd, hi, hne⟩ := names_ok hE
  have hfg := first_good hE
  have hshort := races_short n1 n64 hx
  have hrl := good_pos hfg
  obtain ⟨cs, H, k1, hA, hU⟩ := L12_1 (P := P) T names dec hN 6 (racesL names) 0 true 0 [] [] [] hfg hshort (by omega) rfl (by omega) rfl ⟨rfl, by simp⟩ rfl
  obtain ⟨p, L, x, eL, hchain, hkey, hle, hlast, hxw⟩ := runs_chain names dec 6 (racesL names) 0 true hfg (by omega)
  simp only [List.nil_append] at k1 hA hU
  have hfirst := fun hb => better_first (dec := dec) hE (by omega) hb (x := x) (by rw [eL]; exact hlast)
  rw [eL] at k1 hA hU hfirst
  generalize runsB names dec 6 (racesL names) 0 true = bt at *
  have hgood := chain_good L p hchain
  have hR := chain_rounds hchain (by omega) hlast hxw
  have hT := titles hE hchain hlast hkey
  have hshort2 := chain_short hchain hkey (by
    intro s hs
    exact hx s ((first_names n1 n64 hne).mem_iff.1 hs))
  have e66 := h66 _ x hR hlast hgood hshort2
  obtain ⟨H2, hfz, hA2, hH2, hU2⟩ := frz_all hA
  generalize placesS (p :: L) x = Z at *
  generalize hLL : p :: L = M at *
  have hM0 : M.length ≠ 0 := by rw [← hLL]; simp
  have hZl := hT.len
  have hU3 : underB (H2.length + 1) (.cells (1 + M.length) cs M.length :: H2) = true := by
    rw [underB, Bool.and_eq_true] at hU ⊢
    rw [hH2]
    exact ⟨hU.1, hU2 _ hU.2⟩
  have k4 := L12_4 (P := P) names hN bt M Z hT (by omega) (by omega) (1 + M.length) M.length cs H2 hA2 (fun r hr => by have := good_pos (hgood r hr); omega) hU3 Z [] rfl
  have hlen1 : M[M.length - 1]? = some [x] := by rw [← List.getLast?_eq_getElem?]; exact hlast
  obtain ⟨v, hv, b, fb, e1, e2⟩ := hA2.2 _ _ hlen1
  rw [e1] at hv
  obtain ⟨hvl, hv'⟩ := List.getElem?_eq_some_iff.1 hv
  have hw1 : IntKind.i64.wrap ((M.length : Int) - 1) = ((M.length - 1 : Nat) : Int) := by rw [show (M.length : Int) - 1 = ((M.length - 1 : Nat) : Int) from by omega]; exact wrap64 (by omega) (by omega)
  have hpos : M.length - 1 < M.length := by omega
  have k5 := fun hb h => L12_5 (P := P) names hN Z (by omega) (hfirst hb) h Z.length 0 (by omega)
  simp only [T11, rV, AL, List.length_nil] at k1
  simp only [AL] at hfz
  simp only [T4, List.length_nil] at k4
  have hs0 : sB [] = .cells 1 [] 0 := rfl
  rw [hs0] at k4
  have hZl' : (Z.length : Int) = names.length := by omega
  simp [-frz_slice, hZl'] at k1 k4 hfz k5
  cases bt
  · simp [c12, h16, h32, h40, e51, e50, k1, hfz, e66, hw1, hpos, hv, hv', hvl, k4, hZl', -frz_slice]
  · simp [c12, h16, h32, h40, e51, e50, k1, hfz, e66, hw1, hpos, hv, hv', hvl, k4, k5, hZl', -frz_slice]
end LM.G6
