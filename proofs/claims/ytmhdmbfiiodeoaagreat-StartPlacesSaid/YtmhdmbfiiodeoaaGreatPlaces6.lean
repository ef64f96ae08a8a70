/- Part 9 of what YtmhdmbfiiodeoaaGreatPlaces leans on. -/
import Derived.Test.YtmhdmbfiiodeoaaGreatRows
import Derived.WalkKit
import Derived.ProofKit
import Derived.SizedLaws
import Derived.Test.YtmhdmbfiiodeoaaGreatPlacesL1
import Derived.Test.YtmhdmbfiiodeoaaGreatPlacesL2
import Derived.Test.YtmhdmbfiiodeoaaGreatPlacesL3
import Derived.Test.YtmhdmbfiiodeoaaGreatPlaces1
import Derived.Test.YtmhdmbfiiodeoaaGreatPlaces2
import Derived.Test.YtmhdmbfiiodeoaaGreatPlaces3
import Derived.Test.YtmhdmbfiiodeoaaGreatPlaces4
import Derived.Test.YtmhdmbfiiodeoaaGreatPlaces5
set_option linter.all false
namespace Go.Proofs.YtmhdmbfiiodeoaaGreat
open Go.ChangeShapes Go.WideShapes Go.ChangeAt Go.RowKit
theorem own_knob : ownKnob Tryz.prog.godebug = none := by kernel_rfl
theorem laid_out : laidOutB Tryz.prog = true := by kernel_rfl
theorem maps_rowed : mapsRowed Tryz.prog = true := by kernel_rfl
theorem slices_full : LM.slicesFullB Tryz.prog = true := by kernel_rfl
theorem typed_map {α : Type} {enc : α → LM.CV} {p : α → Prop} {e : LM.CTy} (h : ∀ x, LM.Typed e x → ∃ a, x = enc a ∧ p a) : ∀ {xs : List LM.CV}, (∀ x ∈ xs, LM.Typed e x) → ∃ l : List α, xs = l.map enc ∧ ∀ a ∈ l, p a
  | [], _ => ⟨[], rfl, by simp⟩
  | x :: xs, hx => by
    obtain ⟨a, ha, hp⟩ := h x (hx x (by simp))
    obtain ⟨l, hl, hq⟩ := typed_map h (xs := xs) fun y hy => hx y (by simp [hy])
    exact ⟨a :: l, by rw [ha, hl]; rfl, fun b hb => by rcases List.mem_cons.1 hb with rfl | hb; exact hp; exact hq b hb⟩
theorem typed_slice {α : Type} {enc : α → LM.CV} {p : α → Prop} {e : LM.CTy} {b : Nat} (h : ∀ x, LM.Typed e x → ∃ a, x = enc a ∧ p a) {v : LM.CV} (hv : LM.Typed (.slice b e) v) : ∃ l : List α, v = .slice (l.map enc) ∧ (∀ a ∈ l, p a) ∧ l.length * b ≤ 2 ^ 47 := by
  simp only [LM.Typed] at hv
  obtain ⟨xs, rfl, _, hb, hx⟩ := hv
  obtain ⟨l, rfl, hp⟩ := typed_map h hx
  refine ⟨l, rfl, hp, ?_⟩
  rw [List.length_map] at hb
  exact Nat.le_trans hb (by decide)
theorem typed_str {v : LM.CV} (hv : LM.Typed .str v) : ∃ s : LM.Str, v = .str s ∧ s.length < 9223372036854775807 := by
  simp only [LM.Typed] at hv
  obtain ⟨s, rfl, h⟩ := hv
  exact ⟨s, rfl, Nat.lt_of_le_of_lt h (by decide)⟩
theorem typed_int {v : LM.CV} (hv : LM.Typed (.int .i64) v) : ∃ n, v = LM.ci n ∧ -9223372036854775808 ≤ n ∧ n ≤ 9223372036854775807 := by
  simp only [LM.Typed] at hv
  obtain ⟨n, rfl, h⟩ := hv
  refine ⟨n, rfl, ?_⟩
  simp [Lit.wf, IntKind.min, IntKind.max, IntKind.bits, IntKind.signed] at h
  omega
end Go.Proofs.YtmhdmbfiiodeoaaGreat
namespace LM.G6
open Go LM
variable {P : Nat → Option SFunc} [Has P]
@[simp] theorem S89 (b : Bool) (e : Int) : fn P 89 [.bool b, ci e] = some (ci (whenE b e)) := by
  rw [u89]; cases b <;> simp [c89, whenE]
@[simp] theorem S141 (c : Nat) : fn P 141 [.int .i32 c] = some (.bool (letterN c)) := by
  rw [u141]; simp [c141, letterN]
  rw [show decide ((97 : Int) ≤ c) = decide (97 ≤ c) from decide_eq_decide.2 (by omega), show decide ((c : Int) ≤ 122) = decide (c ≤ 122) from decide_eq_decide.2 (by omega),
    show decide ((65 : Int) ≤ c) = decide (65 ≤ c) from decide_eq_decide.2 (by omega), show decide ((c : Int) ≤ 90) = decide (c ≤ 90) from decide_eq_decide.2 (by omega)]
theorem L88 : ∀ (l pre : List Int), (l.length : Int) + pre.length < 9223372036854775807 → execS P (limS P) c88_l0 ⟨[.c (.slice ((pre ++ l).map ci)), .c (ci (pre ++ l).length), .c (ci pre.length)], []⟩ = if firstE l = 0 then some (.exit 0, ⟨[], []⟩) else some (.ret, ⟨[.c (ci (firstE l))], []⟩) := by
  intro l
  induction l with
  | nil =>
    intro pre h
    rw [r88_l0]
    simp [c88_l0b, firstE]
  | cons c r ih =>
    intro pre h
    have ih := ih (pre ++ [c]) (by simp at h ⊢; omega)
    simp at ih h
    have hw : IntKind.i64.wrap (↑pre.length + 1) = ↑pre.length + 1 := wrap64 (by omega) (by omega)
    have hlt : (pre.length : Int) < pre.length + (r.length + 1) := by omega
    rw [r88_l0]
    by_cases hc : c = 0
    · subst hc
      simp [c88_l0b, firstE, hw, hlt, ih]
    · simp [c88_l0b, firstE, hw, hlt, hc]
@[simp] theorem S88 (l : List Int) (h : l.length < 9223372036854775807) : fn P 88 [.slice (l.map ci)] = some (ci (firstE l)) := by
  have := L88 (P := P) l [] (by simp; omega)
  rw [u88]
  simp at this
  simp [c88, this]
  by_cases hc : firstE l = 0 <;> simp [hc]
@[simp] theorem S88_1 (a : Int) : fn P 88 [.slice [ci a]] = some (ci (firstE [a])) := S88 [a] (by simp)
@[simp] theorem S88_2 (a b : Int) : fn P 88 [.slice [ci a, ci b]] = some (ci (firstE [a, b])) := S88 [a, b] (by simp)
@[simp] theorem S88_3 (a b c : Int) : fn P 88 [.slice [ci a, ci b, ci c]] = some (ci (firstE [a, b, c])) := S88 [a, b, c] (by simp)
@[simp] theorem S88_4 (a b c d : Int) : fn P 88 [.slice [ci a, ci b, ci c, ci d]] = some (ci (firstE [a, b, c, d])) := S88 [a, b, c, d] (by simp)
@[simp] theorem S88_5 (a b c d e : Int) : fn P 88 [.slice [ci a, ci b, ci c, ci d, ci e]] = some (ci (firstE [a, b, c, d, e])) := S88 [a, b, c, d, e] (by simp)
theorem L22 : ∀ (l pre : List Int), (l.length : Int) + pre.length < 9223372036854775807 → execS P (limS P) c22_l0 ⟨[.c (.slice ((pre ++ l).map ci)), .c (ci pre.length)], []⟩ = if firstE l = 0 then some (.exit 0, ⟨[], []⟩) else some (.ret, ⟨[.c (ci (firstE l))], []⟩) := by
  intro l
  induction l with
  | nil =>
    intro pre h
    rw [r22_l0]
    simp [c22_l0b, firstE]
  | cons c r ih =>
    intro pre h
    have ih := ih (pre ++ [c]) (by simp at h ⊢; omega)
    simp at ih h
    have hw : IntKind.i64.wrap (↑pre.length + 1) = ↑pre.length + 1 := wrap64 (by omega) (by omega)
    have hlt : (pre.length : Int) < pre.length + (r.length + 1) := by omega
    rw [r22_l0]
    by_cases hc : c = 0
    · subst hc
      simp [c22_l0b, firstE, hw, hlt, ih]
    · simp [c22_l0b, firstE, hw, hlt, hc]
@[simp] theorem S22 (l : List Int) (h : l.length < 9223372036854775807) : fn P 22 [.slice (l.map ci)] = some (ci (firstE l)) := by
  have := L22 (P := P) l [] (by simp; omega)
  rw [u22]
  simp at this
  simp [c22, this]
  by_cases hc : firstE l = 0 <;> simp [hc]
@[simp] theorem S22_2 (a b : Int) : fn P 22 [.slice [ci a, ci b]] = some (ci (firstE [a, b])) := S22 [a, b] (by simp)
@[simp] theorem S22_3 (a b c : Int) : fn P 22 [.slice [ci a, ci b, ci c]] = some (ci (firstE [a, b, c])) := S22 [a, b, c] (by simp)
@[simp] theorem S22_4 (a b c d : Int) : fn P 22 [.slice [ci a, ci b, ci c, ci d]] = some (ci (firstE [a, b, c, d])) := S22 [a, b, c, d] (by simp)
theorem L85 (s : Str) (hs : s.length ≤ 24) : ∀ (l pre : Str), s = pre ++ l → execS P (limS P) c85_l0 ⟨[.c (.str s), .c (ci pre.length)], []⟩ = if nameFrom pre.length l then some (.exit 0, ⟨[], []⟩) else some (.ret, ⟨[.c (.bool false)], []⟩) := by
  intro l
  induction l with
  | nil =>
    intro pre h
    rw [r85_l0]
    simp [c85_l0b, h, nameFrom]
  | cons c r ih =>
    intro pre h
    have ih := ih (pre ++ [c]) (by simp [h])
    simp at ih
    rw [h] at hs
    simp at hs
    have hw : IntKind.i64.wrap (↑pre.length + 1) = ↑pre.length + 1 := wrap64 (by omega) (by omega)
    have hlt : (pre.length : Int) < pre.length + (r.length + 1) := by omega
    have hn : (((↑c.toNat : Int) < 97 ∨ 122 < (↑c.toNat : Int)) ∧ ((↑c.toNat : Int) < 65 ∨ 90 < (↑c.toNat : Int))) ∧ (pre = [] ∨ ((↑c.toNat : Int) < 48 ∨ 57 < (↑c.toNat : Int)) ∧ ¬(↑c.toNat : Int) = 95) ↔ nameN pre.length c.toNat = false := by
      have hp : pre = [] ↔ pre.length = 0 := by simp
      unfold nameN letterN digitN
      cases pre with
      | nil => simp; omega
      | cons x y => simp; omega
    rw [r85_l0]
    simp [c85_l0b, h, nameFrom, hw, hlt, hn]
    rw [← h, ih]
    cases nameN pre.length c.toNat <;> simp
@[simp] theorem S85 (s : Str) : fn P 85 [.str s] = some (.bool (isName s)) := by
  rw [u85]
  by_cases h1 : s.length < 1
  · have : s = [] := List.eq_nil_of_length_eq_zero (by omega)
    subst this
    simp [c85, isName]
  · by_cases h2 : s.length > 24
    · have h3 : ¬ (s.length : Int) < 1 := by omega
      have h4 : (24 : Int) < (s.length : Int) := by omega
      have h5 : ¬ s.length ≤ 24 := by omega
      simp [c85, isName, h3, h4, h5]
    · have := L85 (P := P) s (by omega) s [] rfl
      simp at this
      have h3 : ¬ (s.length : Int) < 1 := by omega
      have h4 : ¬ (24 : Int) < (s.length : Int) := by omega
      have h5 : s.length ≤ 24 := by omega
      have h6 : 1 ≤ s.length := by omega
      simp [c85, isName, h3, h4, h5, h6, this]
      cases nameFrom 0 s <;> simp
theorem L90 (s : Str) (hs : s.length < 9223372036854775807) : ∀ (l pre : Str), s = pre ++ l → ∃ q, execS P (limS P) c90_l0 ⟨[.c (.str s), .ptr 0 0 0], [.iter s pre.length]⟩ = if nameFrom pre.length l then some (.exit 0, ⟨[.c (.str s)], [.iter s s.length]⟩) else some (.ret, ⟨[.c (.bool false)], [.iter s q]⟩) := by
  intro l
  induction l with
  | nil =>
    intro pre h
    refine ⟨0, ?_⟩
    rw [r90_l0]
    simp [c90_l0b, h, nameFrom]
  | cons c r ih =>
    intro pre h
    obtain ⟨q, ih⟩ := ih (pre ++ [c]) (by simp [h])
    simp at ih
    have hc : s[pre.length]? = some c := by simp [h]
    rw [r90_l0]
    rcases Nat.lt_or_ge c.toNat 128 with hlo | hhi
    · have hd := decode_lo hc hlo
      rw [h] at hd
      have hn : (letterN c.toNat = false ∧ (pre = [] ∨ ¬(↑c.toNat : Int) = 95 ∧ ((↑c.toNat : Int) < 48 ∨ 57 < (↑c.toNat : Int)))) ↔ nameN pre.length c.toNat = false := by
        unfold nameN digitN
        cases pre with
        | nil => simp
        | cons x y => simp; cases letterN c.toNat <;> simp; omega
      refine ⟨if nameN pre.length c.toNat = false then pre.length + 1 else q, ?_⟩
      simp [c90_l0b, h, nameFrom, hd, hn]
      rw [h] at ih
      simp at ih
      cases nameN pre.length c.toNat <;> simp [ih]
    · have hd := decode_hi hc hhi
      rw [h] at hd
      have hl : letterN (Utf8.decode { data := List.toArray (pre ++ c :: r) } pre.length).fst = false := by
        have := nameN_hi (i := 0) hd
        simpa [nameN] using this
      have h1 : ¬ (↑(Utf8.decode { data := List.toArray (pre ++ c :: r) } pre.length).fst : Int) = 95 := by omega
      have h2 : (57 : Int) < (↑(Utf8.decode { data := List.toArray (pre ++ c :: r) } pre.length).fst : Int) := by omega
      refine ⟨pre.length + (Utf8.decode { data := List.toArray (pre ++ c :: r) } pre.length).snd, ?_⟩
      simp [c90_l0b, h, nameFrom, hl, h1, h2, nameN_hi hhi]
@[simp] theorem S90 (s : Str) (hs : s.length < 9223372036854775807) : fn P 90 [.str s] = some (.bool (isName s)) := by
  rw [u90]
  obtain ⟨q, this⟩ := L90 (P := P) s hs s [] rfl
  simp at this
  simp [c90, this]
  cases hn : nameFrom 0 s
  · simp [isName, hn]
  · cases s with
    | nil => simp [isName]
    | cons c r =>
      simp [isName, hn]
      omega
end LM.G6
namespace LM.G6
open Go LM
variable {P : Nat → Option SFunc} [Has P]
structure Lic where
  name : Str
  frm : Int
  to : Int
def Lic.enc (x : Lic) : CV := .agg [.str x.name, ci x.frm, ci x.to]
def Lic.ok (x : Lic) : Prop := x.name.length < 9223372036854775807
/-- The first error of a list's elements. -/
def eachE {α : Type} (chk : List α → α → Int) : List α → List α → Int
  | _, [] => 0
  | pre, x :: r => if chk pre x ≠ 0 then chk pre x else eachE chk (pre ++ [x]) r
end LM.G6
namespace LM.G6
open Go LM
variable {P : Nat → Option SFunc} [Has P]
def Str.is (s : Str) (x : Str) : Bool := x == s
theorem Str.is_eq (s x : Str) : Str.is s x = decide (x = s) := by unfold Str.is; by_cases h : x = s <;> simp [h]
theorem L81 (s : Str) : ∀ (l pre : List Str), ((pre ++ l).length : Int) < 9223372036854775807 →
    execS P (limS P) c81_l0 ⟨[.c (.slice ((pre ++ l).map CV.str)), .c (.str s), .c (ci pre.length)], []⟩ = if l.any (Str.is s) then some (.ret, ⟨[.c (.bool true)], []⟩) else some (.exit 0, ⟨[], []⟩) := by
  intro l
  induction l with
  | nil =>
    intro pre h
    rw [r81_l0]
    simp [c81_l0b]
  | cons x r ih =>
    intro pre h
    have ih := ih (pre ++ [x]) (by simpa using h)
    simp at ih h
    have hw : IntKind.i64.wrap (↑pre.length + 1) = ↑pre.length + 1 := wrap64 (by omega) (by omega)
    have hlt : (pre.length : Int) < pre.length + (r.length + 1) := by omega
    have e := Str.is_eq s x
    rw [r81_l0]
    by_cases h0 : x = s
    · simp only [h0, decide_true] at e
      simp [c81_l0b, hw, hlt, h0, e]
    · simp only [h0, decide_false] at e
      simp [c81_l0b, hw, hlt, h0, e, ih]
theorem S81 (s : Str) (l : List Str) (h : (l.length : Int) < 9223372036854775807) : fn P 81 [.slice (l.map CV.str), .str s] = some (.bool (l.any (Str.is s))) := by
  have hl := L81 (P := P) s l [] (by simpa using h)
  simp [-List.any_eq_true] at hl
  rw [u81]
  cases h0 : l.any (Str.is s) <;> rw [h0] at hl <;> simp [c81, hl]
end LM.G6
namespace LM.G6
open Go LM
def chkI (r : Option CV) (x : Int) : Bool := match r with
  | some (.int .i64 v) => v == x
  | _ => false
theorem chkI_eq {r : Option CV} {x : Int} (h : chkI r x = true) : r = some (ci x) := by
  unfold chkI at h
  split at h
  · simp only [beq_iff_eq] at h; rw [h]
  · cases h
/-- How many bits a number has. -/
def blen : Nat → Nat → Nat
  | 0, _ => 0
  | f + 1, x => if x = 0 then 0 else blen f (x / 2) + 1
def pops : Nat → Nat → Nat
  | 0, _ => 0
  | f + 1, x => x % 2 + pops f (x / 2)
/-- What the program's small functions answer, reckoned. -/
structure Tabs (P : Nat → Option SFunc) : Prop where
  len : ∀ x : Nat, x < 64 → fn P 111 [.int .u64 x] = some (ci (blen 7 x))
  pop : ∀ x : Nat, x ≤ 64 → fn P 117 [.int .u64 x] = some (ci (pops 7 x))
end LM.G6
namespace LM.G6
open Go LM
theorem all_range {p : Nat → Bool} {n : Nat} (h : (List.range n).all p = true) : ∀ k, k < n → p k = true := by
  intro k hk
  rw [List.all_eq_true] at h
  exact h k (List.mem_range.2 hk)
end LM.G6
namespace LM.G6
open Go LM
variable {P : Nat → Option SFunc} [Has P]
@[simp] theorem S23 (n a b : Int) : fn P 23 [ci n, ci a, ci b] = some (ci (whenE (outside n a b) 3)) := by
  rw [u23]
  unfold outside whenE
  by_cases h1 : n < a <;> by_cases h2 : b < n <;> simp [c23, h1, h2]
@[simp] theorem S91 (n a b : Int) : fn P 91 [ci n, ci a, ci b] = some (ci (whenE (outside n a b) 3)) := by
  rw [u91]
  unfold outside
  by_cases h1 : n < a <;> by_cases h2 : b < n <;> simp [c91, h1, h2]
theorem L153 : ∀ (r pre : List Int) (m : Int), ((pre ++ r).length : Int) < 9223372036854775807 →
    execS P (limS P) c153_l0 ⟨[.c (.slice ((pre ++ r).map ci)), .c (ci m), .c (ci pre.length)], []⟩ = some (.exit 0, ⟨[.c (ci (r.foldl min m))], []⟩) := by
  intro r
  induction r with
  | nil =>
    intro pre m h
    rw [r153_l0]
    simp [c153_l0b]
  | cons x r ih =>
    intro pre m h
    have ih := fun m => ih (pre ++ [x]) m (by simpa using h)
    simp at ih h
    have hw : IntKind.i64.wrap (↑pre.length + 1) = ↑pre.length + 1 := wrap64 (by omega) (by omega)
    have hlt : (pre.length : Int) < pre.length + (r.length + 1) := by omega
    have hm : (if x < m then x else m) = min m x := by split <;> omega
    rw [r153_l0]
    simp [c153_l0b, hw, hlt, foldInt, hm, ih]
theorem S153 (x : Int) (l : List Int) (h : (l.length : Int) < 1000) : fn P 153 [.slice ((x :: l).map ci)] = some (ci (l.foldl min x)) := by
  have := L153 (P := P) l [x] x (by simp; omega)
  simp at this
  rw [u153]
  have h1 : ¬ (l.length : Int) + 1 < 1 := by omega
  simp [c153, h1, this]
theorem L154 : ∀ (r pre : List Int) (m : Int), ((pre ++ r).length : Int) < 9223372036854775807 →
    execS P (limS P) c154_l0 ⟨[.c (.slice ((pre ++ r).map ci)), .c (ci m), .c (ci pre.length)], []⟩ = some (.exit 0, ⟨[.c (ci (r.foldl max m))], []⟩) := by
  intro r
  induction r with
  | nil =>
    intro pre m h
    rw [r154_l0]
    simp [c154_l0b]
  | cons x r ih =>
    intro pre m h
    have ih := fun m => ih (pre ++ [x]) m (by simpa using h)
    simp at ih h
    have hw : IntKind.i64.wrap (↑pre.length + 1) = ↑pre.length + 1 := wrap64 (by omega) (by omega)
    have hlt : (pre.length : Int) < pre.length + (r.length + 1) := by omega
    have hm : (if m < x then x else m) = max m x := by split <;> omega
    rw [r154_l0]
    simp [c154_l0b, hw, hlt, foldInt, hm, ih]
theorem S154 (x : Int) (l : List Int) (h : (l.length : Int) < 1000) : fn P 154 [.slice ((x :: l).map ci)] = some (ci (l.foldl max x)) := by
  have := L154 (P := P) l [x] x (by simp; omega)
  simp at this
  rw [u154]
  have h1 : ¬ (l.length : Int) + 1 < 1 := by omega
  simp [c154, h1, this]
/-- Is a time of some out of its bounds? -/
def badT (x : Int) : Bool := outside x 0 86399999
theorem S124 (x : Int) (l : List Int) (h : (l.length : Int) < 1000) : fn P 124 [.slice ((x :: l).map ci)] = some (ci (whenE ((x :: l).any badT) 3)) := by
  have e1 := S153 (P := P) x l h
  have e2 := S154 (P := P) x l h
  have hmin : ∀ (l : List Int) (x : Int), l.foldl min x < 0 ↔ (x < 0 ∨ ∃ y ∈ l, y < 0) := by
    intro l
    induction l with
    | nil => simp
    | cons a r ih => intro x; have q : min x a < 0 ↔ x < 0 ∨ a < 0 := by omega
                     rw [List.foldl_cons, ih, q]; simp [or_assoc]
  have hmax : ∀ (l : List Int) (x : Int), 86399999 < l.foldl max x ↔ (86399999 < x ∨ ∃ y ∈ l, 86399999 < y) := by
    intro l
    induction l with
    | nil => simp
    | cons a r ih => intro x; have q : 86399999 < max x a ↔ 86399999 < x ∨ 86399999 < a := by omega
                     rw [List.foldl_cons, ih, q]; simp [or_assoc]
  have e : (x :: l).any badT = (decide (l.foldl min x < 0) || decide (86399999 < l.foldl max x)) := by
    rw [Bool.eq_iff_iff]
    simp only [Bool.or_eq_true, decide_eq_true_eq, hmin, hmax, List.any_eq_true, badT, outside]
    constructor
    · rintro ⟨y, hy, h⟩
      simp at h hy
      rcases hy with rfl | hy
      · rcases h with h | h
        · exact .inl (.inl h)
        · exact .inr (.inl h)
      · rcases h with h | h
        · exact .inl (.inr ⟨y, hy, h⟩)
        · exact .inr (.inr ⟨y, hy, h⟩)
    · rintro ((h | ⟨y, hy, h⟩) | (h | ⟨y, hy, h⟩))
      · exact ⟨x, by simp, by simp [h]⟩
      · exact ⟨y, by simp [hy], by simp [h]⟩
      · exact ⟨x, by simp, by simp [h]⟩
      · exact ⟨y, by simp [hy], by simp [h]⟩
  rw [e, u124]
  simp at e1 e2
  by_cases h1 : l.foldl min x < 0 <;> by_cases h2 : 86399999 < l.foldl max x <;> simp [c124, e1, e2, h1, h2]
end LM.G6
namespace LM.G6
open Go LM
variable {P : Nat → Option SFunc} [Has P]
/-- Both slots that a slot becomes. -/
def two (m : Nat) (s : Int) : List Int := [s, 2 * (m : Int) + 1 - s]
end LM.G6
namespace LM.G6
open Go LM
theorem u64_all : (List.range 64).all (fun x => IntKind.u64.wrap ((x : Nat) : Int) == ((x : Nat) : Int)) = true := by decide +kernel
end LM.G6
namespace LM.G6
open Go LM
theorem strElem (s : Str) : Elem none (CV.str s) := ⟨rfl, rfl⟩
theorem strElems (l : List Str) : ∀ x ∈ l.map CV.str, Elem none x := by
  intro x hx
  obtain ⟨y, _, rfl⟩ := List.mem_map.1 hx
  exact strElem y
end LM.G6
namespace LM.G6
open Go LM
variable {P : Nat → Option SFunc} [Has P]
structure Pr where
  a : Int
  b : Int
def Pr.enc (x : Pr) : CV := .agg [ci x.a, ci x.b]
theorem Pr.elem (x : Pr) : Elem (some 2) x.enc := ⟨_, rfl, rfl, by simp⟩
theorem Pr.elems (l : List Pr) : ∀ x ∈ l.map Pr.enc, Elem (some 2) x := by
  intro x hx
  obtain ⟨y, _, rfl⟩ := List.mem_map.1 hx
  exact y.elem
end LM.G6
namespace LM.G6
open Go LM
variable {P : Nat → Option SFunc} [Has P]
structure Rc where
  a : Str
  b : Str
  w : Int
def Rc.enc (x : Rc) : CV := .agg [.str x.a, .str x.b, ci x.w]
theorem Rc.elem (x : Rc) : Elem (some 3) x.enc := ⟨_, rfl, rfl, by simp⟩
theorem Rc.elems (l : List Rc) : ∀ x ∈ l.map Rc.enc, Elem (some 3) x := by
  intro x hx
  obtain ⟨y, _, rfl⟩ := List.mem_map.1 hx
  exact y.elem
/-- Who wins a race from the beginning. -/
def walkV (a b : Str) : Int := if a = [] ∧ b = [] then 3 else if b = [] then 1 else if a = [] then 2 else 0
def decR (a b : Str) : Rc := ⟨a, b, walkV a b⟩
def pairsL : List Str → List Rc
  | a :: b :: r => decR a b :: pairsL r
  | _ => []
@[simp] theorem S116 (a b : Str) : fn P 116 [.str a, .str b] = some (ci (walkV a b)) := by
  rw [u116]
  unfold walkV
  by_cases h1 : a = [] <;> by_cases h2 : b = [] <;> simp [c116, h1, h2]
@[simp] theorem S118 (a b : Str) : fn P 118 [.str a, .str b] = some (decR a b).enc := by
  rw [u118]
  have w1 : IntKind.i64.wrap 1 = 1 := rfl
  have w2 : IntKind.i64.wrap 2 = 2 := rfl
  have w3 : IntKind.i64.wrap 3 = 3 := rfl
  unfold decR walkV
  by_cases h1 : a = [] <;> by_cases h2 : b = [] <;> simp [c118, h1, h2, w1, w2, w3, Rc.enc]
  all_goals rfl
theorem L114 : ∀ (k : Nat) (r pre : List Str) (ys : List Rc), r.length ≤ k → ((pre ++ r).length : Int) < 1000 → ys.length ≤ 1000 - r.length →
    execS P (limS P) c114_l0 ⟨[.c (.slice ((pre ++ r).map CV.str)), .slice 1 (1 + ys.length) 0 ys.length (some 3) none, .c (ci pre.length)], [.cells 1 [] 0, .cells (1 + ys.length) (cellsOf (ys.map Rc.enc)) 0]⟩ =
      some (.exit 0, ⟨[.slice 1 (1 + (ys ++ pairsL r).length) 0 (ys ++ pairsL r).length (some 3) none], [.cells 1 [] 0, .cells (1 + (ys ++ pairsL r).length) (cellsOf ((ys ++ pairsL r).map Rc.enc)) 0]⟩) := by
  intro k
  induction k with
  | zero =>
    intro r pre ys hr h hy
    have : r = [] := by simpa using hr
    subst this
    simp at h
    have hw : IntKind.i64.wrap (↑pre.length + 1) = ↑pre.length + 1 := wrap64 (by omega) (by omega)
    have hlt : ¬ (pre.length : Int) + 1 < pre.length := by omega
    rw [r114_l0]
    simp [c114_l0b, pairsL, hw, hlt]
  | succ k ih =>
    intro r pre ys hr h hy
    simp at h
    have hw : IntKind.i64.wrap (↑pre.length + 1) = ↑pre.length + 1 := wrap64 (by omega) (by omega)
    rcases r with _ | ⟨a, _ | ⟨b, r⟩⟩
    · have hlt : ¬ (pre.length : Int) + 1 < pre.length := by omega
      rw [r114_l0]
      simp [c114_l0b, pairsL, hw, hlt]
    · rw [r114_l0]
      simp [c114_l0b, pairsL, hw]
    · simp at h hr hy
      have ih := ih r (pre ++ [a, b]) (ys ++ [decR a b]) (by omega) (by simp; omega) (by simp; omega)
      have hw2 : IntKind.i64.wrap (↑pre.length + 2) = ↑pre.length + 2 := wrap64 (by omega) (by omega)
      have hlt : (pre.length : Int) + 1 < pre.length + (r.length + 1 + 1) := by omega
      have hlt2 : (pre.length : Int) < pre.length + (r.length + 1 + 1) := by omega
      have ha := fun q => append_ownP (some q) (b := 1) (g := 1 + ys.length) (bytes := 40) (e := some 3) (ys := ys.map Rc.enc) (xs := [(decR a b).enc]) (h := [.cells 1 [] 0, .cells (1 + ys.length) (cellsOf (ys.map Rc.enc)) 0, .dead, .dead]) (len := ys.length) (fz := 0) rfl (Rc.elems _) (by simpa using (decR a b).elem) (by simp) (Nat.zero_le _) (by simp) (by simp; omega) (by simp; omega)
      have e1 : 1 + (ys.length + 1) = 1 + ys.length + 1 := by omega
      have hu : ∀ n ys, underL n (cellsOf ys) = true := fun n ys => underL_cellsOf n ys
      have tn : ((pre.length : Int) + 1).toNat = pre.length + 1 := by omega
      have n0 : 0 ≤ (pre.length : Int) + 1 := by omega
      simp [Rc.enc] at ih ha
      rw [e1] at ih
      rw [r114_l0]
      simp [c114_l0b, pairsL, hw, hw2, hlt, hlt2, tn, n0, ha, hu, Rc.enc, ih]
theorem L115 : ∀ (k : Nat) (r pre : List Str) (ys : List Rc), r.length ≤ k → ((pre ++ r).length : Int) < 1000 → ys.length ≤ 1000 - r.length →
    execS P (limS P) c115_l0 ⟨[.c (.slice ((pre ++ r).map CV.str)), .slice 1 (1 + ys.length) 0 ys.length (some 3) none, .c (ci pre.length)], [.cells 1 [] 0, .cells (1 + ys.length) (cellsOf (ys.map Rc.enc)) 0]⟩ =
      some (.exit 0, ⟨[.slice 1 (1 + (ys ++ pairsL r).length) 0 (ys ++ pairsL r).length (some 3) none], [.cells 1 [] 0, .cells (1 + (ys ++ pairsL r).length) (cellsOf ((ys ++ pairsL r).map Rc.enc)) 0]⟩) := by
  intro k
  induction k with
  | zero =>
    intro r pre ys hr h hy
    have : r = [] := by simpa using hr
    subst this
    simp at h
    have hw : IntKind.i64.wrap (↑pre.length + 1) = ↑pre.length + 1 := wrap64 (by omega) (by omega)
    have hlt : ¬ (pre.length : Int) + 1 < pre.length := by omega
    rw [r115_l0]
    simp [c115_l0b, pairsL, hw, hlt]
  | succ k ih =>
    intro r pre ys hr h hy
    simp at h
    have hw : IntKind.i64.wrap (↑pre.length + 1) = ↑pre.length + 1 := wrap64 (by omega) (by omega)
    rcases r with _ | ⟨a, _ | ⟨b, r⟩⟩
    · have hlt : ¬ (pre.length : Int) + 1 < pre.length := by omega
      rw [r115_l0]
      simp [c115_l0b, pairsL, hw, hlt]
    · rw [r115_l0]
      simp [c115_l0b, pairsL, hw]
    · simp at h hr hy
      have ih := ih r (pre ++ [a, b]) (ys ++ [decR a b]) (by omega) (by simp; omega) (by simp; omega)
      have hw2 : IntKind.i64.wrap (↑pre.length + 2) = ↑pre.length + 2 := wrap64 (by omega) (by omega)
      have hlt : (pre.length : Int) + 1 < pre.length + (r.length + 1 + 1) := by omega
      have hlt2 : (pre.length : Int) < pre.length + (r.length + 1 + 1) := by omega
      have ha := fun q => append_ownP (some q) (b := 1) (g := 1 + ys.length) (bytes := 40) (e := some 3) (ys := ys.map Rc.enc) (xs := [(decR a b).enc]) (h := [.cells 1 [] 0, .cells (1 + ys.length) (cellsOf (ys.map Rc.enc)) 0, .dead, .dead]) (len := ys.length) (fz := 0) rfl (Rc.elems _) (by simpa using (decR a b).elem) (by simp) (Nat.zero_le _) (by simp) (by simp; omega) (by simp; omega)
      have e1 : 1 + (ys.length + 1) = 1 + ys.length + 1 := by omega
      have hu : ∀ n ys, underL n (cellsOf ys) = true := fun n ys => underL_cellsOf n ys
      have tn : ((pre.length : Int) + 1).toNat = pre.length + 1 := by omega
      have n0 : 0 ≤ (pre.length : Int) + 1 := by omega
      simp [decR, Rc.enc] at ih ha
      rw [e1] at ih
      rw [r115_l0]
      simp [c115_l0b, pairsL, hw, hw2, hlt, hlt2, tn, n0, ha, hu, decR, Rc.enc, ih]
theorem S114 (l : List Str) (h : l.length < 500) : fn P 114 [.slice (l.map CV.str)] = some (.slice ((pairsL l).map Rc.enc)) := by
  have hL := L114 (P := P) l.length l [] [] (Nat.le_refl _) (by simp; omega) (by simp)
  have hr := resV_own1 (b := 1) (g := 1 + (pairsL l).length) (fz := 0) (e := some 3) (ys := (pairsL l).map Rc.enc) (h := [.cells 1 [] 0, .cells (1 + (pairsL l).length) (cellsOf ((pairsL l).map Rc.enc)) 0]) (len := (pairsL l).length) rfl (Rc.elems _) (by simp) none
  have c0 : cellsOf [] = [] := rfl
  simp [c0] at hL
  rw [u114]
  simp [c114, hL, hr]
theorem S115 (l : List Str) (h : l.length < 500) : fn P 115 [.slice (l.map CV.str)] = some (.slice ((pairsL l).map Rc.enc)) := by
  have hL := L115 (P := P) l.length l [] [] (Nat.le_refl _) (by simp; omega) (by simp)
  have hr := resV_own1 (b := 1) (g := 1 + (pairsL l).length) (fz := 0) (e := some 3) (ys := (pairsL l).map Rc.enc) (h := [.cells 1 [] 0, .cells (1 + (pairsL l).length) (cellsOf ((pairsL l).map Rc.enc)) 0]) (len := (pairsL l).length) rfl (Rc.elems _) (by simp) none
  have c0 : cellsOf [] = [] := rfl
  simp [c0] at hL
  rw [u115]
  simp [c115, hL, hr]
end LM.G6
namespace LM.G6
open Go LM
variable {P : Nat → Option SFunc} [Has P]
/-- A map from texts to truth values. -/
abbrev Mb := List (Str × Bool)
def bKs (M : Mb) : List CV := M.map fun p => CV.str p.1
def bVs (M : Mb) : List LV := M.map fun p => .c (.bool p.2)
def bIdx (k : Str) : Mb → Option Nat
  | [] => none
  | p :: r => if k = p.1 then some 0 else (bIdx k r).map (· + 1)
def bGet (k : Str) : Mb → Bool
  | [] => false
  | p :: r => if k = p.1 then p.2 else bGet k r
def bPut (M : Mb) (k : Str) (v : Bool) : Mb := match bIdx k M with
  | some i => M.set i (k, v)
  | none => M ++ [(k, v)]
theorem findK_mb (k : Str) : ∀ M : Mb, findK (.one 1) (.str k) (bKs M) = some (bIdx k M)
  | [] => rfl
  | p :: r => by
    have ih := findK_mb k r
    unfold bKs at ih ⊢
    simp only [List.map_cons, findK]
    have e : eqK (.one 1) (.str k) (.str p.1) = some (decide (k = p.1)) := by by_cases h : k = p.1 <;> simp [eqK, keyOk, kindOf, eqS, h]
    rw [e, bIdx]
    by_cases h : k = p.1
    · simp [h]
    · simp only [h, decide_false, if_false]
      rw [ih]
      cases bIdx k r <;> rfl
theorem bIdx_some {k : Str} : ∀ {M : Mb} {i : Nat}, bIdx k M = some i → M[i]? = some (k, bGet k M)
  | [], _, h => by simp [bIdx] at h
  | p :: r, i, h => by
    rw [bIdx] at h
    split at h
    · rename_i hk
      simp at h
      subst h
      simp [bGet, hk]
    · rename_i hk
      cases h2 : bIdx k r with
      | none => rw [h2] at h; simp at h
      | some i' =>
        rw [h2] at h
        simp at h
        subst h
        have := bIdx_some h2
        simpa [bGet, hk] using this
theorem bIdx_none {k : Str} : ∀ {M : Mb}, bIdx k M = none → bGet k M = false
  | [], _ => rfl
  | p :: r, h => by
    rw [bIdx] at h
    split at h
    · cases h
    · rename_i hk
      cases h2 : bIdx k r with
      | none => rw [bGet, if_neg hk]; exact bIdx_none h2
      | some i' => rw [h2] at h; simp at h
theorem bGet_append (k k' : Str) (v : Bool) : ∀ M : Mb, bIdx k M = none → bGet k' (M ++ [(k, v)]) = if k' = k then v else bGet k' M
  | [], _ => by simp [bGet]
  | p :: r, h => by
    rw [bIdx] at h
    split at h
    · cases h
    · rename_i hk
      have h2 : bIdx k r = none := by
        cases h2 : bIdx k r with
        | none => rfl
        | some i => rw [h2] at h; simp at h
      simp only [List.cons_append, bGet]
      by_cases e : k' = p.1
      · rw [if_pos e, if_pos e, if_neg (fun q => hk (by rw [← q, e]))]
      · rw [if_neg e, if_neg e]
        exact bGet_append k k' v r h2
theorem bGet_set {k : Str} (k' : Str) (v : Bool) : ∀ {M : Mb} {i : Nat}, bIdx k M = some i → bGet k' (M.set i (k, v)) = if k' = k then v else bGet k' M
  | [], _, h => by simp [bIdx] at h
  | p :: r, i, h => by
    rw [bIdx] at h
    split at h
    · rename_i hk
      simp at h
      subst h
      simp only [List.set_cons_zero, bGet]
      by_cases e : k' = k
      · simp [e]
      · have : ¬ k' = p.1 := by rw [← hk]; exact e
        simp [e, this]
    · rename_i hk
      cases h2 : bIdx k r with
      | none => rw [h2] at h; simp at h
      | some i' =>
        rw [h2] at h
        simp at h
        subst h
        have ih := bGet_set k' v h2
        simp only [List.set_cons_succ, bGet, ih]
        by_cases e : k' = p.1
        · have : ¬ k' = k := fun q => hk (by rw [← q, e])
          simp [e, this]
          intro q
          exact absurd (q ▸ rfl) hk
        · simp [e]
theorem bGet_put (M : Mb) (k k' : Str) (v : Bool) : bGet k' (bPut M k v) = if k' = k then v else bGet k' M := by
  unfold bPut
  cases h : bIdx k M with
  | some i => exact bGet_set k' v h
  | none => exact bGet_append k k' v M h
theorem bKs_put (M : Mb) (k : Str) (v : Bool) : bKs (bPut M k v) = match bIdx k M with | some _ => bKs M | none => bKs M ++ [.str k] := by
  unfold bPut
  cases h : bIdx k M with
  | none => simp [bKs]
  | some i =>
    have hw := bIdx_some h
    obtain ⟨hi, hw⟩ := List.getElem?_eq_some_iff.1 hw
    simp only
    unfold bKs
    rw [List.map_set]
    apply List.ext_getElem
    · simp
    · intro j h1 h2
      rw [List.getElem_set]
      by_cases e : i = j
      · subst e; simp [hw]
      · simp [e]
theorem bVs_put (M : Mb) (k : Str) (v : Bool) : bVs (bPut M k v) = match bIdx k M with | some i => (bVs M).set i (.c (.bool v)) | none => bVs M ++ [.c (.bool v)] := by
  unfold bPut
  cases h : bIdx k M with
  | none => simp [bVs]
  | some i =>
    simp only
    unfold bVs
    rw [List.map_set]
theorem bVs_get {M : Mb} {k : Str} {i : Nat} (h : bIdx k M = some i) : (bVs M)[i]? = some (.c (.bool (bGet k M))) := by
  have := bIdx_some h
  simp [bVs, this]
theorem under_bVs (n : Nat) (M : Mb) : underL n (bVs M) = true := by
  unfold bVs
  induction M with
  | nil => rfl
  | cons p r ih => simpa [underL, LV.under] using ih
/-- The names that were there. -/
def namesR (l : List Rc) : List Str := l.flatMap fun r => [r.a, r.b].filter fun s => decide (s ≠ [])
def strangeR (r : Rc) : Bool := (decide (r.a ≠ []) && !isName r.a) || (decide (r.b ≠ []) && !isName r.b)
def twiceR (s : List Str) (r : Rc) : Bool := (decide (r.a ≠ []) && s.any (Str.is r.a)) || (decide (r.b ≠ []) && s.any (Str.is r.b)) || (decide (r.a ≠ []) && decide (r.a = r.b))
def rcE (pre : List Rc) (r : Rc) : Int := if strangeR r then 8 else if twiceR (namesR pre) r then 9 else if outside r.w 0 3 then 3 else if decide (0 < walkV r.a r.b) && decide (r.w ≠ walkV r.a r.b) then 19 else 0
/-- The error of races. -/
def racesE (l : List Rc) : Int := if l.length = 1 ∨ l.length = 2 ∨ l.length = 4 ∨ l.length = 8 ∨ l.length = 16 ∨ l.length = 32 then eachE rcE [] l else 2
/-- The map that the program keeps, of the names that were there. -/
def seenM (M : Mb) (s : List Str) : Prop := ∀ k, bGet k M = (decide (k ≠ []) && s.any (Str.is k))
def putR (M : Mb) (r : Rc) : Mb := bPut (bPut M r.a (decide (r.a ≠ []))) r.b (decide (r.b ≠ []))
theorem seenM_put {M : Mb} {s : List Str} (h : seenM M s) (r : Rc) (ht : twiceR s r = false) : seenM (putR M r) (s ++ [r.a, r.b].filter fun x => decide (x ≠ [])) := by
  intro k
  unfold putR
  rw [bGet_put, bGet_put, h k, List.any_append]
  by_cases e1 : k = r.b
  · subst e1
    by_cases e2 : r.b = []
    · simp [e2]
    · simp [e2, Str.is]
  · by_cases e2 : k = r.a
    · subst e2
      by_cases e3 : r.a = []
      · simp [e3, e1]
      · simp [e1, e3, Str.is]
    · have e1' : ¬ r.b = k := fun q => e1 q.symm
      have e2' : ¬ r.a = k := fun q => e2 q.symm
      have f1 : (r.b == k) = false := beq_eq_false_iff_ne.2 e1'
      have f2 : (r.a == k) = false := beq_eq_false_iff_ne.2 e2'
      rw [if_neg e1, if_neg e2]
      by_cases e3 : r.a = [] <;> by_cases e4 : r.b = [] <;> simp [e3, e4, Str.is, f1, f2]
end LM.G6
namespace LM.G6
open Go LM
variable {P : Nat → Option SFunc} [Has P]
def RB (x : Rc) : LB := .cells 0 [.c (.str x.a), .c (.str x.b), .c (ci x.w)] 0
def MB (M : Mb) : LB := .map (bKs M) (bVs M) false
theorem seg6 (x : Rc) (hxa : x.a.length < 9223372036854775807) (hxb : x.b.length < 9223372036854775807) (M : Mb) (L N I : CV) :
    execS P (limS P) c57_n6 ⟨[.map 0, .ptr 1 0 0, .c L, .c N, .c I], [MB M, RB x]⟩ = some (.normal, ⟨[.map 0, .ptr 1 0 0, .c (.bool (strangeR x)), .c L, .c N, .c I], [MB M, RB x]⟩) := by
  have ea := S90 (P := P) x.a hxa
  have eb := S90 (P := P) x.b hxb
  unfold strangeR RB
  by_cases ha : x.a = []
  · by_cases hb : x.b = []
    · simp [ha, hb]
    · cases h2 : isName x.b <;> rw [h2] at eb <;> simp [ha, hb, eb]
  · cases h1 : isName x.a
    · rw [h1] at ea
      simp [ha, ea]
    · rw [h1] at ea
      by_cases hb : x.b = []
      · simp [ha, hb, ea]
      · cases h2 : isName x.b <;> rw [h2] at eb <;> simp [ha, hb, ea, eb]
/-- A look into the map. -/
theorem look_cases (k : Str) (M : Mb) : (findK (.one 1) (.str k) (bKs M) = some none ∧ bGet k M = false) ∨ (∃ i, findK (.one 1) (.str k) (bKs M) = some (some i) ∧ (bVs M)[i]? = some (.c (.bool (bGet k M)))) := by
  have hf := findK_mb k M
  cases ia : bIdx k M with
  | none => rw [ia] at hf; exact .inl ⟨hf, bIdx_none ia⟩
  | some i => rw [ia] at hf; exact .inr ⟨i, hf, bVs_get ia⟩
theorem seg8 (x : Rc) (M : Mb) (s : Bool) (L N I : CV) :
    execS P (limS P) c57_n8 ⟨[.map 0, .ptr 1 0 0, .c (.bool s), .c L, .c N, .c I], [MB M, RB x]⟩ = some (.normal, ⟨[.map 0, .ptr 1 0 0, .c (.bool s), .c (.bool (bGet x.a M || bGet x.b M || (decide (x.a ≠ []) && decide (x.a = x.b)))), .c L, .c N, .c I], [MB M, RB x]⟩) := by
  have hk : ∀ s, keyOk (.one 1) (CV.str s) = true := fun _ => rfl
  obtain ⟨a, b, w⟩ := x
  simp only [RB, MB]
  rcases look_cases a M with ⟨fa, ga⟩ | ⟨i, fa, va⟩
  · rcases look_cases b M with ⟨fb, gb⟩ | ⟨j, fb, vb⟩
    · rw [ga, gb]
      by_cases ha : a = []
      · subst ha
        simp [hk, fa, fb]
      · by_cases hab : a = b
        · subst hab
          simp [hk, fa, ha]
        · simp [hk, fa, fb, ha, hab]
    · rw [ga]
      cases gb : bGet b M <;> rw [gb] at vb
      · by_cases ha : a = []
        · subst ha
          simp [hk, fa, fb, vb]
        · by_cases hab : a = b
          · subst hab
            simp [hk, fa, fb, ha] at fb
          · simp [hk, fa, fb, vb, ha, hab]
      · simp [hk, fa, fb, vb]
  · cases ga : bGet a M <;> rw [ga] at va
    · rcases look_cases b M with ⟨fb, gb⟩ | ⟨j, fb, vb⟩
      · rw [gb]
        by_cases ha : a = []
        · subst ha
          simp [hk, fa, fb, va]
        · by_cases hab : a = b
          · subst hab
            simp [fa] at fb
          · simp [hk, fa, fb, va, ha, hab]
      · cases gb : bGet b M <;> rw [gb] at vb
        · by_cases ha : a = []
          · subst ha
            simp [hk, fa, fb, va, vb]
          · by_cases hab : a = b
            · subst hab
              simp [hk, fa, va, ha]
            · simp [hk, fa, fb, va, vb, ha, hab]
        · simp [hk, fa, fb, va, vb]
    · simp [hk, fa, va]
theorem seg10 (x : Rc) (M : Mb) (s t : Bool) (L N I : CV) :
    execS P (limS P) c57_n10 ⟨[.map 0, .ptr 1 0 0, .c (.bool s), .c (.bool t), .c L, .c N, .c I], [MB M, RB x]⟩ = some (.normal, ⟨[.map 0, .ptr 1 0 0, .c (.bool s), .c (.bool t), .ptr 2 0 0, .c L, .c N, .c I], [MB M, RB x, RB (decR x.a x.b)]⟩) := by
  simp [RB, MB, decR, Rc.enc]
def rE (x : Rc) (s t : Bool) : Int := firstE [whenE s 8, whenE t 9, whenE (outside x.w 0 3) 3, whenE (decide (0 < walkV x.a x.b) && decide (x.w ≠ walkV x.a x.b)) 19]
theorem seg12 (x : Rc) (M : Mb) (s t : Bool) (L N I : CV) :
    execS P (limS P) c57_n12 ⟨[.map 0, .ptr 1 0 0, .c (.bool s), .c (.bool t), .ptr 2 0 0, .c L, .c N, .c I], [MB M, RB x, RB (decR x.a x.b)]⟩ = if rE x s t = 0 then some (.normal, ⟨[.map 0, .ptr 1 0 0, .c L, .c N, .c I], [MB M, RB x, RB (decR x.a x.b), .dead]⟩) else some (.ret, ⟨[.c (ci (rE x s t))], [MB M, RB x, RB (decR x.a x.b), .dead]⟩) := by
  obtain ⟨a, b, w⟩ := x
  have hk : eqK (.many [1, 1, 0]) (CV.agg [.str a, .str b, ci w]) (CV.agg [.str a, .str b, ci (walkV a b)]) = some (decide (w = walkV a b)) := by
    by_cases h : w = walkV a b <;> simp [eqK, keyOk, kindsOk, kindOf, eqCells, eqS, h]
  unfold rE
  by_cases h1 : 0 < walkV a b
  · by_cases h2 : w = walkV a b
    · subst h2
      simp at hk
      simp [RB, MB, decR, Rc.enc, hk, h1]
    · simp [RB, MB, decR, Rc.enc, hk, h1, h2]
  · simp [RB, MB, decR, Rc.enc, hk, h1]
theorem put_cases (k : Str) (v : Bool) (M : Mb) : (findK (.one 1) (.str k) (bKs M) = some none ∧ bKs M ++ [.str k] = bKs (bPut M k v) ∧ bVs M ++ [.c (.bool v)] = bVs (bPut M k v)) ∨ (∃ i, findK (.one 1) (.str k) (bKs M) = some (some i) ∧ bKs M = bKs (bPut M k v) ∧ (bVs M).set i (.c (.bool v)) = bVs (bPut M k v) ∧ i < (bVs M).length) := by
  have hf := findK_mb k M
  have h1 := bKs_put M k v
  have h2 := bVs_put M k v
  cases ia : bIdx k M with
  | none => rw [ia] at hf h1 h2; exact .inl ⟨hf, h1.symm, h2.symm⟩
  | some i => rw [ia] at hf h1 h2; exact .inr ⟨i, hf, h1.symm, h2.symm, (List.getElem?_eq_some_iff.1 (bVs_get ia)).1⟩
theorem seg13 (x : Rc) (Y Z : LB) (M : Mb) (L N I : CV) :
    execS P (limS P) c57_n13 ⟨[.map 0, .ptr 1 0 0, .c L, .c N, .c I], [MB M, RB x, Y, Z]⟩ = some (.normal, ⟨[.map 0, .c L, .c N, .c I], [MB (putR M x), RB x, Y, Z]⟩) := by
  have hk : ∀ s, keyOk (.one 1) (CV.str s) = true := fun _ => rfl
  obtain ⟨a, b, w⟩ := x
  simp only [RB, MB, putR]
  have e1 : (a != []) = decide (a ≠ []) := by by_cases h : a = [] <;> simp [h]
  have e2 : (b != []) = decide (b ≠ []) := by by_cases h : b = [] <;> simp [h]
  generalize hva : decide (a ≠ []) = va at e1
  generalize hvb : decide (b ≠ []) = vb at e2
  have e3 : (!decide (a = [])) = va := by rw [← hva]; simp
  have e4 : (!decide (b = [])) = vb := by rw [← hvb]; simp
  have e5 : (!a.isEmpty) = va := by rw [← hva]; cases a <;> rfl
  have e6 : (!b.isEmpty) = vb := by rw [← hvb]; cases b <;> rfl
  rcases put_cases a va M with ⟨f1, k1, v1⟩ | ⟨i, f1, k1, v1, i1⟩
  · rcases put_cases b vb (bPut M a va) with ⟨f2, k2, v2⟩ | ⟨j, f2, k2, v2, i2⟩
    · simp [hk, f1, k1, v1, f2, k2, v2, e5, e6]
    · rw [← k2]
      simp [hk, f1, k1, v1, f2, v2, i2, e5, e6]
  · rcases put_cases b vb (bPut M a va) with ⟨f2, k2, v2⟩ | ⟨j, f2, k2, v2, i2⟩
    · rw [← k1] at f2 k2
      simp [hk, f1, v1, i1, f2, k2, v2, e5, e6]
    · rw [← k1] at f2 k2
      rw [← k2]
      simp [hk, f1, v1, i1, f2, v2, i2, e5, e6]
theorem rE_rcE (x : Rc) (pre : List Rc) (M : Mb) (hM : seenM M (namesR pre)) : rE x (strangeR x) (bGet x.a M || bGet x.b M || (decide (x.a ≠ []) && decide (x.a = x.b))) = rcE pre x := by
  have ha := hM x.a
  have hb := hM x.b
  have ht : twiceR (namesR pre) x = (bGet x.a M || bGet x.b M || (decide (x.a ≠ []) && decide (x.a = x.b))) := by rw [ha, hb]; rfl
  unfold rE rcE
  rw [ht]
  cases strangeR x <;> cases (bGet x.a M || bGet x.b M || (decide (x.a ≠ []) && decide (x.a = x.b))) <;> cases outside x.w 0 3 <;> cases (decide (0 < walkV x.a x.b) && decide (x.w ≠ walkV x.a x.b)) <;> simp [firstE, whenE]
theorem rcE_twice {pre : List Rc} {x : Rc} (h : rcE pre x = 0) : twiceR (namesR pre) x = false := by
  unfold rcE at h
  cases ht : twiceR (namesR pre) x
  · rfl
  · rw [ht] at h
    simp at h
    split at h <;> cases h
theorem L57 : ∀ (r pre : List Rc) (M : Mb), ((pre ++ r).length : Int) < 1000 → (∀ x ∈ r, x.a.length < 9223372036854775807 ∧ x.b.length < 9223372036854775807) → seenM M (namesR pre) →
    ∃ H, execS P (limS P) c57_l0 ⟨[.map 0, .c (.slice ((pre ++ r).map Rc.enc)), .c (ci (pre ++ r).length), .c (ci pre.length)], [MB M]⟩ = if eachE rcE pre r = 0 then some (.exit 0, ⟨[], H⟩) else some (.ret, ⟨[.c (ci (eachE rcE pre r))], H⟩) := by
  intro r
  induction r with
  | nil =>
    intro pre M h _ _
    refine ⟨[MB M], ?_⟩
    rw [r57_l0]
    simp [c57_l0b, eachE]
  | cons x r ih =>
    intro pre M h hx hM
    have hx0 := hx x (by simp)
    have hE := rE_rcE x pre M hM
    have e6 := seg6 (P := P) x hx0.1 hx0.2 M
    have e8 := seg8 (P := P) x M
    generalize (bGet x.a M || bGet x.b M || (decide (x.a ≠ []) && decide (x.a = x.b))) = t at hE e8
    have e10 := seg10 (P := P) x M
    have e12 := seg12 (P := P) x M
    have e13 := fun Y Z => seg13 (P := P) x Y Z M
    simp at h
    have hw : IntKind.i64.wrap (↑pre.length + 1) = ↑pre.length + 1 := wrap64 (by omega) (by omega)
    have hlt : (pre.length : Int) < pre.length + (r.length + 1) := by omega
    have hRB : LB.cells 0 [.c (.str x.a), .c (.str x.b), .c (ci x.w)] 0 = RB x := rfl
    by_cases h0 : rcE pre x = 0
    · have hM' := seenM_put hM x (rcE_twice h0)
      have hn : namesR (pre ++ [x]) = namesR pre ++ [x.a, x.b].filter fun s => decide (s ≠ []) := by simp [namesR]
      rw [← hn] at hM'
      obtain ⟨H, ih⟩ := ih (pre ++ [x]) (putR M x) (by simp; omega) (fun y hy => hx y (by simp [hy])) hM'
      refine ⟨H, ?_⟩
      have hec : eachE rcE pre (x :: r) = eachE rcE (pre ++ [x]) r := by rw [eachE, if_neg (by simpa using h0)]
      rw [h0] at hE
      simp [Rc.enc] at ih
      have hu : ∀ n, underB n [MB (putR M x)] = true := fun n => by simp [MB, underB, LB.under, under_bVs]
      rw [hec, r57_l0]
      simp [c57_l0b, hw, hlt, Rc.enc, hRB, e6, e8, e10, e12, e13, hE, hu, ih, -c57_n6, -c57_n8, -c57_n10, -c57_n12, -c57_n13]
    · have hec : eachE rcE pre (x :: r) = rcE pre x := by rw [eachE, if_pos h0]
      refine ⟨[MB M, RB x, RB (decR x.a x.b), .dead], ?_⟩
      rw [hec, r57_l0, if_neg h0]
      simp [c57_l0b, hw, hlt, Rc.enc, hRB, e6, e8, e10, e12, e13, hE, h0, -c57_n6, -c57_n8, -c57_n10, -c57_n12, -c57_n13]
theorem S57 (T : Tabs P) (l : List Rc) (h : (l.length : Int) < 9223372036854775807) (hx : ∀ x ∈ l, x.a.length < 9223372036854775807 ∧ x.b.length < 9223372036854775807) : fn P 57 [.slice (l.map Rc.enc)] = some (ci (racesE l)) := by
  rw [u57]
  unfold racesE
  by_cases h1 : l.length = 0
  · have : l = [] := List.eq_nil_of_length_eq_zero h1
    subst this
    simp [c57]
  · by_cases h2 : l.length > 32
    · have h2' : (32 : Int) < l.length := by omega
      have h1' : ¬ (l.length : Int) < 1 := by omega
      have : ¬ (l.length = 1 ∨ l.length = 2 ∨ l.length = 4 ∨ l.length = 8 ∨ l.length = 16 ∨ l.length = 32) := by omega
      rw [if_neg this]
      simp [c57, h1', h2']
    · have h2' : ¬ (32 : Int) < l.length := by omega
      have h1' : ¬ (l.length : Int) < 1 := by omega
      have eT := T.pop l.length (by omega)
      have hw : IntKind.u64.wrap (l.length : Int) = l.length := by
        have := u64_all
        rw [List.all_eq_true] at this
        have := this l.length (List.mem_range.2 (by omega))
        simpa using this
      have hp : (pops 7 l.length = 1) ↔ (l.length = 1 ∨ l.length = 2 ∨ l.length = 4 ∨ l.length = 8 ∨ l.length = 16 ∨ l.length = 32) := by
        have key : (List.range 33).all (fun n => decide (pops 7 n = 1) == decide (n = 1 ∨ n = 2 ∨ n = 4 ∨ n = 8 ∨ n = 16 ∨ n = 32)) = true := by decide +kernel
        rw [List.all_eq_true] at key
        have := key l.length (List.mem_range.2 (by omega))
        simp only [beq_iff_eq, decide_eq_decide] at this
        exact this
      by_cases h3 : pops 7 l.length = 1
      · rw [if_pos (hp.1 h3)]
        rw [h3] at eT
        obtain ⟨H, hL⟩ := L57 (P := P) l [] [] (by simp; omega) hx (fun k => by simp [bGet, namesR])
        simp at hL
        have e0 : MB [] = .map [] [] false := rfl
        rw [e0] at hL
        by_cases h4 : eachE rcE [] l = 0
        · rw [if_pos h4] at hL
          simp [c57, h1', h2', hw, eT, hL, h4]
        · rw [if_neg h4] at hL
          simp [c57, h1', h2', hw, eT, hL]
      · rw [if_neg (fun q => h3 (hp.2 q))]
        have h3' : ¬ (pops 7 l.length : Int) = 1 := by omega
        simp [c57, h1', h2', hw, eT, h3']
end LM.G6
namespace LM.G6
open Go LM
variable {P : Nat → Option SFunc} [Has P]
/-- The first power of two that is not less, or 32. -/
def dblN (len : Int) : Nat → Int → Int
  | 0, n => n
  | f + 1, n => if n < len ∧ n < 32 then dblN len f (2 * n) else n
theorem L56_0 (l : List CV) : ∀ (f : Nat) (n : Int), n * 2 ^ f = 32 → 1 ≤ n →
    execS P (limS P) c56_l0 ⟨[.c (.slice l), .c (ci n)], []⟩ = some (.exit 0, ⟨[.c (.slice l), .c (ci (dblN l.length f n))], []⟩) := by
  intro f
  induction f with
  | zero =>
    intro n h h1
    have : n = 32 := by simpa using h
    subst this
    rw [r56_l0]
    by_cases hl : (32 : Int) < l.length <;> simp [c56_l0b, dblN, hl]
  | succ f ih =>
    intro n h h1
    have e : (2 : Int) ^ (f + 1) = 2 * 2 ^ f := by rw [Int.pow_succ]; omega
    rw [e] at h
    have h32 : n ≤ 32 := by
      have : 0 < (2 : Int) ^ f := Int.pow_pos (by omega)
      have h2 : n * 1 ≤ n * (2 * 2 ^ f) := Int.mul_le_mul_of_nonneg_left (by omega) (by omega)
      omega
    have ih := ih (2 * n) (by rw [← h, Int.mul_comm 2 n, Int.mul_assoc]) (by omega)
    have hw : IntKind.i64.wrap (2 * n) = 2 * n := wrap64 (by omega) (by omega)
    rw [r56_l0]
    by_cases h2 : n < l.length
    · by_cases h3 : n < 32
      · have ed : dblN l.length (f + 1) n = dblN l.length f (2 * n) := by rw [dblN, if_pos ⟨h2, h3⟩]
        rw [ed]
        simp [c56_l0b, h2, h3, hw, ih]
      · have ed : dblN l.length (f + 1) n = n := by rw [dblN, if_neg (fun q => h3 q.2)]
        rw [ed]
        simp [c56_l0b, h2, h3]
    · have ed : dblN l.length (f + 1) n = n := by rw [dblN, if_neg (fun q => h2 q.1)]
      rw [ed]
      simp [c56_l0b, h2]
theorem dblN_eq (k : Nat) : ((k : Int) = dblN k 5 1) ↔ (k = 1 ∨ k = 2 ∨ k = 4 ∨ k = 8 ∨ k = 16 ∨ k = 32) := by
  simp only [dblN]
  (repeat' split) <;> omega
def SB (ys : List Str) : LB := .cells (1 + ys.length) (cellsOf (ys.map CV.str)) 0
def NB (x : Rc) : LB := .cells 1 [.c (.str x.a), .c (.str x.b)] 0
theorem SB_under (n : Nat) (ys : List Str) : (SB ys).under n = true := by simp [SB, LB.under, underL_cellsOf]
theorem L56_1 (x : Rc) (ys : List Str) (L : CV) (I : CV) (n : Nat) :
    ∃ H, execS P (limS P) c56_l1 ⟨[.c L, .slice 0 (1 + ys.length) 0 n none none, .c I, .slice 1 1 0 2 none (some 2), .c (ci 0)], [SB ys, NB x]⟩ = if strangeR x then some (.ret, ⟨[.c (ci 8)], H⟩) else some (.exit 4, ⟨[.c L, .slice 0 (1 + ys.length) 0 n none none, .c I, .slice 1 1 0 2 none (some 2)], [SB ys, NB x]⟩) := by
  refine ⟨[SB ys, NB x], ?_⟩
  have hu := fun n => SB_under n ys
  have hun : ∀ n, (NB x).under n = true := fun n => rfl
  have w1 : IntKind.i64.wrap 1 = 1 := rfl
  have w2 : IntKind.i64.wrap 2 = 2 := rfl
  have k2 : execS P (limS P) c56_l1 ⟨[.c L, .slice 0 (1 + ys.length) 0 n none none, .c I, .slice 1 1 0 2 none (some 2), .c (ci 2)], [SB ys, NB x]⟩ = some (.exit 4, ⟨[.c L, .slice 0 (1 + ys.length) 0 n none none, .c I, .slice 1 1 0 2 none (some 2)], [SB ys, NB x]⟩) := by
    rw [r56_l1]; simp [c56_l1b]
  have k1 : execS P (limS P) c56_l1 ⟨[.c L, .slice 0 (1 + ys.length) 0 n none none, .c I, .slice 1 1 0 2 none (some 2), .c (ci 1)], [SB ys, NB x]⟩ = if decide (x.b ≠ []) && !isName x.b then some (.ret, ⟨[.c (ci 8)], [SB ys, NB x]⟩) else some (.exit 4, ⟨[.c L, .slice 0 (1 + ys.length) 0 n none none, .c I, .slice 1 1 0 2 none (some 2)], [SB ys, NB x]⟩) := by
    rw [r56_l1]
    simp only [NB] at hun k2 ⊢
    by_cases hb : x.b = []
    · simp [c56_l1b, hb, w2, hu, hun]
      simp [hb] at k2
      simp [k2]
    · cases hi : isName x.b <;> simp [c56_l1b, hb, hi, w2, hu, hun, k2]
  rw [r56_l1]
  unfold strangeR
  obtain ⟨a, b, w⟩ := x
  simp only [NB] at hun k1 k2 ⊢
  by_cases ha : a = []
  · subst ha
    cases hb : (decide (b ≠ []) && !isName b) <;> rw [hb] at k1 <;> simp at k1 <;> simp [c56_l1b, w1, hu, hun, k1]
  · cases hi : isName a
    · simp [c56_l1b, ha, hi]
    · cases hb : (decide (b ≠ []) && !isName b) <;> rw [hb] at k1 <;> simp at k1 <;> simp [c56_l1b, ha, hi, w1, hu, hun, k1]
theorem L56_2 (x : Rc) (ys : List Str) (L : CV) (I : CV) (hy : ys.length ≤ 1000) :
    ∃ H, execS P (limS P) c56_l2 ⟨[.c L, .slice 0 (1 + ys.length) 0 ys.length none none, .c I, .slice 1 1 0 2 none (some 2), .c (ci 0)], [SB ys, NB x]⟩ = if twiceR ys x then some (.ret, ⟨[.c (ci 9)], H⟩) else some (.exit 6, ⟨[.c L, .slice 0 (1 + (ys ++ [x.a, x.b].filter fun s => decide (s ≠ [])).length) 0 (ys ++ [x.a, x.b].filter fun s => decide (s ≠ [])).length none none, .c I], [SB (ys ++ [x.a, x.b].filter fun s => decide (s ≠ [])), NB x]⟩) := by
  obtain ⟨a, b, w⟩ := x
  have hu := fun n ys => SB_under n ys
  have hun : ∀ n, (NB ⟨a, b, w⟩).under n = true := fun n => rfl
  have w1 : IntKind.i64.wrap 1 = 1 := rfl
  have w2 : IntKind.i64.wrap 2 = 2 := rfl
  have k2 : ∀ zs : List Str, execS P (limS P) c56_l2 ⟨[.c L, .slice 0 (1 + zs.length) 0 zs.length none none, .c I, .slice 1 1 0 2 none (some 2), .c (ci 2)], [SB zs, NB ⟨a, b, w⟩]⟩ = some (.exit 6, ⟨[.c L, .slice 0 (1 + zs.length) 0 zs.length none none, .c I], [SB zs, NB ⟨a, b, w⟩]⟩) := by
    intro zs
    rw [r56_l2]; simp [c56_l2b]
  have app : ∀ (zs : List Str) (s : Str), zs.length ≤ 2000 → appendOp none none 16 (.slice 0 (1 + zs.length) 0 zs.length none none) (.c (.slice [.str s])) [SB zs, NB ⟨a, b, w⟩] = some (.slice 0 (1 + zs.length + 1) 0 (zs.length + 1) none none, [SB (zs ++ [s]), NB ⟨a, b, w⟩]) := by
    intro zs s hz
    have ha := append_own (b := 0) (g := 1 + zs.length) (bytes := 16) (e := none) (ys := zs.map CV.str) (xs := [.str s]) (h := [SB zs, NB ⟨a, b, w⟩]) (len := zs.length) (fz := 0) rfl (strElems _) (by simpa using strElem s) (by simp) (Nat.zero_le _) (by simp) (by simp; omega) (by simp; omega)
    rw [ha]
    simp [SB, Nat.add_assoc]
  have fr : ∀ (zs : List Str), frz frzDepth (.slice 0 (1 + zs.length) 0 zs.length none none) [SB zs, NB ⟨a, b, w⟩] = some (.slice (zs.map CV.str), bump 0 (zs.length * szOf none) [SB zs, NB ⟨a, b, w⟩]) := fun zs => frz_own (b := 0) (g := 1 + zs.length) (fz := 0) (e := none) (ys := zs.map CV.str) (h := [SB zs, NB ⟨a, b, w⟩]) (len := zs.length) rfl (strElems _) (by simp) none
  have k1 : ∀ zs : List Str, zs.length ≤ 1500 → ∃ H, execS P (limS P) c56_l2 ⟨[.c L, .slice 0 (1 + zs.length) 0 zs.length none none, .c I, .slice 1 1 0 2 none (some 2), .c (ci 1)], [SB zs, NB ⟨a, b, w⟩]⟩ = if decide (b ≠ []) && zs.any (Str.is b) then some (.ret, ⟨[.c (ci 9)], H⟩) else some (.exit 6, ⟨[.c L, .slice 0 (1 + (zs ++ if b = [] then [] else [b]).length) 0 (zs ++ if b = [] then [] else [b]).length none none, .c I], [SB (zs ++ if b = [] then [] else [b]), NB ⟨a, b, w⟩]⟩) := by
    intro zs hz
    refine ⟨[SB zs, NB ⟨a, b, w⟩], ?_⟩
    have e81 := S81 (P := P) b zs (by omega)
    have k2z := k2 (zs ++ [b])
    have k2y := k2 zs
    have ap := app zs b (by omega)
    have fz := fr zs
    have e1 : 1 + (zs.length + 1) = 1 + zs.length + 1 := by omega
    simp [e1] at k2z
    simp only [NB] at hun k2z k2y ap fz ⊢
    rw [r56_l2]
    by_cases hb : b = []
    · subst hb
      simp [c56_l2b, w2, hu, hun, k2y]
    · cases h2 : zs.any (Str.is b)
      · rw [h2] at e81
        simp [c56_l2b, hb, w2, hu, hun, fz, e81, ap, k2z, -frz_slice]
        omega
      · rw [h2] at e81
        simp [c56_l2b, hb, fz, e81, -frz_slice]
  by_cases ha : a = []
  · subst ha
    obtain ⟨H, h1⟩ := k1 ys (by omega)
    refine ⟨H, ?_⟩
    have et : twiceR ys ⟨[], b, w⟩ = (decide (b ≠ []) && ys.any (Str.is b)) := by simp [twiceR]
    have ef : ([([] : Str), b].filter fun s => decide (s ≠ [])) = if b = [] then [] else [b] := by by_cases hb : b = [] <;> simp [hb]
    rw [et, ef, ← h1, r56_l2]
    have hyu := hu
    simp only [NB] at hun ⊢
    simp [c56_l2b, w1, hu, hun]
  · have e81 := S81 (P := P) a ys (by omega)
    have ap := app ys a (by omega)
    have fz := fr ys
    cases h2 : ys.any (Str.is a)
    · obtain ⟨H, h1⟩ := k1 (ys ++ [a]) (by simp; omega)
      refine ⟨H, ?_⟩
      have et : twiceR ys ⟨a, b, w⟩ = (decide (b ≠ []) && (ys ++ [a]).any (Str.is b)) := by
        by_cases hab : a = b
        · subst hab
          simp [twiceR, h2, ha, Str.is]
        · have : (a == b) = false := beq_eq_false_iff_ne.2 hab
          simp [twiceR, h2, ha, hab, Str.is, this]
      have ef : ys ++ ([a, b].filter fun s => decide (s ≠ [])) = (ys ++ [a]) ++ if b = [] then [] else [b] := by by_cases hb : b = [] <;> simp [ha, hb]
      rw [et, ef, ← h1, r56_l2]
      rw [h2] at e81
      have e1 : 1 + (ys.length + 1) = 1 + ys.length + 1 := by omega
      simp only [NB] at hun ap fz ⊢
      simp [c56_l2b, ha, w1, hu, hun, fz, e81, ap, e1, -frz_slice]
    · refine ⟨[SB ys, NB ⟨a, b, w⟩], ?_⟩
      have et : twiceR ys ⟨a, b, w⟩ = true := by simp [twiceR, h2, ha]
      rw [h2] at e81
      rw [et, r56_l2]
      simp only [NB] at hun ap fz ⊢
      simp [c56_l2b, ha, fz, e81, -frz_slice]
theorem namesR_le : ∀ pre : List Rc, (namesR pre).length ≤ 2 * pre.length
  | [] => by simp [namesR]
  | a :: t => by
    have h1 : ([a.a, a.b].filter fun s => decide (s ≠ [])).length ≤ 2 := List.length_filter_le _ _
    have h2 := namesR_le t
    have e : namesR (a :: t) = ([a.a, a.b].filter fun s => decide (s ≠ [])) ++ namesR t := rfl
    rw [e, List.length_append, List.length_cons]
    omega
theorem L56_3 : ∀ (r pre : List Rc), ((pre ++ r).length : Int) < 500 → ∃ H, execS P (limS P) c56_l3 ⟨[.c (.slice ((pre ++ r).map Rc.enc)), .slice 0 (1 + (namesR pre).length) 0 (namesR pre).length none none, .c (ci pre.length)], [SB (namesR pre)]⟩ = if eachE rcE pre r = 0 then some (.exit 2, ⟨[], H⟩) else some (.ret, ⟨[.c (ci (eachE rcE pre r))], H⟩) := by
  intro r
  induction r with
  | nil =>
    intro pre h
    refine ⟨[SB (namesR pre)], ?_⟩
    rw [r56_l3]
    simp [c56_l3b, eachE]
  | cons x r ih =>
    intro pre h
    obtain ⟨H', ih⟩ := ih (pre ++ [x]) (by simpa using h)
    have hln := namesR_le pre
    have hn : namesR (pre ++ [x]) = namesR pre ++ [x.a, x.b].filter fun s => decide (s ≠ []) := by simp [namesR]
    rw [hn] at ih
    obtain ⟨H1, h1⟩ := L56_1 (P := P) x (namesR pre) (.slice ((pre ++ x :: r).map Rc.enc)) (ci pre.length) (namesR pre).length
    simp at h
    obtain ⟨H2, h2⟩ := L56_2 (P := P) x (namesR pre) (.slice ((pre ++ x :: r).map Rc.enc)) (ci pre.length) (by omega)
    have hw : IntKind.i64.wrap (↑pre.length + 1) = ↑pre.length + 1 := wrap64 (by omega) (by omega)
    have hlt : (pre.length : Int) < pre.length + (r.length + 1) := by omega
    have hu := fun n ys => SB_under n ys
    have hNB : LB.cells 1 [.c (.str x.a), .c (.str x.b)] 0 = NB x := rfl
    generalize hys : namesR pre ++ [x.a, x.b].filter (fun s => decide (s ≠ [])) = ys at ih h2
    simp [Rc.enc] at ih h1 h2
    have hu2 := hu 1 ys
    unfold LB.under at hu2
    have hE : eachE rcE pre (x :: r) = if rcE pre x ≠ 0 then rcE pre x else eachE rcE (pre ++ [x]) r := rfl
    have hR : rcE pre x = if strangeR x then 8 else if twiceR (namesR pre) x then 9 else if outside x.w 0 3 then 3 else if decide (0 < walkV x.a x.b) && decide (x.w ≠ walkV x.a x.b) then 19 else 0 := rfl
    cases q1 : strangeR x
    · rw [q1] at hR h1
      simp only [Bool.false_eq_true, if_false] at hR h1
      cases q2 : twiceR (namesR pre) x
      · rw [q2] at hR h2
        simp only [Bool.false_eq_true, if_false] at hR h2
        have hNu : ∀ n, (NB x).under n = true := fun n => rfl
        cases q3 : outside x.w 0 3
        · rw [q3] at hR
          simp only [Bool.false_eq_true, if_false] at hR
          by_cases q4 : 0 < walkV x.a x.b
          · by_cases q5 : x.w = walkV x.a x.b
            · have hR0 : rcE pre x = 0 := by rw [hR]; simp [q5]
              have q4' : ¬ walkV x.a x.b = 0 := by omega
              refine ⟨H', ?_⟩
              rw [hE, hR0, r56_l3]
              simp [c56_l3b, hw, hlt, Rc.enc, hNB, h1, h2, q3, q4, q4', ← q5, whenE, hu, hu2, hNu, ih]
            · have hR0 : rcE pre x = 19 := by rw [hR]; simp [q4, q5]
              have q4' : ¬ walkV x.a x.b = 0 := by omega
              refine ⟨[SB ys, NB x], ?_⟩
              rw [hE, hR0, r56_l3]
              simp [c56_l3b, hw, hlt, Rc.enc, hNB, h1, h2, q3, q4, q4', q5, whenE, hu, hNu]
          · have hR0 : rcE pre x = 0 := by rw [hR]; simp [q4]
            have q4' : walkV x.a x.b = 0 := by
              have : 0 ≤ walkV x.a x.b := by unfold walkV; (repeat' split) <;> omega
              omega
            refine ⟨H', ?_⟩
            rw [hE, hR0, r56_l3]
            simp [c56_l3b, hw, hlt, Rc.enc, hNB, h1, h2, q3, q4', whenE, hu, hu2, hNu, ih]
        · rw [q3] at hR
          simp at hR
          refine ⟨[SB ys, NB x], ?_⟩
          rw [hE, hR, r56_l3]
          simp [c56_l3b, hw, hlt, Rc.enc, hNB, h1, h2, q3, whenE]
      · rw [q2] at hR h2
        simp at hR h2
        refine ⟨H2, ?_⟩
        rw [hE, hR, r56_l3]
        simp [c56_l3b, hw, hlt, Rc.enc, hNB, h1, h2]
    · rw [q1] at hR h1
      simp at hR h1
      refine ⟨H1, ?_⟩
      rw [hE, hR, r56_l3]
      simp [c56_l3b, hw, hlt, Rc.enc, hNB, h1]
theorem S56 (l : List Rc) (h : (l.length : Int) < 9223372036854775807) : fn P 56 [.slice (l.map Rc.enc)] = some (ci (racesE l)) := by
  have h0 := L56_0 (P := P) (l.map Rc.enc) 5 1 (by decide) (by omega)
  have hd := dblN_eq l.length
  rw [u56]
  unfold racesE
  simp at h0
  by_cases h1 : l.length = 1 ∨ l.length = 2 ∨ l.length = 4 ∨ l.length = 8 ∨ l.length = 16 ∨ l.length = 32
  · rw [if_pos h1]
    have hd := hd.2 h1
    obtain ⟨H, hL⟩ := L56_3 (P := P) l [] (by simp; omega)
    have e0 : SB (namesR []) = .cells 1 [] 0 := rfl
    have e1 : namesR [] = [] := rfl
    rw [e0, e1] at hL
    simp at hL
    rw [← hd] at h0
    by_cases h2 : eachE rcE [] l = 0
    · rw [if_pos h2] at hL
      simp [c56, h0, hL, h2]
    · rw [if_neg h2] at hL
      simp [c56, h0, hL]
  · rw [if_neg h1]
    have hd : ¬ (l.length : Int) = dblN l.length 5 1 := fun q => h1 (hd.1 q)
    simp [c56, h0, hd]
end LM.G6
namespace LM.G6
open Go LM
variable {P : Nat → Option SFunc} [Has P]
def winR (r : Rc) : Str := if r.w = 1 then r.a else if r.w = 2 then r.b else []
def Rc.opn (r : Rc) : Bool := decide (r.w = 0)
def nextL (l : List Rc) : List Rc := pairsL (l.map winR)
@[simp] theorem S126 (r : Rc) : fn P 126 [r.enc] = some (.str (winR r)) := by
  rw [u126]
  unfold winR
  by_cases h1 : r.w = 1
  · simp [c126, Rc.enc, h1]
  · by_cases h2 : r.w = 2 <;> simp [c126, Rc.enc, h1, h2]
@[simp] theorem S122 (r : Rc) : fn P 122 [r.enc] = some (.str (winR r)) := by
  rw [u122]
  unfold winR
  by_cases h1 : r.w = 1
  · simp [c122, Rc.enc, h1]
  · by_cases h2 : r.w = 2 <;> simp [c122, Rc.enc, h1, h2]
theorem S152 (r : Rc) : fn P 152 [r.enc] = some (.bool r.opn) := by
  rw [u152]
  unfold Rc.opn
  by_cases h : r.w = 0 <;> simp [c152, Rc.enc, h]
theorem L60 : ∀ (r pre : List Rc), ((pre ++ r).length : Int) < 9223372036854775807 →
    execS P (limS P) c60_l0 ⟨[.c (.slice ((pre ++ r).map Rc.enc)), .c (ci pre.length)], []⟩ = if r.any Rc.opn then some (.ret, ⟨[.c (.bool true)], []⟩) else some (.exit 0, ⟨[], []⟩) := by
  intro r
  induction r with
  | nil =>
    intro pre h
    rw [r60_l0]
    simp [c60_l0b]
  | cons x r ih =>
    intro pre h
    have ih := ih (pre ++ [x]) (by simpa using h)
    simp [Rc.enc, -List.any_eq_true] at ih h
    have hw : IntKind.i64.wrap (↑pre.length + 1) = ↑pre.length + 1 := wrap64 (by omega) (by omega)
    have hlt : (pre.length : Int) < pre.length + (r.length + 1) := by omega
    have e : x.opn = decide (x.w = 0) := rfl
    rw [r60_l0]
    by_cases h0 : x.w = 0
    · simp [c60_l0b, hw, hlt, Rc.enc, e, h0, -List.any_eq_true]
    · simp [c60_l0b, hw, hlt, Rc.enc, e, h0, ih, -List.any_eq_true]
theorem S60 (l : List Rc) (h : (l.length : Int) < 9223372036854775807) : fn P 60 [.slice (l.map Rc.enc)] = some (.bool (l.any Rc.opn)) := by
  have hl := L60 (P := P) l [] (by simpa using h)
  simp [-List.any_eq_true] at hl
  rw [u60]
  cases h0 : l.any Rc.opn <;> rw [h0] at hl <;> simp [c60, hl]
theorem L169 : ∀ (l pre : List Rc), ((pre ++ l).length : Int) < 9223372036854775807 →
    ∃ k : Nat, execS P (limS P) c169_l0 ⟨[.c (.slice ((pre ++ l).map Rc.enc)), .c (.func 152 [] []), .c (ci (pre ++ l).length), .c (ci pre.length)], []⟩ = if l.any Rc.opn then some (.ret, ⟨[.c (ci k)], []⟩) else some (.exit 0, ⟨[], []⟩) := by
  intro l
  induction l with
  | nil =>
    intro pre h
    refine ⟨0, ?_⟩
    rw [r169_l0]
    simp [c169_l0b]
  | cons x r ih =>
    intro pre h
    obtain ⟨k, ih⟩ := ih (pre ++ [x]) (by simpa using h)
    have es := S152 (P := P) x
    simp [Rc.enc, -List.any_eq_true] at ih h es
    have hw : IntKind.i64.wrap (↑pre.length + 1) = ↑pre.length + 1 := wrap64 (by omega) (by omega)
    have hlt : (pre.length : Int) < pre.length + (r.length + 1) := by omega
    cases h0 : x.opn
    · refine ⟨k, ?_⟩
      rw [h0] at es
      rw [r169_l0]
      simp [c169_l0b, hw, hlt, Rc.enc, es, h0, ih, -List.any_eq_true]
    · refine ⟨pre.length, ?_⟩
      rw [h0] at es
      rw [r169_l0]
      simp [c169_l0b, hw, hlt, Rc.enc, es, h0, -List.any_eq_true]
theorem S119 (l : List Rc) (h : (l.length : Int) < 9223372036854775807) : fn P 119 [.slice (l.map Rc.enc)] = some (.bool (l.any Rc.opn)) := by
  obtain ⟨k, hl⟩ := L169 (P := P) l [] (by simpa using h)
  simp [-List.any_eq_true] at hl
  have e169 : fn P 169 [.slice (l.map Rc.enc), .func 152 [] []] = some (ci (if l.any Rc.opn then (k : Int) else -1)) := by
    rw [u169]
    cases h0 : l.any Rc.opn <;> rw [h0] at hl <;> simp [c169, hl]
  have e151 : fn P 151 [.slice (l.map Rc.enc), .func 152 [] []] = some (.bool (l.any Rc.opn)) := by
    rw [u151]
    cases h0 : l.any Rc.opn <;> rw [h0] at e169 <;> simp [c151, e169]
  rw [u119]
  simp [c119, e151]
theorem L61 : ∀ (r pre : List Rc) (ys : List Str), ys.length = pre.length → ((pre ++ r).length : Int) < 1000 →
    execS P (limS P) c61_l0 ⟨[.c (.slice ((pre ++ r).map Rc.enc)), .slice 1 (1 + ys.length) 0 ys.length none none, .c (ci pre.length)], [.cells 1 [] 0, SB ys]⟩ = some (.exit 0, ⟨[.slice 1 (1 + (ys ++ r.map winR).length) 0 (ys ++ r.map winR).length none none], [.cells 1 [] 0, SB (ys ++ r.map winR)]⟩) := by
  intro r
  induction r with
  | nil =>
    intro pre ys _ h
    rw [r61_l0]
    simp [c61_l0b]
  | cons x r ih =>
    intro pre ys hy h
    have ih := ih (pre ++ [x]) (ys ++ [winR x]) (by simp [hy]) (by simpa using h)
    have ha := append_own (b := 1) (g := 1 + ys.length) (bytes := 16) (e := none) (ys := ys.map CV.str) (xs := [.str (winR x)]) (h := [.cells 1 [] 0, SB ys]) (len := ys.length) (fz := 0) rfl (strElems _) (by simpa using strElem (winR x)) (by simp) (Nat.zero_le _) (by simp) (by simp at h ⊢; omega) (by simp at h ⊢; omega)
    have eS : LB.cells (1 + ys.length + 1) (cellsOf (ys.map CV.str ++ [CV.str (winR x)])) 0 = SB (ys ++ [winR x]) := by simp [SB, Nat.add_assoc]
    have es := S122 (P := P) x
    simp [Rc.enc] at ih h es
    simp at ha
    rw [eS] at ha
    have hw : IntKind.i64.wrap (↑pre.length + 1) = ↑pre.length + 1 := wrap64 (by omega) (by omega)
    have hlt : (pre.length : Int) < pre.length + (r.length + 1) := by omega
    have e1 : 1 + (ys.length + 1) = 1 + ys.length + 1 := by omega
    rw [e1] at ih
    have hu2 := SB_under 2 (ys ++ [winR x])
    unfold LB.under at hu2
    rw [r61_l0]
    simp [c61_l0b, hw, hlt, Rc.enc, es, ha, hu2, ih]
theorem L120 : ∀ (r pre : List Rc) (ys : List Str), ys.length = pre.length → ((pre ++ r).length : Int) < 1000 →
    execS P (limS P) c120_l0 ⟨[.slice 1 (1 + ys.length) 0 ys.length none none, .c (.slice ((pre ++ r).map Rc.enc)), .c (ci (pre ++ r).length), .c (ci pre.length)], [.cells 1 [] 0, SB ys]⟩ = some (.exit 0, ⟨[.slice 1 (1 + (ys ++ r.map winR).length) 0 (ys ++ r.map winR).length none none], [.cells 1 [] 0, SB (ys ++ r.map winR)]⟩) := by
  intro r
  induction r with
  | nil =>
    intro pre ys _ h
    rw [r120_l0]
    simp [c120_l0b]
  | cons x r ih =>
    intro pre ys hy h
    have ih := ih (pre ++ [x]) (ys ++ [winR x]) (by simp [hy]) (by simpa using h)
    have ha := append_own (b := 1) (g := 1 + ys.length) (bytes := 16) (e := none) (ys := ys.map CV.str) (xs := [.str (winR x)]) (h := [.cells 1 [] 0, SB ys, .cells 0 [.c (.str x.a), .c (.str x.b), .c (ci x.w)] 0]) (len := ys.length) (fz := 0) rfl (strElems _) (by simpa using strElem (winR x)) (by simp) (Nat.zero_le _) (by simp) (by simp at h ⊢; omega) (by simp at h ⊢; omega)
    have eS : LB.cells (1 + ys.length + 1) (cellsOf (ys.map CV.str ++ [CV.str (winR x)])) 0 = SB (ys ++ [winR x]) := by simp [SB, Nat.add_assoc]
    have es := S126 (P := P) x
    simp [Rc.enc] at ih h es
    simp at ha
    rw [eS] at ha
    have hw : IntKind.i64.wrap (↑pre.length + 1) = ↑pre.length + 1 := wrap64 (by omega) (by omega)
    have hlt : (pre.length : Int) < pre.length + (r.length + 1) := by omega
    have e1 : 1 + (ys.length + 1) = 1 + ys.length + 1 := by omega
    rw [e1] at ih
    have hu2 := SB_under 2 (ys ++ [winR x])
    unfold LB.under at hu2
    rw [r120_l0]
    simp [c120_l0b, hw, hlt, Rc.enc, es, ha, hu2, ih]
theorem S61 (l : List Rc) (h : l.length < 500) : fn P 61 [.slice (l.map Rc.enc)] = some (.slice ((nextL l).map Rc.enc)) := by
  have hL := L61 (P := P) l [] [] rfl (by simp; omega)
  have e0 : SB [] = .cells 1 [] 0 := rfl
  have e115 := S115 (P := P) (l.map winR) (by simpa using h)
  have hf := frz_own (b := 1) (g := 1 + (l.map winR).length) (fz := 0) (e := none) (ys := (l.map winR).map CV.str) (h := [.cells 1 [] 0, SB (l.map winR)]) (len := (l.map winR).length) rfl (strElems _) (by simp) none
  unfold nextL
  generalize l.map winR = W at *
  simp [e0] at hL
  simp [-frz_slice] at hf
  rw [u61]
  simp [c61, hL, hf, e115, -frz_slice]
theorem S120 (l : List Rc) (h : l.length < 500) : fn P 120 [.slice (l.map Rc.enc)] = some (.slice ((nextL l).map Rc.enc)) := by
  have hL := L120 (P := P) l [] [] rfl (by simp; omega)
  have e0 : SB [] = .cells 1 [] 0 := rfl
  have e114 := S114 (P := P) (l.map winR) (by simpa using h)
  have hf := frz_own (b := 1) (g := 1 + (l.map winR).length) (fz := 0) (e := none) (ys := (l.map winR).map CV.str) (h := [.cells 1 [] 0, SB (l.map winR)]) (len := (l.map winR).length) rfl (strElems _) (by simp) none
  unfold nextL
  generalize l.map winR = W at *
  simp [e0] at hL
  simp [-frz_slice] at hf
  rw [u120]
  simp [c120, hL, hf, e114, -frz_slice]
end LM.G6
namespace LM.G6
open Go LM
variable {P : Nat → Option SFunc} [Has P]
def Rc.short (r : Rc) : Bool := decide (r.a.length ≤ 40) && decide (r.b.length ≤ 40)
theorem L55 : ∀ (r pre : List Rc), ((pre ++ r).length : Int) < 9223372036854775807 →
    execS P (limS P) c55_l0 ⟨[.c (.slice ((pre ++ r).map Rc.enc)), .c (ci pre.length)], []⟩ = if r.all Rc.short then some (.exit 0, ⟨[], []⟩) else some (.ret, ⟨[.c (.bool false)], []⟩) := by
  intro r
  induction r with
  | nil =>
    intro pre h
    rw [r55_l0]
    simp [c55_l0b]
  | cons x r ih =>
    intro pre h
    have ih := ih (pre ++ [x]) (by simpa using h)
    simp [Rc.enc, -List.all_eq_true] at ih h
    have hw : IntKind.i64.wrap (↑pre.length + 1) = ↑pre.length + 1 := wrap64 (by omega) (by omega)
    have hlt : (pre.length : Int) < pre.length + (r.length + 1) := by omega
    have e : x.short = (decide (x.a.length ≤ 40) && decide (x.b.length ≤ 40)) := rfl
    have q1 : (40 : Int) < x.a.length ↔ ¬ x.a.length ≤ 40 := by omega
    have q2 : (40 : Int) < x.b.length ↔ ¬ x.b.length ≤ 40 := by omega
    rw [r55_l0]
    by_cases h1 : x.a.length ≤ 40 <;> by_cases h2 : x.b.length ≤ 40 <;> simp [c55_l0b, hw, hlt, Rc.enc, e, q1, q2, h1, h2, ih, -List.all_eq_true, -Nat.not_le]
theorem S55 (l : List Rc) (h : (l.length : Int) < 9223372036854775807) : fn P 55 [.slice (l.map Rc.enc)] = some (.bool (decide ((l.length : Int) ≤ 34) && l.all Rc.short)) := by
  have hl := L55 (P := P) l [] (by simpa using h)
  simp [-List.all_eq_true] at hl
  rw [u55]
  by_cases h1 : (34 : Int) < l.length
  · have : ¬ (l.length : Int) ≤ 34 := by omega
    simp [c55, h1, this]
  · have : (l.length : Int) ≤ 34 := by omega
    cases h0 : l.all Rc.short <;> rw [h0] at hl <;> simp [c55, h1, this, hl]
theorem L54 : ∀ (l pre : List Rc), (pre ++ l).length * 40 ≤ 2 ^ 47 →
    execS P (limS P) c54_l0 ⟨[.c (.slice ((pre ++ l).map Rc.enc)), .slice 1 (1 + pre.length) 0 pre.length (some 3) none, .c (ci pre.length)], [.cells 1 [] 0, .cells (1 + pre.length) (cellsOf (pre.map Rc.enc)) 0]⟩ =
      some (.exit 0, ⟨[.slice 1 (1 + (pre ++ l).length) 0 (pre ++ l).length (some 3) none], [.cells 1 [] 0, .cells (1 + (pre ++ l).length) (cellsOf ((pre ++ l).map Rc.enc)) 0]⟩) := by
  intro l
  induction l with
  | nil =>
    intro pre h
    rw [r54_l0]
    simp [c54_l0b]
  | cons c r ih =>
    intro pre h
    have ih := ih (pre ++ [c]) (by simpa using h)
    have ha := append_own (b := 1) (g := 1 + pre.length) (bytes := 40) (e := some 3) (ys := pre.map Rc.enc) (xs := [c.enc]) (h := [.cells 1 [] 0, .cells (1 + pre.length) (cellsOf (pre.map Rc.enc)) 0]) (len := pre.length) (fz := 0) rfl (Rc.elems _) (by simpa using c.elem) (by simp) (Nat.zero_le _) (by simp) (by simp at h ⊢; omega) (by simp at h ⊢; omega)
    simp at h
    simp [Rc.enc] at ih ha
    have hw : IntKind.i64.wrap (↑pre.length + 1) = ↑pre.length + 1 := wrap64 (by omega) (by omega)
    have hlt : (pre.length : Int) < pre.length + (r.length + 1) := by omega
    have e1 : 1 + (pre.length + 1) = 1 + pre.length + 1 := by omega
    rw [r54_l0]
    rw [e1] at ih
    simp [c54_l0b, Rc.enc, hw, hlt, ha, ih]
theorem S54 (l : List Rc) (h : l.length * 40 ≤ 2 ^ 47) : fn P 54 [.slice (l.map Rc.enc)] = some (.slice (l.map Rc.enc)) := by
  rw [u54]
  have := L54 (P := P) l [] (by simpa using h)
  have hf := frz_own (b := 1) (g := 1 + l.length) (fz := 0) (e := some 3) (ys := l.map Rc.enc) (h := [.cells 1 [] 0, .cells (1 + l.length) (cellsOf (l.map Rc.enc)) 0]) (len := l.length) rfl (Rc.elems _) (by simp) none
  simp at this
  simp [c54, this, resV, hf, -frz_slice]
end LM.G6
namespace LM.G6
open Go LM
def lbody156 : LCode := match lc156 with
  | .seq _ (.seq _ (.block _ (.loop _ b))) => b
  | _ => .skip
def inner156 : LCode := match lbody156 with
  | .seq _ (.seq _ (.seq (.block _ (.seq _ (.seq _ (.block _ (.loop _ b))))) _)) => b
  | _ => .skip
variable {Q : Nat → Option LFunc} {m : Nat} {yh : Hand} {l : List Rc} {x : Rc} {a b : Str} {x2 x3 x4 x5 x6 x7 x8 x9 x10 x11 x12 x13 x14 x15 x16 x17 x18 x19 x20 x21 x22 x23 x24 x25 x26 x27 x28 x29 x30 x31 x32 x33 x34 : LV} {H H' : Heap} {p : Nat}
def nmA (a b : Str) (k : Nat) : Str := if k = 0 then a else b
/-- One name of a race, told. -/
theorem I156_go (k : Nat) (hk : k < 2) (hg : H[p]? = some (.cells 0 [.c (.str x.a), .c (.str x.b), .c (ci x.w)] 0)) (h0 : nmA a b k ≠ []) (h1 : nmA a b k ≠ winR x) (hc : pcall Q m 126 [x.enc] = some (.str (winR x))) (hy : yh [.c (.str (nmA a b k))] H = some (H', none)) :
    execI Q (runs Q m).1 (runs Q m).2 yh inner156 ⟨[.tuple [], .c (.ptr [.slice (l.map Rc.enc)] 0), x2, x3, .ptr p 0 0, x5, x6, x7, x8, x9, x10, x11, x12, x13, x14, x15, x16, .c (.agg [.str a, .str b]), .c (ci k), x19, x20, x21, x22, x23, x24, x25, x26, x27, x28, x29, x30, x31, x32, x33, x34], H⟩ none =
    some (.normal, ⟨[.tuple [], .c (.ptr [.slice (l.map Rc.enc)] 0), x2, x3, .ptr p 0 0, x5, .c (.str (nmA a b k)), x7, x8, x9, x10, x11, x12, x13, x14, x15, x16, .c (.agg [.str a, .str b]), .c (ci (k + 1)), .c (.bool true), .c (.str (nmA a b k)), .c (.str (nmA a b k)), .c (.bool false), .c (.bool false), .c (.str (nmA a b k)), .c x.enc, .c (.str (winR x)), .c (.bool false), .c (.bool false), .tuple [], .c (.str (nmA a b k)), .c (.bool true), .c (.bool false), .c (ci (k + 1)), x34], H'⟩, none) := by
  have hf := callF_of hc
  have hw : IntKind.i64.wrap ((k : Int) + 1) = (k : Int) + 1 := wrap64 (by omega) (by omega)
  have hk1 : (k : Int) < 2 := by omega
  have hnm : [CV.str a, CV.str b][k]? = some (.str (nmA a b k)) := by
    rcases k with _ | _ | k
    · rfl
    · rfl
    · omega
  obtain ⟨_, hnm'⟩ := List.getElem?_eq_some_iff.1 hnm
  generalize nmA a b k = nm at *
  have hem : nm.isEmpty = false := by cases nm with | nil => exact absurd rfl h0 | cons => rfl
  unfold inner156 lbody156 lc156
  simp [Rc.enc] at hf hc
  simp [plainI_eq, opI, hg, hw, hk1, hnm, hnm', hk, hem, h0, h1, hf, hc, hy, Rc.enc]
/-- One name of a race, passed over. -/
theorem I156_none (k : Nat) (hk : k < 2) (h0 : nmA a b k = []) :
    execI Q (runs Q m).1 (runs Q m).2 yh inner156 ⟨[.tuple [], .c (.ptr [.slice (l.map Rc.enc)] 0), x2, x3, .ptr p 0 0, x5, x6, x7, x8, x9, x10, x11, x12, x13, x14, x15, x16, .c (.agg [.str a, .str b]), .c (ci k), x19, x20, x21, x22, x23, x24, x25, x26, x27, x28, x29, x30, x31, x32, x33, x34], H⟩ none =
    some (.normal, ⟨[.tuple [], .c (.ptr [.slice (l.map Rc.enc)] 0), x2, x3, .ptr p 0 0, x5, .c (.str []), x7, x8, x9, x10, x11, x12, x13, x14, x15, x16, .c (.agg [.str a, .str b]), .c (ci (k + 1)), .c (.bool true), .c (.str []), .c (.str []), .c (.bool true), .c (.bool true), .c (.tuple []), .c (.tuple []), .c (.tuple []), .c (.tuple []), .c (.bool true), x29, x30, x31, x32, .c (ci (k + 1)), x34], H⟩, none) := by
  have hw : IntKind.i64.wrap ((k : Int) + 1) = (k : Int) + 1 := wrap64 (by omega) (by omega)
  have hk1 : (k : Int) < 2 := by omega
  have hnm : [CV.str a, CV.str b][k]? = some (.str (nmA a b k)) := by
    rcases k with _ | _ | k
    · rfl
    · rfl
    · omega
  obtain ⟨_, hnm'⟩ := List.getElem?_eq_some_iff.1 hnm
  rw [h0] at hnm hnm'
  unfold inner156 lbody156 lc156
  simp [plainI_eq, opI, hw, hk1, hnm, hnm', hk]
theorem I156_won (k : Nat) (hk : k < 2) (hg : H[p]? = some (.cells 0 [.c (.str x.a), .c (.str x.b), .c (ci x.w)] 0)) (h0 : nmA a b k ≠ []) (h1 : nmA a b k = winR x) (hc : pcall Q m 126 [x.enc] = some (.str (winR x))) :
    execI Q (runs Q m).1 (runs Q m).2 yh inner156 ⟨[.tuple [], .c (.ptr [.slice (l.map Rc.enc)] 0), x2, x3, .ptr p 0 0, x5, x6, x7, x8, x9, x10, x11, x12, x13, x14, x15, x16, .c (.agg [.str a, .str b]), .c (ci k), x19, x20, x21, x22, x23, x24, x25, x26, x27, x28, x29, x30, x31, x32, x33, x34], H⟩ none =
    some (.normal, ⟨[.tuple [], .c (.ptr [.slice (l.map Rc.enc)] 0), x2, x3, .ptr p 0 0, x5, .c (.str (nmA a b k)), x7, x8, x9, x10, x11, x12, x13, x14, x15, x16, .c (.agg [.str a, .str b]), .c (ci (k + 1)), .c (.bool true), .c (.str (nmA a b k)), .c (.str (nmA a b k)), .c (.bool false), .c (.bool false), .c (.str (nmA a b k)), .c x.enc, .c (.str (winR x)), .c (.bool true), .c (.bool true), x29, x30, x31, x32, .c (ci (k + 1)), x34], H⟩, none) := by
  have hf := callF_of hc
  have hw : IntKind.i64.wrap ((k : Int) + 1) = (k : Int) + 1 := wrap64 (by omega) (by omega)
  have hk1 : (k : Int) < 2 := by omega
  have hnm : [CV.str a, CV.str b][k]? = some (.str (nmA a b k)) := by
    rcases k with _ | _ | k
    · rfl
    · rfl
    · omega
  obtain ⟨_, hnm'⟩ := List.getElem?_eq_some_iff.1 hnm
  generalize nmA a b k = nm at *
  have hem : nm.isEmpty = false := by cases nm with | nil => exact absurd rfl h0 | cons => rfl
  subst h1
  unfold inner156 lbody156 lc156
  simp [Rc.enc] at hf hc
  simp [plainI_eq, opI, hg, hw, hk1, hnm, hnm', hk, hem, h0, hf, hc, Rc.enc]
/-- Behind both names. -/
theorem I156_end : execI Q (runs Q m).1 (runs Q m).2 yh inner156 ⟨[.tuple [], .c (.ptr [.slice (l.map Rc.enc)] 0), x2, x3, x4, x5, x6, x7, x8, x9, x10, x11, x12, x13, x14, x15, x16, x17, .c (ci 2), x19, x20, x21, x22, x23, x24, x25, x26, x27, x28, x29, x30, x31, x32, x33, x34], H⟩ none = some (.exit 2, ⟨[.tuple [], .c (.ptr [.slice (l.map Rc.enc)] 0), x2, x3, x4, x5, x6, x7, x8, x9, x10, x11, x12, x13, x14, x15, x16, x17, .c (ci 2), .c (.bool false), x20, x21, x22, x23, x24, x25, x26, x27, x28, x29, x30, x31, x32, x33, x34], H⟩, none) := by
  unfold inner156 lbody156 lc156
  simp [plainI_eq, opI]
end LM.G6
namespace LM.G6
open Go LM
/-- A place. -/
structure Pl where
  n : Str
  p : Int
def Pl.enc (x : Pl) : CV := .agg [.str x.n, ci x.p]
def cPl (xs : List Pl) : List LV := cellsOf (xs.map Pl.enc)
/-- The places so far, in the heap. -/
def Inv (out : List Pl) (H : Heap) : Prop :=
  if out = [] then H[1]? = some (.cells 0 [.nil] 0) else ∃ b, H[1]? = some (.cells 0 [.slice b out.length 0 out.length (some 2) none] 0) ∧ H[b]? = some (.cells out.length (cPl out) 0)
def Fr (H H' : Heap) : Prop := H.length ≤ H'.length ∧ ∀ (i : Nat) (cs : List LV), i ≠ 1 → H[i]? = some (.cells 0 cs 0) → H'[i]? = some (.cells 0 cs 0)
theorem Fr.refl (H : Heap) : Fr H H := ⟨Nat.le_refl _, fun _ _ _ h => h⟩
theorem Fr.trans {A B C : Heap} (h : Fr A B) (k : Fr B C) : Fr A C := ⟨Nat.le_trans h.1 k.1, fun i cs hi hc => k.2 i cs hi (h.2 i cs hi hc)⟩
theorem Fr.app (H : Heap) (K : Heap) : Fr H (H ++ K) := ⟨by simp, fun i cs _ h => by
  have := (List.getElem?_eq_some_iff.1 h).1
  rw [List.getElem?_append_left this]
  exact h⟩
def gcH (n : Nat) (H : Heap) : Heap := if underB n (H.take n) then H.take n else H
theorem underB_get {n : Nat} : ∀ {h : Heap} {i : Nat} {x : LB}, underB n h = true → h[i]? = some x → x.under n = true
  | [], i, x, _, h => by simp at h
  | y :: r, 0, x, hu, h => by
    simp only [underB, Bool.and_eq_true] at hu
    simp at h
    subst h
    exact hu.1
  | y :: r, i + 1, x, hu, h => by
    simp only [underB, Bool.and_eq_true] at hu
    simp at h
    exact underB_get hu.2 h
theorem Inv.gc {out : List Pl} {H : Heap} (h : Inv out H) (n : Nat) (hn : 1 < n) : Inv out (gcH n H) := by
  unfold gcH
  split
  · rename_i hu
    unfold Inv at h ⊢
    split
    · rename_i ho
      rw [if_pos ho] at h
      rw [List.getElem?_take_of_lt hn]
      exact h
    · rename_i ho
      rw [if_neg ho] at h
      obtain ⟨b, h1, h2⟩ := h
      have h1' : (H.take n)[1]? = some (.cells 0 [.slice b out.length 0 out.length (some 2) none] 0) := by rw [List.getElem?_take_of_lt hn]; exact h1
      have := underB_get hu h1'
      simp [LB.under, underL, LV.under] at this
      exact ⟨b, h1', by rw [List.getElem?_take_of_lt this]; exact h2⟩
  · exact h
theorem Fr.gc {H H' : Heap} (h : Fr H H') (n : Nat) (hn : H.length ≤ n) : Fr H (gcH n H') := by
  unfold gcH
  split
  · refine ⟨by rw [List.length_take]; have := h.1; omega, fun i cs hi hc => ?_⟩
    have := (List.getElem?_eq_some_iff.1 hc).1
    rw [List.getElem?_take_of_lt (by omega)]
    exact h.2 i cs hi hc
  · exact h
theorem Inv.app {out : List Pl} {H : Heap} (h : Inv out H) (K : Heap) : Inv out (H ++ K) := by
  have ap : ∀ (i : Nat) (x : LB), H[i]? = some x → (H ++ K)[i]? = some x := fun i x hx => by
    rw [List.getElem?_append_left (List.getElem?_eq_some_iff.1 hx).1]
    exact hx
  unfold Inv at h ⊢
  split
  · rename_i ho
    rw [if_pos ho] at h
    exact ap _ _ h
  · rename_i ho
    rw [if_neg ho] at h
    obtain ⟨b, h1, h2⟩ := h
    exact ⟨b, ap _ _ h1, ap _ _ h2⟩
theorem Inv.pos {out : List Pl} {H : Heap} (h : Inv out H) : 1 < H.length := by
  unfold Inv at h
  split at h
  · exact (List.getElem?_eq_some_iff.1 h).1
  · obtain ⟨b, h1, _⟩ := h
    exact (List.getElem?_eq_some_iff.1 h1).1
def tellN (x : Rc) (nm : Str) : List Str := if nm = [] ∨ nm = winR x then [] else [nm]
def tellF (x : Rc) (k : Nat) : List Str := if k = 0 then tellN x x.a ++ tellN x x.b else if k = 1 then tellN x x.b else []
theorem tellN_len (x : Rc) (nm : Str) : (tellN x nm).length ≤ 1 := by unfold tellN; split <;> simp
theorem tellF_len (x : Rc) (k : Nat) : (tellF x k).length ≤ 2 := by
  have h1 := tellN_len x x.a
  have h2 := tellN_len x x.b
  unfold tellF
  split
  · rw [List.length_append]; omega
  · split
    · omega
    · simp
theorem tellF_step (x : Rc) (k : Nat) (hk : k < 2) : tellF x k = tellN x (nmA x.a x.b k) ++ tellF x (k + 1) := by
  rcases k with _ | _ | k
  · rfl
  · simp [tellF, nmA]
  · omega
/-- The iterator's temporaries at a name of a race. -/
def InR (l : List Rc) (j p : Nat) (a b : Str) (k : Nat) (ts : List LV) : Prop := ∃ x2 x3 x5 x6 x10 x11 x12 x13 x14 x15 x16 x19 x20 x21 x22 x23 x24 x25 x26 x27 x28 x29 x30 x31 x32 x33 x34 : LV, ts = [.tuple [], .c (.ptr [.slice (l.map Rc.enc)] 0), x2, x3, .ptr p 0 0, x5, x6, .c (.slice (l.map Rc.enc)), .c (ci l.length), .c (ci j), x10, x11, x12, x13, x14, x15, x16, .c (.agg [.str a, .str b]), .c (ci k), x19, x20, x21, x22, x23, x24, x25, x26, x27, x28, x29, x30, x31, x32, x33, x34]
/-- At a race. -/
def AtR (l : List Rc) (j : Nat) (ts : List LV) : Prop := ∃ x2 x3 x4 x5 x6 x10 x11 x12 x13 x14 x15 x16 x17 x18 x19 x20 x21 x22 x23 x24 x25 x26 x27 x28 x29 x30 x31 x32 x33 x34 : LV, ts = [.tuple [], .c (.ptr [.slice (l.map Rc.enc)] 0), x2, x3, x4, x5, x6, .c (.slice (l.map Rc.enc)), .c (ci l.length), .c (ci j), x10, x11, x12, x13, x14, x15, x16, x17, x18, x19, x20, x21, x22, x23, x24, x25, x26, x27, x28, x29, x30, x31, x32, x33, x34]
theorem InR.scrub {l : List Rc} {j p : Nat} {a b : Str} {k : Nat} {ts : List LV} {n : Nat} (h : InR l j p a b k ts) (hp : p < n) : InR l j p a b k (LM.scrub n ts) := by
  obtain ⟨x2, x3, x5, x6, x10, x11, x12, x13, x14, x15, x16, x19, x20, x21, x22, x23, x24, x25, x26, x27, x28, x29, x30, x31, x32, x33, x34, rfl⟩ := h
  simp only [LM.scrub, LV.under, underL, decide_eq_true hp, if_true]
  exact ⟨_, _, _, _, _, _, _, _, _, _, _, _, _, _, _, _, _, _, _, _, _, _, _, _, _, _, _, rfl⟩
theorem AtR.scrub {l : List Rc} {j : Nat} {ts : List LV} {n : Nat} (h : AtR l j ts) : AtR l j (LM.scrub n ts) := by
  obtain ⟨x2, x3, x4, x5, x6, x10, x11, x12, x13, x14, x15, x16, x17, x18, x19, x20, x21, x22, x23, x24, x25, x26, x27, x28, x29, x30, x31, x32, x33, x34, rfl⟩ := h
  simp only [LM.scrub, LV.under, underL, if_true]
  exact ⟨_, _, _, _, _, _, _, _, _, _, _, _, _, _, _, _, _, _, _, _, _, _, _, _, _, _, _, _, _, _, rfl⟩
theorem InR.g {l : List Rc} {j p : Nat} {a b : Str} {k : Nat} {ts : List LV} (h : InR l j p a b k ts) : AtR l j ts := by
  obtain ⟨x2, x3, x5, x6, x10, x11, x12, x13, x14, x15, x16, x19, x20, x21, x22, x23, x24, x25, x26, x27, x28, x29, x30, x31, x32, x33, x34, rfl⟩ := h
  exact ⟨_, _, _, _, _, _, _, _, _, _, _, _, _, _, _, _, _, _, _, _, _, _, _, _, _, _, _, _, _, _, rfl⟩
theorem gc_eq (n : Nat) (ts : List LV) (H : Heap) : gc n ⟨ts, H⟩ = ⟨if underB n (H.take n) then LM.scrub n ts else ts, gcH n H⟩ := by
  unfold gc gcH
  split <;> simp_all
variable {Q : Nat → Option LFunc} {yh : Hand} {l : List Rc}
/-- What the body does with a name. -/
def Tells (yh : Hand) (kb : Nat) (cs : List LV) (N : Int) : Prop := ∀ (H : Heap) (out : List Pl) (nm : Str), Inv out H → H[kb]? = some (.cells 0 cs 0) → out.length < 100000 → ∃ H', yh [.c (.str nm)] H = some (H', none) ∧ Inv (out ++ [⟨nm, N⟩]) H' ∧ Fr H H'
theorem J156 {N kb : Nat} {cs : List LV} {pl : Int} (hkb : kb ≠ 1) (hy : Tells yh kb cs pl) (x : Rc) (hc : ∀ M, N ≤ M → pcall Q M 126 [x.enc] = some (.str (winR x))) (j p : Nat) (hp : p ≠ 1) : ∀ (i k : Nat), k + i = 2 → ∀ (M : Nat), N + i ≤ M → ∀ (ts : List LV) (H : Heap) (out : List Pl), InR l j p x.a x.b k ts → H[p]? = some (.cells 0 [.c (.str x.a), .c (.str x.b), .c (ci x.w)] 0) → Inv out H → H[kb]? = some (.cells 0 cs 0) → out.length + i ≤ 100000 →
    ∃ ts' H', execI Q (runs Q M).1 (runs Q M).2 yh (.loop true inner156) ⟨ts, H⟩ none = some (.exit 2, ⟨ts', H'⟩, none) ∧ AtR l j ts' ∧ Inv (out ++ (tellF x k).map (fun nm => ⟨nm, pl⟩)) H' ∧ Fr H H' := by
  intro i
  induction i with
  | zero =>
    intro k hk M hM ts H out hF hb hI hB hO
    have : k = 2 := by omega
    subst this
    obtain ⟨x2, x3, x5, x6, x10, x11, x12, x13, x14, x15, x16, x19, x20, x21, x22, x23, x24, x25, x26, x27, x28, x29, x30, x31, x32, x33, x34, rfl⟩ := hF
    refine ⟨?ts, H, ?e, ?f, ?g, Fr.refl H⟩
    case e => rw [show (ci ((2 : Nat) : Int)) = ci 2 from rfl, ix_loop, I156_end]; rfl
    case f => exact ⟨_, _, _, _, _, _, _, _, _, _, _, _, _, _, _, _, _, _, _, _, _, _, _, _, _, _, _, _, _, _, rfl⟩
    case g => simpa [tellF] using hI
  | succ i ih =>
    intro k hk M hM ts H out hF hb hI hB hO
    obtain ⟨M', rfl⟩ : ∃ M', M = M' + 1 := ⟨M - 1, by omega⟩
    have hk2 : k < 2 := by omega
    have hcM := hc (M' + 1) (by omega)
    have hpl : p < H.length := (List.getElem?_eq_some_iff.1 hb).1
    have hst := tellF_step x k hk2
    have fin : ∀ (ts1 : List LV) (H1 : Heap) (out1 : List Pl), InR l j p x.a x.b (k + 1) ts1 → Inv out1 H1 → Fr H H1 → out1 = out ++ (tellN x (nmA x.a x.b k)).map (fun nm => ⟨nm, pl⟩) →
        execI Q (runs Q (M' + 1)).1 (runs Q (M' + 1)).2 yh inner156 ⟨ts, H⟩ none = some (.normal, ⟨ts1, H1⟩, none) →
        ∃ ts' H', execI Q (runs Q (M' + 1)).1 (runs Q (M' + 1)).2 yh (.loop true inner156) ⟨ts, H⟩ none = some (.exit 2, ⟨ts', H'⟩, none) ∧ AtR l j ts' ∧ Inv (out ++ (tellF x k).map (fun nm => ⟨nm, pl⟩)) H' ∧ Fr H H' := by
      intro ts1 H1 out1 hF1 hI1 hFr ho he
      have hFr2 := hFr.gc H.length (Nat.le_refl _)
      have hI2 := hI1.gc H.length hI.pos
      have hF2 : InR l j p x.a x.b (k + 1) (if underB H.length (H1.take H.length) then LM.scrub H.length ts1 else ts1) := by
        split
        · exact hF1.scrub hpl
        · exact hF1
      obtain ⟨ts', H', e1, e2, e3, e4⟩ := ih (k + 1) (by omega) M' (by omega) _ _ out1 hF2 (hFr2.2 _ _ hp hb) hI2 (hFr2.2 _ _ hkb hB) (by have := tellN_len x (nmA x.a x.b k); rw [ho, List.length_append, List.length_map]; omega)
      refine ⟨ts', H', ?_, e2, ?_, hFr2.trans e4⟩
      · rw [ix_loop, he]
        simp only [seqI_normal, if_true]
        rw [gc_eq]
        exact e1
      · rw [hst, List.map_append, ← List.append_assoc, ← ho]
        exact e3
    obtain ⟨x2, x3, x5, x6, x10, x11, x12, x13, x14, x15, x16, x19, x20, x21, x22, x23, x24, x25, x26, x27, x28, x29, x30, x31, x32, x33, x34, rfl⟩ := hF
    by_cases h0 : nmA x.a x.b k = []
    · exact fin _ H out ⟨_, _, _, _, _, _, _, _, _, _, _, _, _, _, _, _, _, _, _, _, _, _, _, _, _, _, _, rfl⟩ hI (Fr.refl H) (by simp [tellN, h0]) (I156_none k hk2 h0)
    · by_cases h1 : nmA x.a x.b k = winR x
      · exact fin _ H out ⟨_, _, _, _, _, _, _, _, _, _, _, _, _, _, _, _, _, _, _, _, _, _, _, _, _, _, _, rfl⟩ hI (Fr.refl H) (by simp [tellN, h1]) (I156_won k hk2 hb h0 h1 hcM)
      · obtain ⟨H1, hy1, hI1, hF1⟩ := hy H out (nmA x.a x.b k) hI hB (by omega)
        exact fin _ H1 _ ⟨_, _, _, _, _, _, _, _, _, _, _, _, _, _, _, _, _, _, _, _, _, _, _, _, _, _, _, rfl⟩ hI1 hF1 (by simp [tellN, h0, h1]) (I156_go k hk2 hb h0 h1 hcM hy1)
end LM.G6
namespace LM.G6
open Go LM
def rA156 : LCode := match lbody156 with
  | .seq _ (.seq _ (.seq (.block _ (.seq a _)) _)) => a
  | _ => .skip
def rB156 : LCode := match lbody156 with
  | .seq _ (.seq _ (.seq (.block _ (.seq _ (.seq b _))) _)) => b
  | _ => .skip
theorem lbody156_eq : lbody156 = .seq (.region [.mk (some 10) (.bin .lss (.t 9) (.t 8)) none none .any]) (.seq (.cond (.t 10) .skip (.exit 0)) (.seq (.block 1 (.seq rA156 (.seq rB156 (.block 2 (.loop true inner156))))) (.region [.mk (some 34) (.bin .add (.t 9) (.k (.c (.int .i64 1)))) none none .any, .mk (some 9) (.move (.t 34)) none none .any]))) := rfl
def rC156 : LCode := match lc156 with
  | .seq _ (.seq a _) => a
  | _ => .skip
theorem lc156_eq : lc156 = .seq .skip (.seq rC156 (.block 0 (.loop true lbody156))) := rfl
variable {Q : Nat → Option LFunc} {m : Nat} {yh : Hand} {l : List Rc}
def RBx (x : Rc) : LB := .cells 0 [.c (.str x.a), .c (.str x.b), .c (ci x.w)] 0
def AtP (l : List Rc) (j p : Nat) (ts : List LV) : Prop := ∃ x2 x3 x5 x6 x10 x11 x12 x13 x14 x15 x16 x17 x18 x19 x20 x21 x22 x23 x24 x25 x26 x27 x28 x29 x30 x31 x32 x33 x34 : LV, ts = [.tuple [], .c (.ptr [.slice (l.map Rc.enc)] 0), x2, x3, .ptr p 0 0, x5, x6, .c (.slice (l.map Rc.enc)), .c (ci l.length), .c (ci j), x10, x11, x12, x13, x14, x15, x16, x17, x18, x19, x20, x21, x22, x23, x24, x25, x26, x27, x28, x29, x30, x31, x32, x33, x34]
theorem stepA (x : Rc) (j : Nat) (hj : l[j]? = some x) (ts : List LV) (H : Heap) (h : AtR l j ts) :
    ∃ ts', execI Q (runs Q m).1 (runs Q m).2 yh rA156 ⟨ts, H⟩ none = some (.normal, ⟨ts', H ++ [RBx x]⟩, none) ∧ AtP l j H.length ts' := by
  obtain ⟨x2, x3, x4, x5, x6, x10, x11, x12, x13, x14, x15, x16, x17, x18, x19, x20, x21, x22, x23, x24, x25, x26, x27, x28, x29, x30, x31, x32, x33, x34, rfl⟩ := h
  have hjl : j < l.length := (List.getElem?_eq_some_iff.1 hj).1
  obtain ⟨_, hj'⟩ := List.getElem?_eq_some_iff.1 hj
  refine ⟨?ts, ?e, ?f⟩
  case e =>
    unfold rA156 lbody156 lc156
    simp [plainI_eq, opI, hj, hj', hjl, Rc.enc, RBx]
    rfl
  case f => exact ⟨_, _, _, _, _, _, _, _, _, _, _, _, _, _, _, _, _, _, _, _, _, _, _, _, _, _, _, _, _, rfl⟩
theorem stepB (x : Rc) (j p : Nat) (ts : List LV) (H : Heap) (hp : H[p]? = some (RBx x)) (h : AtP l j p ts) :
    ∃ ts', execI Q (runs Q m).1 (runs Q m).2 yh rB156 ⟨ts, H⟩ none = some (.normal, ⟨ts', H⟩, none) ∧ InR l j p x.a x.b 0 ts' := by
  obtain ⟨x2, x3, x5, x6, x10, x11, x12, x13, x14, x15, x16, x17, x18, x19, x20, x21, x22, x23, x24, x25, x26, x27, x28, x29, x30, x31, x32, x33, x34, rfl⟩ := h
  unfold RBx at hp
  refine ⟨?ts, ?e, ?f⟩
  case e =>
    unfold rB156 lbody156 lc156
    simp [plainI_eq, opI, hp]
    rfl
  case f => exact ⟨_, _, _, _, _, _, _, _, _, _, _, _, _, _, _, _, _, _, _, _, _, _, _, _, _, _, _, rfl⟩
set_option maxHeartbeats 2000000 in
theorem L156 {N kb : Nat} {cs : List LV} {pl : Int} (hkb : kb ≠ 1) (hy : Tells yh kb cs pl) (hl : (l.length : Int) < 9223372036854775807) (hc : ∀ M, N ≤ M → ∀ x ∈ l, pcall Q M 126 [x.enc] = some (.str (winR x))) : ∀ (i j : Nat), j + i = l.length → ∀ (M : Nat), N + 3 + i ≤ M → ∀ (ts : List LV) (H : Heap) (out : List Pl), AtR l j ts → Inv out H → H[kb]? = some (.cells 0 cs 0) → out.length + 2 * i ≤ 100000 →
    ∃ ts' H', execI Q (runs Q M).1 (runs Q M).2 yh (.loop true lbody156) ⟨ts, H⟩ none = some (.exit 0, ⟨ts', H'⟩, none) ∧ Inv (out ++ ((l.drop j).flatMap (fun x => tellF x 0)).map (fun nm => ⟨nm, pl⟩)) H' ∧ Fr H H' := by
  intro i
  induction i with
  | zero =>
    intro j hj M hM ts H out hF hI hB hO
    have : j = l.length := by omega
    subst this
    obtain ⟨x2, x3, x4, x5, x6, x10, x11, x12, x13, x14, x15, x16, x17, x18, x19, x20, x21, x22, x23, x24, x25, x26, x27, x28, x29, x30, x31, x32, x33, x34, rfl⟩ := hF
    refine ⟨?ts0, H, ?e0, ?f0, Fr.refl H⟩
    case e0 => rw [ix_loop, lbody156_eq]; simp [plainI_eq, opI]; rfl
    case f0 => simpa using hI
  | succ i ih =>
    intro j hj M hM ts H out hF hI hB hO
    obtain ⟨M', rfl⟩ : ∃ M', M = M' + 1 := ⟨M - 1, by omega⟩
    have hjl : j < l.length := by omega
    obtain ⟨x, hx⟩ : ∃ x, l[j]? = some x := ⟨_, List.getElem?_eq_getElem hjl⟩
    have hxm : x ∈ l := List.mem_of_getElem? hx
    have hdr : l.drop j = x :: l.drop (j + 1) := by rw [List.drop_eq_getElem_cons hjl]; congr 1; exact (List.getElem?_eq_some_iff.1 hx).2
    have hw : IntKind.i64.wrap ((j : Int) + 1) = ((j + 1 : Nat) : Int) := wrap64 (by omega) (by omega)
    have hlt : (j : Int) < l.length := by omega
    obtain ⟨x2, x3, x4, x5, x6, x10, x11, x12, x13, x14, x15, x16, x17, x18, x19, x20, x21, x22, x23, x24, x25, x26, x27, x28, x29, x30, x31, x32, x33, x34, rfl⟩ := hF
    obtain ⟨ts1, a1, a2⟩ := stepA (Q := Q) (m := M' + 1) (yh := yh) x j hx _ H (show AtR l j [.tuple [], .c (.ptr [.slice (l.map Rc.enc)] 0), x2, x3, x4, x5, x6, .c (.slice (l.map Rc.enc)), .c (ci l.length), .c (ci j), .c (.bool true), x11, x12, x13, x14, x15, x16, x17, x18, x19, x20, x21, x22, x23, x24, x25, x26, x27, x28, x29, x30, x31, x32, x33, x34] from ⟨_, _, _, _, _, _, _, _, _, _, _, _, _, _, _, _, _, _, _, _, _, _, _, _, _, _, _, _, _, _, rfl⟩)
    have hget : (H ++ [RBx x])[H.length]? = some (RBx x) := by simp
    obtain ⟨ts2, b1, b2⟩ := stepB (Q := Q) (m := M' + 1) (yh := yh) x j H.length ts1 (H ++ [RBx x]) hget a2
    have hpos := hI.pos
    have fr0 := Fr.app H [RBx x]
    obtain ⟨ts3, H3, w1q, w2q, w3q, w4q⟩ := J156 (Q := Q) (N := N) hkb hy x (fun M hM => hc M hM x hxm) j H.length (by omega) 2 0 rfl (M' + 1) (by omega) ts2 (H ++ [RBx x]) out b2 hget (hI.app _) (fr0.2 _ _ hkb hB) (by omega)
    obtain ⟨y2, y3, y4, y5, y6, y10, y11, y12, y13, y14, y15, y16, y17, y18, y19, y20, y21, y22, y23, y24, y25, y26, y27, y28, y29, y30, y31, y32, y33, y34, rfl⟩ := w2q
    have fr1 := fr0.trans w4q
    have fr2 := fr1.gc H.length (Nat.le_refl _)
    have i2 := w3q.gc H.length hpos
    have body : ∃ ts4, execI Q (runs Q (M' + 1)).1 (runs Q (M' + 1)).2 yh lbody156 ⟨[.tuple [], .c (.ptr [.slice (l.map Rc.enc)] 0), x2, x3, x4, x5, x6, .c (.slice (l.map Rc.enc)), .c (ci l.length), .c (ci j), x10, x11, x12, x13, x14, x15, x16, x17, x18, x19, x20, x21, x22, x23, x24, x25, x26, x27, x28, x29, x30, x31, x32, x33, x34], H⟩ none = some (.normal, ⟨ts4, H3⟩, none) ∧ AtR l (j + 1) ts4 := by
      refine ⟨?ts4, ?b1, ?b2⟩
      case b1 =>
        rw [lbody156_eq]
        simp [plainI_eq, opI, hlt, a1, b1, w1q, hw]
        rfl
      case b2 => exact ⟨_, _, _, _, _, _, _, _, _, _, _, _, _, _, _, _, _, _, _, _, _, _, _, _, _, _, _, _, _, _, rfl⟩
    obtain ⟨ts4, d1, d2⟩ := body
    have d3 : AtR l (j + 1) (if underB H.length (H3.take H.length) then LM.scrub H.length ts4 else ts4) := by
      split
      · exact d2.scrub
      · exact d2
    obtain ⟨ts', H', f1, f2, f3⟩ := ih (j + 1) (by omega) M' (by omega) _ _ _ d3 i2 (fr2.2 _ _ hkb hB) (by have := tellF_len x 0; rw [List.length_append, List.length_map]; omega)
    refine ⟨ts', H', ?_, ?_, fr2.trans f3⟩
    · rw [ix_loop, d1]
      simp only [seqI_normal, if_true]
      rw [gc_eq]
      exact f1
    · rw [hdr, List.flatMap_cons, List.map_append, ← List.append_assoc]
      exact f2
theorem runs_two (Q : Nat → Option LFunc) (M : Nat) : (runs Q (M + 1)).2 = execI Q (runs Q M).1 (runs Q M).2 := rfl
/-- The iterator over all lost names. -/
theorem E156 {N kb : Nat} {cs : List LV} {pl : Int} (hkb : kb ≠ 1) (hy : Tells yh kb cs pl) (hl : (l.length : Int) < 9223372036854775807) (hc : ∀ M, N ≤ M → ∀ x ∈ l, pcall Q M 126 [x.enc] = some (.str (winR x))) (M : Nat) (hM : N + 3 + l.length ≤ M) (H : Heap) (out : List Pl) (hI : Inv out H) (hB : H[kb]? = some (.cells 0 cs 0)) (hO : out.length + 2 * l.length ≤ 100000) :
    ∃ ts' H', (runs Q (M + 1)).2 yh lc156 ⟨pad 35 [.tuple [], .c (.ptr [.slice (l.map Rc.enc)] 0)], H⟩ none = some (.normal, ⟨ts', H'⟩, none) ∧ Inv (out ++ (l.flatMap (fun x => tellF x 0)).map (fun nm => ⟨nm, pl⟩)) H' ∧ Fr H H' := by
  have hC : ∃ ts, execI Q (runs Q M).1 (runs Q M).2 yh rC156 ⟨pad 35 [.tuple [], .c (.ptr [.slice (l.map Rc.enc)] 0)], H⟩ none = some (.normal, ⟨ts, H⟩, none) ∧ AtR l 0 ts := by
    refine ⟨?ts4, ?b1, ?b2⟩
    case b1 =>
      unfold rC156 lc156
      simp [plainI_eq, opI, pad, List.replicate]
      rfl
    case b2 => exact ⟨.undef, .undef, .undef, .undef, .undef, .undef, .undef, .undef, .undef, .undef, .undef, .undef, .undef, .undef, .undef, .undef, .undef, .undef, .undef, .undef, .undef, .undef, .undef, .undef, .undef, .undef, .undef, .undef, .undef, .undef, rfl⟩
  obtain ⟨ts, e1, e2⟩ := hC
  obtain ⟨ts', H', f1, f2, f3⟩ := L156 (Q := Q) hkb hy hl hc l.length 0 (by omega) M hM ts H out e2 hI hB hO
  rw [List.drop_zero] at f2
  refine ⟨ts', H', ?_, f2, f3⟩
  rw [runs_two, lc156_eq]
  simp [e1, f1]
end LM.G6
namespace LM.G6
open Go LM
def asg66 : LCode := match lc66 with
  | .seq _ (.seq _ (.seq _ (.seq _ (.seq (.seq _ (.block _ (.rangeFn _ _ a _))) _)))) => a
  | _ => .skip
def bod66 : LCode := match lc66 with
  | .seq _ (.seq _ (.seq _ (.seq _ (.seq (.seq _ (.block _ (.rangeFn _ _ _ b))) _)))) => b
  | _ => .skip
def asg66i : LCode := match bod66 with
  | .block _ (.seq _ (.block _ (.rangeFn _ _ a _))) => a
  | _ => .skip
def bod66i : LCode := match bod66 with
  | .block _ (.seq _ (.block _ (.rangeFn _ _ _ b))) => b
  | _ => .skip
theorem bod66_eq : bod66 = .block 1 (.seq (.region [.mk (some 35) (.load none (.t 8)) none none .any, .mk (some 36) (.call false (.k (.c (.func 128 [] []))) [(.t 35)]) none none .any]) (.block 2 (.rangeFn (.t 36) [37] asg66i bod66i))) := rfl
theorem Pl.elem (x : Pl) : Elem (some 2) x.enc := ⟨_, rfl, rfl, by simp⟩
theorem Pl.elems (l : List Pl) : ∀ x ∈ l.map Pl.enc, Elem (some 2) x := by
  intro x hx
  obtain ⟨y, _, rfl⟩ := List.mem_map.1 hx
  exact y.elem
variable {Q : Nat → Option LFunc} {m : Nat}
theorem tells66 (x0 x1 x2 x3 x4 x6 x7 x9 x10 x11 x12 x13 x14 x15 x16 x17 x18 x19 x20 x21 x22 x23 x24 x25 x26 x27 x28 x29 x30 x31 x32 x33 x34 x35 x36 x37 x38 x39 x40 x41 x42 x43 x44 x45 x46 : LV) (kb : Nat) (hkb : kb ≠ 1) (l : List Rc) (hl : l.length < 1000) : Tells (handOf (exec Q (runs Q m).1 (runs Q m).2 asg66i) (exec Q (runs Q m).1 (runs Q m).2 bod66i) [37] [x0, x1, x2, x3, x4, .ptr 1 0 0, x6, x7, .ptr kb 0 0, x9, x10, x11, x12, x13, x14, x15, x16, x17, x18, x19, x20, x21, x22, x23, x24, x25, x26, x27, x28, x29, x30, x31, x32, x33, x34, x35, x36, x37, x38, x39, x40, x41, x42, x43, x44, x45, x46]) kb [.c (.slice (l.map Rc.enc))] (l.length + 1) := by
  intro H out nm hI hB hO
  have hw : IntKind.i64.wrap ((l.length : Int) + 1) = (l.length : Int) + 1 := wrap64 (by omega) (by omega)
  have hkl : kb < H.length := (List.getElem?_eq_some_iff.1 hB).1
  unfold Inv at hI
  by_cases ho : out = []
  · subst ho
    rw [if_pos rfl] at hI
    have h0l : 1 < H.length := (List.getElem?_eq_some_iff.1 hI).1
    have hap : appendOp none (some 2) 24 .nil (.c (.slice [Pl.enc ⟨nm, l.length + 1⟩])) H = some (.slice H.length 1 0 1 (some 2) none, H ++ [.cells 1 (cPl [⟨nm, l.length + 1⟩]) 0]) := rfl
    have g0 : ∀ (X : LB) (h : 1 < (H ++ [X]).length), (H ++ [X])[1]'h = .cells 0 [.nil] 0 := fun X h => by
      rw [List.getElem_append_left h0l]
      exact (List.getElem?_eq_some_iff.1 hI).2
    have g0' : ∀ (X : LB), (H ++ [X])[1]? = some (.cells 0 [.nil] 0) := fun X => by
      rw [List.getElem?_append_left h0l]
      exact hI
    refine ⟨(H ++ [LB.cells 1 (cPl [⟨nm, l.length + 1⟩]) 0]).set 1 (.cells 0 [.slice H.length 1 0 1 (some 2) none] 0), ?_, ?_, ?_, ?_⟩
    · simp [Pl.enc] at hap
      unfold handOf asg66i bod66i bod66 lc66
      simp [setPs, hI, hB, hw, hap, g0, g0', cPl, cellsOf]
    · unfold Inv
      rw [if_neg (by simp)]
      refine ⟨H.length, by rw [List.getElem?_set_self (by rw [List.length_append]; omega)]; rfl, ?_⟩
      rw [List.getElem?_set_ne (by omega)]
      simp
    · simp
    · intro i cs hi hc
      have := (List.getElem?_eq_some_iff.1 hc).1
      rw [List.getElem?_set_ne (by omega), List.getElem?_append_left this]
      exact hc
  · rw [if_neg ho] at hI
    obtain ⟨b, h1, h2⟩ := hI
    have hol : 0 < out.length := List.length_pos_iff.2 ho
    have hb0 : b ≠ 1 := by
      intro e
      subst e
      rw [h1] at h2
      simp at h2
      omega
    have hbl : b < H.length := (List.getElem?_eq_some_iff.1 h2).1
    have hbk : b ≠ kb := by
      intro e
      subst e
      rw [hB] at h2
      simp at h2
      omega
    have hap := append_own (b := b) (g := out.length) (bytes := 24) (e := some 2) (ys := out.map Pl.enc) (xs := [Pl.enc ⟨nm, l.length + 1⟩]) (h := H) (len := out.length) (fz := 0) h2 (Pl.elems _) (by simpa using Pl.elem _) (by simp) (Nat.zero_le _) (by simp) (by simp; omega) (by simp; omega)
    have e1 : out.map Pl.enc ++ [Pl.enc ⟨nm, l.length + 1⟩] = (out ++ [(⟨nm, l.length + 1⟩ : Pl)]).map Pl.enc := by simp
    rw [e1] at hap
    have e2 : cellsOf ((out ++ [(⟨nm, l.length + 1⟩ : Pl)]).map Pl.enc) = cPl (out ++ [(⟨nm, l.length + 1⟩ : Pl)]) := rfl
    rw [e2] at hap
    generalize hC : cPl (out ++ [(⟨nm, l.length + 1⟩ : Pl)]) = C at *
    have g0 : ∀ (X : LB) (h : 1 < (H.set b X).length), (H.set b X)[1]'h = .cells 0 [.slice b out.length 0 out.length (some 2) none] 0 := fun X h => by
      rw [List.getElem_set_ne hb0]
      exact (List.getElem?_eq_some_iff.1 h1).2
    have h0l : 1 < H.length := (List.getElem?_eq_some_iff.1 h1).1
    obtain ⟨_, h1'⟩ := List.getElem?_eq_some_iff.1 h1
    have g0' : ∀ (X : LB), (H.set b X)[1]? = some (.cells 0 [.slice b out.length 0 out.length (some 2) none] 0) := fun X => by
      rw [List.getElem?_set_ne hb0]
      exact h1
    refine ⟨(H.set b (LB.cells (out.length + 1) C 0)).set 1 (.cells 0 [.slice b (out.length + 1) 0 (out.length + 1) (some 2) none] 0), ?_, ?_, ?_, ?_⟩
    · simp [Pl.enc] at hap
      unfold handOf asg66i bod66i bod66 lc66
      simp [setPs, h1, h1', hB, hw, hap, g0, g0', h0l]
    · unfold Inv
      rw [if_neg (by simp)]
      refine ⟨b, by simp [h0l], ?_⟩
      rw [List.getElem?_set_ne (by omega)]
      simp [hbl, hC]
    · simp
    · intro i cs hi hc
      have hib : b ≠ i := by
        intro e
        subst e
        rw [hc] at h2
        simp at h2
        omega
      rw [List.getElem?_set_ne (by omega), List.getElem?_set_ne hib]
      exact hc
end LM.G6
namespace LM.G6
open Go LM
def encR (r : List Rc) : CV := .slice (r.map Rc.enc)
/-- The places of those who lost in a round. -/
def itemsS (r : List Rc) : List Pl := (r.flatMap (fun x => tellF x 0)).map (fun nm => ⟨nm, (r.length : Int) + 1⟩)
theorem itemsS_len (r : List Rc) : (itemsS r).length ≤ 2 * r.length := by
  unfold itemsS
  rw [List.length_map]
  induction r with
  | nil => simp
  | cons x r ih =>
    have := tellF_len x 0
    rw [List.flatMap_cons, List.length_append, List.length_cons]
    omega
variable {Q : Nat → Option LFunc}
theorem tellsR (x0 x1 x2 x3 x4 x6 x7 x8 x9 x10 x11 x12 x13 x14 x15 x16 x17 x18 x19 x20 x21 x22 x23 x24 x25 x26 x27 x28 x29 x30 x31 x32 x33 x34 x35 x36 x37 x38 x39 x40 x41 x42 x43 x44 x45 x46 : LV) {N M : Nat} (r : List Rc) (hr : r.length < 1000) (h128 : pcall Q (M + 1) 128 [encR r] = some (.func 156 [] [.ptr [encR r] 0])) (q156 : Q 156 = some lf156) (hc : ∀ M', N ≤ M' → ∀ x ∈ r, pcall Q M' 126 [x.enc] = some (.str (winR x))) (hM : N + 3 + r.length ≤ M) (i : CV) (H : Heap) (out : List Pl) (hI : Inv out H) (hO : out.length + 2 * r.length ≤ 100000) :
    ∃ H', handOf (exec Q (runs Q (M + 1)).1 (runs Q (M + 1)).2 asg66) (exec Q (runs Q (M + 1)).1 (runs Q (M + 1)).2 bod66) [33, 34] [x0, x1, x2, x3, x4, .ptr 1 0 0, x6, x7, x8, x9, x10, x11, x12, x13, x14, x15, x16, x17, x18, x19, x20, x21, x22, x23, x24, x25, x26, x27, x28, x29, x30, x31, x32, x33, x34, x35, x36, x37, x38, x39, x40, x41, x42, x43, x44, x45, x46] [.c i, .c (encR r)] H = some (H', none) ∧ Inv (out ++ itemsS r) H' ∧ Fr H H' := by
  have hpos := hI.pos
  have hf := callF_of h128
  have hasg : exec Q (runs Q (M + 1)).1 (runs Q (M + 1)).2 asg66 ⟨[x0, x1, x2, x3, x4, .ptr 1 0 0, x6, x7, x8, x9, x10, x11, x12, x13, x14, x15, x16, x17, x18, x19, x20, x21, x22, x23, x24, x25, x26, x27, x28, x29, x30, x31, x32, .c i, .c (encR r), x35, x36, x37, x38, x39, x40, x41, x42, x43, x44, x45, x46], H⟩ = some (.normal, ⟨[x0, x1, x2, x3, x4, .ptr 1 0 0, x6, x7, .ptr H.length 0 0, x9, x10, x11, x12, x13, x14, x15, x16, x17, x18, x19, x20, x21, x22, x23, x24, x25, x26, x27, x28, x29, x30, x31, x32, .c i, .c (encR r), x35, x36, x37, x38, x39, x40, x41, x42, x43, x44, x45, x46], H ++ [.cells 0 [.c (encR r)] 0]⟩) := by
    unfold asg66 lc66
    simp [encR, setCells]
  have hy := tells66 (Q := Q) (m := M + 1) x0 x1 x2 x3 x4 x6 x7 x9 x10 x11 x12 x13 x14 x15 x16 x17 x18 x19 x20 x21 x22 x23 x24 x25 x26 x27 x28 x29 x30 x31 x32 (.c i) (.c (encR r)) (.c (encR r)) (.c (.func 156 [] [.ptr [encR r] 0])) x37 x38 x39 x40 x41 x42 x43 x44 x45 x46 H.length (by omega) r hr
  have hget : (H ++ [LB.cells 0 [.c (encR r)] 0])[H.length]? = some (.cells 0 [.c (encR r)] 0) := by simp
  obtain ⟨ts', H', e1, e2, e3⟩ := E156 (Q := Q) (l := r) (by omega) hy (by omega) hc M hM (H ++ [.cells 0 [.c (encR r)] 0]) out (hI.app _) hget hO
  refine ⟨H', ?_, e2, (Fr.app H _).trans e3⟩
  unfold handOf
  simp only [setPs, List.length_cons, List.length_nil, List.set_cons_zero, List.set_cons_succ, if_true]
  rw [hasg, bod66_eq]
  have e1' : (runs Q (M + 1)).2 (handOf (exec Q (runs Q (M + 1)).1 (runs Q (M + 1)).2 asg66i) (exec Q (runs Q (M + 1)).1 (runs Q (M + 1)).2 bod66i) [37] [x0, x1, x2, x3, x4, .ptr 1 0 0, x6, x7, .ptr H.length 0 0, x9, x10, x11, x12, x13, x14, x15, x16, x17, x18, x19, x20, x21, x22, x23, x24, x25, x26, x27, x28, x29, x30, x31, x32, .c i, .c (encR r), .c (encR r), .c (.func 156 [] [.ptr [encR r] 0]), x37, x38, x39, x40, x41, x42, x43, x44, x45, x46]) lc156 ⟨pad 35 [.tuple [], .c (.ptr [encR r] 0)], H ++ [.cells 0 [.c (encR r)] 0]⟩ none = some (.normal, ⟨ts', H'⟩, none) := e1
  simp [h128, hf, rangeF_func q156, e1']
end LM.G6
namespace LM.G6
open Go LM
variable {P : Nat → Option SFunc} [Has P]
/-- A result: a climber, a state, and values. -/
structure Rs where
  who : Str
  state : Str
  vals : List Int
def Rs.enc (x : Rs) : CV := .agg [.str x.who, .str x.state, .slice (x.vals.map ci)]
def Rs.ptr (x : Rs) : CV := .ptr [.str x.who, .str x.state, .slice (x.vals.map ci)] 0
def Rs.ok (x : Rs) : Prop := x.who.length < 9223372036854775807 ∧ x.state.length < 9223372036854775807 ∧ (x.vals.length : Int) < 9223372036854775807
theorem Rs.elem (x : Rs) : Elem (some 3) x.enc := ⟨_, rfl, rfl, by simp [CV.flat]⟩
theorem Rs.elems (l : List Rs) : ∀ x ∈ l.map Rs.enc, Elem (some 3) x := by
  intro x hx
  obtain ⟨y, _, rfl⟩ := List.mem_map.1 hx
  exact y.elem
end LM.G6
namespace LM.G6
open Go LM
variable {P : Nat → Option SFunc} [Has P]
theorem S127 (L : List (List Rc)) : fn P 127 [.slice (L.map encR)] = some (.func 155 [] [.ptr [.slice (L.map encR)] 0]) := by
  rw [u127]
  simp [c127, resV, frz_func]
theorem S128 (r : List Rc) : fn P 128 [encR r] = some (.func 156 [] [.ptr [encR r] 0]) := by
  rw [u128]
  simp [c128, encR, resV, frz_func]
def keyR (x : Rc) : Str × Str := (x.a, x.b)
def sameK (a b : List Rc) : Bool := decide (a.map keyR = b.map keyR)
theorem L129 : ∀ (l p m q : List Rc), p.length = q.length → l.length = m.length → ((p ++ l).length : Int) < 9223372036854775807 →
    execS P (limS P) c129_l0 ⟨[.c (.slice ((p ++ l).map Rc.enc)), .c (.slice ((q ++ m).map Rc.enc)), .c (ci p.length)], []⟩ = if sameK l m then some (.exit 0, ⟨[], []⟩) else some (.ret, ⟨[.c (.bool false)], []⟩) := by
  intro l
  induction l with
  | nil =>
    intro p m q hp hm h
    have : m = [] := List.eq_nil_of_length_eq_zero (by simpa using hm.symm)
    subst this
    rw [r129_l0]
    simp [c129_l0b, sameK]
  | cons c r ih =>
    intro p m q hp hm h
    rcases m with _ | ⟨d, m⟩
    · simp at hm
    have ih := ih (p ++ [c]) m (q ++ [d]) (by simp [hp]) (by simpa using hm) (by simpa using h)
    simp [sameK] at ih h hm
    have hw : IntKind.i64.wrap (↑p.length + 1) = ↑p.length + 1 := wrap64 (by omega) (by omega)
    have hlt : (p.length : Int) < p.length + (r.length + 1) := by omega
    have hlt2 : p.length < q.length + (m.length + 1) := by omega
    have hg : ∀ h, (List.map Rc.enc q ++ CV.agg [.str d.a, .str d.b, ci d.w] :: List.map Rc.enc m)[p.length]'h = CV.agg [.str d.a, .str d.b, ci d.w] := by intro h; simp [hp]
    simp only [Rc.enc] at ih
    rw [r129_l0]
    by_cases h0 : c.a = d.a
    · by_cases h1 : c.b = d.b
      · simp [c129_l0b, hw, hlt, hlt2, hg, h0, h1, sameK, keyR, Rc.enc]
        rw [h0, h1] at ih
        exact ih
      · simp [c129_l0b, hw, hlt, hlt2, hg, h0, h1, sameK, keyR, Rc.enc]
    · simp [c129_l0b, hw, hlt, hlt2, hg, h0, sameK, keyR, Rc.enc]
theorem S129 (l m : List Rc) (h : (l.length : Int) < 9223372036854775807) : fn P 129 [.slice (l.map Rc.enc), .slice (m.map Rc.enc)] = some (.bool (sameK l m)) := by
  rw [u129]
  by_cases hl : l.length = m.length
  · have := L129 (P := P) l [] m [] rfl hl (by simpa using h)
    simp at this
    cases h0 : sameK l m <;> rw [h0] at this <;> simp [c129, hl, this]
  · have h1 : ¬ (l.length : Int) = m.length := by omega
    have h2 : sameK l m = false := by
      unfold sameK
      refine decide_eq_false (fun e => hl ?_)
      have := congrArg List.length e
      simpa using this
    simp [c129, h1, h2]
/-- The error of a round, behind those before it. -/
def rndE (pre : List (List Rc)) (r : List Rc) : Int := match pre.getLast? with
  | none => racesE r
  | some p => firstE [racesE r, whenE (decide (2 * (r.length : Int) ≠ p.length)) 2, whenE (p.any Rc.opn) 24, whenE (!sameK r (nextL p)) 29]
def lastE (L : List (List Rc)) : Int := match L.getLast? with
  | none => 12
  | some r => firstE [whenE (decide ((r.length : Int) > 1)) 20, whenE (r.any Rc.opn) 24]
def roundsE (L : List (List Rc)) : Int := if L.length = 0 then 12 else if (L.length : Int) > 6 then 5 else if eachE rndE [] L ≠ 0 then eachE rndE [] L else lastE L
theorem L67 (L : List (List Rc)) (hlen : ∀ r ∈ L, r.length < 500) (hL : L.length < 500) : ∀ (r pre : List (List Rc)), L = pre ++ r →
    execS P (limS P) c67_l0 ⟨[.c (.slice (L.map encR)), .c (ci pre.length)], []⟩ = if eachE rndE pre r = 0 then some (.exit 0, ⟨[.c (.slice (L.map encR))], []⟩) else some (.ret, ⟨[.c (ci (eachE rndE pre r))], []⟩) := by
  intro r
  induction r with
  | nil =>
    intro pre hp
    rw [r67_l0]
    simp [c67_l0b, eachE, hp]
  | cons x r ih =>
    intro pre hp
    have ih := ih (pre ++ [x]) (by simp [hp])
    have hx : L[pre.length]? = some x := by rw [hp]; simp
    obtain ⟨hxl, hx'⟩ := List.getElem?_eq_some_iff.1 hx
    have hxm : x ∈ L := List.mem_of_getElem? hx
    have h500 := hlen x hxm
    have e56 := S56 (P := P) x (by omega)
    have hw : IntKind.i64.wrap (↑pre.length + 1) = ↑pre.length + 1 := wrap64 (by omega) (by omega)
    have hlt : (pre.length : Int) < L.length := by omega
    have hE : eachE rndE pre (x :: r) = if rndE pre x ≠ 0 then rndE pre x else eachE rndE (pre ++ [x]) r := rfl
    rw [r67_l0, hE]
    simp at ih
    rcases List.eq_nil_or_concat pre with h0 | ⟨pre', y, h0⟩
    · subst h0
      have hR : rndE [] x = racesE x := rfl
      rw [hR]
      simp at hx hx' hxl
      by_cases h1 : racesE x = 0
      · simp at ih
        have w1 : IntKind.i64.wrap 1 = 1 := rfl
        simp [c67_l0b, hx, hx', hxl, hlt, e56, h1, encR, w1, ih]
      · simp [c67_l0b, hx, hx', hxl, hlt, e56, h1, encR]
    · rw [List.concat_eq_append] at h0
      have hyL : L[pre'.length]? = some y := by rw [hp, h0]; simp
      obtain ⟨hyl, hy'⟩ := List.getElem?_eq_some_iff.1 hyL
      have hym : y ∈ L := List.mem_of_getElem? hyL
      have hy500 := hlen y hym
      have e60 := S60 (P := P) y (by omega)
      have e61 := S61 (P := P) y (by omega)
      have e129 := S129 (P := P) x (nextL y) (by omega)
      have hplen : pre.length = pre'.length + 1 := by rw [h0]; simp
      have hgl : pre.getLast? = some y := by rw [h0]; simp
      have hR : rndE pre x = firstE [racesE x, whenE (decide (2 * (x.length : Int) ≠ y.length)) 2, whenE (y.any Rc.opn) 24, whenE (!sameK x (nextL y)) 29] := by unfold rndE; rw [hgl]
      have hw2 : IntKind.i64.wrap (2 * (x.length : Int)) = 2 * (x.length : Int) := wrap64 (by omega) (by omega)
      have hi0 : ¬ ((pre'.length + 1 : Nat) : Int) = 0 := by omega
      clear hx' hxl
      rw [hplen] at hx hlt hw ih ⊢
      obtain ⟨hxl, hx'⟩ := List.getElem?_eq_some_iff.1 hx
      have hc : ((pre'.length + 1 : Nat) : Int) = (pre'.length : Int) + 1 := by omega
      have hwp : IntKind.i64.wrap (pre'.length : Int) = (pre'.length : Int) := wrap64 (by omega) (by omega)
      have hwy : IntKind.i64.wrap (y.length : Int) = (y.length : Int) := wrap64 (by omega) (by omega)
      have j0 : (0 : Int) ≤ (pre'.length : Int) + 1 := by omega
      have t1 : ((pre'.length : Int) + 1).toNat = pre'.length + 1 := by omega
      rw [hR]
      simp only [hc] at hw hlt hi0 ih ⊢
      by_cases h1 : racesE x = 0
      · by_cases h2 : 2 * (x.length : Int) = y.length
        · cases h3 : y.any Rc.opn
          · rw [h3] at e60
            cases h4 : sameK x (nextL y)
            · rw [h4] at e129
              simp [c67_l0b, hx, hx', hxl, hyL, hy', hyl, hlt, hwp, hwy, j0, t1, hw2, hi0, e56, e60, e61, e129, h1, h2, h3, h4, encR, firstE, whenE, -List.any_eq_true]
            · rw [h4] at e129
              simp [c67_l0b, hx, hx', hxl, hyL, hy', hyl, hlt, hw, hwp, hwy, j0, t1, hw2, hi0, e56, e60, e61, e129, h1, h2, h3, h4, encR, firstE, whenE, ih, -List.any_eq_true]
          · rw [h3] at e60
            simp [c67_l0b, hx, hx', hxl, hyL, hy', hyl, hlt, hwp, hwy, j0, t1, hw2, hi0, e56, e60, h1, h2, h3, encR, firstE, whenE, -List.any_eq_true]
        · simp [c67_l0b, hx, hx', hxl, hyL, hy', hyl, hlt, hwp, hwy, j0, t1, hw2, hi0, e56, h1, h2, encR, firstE, whenE]
      · simp [c67_l0b, hx, hx', hxl, hlt, hwp, j0, t1, hi0, e56, h1, encR, firstE]
end LM.G6
namespace LM.G6
open Go LM
variable {P : Nat → Option SFunc} [Has P]
theorem S67 (L : List (List Rc)) (hlen : ∀ r ∈ L, r.length < 500) (hL : L.length < 500) : fn P 67 [.slice (L.map encR)] = some (ci (roundsE L)) := by
  have hl := L67 (P := P) L hlen hL L [] rfl
  simp at hl
  rw [u67]
  unfold roundsE
  by_cases h0 : L = []
  · subst h0
    simp [c67]
  · have hp : 0 < L.length := List.length_pos_iff.2 h0
    have hp' : ¬ (L.length : Int) = 0 := by omega
    have hp'' : ¬ L.length = 0 := by omega
    rw [if_neg hp'']
    by_cases h1 : (L.length : Int) > 6
    · have h1' : (6 : Int) < (L.length : Int) := h1
      simp [c67, h0, hp', h1']
    · have h1' : ¬ (6 : Int) < (L.length : Int) := h1
      rw [if_neg h1]
      by_cases h2 : eachE rndE [] L = 0
      · obtain ⟨x, hx⟩ : ∃ x, L[L.length - 1]? = some x := ⟨_, List.getElem?_eq_getElem (by omega)⟩
        obtain ⟨hxl, hx'⟩ := List.getElem?_eq_some_iff.1 hx
        have hxm : x ∈ L := List.mem_of_getElem? hx
        have h500 := hlen x hxm
        have e60 := S60 (P := P) x (by omega)
        have hgl : L.getLast? = some x := by rw [List.getLast?_eq_getElem?]; exact hx
        have hw : IntKind.i64.wrap ((L.length : Int) - 1) = ((L.length - 1 : Nat) : Int) := by rw [show (L.length : Int) - 1 = ((L.length - 1 : Nat) : Int) from by omega]; exact wrap64 (by omega) (by omega)
        rw [h2] at hl
        have hE : lastE L = firstE [whenE (decide ((x.length : Int) > 1)) 20, whenE (x.any Rc.opn) 24] := by unfold lastE; rw [hgl]
        rw [hE]
        by_cases h3 : (1 : Int) < (x.length : Int)
        · simp [c67, h0, hp', h1', h2, hl, hw, hx, hx', hxl, encR, h3, firstE, whenE]
          try omega
        · cases h4 : x.any Rc.opn <;> rw [h4] at e60 <;> simp [c67, h0, hp', h1', h2, hl, hw, hx, hx', hxl, encR, h3, e60, firstE, whenE] <;> omega
      · simp [c67, h0, hp', h1', h2, hl]
theorem L125_0 (Ll L2 n i : CV) (X Y : List Rc) (hX : X.length < 500) : ∀ (qn pn qr pr : List Rc), X = pn ++ qn → Y = pr ++ qr → pn.length = pr.length → qn.length = qr.length →
    ∃ H, execS P (limS P) c125_l0 ⟨[.c Ll, .c (encR Y), .c L2, .c n, .c i, .c (encR X), .c (ci X.length), .c (ci pn.length)], [.dead]⟩ = if sameK qr qn then some (.exit 2, ⟨[.c Ll, .c L2, .c n, .c i], [.dead]⟩) else some (.ret, ⟨[.c (ci 29)], H⟩) := by
  intro qn
  induction qn with
  | nil =>
    intro pn qr pr h1 h2 h3 h4
    have : qr = [] := List.eq_nil_of_length_eq_zero (by simpa using h4.symm)
    subst this
    refine ⟨[], ?_⟩
    rw [r125_l0]
    simp [c125_l0b, sameK, h1]
  | cons x qn ih =>
    intro pn qr pr h1 h2 h3 h4
    rcases qr with _ | ⟨y, qr⟩
    · simp at h4
    obtain ⟨H, ih⟩ := ih (pn ++ [x]) qr (pr ++ [y]) (by simp [h1]) (by simp [h2]) (by simp [h3]) (by simpa using h4)
    have hx : X[pn.length]? = some x := by rw [h1]; simp
    have hy : Y[pn.length]? = some y := by rw [h2, h3]; simp
    obtain ⟨hxl, hx'⟩ := List.getElem?_eq_some_iff.1 hx
    obtain ⟨hyl, hy'⟩ := List.getElem?_eq_some_iff.1 hy
    have hw : IntKind.i64.wrap (↑pn.length + 1) = ↑pn.length + 1 := wrap64 (by omega) (by omega)
    have hlt : (pn.length : Int) < X.length := by omega
    simp [encR] at ih
    by_cases h0 : x.a = y.a
    · by_cases h1 : x.b = y.b
      · have hs : sameK (y :: qr) (x :: qn) = sameK qr qn := by simp [sameK, keyR, h0, h1]
        rw [hs]
        refine ⟨H, ?_⟩
        rw [r125_l0]
        simp [c125_l0b, hw, hlt, hx, hx', hxl, hy, hy', hyl, h0, h1, encR, Rc.enc, ih]
      · have h1' : ¬ y.b = x.b := fun e => h1 e.symm
        have hs : sameK (y :: qr) (x :: qn) = false := by simp [sameK, keyR, h0, h1']
        rw [hs]
        refine ⟨[.dead, .cells 0 [.c (.str x.a), .c (.str x.b), .c (ci x.w)] 0], ?_⟩
        rw [r125_l0]
        simp [c125_l0b, hw, hlt, hx, hx', hxl, hy, hy', hyl, h0, h1, encR, Rc.enc]
    · have h0' : ¬ y.a = x.a := fun e => h0 e.symm
      have hs : sameK (y :: qr) (x :: qn) = false := by simp [sameK, keyR, h0']
      rw [hs]
      refine ⟨[.dead, .cells 0 [.c (.str x.a), .c (.str x.b), .c (ci x.w)] 0], ?_⟩
      rw [r125_l0]
      simp [c125_l0b, hw, hlt, hx, hx', hxl, hy, hy', hyl, h0, encR, Rc.enc]
theorem nextL_len : ∀ l : List Rc, (nextL l).length = l.length / 2 := by
  have key : ∀ (n : Nat) (s : List Str), s.length ≤ n → (pairsL s).length = s.length / 2 := by
    intro n
    induction n with
    | zero => intro s h; have : s = [] := List.eq_nil_of_length_eq_zero (by omega); subst this; rfl
    | succ n ih =>
      intro s h
      rcases s with _ | ⟨a, _ | ⟨b, s⟩⟩
      · rfl
      · simp [pairsL]
      · have := ih s (by simp at h; omega)
        rw [pairsL, List.length_cons, this]
        simp
        omega
  intro l
  unfold nextL
  rw [key _ _ (Nat.le_refl _), List.length_map]
theorem L125_1 (T : Tabs P) (L : List (List Rc)) (hlen : ∀ r ∈ L, r.length < 500) (hL : L.length < 500) (hx : ∀ r ∈ L, ∀ x ∈ r, x.a.length < 9223372036854775807 ∧ x.b.length < 9223372036854775807) : ∀ (r pre : List (List Rc)), L = pre ++ r →
    ∃ H, execS P (limS P) c125_l1 ⟨[.c (.slice (L.map encR)), .c (.slice (L.map encR)), .c (ci L.length), .c (ci pre.length)], []⟩ = if eachE rndE pre r = 0 then some (.exit 0, ⟨[.c (.slice (L.map encR))], []⟩) else some (.ret, ⟨[.c (ci (eachE rndE pre r))], H⟩) := by
  intro r
  induction r with
  | nil =>
    intro pre hp
    refine ⟨[], ?_⟩
    rw [r125_l1]
    simp [c125_l1b, eachE, hp]
  | cons x r ih =>
    intro pre hp
    obtain ⟨H0, ih⟩ := ih (pre ++ [x]) (by simp [hp])
    have hxL : L[pre.length]? = some x := by rw [hp]; simp
    have hxm : x ∈ L := List.mem_of_getElem? hxL
    have h500 := hlen x hxm
    have hpl : pre.length < L.length := (List.getElem?_eq_some_iff.1 hxL).1
    have e57 := S57 (P := P) T x (by omega) (hx x hxm)
    have hw : IntKind.i64.wrap (↑pre.length + 1) = ↑pre.length + 1 := wrap64 (by omega) (by omega)
    have hE : eachE rndE pre (x :: r) = if rndE pre x ≠ 0 then rndE pre x else eachE rndE (pre ++ [x]) r := rfl
    rw [hE]
    simp at ih
    rcases List.eq_nil_or_concat pre with h0 | ⟨pre', y, h0⟩
    · subst h0
      have hR : rndE [] x = racesE x := rfl
      rw [hR]
      simp at hxL
      obtain ⟨hxl, hx'⟩ := List.getElem?_eq_some_iff.1 hxL
      have hlt : (0 : Int) < L.length := by omega
      have w1 : IntKind.i64.wrap 1 = 1 := rfl
      by_cases h1 : racesE x = 0
      · simp at ih
        refine ⟨H0, ?_⟩
        rw [r125_l1]
        simp [c125_l1b, hxL, hx', hxl, hlt, e57, h1, encR, w1, ih]
      · refine ⟨[], ?_⟩
        rw [r125_l1]
        simp [c125_l1b, hxL, hx', hxl, hlt, e57, h1, encR]
    · rw [List.concat_eq_append] at h0
      have hyL : L[pre'.length]? = some y := by rw [hp, h0]; simp
      obtain ⟨hyl, hy'⟩ := List.getElem?_eq_some_iff.1 hyL
      have hym : y ∈ L := List.mem_of_getElem? hyL
      have hy500 := hlen y hym
      have e119 := S119 (P := P) y (by omega)
      have e120 := S120 (P := P) y (by omega)
      have hplen : pre.length = pre'.length + 1 := by rw [h0]; simp
      have hgl : pre.getLast? = some y := by rw [h0]; simp
      have hR : rndE pre x = firstE [racesE x, whenE (decide (2 * (x.length : Int) ≠ y.length)) 2, whenE (y.any Rc.opn) 24, whenE (!sameK x (nextL y)) 29] := by unfold rndE; rw [hgl]
      have hw2 : IntKind.i64.wrap (2 * (x.length : Int)) = 2 * (x.length : Int) := wrap64 (by omega) (by omega)
      have hi0 : ¬ ((pre'.length + 1 : Nat) : Int) = 0 := by omega
      have hlt : ((pre'.length + 1 : Nat) : Int) < L.length := by rw [hp, h0]; simp; omega
      rw [hplen] at hxL hw ih ⊢
      obtain ⟨hxl, hx'⟩ := List.getElem?_eq_some_iff.1 hxL
      have hc : ((pre'.length + 1 : Nat) : Int) = (pre'.length : Int) + 1 := by omega
      have hwp : IntKind.i64.wrap (pre'.length : Int) = (pre'.length : Int) := wrap64 (by omega) (by omega)
      have hwy : IntKind.i64.wrap (y.length : Int) = (y.length : Int) := wrap64 (by omega) (by omega)
      have j0 : (0 : Int) ≤ (pre'.length : Int) + 1 := by omega
      have t1 : ((pre'.length : Int) + 1).toNat = pre'.length + 1 := by omega
      rw [hR]
      simp only [hc] at hw hlt hi0 ih ⊢
      by_cases h1 : racesE x = 0
      · by_cases h2 : 2 * (x.length : Int) = y.length
        · have hn := nextL_len y
          obtain ⟨H1, k0⟩ := L125_0 (P := P) (.slice (L.map encR)) (.slice (L.map encR)) (ci L.length) (ci (pre'.length + 1)) (nextL y) x (by omega) (nextL y) [] x [] rfl rfl rfl (by omega)
          simp [encR] at k0
          cases h3 : y.any Rc.opn
          · rw [h3] at e119
            cases h4 : sameK x (nextL y)
            · rw [h4] at k0
              refine ⟨H1, ?_⟩
              rw [r125_l1]
              simp [c125_l1b, hxL, hx', hxl, hyL, hy', hyl, hlt, hwp, hwy, j0, t1, hw2, hi0, e57, e119, e120, k0, h1, h2, h3, h4, encR, firstE, whenE, -List.any_eq_true]
            · rw [h4] at k0
              refine ⟨H0, ?_⟩
              rw [r125_l1]
              simp [c125_l1b, hxL, hx', hxl, hyL, hy', hyl, hlt, hw, hwp, hwy, j0, t1, hw2, hi0, e57, e119, e120, k0, h1, h2, h3, h4, encR, firstE, whenE, ih, -List.any_eq_true]
          · rw [h3] at e119
            refine ⟨[.dead], ?_⟩
            rw [r125_l1]
            simp [c125_l1b, hxL, hx', hxl, hyL, hy', hyl, hlt, hwp, hwy, j0, t1, hw2, hi0, e57, e119, h1, h2, h3, encR, firstE, whenE, -List.any_eq_true]
        · have h2' : decide (2 * (x.length : Int) ≠ y.length) = true := by simp [h2]
          refine ⟨[.dead], ?_⟩
          rw [r125_l1]
          cases h3 : y.any Rc.opn <;> rw [h3] at e119 <;> simp [c125_l1b, hxL, hx', hxl, hyL, hy', hyl, hlt, hwp, hwy, j0, t1, hw2, hi0, e57, e119, h1, h2, encR, firstE, whenE, -List.any_eq_true]
      · refine ⟨[], ?_⟩
        rw [r125_l1]
        simp [c125_l1b, hxL, hx', hxl, hlt, hwp, j0, t1, hi0, e57, h1, encR, firstE]
end LM.G6
namespace LM.G6
open Go LM
def lbody155 : LCode := match lc155 with
  | .seq _ (.block _ (.loop _ b)) => b
  | _ => .skip
def rC155 : LCode := match lc155 with
  | .seq a _ => a
  | _ => .skip
theorem lc155_eq : lc155 = .seq rC155 (.block 0 (.loop true lbody155)) := rfl
def AtO (L : List (List Rc)) (k : Nat) (ts : List LV) : Prop := ∃ x2 x4 x5 x6 x7 x8 x9 x10 x11 x12 x13 x14 x15 x16 x17 x18 : LV, ts = [.tuple [], .c (.ptr [.slice (L.map encR)] 0), x2, .c (ci ((k : Int) - 1)), x4, x5, x6, x7, x8, x9, x10, x11, x12, x13, x14, x15, x16, x17, x18]
theorem AtO.scrub {L : List (List Rc)} {k : Nat} {ts : List LV} {n : Nat} (h : AtO L k ts) : AtO L k (LM.scrub n ts) := by
  obtain ⟨x2, x4, x5, x6, x7, x8, x9, x10, x11, x12, x13, x14, x15, x16, x17, x18, rfl⟩ := h
  simp only [LM.scrub, LV.under, underL, if_true]
  exact ⟨_, _, _, _, _, _, _, _, _, _, _, _, _, _, _, _, rfl⟩
variable {Q : Nat → Option LFunc} {m : Nat} {yh : Hand} {L : List (List Rc)}
theorem step155 (k : Nat) (r : List Rc) (hr : L[k]? = some r) (hL : L.length < 1000) (H H1 : Heap) (hy : yh [.c (ci k), .c (encR r)] H = some (H1, none)) (ts : List LV) (h : AtO L (k + 1) ts) :
    ∃ ts', execI Q (runs Q m).1 (runs Q m).2 yh lbody155 ⟨ts, H⟩ none = some (.normal, ⟨ts', H1⟩, none) ∧ AtO L k ts' := by
  obtain ⟨x2, x4, x5, x6, x7, x8, x9, x10, x11, x12, x13, x14, x15, x16, x17, x18, rfl⟩ := h
  have hkl : k < L.length := (List.getElem?_eq_some_iff.1 hr).1
  obtain ⟨_, hr'⟩ := List.getElem?_eq_some_iff.1 hr
  have e0 : (((k + 1 : Nat) : Int) - 1) = (k : Int) := by omega
  have hw : IntKind.i64.wrap ((k : Int) - 1) = (k : Int) - 1 := wrap64 (by omega) (by omega)
  rw [e0]
  refine ⟨?ts, ?e, ?f⟩
  case e =>
    unfold lbody155 lc155
    simp only [encR] at hy
    simp [plainI_eq, opI, hr, hr', hkl, hw, encR, hy]
    rfl
  case f => exact ⟨_, _, _, _, _, _, _, _, _, _, _, _, _, _, _, _, rfl⟩
theorem end155 (H : Heap) (ts : List LV) (h : AtO L 0 ts) : ∃ ts', execI Q (runs Q m).1 (runs Q m).2 yh lbody155 ⟨ts, H⟩ none = some (.exit 0, ⟨ts', H⟩, none) := by
  obtain ⟨x2, x4, x5, x6, x7, x8, x9, x10, x11, x12, x13, x14, x15, x16, x17, x18, rfl⟩ := h
  have e0 : (((0 : Nat) : Int) - 1) = -1 := rfl
  rw [e0]
  refine ⟨?ts, ?e⟩
  case e =>
    unfold lbody155 lc155
    simp [plainI_eq, opI]
    rfl
theorem L155 (hL : L.length < 1000) (hlen : ∀ r ∈ L, r.length < 1000) (hy : ∀ (H : Heap) (out : List Pl) (i : CV) (r : List Rc), r ∈ L → Inv out H → out.length + 2 * r.length ≤ 100000 → ∃ H', yh [.c i, .c (encR r)] H = some (H', none) ∧ Inv (out ++ itemsS r) H' ∧ Fr H H') :
    ∀ (k : Nat), k ≤ L.length → ∀ (M : Nat), k ≤ M → ∀ (ts : List LV) (H : Heap) (out : List Pl), AtO L k ts → Inv out H → out.length + 2000 * k ≤ 100000 →
    ∃ ts' H', execI Q (runs Q M).1 (runs Q M).2 yh (.loop true lbody155) ⟨ts, H⟩ none = some (.exit 0, ⟨ts', H'⟩, none) ∧ Inv (out ++ (L.take k).reverse.flatMap itemsS) H' := by
  intro k
  induction k with
  | zero =>
    intro _ M _ ts H out hF hI _
    obtain ⟨ts', e⟩ := end155 (Q := Q) (m := M) (yh := yh) H ts hF
    exact ⟨ts', H, by rw [ix_loop, e]; rfl, by simpa using hI⟩
  | succ k ih =>
    intro hk M hM ts H out hF hI hO
    obtain ⟨M', rfl⟩ : ∃ M', M = M' + 1 := ⟨M - 1, by omega⟩
    obtain ⟨r, hr⟩ : ∃ r, L[k]? = some r := ⟨_, List.getElem?_eq_getElem (by omega)⟩
    have hrm : r ∈ L := List.mem_of_getElem? hr
    have hrl := hlen r hrm
    obtain ⟨H1, y1, y2, y3⟩ := hy H out (ci k) r hrm hI (by omega)
    obtain ⟨ts1, d1, d2⟩ := step155 (Q := Q) (m := M' + 1) k r hr hL H H1 y1 ts hF
    have d3 : AtO L k (if underB H.length (H1.take H.length) then LM.scrub H.length ts1 else ts1) := by
      split
      · exact d2.scrub
      · exact d2
    have hil := itemsS_len r
    obtain ⟨ts', H', f1, f2⟩ := ih (by omega) M' (by omega) _ _ _ d3 (y2.gc H.length hI.pos) (by rw [List.length_append]; omega)
    refine ⟨ts', H', ?_, ?_⟩
    · rw [ix_loop, d1]
      simp only [seqI_normal, if_true]
      rw [gc_eq]
      exact f1
    · rw [List.take_succ, hr]
      simp only [Option.toList, List.reverse_append, List.reverse_cons, List.reverse_nil, List.nil_append, List.flatMap_append, List.flatMap_cons, List.flatMap_nil, List.append_nil]
      rw [← List.append_assoc]
      exact f2
theorem E155 (hL : L.length < 50) (hlen : ∀ r ∈ L, r.length < 1000) (hy : ∀ (H : Heap) (out : List Pl) (i : CV) (r : List Rc), r ∈ L → Inv out H → out.length + 2 * r.length ≤ 100000 → ∃ H', yh [.c i, .c (encR r)] H = some (H', none) ∧ Inv (out ++ itemsS r) H' ∧ Fr H H') (M : Nat) (hM : L.length ≤ M) (H : Heap) (out : List Pl) (hI : Inv out H) (hO : out.length ≤ 1) :
    ∃ ts' H', (runs Q (M + 1)).2 yh lc155 ⟨pad 19 [.tuple [], .c (.ptr [.slice (L.map encR)] 0)], H⟩ none = some (.normal, ⟨ts', H'⟩, none) ∧ Inv (out ++ L.reverse.flatMap itemsS) H' := by
  have hC : ∃ ts, execI Q (runs Q M).1 (runs Q M).2 yh rC155 ⟨pad 19 [.tuple [], .c (.ptr [.slice (L.map encR)] 0)], H⟩ none = some (.normal, ⟨ts, H⟩, none) ∧ AtO L L.length ts := by
    have hw : IntKind.i64.wrap ((L.length : Int) - 1) = (L.length : Int) - 1 := wrap64 (by omega) (by omega)
    refine ⟨?ts4, ?b1, ?b2⟩
    case b1 =>
      unfold rC155 lc155
      simp [plainI_eq, opI, pad, List.replicate, hw]
      rfl
    case b2 => exact ⟨_, _, _, _, _, _, _, _, _, _, _, _, _, _, _, _, rfl⟩
  obtain ⟨ts, e1, e2⟩ := hC
  obtain ⟨ts', H', f1, f2⟩ := L155 (Q := Q) (by omega) hlen hy L.length (Nat.le_refl _) M hM ts H out e2 hI (by omega)
  rw [List.take_length] at f2
  refine ⟨ts', H', ?_, f2⟩
  rw [runs_two, lc155_eq]
  simp [e1, f1]
end LM.G6
namespace LM.G6
open Go LM
def pA66 : LCode := match lc66 with
  | .seq a _ => a
  | _ => .skip
def pB66 : LCode := match lc66 with
  | .seq _ (.seq b _) => b
  | _ => .skip
def pC66 : LCode := match lc66 with
  | .seq _ (.seq _ (.seq c _)) => c
  | _ => .skip
def pD66 : LCode := match lc66 with
  | .seq _ (.seq _ (.seq _ (.seq d _))) => d
  | _ => .skip
def pE66 : LCode := match lc66 with
  | .seq _ (.seq _ (.seq _ (.seq _ (.seq (.seq e _) _)))) => e
  | _ => .skip
def pF66 : LCode := match lc66 with
  | .seq _ (.seq _ (.seq _ (.seq _ (.seq _ (.seq f _))))) => f
  | _ => .skip
theorem lc66_eq : lc66 = .seq pA66 (.seq pB66 (.seq pC66 (.seq pD66 (.seq (.seq pE66 (.block 0 (.rangeFn (.t 32) [33, 34] asg66 bod66))) (.seq pF66 .ret))))) := rfl
/-- What the small machine answers, the larger one does, with enough fuel. -/
def Over (P : Nat → Option SFunc) (Q : Nat → Option LFunc) : Prop := ∀ f args v, fn P f args = some v → ∃ n, pcall Q n f args = some v
theorem Over.all {P : Nat → Option SFunc} {Q : Nat → Option LFunc} (h : Over P Q) {f : Nat} {args : List CV} {v : CV} (e : fn P f args = some v) : ∃ N, ∀ M, N ≤ M → pcall Q M f args = some v := by
  obtain ⟨n, hn⟩ := h f args v e
  exact ⟨n, pcall_all hn⟩
theorem fuel_list {Q : Nat → Option LFunc} {α : Type} {f : Nat} {ar : α → List CV} {vv : α → CV} : ∀ (l : List α), (∀ x ∈ l, ∃ N, ∀ M, N ≤ M → pcall Q M f (ar x) = some (vv x)) → ∃ N, ∀ M, N ≤ M → ∀ x ∈ l, pcall Q M f (ar x) = some (vv x)
  | [], _ => ⟨0, fun _ _ x hx => by cases hx⟩
  | a :: l, h => by
    obtain ⟨n1, h1⟩ := h a (by simp)
    obtain ⟨n2, h2⟩ := fuel_list l (fun x hx => h x (by simp [hx]))
    refine ⟨n1 + n2, fun M hM x hx => ?_⟩
    rcases List.mem_cons.1 hx with rfl | hx
    · exact h1 M (by omega)
    · exact h2 M (by omega) x hx
/-- The places as the program tells them. -/
def winP (x : Rc) : List Pl := if winR x = [] then [] else [⟨winR x, 1⟩]
def placesS (L : List (List Rc)) (x : Rc) : List Pl := winP x ++ L.reverse.flatMap itemsS
theorem E66 {P : Nat → Option SFunc} {Q : Nat → Option LFunc} (hQ : Over P Q) (q66 : Q 66 = some lf66) (q155 : Q 155 = some lf155) (q156 : Q 156 = some lf156) (L : List (List Rc)) (e : Int) (e125 : fn P 125 [.slice (L.map encR)] = some (ci e))
    (e126 : ∀ x : Rc, fn P 126 [x.enc] = some (.str (winR x))) (e127 : fn P 127 [.slice (L.map encR)] = some (.func 155 [] [.ptr [.slice (L.map encR)] 0])) (e128 : ∀ r : List Rc, fn P 128 [encR r] = some (.func 156 [] [.ptr [encR r] 0]))
    (x : Rc) (hx : e = 0 → L.length < 50 ∧ (∀ r ∈ L, r.length < 1000) ∧ L[L.length - 1]? = some [x] ∧ 0 < L.length) :
    ∃ n, pcall Q n 66 [.slice (L.map encR)] = some (.tuple (if e = 0 then [.slice ((placesS L x).map Pl.enc), ci 0] else [.slice [], ci e])) := by
  obtain ⟨n1, f1⟩ := hQ.all e125
  obtain ⟨n2, f2⟩ := fuel_list (Q := Q) (f := 126) (ar := fun x : Rc => [x.enc]) (vv := fun x => .str (winR x)) (x :: L.flatMap _root_.id) (fun x _ => hQ.all (e126 x))
  obtain ⟨n3, f3⟩ := hQ.all e127
  obtain ⟨n4, f4⟩ := fuel_list (Q := Q) (f := 128) (ar := fun r : List Rc => [encR r]) (vv := fun r => .func 156 [] [.ptr [encR r] 0]) L (fun r _ => hQ.all (e128 r))
  have hM : ∃ M, n1 ≤ M + 1 ∧ n2 + 3 + 1000 ≤ M ∧ n3 ≤ M + 1 ∧ n4 ≤ M + 1 ∧ 1000 ≤ M := ⟨n1 + n2 + n3 + n4 + 3000, by omega⟩
  obtain ⟨M, m1, m2, m3, m4, m5⟩ := hM
  have f1 := f1 _ m1
  have f2x := f2 (M + 1) (by omega) x (by simp)
  have f3 := f3 _ m3
  have f4 := f4 _ m4
  have g1 := callF_of f1
  have g2 := callF_of f2x
  have g3 := callF_of f3
  simp only [Rc.enc] at f2x g2
  refine ⟨M + 2, ?_⟩
  rw [pcall_code (n := M + 1) q66]
  by_cases he : e = 0
  · subst he
    obtain ⟨hL, hlen, hlast, hL0⟩ := hx rfl
    obtain ⟨hll, hlast'⟩ := List.getElem?_eq_some_iff.1 hlast
    have hw : IntKind.i64.wrap ((L.length : Int) - 1) = ((L.length - 1 : Nat) : Int) := by rw [show (L.length : Int) - 1 = ((L.length - 1 : Nat) : Int) from by omega]; exact wrap64 (by omega) (by omega)
    by_cases hwn : winR x = []
    · rw [lc66_eq]
      simp [pA66, pB66, pC66, pD66, pE66, lc66, pad, List.replicate, f1, g1, f2x, g2, f3, g3, hw, hlast, hlast', hll, hL0, encR, hwn, Rc.enc, rangeF_func q155]
      have hI : Inv (winP x) [.cells 1 [] 0, .cells 0 [.nil] 0] := by unfold winP; rw [if_pos hwn]; rfl
      generalize hyh : handOf _ _ _ _ = yh
      have hy : ∀ (H : Heap) (out : List Pl) (i : CV) (r : List Rc), r ∈ L → Inv out H → out.length + 2 * r.length ≤ 100000 → ∃ H', yh [.c i, .c (encR r)] H = some (H', none) ∧ Inv (out ++ itemsS r) H' ∧ Fr H H' := by
        intro H out i r hr hI hO
        rw [← hyh]
        exact tellsR _ _ _ _ _ _ _ _ _ _ _ _ _ _ _ _ _ _ _ _ _ _ _ _ _ _ _ _ _ _ _ _ _ _ _ _ _ _ _ _ _ _ _ _ _ _ r (hlen r hr) (f4 r hr) q156 (fun M' hM' y hy => f2 M' hM' y (by simp; exact .inr ⟨r, hr, hy⟩)) (by have := hlen r hr; omega) i H out hI hO
      obtain ⟨ts', H', e1, e2⟩ := E155 (Q := Q) hL hlen hy M (by omega) _ (winP x) hI (by unfold winP; split <;> simp)
      simp [pad, List.replicate] at e1
      rw [e1]
      have e2 : Inv (placesS L x) H' := e2
      unfold Inv at e2
      by_cases hp : placesS L x = []
      · rw [if_pos hp] at e2
        obtain ⟨e3, e4⟩ := List.getElem?_eq_some_iff.1 e2
        simp [pF66, lc66, e2, e3, e4, hp, mkTuple, frz, resV]
      · rw [if_neg hp] at e2
        obtain ⟨b, e2, e5⟩ := e2
        obtain ⟨e3, e4⟩ := List.getElem?_eq_some_iff.1 e2
        have h2 : (cPl (placesS L x)).length = (placesS L x).length * 2 := by have := cellsOf_length (Pl.elems (placesS L x)); rw [List.length_map] at this; exact this
        have h3 : (cPl (placesS L x)).take ((placesS L x).length * 2) = cPl (placesS L x) := List.take_of_length_le (by omega)
        have h4 : ∀ h, mapH (frz 38) (cPl (placesS L x)) h = some (((placesS L x).map Pl.enc).flatMap CV.cells, h) := fun h => by unfold cPl cellsOf; rw [mapH_map_c 37]
        have h6 : chunk (some 2) (placesS L x).length (((placesS L x).map Pl.enc).flatMap CV.cells) = some ((placesS L x).map Pl.enc) := by have := chunk_cellsOf (Pl.elems (placesS L x)); rw [List.length_map] at this; exact this
        generalize placesS L x = Z at *
        generalize cPl Z = C at *
        generalize Z.map Pl.enc = ZE at *
        generalize ZE.flatMap CV.cells = CE at *
        simp [pF66, lc66, e2, e3, e4, e5, hp, mkTuple, frz, resV, h2, h3, h4, h6]
    · have hem : (winR x).isEmpty = false := by cases h : winR x with | nil => exact absurd h hwn | cons => rfl
      have hap : appendOp none (some 2) 24 .nil (.c (.slice [.agg [.str (winR x), .int .i64 1]])) [.cells 1 [] 0, .cells 0 [.nil] 0] = some (.slice 2 1 0 1 (some 2) none, [.cells 1 [] 0, .cells 0 [.nil] 0, .cells 1 (cPl [⟨winR x, 1⟩]) 0]) := rfl
      rw [lc66_eq]
      simp [pA66, pB66, pC66, pD66, pE66, lc66, pad, List.replicate, f1, g1, f2x, g2, f3, g3, hw, hlast, hlast', hll, hL0, encR, hwn, hem, hap, Rc.enc, rangeF_func q155]
      have hI : Inv (winP x) [.cells 1 [] 0, .cells 0 [.slice 2 1 0 1 (some 2) none] 0, .cells 1 (cPl [⟨winR x, 1⟩]) 0] := by unfold winP; rw [if_neg hwn]; exact ⟨2, rfl, rfl⟩
      generalize hyh : handOf _ _ _ _ = yh
      have hy : ∀ (H : Heap) (out : List Pl) (i : CV) (r : List Rc), r ∈ L → Inv out H → out.length + 2 * r.length ≤ 100000 → ∃ H', yh [.c i, .c (encR r)] H = some (H', none) ∧ Inv (out ++ itemsS r) H' ∧ Fr H H' := by
        intro H out i r hr hI hO
        rw [← hyh]
        exact tellsR _ _ _ _ _ _ _ _ _ _ _ _ _ _ _ _ _ _ _ _ _ _ _ _ _ _ _ _ _ _ _ _ _ _ _ _ _ _ _ _ _ _ _ _ _ _ r (hlen r hr) (f4 r hr) q156 (fun M' hM' y hy => f2 M' hM' y (by simp; exact .inr ⟨r, hr, hy⟩)) (by have := hlen r hr; omega) i H out hI hO
      obtain ⟨ts', H', e1, e2⟩ := E155 (Q := Q) hL hlen hy M (by omega) _ (winP x) hI (by unfold winP; split <;> simp)
      simp [pad, List.replicate] at e1
      rw [e1]
      have e2 : Inv (placesS L x) H' := e2
      unfold Inv at e2
      by_cases hp : placesS L x = []
      · rw [if_pos hp] at e2
        obtain ⟨e3, e4⟩ := List.getElem?_eq_some_iff.1 e2
        simp [pF66, lc66, e2, e3, e4, hp, mkTuple, frz, resV]
      · rw [if_neg hp] at e2
        obtain ⟨b, e2, e5⟩ := e2
        obtain ⟨e3, e4⟩ := List.getElem?_eq_some_iff.1 e2
        have h2 : (cPl (placesS L x)).length = (placesS L x).length * 2 := by have := cellsOf_length (Pl.elems (placesS L x)); rw [List.length_map] at this; exact this
        have h3 : (cPl (placesS L x)).take ((placesS L x).length * 2) = cPl (placesS L x) := List.take_of_length_le (by omega)
        have h4 : ∀ h, mapH (frz 38) (cPl (placesS L x)) h = some (((placesS L x).map Pl.enc).flatMap CV.cells, h) := fun h => by unfold cPl cellsOf; rw [mapH_map_c 37]
        have h6 : chunk (some 2) (placesS L x).length (((placesS L x).map Pl.enc).flatMap CV.cells) = some ((placesS L x).map Pl.enc) := by have := chunk_cellsOf (Pl.elems (placesS L x)); rw [List.length_map] at this; exact this
        generalize placesS L x = Z at *
        generalize cPl Z = C at *
        generalize Z.map Pl.enc = ZE at *
        generalize ZE.flatMap CV.cells = CE at *
        simp [pF66, lc66, e2, e3, e4, e5, hp, mkTuple, frz, resV, h2, h3, h4, h6]
  · rw [lc66_eq]
    simp [pA66, pB66, lc66, pad, List.replicate, f1, g1, he, resultV, resultsAll, resultOne, resV, mkTuple, frz]
end LM.G6
namespace LM.G6
open Go LM
variable {P : Nat → Option SFunc} [Has P]
theorem S125 (T : Tabs P) (L : List (List Rc)) (hlen : ∀ r ∈ L, r.length < 500) (hL : L.length < 500) (hx : ∀ r ∈ L, ∀ x ∈ r, x.a.length < 9223372036854775807 ∧ x.b.length < 9223372036854775807) : fn P 125 [.slice (L.map encR)] = some (ci (roundsE L)) := by
  obtain ⟨H, hl⟩ := L125_1 (P := P) T L hlen hL hx L [] rfl
  simp at hl
  rw [u125]
  unfold roundsE
  by_cases h0 : L = []
  · subst h0
    simp [c125, whenE, firstE]
  · have hp : 0 < L.length := List.length_pos_iff.2 h0
    have hp' : ¬ (L.length : Int) = 0 := by omega
    have hp'' : ¬ L.length = 0 := by omega
    rw [if_neg hp'']
    by_cases h1 : (L.length : Int) > 6
    · have h1' : (6 : Int) < (L.length : Int) := h1
      simp [c125, h0, hp', h1', whenE, firstE]
    · have h1' : ¬ (6 : Int) < (L.length : Int) := h1
      rw [if_neg h1]
      by_cases h2 : eachE rndE [] L = 0
      · obtain ⟨x, hx⟩ : ∃ x, L[L.length - 1]? = some x := ⟨_, List.getElem?_eq_getElem (by omega)⟩
        obtain ⟨hxl, hx'⟩ := List.getElem?_eq_some_iff.1 hx
        have hxm : x ∈ L := List.mem_of_getElem? hx
        have h500 := hlen x hxm
        have e119 := S119 (P := P) x (by omega)
        have hgl : L.getLast? = some x := by rw [List.getLast?_eq_getElem?]; exact hx
        have hw : IntKind.i64.wrap ((L.length : Int) - 1) = ((L.length - 1 : Nat) : Int) := by rw [show (L.length : Int) - 1 = ((L.length - 1 : Nat) : Int) from by omega]; exact wrap64 (by omega) (by omega)
        rw [h2] at hl
        have hE : lastE L = firstE [whenE (decide ((x.length : Int) > 1)) 20, whenE (x.any Rc.opn) 24] := by unfold lastE; rw [hgl]
        rw [hE]
        cases h4 : x.any Rc.opn <;> rw [h4] at e119 <;> by_cases h3 : (1 : Int) < (x.length : Int) <;> simp [c125, h0, hp', h1', h2, hl, hw, hx, hx', hxl, encR, h3, e119, firstE, whenE] <;> omega
      · simp [c125, h0, hp', h1', h2, hl, whenE, firstE]
theorem L69 : ∀ (l pre : List Pl), (pre ++ l).length * 24 ≤ 2 ^ 47 →
    execS P (limS P) c69_l0 ⟨[.c (.slice ((pre ++ l).map Pl.enc)), .slice 1 (1 + pre.length) 0 pre.length (some 2) none, .c (ci pre.length)], [.cells 1 [] 0, .cells (1 + pre.length) (cellsOf (pre.map Pl.enc)) 0]⟩ =
      some (.exit 0, ⟨[.slice 1 (1 + (pre ++ l).length) 0 (pre ++ l).length (some 2) none], [.cells 1 [] 0, .cells (1 + (pre ++ l).length) (cellsOf ((pre ++ l).map Pl.enc)) 0]⟩) := by
  intro l
  induction l with
  | nil =>
    intro pre h
    rw [r69_l0]
    simp [c69_l0b]
  | cons c r ih =>
    intro pre h
    have ih := ih (pre ++ [c]) (by simpa using h)
    have ha := append_own (b := 1) (g := 1 + pre.length) (bytes := 24) (e := some 2) (ys := pre.map Pl.enc) (xs := [c.enc]) (h := [.cells 1 [] 0, .cells (1 + pre.length) (cellsOf (pre.map Pl.enc)) 0]) (len := pre.length) (fz := 0) rfl (Pl.elems _) (by simpa using c.elem) (by simp) (Nat.zero_le _) (by simp) (by simp at h ⊢; omega) (by simp at h ⊢; omega)
    simp at h
    simp [Pl.enc] at ih ha
    have hw : IntKind.i64.wrap (↑pre.length + 1) = ↑pre.length + 1 := wrap64 (by omega) (by omega)
    have hlt : (pre.length : Int) < pre.length + (r.length + 1) := by omega
    have e1 : 1 + (pre.length + 1) = 1 + pre.length + 1 := by omega
    rw [r69_l0]
    rw [e1] at ih
    simp [c69_l0b, Pl.enc, hw, hlt, ha, ih]
theorem S69 (l : List Pl) (h : l.length * 24 ≤ 2 ^ 47) : fn P 69 [.slice (l.map Pl.enc)] = some (.slice (l.map Pl.enc)) := by
  rw [u69]
  have := L69 (P := P) l [] (by simpa using h)
  have hf := frz_own (b := 1) (g := 1 + l.length) (fz := 0) (e := some 2) (ys := l.map Pl.enc) (h := [.cells 1 [] 0, .cells (1 + l.length) (cellsOf (l.map Pl.enc)) 0]) (len := l.length) rfl (Pl.elems _) (by simp) none
  simp at this
  simp [c69, this, resV, hf, -frz_slice]
theorem L68 : ∀ (r pre : List Pl), ((pre ++ r).length : Int) < 9223372036854775807 →
    execS P (limS P) c68_l0 ⟨[.c (.slice ((pre ++ r).map Pl.enc)), .c (.slice ((pre ++ r).map Pl.enc)), .c (ci pre.length)], []⟩ = some (.exit 0, ⟨[], []⟩) := by
  intro r
  induction r with
  | nil =>
    intro pre h
    rw [r68_l0]
    simp [c68_l0b]
  | cons x r ih =>
    intro pre h
    have ih := ih (pre ++ [x]) (by simpa using h)
    simp [Pl.enc] at ih h
    have hw : IntKind.i64.wrap (↑pre.length + 1) = ↑pre.length + 1 := wrap64 (by omega) (by omega)
    have hlt : (pre.length : Int) < pre.length + (r.length + 1) := by omega
    have hk : eqK (.many [1, 0]) (CV.agg [.str x.n, ci x.p]) (CV.agg [.str x.n, ci x.p]) = some true := by simp [eqK, keyOk, kindsOk, kindOf, eqCells, eqS]
    rw [r68_l0]
    simp [c68_l0b, hw, hlt, Pl.enc, hk, ih]
theorem S68 (l : List Pl) (h : (l.length : Int) < 9223372036854775807) : fn P 68 [.slice (l.map Pl.enc), .slice (l.map Pl.enc)] = some (.bool true) := by
  have := L68 (P := P) l [] (by simpa using h)
  simp at this
  rw [u68]
  simp [c68, this]
end LM.G6
namespace LM.G6
open Go LM
variable {P : Nat → Option SFunc} [Has P]
/-- The places of those who lost a race, as the reference tells them. -/
def refA (N : Int) (x : Rc) : List Pl := if x.a ≠ [] ∧ x.w ≠ 1 then [⟨x.a, N⟩] else []
def refB (N : Int) (x : Rc) : List Pl := if x.b ≠ [] ∧ x.w ≠ 2 then [⟨x.b, N⟩] else []
def refX (N : Int) (x : Rc) : List Pl := refA N x ++ refB N x
def itemsR (r : List Rc) : List Pl := r.flatMap (refX ((r.length : Int) + 1))
theorem underPl (n : Nat) (xs : List Pl) : underL n (cPl xs) = true := underL_cellsOf _ _
def HB (o : List Pl) (B : LB) : Heap := [.cells 1 [] 0, .cells (1 + o.length) (cPl o) 0, B]
theorem L70_0 (L : List (List Rc)) (l : List Rc) (i : Nat) (hi : L[i]? = some l) (hl : l.length < 500) (z : Rc) : ∀ (r pre : List Rc), l = pre ++ r → ∀ (o : List Pl), o.length + 2 * r.length < 100000 →
    execS P (limS P) c70_l0 ⟨[.c (.slice (L.map encR)), .slice 1 (1 + o.length) 0 o.length (some 2) none, .c (ci i), .c (ci pre.length)], HB o (RBx z)⟩ =
      some (.exit 2, ⟨[.c (.slice (L.map encR)), .slice 1 (1 + (o ++ r.flatMap (refX (l.length + 1))).length) 0 (o ++ r.flatMap (refX (l.length + 1))).length (some 2) none, .c (ci i)], HB (o ++ r.flatMap (refX (l.length + 1))) (RBx z)⟩) := by
  obtain ⟨hil, hi'⟩ := List.getElem?_eq_some_iff.1 hi
  intro r
  induction r with
  | nil =>
    intro pre hp o ho
    rw [r70_l0]
    simp [c70_l0b, hi, hi', hil, encR, hp]
  | cons x r ih =>
    intro pre hp o ho
    have hx : l[pre.length]? = some x := by rw [hp]; simp
    obtain ⟨hxl, hx'⟩ := List.getElem?_eq_some_iff.1 hx
    have hw : IntKind.i64.wrap (↑pre.length + 1) = ↑pre.length + 1 := wrap64 (by omega) (by omega)
    have hwl : IntKind.i64.wrap ((l.length : Int) + 1) = (l.length : Int) + 1 := wrap64 (by omega) (by omega)
    have hlt : (pre.length : Int) < l.length := by omega
    have ih := ih (pre ++ [x]) (by simp [hp])
    have hap : ∀ (pos : Option Nat) (o : List Pl) (nm : Str) (T : Heap), o.length < 100000 → appendOp pos (some 2) 24 (.slice 1 (1 + o.length) 0 o.length (some 2) none) (.c (.slice [.agg [.str nm, .int .i64 (l.length + 1)]])) (.cells 1 [] 0 :: .cells (1 + o.length) (cPl o) 0 :: T) = some (.slice 1 (1 + o.length + 1) 0 (o.length + 1) (some 2) none, .cells 1 [] 0 :: .cells (1 + o.length + 1) (cPl (o ++ [⟨nm, l.length + 1⟩])) 0 :: T) := by
      intro pos o nm T ho
      have ha := append_ownP pos (b := 1) (g := 1 + o.length) (bytes := 24) (e := some 2) (ys := o.map Pl.enc) (xs := [Pl.enc ⟨nm, l.length + 1⟩]) (h := .cells 1 [] 0 :: .cells (1 + o.length) (cPl o) 0 :: T) (len := o.length) (fz := 0) rfl (Pl.elems _) (by simpa using Pl.elem _) (by simp) (Nat.zero_le _) (by simp) (by simp; omega) (by simp; omega)
      have e1 : o.map Pl.enc ++ [Pl.enc ⟨nm, l.length + 1⟩] = (o ++ [(⟨nm, l.length + 1⟩ : Pl)]).map Pl.enc := by simp
      rw [e1] at ha
      exact ha
    have hu := fun n xs => underPl n xs
    have hf : (x :: r).flatMap (refX (l.length + 1)) = refA (l.length + 1) x ++ (refB (l.length + 1) x ++ r.flatMap (refX (l.length + 1))) := by
      rw [List.flatMap_cons]
      simp [refX]
    rw [hf, ← List.append_assoc, ← List.append_assoc]
    simp only [List.length_cons] at ho
    by_cases h1 : x.a = [] ∨ x.w = 1
    · have hA : refA (l.length + 1) x = [] := by
        unfold refA
        rw [if_neg (by rcases h1 with h | h <;> simp [h])]
      rw [hA, List.append_nil]
      by_cases h2 : x.b = [] ∨ x.w = 2
      · have hB : refB (l.length + 1) x = [] := by
          unfold refB
          rw [if_neg (by rcases h2 with h | h <;> simp [h])]
        rw [hB, List.append_nil]
        have ih := ih o (by omega)
        simp [HB, RBx] at ih
        rw [r70_l0]
        rcases h1 with h1 | h1
        · rcases h2 with h2 | h2 <;> simp [c70_l0b, HB, RBx, hi, hi', hil, hx, hx', hxl, hlt, hw, hwl, hu, encR, Rc.enc, h1, h2, ih]
        · rcases h2 with h2 | h2
          · simp [c70_l0b, HB, RBx, hi, hi', hil, hx, hx', hxl, hlt, hw, hwl, hu, encR, Rc.enc, h1, h2, ih]
          · exact absurd (h1.symm.trans h2) (by decide)
      · obtain ⟨h3, h4⟩ := not_or.1 h2
        have hB : refB (l.length + 1) x = [⟨x.b, l.length + 1⟩] := by unfold refB; rw [if_pos ⟨h3, h4⟩]
        rw [hB]
        have ih := ih (o ++ [⟨x.b, l.length + 1⟩]) (by simp; omega)
        have e9 : 1 + (o.length + 1) = 1 + o.length + 1 := by omega
        simp [HB, RBx] at ih
        rw [e9] at ih
        rw [r70_l0]
        rcases h1 with h1 | h1 <;> simp [c70_l0b, HB, RBx, hi, hi', hil, hx, hx', hxl, hlt, hw, hwl, hu, encR, Rc.enc, h1, h3, h4, hap, show o.length < 100000 by omega, ih]
    · obtain ⟨h5, h6⟩ := not_or.1 h1
      have hA : refA (l.length + 1) x = [⟨x.a, l.length + 1⟩] := by unfold refA; rw [if_pos ⟨h5, h6⟩]
      rw [hA]
      by_cases h2 : x.b = [] ∨ x.w = 2
      · have hB : refB (l.length + 1) x = [] := by
          unfold refB
          rw [if_neg (by rcases h2 with h | h <;> simp [h])]
        rw [hB, List.append_nil]
        have ih := ih (o ++ [⟨x.a, l.length + 1⟩]) (by simp; omega)
        have e9 : 1 + (o.length + 1) = 1 + o.length + 1 := by omega
        simp [HB, RBx] at ih
        rw [e9] at ih
        rw [r70_l0]
        rcases h2 with h2 | h2
        · simp [c70_l0b, HB, RBx, hi, hi', hil, hx, hx', hxl, hlt, hw, hwl, hu, encR, Rc.enc, h5, h6, h2, hap, show o.length < 100000 by omega, ih]
        · simp [c70_l0b, HB, RBx, hi, hi', hil, hx, hx', hxl, hlt, hw, hwl, hu, encR, Rc.enc, h5, h6, h2, hap, show o.length < 100000 by omega, ih]
      · obtain ⟨h3, h4⟩ := not_or.1 h2
        have hB : refB (l.length + 1) x = [⟨x.b, l.length + 1⟩] := by unfold refB; rw [if_pos ⟨h3, h4⟩]
        rw [hB]
        have ih := ih (o ++ [⟨x.a, l.length + 1⟩] ++ [⟨x.b, l.length + 1⟩]) (by simp; omega)
        have hap2 := fun pos T => hap pos (o ++ [⟨x.a, l.length + 1⟩]) x.b T (by simp; omega)
        have e9 : 1 + (o.length + 1) = 1 + o.length + 1 := by omega
        have e10 : 1 + (o.length + 1 + 1) = 1 + o.length + 1 + 1 := by omega
        simp [HB, RBx] at ih hap2
        simp only [e9, e10] at ih hap2
        rw [r70_l0]
        simp [c70_l0b, HB, RBx, hi, hi', hil, hx, hx', hxl, hlt, hw, hwl, hu, encR, Rc.enc, h3, h4, h5, h6, hap, hap2, show o.length < 100000 by omega, ih]
theorem refX_len (N : Int) (x : Rc) : (refX N x).length ≤ 2 := by
  unfold refX refA refB
  rw [List.length_append]
  split <;> split <;> simp
theorem itemsR_len (r : List Rc) : (itemsR r).length ≤ 2 * r.length := by
  have key : ∀ (N : Int) (r : List Rc), (r.flatMap (refX N)).length ≤ 2 * r.length := by
    intro N r
    induction r with
    | nil => simp
    | cons x r ih =>
      have := refX_len N x
      rw [List.flatMap_cons, List.length_append, List.length_cons]
      omega
  exact key _ _
theorem L70_1 (L : List (List Rc)) (hL : L.length < 50) (hlen : ∀ r ∈ L, r.length < 500) (z : Rc) : ∀ (k : Nat), k ≤ L.length → ∀ (o : List Pl), o.length + 1000 * k < 100000 →
    execS P (limS P) c70_l1 ⟨[.c (.slice (L.map encR)), .slice 1 (1 + o.length) 0 o.length (some 2) none, .c (ci ((k : Int) - 1))], HB o (RBx z)⟩ =
      some (.exit 0, ⟨[.slice 1 (1 + (o ++ (L.take k).reverse.flatMap itemsR).length) 0 (o ++ (L.take k).reverse.flatMap itemsR).length (some 2) none], HB (o ++ (L.take k).reverse.flatMap itemsR) (RBx z)⟩) := by
  intro k
  induction k with
  | zero =>
    intro _ o _
    rw [r70_l1]
    simp [c70_l1b, HB]
  | succ k ih =>
    intro hk o ho
    obtain ⟨l, hl⟩ : ∃ l, L[k]? = some l := ⟨_, List.getElem?_eq_getElem (by omega)⟩
    have hlm : l ∈ L := List.mem_of_getElem? hl
    have h500 := hlen l hlm
    have hil := itemsR_len l
    have k0 := L70_0 (P := P) L l k hl h500 z l [] rfl o (by omega)
    have e0 : l.flatMap (refX ((l.length : Int) + 1)) = itemsR l := rfl
    rw [e0] at k0
    have ih := ih (by omega) (o ++ itemsR l) (by rw [List.length_append]; omega)
    have ht : (L.take (k + 1)).reverse.flatMap itemsR = itemsR l ++ (L.take k).reverse.flatMap itemsR := by
      rw [List.take_succ, hl]
      simp
    rw [ht, ← List.append_assoc]
    generalize itemsR l = I at *
    have e1 : (((k + 1 : Nat) : Int) - 1) = (k : Int) := by omega
    have hw : IntKind.i64.wrap ((k : Int) - 1) = (k : Int) - 1 := wrap64 (by omega) (by omega)
    have hu := fun n xs => underPl n xs
    rw [e1, r70_l1]
    generalize o ++ I = O2 at *
    generalize O2 ++ (L.take k).reverse.flatMap itemsR = O3 at *
    simp only [HB, RBx] at *
    simp at k0
    simp [c70_l1b, k0, hw, hu, ih]
def placesR (L : List (List Rc)) (x : Rc) : List Pl := winP x ++ L.reverse.flatMap itemsR
theorem S70 (L : List (List Rc)) (hL : L.length < 50) (hlen : ∀ r ∈ L, r.length < 500) (x : Rc) (hx : L[L.length - 1]? = some [x]) (hL0 : 0 < L.length) : fn P 70 [.slice (L.map encR)] = some (.slice ((placesR L x).map Pl.enc)) := by
  obtain ⟨hxl, hx'⟩ := List.getElem?_eq_some_iff.1 hx
  have hw : IntKind.i64.wrap ((L.length : Int) - 1) = ((L.length - 1 : Nat) : Int) := by rw [show (L.length : Int) - 1 = ((L.length - 1 : Nat) : Int) from by omega]; exact wrap64 (by omega) (by omega)
  have k1 := L70_1 (P := P) L hL hlen x L.length (Nat.le_refl _) (winP x) (by have : (winP x).length ≤ 1 := by { unfold winP; split <;> simp }; omega)
  rw [List.take_length] at k1
  have e1 : winP x ++ L.reverse.flatMap itemsR = placesR L x := rfl
  rw [e1] at k1
  have hr := resV_own1 (b := 1) (g := 1 + (placesR L x).length) (fz := 0) (e := some 2) (ys := (placesR L x).map Pl.enc) (h := HB (placesR L x) (RBx x)) (len := (placesR L x).length) rfl (Pl.elems _) (by simp) none
  generalize placesR L x = Z at *
  have hc : ((L.length - 1 : Nat) : Int) = (L.length : Int) - 1 := by omega
  have e122 := S122 (P := P) x
  simp only [Rc.enc] at e122
  have hn1 : (1 : Int) ≤ L.length := by omega
  have t1 : ((L.length : Int) - 1).toNat = L.length - 1 := by omega
  have hap : appendOp none (some 2) 24 (.slice 1 1 0 0 (some 2) none) (.c (.slice [.agg [.str (winR x), .int .i64 1]])) [.cells 1 [] 0, .cells 1 [] 0, .cells 0 [.c (.str x.a), .c (.str x.b), .c (ci x.w)] 0] = some (.slice 1 2 0 1 (some 2) none, [.cells 1 [] 0, .cells 2 (cPl [⟨winR x, 1⟩]) 0, .cells 0 [.c (.str x.a), .c (.str x.b), .c (ci x.w)] 0]) := rfl
  rw [u70]
  by_cases hwn : winR x = []
  · have hW : winP x = [] := by unfold winP; rw [if_pos hwn]
    rw [hW] at k1
    simp only [HB, RBx] at *
    have e00 : cPl [] = [] := rfl
    simp [e00] at k1
    simp [c70, hw, hx, hx', hxl, hL0, encR, Rc.enc, hwn, hc, e122, hn1, t1, hap, k1, hr]
  · have hW : winP x = [⟨winR x, 1⟩] := by unfold winP; rw [if_neg hwn]
    rw [hW] at k1
    simp only [HB, RBx] at *
    simp at k1
    simp [c70, hw, hx, hx', hxl, hL0, encR, Rc.enc, hwn, hc, e122, hn1, t1, hap, k1, hr]
end LM.G6
namespace LM.G6
open Go LM
variable {P : Nat → Option SFunc} [Has P]
def Rs.short (x : Rs) : Bool := decide (x.who.length ≤ 40) && decide (x.state.length ≤ 20) && decide (x.vals.length ≤ 10)
end LM.G6
namespace LM.G6
open Go LM
variable {P : Nat → Option SFunc} [Has P]
/-- Elements of one cell. -/
def CellOk {α : Type} (enc : α → CV) : Prop := ∀ x, Elem none (enc x)
theorem CellOk.cells {α : Type} {enc : α → CV} (h : CellOk enc) (x : α) : CV.cells (enc x) = [enc x] := (h x).1
theorem CellOk.flat {α : Type} {enc : α → CV} (h : CellOk enc) (x : α) : flatAll [LV.c (enc x)] = true := by have := (h x).2; simpa [flatAll] using this
variable {α : Type} {enc : α → CV} {f : Nat} {B : List CV} {c : α → α → Int} {H : Heap} {b g : Nat} {cp : Option Nat}
end LM.G6
namespace LM.G6
open Go LM
variable {P : Nat → Option SFunc} [Has P]
def cmpJ (a b : Int) : Int := if a < b then -1 else if b < a then 1 else 0
theorem S96j (a b : Int) : fn P 96 [ci a, ci b] = some (ci (cmpJ a b)) := by
  have e : ∀ x : Int, fn P 143 [ci x] = some (.bool false) := fun x => by rw [u143]; simp [c143]
  rw [u96]
  unfold cmpJ
  by_cases h1 : a < b <;> by_cases h2 : b < a <;> simp [c96, e, h1, h2]
end LM.G6
namespace LM.G6
open Go LM
variable {P : Nat → Option SFunc} [Has P]
/-- A run within the bounds. -/
def runOk (r t : Int) : Bool := !(outside r 0 86399999) && !(outside t 0 86399999)
theorem S64 (r t : Int) : fn P 64 [.agg [ci r, ci t]] = some (ci (if runOk r t then 0 else 3)) := by
  have e1 := S23 (P := P) r 0 86399999
  have e2 := S23 (P := P) t 0 86399999
  rw [u64]
  rcases Bool.eq_false_or_eq_true (outside r 0 86399999) with h1 | h1 <;> rcases Bool.eq_false_or_eq_true (outside t 0 86399999) with h2 | h2 <;> rw [h1] at e1 <;> rw [h2] at e2 <;> simp [whenE] at e1 e2 <;> simp [c64, runOk, whenE, h1, h2, e1, e2, wrap64]
theorem T124 (r t : Int) : fn P 124 [.slice [ci r, ci t]] = some (ci (if runOk r t then 0 else 3)) := by
  have := S124 (P := P) r [t] (by simp)
  simp only [List.map_cons, List.map_nil] at this
  rw [this]
  congr 3
  rcases Bool.eq_false_or_eq_true (outside r 0 86399999) with h1 | h1 <;> rcases Bool.eq_false_or_eq_true (outside t 0 86399999) with h2 | h2 <;> simp [badT, runOk, whenE, h1, h2]
theorem S104_2 (a b : Int) : fn P 104 [.slice [ci a, ci b]] = some (ci (firstE [a, b])) := by
  rw [u104]
  simp [c104]
  rw [r104_l0]
  by_cases ha : a = 0
  · simp [c104_l0b, ha, wrap64]
    rw [r104_l0]
    by_cases hb : b = 0
    · simp [c104_l0b, hb, wrap64]
      rw [r104_l0]
      simp [c104_l0b, firstE]
    · simp [c104_l0b, firstE, hb]
  · simp [c104_l0b, ha, firstE]
/-- Who wins a duel of two runs: 0 nobody yet, 1 the first, 2 the second, 3 nobody. -/
def duelN (r1 t1 r2 t2 : Int) : Int :=
  if r1 < 100 ∧ r2 < 100 then 3 else if r1 < 100 then 2 else if r2 < 100 then 1 else
  if t1 = 0 ∧ t2 = 0 then 0 else if t1 = 0 then 2 else if t2 = 0 then 1 else
  if t1 < t2 then 1 else if t2 < t1 then 2 else if r1 < r2 then 1 else if r2 < r1 then 2 else 0
def duelE (r1 t1 r2 t2 : Int) : Int := firstE [if runOk r1 t1 then 0 else 3, if runOk r2 t2 then 0 else 3]
theorem S65 (r1 t1 r2 t2 : Int) : fn P 65 [.agg [ci r1, ci t1], .agg [ci r2, ci t2]] = some (ci (duelN r1 t1 r2 t2)) := by
  rw [u65]
  unfold duelN
  by_cases h1 : r1 < 100 <;> by_cases h2 : r2 < 100
  · simp [c65, h1, h2]
  · simp [c65, h1, h2]
  · simp [c65, h1, h2]
  · by_cases h3 : t1 = 0 <;> by_cases h4 : t2 = 0
    · simp [c65, h1, h2, h3, h4]
    · simp [c65, h1, h2, h3, h4]
    · simp [c65, h1, h2, h3, h4]
    · rcases Int.lt_trichotomy t1 t2 with h5 | h5 | h5
      · have : ¬ t1 = t2 := by omega
        simp [c65, h1, h2, h3, h4, h5, this]
      · subst h5
        rcases Int.lt_trichotomy r1 r2 with h6 | h6 | h6
        · simp [c65, h1, h2, h3, h6]
        · subst h6
          simp [c65, h1, h3]
        · have : ¬ r1 < r2 := by omega
          simp [c65, h1, h2, h3, h6, this]
      · have : ¬ t1 = t2 := by omega
        have h7 : ¬ t1 < t2 := by omega
        simp [c65, h1, h2, h3, h4, h5, this, h7]
set_option maxHeartbeats 4000000 in
theorem S63 (r1 t1 r2 t2 : Int) : fn P 63 [.agg [ci r1, ci t1], .agg [ci r2, ci t2]] = some (.tuple (if duelE r1 t1 r2 t2 = 0 then [ci (duelN r1 t1 r2 t2), ci 0] else [ci 0, ci (duelE r1 t1 r2 t2)])) := by
  have e1 := T124 (P := P) r1 t1
  have e2 := T124 (P := P) r2 t2
  have e88 := S88_2 (P := P) (if runOk r1 t1 then 0 else 3) (if runOk r2 t2 then 0 else 3)
  have hE : firstE [if runOk r1 t1 then 0 else 3, if runOk r2 t2 then 0 else 3] = duelE r1 t1 r2 t2 := rfl
  rw [hE] at e88
  have f1 := S96j (P := P) t1 t2
  have f2 := S96j (P := P) r1 r2
  have f3 := S104_2 (P := P) (cmpJ t1 t2) (cmpJ r1 r2)
  rw [u63]
  generalize (if runOk r1 t1 = true then (0 : Int) else 3) = a1 at *
  generalize (if runOk r2 t2 = true then (0 : Int) else 3) = a2 at *
  by_cases hd : duelE r1 t1 r2 t2 = 0
  · rw [hd] at e88
    rw [if_pos hd]
    have k1q : (t1 < t2 ∧ cmpJ t1 t2 = -1) ∨ (t2 < t1 ∧ ¬ t1 < t2 ∧ cmpJ t1 t2 = 1) ∨ (t1 = t2 ∧ cmpJ t1 t2 = 0) := by
      unfold cmpJ
      rcases Int.lt_trichotomy t1 t2 with h | h | h
      · exact .inl ⟨h, by rw [if_pos h]⟩
      · exact .inr (.inr ⟨h, by rw [if_neg (by omega), if_neg (by omega)]⟩)
      · exact .inr (.inl ⟨h, by omega, by rw [if_neg (by omega), if_pos h]⟩)
    have k2q : (r1 < r2 ∧ cmpJ r1 r2 = -1) ∨ (r2 < r1 ∧ ¬ r1 < r2 ∧ cmpJ r1 r2 = 1) ∨ (r1 = r2 ∧ cmpJ r1 r2 = 0) := by
      unfold cmpJ
      rcases Int.lt_trichotomy r1 r2 with h | h | h
      · exact .inl ⟨h, by rw [if_pos h]⟩
      · exact .inr (.inr ⟨h, by rw [if_neg (by omega), if_neg (by omega)]⟩)
      · exact .inr (.inl ⟨h, by omega, by rw [if_neg (by omega), if_pos h]⟩)
    simp [c63, e1, e2, e88, f1, f2, f3]
    rcases k1q with ⟨k1q, d1⟩ | ⟨k1q, k1q', d1⟩ | ⟨k1q, d1⟩ <;> rcases k2q with ⟨k2q, d2⟩ | ⟨k2q, k2q', d2⟩ | ⟨k2q, d2⟩ <;> simp only [firstE, d1, d2, duelN] <;> (repeat' split) <;> first | rfl | (exfalso; omega)
  · rw [if_neg hd]
    simp [c63, e1, e2, e88, hd]
end LM.G6
namespace LM.G6
open Go LM
variable {P : Nat → Option SFunc} [Has P] [HasP P]
theorem S35 (a e bad w : Int) : fn P 35 [ci a, ci e, ci bad, ci w] = some (.bool (if bad ≠ 0 then a == 0 && e == bad else e == 0 && a == w)) := by
  rw [u35]
  by_cases h : bad = 0
  · by_cases he : e = 0
    · simp [c35, h, he]
    · simp [c35, h, he]
  · by_cases ha : a = 0
    · simp [c35, h, ha]
    · simp [c35, h, ha]
end LM.G6
namespace LM.G6
open Go LM
theorem firstE_zD (e : Int) (r : List Int) : firstE (e :: r) = 0 ↔ e = 0 ∧ firstE r = 0 := by
  rw [firstE]
  by_cases h : e = 0 <;> simp [h]
theorem whenE_zD {b : Bool} {e : Int} (h : e ≠ 0) : whenE b e = 0 ↔ b = false := by cases b <;> simp [whenE, h]
theorem each_some {α : Type} {chk : List α → α → Int} : ∀ (l pre : List α), eachE chk pre l = 0 → ∀ x ∈ l, ∃ p, chk p x = 0
  | [], _, _, x, hx => by cases hx
  | y :: l, pre, h, x, hx => by
    rw [eachE] at h
    split at h
    · rename_i q; exact absurd h q
    · rename_i q
      rcases List.mem_cons.1 hx with rfl | hx
      · exact ⟨pre, by simpa using q⟩
      · exact each_some l (pre ++ [y]) h x hx
theorem races_differ {r : List Rc} (h : racesE r = 0) : ∀ x ∈ r, x.a ≠ [] → x.a ≠ x.b := by
  unfold racesE at h
  split at h
  · intro x hx ha hab
    obtain ⟨p, hp⟩ := each_some r [] h x hx
    unfold rcE at hp
    split at hp
    · cases hp
    · split at hp
      · cases hp
      · rename_i q
        apply q
        unfold twiceR
        simp [ha, ← hab]
  · cases h
theorem tell_ref {x : Rc} (h : x.a ≠ [] → x.a ≠ x.b) (N : Int) : (tellF x 0).map (fun nm => (⟨nm, N⟩ : Pl)) = refX N x := by
  unfold tellF refX refA refB
  rw [if_pos rfl, List.map_append]
  congr 1
  · unfold tellN winR
    by_cases ha : x.a = []
    · simp [ha]
    · have hab := h ha
      by_cases h1 : x.w = 1
      · simp [ha, h1]
      · by_cases h2 : x.w = 2
        · simp [ha, h1, h2, hab]
        · simp [ha, h1, h2]
  · unfold tellN winR
    by_cases hb : x.b = []
    · simp [hb]
    · by_cases h1 : x.w = 1
      · have hab : ¬ x.b = x.a := by
          intro e
          exact h (by rw [← e]; exact hb) e.symm
        simp [hb, h1, hab]
      · by_cases h2 : x.w = 2
        · simp [hb, h1, h2]
        · simp [hb, h1, h2]
theorem items_eq {r : List Rc} (h : racesE r = 0) : itemsS r = itemsR r := by
  unfold itemsS itemsR
  have hd := races_differ h
  generalize ((r.length : Int) + 1) = N
  clear h
  induction r with
  | nil => rfl
  | cons x r ih =>
    rw [List.flatMap_cons, List.flatMap_cons, List.map_append, tell_ref (hd x (by simp)), ih (fun y hy => hd y (by simp [hy]))]
theorem rounds_ok {L : List (List Rc)} (h : roundsE L = 0) : 0 < L.length ∧ L.length ≤ 6 ∧ (∀ r ∈ L, racesE r = 0) ∧ ∃ x, L[L.length - 1]? = some [x] := by
  unfold roundsE at h
  split at h
  · cases h
  · rename_i h0
    split at h
    · cases h
    · rename_i h1
      split at h
      · rename_i q; exact absurd h q
      · rename_i h2
        have h2 : eachE rndE [] L = 0 := by simpa using h2
        have hr : ∀ r ∈ L, racesE r = 0 := by
          intro r hr
          obtain ⟨p, hp⟩ := each_some L [] h2 r hr
          unfold rndE at hp
          split at hp
          · exact hp
          · exact ((firstE_zD _ _).1 hp).1
        refine ⟨by omega, by omega, hr, ?_⟩
        obtain ⟨l, hl⟩ : ∃ l, L[L.length - 1]? = some l := ⟨_, List.getElem?_eq_getElem (by omega)⟩
        have hlm : l ∈ L := List.mem_of_getElem? hl
        have hgl : L.getLast? = some l := by rw [List.getLast?_eq_getElem?]; exact hl
        unfold lastE at h
        rw [hgl] at h
        have h3 := ((firstE_zD _ _).1 h).1
        rw [whenE_zD (by decide)] at h3
        simp at h3
        have h4 := hr l hlm
        unfold racesE at h4
        split at h4
        · rename_i h5
          have : l.length = 1 := by omega
          obtain ⟨x, rfl⟩ := List.length_eq_one_iff.1 this
          exact ⟨x, hl⟩
        · cases h4
theorem places_eq {L : List (List Rc)} (h : ∀ r ∈ L, racesE r = 0) (x : Rc) : placesS L x = placesR L x := by
  unfold placesS placesR
  congr 1
  have : ∀ r ∈ L.reverse, racesE r = 0 := fun r hr => h r (by simpa using hr)
  generalize L.reverse = M at *
  induction M with
  | nil => rfl
  | cons r M ih => rw [List.flatMap_cons, List.flatMap_cons, items_eq (this r (by simp)), ih (fun y hy => this y (by simp [hy]))]
variable {P : Nat → Option SFunc} [Has P] [HasP P]
def shortR (r : List Rc) : Bool := decide ((r.length : Int) ≤ 34) && r.all Rc.short
def RA (a b : Int) : LB := .cells 0 [.c (ci a), .c (ci b)] 0
def XB (xs : List (List Rc)) : LB := .cells (1 + xs.length) (cellsOf (xs.map encR)) 0
theorem encR_elem (r : List Rc) : Elem none (encR r) := by simp [Elem, encR, CV.flat]
theorem encR_elems (l : List (List Rc)) : ∀ x ∈ l.map encR, Elem none x := by
  intro x hx
  obtain ⟨y, _, rfl⟩ := List.mem_map.1 hx
  exact encR_elem y
theorem L8 (r1 t1 r2 t2 : Int) : ∀ (r pre : List (List Rc)), (pre ++ r).length < 1000 → (∀ x ∈ r, x.length * 40 ≤ 2 ^ 47) →
    ∃ H, execS P (limS P) c8_l0 ⟨[.c (.slice ((pre ++ r).map encR)), .ptr 0 0 0, .ptr 1 0 0, .slice 2 (1 + pre.length) 0 pre.length none none, .c (ci pre.length)], [RA r1 t1, RA r2 t2, XB pre]⟩ =
      if r.all shortR then some (.exit 0, ⟨[.c (.slice ((pre ++ r).map encR)), .ptr 0 0 0, .ptr 1 0 0, .slice 2 (1 + (pre ++ r).length) 0 (pre ++ r).length none none], [RA r1 t1, RA r2 t2, XB (pre ++ r)]⟩) else some (.ret, ⟨[.c (.bool true)], H⟩) := by
  intro r
  induction r with
  | nil =>
    intro pre h _
    refine ⟨[], ?_⟩
    rw [r8_l0]
    simp [c8_l0b]
  | cons x r ih =>
    intro pre h hb
    obtain ⟨H, ih⟩ := ih (pre ++ [x]) (by simpa using h) (fun y hy => hb y (by simp [hy]))
    have hx := hb x (by simp)
    have e54 := S54 (P := P) x hx
    have e55 := S55 (P := P) x (by omega)
    have e2 : (decide ((x.length : Int) ≤ 34) && x.all Rc.short) = shortR x := rfl
    rw [e2] at e55
    have ha := append_own (b := 2) (g := 1 + pre.length) (bytes := 24) (e := none) (ys := pre.map encR) (xs := [encR x]) (h := [RA r1 t1, RA r2 t2, XB pre]) (len := pre.length) (fz := 0) rfl (encR_elems _) (by simpa using encR_elem x) (by simp) (Nat.zero_le _) (by simp) (by simp at h ⊢; omega) (by simp at h ⊢; omega)
    simp at h
    simp [-List.all_eq_true, encR, XB, RA] at ih ha
    have hw : IntKind.i64.wrap (↑pre.length + 1) = ↑pre.length + 1 := wrap64 (by omega) (by omega)
    have hlt : (pre.length : Int) < pre.length + (r.length + 1) := by omega
    have e1 : 1 + (pre.length + 1) = 1 + pre.length + 1 := by omega
    rw [e1] at ih
    cases hs : shortR x
    · refine ⟨[RA r1 t1, RA r2 t2, XB pre], ?_⟩
      rw [hs] at e55
      rw [r8_l0]
      simp [c8_l0b, hw, hlt, e54, e55, encR, hs, XB, RA, -List.all_eq_true]
    · refine ⟨H, ?_⟩
      rw [hs] at e55
      rw [r8_l0]
      simp [c8_l0b, hw, hlt, e54, e55, encR, hs, XB, RA, ha, ih, -List.all_eq_true]
end LM.G6
namespace LM.G6
open Go LM
variable {P : Nat → Option SFunc} [Has P] [HasP P]
theorem S8 (h16 : fn P 16 [] = some (.bool true)) (L : List (List Rc)) (r1 t1 r2 t2 : Int) (hs : (L.length : Int) < 9223372036854775807) (hb : ∀ x ∈ L, x.length * 40 ≤ 2 ^ 47)
    (h66 : L.length ≤ 8 → (∀ r ∈ L, r.length ≤ 34) → ∀ x : Rc, (roundsE L = 0 → 0 < L.length ∧ L[L.length - 1]? = some [x]) → fn P 66 [.slice (L.map encR)] = some (.tuple (if roundsE L = 0 then [.slice ((placesS L x).map Pl.enc), ci 0] else [.slice [], ci (roundsE L)]))) :
    fn P 8 [.slice (L.map encR), .agg [ci r1, ci t1], .agg [ci r2, ci t2]] = some (.bool true) := by
  rw [u8]
  by_cases h8 : (8 : Int) < (L.length : Int)
  · simp [c8, h16, h8]
  obtain ⟨H, hl⟩ := L8 (P := P) r1 t1 r2 t2 L [] (by simp; omega) hb
  simp only [RA, XB] at hl
  have hce : cellsOf ([] : List CV) = [] := rfl
  simp [-List.all_eq_true, hce] at hl
  cases hsh : L.all shortR
  · rw [hsh] at hl
    simp at hl
    simp [c8, h16, h8, hl]
  rw [hsh] at hl
  simp only [if_true] at hl
  have hlen : ∀ r ∈ L, r.length ≤ 34 := by
    intro r hr
    have := List.all_eq_true.1 hsh r hr
    unfold shortR at this
    simp at this
    omega
  have e63 := S63 (P := P) r1 t1 r2 t2
  have e64a := S64 (P := P) r1 t1
  have e64b := S64 (P := P) r2 t2
  have e65 := S65 (P := P) r1 t1 r2 t2
  have e22 := S22_2 (P := P) (if runOk r1 t1 then 0 else 3) (if runOk r2 t2 then 0 else 3)
  have hD : firstE [if runOk r1 t1 then 0 else 3, if runOk r2 t2 then 0 else 3] = duelE r1 t1 r2 t2 := rfl
  rw [hD] at e22
  have e67 := S67 (P := P) L (fun r hr => by have := hlen r hr; omega) (by omega)
  have hfz := frz_own (b := 2) (g := 1 + L.length) (fz := 0) (e := none) (ys := L.map encR) (h := [.cells 0 [.c (ci r1), .c (ci t1)] 0, .cells 0 [.c (ci r2), .c (ci t2)] 0, .cells (1 + L.length) (cellsOf (L.map encR)) 0, .dead]) (len := L.length) rfl (encR_elems _) (by simp) none
  generalize (if runOk r1 t1 = true then (0 : Int) else 3) = a1 at *
  generalize (if runOk r2 t2 = true then (0 : Int) else 3) = a2 at *
  generalize hDN : duelN r1 t1 r2 t2 = dn at *
  generalize hDE : duelE r1 t1 r2 t2 = de at *
  have key : ∀ (v : CV), (if de = 0 then [ci dn, ci 0] else [ci 0, ci de]) = [ci (if de = 0 then dn else 0), ci de] := by
    intro _
    by_cases h : de = 0 <;> simp [h]
  rw [key (ci 0)] at e63
  have e35a := S35 (P := P) (if de = 0 then dn else 0) de de 0
  have e35b := S35 (P := P) (if de = 0 then dn else 0) de 0 dn
  by_cases hR : roundsE L = 0
  · obtain ⟨hL0, _, hrs, x, hx⟩ := rounds_ok hR
    have e66 := h66 (by omega) hlen x (fun _ => ⟨hL0, hx⟩)
    rw [if_pos hR, places_eq hrs] at e66
    have e70 := S70 (P := P) L (by omega) (fun r hr => by have := hlen r hr; omega) x hx hL0
    have hpl : (placesR L x).length ≤ 10000 := by
      unfold placesR
      rw [List.length_append]
      have h1 : (winP x).length ≤ 1 := by unfold winP; split <;> simp
      have h2 : ∀ M : List (List Rc), (∀ r ∈ M, r.length ≤ 34) → (M.flatMap itemsR).length ≤ 68 * M.length := by
        intro M
        induction M with
        | nil => simp
        | cons r M ih =>
          intro h
          have := ih (fun y hy => h y (by simp [hy]))
          have h3 := itemsR_len r
          have h4 := h r (by simp)
          rw [List.flatMap_cons, List.length_append, List.length_cons]
          omega
      have h3 := h2 L.reverse (fun r hr => hlen r (by simpa using hr))
      rw [List.length_reverse] at h3
      omega
    generalize placesR L x = Z at *
    have e69 := S69 (P := P) Z (by omega)
    have e68 := S68 (P := P) Z (by omega)
    rw [hR] at e67
    by_cases hd : de = 0
    · subst hd
      simp at e35a e35b e63
      simp [c8, h16, h8, hl, e63, e64a, e64b, e65, e22, e67, e66, e70, e69, e68, hfz, e35a, e35b, -frz_slice]
    · simp [hd] at e35a e35b e63
      simp [c8, h16, h8, hl, e63, e64a, e64b, e65, e22, e67, e66, e70, e69, e68, hfz, e35a, e35b, hd, -frz_slice]
  · have e66 := h66 (by omega) hlen ⟨[], [], 0⟩ (fun h => absurd h hR)
    rw [if_neg hR] at e66
    by_cases hd : de = 0
    · subst hd
      simp at e35a e35b e63
      simp [c8, h16, h8, hl, e63, e64a, e64b, e65, e22, e67, e66, hR, hfz, e35a, e35b, -frz_slice]
    · simp [hd] at e35a e35b e63
      simp [c8, h16, h8, hl, e63, e64a, e64b, e65, e22, e67, e66, hR, hfz, e35a, e35b, hd, -frz_slice]
end LM.G6
