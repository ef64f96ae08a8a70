/- Part 9 of what YtmhdmbfiiodeoaaGreatSpreads leans on. -/
import Derived.Test.YtmhdmbfiiodeoaaGreatRows
import Derived.WalkKit
import Derived.ProofKit
import Derived.SizedLaws
import Derived.Test.YtmhdmbfiiodeoaaGreatSpreadsL1
import Derived.Test.YtmhdmbfiiodeoaaGreatSpreadsL2
import Derived.Test.YtmhdmbfiiodeoaaGreatSpreadsL3
import Derived.Test.YtmhdmbfiiodeoaaGreatSpreads1
import Derived.Test.YtmhdmbfiiodeoaaGreatSpreads2
import Derived.Test.YtmhdmbfiiodeoaaGreatSpreads3
import Derived.Test.YtmhdmbfiiodeoaaGreatSpreads4
import Derived.Test.YtmhdmbfiiodeoaaGreatSpreads5
set_option linter.all false
namespace Go.Proofs.YtmhdmbfiiodeoaaGreat
open Go.ChangeShapes Go.WideShapes Go.ChangeAt Go.RowKit
theorem own_knob : ownKnob Tryz.prog.godebug = none := by kernel_rfl
theorem laid_out : laidOutB Tryz.prog = true := by kernel_rfl
theorem maps_rowed : mapsRowed Tryz.prog = true := by kernel_rfl
theorem slices_full : LM.slicesFullB Tryz.prog = true := by kernel_rfl
theorem typed_map {α : Type} {enc : α → LM.CV} {p : α → Prop} {e : LM.CTy} (h : ∀ x, LM.Typed e x → ∃ a, x = enc a ∧ p a) : ∀ {xs : List LM.CV}, (∀ x ∈ xs, LM.Typed e x) → ∃ l : List α, xs = l.map enc ∧ ∀ a ∈ l, p a
  | [], _ => ⟨[], rfl, by simp⟩
  | x :: xs, hx => by
    obtain ⟨a, ha, hp⟩ := h x (hx x (by simp))
    obtain ⟨l, hl, hq⟩ := typed_map h (xs := xs) fun y hy => hx y (by simp [hy])
    exact ⟨a :: l, by rw [ha, hl]; rfl, fun b hb => by rcases List.mem_cons.1 hb with rfl | hb; exact hp; exact hq b hb⟩
theorem typed_slice {α : Type} {enc : α → LM.CV} {p : α → Prop} {e : LM.CTy} {b : Nat} (h : ∀ x, LM.Typed e x → ∃ a, x = enc a ∧ p a) {v : LM.CV} (hv : LM.Typed (.slice b e) v) : ∃ l : List α, v = .slice (l.map enc) ∧ (∀ a ∈ l, p a) ∧ l.length * b ≤ 2 ^ 47 := by
  simp only [LM.Typed] at hv
  obtain ⟨xs, rfl, _, hb, hx⟩ := hv
  obtain ⟨l, rfl, hp⟩ := typed_map h hx
  refine ⟨l, rfl, hp, ?_⟩
  rw [List.length_map] at hb
  exact Nat.le_trans hb (by decide)
theorem typed_str {v : LM.CV} (hv : LM.Typed .str v) : ∃ s : LM.Str, v = .str s ∧ s.length < 9223372036854775807 := by
  simp only [LM.Typed] at hv
  obtain ⟨s, rfl, h⟩ := hv
  exact ⟨s, rfl, Nat.lt_of_le_of_lt h (by decide)⟩
theorem typed_int {v : LM.CV} (hv : LM.Typed (.int .i64) v) : ∃ n, v = LM.ci n ∧ -9223372036854775808 ≤ n ∧ n ≤ 9223372036854775807 := by
  simp only [LM.Typed] at hv
  obtain ⟨n, rfl, h⟩ := hv
  refine ⟨n, rfl, ?_⟩
  simp [Lit.wf, IntKind.min, IntKind.max, IntKind.bits, IntKind.signed] at h
  omega
end Go.Proofs.YtmhdmbfiiodeoaaGreat
namespace LM.G6
open Go LM
variable {P : Nat → Option SFunc} [Has P]
@[simp] theorem S89 (b : Bool) (e : Int) : fn P 89 [.bool b, ci e] = some (ci (whenE b e)) := by
  rw [u89]; cases b <;> simp [c89, whenE]
@[simp] theorem S141 (c : Nat) : fn P 141 [.int .i32 c] = some (.bool (letterN c)) := by
  rw [u141]; simp [c141, letterN]
  rw [show decide ((97 : Int) ≤ c) = decide (97 ≤ c) from decide_eq_decide.2 (by omega), show decide ((c : Int) ≤ 122) = decide (c ≤ 122) from decide_eq_decide.2 (by omega),
    show decide ((65 : Int) ≤ c) = decide (65 ≤ c) from decide_eq_decide.2 (by omega), show decide ((c : Int) ≤ 90) = decide (c ≤ 90) from decide_eq_decide.2 (by omega)]
theorem L88 : ∀ (l pre : List Int), (l.length : Int) + pre.length < 9223372036854775807 → execS P (limS P) c88_l0 ⟨[.c (.slice ((pre ++ l).map ci)), .c (ci (pre ++ l).length), .c (ci pre.length)], []⟩ = if firstE l = 0 then some (.exit 0, ⟨[], []⟩) else some (.ret, ⟨[.c (ci (firstE l))], []⟩) := by
  intro l
  induction l with
  | nil =>
    intro pre h
    rw [r88_l0]
    simp [c88_l0b, firstE]
  | cons c r ih =>
    intro pre h
    have ih := ih (pre ++ [c]) (by simp at h ⊢; omega)
    simp at ih h
    have hw : IntKind.i64.wrap (↑pre.length + 1) = ↑pre.length + 1 := wrap64 (by omega) (by omega)
    have hlt : (pre.length : Int) < pre.length + (r.length + 1) := by omega
    rw [r88_l0]
    by_cases hc : c = 0
    · subst hc
      simp [c88_l0b, firstE, hw, hlt, ih]
    · simp [c88_l0b, firstE, hw, hlt, hc]
@[simp] theorem S88 (l : List Int) (h : l.length < 9223372036854775807) : fn P 88 [.slice (l.map ci)] = some (ci (firstE l)) := by
  have := L88 (P := P) l [] (by simp; omega)
  rw [u88]
  simp at this
  simp [c88, this]
  by_cases hc : firstE l = 0 <;> simp [hc]
@[simp] theorem S88_1 (a : Int) : fn P 88 [.slice [ci a]] = some (ci (firstE [a])) := S88 [a] (by simp)
@[simp] theorem S88_2 (a b : Int) : fn P 88 [.slice [ci a, ci b]] = some (ci (firstE [a, b])) := S88 [a, b] (by simp)
@[simp] theorem S88_3 (a b c : Int) : fn P 88 [.slice [ci a, ci b, ci c]] = some (ci (firstE [a, b, c])) := S88 [a, b, c] (by simp)
@[simp] theorem S88_4 (a b c d : Int) : fn P 88 [.slice [ci a, ci b, ci c, ci d]] = some (ci (firstE [a, b, c, d])) := S88 [a, b, c, d] (by simp)
@[simp] theorem S88_5 (a b c d e : Int) : fn P 88 [.slice [ci a, ci b, ci c, ci d, ci e]] = some (ci (firstE [a, b, c, d, e])) := S88 [a, b, c, d, e] (by simp)
theorem L22 : ∀ (l pre : List Int), (l.length : Int) + pre.length < 9223372036854775807 → execS P (limS P) c22_l0 ⟨[.c (.slice ((pre ++ l).map ci)), .c (ci pre.length)], []⟩ = if firstE l = 0 then some (.exit 0, ⟨[], []⟩) else some (.ret, ⟨[.c (ci (firstE l))], []⟩) := by
  intro l
  induction l with
  | nil =>
    intro pre h
    rw [r22_l0]
    simp [c22_l0b, firstE]
  | cons c r ih =>
    intro pre h
    have ih := ih (pre ++ [c]) (by simp at h ⊢; omega)
    simp at ih h
    have hw : IntKind.i64.wrap (↑pre.length + 1) = ↑pre.length + 1 := wrap64 (by omega) (by omega)
    have hlt : (pre.length : Int) < pre.length + (r.length + 1) := by omega
    rw [r22_l0]
    by_cases hc : c = 0
    · subst hc
      simp [c22_l0b, firstE, hw, hlt, ih]
    · simp [c22_l0b, firstE, hw, hlt, hc]
@[simp] theorem S22 (l : List Int) (h : l.length < 9223372036854775807) : fn P 22 [.slice (l.map ci)] = some (ci (firstE l)) := by
  have := L22 (P := P) l [] (by simp; omega)
  rw [u22]
  simp at this
  simp [c22, this]
  by_cases hc : firstE l = 0 <;> simp [hc]
@[simp] theorem S22_2 (a b : Int) : fn P 22 [.slice [ci a, ci b]] = some (ci (firstE [a, b])) := S22 [a, b] (by simp)
@[simp] theorem S22_3 (a b c : Int) : fn P 22 [.slice [ci a, ci b, ci c]] = some (ci (firstE [a, b, c])) := S22 [a, b, c] (by simp)
@[simp] theorem S22_4 (a b c d : Int) : fn P 22 [.slice [ci a, ci b, ci c, ci d]] = some (ci (firstE [a, b, c, d])) := S22 [a, b, c, d] (by simp)
theorem L85 (s : Str) (hs : s.length ≤ 24) : ∀ (l pre : Str), s = pre ++ l → execS P (limS P) c85_l0 ⟨[.c (.str s), .c (ci pre.length)], []⟩ = if nameFrom pre.length l then some (.exit 0, ⟨[], []⟩) else some (.ret, ⟨[.c (.bool false)], []⟩) := by
  intro l
  induction l with
  | nil =>
    intro pre h
    rw [r85_l0]
    simp [c85_l0b, h, nameFrom]
  | cons c r ih =>
    intro pre h
    have ih := ih (pre ++ [c]) (by simp [h])
    simp at ih
    rw [h] at hs
    simp at hs
    have hw : IntKind.i64.wrap (↑pre.length + 1) = ↑pre.length + 1 := wrap64 (by omega) (by omega)
    have hlt : (pre.length : Int) < pre.length + (r.length + 1) := by omega
    have hn : (((↑c.toNat : Int) < 97 ∨ 122 < (↑c.toNat : Int)) ∧ ((↑c.toNat : Int) < 65 ∨ 90 < (↑c.toNat : Int))) ∧ (pre = [] ∨ ((↑c.toNat : Int) < 48 ∨ 57 < (↑c.toNat : Int)) ∧ ¬(↑c.toNat : Int) = 95) ↔ nameN pre.length c.toNat = false := by
      have hp : pre = [] ↔ pre.length = 0 := by simp
      unfold nameN letterN digitN
      cases pre with
      | nil => simp; omega
      | cons x y => simp; omega
    rw [r85_l0]
    simp [c85_l0b, h, nameFrom, hw, hlt, hn]
    rw [← h, ih]
    cases nameN pre.length c.toNat <;> simp
@[simp] theorem S85 (s : Str) : fn P 85 [.str s] = some (.bool (isName s)) := by
  rw [u85]
  by_cases h1 : s.length < 1
  · have : s = [] := List.eq_nil_of_length_eq_zero (by omega)
    subst this
    simp [c85, isName]
  · by_cases h2 : s.length > 24
    · have h3 : ¬ (s.length : Int) < 1 := by omega
      have h4 : (24 : Int) < (s.length : Int) := by omega
      have h5 : ¬ s.length ≤ 24 := by omega
      simp [c85, isName, h3, h4, h5]
    · have := L85 (P := P) s (by omega) s [] rfl
      simp at this
      have h3 : ¬ (s.length : Int) < 1 := by omega
      have h4 : ¬ (24 : Int) < (s.length : Int) := by omega
      have h5 : s.length ≤ 24 := by omega
      have h6 : 1 ≤ s.length := by omega
      simp [c85, isName, h3, h4, h5, h6, this]
      cases nameFrom 0 s <;> simp
theorem L90 (s : Str) (hs : s.length < 9223372036854775807) : ∀ (l pre : Str), s = pre ++ l → ∃ q, execS P (limS P) c90_l0 ⟨[.c (.str s), .ptr 0 0 0], [.iter s pre.length]⟩ = if nameFrom pre.length l then some (.exit 0, ⟨[.c (.str s)], [.iter s s.length]⟩) else some (.ret, ⟨[.c (.bool false)], [.iter s q]⟩) := by
  intro l
  induction l with
  | nil =>
    intro pre h
    refine ⟨0, ?_⟩
    rw [r90_l0]
    simp [c90_l0b, h, nameFrom]
  | cons c r ih =>
    intro pre h
    obtain ⟨q, ih⟩ := ih (pre ++ [c]) (by simp [h])
    simp at ih
    have hc : s[pre.length]? = some c := by simp [h]
    rw [r90_l0]
    rcases Nat.lt_or_ge c.toNat 128 with hlo | hhi
    · have hd := decode_lo hc hlo
      rw [h] at hd
      have hn : (letterN c.toNat = false ∧ (pre = [] ∨ ¬(↑c.toNat : Int) = 95 ∧ ((↑c.toNat : Int) < 48 ∨ 57 < (↑c.toNat : Int)))) ↔ nameN pre.length c.toNat = false := by
        unfold nameN digitN
        cases pre with
        | nil => simp
        | cons x y => simp; cases letterN c.toNat <;> simp; omega
      refine ⟨if nameN pre.length c.toNat = false then pre.length + 1 else q, ?_⟩
      simp [c90_l0b, h, nameFrom, hd, hn]
      rw [h] at ih
      simp at ih
      cases nameN pre.length c.toNat <;> simp [ih]
    · have hd := decode_hi hc hhi
      rw [h] at hd
      have hl : letterN (Utf8.decode { data := List.toArray (pre ++ c :: r) } pre.length).fst = false := by
        have := nameN_hi (i := 0) hd
        simpa [nameN] using this
      have h1 : ¬ (↑(Utf8.decode { data := List.toArray (pre ++ c :: r) } pre.length).fst : Int) = 95 := by omega
      have h2 : (57 : Int) < (↑(Utf8.decode { data := List.toArray (pre ++ c :: r) } pre.length).fst : Int) := by omega
      refine ⟨pre.length + (Utf8.decode { data := List.toArray (pre ++ c :: r) } pre.length).snd, ?_⟩
      simp [c90_l0b, h, nameFrom, hl, h1, h2, nameN_hi hhi]
@[simp] theorem S90 (s : Str) (hs : s.length < 9223372036854775807) : fn P 90 [.str s] = some (.bool (isName s)) := by
  rw [u90]
  obtain ⟨q, this⟩ := L90 (P := P) s hs s [] rfl
  simp at this
  simp [c90, this]
  cases hn : nameFrom 0 s
  · simp [isName, hn]
  · cases s with
    | nil => simp [isName]
    | cons c r =>
      simp [isName, hn]
      omega
end LM.G6
namespace LM.G6
open Go LM
variable {P : Nat → Option SFunc} [Has P]
structure Lic where
  name : Str
  frm : Int
  to : Int
def Lic.enc (x : Lic) : CV := .agg [.str x.name, ci x.frm, ci x.to]
def Lic.ok (x : Lic) : Prop := x.name.length < 9223372036854775807
/-- The first error of a list's elements. -/
def eachE {α : Type} (chk : List α → α → Int) : List α → List α → Int
  | _, [] => 0
  | pre, x :: r => if chk pre x ≠ 0 then chk pre x else eachE chk (pre ++ [x]) r
end LM.G6
namespace LM.G6
open Go LM
/-- The number of the first element of a kind, or -1. -/
def idxF {α : Type} (p : α → Bool) : Nat → List α → Int
  | _, [] => -1
  | n, x :: r => if p x then n else idxF p (n + 1) r
theorem idxF_lt {α : Type} (p : α → Bool) : ∀ (l : List α) (n : Nat), (idxF p n l < 0) ↔ l.any p = false
  | [], n => by simp [idxF]
  | x :: r, n => by
    unfold idxF
    cases h : p x
    · simp [h, idxF_lt p r (n + 1)]
    · simp [h]
theorem idxF_none {α : Type} {p : α → Bool} : ∀ {l : List α} {n : Nat}, l.any p = false → idxF p n l = -1
  | [], n, _ => rfl
  | x :: r, n, h => by
    simp only [List.any_cons, Bool.or_eq_false_iff] at h
    rw [idxF, if_neg (by simp [h.1]), idxF_none h.2]
theorem idxF_dec {α : Type} (p : α → Bool) (l : List α) (n : Nat) : decide (0 ≤ idxF p n l) = l.any p := by
  have := idxF_lt p l n
  cases h : l.any p
  · have := this.2 h
    simp; omega
  · have : ¬ idxF p n l < 0 := fun q => by rw [this.1 q] at h; cases h
    simp; omega
end LM.G6
namespace LM.G6
open Go LM
variable {P : Nat → Option SFunc} [Has P]
def Str.is (s : Str) (x : Str) : Bool := x == s
end LM.G6
namespace LM.G6
open Go LM
variable {P : Nat → Option SFunc} [Has P]
def cI (xs : List Int) : List LV := xs.map fun v => LV.c (ci v)
theorem cI_length (xs : List Int) : (cI xs).length = xs.length := by simp [cI]
theorem cI_get {xs : List Int} {i : Nat} (h : i < xs.length) : (cI xs)[i]'(by rw [cI_length]; exact h) = .c (ci (xs.getD i 0)) := by
  simp [cI, List.getD_eq_getElem?_getD, h]
theorem cI_set (xs : List Int) (i : Nat) (v : Int) : (cI xs).set i (.c (ci v)) = cI (xs.set i v) := by
  unfold cI
  rw [List.map_set]
theorem cellsOf_ints (xs : List Int) : cellsOf (xs.map ci) = cI xs := by
  induction xs with
  | nil => rfl
  | cons x r ih =>
    have : cellsOf ((x :: r).map ci) = .c (ci x) :: cellsOf (r.map ci) := rfl
    rw [this, ih]
    rfl
theorem intElems (l : List Int) : ∀ x ∈ l.map ci, Elem none x := by
  intro x hx
  obtain ⟨y, _, rfl⟩ := List.mem_map.1 hx
  exact ⟨rfl, rfl⟩
theorem under_cI (n : Nat) (xs : List Int) : underL n (cI xs) = true := by rw [← cellsOf_ints]; exact underL_cellsOf _ _
theorem shift_cI (n : Nat) : ∀ xs : List Int, shiftL n (cI xs) = cI xs
  | [] => rfl
  | x :: r => by
    have : cI (x :: r) = .c (ci x) :: cI r := rfl
    rw [this, shiftL, shift_cI n r]
    rfl
def sw (xs : List Int) (i k : Nat) : List Int := (xs.set i (xs.getD k 0)).set k (xs.getD i 0)
theorem sw_length (xs : List Int) (i k : Nat) : (sw xs i k).length = xs.length := by simp [sw]
def nextX (x : Int) : Int := (48271 * x).tmod 2147483647
def drawN (n : Nat) : Nat → Nat → Int → List Int → List Int
  | 0, _, _, xs => xs
  | m + 1, i, x, xs => drawN n m (i + 1) (nextX x) (sw xs i (i + ((nextX x).tmod ((n : Int) - i)).toNat))
def iota (n : Nat) : List Int := (List.range n).map fun (k : Nat) => (k : Int)
def drawL (key : Int) (n : Nat) : List Int := drawN n (n - 1) 0 key (iota n)
theorem iota_length (n : Nat) : (iota n).length = n := by simp [iota]
theorem drawN_length (n : Nat) : ∀ (m i : Nat) (x : Int) (xs : List Int), (drawN n m i x xs).length = xs.length
  | 0, _, _, _ => rfl
  | m + 1, i, x, xs => by rw [drawN, drawN_length, sw_length]
theorem drawL_length (key : Int) (n : Nat) : (drawL key n).length = n := by rw [drawL, drawN_length, iota_length]
theorem nextX_range {x : Int} (h0 : 0 ≤ x) (h1 : x ≤ 2147483646) : 0 ≤ nextX x ∧ nextX x ≤ 2147483646 := by
  unfold nextX
  rw [Int.tmod_eq_emod_of_nonneg (by omega)]
  omega
theorem step_range {x : Int} {n i : Nat} (h0 : 0 ≤ x) (hi : i < n) : 0 ≤ x.tmod ((n : Int) - i) ∧ x.tmod ((n : Int) - i) < (n : Int) - i := by
  rw [Int.tmod_eq_emod_of_nonneg h0]
  exact ⟨Int.emod_nonneg _ (by omega), Int.emod_lt_of_pos _ (by omega)⟩
theorem sw_mem {xs : List Int} {i k : Nat} (hi : i < xs.length) (hk : k < xs.length) : ∀ v ∈ sw xs i k, v ∈ xs := by
  intro v hv
  unfold sw at hv
  rcases List.mem_or_eq_of_mem_set hv with h | h
  · rcases List.mem_or_eq_of_mem_set h with h | h
    · exact h
    · rw [h, List.getD_eq_getElem?_getD, List.getElem?_eq_getElem hk]; exact List.getElem_mem hk
  · rw [h, List.getD_eq_getElem?_getD, List.getElem?_eq_getElem hi]; exact List.getElem_mem hi
theorem drawN_mem (n : Nat) : ∀ (m i : Nat) (x : Int) (xs : List Int), i + m < n → 0 ≤ x → x ≤ 2147483646 → xs.length = n → ∀ v ∈ drawN n m i x xs, v ∈ xs
  | 0, _, _, _, _, _, _, _, v, hv => hv
  | m + 1, i, x, xs, hm, h0, h1, hl, v, hv => by
    rw [drawN] at hv
    have hx := nextX_range h0 h1
    have hs := step_range (n := n) (i := i) hx.1 (by omega)
    have := drawN_mem n m (i + 1) _ _ (by omega) hx.1 hx.2 (by rw [sw_length, hl]) v hv
    exact sw_mem (by omega) (by omega) v this
theorem drawL_range {key : Int} {n : Nat} (h0 : 1 ≤ key) (h1 : key ≤ 2147483646) : ∀ v ∈ drawL key n, 0 ≤ v ∧ v < n := by
  intro v hv
  unfold drawL at hv
  have hv : v ∈ iota n := by
    rcases Nat.eq_zero_or_pos n with h | h
    · subst h; exact hv
    · exact drawN_mem n (n - 1) 0 key _ (by omega) (by omega) h1 (iota_length n) v hv
  unfold iota at hv
  obtain ⟨k, hk, rfl⟩ := List.mem_map.1 hv
  have := List.mem_range.1 hk
  omega
theorem L92_1 (n : Nat) (hn : n ≤ 256) (cap : Option Nat) : ∀ (m i : Nat) (x : Int) (xs : List Int), i + m + 1 = n → 0 ≤ x → x ≤ 2147483646 → xs.length = n →
    execS P (limS P) c92_l1 ⟨[.c (ci n), .slice 1 1 0 n none cap, .c (ci x), .c (ci i)], [.cells 1 [] 0, .cells 1 (cI xs) 0]⟩ =
      some (.exit 2, ⟨[.slice 1 1 0 n none cap], [.cells 1 [] 0, .cells 1 (cI (drawN n m i x xs)) 0]⟩) := by
  intro m
  induction m with
  | zero =>
    intro i x xs hm h0 h1 hl
    have hw : IntKind.i64.wrap ((n : Int) - 1) = (n : Int) - 1 := wrap64 (by omega) (by omega)
    have hlt : ¬ (i : Int) < (n : Int) - 1 := by omega
    rw [r92_l1]
    simp [c92_l1b, hw, hlt, drawN]
  | succ m ih =>
    intro i x xs hm h0 h1 hl
    have hx := nextX_range h0 h1
    have hs := step_range (n := n) (i := i) hx.1 (by omega)
    have ih := ih (i + 1) (nextX x) (sw xs i (i + ((nextX x).tmod ((n : Int) - i)).toNat)) (by omega) hx.1 hx.2 (by rw [sw_length, hl])
    obtain ⟨k, hk⟩ : ∃ k : Nat, (nextX x).tmod ((n : Int) - i) = (k : Int) := ⟨((nextX x).tmod ((n : Int) - i)).toNat, by omega⟩
    rw [hk] at ih hs
    have hw : IntKind.i64.wrap ((n : Int) - 1) = (n : Int) - 1 := wrap64 (by omega) (by omega)
    have hw1 : IntKind.i64.wrap (48271 * x) = 48271 * x := wrap64 (by omega) (by omega)
    have hw2 : (48271 * x).tmod 2147483647 = nextX x := rfl
    have hw3 : IntKind.i64.wrap ((n : Int) - i) = (n : Int) - i := wrap64 (by omega) (by omega)
    have hw4 : IntKind.i64.wrap (k : Int) = k := wrap64 (by omega) (by omega)
    have hw5 : IntKind.i64.wrap ((i : Int) + k) = (i : Int) + k := wrap64 (by omega) (by omega)
    have hw6 : IntKind.i64.wrap ((i : Int) + 1) = (i : Int) + 1 := wrap64 (by omega) (by omega)
    have hlt : (i : Int) < (n : Int) - 1 := by omega
    have hnz : ¬ (n : Int) - i = 0 := by omega
    have hi : i < n := by omega
    have hik : i + k < n := by omega
    have hi' : i < xs.length := by omega
    have hik' : i + k < xs.length := by omega
    have hkt : ((i : Int) + k).toNat = i + k := by omega
    have hk0 : 0 ≤ (i : Int) + k := by omega
    have hk1 : (i : Int) + k < n := by omega
    have hii : (i : Int) < n := by omega
    have g1 := cI_get hi'
    have g2 := cI_get hik'
    have e : drawN n (m + 1) i x xs = drawN n m (i + 1) (nextX x) (sw xs i (i + k)) := by rw [drawN, hk]; rfl
    simp [sw, hi', hik'] at ih
    have hi1 : i + 1 ≤ n := by omega
    have hik1 : i + k + 1 ≤ n := by omega
    rw [e]
    rw [r92_l1]
    simp [c92_l1b, hw, hw1, hw2, hw3, hw4, hw5, hw6, hlt, hk, hnz, hi, hik, hi', hik', hkt, hk0, hk1, hii, g1, g2, cI_length, cI_set, hl, under_cI, sw, hi1, hik1, ih]
theorem iota_set (n i : Nat) (h : i < n) : ((iota i) ++ List.replicate (n - i) 0).set i (i : Int) = iota (i + 1) ++ List.replicate (n - (i + 1)) 0 := by
  rw [List.set_append_right _ _ (by rw [iota_length]; exact Nat.le_refl _), iota_length, Nat.sub_self]
  have e : n - i = (n - (i + 1)) + 1 := by omega
  rw [e, List.replicate_succ, List.set_cons_zero]
  unfold iota
  rw [List.range_succ, List.map_append, List.append_assoc]
  rfl
theorem L92_0 (n : Nat) (key : Int) (hn : n ≤ 256) (cap : Option Nat) : ∀ (m i : Nat), i + m = n →
    execS P (limS P) c92_l0 ⟨[.c (ci key), .c (ci n), .slice 1 1 0 n none cap, .c (ci n), .c (ci i)], [.cells 1 [] 0, .cells 1 (cI (iota i ++ List.replicate (n - i) 0)) 0]⟩ =
      some (.exit 0, ⟨[.c (ci key), .c (ci n), .slice 1 1 0 n none cap], [.cells 1 [] 0, .cells 1 (cI (iota n)) 0]⟩) := by
  intro m
  induction m with
  | zero =>
    intro i hm
    simp at hm
    subst hm
    rw [r92_l0]
    simp [c92_l0b]
  | succ m ih =>
    intro i hm
    have ih := ih (i + 1) (by omega)
    have hs := iota_set n i (by omega)
    have hw : IntKind.i64.wrap ((i : Int) + 1) = (i : Int) + 1 := wrap64 (by omega) (by omega)
    have hlt : (i : Int) < n := by omega
    have hi : i < i + (n - i) := by omega
    simp at ih
    rw [r92_l0]
    have hni : ¬ n - i = 0 := by omega
    simp [c92_l0b, hw, hlt, hi, hni, cI_length, iota_length, cI_set, hs, under_cI, ih]
/-- The error of a draw. -/
def drawE (key : Int) (n : Int) : Int := if key < 1 ∨ key > 2147483646 ∨ n < 0 ∨ n > 256 then 3 else 0
theorem S90e (key n : Int) (h : drawE key n ≠ 0) : ffn P 92 [ci key, ci n] = some (.tuple [.slice 1 1 0 0 none none, .c (ci 3)], [.cells 1 [] 0, .cells 1 [] 0]) := by
  rw [u92]
  unfold drawE at h
  by_cases h1 : key < 1 <;> by_cases h2 : 2147483646 < key <;> by_cases h3 : n < 0 <;> by_cases h4 : (256 : Int) < n <;> simp [h1, h2, h3, h4] at h <;> simp [c92, h1, h2, h3, h4, mkTuple]
theorem S92 (key : Int) (n : Nat) (h : drawE key n = 0) : ffn P 92 [ci key, ci n] = some (.tuple [.slice 1 1 0 n none (some n), .c (ci 0)], [.cells 1 [] 0, .cells 1 (cI (drawL key n)) 0]) := by
  unfold drawE at h
  split at h
  · cases h
  · rename_i hx
    have h1 : ¬ key < 1 := fun e => hx (.inl e)
    have h2 : ¬ 2147483646 < key := fun e => hx (.inr (.inl e))
    have h3 : ¬ (n : Int) < 0 := by omega
    have h4 : ¬ (256 : Int) < n := fun e => hx (.inr (.inr (.inr e)))
    have l0 := L92_0 (P := P) n key (by omega) (some n) n 0 (by omega)
    have hz : cI (iota 0 ++ List.replicate (n - 0) 0) = List.replicate n (.c (ci 0)) := by simp [iota, cI]
    rw [hz] at l0
    simp at l0
    rw [u92]
    rcases Nat.eq_zero_or_pos n with hn | hn
    · subst hn
      have hw : IntKind.i64.wrap (-1) = -1 := wrap64 (by omega) (by omega)
      have l1 : execS P (limS P) c92_l1 ⟨[.c (ci 0), .slice 1 1 0 0 none (some 0), .c (ci key), .c (ci 0)], [.cells 1 [] 0, .cells 1 [] 0]⟩ = some (.exit 2, ⟨[.slice 1 1 0 0 none (some 0)], [.cells 1 [] 0, .cells 1 [] 0]⟩) := by
        rw [r92_l1]
        simp [c92_l1b, hw]
      have e : drawL key 0 = [] := rfl
      have e0 : cI (iota 0) = [] := rfl
      rw [e0] at l0
      simp at l0
      simp [c92, h1, h2, l0, l1, mkTuple, e, allC]
      rfl
    · have l1 := L92_1 (P := P) n (by omega) (some n) (n - 1) 0 key (iota n) (by omega) (by omega) (by omega) (iota_length n)
      simp at l1
      have q1 : (n : Int) * 8 ≤ 140737488355328 := by omega
      have q2 : (n : Int) ≤ 9223372036854775807 := by omega
      simp [c92, h1, h2, h4, l0, l1, q1, q2, mkTuple, drawL]
end LM.G6
namespace LM.G6
open Go LM
variable {P : Nat → Option SFunc} [Has P]
@[simp] theorem S23 (n a b : Int) : fn P 23 [ci n, ci a, ci b] = some (ci (whenE (outside n a b) 3)) := by
  rw [u23]
  unfold outside whenE
  by_cases h1 : n < a <;> by_cases h2 : b < n <;> simp [c23, h1, h2]
@[simp] theorem S91 (n a b : Int) : fn P 91 [ci n, ci a, ci b] = some (ci (whenE (outside n a b) 3)) := by
  rw [u91]
  unfold outside
  by_cases h1 : n < a <;> by_cases h2 : b < n <;> simp [c91, h1, h2]
theorem frzFuncs_nil (h : Heap) : frzFuncs [] h = some ([], h) := by rw [frzFuncs]
theorem frzFuncs_c (v : CV) (l : List LV) (h : Heap) : frzFuncs (.c v :: l) h = bnd (frzFuncs l h) fun a => some (.c v :: a.1, a.2) := by
  rw [frzFuncs]
  rcases frzFuncs l h with _ | ⟨x, y⟩ <;> rfl
  all_goals simp
theorem frzFuncs_slice (b g o n : Nat) (e c : Option Nat) (l : List LV) (h : Heap) : frzFuncs (.slice b g o n e c :: l) h = bnd (frzFuncs l h) fun a => some (.slice b g o n e c :: a.1, a.2) := by
  rw [frzFuncs]
  rcases frzFuncs l h with _ | ⟨x, y⟩ <;> rfl
  all_goals simp
end LM.G6
namespace LM.G6
open Go LM
variable {P : Nat → Option SFunc} [Has P]
structure Stt where
  name : Str
  nation : Str
  seed : Int
def Stt.enc (x : Stt) : CV := .agg [.str x.name, .str x.nation, ci x.seed]
def Stt.ptr (x : Stt) : CV := .ptr [.str x.name, .str x.nation, ci x.seed] 0
def Stt.ok (x : Stt) : Prop := x.name.length < 9223372036854775807 ∧ x.nation.length < 9223372036854775807
theorem Stt.elem (x : Stt) : Elem (some 3) x.enc := ⟨_, rfl, rfl, by simp [CV.flat]⟩
theorem Stt.elems (l : List Stt) : ∀ x ∈ l.map Stt.enc, Elem (some 3) x := by
  intro x hx
  obtain ⟨y, _, rfl⟩ := List.mem_map.1 hx
  exact y.elem
def Stt.is (n : Str) (x : Stt) : Bool := x.name == n
theorem S87 (x c : Stt) : fn P 87 [x.enc, c.ptr] = some (.bool (Stt.is c.name x)) := by
  rw [u87]
  simp [c87, Stt.enc, Stt.ptr, Stt.is]
theorem L140 (c : Stt) : ∀ (l pre : List Stt), ((pre ++ l).length : Int) < 9223372036854775807 →
    execS P (limS P) c140_l0 ⟨[.c (.slice ((pre ++ l).map Stt.enc)), .c (.func 87 [] [c.ptr]), .c (ci (pre ++ l).length), .c (ci pre.length)], []⟩ = if l.any (Stt.is c.name) then some (.ret, ⟨[.c (ci (idxF (Stt.is c.name) pre.length l))], []⟩) else some (.exit 0, ⟨[], []⟩) := by
  intro l
  induction l with
  | nil =>
    intro pre h
    rw [r140_l0]
    simp [c140_l0b]
  | cons x r ih =>
    intro pre h
    have ih := ih (pre ++ [x]) (by simpa using h)
    have hc := S87 (P := P) x c
    simp [Stt.enc] at ih h hc
    have hw : IntKind.i64.wrap (↑pre.length + 1) = ↑pre.length + 1 := wrap64 (by omega) (by omega)
    have hlt : (pre.length : Int) < pre.length + (r.length + 1) := by omega
    rw [r140_l0]
    cases h0 : Stt.is c.name x
    · simp [c140_l0b, hw, hlt, Stt.enc, hc, idxF, h0, ih]
    · simp [c140_l0b, hw, hlt, Stt.enc, hc, idxF, h0]
theorem S86 (c : Stt) (l : List Stt) (h : (l.length : Int) < 9223372036854775807) : fn P 86 [.slice (l.map Stt.enc), .func 87 [] [c.ptr]] = some (.bool (l.any (Stt.is c.name))) := by
  have hl := L140 (P := P) c l [] (by simpa using h)
  have h2 : fn P 140 [.slice (l.map Stt.enc), .func 87 [] [c.ptr]] = some (ci (idxF (Stt.is c.name) 0 l)) := by
    rw [u140]
    simp at hl
    simp [c140, hl]
    exact fun hx => (idxF_none (by simpa using hx)).symm
  rw [u86]
  simp [c86, h2, idxF_dec]
/-- A starter's error behind others. -/
def stE (pre : List Stt) (x : Stt) : Int := firstE [whenE (!isName x.name) 8, whenE (pre.any (Stt.is x.name)) 9, whenE (!isName x.nation) 8, whenE (outside x.seed 0 999999999) 3]
def startersE (l : List Stt) : Int := if (l.length : Int) > 160 then 5 else eachE stE [] l
def XB (x : Stt) (z : Nat) : LB := .cells 0 [.c (.str x.name), .c (.str x.nation), .c (ci x.seed)] z
theorem L19 : ∀ (r pre : List Stt), (∀ x ∈ r, x.ok) → ((pre ++ r).length : Int) < 9223372036854775807 →
    ∃ H, execS P (limS P) c19_l0 ⟨[.c (.slice ((pre ++ r).map Stt.enc)), .c (.slice ((pre ++ r).map Stt.enc)), .c (ci (pre ++ r).length), .c (ci pre.length)], []⟩ = if eachE stE pre r = 0 then some (.exit 0, ⟨[], []⟩) else some (.ret, ⟨[.c (ci (eachE stE pre r))], H⟩) := by
  intro r
  induction r with
  | nil =>
    intro pre hl h
    refine ⟨[], ?_⟩
    rw [r19_l0]
    simp [c19_l0b, eachE]
  | cons x r ih =>
    intro pre hl h
    obtain ⟨H, ih⟩ := ih (pre ++ [x]) (fun y hy => hl y (by simp [hy])) (by simpa using h)
    have hx := hl x (by simp)
    unfold Stt.ok at hx
    have e86 := S86 (P := P) x pre (by simp at h; omega)
    have e90a := S90 (P := P) x.name hx.1
    have e90b := S90 (P := P) x.nation hx.2
    have ht : List.take pre.length (List.map Stt.enc pre ++ x.enc :: List.map Stt.enc r) = pre.map Stt.enc := by simp
    simp [Stt.enc, Stt.ptr, -List.any_eq_true] at ih h e86 ht
    have hw : IntKind.i64.wrap (↑pre.length + 1) = ↑pre.length + 1 := wrap64 (by omega) (by omega)
    have hlt : (pre.length : Int) < pre.length + (r.length + 1) := by omega
    have hz : szFits 3 (List.map Stt.enc pre ++ CV.agg [.str x.name, .str x.nation, ci x.seed] :: List.map Stt.enc r) = true := by cases pre <;> rfl
    have hb : (pre.length : Int) ≤ pre.length + (r.length + 1) := by omega
    have hE : eachE stE pre (x :: r) = if stE pre x ≠ 0 then stE pre x else eachE stE (pre ++ [x]) r := rfl
    have hS : firstE [whenE (!isName x.name) 8, whenE (pre.any (Stt.is x.name)) 9, whenE (!isName x.nation) 8, whenE (outside x.seed 0 999999999) 3] = stE pre x := rfl
    rw [hE, r19_l0]
    by_cases h0 : stE pre x = 0
    · refine ⟨H, ?_⟩
      simp [c19_l0b, hw, hlt, hz, hb, ht, Stt.enc, e86, e90a, e90b, hS, h0, ih, -List.any_eq_true]
    · refine ⟨[XB x 0, .dead], ?_⟩
      simp [c19_l0b, hw, hlt, hz, hb, ht, Stt.enc, e86, e90a, e90b, hS, h0, XB, -List.any_eq_true]
theorem S19 (l : List Stt) (hl : ∀ x ∈ l, x.ok) (h : (l.length : Int) < 9223372036854775807) : fn P 19 [.slice (l.map Stt.enc)] = some (ci (startersE l)) := by
  obtain ⟨H, hL⟩ := L19 (P := P) l [] hl (by simpa using h)
  simp at hL
  rw [u19]
  unfold startersE
  by_cases hm : (l.length : Int) > 160
  · have hm' : (160 : Int) < (l.length : Int) := hm
    simp [c19, hm']
  · have hm' : ¬ (160 : Int) < (l.length : Int) := hm
    simp [c19, hm', hL]
    by_cases h0 : eachE stE [] l = 0 <;> simp [h0]
def Stt.short (x : Stt) : Bool := decide (x.name.length ≤ 40) && decide (x.nation.length ≤ 40)
theorem L17 : ∀ (r pre : List Stt), ((pre ++ r).length : Int) < 9223372036854775807 →
    execS P (limS P) c17_l0 ⟨[.c (.slice ((pre ++ r).map Stt.enc)), .c (ci pre.length)], []⟩ = if r.all Stt.short then some (.exit 0, ⟨[], []⟩) else some (.ret, ⟨[.c (.bool false)], []⟩) := by
  intro r
  induction r with
  | nil =>
    intro pre h
    rw [r17_l0]
    simp [c17_l0b]
  | cons x r ih =>
    intro pre h
    have ih := ih (pre ++ [x]) (by simpa using h)
    simp [Stt.enc, -List.all_eq_true] at ih h
    have hw : IntKind.i64.wrap (↑pre.length + 1) = ↑pre.length + 1 := wrap64 (by omega) (by omega)
    have hlt : (pre.length : Int) < pre.length + (r.length + 1) := by omega
    have e : x.short = (decide (x.name.length ≤ 40) && decide (x.nation.length ≤ 40)) := rfl
    have q1 : (40 : Int) < x.name.length ↔ ¬ x.name.length ≤ 40 := by omega
    have q2 : (40 : Int) < x.nation.length ↔ ¬ x.nation.length ≤ 40 := by omega
    rw [r17_l0]
    by_cases h1 : x.name.length ≤ 40 <;> by_cases h2 : x.nation.length ≤ 40 <;> simp [c17_l0b, hw, hlt, Stt.enc, e, q1, q2, h1, h2, ih, -List.all_eq_true, -Nat.not_le]
def shortStt (l : List Stt) (n : Int) : Bool := !((decide ((l.length : Int) > n) && decide ((l.length : Int) ≤ 160)) || decide ((l.length : Int) > 162)) && l.all Stt.short
theorem S17 (l : List Stt) (n : Int) (h : (l.length : Int) < 9223372036854775807) : fn P 17 [.slice (l.map Stt.enc), ci n] = some (.bool (shortStt l n)) := by
  have hl := L17 (P := P) l [] (by simpa using h)
  simp [-List.all_eq_true] at hl
  rw [u17]
  unfold shortStt
  by_cases h1 : n < (l.length : Int) <;> by_cases h2 : (l.length : Int) ≤ 160 <;> by_cases h3 : (162 : Int) < l.length <;> cases h0 : l.all Stt.short <;> rw [h0] at hl <;> simp [c17, h1, h2, h3, hl]
theorem L18_0 (X : List Stt) (x : Stt) : ∀ (r pre rest : List Stt), X = pre ++ r ++ x :: rest → (X.length : Int) < 9223372036854775807 →
    execS P (limS P) c18_l0 ⟨[.c (.slice (X.map Stt.enc)), .c (ci (pre ++ r).length), .c (ci pre.length)], []⟩ = if r.any (Stt.is x.name) then some (.ret, ⟨[.c (ci 9)], []⟩) else some (.exit 2, ⟨[.c (.slice (X.map Stt.enc)), .c (ci (pre ++ r).length)], []⟩) := by
  intro r
  induction r with
  | nil =>
    intro pre rest hX h
    rw [r18_l0]
    simp [c18_l0b]
  | cons y r ih =>
    intro pre rest hX h
    have ih := ih (pre ++ [y]) rest (by simp [hX]) h
    subst hX
    simp [Stt.enc, -List.any_eq_true] at ih h
    have hw : IntKind.i64.wrap (↑pre.length + 1) = ↑pre.length + 1 := wrap64 (by omega) (by omega)
    have hlt : (pre.length : Int) < pre.length + (r.length + 1) := by omega
    have k1 : (pre.length : Int) < pre.length + (r.length + (rest.length + 1) + 1) := by omega
    have k2 : (pre.length : Int) + (r.length + 1) < pre.length + (r.length + (rest.length + 1) + 1) := by omega
    have t1 : ((pre.length : Int) + (r.length + 1)).toNat = pre.length + (r.length + 1) := by omega
    have j2 : 0 ≤ (pre.length : Int) + (r.length + 1) := by omega
    have hu : Stt.is x.name y = decide (y.name = x.name) := by by_cases q : y.name = x.name <;> simp [Stt.is, q]
    rw [r18_l0]
    by_cases h0 : y.name = x.name
    · simp [c18_l0b, hw, hlt, k1, k2, t1, j2, Stt.enc, hu, h0, -List.any_eq_true]
    · simp [c18_l0b, hw, hlt, k1, k2, t1, j2, Stt.enc, hu, h0, ih, -List.any_eq_true]
theorem L18_1 : ∀ (r pre : List Stt), ((pre ++ r).length : Int) < 9223372036854775807 →
    execS P (limS P) c18_l1 ⟨[.c (.slice ((pre ++ r).map Stt.enc)), .c (ci pre.length)], []⟩ = if eachE stE pre r = 0 then some (.exit 0, ⟨[], []⟩) else some (.ret, ⟨[.c (ci (eachE stE pre r))], []⟩) := by
  intro r
  induction r with
  | nil =>
    intro pre h
    rw [r18_l1]
    simp [c18_l1b, eachE]
  | cons x r ih =>
    intro pre h
    have ih := ih (pre ++ [x]) (by simpa using h)
    have h0 := L18_0 (P := P) (pre ++ x :: r) x pre [] r (by simp) h
    simp [Stt.enc, -List.any_eq_true] at ih h h0
    have hw : IntKind.i64.wrap (↑pre.length + 1) = ↑pre.length + 1 := wrap64 (by omega) (by omega)
    have hlt : (pre.length : Int) < pre.length + (r.length + 1) := by omega
    have hE : eachE stE pre (x :: r) = if stE pre x ≠ 0 then stE pre x else eachE stE (pre ++ [x]) r := rfl
    have hS : stE pre x = firstE [whenE (!isName x.name) 8, whenE (pre.any (Stt.is x.name)) 9, whenE (!isName x.nation) 8, whenE (outside x.seed 0 999999999) 3] := rfl
    rw [hE, r18_l1]
    cases q1 : isName x.name
    · simp [c18_l1b, hw, hlt, Stt.enc, hS, q1, whenE, firstE]
    · cases q2 : pre.any (Stt.is x.name)
      · rw [q2] at h0
        cases q3 : isName x.nation
        · simp [c18_l1b, hw, hlt, Stt.enc, hS, q1, q2, q3, h0, whenE, firstE]
        · cases q4 : outside x.seed 0 999999999
          · simp [c18_l1b, hw, hlt, Stt.enc, hS, q1, q2, q3, q4, h0, whenE, firstE, ih]
          · simp [c18_l1b, hw, hlt, Stt.enc, hS, q1, q2, q3, q4, h0, whenE, firstE]
      · rw [q2] at h0
        simp [c18_l1b, hw, hlt, Stt.enc, hS, q1, q2, h0, whenE, firstE]
theorem S18 (l : List Stt) (h : (l.length : Int) < 9223372036854775807) : fn P 18 [.slice (l.map Stt.enc)] = some (ci (startersE l)) := by
  have hL := L18_1 (P := P) l [] (by simpa using h)
  simp at hL
  rw [u18]
  unfold startersE
  by_cases hm : (l.length : Int) > 160
  · have hm' : (160 : Int) < (l.length : Int) := hm
    simp [c18, hm']
  · have hm' : ¬ (160 : Int) < (l.length : Int) := hm
    simp [c18, hm', hL]
    by_cases h0 : eachE stE [] l = 0 <;> simp [h0]
theorem L15 : ∀ (l pre : List Stt), (pre ++ l).length * 40 ≤ 2 ^ 47 →
    execS P (limS P) c15_l0 ⟨[.c (.slice ((pre ++ l).map Stt.enc)), .slice 1 (1 + pre.length) 0 pre.length (some 3) none, .c (ci pre.length)], [.cells 1 [] 0, .cells (1 + pre.length) (cellsOf (pre.map Stt.enc)) 0]⟩ =
      some (.exit 0, ⟨[.slice 1 (1 + (pre ++ l).length) 0 (pre ++ l).length (some 3) none], [.cells 1 [] 0, .cells (1 + (pre ++ l).length) (cellsOf ((pre ++ l).map Stt.enc)) 0]⟩) := by
  intro l
  induction l with
  | nil =>
    intro pre h
    rw [r15_l0]
    simp [c15_l0b]
  | cons c r ih =>
    intro pre h
    have ih := ih (pre ++ [c]) (by simpa using h)
    have ha := append_own (b := 1) (g := 1 + pre.length) (bytes := 40) (e := some 3) (ys := pre.map Stt.enc) (xs := [c.enc]) (h := [.cells 1 [] 0, .cells (1 + pre.length) (cellsOf (pre.map Stt.enc)) 0]) (len := pre.length) (fz := 0) rfl (Stt.elems _) (by simpa using c.elem) (by simp) (Nat.zero_le _) (by simp) (by simp at h ⊢; omega) (by simp at h ⊢; omega)
    simp at h
    simp [Stt.enc] at ih ha
    have hw : IntKind.i64.wrap (↑pre.length + 1) = ↑pre.length + 1 := wrap64 (by omega) (by omega)
    have hlt : (pre.length : Int) < pre.length + (r.length + 1) := by omega
    have e1 : 1 + (pre.length + 1) = 1 + pre.length + 1 := by omega
    rw [r15_l0]
    rw [e1] at ih
    simp [c15_l0b, Stt.enc, hw, hlt, ha, ih]
@[simp] theorem S15 (l : List Stt) (h : l.length * 40 ≤ 2 ^ 47) : fn P 15 [.slice (l.map Stt.enc)] = some (.slice (l.map Stt.enc)) := by
  rw [u15]
  have := L15 (P := P) l [] (by simpa using h)
  have hf := frz_own (b := 1) (g := 1 + l.length) (fz := 0) (e := some 3) (ys := l.map Stt.enc) (h := [.cells 1 [] 0, .cells (1 + l.length) (cellsOf (l.map Stt.enc)) 0]) (len := l.length) rfl (Stt.elems _) (by simp) none
  simp at this
  simp [c15, this, resV, hf, -frz_slice]
end LM.G6
namespace LM.G6
open Go LM
variable {P : Nat → Option SFunc} [Has P]
theorem sw_perm {xs : List Int} {i k : Nat} (hi : i < xs.length) (hk : k < xs.length) : (sw xs i k).Perm xs := by
  unfold sw
  have e1 : xs.getD k 0 = xs[k] := by simp [List.getD_eq_getElem?_getD, hk]
  have e2 : xs.getD i 0 = xs[i] := by simp [List.getD_eq_getElem?_getD, hi]
  rw [e1, e2]
  exact List.set_set_perm hi hk
theorem drawN_perm (n : Nat) : ∀ (m i : Nat) (x : Int) (xs : List Int), i + m < n → 0 ≤ x → x ≤ 2147483646 → xs.length = n → (drawN n m i x xs).Perm xs
  | 0, _, _, _, _, _, _, _ => .refl _
  | m + 1, i, x, xs, hm, h0, h1, hl => by
    rw [drawN]
    have hx := nextX_range h0 h1
    have hs := step_range (n := n) (i := i) hx.1 (by omega)
    exact (drawN_perm n m (i + 1) _ _ (by omega) hx.1 hx.2 (by rw [sw_length, hl])).trans (sw_perm (by omega) (by omega))
theorem drawL_perm {key : Int} {n : Nat} (h0 : 1 ≤ key) (h1 : key ≤ 2147483646) : (drawL key n).Perm (iota n) := by
  unfold drawL
  rcases Nat.eq_zero_or_pos n with h | h
  · subst h; exact .refl _
  · exact drawN_perm n (n - 1) 0 key _ (by omega) (by omega) h1 (iota_length n)
end LM.G6
namespace LM.G6
open Go LM
variable {P : Nat → Option SFunc} [Has P]
/-- The cells of a list whose elements are cells. -/
def cA {α : Type} (enc : α → CV) (xs : List α) : List LV := xs.map fun x => LV.c (enc x)
theorem cA_length {α : Type} (enc : α → CV) (xs : List α) : (cA enc xs).length = xs.length := by simp [cA]
/-- A comparison, whatever the heap is. -/
def CmpOk (P : Nat → Option SFunc) {α : Type} (enc : α → CV) (f : Nat) (B : List CV) (c : α → α → Int) : Prop :=
  ∀ (pos : Option Nat) (q : Bool) (x y : α) (h : Heap), callS P (limS P) pos q f (.c (enc x) :: .c (enc y) :: B.map .c) h = some (.c (ci (c x y)), h)
/-- Elements of one cell. -/
def CellOk {α : Type} (enc : α → CV) : Prop := ∀ x, Elem none (enc x)
theorem CellOk.cells {α : Type} {enc : α → CV} (h : CellOk enc) (x : α) : CV.cells (enc x) = [enc x] := (h x).1
theorem CellOk.flat {α : Type} {enc : α → CV} (h : CellOk enc) (x : α) : flatAll [LV.c (enc x)] = true := by have := (h x).2; simpa [flatAll] using this
def ltC {α : Type} (c : α → α → Int) (x y : α) : Bool := decide (c x y < 0)
variable {α : Type} {enc : α → CV} {f : Nat} {B : List CV} {c : α → α → Int} {H : Heap} {b g : Nat} {cp : Option Nat}
theorem take_set (X : LB) : List.take H.length (H.set b X) = H.set b X := List.take_of_length_le (by simp)
theorem L167_0 (hE : CellOk enc) (hC : CmpOk P enc f B c) (hb : b < H.length) (hg : g ≠ 0) (A : List α) (a bb i : Int) (ha : a = A.length) (n : Nat) (hn : n < 9223372036854775807) : ∀ (L : List α) (x : α) (Q : List α), n = A.length + L.length + 1 + Q.length →
    execS P (limS P) c167_l0 ⟨[.slice b g 0 n none cp, .c (ci a), .c (ci bb), .c (.func f [] B), .c (ci i), .c (ci (A.length + L.length))], H.set b (.cells g (cA enc (A ++ L.reverse ++ x :: Q)) 0)⟩ =
      some (.exit 2, ⟨[.slice b g 0 n none cp, .c (ci a), .c (ci bb), .c (.func f [] B), .c (ci i)], H.set b (.cells g (cA enc (A ++ insL (ltC c) x L Q)) 0)⟩) := by
  subst ha
  intro L
  induction L with
  | nil =>
    intro x Q h
    rw [r167_l0]
    simp [c167_l0b, insL]
  | cons y L ih =>
    intro x Q h
    have ih := ih x (y :: Q) (by simp at h ⊢; omega)
    simp at h
    have hlt : (A.length : Int) < A.length + (L.length + 1) := by omega
    have hw : IntKind.i64.wrap ((A.length : Int) + (L.length + 1) - 1) = A.length + L.length := by
      rw [show (A.length : Int) + (L.length + 1) - 1 = A.length + L.length from by omega]; exact wrap64 (by omega) (by omega)
    have t1 : ((A.length : Int) + (L.length + 1)).toNat = A.length + (L.length + 1) := by omega
    have t2 : ((A.length : Int) + L.length).toNat = A.length + L.length := by omega
    have i1 : (A.length : Int) + (L.length + 1) < n := by omega
    have i2 : (A.length : Int) + L.length < n := by omega
    have j1 : 0 ≤ (A.length : Int) + (L.length + 1) := by omega
    have j2 : 0 ≤ (A.length : Int) + L.length := by omega
    have e : A ++ (y :: L).reverse ++ x :: Q = A ++ (L.reverse ++ y :: x :: Q) := by simp
    have g1 : (cA enc (A ++ (L.reverse ++ y :: x :: Q)))[A.length + L.length]? = some (.c (enc y)) := by
      unfold cA; rw [List.getElem?_map, List.getElem?_append_right (by omega), List.getElem?_append_right (by simp)]; simp
    have g2 : (cA enc (A ++ (L.reverse ++ y :: x :: Q)))[A.length + (L.length + 1)]? = some (.c (enc x)) := by
      unfold cA; rw [List.getElem?_map, List.getElem?_append_right (by omega), List.getElem?_append_right (by simp), List.length_reverse, show A.length + (L.length + 1) - A.length - L.length = 1 from by omega]; simp
    have gs : ((cA enc (A ++ (L.reverse ++ y :: x :: Q))).set (A.length + (L.length + 1)) (.c (enc y))).set (A.length + L.length) (.c (enc x)) = cA enc (A ++ (L.reverse ++ x :: y :: Q)) := by
      have q : cA enc (A ++ (L.reverse ++ y :: x :: Q)) = (cA enc A ++ cA enc L.reverse) ++ .c (enc y) :: .c (enc x) :: cA enc Q := by simp [cA]
      have q2 : cA enc (A ++ (L.reverse ++ x :: y :: Q)) = (cA enc A ++ cA enc L.reverse) ++ .c (enc x) :: .c (enc y) :: cA enc Q := by simp [cA]
      have ql : (cA enc A ++ cA enc L.reverse).length = A.length + L.length := by simp [cA_length]
      rw [q, q2, List.set_append_right _ _ (by omega), ql, show A.length + (L.length + 1) - (A.length + L.length) = 1 from by omega, List.set_cons_succ, List.set_cons_zero, List.set_append_right _ _ (by omega), ql, Nat.sub_self, List.set_cons_zero]
    obtain ⟨_, g1⟩ := List.getElem?_eq_some_iff.1 g1
    obtain ⟨_, g2⟩ := List.getElem?_eq_some_iff.1 g2
    have k1 : A.length + (L.length + 1) + 1 ≤ A.length + (L.length + (Q.length + 1 + 1)) := by omega
    have k2 : A.length + L.length + 1 ≤ A.length + (L.length + (Q.length + 1 + 1)) := by omega
    have hc := fun pos q h => hC pos q x y h
    have m1 := hE.cells
    simp only [CV.cells] at m1
    have m2 := hE.flat
    rw [e]
    rw [r167_l0]
    simp only [insL]
    by_cases hk : c x y < 0
    · have hl : ltC c x y = true := decide_eq_true hk
      have ih' := ih
      simp at ih
      simp [c167_l0b, hb, hlt, hw, t1, t2, i1, i2, j1, j2, g1, g2, gs, hc, hk, hl, m1, m2, take_set, cA_length, k1, k2, ih]
    · have hl : ltC c x y = false := decide_eq_false hk
      simp [c167_l0b, hb, hlt, hw, t1, t2, i1, i2, j1, j2, g1, g2, hc, hk, hl, take_set, cA_length]
theorem L167_1 (hE : CellOk enc) (hC : CmpOk P enc f B c) (hb : b < H.length) (hg : g ≠ 0) (A T : List α) (n : Nat) (hn : n < 9223372036854775807) (bb : Int) : ∀ (U S : List α), n = A.length + S.length + U.length + T.length → bb = A.length + S.length + U.length →
    execS P (limS P) c167_l1 ⟨[.slice b g 0 n none cp, .c (ci A.length), .c (ci bb), .c (.func f [] B), .c (ci (A.length + S.length))], H.set b (.cells g (cA enc (A ++ (S ++ (U ++ T)))) 0)⟩ =
      some (.exit 0, ⟨[], H.set b (.cells g (cA enc (A ++ (sortI (ltC c) S U ++ T))) 0)⟩) := by
  intro U
  induction U with
  | nil =>
    intro S h1 h2
    have hlt : ¬ (A.length : Int) + S.length < bb := by simp at h2; omega
    rw [r167_l1]
    simp [c167_l1b, hlt, sortI]
  | cons x U ih =>
    intro S h1 h2
    have ih := ih (insS (ltC c) x S) (by rw [insS_length]; simp at h1 ⊢; omega) (by rw [insS_length]; simp at h2 ⊢; omega)
    have hin := L167_0 (P := P) (cp := cp) hE hC hb hg A A.length bb (A.length + S.length) rfl n hn S.reverse x (U ++ T) (by simp at h1 ⊢; omega)
    have e : insL (ltC c) x S.reverse (U ++ T) = insS (ltC c) x S ++ (U ++ T) := insL_append x S.reverse [] (U ++ T)
    rw [e] at hin
    rw [insS_length] at ih
    simp at hin ih h1 h2
    have hlt : (A.length : Int) + S.length < bb := by omega
    have hw : IntKind.i64.wrap ((A.length : Int) + S.length + 1) = (A.length : Int) + (S.length + 1) := by
      rw [Int.add_assoc]; exact wrap64 (by omega) (by omega)
    rw [r167_l1]
    simp only [sortI]
    simp [c167_l1b, hlt, hin, hw, hb, take_set, ih]
theorem S167 (hE : CellOk enc) (hC : CmpOk P enc f B c) (hb : b < H.length) (hg : g ≠ 0) (A U T : List α) (n : Nat) (hn : n < 9223372036854775807) (h : n = A.length + U.length + T.length) :
    sfn P 167 [.slice b g 0 n none cp, .c (ci A.length), .c (ci (A.length + U.length)), .c (.func f [] B)] (H.set b (.cells g (cA enc (A ++ (U ++ T))) 0)) = some (.c (.tuple []), H.set b (.cells g (cA enc (A ++ (sortI (ltC c) [] U ++ T))) 0)) := by
  have hw : IntKind.i64.wrap ((A.length : Int) + 1) = (A.length : Int) + 1 := wrap64 (by omega) (by omega)
  rw [u167]
  cases U with
  | nil =>
    have hlt : ¬ (A.length : Int) + 1 < A.length := by omega
    have hL : execS P (limS P) c167_l1 ⟨[.slice b g 0 n none cp, .c (ci A.length), .c (ci A.length), .c (.func f [] B), .c (ci ((A.length : Int) + 1))], H.set b (.cells g (cA enc (A ++ T)) 0)⟩ = some (.exit 0, ⟨[], H.set b (.cells g (cA enc (A ++ T)) 0)⟩) := by
      rw [r167_l1]
      simp [c167_l1b, hlt]
    simp [c167, hw, hL, sortI]
  | cons x U =>
    have hL := L167_1 (P := P) (cp := cp) hE hC hb hg A T n hn (A.length + (U.length + 1)) U [x] (by simp at h ⊢; omega) (by simp; omega)
    have e : insS (ltC c) x [] = [x] := rfl
    simp at hL
    simp [c167, hw, hL, sortI, e]
end LM.G6
namespace LM.G6
open Go LM
variable {P : Nat → Option SFunc} [Has P]
variable {α : Type} {enc : α → CV} {f : Nat} {B : List CV} {c : α → α → Int} {H : Heap} {b g : Nat} {cp : Option Nat}
theorem cA_get {l P R : List α} {x : α} {k : Nat} (hl : l = P ++ x :: R) (h : k = P.length) : ∃ q : k < (cA enc l).length, (cA enc l)[k]'q = .c (enc x) := by
  subst hl
  subst h
  refine ⟨by simp [cA], by simp [cA]⟩
theorem cA_set {P R : List α} {x y : α} {k : Nat} (h : k = P.length) : (cA enc (P ++ x :: R)).set k (.c (enc y)) = cA enc (P ++ y :: R) := by
  subst h
  simp [cA]
theorem L175 (hE : CellOk enc) (hb : b < H.length) (hg : g ≠ 0) (A M T : List α) (F : CV) (n a bb len : Nat) (hn : n < 9223372036854775807) (ha : a = A.length) : ∀ (X2 Y2 X1 Y1 : List α), X1.length = Y1.length → X2.length = Y2.length → len = X1.length + X2.length → bb = A.length + len + M.length → n = bb + len + T.length →
    execS P (limS P) c175_l0 ⟨[.slice b g 0 n none cp, .c (ci a), .c (ci bb), .c (ci len), .c (ci Y1.length)], H.set b (.cells g (cA enc ((A ++ Y1) ++ (X2 ++ (M ++ X1 ++ (Y2 ++ T))))) 0)⟩ =
      some (.exit 0, ⟨[], H.set b (.cells g (cA enc ((A ++ Y1 ++ Y2) ++ (M ++ X1 ++ (X2 ++ T)))) 0)⟩) := by
  intro X2
  induction X2 with
  | nil =>
    intro Y2 X1 Y1 h1 h2 h3 h4 h5
    have : Y2 = [] := List.eq_nil_of_length_eq_zero h2.symm
    subst this
    have hlt : ¬ (Y1.length : Int) < len := by simp at h3; omega
    rw [r175_l0]
    simp [c175_l0b, hlt]
  | cons x X2 ih =>
    intro Y2 X1 Y1 h1 h2 h3 h4 h5
    cases Y2 with
    | nil => simp at h2
    | cons y Y2 =>
      have ih := ih Y2 (X1 ++ [x]) (Y1 ++ [y]) (by simp [h1]) (by simpa using h2) (by simp at h3 ⊢; omega) h4 h5
      simp at h2 h3
      have hlt : (Y1.length : Int) < len := by omega
      have w1 : IntKind.i64.wrap ((a : Int) + Y1.length) = ((a + Y1.length : Nat) : Int) := by rw [Int.natCast_add]; exact wrap64 (by omega) (by omega)
      have w2 : IntKind.i64.wrap ((bb : Int) + Y1.length) = ((bb + Y1.length : Nat) : Int) := by rw [Int.natCast_add]; exact wrap64 (by omega) (by omega)
      have w3 : IntKind.i64.wrap ((Y1.length : Int) + 1) = (Y1.length : Int) + 1 := wrap64 (by omega) (by omega)
      have i1 : ((a + Y1.length : Nat) : Int) < n := by omega
      have i2 : ((bb + Y1.length : Nat) : Int) < n := by omega
      have e0 : (A ++ Y1) ++ (x :: X2 ++ (M ++ X1 ++ (y :: Y2 ++ T))) = (A ++ Y1) ++ x :: (X2 ++ (M ++ X1 ++ (y :: Y2 ++ T))) := by simp
      have e1 : (A ++ Y1) ++ x :: (X2 ++ (M ++ X1 ++ (y :: Y2 ++ T))) = ((A ++ Y1) ++ x :: (X2 ++ (M ++ X1))) ++ y :: (Y2 ++ T) := by simp
      have e2 : (A ++ Y1) ++ y :: (X2 ++ (M ++ X1 ++ (y :: Y2 ++ T))) = ((A ++ Y1) ++ y :: (X2 ++ (M ++ X1))) ++ y :: (Y2 ++ T) := by simp
      obtain ⟨q1, g1⟩ := cA_get (enc := enc) (P := A ++ Y1) (R := X2 ++ (M ++ X1 ++ (y :: Y2 ++ T))) (x := x) (k := a + Y1.length) rfl (by simp [ha])
      obtain ⟨q2, g2⟩ := cA_get (enc := enc) (P := (A ++ Y1) ++ x :: (X2 ++ (M ++ X1))) (R := Y2 ++ T) (x := y) (k := bb + Y1.length) e1 (by simp; omega)
      have s1 : (cA enc ((A ++ Y1) ++ x :: (X2 ++ (M ++ X1 ++ (y :: Y2 ++ T))))).set (a + Y1.length) (.c (enc y)) = cA enc ((A ++ Y1) ++ y :: (X2 ++ (M ++ X1 ++ (y :: Y2 ++ T)))) := cA_set (by simp [ha])
      have s2 : (cA enc ((A ++ Y1) ++ y :: (X2 ++ (M ++ X1 ++ (y :: Y2 ++ T))))).set (bb + Y1.length) (.c (enc x)) = cA enc ((A ++ Y1 ++ [y]) ++ (X2 ++ (M ++ (X1 ++ [x]) ++ (Y2 ++ T)))) := by
        rw [e2, cA_set (by simp; omega)]
        congr 1
        simp
      have m1 := hE.cells
      simp only [CV.cells] at m1
      have m2 := hE.flat
      have hD : (cA enc ((A ++ Y1) ++ x :: (X2 ++ (M ++ X1 ++ (y :: Y2 ++ T))))).length = n := by rw [cA_length]; simp; omega
      have hD2 : (cA enc ((A ++ Y1) ++ y :: (X2 ++ (M ++ X1 ++ (y :: Y2 ++ T))))).length = n := by rw [cA_length]; simp; omega
      have e3 : (A ++ (Y1 ++ [y]) ++ Y2) = A ++ Y1 ++ y :: Y2 := by simp
      have e4 : (M ++ (X1 ++ [x]) ++ (X2 ++ T)) = (M ++ X1 ++ (x :: X2 ++ T)) := by simp
      have e5 : (A ++ (Y1 ++ [y])) = A ++ Y1 ++ [y] := by simp
      rw [e3, e4, e5] at ih
      rw [e0, r175_l0]
      generalize cA enc ((A ++ Y1) ++ x :: (X2 ++ (M ++ X1 ++ (y :: Y2 ++ T)))) = D at *
      generalize cA enc ((A ++ Y1) ++ y :: (X2 ++ (M ++ X1 ++ (y :: Y2 ++ T)))) = D2 at *
      generalize cA enc ((A ++ Y1 ++ [y]) ++ (X2 ++ (M ++ (X1 ++ [x]) ++ (Y2 ++ T)))) = D3 at *
      generalize cA enc (A ++ Y1 ++ y :: Y2 ++ (M ++ X1 ++ (x :: X2 ++ T))) = D4 at *
      have g1 := List.getElem?_eq_some_iff.2 ⟨q1, g1⟩
      have g2 := List.getElem?_eq_some_iff.2 ⟨q2, g2⟩
      have k1 : a + Y1.length + 1 ≤ n := by omega
      have k2 : bb + Y1.length + 1 ≤ n := by omega
      have t1 : ((a : Int) + Y1.length).toNat = a + Y1.length := by omega
      have t2 : ((bb : Int) + Y1.length).toNat = bb + Y1.length := by omega
      have j1 : 0 ≤ (a : Int) + Y1.length := by omega
      have j2 : 0 ≤ (bb : Int) + Y1.length := by omega
      simp at i1 i2 w1 w2 ih
      simp [c175_l0b, hlt, w1, w2, w3, hb, i1, i2, g1, g2, s1, s2, hD, hD2, m1, m2, take_set, k1, k2, t1, t2, j1, j2, ih]
theorem S175 (hE : CellOk enc) (hb : b < H.length) (hg : g ≠ 0) (A X M Y T : List α) (F : CV) (n a bb len : Nat) (hn : n < 9223372036854775807) (ha : a = A.length) (h1 : len = X.length) (h2 : len = Y.length) (h3 : bb = A.length + X.length + M.length) (h4 : n = bb + Y.length + T.length) :
    sfn P 175 [.slice b g 0 n none cp, .c (ci a), .c (ci bb), .c (ci len), .c F] (H.set b (.cells g (cA enc (A ++ (X ++ (M ++ (Y ++ T))))) 0)) = some (.c (.tuple []), H.set b (.cells g (cA enc (A ++ (Y ++ (M ++ (X ++ T))))) 0)) := by
  have hL := L175 (P := P) (cp := cp) hE hb hg A M T F n a bb len hn ha X Y [] [] rfl (by omega) (by simpa using h1) (by omega) (by omega)
  simp at hL
  rw [u175]
  simp [c175, hL]
end LM.G6
namespace LM.G6
open Go LM
variable {P : Nat → Option SFunc} [Has P]
variable {α : Type} {enc : α → CV} {f : Nat} {B : List CV} {c : α → α → Int} {H : Heap} {b g : Nat} {cp : Option Nat}
theorem split_at {l : List α} {k : Nat} (h : k ≤ l.length) : ∃ x y, l = x ++ y ∧ x.length = k := ⟨l.take k, l.drop k, (List.take_append_drop k l).symm, by simp; omega⟩
theorem L172 (hE : CellOk enc) (hb : b < H.length) (hg : g ≠ 0) (F : CV) (n m : Nat) (hn : n < 4611686018427387904) : ∀ (k : Nat) (A U V T : List α), U.length + V.length ≤ k → U ≠ [] → V ≠ [] → m = A.length + U.length → n = A.length + U.length + V.length + T.length →
    ∃ A' U' V' T' : List α, U'.length = V'.length ∧ m = A'.length + U'.length ∧ A'.length + U'.length + V'.length + T'.length = n ∧ A' ++ (V' ++ (U' ++ T')) = A ++ (V ++ (U ++ T)) ∧
    execS P (limS P) c172_l0 ⟨[.slice b g 0 n none cp, .c (ci m), .c F, .c (ci U.length), .c (ci V.length)], H.set b (.cells g (cA enc (A ++ (U ++ (V ++ T)))) 0)⟩ =
      some (.exit 0, ⟨[.slice b g 0 n none cp, .c (ci m), .c F, .c (ci U'.length)], H.set b (.cells g (cA enc (A' ++ (U' ++ (V' ++ T')))) 0)⟩) := by
  intro k
  induction k with
  | zero =>
    intro A U V T h hU
    have : U = [] := List.eq_nil_of_length_eq_zero (by omega)
    exact absurd this hU
  | succ k ih =>
    intro A U V T h hU hV hm hl
    have uz : U.length ≠ 0 := fun q => hU (List.eq_nil_of_length_eq_zero q)
    have v0 : V.length ≠ 0 := fun q => hV (List.eq_nil_of_length_eq_zero q)
    have w1 : IntKind.i64.wrap ((m : Int) - U.length) = (m : Int) - U.length := wrap64 (by omega) (by omega)
    have e1 : ((m : Int) - U.length) = ((A.length : Nat) : Int) := by omega
    by_cases hlt : V.length < U.length
    · obtain ⟨U1, U2, rfl, hu⟩ := split_at (l := U) (k := V.length) (by omega)
      simp only [List.length_append] at *
      obtain ⟨A', U', V', T', h1, h2, h3, h4, h5⟩ := ih (A ++ V) U2 U1 T (by omega) (by intro q; subst q; simp at hlt; omega) (by intro q; subst q; simp at hu; omega) (by simp; omega) (by simp; omega)
      refine ⟨A', U', V', T', h1, h2, h3, by rw [h4]; simp, ?_⟩
      have hs := S175 (P := P) (cp := cp) hE hb hg A U1 U2 V T F n A.length m V.length (by omega) rfl hu.symm rfl (by omega) (by omega)
      have e2 : A ++ (U1 ++ U2 ++ (V ++ T)) = A ++ (U1 ++ (U2 ++ (V ++ T))) := by simp
      have e3 : A ++ V ++ (U2 ++ (U1 ++ T)) = A ++ (V ++ (U2 ++ (U1 ++ T))) := by simp
      rw [e3] at h5
      rw [hu] at h5
      have c1 : ((U1.length : Int) + U2.length ≠ V.length) := by omega
      have c2 : (V.length : Int) < (U1.length : Int) + U2.length := by omega
      have c3 : ¬ ((U1.length : Int) + U2.length = V.length) := by omega
      have w2 : IntKind.i64.wrap ((U1.length : Int) + U2.length - V.length) = U2.length := by
        rw [show ((U1.length : Int) + U2.length - V.length) = U2.length from by omega]; exact wrap64 (by omega) (by omega)
      simp at w1 e1
      rw [e1] at w1
      rw [e2, r172_l0]
      simp [c172_l0b, c1, c2, c3, w1, e1, w2, hs, hb, take_set, frzFuncs_nil, frzFuncs_c, frzFuncs_slice, h5]
    · by_cases he : U.length = V.length
      · refine ⟨A, U, V, T, he, hm, hl.symm, rfl, ?_⟩
        rw [r172_l0]
        simp [c172_l0b, he]
      · obtain ⟨V1, V2, rfl, hv⟩ := split_at (l := V) (k := V.length - U.length) (by omega)
        simp only [List.length_append] at *
        have z1 : V1.length ≠ 0 := by omega
        have z2 : V2.length ≠ 0 := by omega
        obtain ⟨A', U', V', T', h1, h2, h3, h4, h5⟩ := ih A V2 V1 (U ++ T) (by omega) (by intro q; rw [q] at z2; simp at z2) (by intro q; rw [q] at z1; simp at z1) (by omega) (by simp; omega)
        refine ⟨A', U', V', T', h1, h2, h3, by rw [h4]; simp, ?_⟩
        have hs := S175 (P := P) (cp := cp) hE hb hg A U V1 V2 T F n A.length (A.length + U.length + V1.length) U.length (by omega) rfl rfl (by omega) rfl (by omega)
        have e2 : A ++ (U ++ (V1 ++ V2 ++ T)) = A ++ (U ++ (V1 ++ (V2 ++ T))) := by simp
        rw [show V2.length = U.length from by omega] at h5
        have c1 : ((U.length : Int) ≠ (V1.length : Int) + V2.length) := by omega
        have c2 : ¬ (V1.length : Int) + V2.length < U.length := by omega
        have c3 : ¬ ((U.length : Int) = (V1.length : Int) + V2.length) := by omega
        have w2 : IntKind.i64.wrap ((V1.length : Int) + V2.length - U.length) = V1.length := by
          rw [show ((V1.length : Int) + V2.length - U.length) = V1.length from by omega]; exact wrap64 (by omega) (by omega)
        have w3 : IntKind.i64.wrap ((m : Int) + (V1.length + V2.length)) = (m : Int) + (V1.length + V2.length) := wrap64 (by omega) (by omega)
        have w4 : IntKind.i64.wrap ((m : Int) + (V1.length + V2.length) - U.length) = (m : Int) + (V1.length + V2.length) - U.length := wrap64 (by omega) (by omega)
        have e4 : (m : Int) + (V1.length + V2.length) - U.length = (A.length : Int) + U.length + V1.length := by omega
        simp at hs
        rw [e1] at w1
        rw [e4] at w4
        rw [e2, r172_l0]
        simp [c172_l0b, c1, c2, c3, w1, e1, w2, w3, w4, e4, hs, hb, take_set, frzFuncs_nil, frzFuncs_c, frzFuncs_slice, h5]
theorem S172 (hE : CellOk enc) (hb : b < H.length) (hg : g ≠ 0) (A U V T : List α) (F : CV) (n a m bb : Nat) (hn : n < 4611686018427387904) (hU : U ≠ []) (hV : V ≠ []) (h1 : a = A.length) (h2 : m = A.length + U.length) (h3 : bb = A.length + U.length + V.length) (h4 : n = A.length + U.length + V.length + T.length) :
    sfn P 172 [.slice b g 0 n none cp, .c (ci a), .c (ci m), .c (ci bb), .c F] (H.set b (.cells g (cA enc (A ++ (U ++ (V ++ T)))) 0)) = some (.c (.tuple []), H.set b (.cells g (cA enc (A ++ (V ++ (U ++ T)))) 0)) := by
  obtain ⟨A', U', V', T', k1, k2, k3, k4, k5⟩ := L172 (P := P) (cp := cp) hE hb hg F n m hn _ A U V T (Nat.le_refl _) hU hV h2 h4
  have w1 : IntKind.i64.wrap ((m : Int) - a) = U.length := by rw [show ((m : Int) - a) = U.length from by omega]; exact wrap64 (by omega) (by omega)
  have w2 : IntKind.i64.wrap ((bb : Int) - m) = V.length := by rw [show ((bb : Int) - m) = V.length from by omega]; exact wrap64 (by omega) (by omega)
  have w3 : IntKind.i64.wrap ((m : Int) - U'.length) = A'.length := by rw [show ((m : Int) - U'.length) = A'.length from by omega]; exact wrap64 (by omega) (by omega)
  have hs := S175 (P := P) (cp := cp) hE hb hg A' U' [] V' T' F n A'.length m U'.length (by omega) rfl rfl k1 (by simp; omega) (by omega)
  simp only [List.nil_append] at hs
  rw [k4] at hs
  rw [u172]
  simp [c172, w1, w2, w3, k5, hs, hb, take_set, frzFuncs_nil, frzFuncs_c, frzFuncs_slice]
end LM.G6
namespace LM.G6
open Go LM
variable {P : Nat → Option SFunc} [Has P]
variable {α : Type} {enc : α → CV} {f : Nat} {B : List CV} {c : α → α → Int} {H : Heap} {b g : Nat} {cp : Option Nat}
/-- A search by halves. -/
def bs (p : Nat → Bool) : Nat → Nat → Nat → Nat
  | 0, i, _ => i
  | k + 1, i, j => if i < j then if p ((i + j) / 2) then bs p k ((i + j) / 2 + 1) j else bs p k i ((i + j) / 2) else i
theorem bs_spec (p : Nat → Bool) (i0 j0 : Nat) : ∀ (k i j : Nat), j - i ≤ k → i ≤ j → (i = i0 ∨ p (i - 1) = true) → (j = j0 ∨ p j = false) → i ≤ bs p k i j ∧ bs p k i j ≤ j ∧ (bs p k i j = i0 ∨ p (bs p k i j - 1) = true) ∧ (bs p k i j = j0 ∨ p (bs p k i j) = false)
  | 0, i, j, h, h1, h2, h3 => by
    have : i = j := by omega
    subst this
    exact ⟨Nat.le_refl _, Nat.le_refl _, h2, h3⟩
  | k + 1, i, j, h, h1, h2, h3 => by
    rw [bs]
    split
    · rename_i hl
      split
      · rename_i hp
        obtain ⟨a1, a2, a3, a4⟩ := bs_spec p i0 j0 k ((i + j) / 2 + 1) j (by omega) (by omega) (.inr (by simpa using hp)) h3
        exact ⟨by omega, a2, a3, a4⟩
      · rename_i hp
        obtain ⟨a1, a2, a3, a4⟩ := bs_spec p i0 j0 k i ((i + j) / 2) (by omega) (by omega) h2 (.inr (by simpa using hp))
        exact ⟨a1, by omega, a3, a4⟩
    · have : i = j := by omega
      subst this
      exact ⟨Nat.le_refl _, Nat.le_refl _, h2, h3⟩
def sp0 (c : α → α → Int) (D : List α) (a : Nat) (h : Nat) : Bool := match D[h]?, D[a]? with
  | some x, some y => ltC c x y
  | _, _ => false
def sp2 (c : α → α → Int) (D : List α) (a : Nat) (h : Nat) : Bool := match D[h]?, D[a]? with
  | some x, some y => !ltC c y x
  | _, _ => false
def sp4 (c : α → α → Int) (D : List α) (p : Nat) (h : Nat) : Bool := match D[p - h]?, D[h]? with
  | some x, some y => !ltC c x y
  | _, _ => false
theorem half {i j : Nat} (h : i + j < 9223372036854775808) : IntKind.u64.wrap ((i : Int) + j) = ((i + j : Nat) : Int) ∧ IntKind.i64.wrap (((i + j) / 2 : Nat) : Int) = (((i + j) / 2 : Nat) : Int) := by
  refine ⟨?_, wrap64 (by omega) (by omega)⟩
  simp only [IntKind.wrap, IntKind.bits, IntKind.signed]
  simp
  omega
theorem shr1 (i j : Nat) : shiftInt .shr .u64 ((i : Int) + j) 1 = some (.int .u64 (((i + j) / 2 : Nat) : Int)) := by
  have e : Nat.min (1 : Int).toNat IntKind.u64.bits = 1 := by decide
  unfold shiftInt
  rw [if_neg (by decide)]
  simp only [e]
  congr 2
  rw [Int.fdiv_eq_ediv_of_nonneg _ (by decide), Int.natCast_ediv, Int.natCast_add]
  rfl
theorem cA_at {D : List α} {x : α} {k : Nat} (h : D[k]? = some x) : (cA enc D)[k]? = some (.c (enc x)) := by simp [cA, h]
theorem L168_0 (hC : CmpOk P enc f B c) (hb : b < H.length) (hg : g ≠ 0) (D : List α) (n a : Nat) (hD : D.length = n) (hn : n < 4611686018427387904) (ha : a < n) : ∀ (k i j : Nat), j ≤ n →
    j - i ≤ k → execS P (limS P) c168_l0 ⟨[.slice b g 0 n none cp, .c (ci a), .c (.func f [] B), .c (ci i), .c (ci j)], H.set b (.cells g (cA enc D) 0)⟩ =
      some (.exit 0, ⟨[.slice b g 0 n none cp, .c (ci a), .c (ci (bs (sp0 c D a) k i j))], H.set b (.cells g (cA enc D) 0)⟩) := by
  intro k
  induction k with
  | zero =>
    intro i j hj h
    have hlt : ¬ (i : Int) < j := by omega
    rw [r168_l0]
    simp [c168_l0b, hlt, bs]
  | succ k ih =>
    intro i j hj h
    by_cases hlt : i < j
    · have hl2 : (i : Int) < j := by omega
      obtain ⟨w1, w2⟩ := half (i := i) (j := j) (by omega)
      have w3 : IntKind.i64.wrap ((i : Int) + j) = ((i + j : Nat) : Int) := by rw [Int.natCast_add]; exact wrap64 (by omega) (by omega)
      have w4 : IntKind.i64.wrap ((((i + j) / 2 : Nat) : Int) + 1) = (((i + j) / 2 + 1 : Nat) : Int) := by rw [Int.natCast_add]; exact wrap64 (by omega) (by omega)
      obtain ⟨x, hx⟩ : ∃ x, D[(i + j) / 2]? = some x := ⟨_, List.getElem?_eq_getElem (by omega)⟩
      obtain ⟨y, hy⟩ : ∃ y, D[a]? = some y := ⟨_, List.getElem?_eq_getElem (by omega)⟩
      have g1 := cA_at (enc := enc) hx
      have g2 := cA_at (enc := enc) hy
      have i1 : (((i + j) / 2 : Nat) : Int) < n := by omega
      have i2 : (a : Int) < n := by omega
      have hc := fun pos q h => hC pos q x y h
      have hp : sp0 c D a ((i + j) / 2) = ltC c x y := by unfold sp0; rw [hx, hy]
      rw [r168_l0]
      simp only [bs, if_pos hlt, hp]
      have sh := shr1 i j
      have b1 : i ≤ (i + j) / 2 := by omega
      have b2 : (i + j) / 2 < j := by omega
      rw [Int.natCast_add] at w1 w3
      generalize (i + j) / 2 = q at *
      rw [Int.natCast_add] at w4
      generalize cA enc D = DD at *
      by_cases hk : c x y < 0
      · have hl : ltC c x y = true := decide_eq_true hk
        have ih := ih (q + 1) j hj (by omega)
        push_cast at ih
        simp [c168_l0b, hl2, w1, w2, w3, w4, sh, hb, g1, g2, i1, i2, hc, hk, hl, take_set, ih]
      · have hl : ltC c x y = false := decide_eq_false hk
        have ih := ih i q (by omega) (by omega)
        simp [c168_l0b, hl2, w1, w2, w3, w4, sh, hb, g1, g2, i1, i2, hc, hk, hl, take_set, ih]
    · have hl2 : ¬ (i : Int) < j := by omega
      rw [r168_l0]
      simp [c168_l0b, hl2, bs, hlt]
theorem L168_2 (hC : CmpOk P enc f B c) (hb : b < H.length) (hg : g ≠ 0) (D : List α) (n a : Nat) (hD : D.length = n) (hn : n < 4611686018427387904) (ha : a < n) : ∀ (k i j : Nat), j ≤ n →
    j - i ≤ k → execS P (limS P) c168_l2 ⟨[.slice b g 0 n none cp, .c (ci a), .c (.func f [] B), .c (ci i), .c (ci j)], H.set b (.cells g (cA enc D) 0)⟩ =
      some (.exit 4, ⟨[.slice b g 0 n none cp, .c (ci a), .c (ci (bs (sp2 c D a) k i j))], H.set b (.cells g (cA enc D) 0)⟩) := by
  intro k
  induction k with
  | zero =>
    intro i j hj h
    have hlt : ¬ (i : Int) < j := by omega
    rw [r168_l2]
    simp [c168_l2b, hlt, bs]
  | succ k ih =>
    intro i j hj h
    by_cases hlt : i < j
    · have hl2 : (i : Int) < j := by omega
      obtain ⟨w1, w2⟩ := half (i := i) (j := j) (by omega)
      have w3 : IntKind.i64.wrap ((i : Int) + j) = ((i + j : Nat) : Int) := by rw [Int.natCast_add]; exact wrap64 (by omega) (by omega)
      have w4 : IntKind.i64.wrap ((((i + j) / 2 : Nat) : Int) + 1) = (((i + j) / 2 + 1 : Nat) : Int) := by rw [Int.natCast_add]; exact wrap64 (by omega) (by omega)
      obtain ⟨x, hx⟩ : ∃ x, D[(i + j) / 2]? = some x := ⟨_, List.getElem?_eq_getElem (by omega)⟩
      obtain ⟨y, hy⟩ : ∃ y, D[a]? = some y := ⟨_, List.getElem?_eq_getElem (by omega)⟩
      have g1 := cA_at (enc := enc) hx
      have g2 := cA_at (enc := enc) hy
      have i1 : (((i + j) / 2 : Nat) : Int) < n := by omega
      have i2 : (a : Int) < n := by omega
      have hc := fun pos q h => hC pos q y x h
      have hp : sp2 c D a ((i + j) / 2) = !ltC c y x := by unfold sp2; rw [hx, hy]
      rw [r168_l2]
      simp only [bs, if_pos hlt, hp]
      have sh := shr1 i j
      have b1 : i ≤ (i + j) / 2 := by omega
      have b2 : (i + j) / 2 < j := by omega
      rw [Int.natCast_add] at w1 w3
      generalize (i + j) / 2 = q at *
      rw [Int.natCast_add] at w4
      generalize cA enc D = DD at *
      by_cases hk : ¬ c y x < 0
      · have hl : ltC c y x = false := decide_eq_false hk
        have ih := ih (q + 1) j hj (by omega)
        push_cast at ih
        simp [c168_l2b, hl2, w1, w2, w3, w4, sh, hb, g1, g2, i1, i2, hc, hk, hl, take_set, ih]
      · have hk : c y x < 0 := by omega
        have hl : ltC c y x = true := decide_eq_true hk
        have ih := ih i q (by omega) (by omega)
        simp [c168_l2b, hl2, w1, w2, w3, w4, sh, hb, g1, g2, i1, i2, hc, hk, hl, take_set, ih]
    · have hl2 : ¬ (i : Int) < j := by omega
      rw [r168_l2]
      simp [c168_l2b, hl2, bs, hlt]
theorem L168_4 (hC : CmpOk P enc f B c) (hb : b < H.length) (hg : g ≠ 0) (D : List α) (n p : Nat) (v1 v2 v3 v4 v5 : CV) (hD : D.length = n) (hn : n < 4611686018427387904) (hp : p < 9223372036854775807) : ∀ (k i j : Nat), j ≤ n → j ≤ p + 1 → p < n + i →
    j - i ≤ k → execS P (limS P) c168_l4 ⟨[.slice b g 0 n none cp, .c v1, .c v2, .c v3, .c (.func f [] B), .c v4, .c v5, .c (ci i), .c (ci j), .c (ci p)], H.set b (.cells g (cA enc D) 0)⟩ =
      some (.exit 8, ⟨[.slice b g 0 n none cp, .c v1, .c v2, .c v3, .c (.func f [] B), .c v4, .c v5, .c (ci (bs (sp4 c D p) k i j))], H.set b (.cells g (cA enc D) 0)⟩) := by
  intro k
  induction k with
  | zero =>
    intro i j hj hj2 hpi h
    have hlt : ¬ (i : Int) < j := by omega
    rw [r168_l4]
    simp [c168_l4b, hlt, bs]
  | succ k ih =>
    intro i j hj hj2 hpi h
    by_cases hlt : i < j
    · have hl2 : (i : Int) < j := by omega
      obtain ⟨w1, w2⟩ := half (i := i) (j := j) (by omega)
      have w3 : IntKind.i64.wrap ((i : Int) + j) = ((i + j : Nat) : Int) := by rw [Int.natCast_add]; exact wrap64 (by omega) (by omega)
      have w4 : IntKind.i64.wrap ((((i + j) / 2 : Nat) : Int) + 1) = (((i + j) / 2 + 1 : Nat) : Int) := by rw [Int.natCast_add]; exact wrap64 (by omega) (by omega)
      have w5 : IntKind.i64.wrap ((p : Int) - ((i + j) / 2 : Nat)) = ((p - (i + j) / 2 : Nat) : Int) := by rw [Int.ofNat_sub (by omega)]; exact wrap64 (by omega) (by omega)
      obtain ⟨x, hx⟩ : ∃ x, D[p - (i + j) / 2]? = some x := ⟨_, List.getElem?_eq_getElem (by omega)⟩
      obtain ⟨y, hy⟩ : ∃ y, D[(i + j) / 2]? = some y := ⟨_, List.getElem?_eq_getElem (by omega)⟩
      have g1 := cA_at (enc := enc) hx
      have g2 := cA_at (enc := enc) hy
      have i1 : (((i + j) / 2 : Nat) : Int) < n := by omega
      have i2 : ((p - (i + j) / 2 : Nat) : Int) < n := by omega
      have hc := fun pos q h => hC pos q x y h
      have hp4 : sp4 c D p ((i + j) / 2) = !ltC c x y := by unfold sp4; rw [hx, hy]
      rw [r168_l4]
      simp only [bs, if_pos hlt, hp4]
      have sh := shr1 i j
      have b1 : i ≤ (i + j) / 2 := by omega
      have b2 : (i + j) / 2 < j := by omega
      rw [Int.natCast_add] at w1 w3
      generalize (i + j) / 2 = q at *
      rw [Int.natCast_add] at w4
      generalize p - q = pq at *
      generalize cA enc D = DD at *
      by_cases hk : c x y < 0
      · have hl : ltC c x y = true := decide_eq_true hk
        have ih := ih i q (by omega) (by omega) (by omega) (by omega)
        simp [c168_l4b, hl2, w1, w2, w3, w4, w5, sh, hb, g1, g2, i1, i2, hc, hk, hl, take_set, ih]
      · have hl : ltC c x y = false := decide_eq_false hk
        have ih := ih (q + 1) j hj hj2 (by omega) (by omega)
        push_cast at ih
        simp [c168_l4b, hl2, w1, w2, w3, w4, w5, sh, hb, g1, g2, i1, i2, hc, hk, hl, take_set, ih]
    · have hl2 : ¬ (i : Int) < j := by omega
      rw [r168_l4]
      simp [c168_l4b, hl2, bs, hlt]
theorem L168_1 (hE : CellOk enc) (hb : b < H.length) (hg : g ≠ 0) (T : List α) (u : α) (n i : Nat) (hn : n < 4611686018427387904) : ∀ (V A : List α), i = A.length + 1 + V.length → n = i + T.length →
    execS P (limS P) c168_l1 ⟨[.slice b g 0 n none cp, .c (ci i), .c (ci A.length)], H.set b (.cells g (cA enc (A ++ u :: (V ++ T))) 0)⟩ = some (.exit 2, ⟨[], H.set b (.cells g (cA enc (A ++ (V ++ u :: T))) 0)⟩) := by
  intro V
  induction V with
  | nil =>
    intro A h1 h2
    have w1 : IntKind.i64.wrap ((i : Int) - 1) = A.length := by rw [show ((i : Int) - 1) = A.length from by simp at h1; omega]; exact wrap64 (by omega) (by omega)
    rw [r168_l1]
    simp [c168_l1b, w1]
  | cons v V ih =>
    intro A h1 h2
    have ih := ih (A ++ [v]) (by simp at h1 ⊢; omega) h2
    simp at h1
    have w1 : IntKind.i64.wrap ((i : Int) - 1) = (i : Int) - 1 := wrap64 (by omega) (by omega)
    have w2 : IntKind.i64.wrap ((A.length : Int) + 1) = (A.length : Int) + 1 := wrap64 (by omega) (by omega)
    have c1 : (A.length : Int) < (i : Int) - 1 := by omega
    have i1 : (A.length : Int) < n := by omega
    have i2 : (A.length : Int) + 1 < n := by omega
    have j2 : 0 ≤ (A.length : Int) + 1 := by omega
    have t2 : ((A.length : Int) + 1).toNat = A.length + 1 := by omega
    have e0 : A ++ u :: (v :: V ++ T) = A ++ u :: (v :: (V ++ T)) := rfl
    have e1 : A ++ u :: (v :: (V ++ T)) = (A ++ [u]) ++ v :: (V ++ T) := by simp
    have e3 : A ++ v :: (v :: (V ++ T)) = (A ++ [v]) ++ v :: (V ++ T) := by simp
    obtain ⟨q1, g1⟩ := cA_get (enc := enc) (l := A ++ u :: (v :: (V ++ T))) (k := A.length) rfl rfl
    obtain ⟨q2, g2⟩ := cA_get (enc := enc) (l := A ++ u :: (v :: (V ++ T))) (k := A.length + 1) e1 (by simp)
    have g1 := List.getElem?_eq_some_iff.2 ⟨q1, g1⟩
    have g2 := List.getElem?_eq_some_iff.2 ⟨q2, g2⟩
    have s1 : (cA enc (A ++ u :: (v :: (V ++ T)))).set A.length (.c (enc v)) = cA enc (A ++ v :: (v :: (V ++ T))) := cA_set rfl
    have s2 : (cA enc (A ++ v :: (v :: (V ++ T)))).set (A.length + 1) (.c (enc u)) = cA enc ((A ++ [v]) ++ u :: (V ++ T)) := by rw [e3]; exact cA_set (by simp)
    have l1 : (cA enc (A ++ u :: (v :: (V ++ T)))).length = n := by rw [cA_length]; simp; omega
    have l2 : (cA enc (A ++ v :: (v :: (V ++ T)))).length = n := by rw [cA_length]; simp; omega
    have e4 : A ++ (v :: V ++ u :: T) = A ++ [v] ++ (V ++ u :: T) := by simp
    have m1 := hE.cells
    simp only [CV.cells] at m1
    have m2 := hE.flat
    have k1 : A.length + 1 ≤ n := by omega
    have k2 : A.length + 1 + 1 ≤ n := by omega
    rw [e0, e4, r168_l1]
    generalize cA enc (A ++ u :: (v :: (V ++ T))) = D1 at *
    generalize cA enc (A ++ v :: (v :: (V ++ T))) = D2 at *
    generalize cA enc ((A ++ [v]) ++ u :: (V ++ T)) = D3 at *
    generalize cA enc ((A ++ [v]) ++ (V ++ u :: T)) = D4 at *
    simp at ih
    simp [c168_l1b, w1, w2, c1, i1, i2, j2, t2, g1, g2, s1, s2, l1, l2, m1, m2, hb, k1, k2, take_set, ih]
theorem L168_3 (hE : CellOk enc) (hb : b < H.length) (hg : g ≠ 0) (A : List α) (v : α) (n : Nat) (hn : n < 4611686018427387904) : ∀ (L Q : List α), n = A.length + L.length + 1 + Q.length →
    execS P (limS P) c168_l3 ⟨[.slice b g 0 n none cp, .c (ci A.length), .c (ci (A.length + L.length))], H.set b (.cells g (cA enc (A ++ L.reverse ++ v :: Q)) 0)⟩ = some (.exit 6, ⟨[], H.set b (.cells g (cA enc (A ++ v :: (L.reverse ++ Q))) 0)⟩) := by
  intro L
  induction L with
  | nil =>
    intro Q h
    rw [r168_l3]
    simp [c168_l3b]
  | cons u L ih =>
    intro Q h
    have ih := ih (u :: Q) (by simp at h ⊢; omega)
    simp at h
    have w1 : IntKind.i64.wrap ((A.length : Int) + (L.length + 1) - 1) = (A.length : Int) + L.length := by
      rw [show (A.length : Int) + (L.length + 1) - 1 = (A.length : Int) + L.length from by omega]; exact wrap64 (by omega) (by omega)
    have c1 : (A.length : Int) < (A.length : Int) + (L.length + 1) := by omega
    have i1 : (A.length : Int) + L.length < n := by omega
    have i2 : (A.length : Int) + (L.length + 1) < n := by omega
    have j1 : 0 ≤ (A.length : Int) + L.length := by omega
    have j2 : 0 ≤ (A.length : Int) + (L.length + 1) := by omega
    have t1 : ((A.length : Int) + L.length).toNat = A.length + L.length := by omega
    have t2 : ((A.length : Int) + (L.length + 1)).toNat = A.length + (L.length + 1) := by omega
    have e0 : A ++ (u :: L).reverse ++ v :: Q = (A ++ L.reverse) ++ u :: (v :: Q) := by simp
    have e1 : (A ++ L.reverse) ++ u :: (v :: Q) = (A ++ L.reverse ++ [u]) ++ v :: Q := by simp
    have e2 : (A ++ L.reverse) ++ u :: (u :: Q) = (A ++ L.reverse ++ [u]) ++ u :: Q := by simp
    have e4 : A ++ v :: ((u :: L).reverse ++ Q) = A ++ v :: (L.reverse ++ u :: Q) := by simp
    obtain ⟨q1, g1⟩ := cA_get (enc := enc) (l := (A ++ L.reverse) ++ u :: (v :: Q)) (k := A.length + L.length) rfl (by simp)
    obtain ⟨q2, g2⟩ := cA_get (enc := enc) (l := (A ++ L.reverse) ++ u :: (v :: Q)) (k := A.length + (L.length + 1)) e1 (by simp)
    have g1 := List.getElem?_eq_some_iff.2 ⟨q1, g1⟩
    have g2 := List.getElem?_eq_some_iff.2 ⟨q2, g2⟩
    have s1 : (cA enc ((A ++ L.reverse) ++ u :: (v :: Q))).set (A.length + (L.length + 1)) (.c (enc u)) = cA enc ((A ++ L.reverse) ++ u :: (u :: Q)) := by rw [e1, cA_set (by simp), e2]
    have s2 : (cA enc ((A ++ L.reverse) ++ u :: (u :: Q))).set (A.length + L.length) (.c (enc v)) = cA enc ((A ++ L.reverse) ++ v :: (u :: Q)) := cA_set (by simp)
    have l1 : (cA enc ((A ++ L.reverse) ++ u :: (v :: Q))).length = n := by rw [cA_length]; simp; omega
    have l2 : (cA enc ((A ++ L.reverse) ++ u :: (u :: Q))).length = n := by rw [cA_length]; simp; omega
    have m1 := hE.cells
    simp only [CV.cells] at m1
    have m2 := hE.flat
    have k1 : A.length + L.length + 1 ≤ n := by omega
    have k2 : A.length + (L.length + 1) + 1 ≤ n := by omega
    rw [e0, e4, r168_l3]
    generalize cA enc ((A ++ L.reverse) ++ u :: (v :: Q)) = D1 at *
    generalize cA enc ((A ++ L.reverse) ++ u :: (u :: Q)) = D2 at *
    generalize cA enc ((A ++ L.reverse) ++ v :: (u :: Q)) = D3 at *
    generalize cA enc (A ++ v :: (L.reverse ++ u :: Q)) = D4 at *
    simp [c168_l3b, w1, c1, i1, i2, j1, j2, t1, t2, g1, g2, s1, s2, l1, l2, m1, m2, hb, k1, k2, take_set, ih]
end LM.G6
namespace LM.G6
open Go LM
variable {P : Nat → Option SFunc} [Has P]
variable {α : Type} {enc : α → CV} {f : Nat} {B : List CV} {c : α → α → Int} {H : Heap} {b g : Nat} {cp : Option Nat}
theorem get_at {l P R : List α} {x : α} {k : Nat} (hl : l = P ++ x :: R) (h : k = P.length) : l[k]? = some x := by
  subst hl
  subst h
  simp
theorem last_of {l : List α} (h : l ≠ []) : ∃ p x, l = p ++ [x] := ⟨l.dropLast, l.getLast h, (List.dropLast_concat_getLast h).symm⟩
/-- All of the first list's end are greater than the second one's beginning. -/
theorem cut_lt {lt : α → α → Bool} (h : Swo lt) {V1 U2 : List α} (hv : Srt lt V1) (hu : Srt lt U2) (hb : V1 = [] ∨ U2 = [] ∨ ∃ V y x U, V1 = V ++ [y] ∧ U2 = x :: U ∧ lt y x = true) : ∀ v ∈ V1, ∀ u ∈ U2, lt v u = true := by
  rcases hb with rfl | rfl | ⟨V, y, x, U, rfl, rfl, hyx⟩
  · simp
  · simp
  · intro v hv1 u hu1
    have h1 : lt v x = true := by
      rcases List.mem_append.1 hv1 with q | q
      · exact h.lel ((List.pairwise_append.1 hv).2.2 v q y (by simp)) hyx
      · simp at q; rw [q]; exact hyx
    rcases List.mem_cons.1 hu1 with rfl | q
    · exact h1
    · exact h.ltle h1 ((List.pairwise_cons.1 hu).1 u q)
theorem cut_ge {lt : α → α → Bool} (h : Swo lt) {U1 V2 : List α} (hu : Srt lt U1) (hv : Srt lt V2) (hb : U1 = [] ∨ V2 = [] ∨ ∃ U x y V, U1 = U ++ [x] ∧ V2 = y :: V ∧ lt y x = false) : ∀ u ∈ U1, ∀ v ∈ V2, lt v u = false := by
  rcases hb with rfl | rfl | ⟨U, x, y, V, rfl, rfl, hyx⟩
  · simp
  · simp
  · intro u hu1 v hv1
    have h1 : lt v x = false := by
      rcases List.mem_cons.1 hv1 with rfl | q
      · exact hyx
      · exact h.lele hyx ((List.pairwise_cons.1 hv).1 v q)
    rcases List.mem_append.1 hu1 with q | q
    · exact h.lele ((List.pairwise_append.1 hu).2.2 u q x (by simp)) h1
    · simp at q; rw [q]; exact h1
theorem R168 (hE : CellOk enc) (hb : b < H.length) (hg : g ≠ 0) (A U1 U2 V1 V2 T : List α) (F : CV) (n a m bb mid s e : Nat) (hn : n < 4611686018427387904) (hl : n = A.length + U1.length + U2.length + V1.length + V2.length + T.length) (ha : a = A.length) (hs : s = A.length + U1.length) (hm : m = s + U2.length) (he : e = m + V1.length) :
    execS P (limS P) c168_n40 ⟨[.slice b g 0 n none cp, .c (ci a), .c (ci m), .c (ci bb), .c F, .c (ci mid), .c (ci s), .c (ci e)], H.set b (.cells g (cA enc ((A ++ U1) ++ (U2 ++ (V1 ++ (V2 ++ T))))) 0)⟩ =
      some (.normal, ⟨[.slice b g 0 n none cp, .c (ci a), .c (ci bb), .c F, .c (ci mid), .c (ci s), .c (ci e)], H.set b (.cells g (cA enc ((A ++ U1) ++ (V1 ++ (U2 ++ (V2 ++ T))))) 0)⟩) := by
  by_cases h1 : U2 = []
  · subst h1
    have c1 : ¬ (s : Int) < m := by simp at hm; omega
    simp [c1]
  · by_cases h2 : V1 = []
    · subst h2
      have c2 : ¬ (m : Int) < e := by simp at he; omega
      by_cases c1 : (s : Int) < m <;> simp [c1, c2]
    · have z1 : U2.length ≠ 0 := fun q => h1 (List.eq_nil_of_length_eq_zero q)
      have z2 : V1.length ≠ 0 := fun q => h2 (List.eq_nil_of_length_eq_zero q)
      have hr := S172 (P := P) (cp := cp) hE hb hg (A ++ U1) U2 V1 (V2 ++ T) F n s m e hn h1 h2 (by simp; omega) (by simp; omega) (by simp; omega) (by simp; omega)
      have c1 : (s : Int) < m := by omega
      have c2 : (m : Int) < e := by omega
      simp only [List.append_assoc] at hr ⊢
      simp [c1, c2, hr, frzFuncs_nil, frzFuncs_c, frzFuncs_slice]
/-- What a merge of two parts does. -/
def Merges (P : Nat → Option SFunc) (enc : α → CV) (f : Nat) (B : List CV) (c : α → α → Int) (H : Heap) (b g : Nat) (cp : Option Nat) (n : Nat) (k : Nat) : Prop :=
  ∀ (A U V T : List α) (a m bb : Nat), U.length + V.length ≤ k → U ≠ [] → V ≠ [] → Srt (ltC c) U → Srt (ltC c) V → a = A.length → m = a + U.length → bb = m + V.length → n = bb + T.length →
    sfn P 168 [.slice b g 0 n none cp, .c (ci a), .c (ci m), .c (ci bb), .c (.func f [] B)] (H.set b (.cells g (cA enc (A ++ (U ++ (V ++ T)))) 0)) = some (.c (.tuple []), H.set b (.cells g (cA enc (A ++ (mrg (ltC c) U V ++ T))) 0))
theorem M168a {k n : Nat} (hM : Merges P enc f B c H b g cp n k) (A U1 V1 T : List α) (a bb mid s e : Nat) (hk : U1.length + V1.length ≤ k) (hu : Srt (ltC c) U1) (hv : Srt (ltC c) V1) (ha : a = A.length) (hs : s = a + U1.length) (hm : mid = s + V1.length) (hn : n = mid + T.length) :
    execS P (limS P) c168_n42 ⟨[.slice b g 0 n none cp, .c (ci a), .c (ci bb), .c (.func f [] B), .c (ci mid), .c (ci s), .c (ci e)], H.set b (.cells g (cA enc (A ++ (U1 ++ (V1 ++ T)))) 0)⟩ =
      some (.normal, ⟨[.slice b g 0 n none cp, .c (ci bb), .c (.func f [] B), .c (ci mid), .c (ci e)], H.set b (.cells g (cA enc (A ++ (mrg (ltC c) U1 V1 ++ T))) 0)⟩) := by
  by_cases h1 : U1 = []
  · subst h1
    have c1 : ¬ (a : Int) < s := by simp at hs; omega
    simp [c1]
  · by_cases h2 : V1 = []
    · subst h2
      have c2 : ¬ (s : Int) < mid := by simp at hm; omega
      by_cases c1 : (a : Int) < s <;> simp [c1, c2]
    · have z1 : U1.length ≠ 0 := fun q => h1 (List.eq_nil_of_length_eq_zero q)
      have z2 : V1.length ≠ 0 := fun q => h2 (List.eq_nil_of_length_eq_zero q)
      have hr := hM A U1 V1 T a s mid hk h1 h2 hu hv ha hs hm hn
      have c1 : (a : Int) < s := by omega
      have c2 : (s : Int) < mid := by omega
      simp [c1, c2, hr, frzFuncs_nil, frzFuncs_c, frzFuncs_slice]
end LM.G6
namespace LM.G6
open Go LM
variable {P : Nat → Option SFunc} [Has P]
variable {α : Type} {enc : α → CV} {f : Nat} {B : List CV} {c : α → α → Int} {H : Heap} {b g : Nat} {cp : Option Nat}
theorem one168 (hE : CellOk enc) (hS : Swo (ltC c)) (hC : CmpOk P enc f B c) (hb : b < H.length) (hg : g ≠ 0) (A : List α) (u : α) (V T : List α) (n a m bb : Nat) (hn : n < 4611686018427387904) (hv : Srt (ltC c) V) (ha : a = A.length) (hm : m = a + 1) (hbb : bb = m + V.length) (hl : n = bb + T.length) :
    sfn P 168 [.slice b g 0 n none cp, .c (ci a), .c (ci m), .c (ci bb), .c (.func f [] B)] (H.set b (.cells g (cA enc (A ++ ([u] ++ (V ++ T)))) 0)) = some (.c (.tuple []), H.set b (.cells g (cA enc (A ++ (mrg (ltC c) [u] V ++ T))) 0)) := by
  have h0 := L168_0 (P := P) (cp := cp) (enc := enc) hC hb hg (A ++ ([u] ++ (V ++ T))) n a (by simp; omega) hn (by omega) (bb - m) m bb (by omega) (by omega)
  have hspec := bs_spec (sp0 c (A ++ ([u] ++ (V ++ T))) a) m bb (bb - m) m bb (Nat.le_refl _) (by omega) (.inl rfl) (.inl rfl)
  generalize bs (sp0 c (A ++ ([u] ++ (V ++ T))) a) (bb - m) m bb = s at *
  obtain ⟨b1, b2, b3, b4⟩ := hspec
  obtain ⟨V1, V2, rfl, hV1⟩ := split_at (l := V) (k := s - m) (by omega)
  have hv' := List.pairwise_append.1 hv
  have eD : A ++ ([u] ++ ((V1 ++ V2) ++ T)) = (A ++ u :: V1) ++ (V2 ++ T) := by simp
  have ga : (A ++ ([u] ++ ((V1 ++ V2) ++ T)))[a]? = some u := get_at (P := A) (R := V1 ++ V2 ++ T) (by simp) ha
  have q1 : ∀ v ∈ V1, ∀ w ∈ [u], ltC c v w = true := by
    refine cut_lt hS hv'.1 (by simp [Srt]) ?_
    by_cases z : V1 = []
    · exact .inl z
    · obtain ⟨W, w, rfl⟩ := last_of z
      refine .inr (.inr ⟨W, w, u, [], rfl, rfl, ?_⟩)
      have hW : s - 1 = (A ++ u :: W).length := by simp at hV1 ⊢; omega
      have gw : (A ++ ([u] ++ ((W ++ [w] ++ V2) ++ T)))[s - 1]? = some w := get_at (P := A ++ u :: W) (R := V2 ++ T) (by simp) hW
      rcases b3 with b3 | b3
      · simp at hV1; omega
      · unfold sp0 at b3
        rw [gw, ga] at b3
        exact b3
  have q2 : ∀ w ∈ [u], ∀ v ∈ V2, ltC c v w = false := by
    refine cut_ge hS (by simp [Srt]) hv'.2.1 ?_
    cases V2 with
    | nil => exact .inr (.inl rfl)
    | cons y V2 =>
      refine .inr (.inr ⟨[], u, y, V2, rfl, rfl, ?_⟩)
      have gw : (A ++ ([u] ++ ((V1 ++ y :: V2) ++ T)))[s]? = some y := get_at (P := A ++ u :: V1) (R := V2 ++ T) (by simp) (by simp; omega)
      rcases b4 with b4 | b4
      · simp at hbb hV1; omega
      · unfold sp0 at b4
        rw [gw, ga] at b4
        exact b4
  have hmr : mrg (ltC c) [u] (V1 ++ V2) = V1 ++ u :: V2 := by
    have h1 := mrg_split (lt := ltC c) [] V1 [u] V2 q1 (by simp)
    have h2 := mrg_before (lt := ltC c) (U := [u]) (V := V2) q2
    rw [h2] at h1
    simpa using h1
  have h1 := L168_1 (P := P) (cp := cp) hE hb hg (V2 ++ T) u n s hn V1 A (by omega) (by simp at hbb ⊢; omega)
  have w1 : IntKind.i64.wrap ((m : Int) - a) = 1 := by rw [show ((m : Int) - a) = 1 from by omega]; rfl
  have e1 : A ++ u :: (V1 ++ (V2 ++ T)) = A ++ ([u] ++ ((V1 ++ V2) ++ T)) := by simp
  have e2 : A ++ (V1 ++ u :: (V2 ++ T)) = A ++ ((V1 ++ u :: V2) ++ T) := by simp
  rw [e1, e2, ← ha] at h1
  rw [hmr, u168]
  generalize cA enc (A ++ ([u] ++ ((V1 ++ V2) ++ T))) = D at *
  generalize cA enc (A ++ ((V1 ++ u :: V2) ++ T)) = D' at *
  simp [c168, c168_n20, w1, h0, h1]
theorem last168 (hE : CellOk enc) (hS : Swo (ltC c)) (hC : CmpOk P enc f B c) (hb : b < H.length) (hg : g ≠ 0) (A U : List α) (v : α) (T : List α) (n a m bb : Nat) (hn : n < 4611686018427387904) (hu : Srt (ltC c) U) (hU : U.length ≠ 1) (ha : a = A.length) (hm : m = a + U.length) (hbb : bb = m + 1) (hl : n = bb + T.length) :
    sfn P 168 [.slice b g 0 n none cp, .c (ci a), .c (ci m), .c (ci bb), .c (.func f [] B)] (H.set b (.cells g (cA enc (A ++ (U ++ ([v] ++ T)))) 0)) = some (.c (.tuple []), H.set b (.cells g (cA enc (A ++ (mrg (ltC c) U [v] ++ T))) 0)) := by
  have h0 := L168_2 (P := P) (cp := cp) (enc := enc) hC hb hg (A ++ (U ++ ([v] ++ T))) n m (by simp; omega) hn (by omega) (m - a) a m (by omega) (by omega)
  have hspec := bs_spec (sp2 c (A ++ (U ++ ([v] ++ T))) m) a m (m - a) a m (Nat.le_refl _) (by omega) (.inl rfl) (.inl rfl)
  generalize bs (sp2 c (A ++ (U ++ ([v] ++ T))) m) (m - a) a m = s at *
  obtain ⟨b1, b2, b3, b4⟩ := hspec
  obtain ⟨U1, U2, rfl, hU1⟩ := split_at (l := U) (k := s - a) (by omega)
  have hu' := List.pairwise_append.1 hu
  simp only [List.length_append] at hU hm
  have gm : (A ++ ((U1 ++ U2) ++ ([v] ++ T)))[m]? = some v := get_at (P := A ++ (U1 ++ U2)) (R := T) (by simp) (by simp; omega)
  have q1 : ∀ w ∈ [v], ∀ u ∈ U2, ltC c w u = true := by
    refine cut_lt hS (by simp [Srt]) hu'.2.1 ?_
    cases U2 with
    | nil => exact .inr (.inl rfl)
    | cons x U2 =>
      refine .inr (.inr ⟨[], v, x, U2, rfl, rfl, ?_⟩)
      have gw : (A ++ ((U1 ++ x :: U2) ++ ([v] ++ T)))[s]? = some x := get_at (P := A ++ U1) (R := U2 ++ ([v] ++ T)) (by simp) (by simp; omega)
      rcases b4 with b4 | b4
      · simp at hm; omega
      · unfold sp2 at b4
        rw [gw, gm] at b4
        simpa using b4
  have q2 : ∀ u ∈ U1, ∀ w ∈ [v], ltC c w u = false := by
    refine cut_ge hS hu'.1 (by simp [Srt]) ?_
    by_cases z : U1 = []
    · exact .inl z
    · obtain ⟨W, w, rfl⟩ := last_of z
      refine .inr (.inr ⟨W, w, v, [], rfl, rfl, ?_⟩)
      have hW : s - 1 = (A ++ W).length := by simp at hU1 ⊢; omega
      have gw : (A ++ ((W ++ [w] ++ U2) ++ ([v] ++ T)))[s - 1]? = some w := get_at (P := A ++ W) (R := U2 ++ ([v] ++ T)) (by simp) hW
      rcases b3 with b3 | b3
      · simp at hU1; omega
      · unfold sp2 at b3
        rw [gw, gm] at b3
        simpa using b3
  have hmr : mrg (ltC c) (U1 ++ U2) [v] = U1 ++ v :: U2 := by
    have h1 := mrg_split (lt := ltC c) U1 [] U2 [v] (by simp) q2
    have h2 := mrg_behind (lt := ltC c) (U := U2) (V := [v]) q1
    rw [h2] at h1
    simpa using h1
  have h1 := L168_3 (P := P) (cp := cp) hE hb hg (A ++ U1) v n hn U2.reverse T (by simp; omega)
  have w1 : IntKind.i64.wrap ((m : Int) - a) = (m : Int) - a := wrap64 (by omega) (by omega)
  have n1 : ¬ ((m : Int) - a = 1) := by omega
  have w2 : IntKind.i64.wrap ((bb : Int) - m) = 1 := by rw [show ((bb : Int) - m) = 1 from by omega]; rfl
  have e1 : A ++ U1 ++ U2.reverse.reverse ++ v :: T = A ++ ((U1 ++ U2) ++ ([v] ++ T)) := by simp
  have e2 : A ++ U1 ++ v :: (U2.reverse.reverse ++ T) = A ++ ((U1 ++ v :: U2) ++ T) := by simp
  have e3 : (A ++ U1).length = s := by simp; omega
  have e4 : (s : Int) + U2.length = m := by omega
  rw [e1, e2, e3, List.length_reverse, e4] at h1
  rw [hmr, u168]
  generalize cA enc (A ++ ((U1 ++ U2) ++ ([v] ++ T))) = D at *
  generalize cA enc (A ++ ((U1 ++ v :: U2) ++ T)) = D' at *
  simp [c168, c168_n20, c168_n22, w1, w2, n1, h0, h1]
end LM.G6
namespace LM.G6
open Go LM
variable {P : Nat → Option SFunc} [Has P]
variable {α : Type} {enc : α → CV} {f : Nat} {B : List CV} {c : α → α → Int} {H : Heap} {b g : Nat} {cp : Option Nat}
theorem ar168 {a m bb mid s e : Nat} (hmid : mid = (a + bb) / 2) (h1 : a + 2 ≤ m) (h2 : m + 2 ≤ bb) (h3 : bb < 4611686018427387904) (h4 : s ≤ mid + m) (he : e = mid + m - s) :
    IntKind.i64.wrap ((m : Int) - a) = (m : Int) - a ∧ ¬ ((m : Int) - a = 1) ∧ IntKind.i64.wrap ((bb : Int) - m) = (bb : Int) - m ∧ ¬ ((bb : Int) - m = 1) ∧ IntKind.u64.wrap ((a : Int) + bb) = (a : Int) + bb ∧ IntKind.i64.wrap (mid : Int) = mid ∧ IntKind.i64.wrap ((a : Int) + bb) = (a : Int) + bb ∧
    IntKind.i64.wrap ((mid : Int) + m) = (mid : Int) + m ∧ IntKind.i64.wrap ((mid : Int) + m - 1) = ((mid + m - 1 : Nat) : Int) ∧ IntKind.i64.wrap ((mid : Int) + m - s) = e ∧ IntKind.i64.wrap ((mid : Int) + m - bb) = (mid : Int) + m - bb := by
  obtain ⟨w3, w4⟩ := half (i := a) (j := bb) (by omega)
  rw [← hmid] at w4
  rw [Int.natCast_add] at w3
  refine ⟨wrap64 (by omega) (by omega), by omega, wrap64 (by omega) (by omega), by omega, w3, w4, wrap64 (by omega) (by omega), wrap64 (by omega) (by omega), ?_, ?_, wrap64 (by omega) (by omega)⟩
  · rw [show (mid : Int) + m - 1 = ((mid + m - 1 : Nat) : Int) from by omega]; exact wrap64 (by omega) (by omega)
  · rw [show (mid : Int) + m - s = e from by omega]; exact wrap64 (by omega) (by omega)
set_option maxHeartbeats 2000000 in
theorem gen168 (hE : CellOk enc) (hS : Swo (ltC c)) (hC : CmpOk P enc f B c) (hb : b < H.length) (hg : g ≠ 0) (k n : Nat) (hn : n < 4611686018427387904) (hM : Merges P enc f B c H b g cp n k) (A U V T : List α) (a m bb : Nat) (hk : U.length + V.length ≤ k + 1) (hu : Srt (ltC c) U) (hv : Srt (ltC c) V) (hU : 2 ≤ U.length) (hV : 2 ≤ V.length) (ha : a = A.length) (hm : m = a + U.length) (hbb : bb = m + V.length) (hl : n = bb + T.length) :
    sfn P 168 [.slice b g 0 n none cp, .c (ci a), .c (ci m), .c (ci bb), .c (.func f [] B)] (H.set b (.cells g (cA enc (A ++ (U ++ (V ++ T)))) 0)) = some (.c (.tuple []), H.set b (.cells g (cA enc (A ++ (mrg (ltC c) U V ++ T))) 0)) := by
  obtain ⟨mid, hmid⟩ : ∃ mid, mid = (a + bb) / 2 := ⟨_, rfl⟩
  obtain ⟨st, hst⟩ : ∃ st, st = if m > mid then mid + m - bb else a := ⟨_, rfl⟩
  obtain ⟨r, hr⟩ : ∃ r, r = if m > mid then mid else m := ⟨_, rfl⟩
  have hb1 : st ≤ r ∧ r ≤ n ∧ r ≤ mid + m - 1 + 1 ∧ mid + m - 1 < n + st ∧ a ≤ st ∧ r ≤ m ∧ r ≤ mid ∧ mid + m ≤ bb + st ∧ m ≤ mid + m - r := by
    rw [hst, hr]; split <;> omega
  have h0 := fun v1 v2 v3 v4 v5 => L168_4 (P := P) (cp := cp) (enc := enc) hC hb hg (A ++ (U ++ (V ++ T))) n (mid + m - 1) v1 v2 v3 v4 v5 (by simp; omega) hn (by omega) (r - st) st r hb1.2.1 hb1.2.2.1 hb1.2.2.2.1 (Nat.le_refl _)
  have hspec := bs_spec (sp4 c (A ++ (U ++ (V ++ T))) (mid + m - 1)) st r (r - st) st r (Nat.le_refl _) hb1.1 (.inl rfl) (.inl rfl)
  generalize bs (sp4 c (A ++ (U ++ (V ++ T))) (mid + m - 1)) (r - st) st r = s at *
  obtain ⟨b1, b2, b3, b4⟩ := hspec
  obtain ⟨e, he⟩ : ∃ e, e = mid + m - s := ⟨_, rfl⟩
  obtain ⟨U1, U2, rfl, hU1⟩ := split_at (l := U) (k := s - a) (by omega)
  obtain ⟨V1, V2, rfl, hV1⟩ := split_at (l := V) (k := e - m) (by omega)
  have hu' := List.pairwise_append.1 hu
  have hv' := List.pairwise_append.1 hv
  simp only [List.length_append] at hU hV hm hbb hk
  have q1 : ∀ v ∈ V1, ∀ u ∈ U2, ltC c v u = true := by
    refine cut_lt hS hv'.1 hu'.2.1 ?_
    cases U2 with
    | nil => exact .inr (.inl rfl)
    | cons x U2 =>
      by_cases z : V1 = []
      · exact .inl z
      · obtain ⟨W, w, rfl⟩ := last_of z
        refine .inr (.inr ⟨W, w, x, U2, rfl, rfl, ?_⟩)
        simp only [List.length_append, List.length_cons, List.length_nil] at hV1 hm hbb
        have g1 : (A ++ ((U1 ++ x :: U2) ++ ((W ++ [w] ++ V2) ++ T)))[s]? = some x := get_at (P := A ++ U1) (R := U2 ++ ((W ++ [w] ++ V2) ++ T)) (by simp) (by simp; omega)
        have g2 : (A ++ ((U1 ++ x :: U2) ++ ((W ++ [w] ++ V2) ++ T)))[mid + m - 1 - s]? = some w := get_at (P := A ++ ((U1 ++ x :: U2) ++ W)) (R := V2 ++ T) (by simp) (by simp; omega)
        rcases b4 with b4 | b4
        · rw [hr] at b4; split at b4 <;> omega
        · unfold sp4 at b4
          rw [g1, g2] at b4
          simpa using b4
  have q2 : ∀ u ∈ U1, ∀ v ∈ V2, ltC c v u = false := by
    refine cut_ge hS hu'.1 hv'.2.1 ?_
    cases V2 with
    | nil => exact .inr (.inl rfl)
    | cons y V2 =>
      by_cases z : U1 = []
      · exact .inl z
      · obtain ⟨W, w, rfl⟩ := last_of z
        refine .inr (.inr ⟨W, w, y, V2, rfl, rfl, ?_⟩)
        simp only [List.length_append, List.length_cons, List.length_nil] at hU1 hm hbb
        have g1 : (A ++ ((W ++ [w] ++ U2) ++ ((V1 ++ y :: V2) ++ T)))[s - 1]? = some w := get_at (P := A ++ W) (R := U2 ++ ((V1 ++ y :: V2) ++ T)) (by simp) (by simp; omega)
        have g2 : (A ++ ((W ++ [w] ++ U2) ++ ((V1 ++ y :: V2) ++ T)))[mid + m - 1 - (s - 1)]? = some y := get_at (P := A ++ ((W ++ [w] ++ U2) ++ V1)) (R := V2 ++ T) (by simp) (by simp; omega)
        rcases b3 with b3 | b3
        · rw [hst] at b3; split at b3 <;> omega
        · unfold sp4 at b3
          rw [g1, g2] at b3
          simpa using b3
  have hmr := mrg_split (lt := ltC c) U1 V1 U2 V2 q1 q2
  have hlen1 := (List.merge_perm_append (xs := U1) (ys := V1) (le := fun u v => !ltC c v u)).length_eq
  have hlen2 := (List.merge_perm_append (xs := U2) (ys := V2) (le := fun u v => !ltC c v u)).length_eq
  have hmm1 : (mrg (ltC c) U1 V1).length = U1.length + V1.length := by rw [← List.length_append]; exact hlen1
  have hR := R168 (P := P) (cp := cp) hE hb hg A U1 U2 V1 V2 T (.func f [] B) n a m bb mid s e hn (by omega) ha (by omega) (by omega) (by omega)
  have hM1 := M168a (P := P) (cp := cp) hM A U1 V1 (U2 ++ (V2 ++ T)) a bb mid s e (by omega) hu'.1 hv'.1 ha (by omega) (by omega) (by simp; omega)
  have hM2 : mid < e ∧ e < bb → sfn P 168 [.slice b g 0 n none cp, .c (ci mid), .c (ci e), .c (ci bb), .c (.func f [] B)] (H.set b (.cells g (cA enc (A ++ mrg (ltC c) U1 V1 ++ (U2 ++ (V2 ++ T)))) 0)) = some (.c (.tuple []), H.set b (.cells g (cA enc (A ++ mrg (ltC c) U1 V1 ++ (mrg (ltC c) U2 V2 ++ T))) 0)) := by
    rintro ⟨i1, i2⟩
    exact hM (A ++ mrg (ltC c) U1 V1) U2 V2 T mid e bb (by omega) (by intro q; rw [q] at hm; simp at hm; omega) (by intro q; rw [q] at hbb; simp at hbb; omega) hu'.2.1 hv'.2.1 (by simp; omega) (by omega) (by omega) hl
  have hM3 : ¬ (mid < e ∧ e < bb) → A ++ mrg (ltC c) U1 V1 ++ (U2 ++ (V2 ++ T)) = A ++ mrg (ltC c) U1 V1 ++ (mrg (ltC c) U2 V2 ++ T) := by
    intro hh
    have : U2.length = 0 ∨ V2.length = 0 := by omega
    rcases this with q | q
    · rw [List.eq_nil_of_length_eq_zero q]; simp
    · rw [List.eq_nil_of_length_eq_zero q]; simp
  have e1 : (A ++ U1) ++ (U2 ++ (V1 ++ (V2 ++ T))) = A ++ ((U1 ++ U2) ++ ((V1 ++ V2) ++ T)) := by simp
  have e2 : (A ++ U1) ++ (V1 ++ (U2 ++ (V2 ++ T))) = A ++ (U1 ++ (V1 ++ (U2 ++ (V2 ++ T)))) := by simp
  have e3 : A ++ mrg (ltC c) U1 V1 ++ (U2 ++ (V2 ++ T)) = A ++ (mrg (ltC c) U1 V1 ++ (U2 ++ (V2 ++ T))) := by simp
  have e4 : A ++ mrg (ltC c) U1 V1 ++ (mrg (ltC c) U2 V2 ++ T) = A ++ ((mrg (ltC c) U1 V1 ++ mrg (ltC c) U2 V2) ++ T) := by simp
  rw [e1, e2] at hR
  rw [e3, e4] at hM2 hM3
  rw [hmr, u168]
  obtain ⟨w1, n1, w2, n2, w3, w4, w5, w6, w7, w8, w9⟩ := ar168 (a := a) (m := m) (bb := bb) (mid := mid) (s := s) (e := e) hmid (by omega) (by omega) (by omega) (by omega) he
  have sh := shr1 a bb
  rw [← hmid] at sh
  have hD34 : ¬ (mid < e ∧ e < bb) → cA enc (A ++ (mrg (ltC c) U1 V1 ++ (U2 ++ (V2 ++ T)))) = cA enc (A ++ ((mrg (ltC c) U1 V1 ++ mrg (ltC c) U2 V2) ++ T)) := fun hh => by rw [hM3 hh]
  clear hM3
  generalize mid + m - 1 = p at *
  generalize cA enc (A ++ ((U1 ++ U2) ++ ((V1 ++ V2) ++ T))) = D1 at *
  generalize cA enc (A ++ (U1 ++ (V1 ++ (U2 ++ (V2 ++ T))))) = D2 at *
  generalize cA enc (A ++ (mrg (ltC c) U1 V1 ++ (U2 ++ (V2 ++ T)))) = D3 at *
  generalize cA enc (A ++ ((mrg (ltC c) U1 V1 ++ mrg (ltC c) U2 V2) ++ T)) = D4 at *
  by_cases hmm : m > mid
  · have c1 : (mid : Int) < m := by omega
    rw [if_pos hmm] at hst hr
    have hst' : (st : Int) = (mid : Int) + m - bb := by omega
    subst hr
    rw [hst'] at h0
    simp [c168, c168_n20, c168_n22, c168_n31, w1, n1, w2, n2, w3, w4, w5, sh, w6, w7, w8, w9, c1, h0, hR, hM1, -c168_n40, -c168_n42]
    split
    · rename_i hh
      simp [frzFuncs_nil, frzFuncs_c, frzFuncs_slice, hM2 hh]
    · rename_i hh
      rw [hD34 hh]
  · have c1 : ¬ (mid : Int) < m := by omega
    rw [if_neg hmm] at hst hr
    subst hst
    subst hr
    simp [c168, c168_n20, c168_n22, c168_n31, w1, n1, w2, n2, w3, w4, w5, sh, w6, w7, w8, w9, c1, h0, hR, hM1, -c168_n40, -c168_n42]
    split
    · rename_i hh
      simp [frzFuncs_nil, frzFuncs_c, frzFuncs_slice, hM2 hh]
    · rename_i hh
      rw [hD34 hh]
theorem S168 (hE : CellOk enc) (hS : Swo (ltC c)) (hC : CmpOk P enc f B c) (hb : b < H.length) (hg : g ≠ 0) (n : Nat) (hn : n < 4611686018427387904) : ∀ k, Merges P enc f B c H b g cp n k := by
  intro k
  induction k with
  | zero =>
    intro A U V T a m bb hk hU
    exact absurd (List.eq_nil_of_length_eq_zero (by omega)) hU
  | succ k ih =>
    intro A U V T a m bb hk hU hV hu hv ha hm hbb hl
    have z1 : U.length ≠ 0 := fun q => hU (List.eq_nil_of_length_eq_zero q)
    have z2 : V.length ≠ 0 := fun q => hV (List.eq_nil_of_length_eq_zero q)
    by_cases h1 : U.length = 1
    · obtain ⟨u, rfl⟩ := List.length_eq_one_iff.1 h1
      exact one168 hE hS hC hb hg A u V T n a m bb hn hv ha (by simpa using hm) hbb hl
    · by_cases h2 : V.length = 1
      · obtain ⟨v, rfl⟩ := List.length_eq_one_iff.1 h2
        exact last168 hE hS hC hb hg A U v T n a m bb hn hu h1 ha hm (by simpa using hbb) hl
      · exact gen168 hE hS hC hb hg k n hn ih A U V T a m bb hk hu hv (by omega) (by omega) ha hm hbb hl
end LM.G6
namespace LM.G6
open Go LM
variable {P : Nat → Option SFunc} [Has P]
variable {α : Type} {enc : α → CV} {f : Nat} {B : List CV} {c : α → α → Int} {H : Heap} {b g : Nat} {cp : Option Nat}
theorem S142 (hE : CellOk enc) (hS : Swo (ltC c)) (hC : CmpOk P enc f B c) (hb : b < H.length) (hg : g ≠ 0) (xs : List α) (n : Nat) (hn : n < 40) (h : n = xs.length) :
    sfn P 142 [.slice b g 0 n none cp, .c (ci n), .c (.func f [] B)] (H.set b (.cells g (cA enc xs) 0)) = some (.c (.tuple []), H.set b (.cells g (cA enc (sortI (ltC c) [] xs)) 0)) := by
  by_cases h20 : n < 20
  · have hs := S167 (P := P) (cp := cp) hE hC hb hg [] xs [] n (by omega) (by simpa using h)
    have h1 : ¬ (20 : Int) ≤ n := by omega
    have h2 : ¬ (20 : Int) < n := by omega
    have l0 : ∀ E, execS P (limS P) c142_l0 ⟨[.slice b g 0 n none cp, .c (ci n), .c (.func f [] B), .c (ci 20), .c (ci 0), .c (ci 20)], E⟩ = some (.exit 0, ⟨[.slice b g 0 n none cp, .c (ci n), .c (.func f [] B), .c (ci 20), .c (ci 0)], E⟩) := by
      intro E
      rw [r142_l0]
      simp [c142_l0b, h1]
    have l2 : ∀ E, execS P (limS P) c142_l2 ⟨[.slice b g 0 n none cp, .c (ci n), .c (.func f [] B), .c (ci 20)], E⟩ = some (.exit 2, ⟨[], E⟩) := by
      intro E
      rw [r142_l2]
      simp [c142_l2b, h2]
    simp [← h] at hs
    rw [u142]
    simp [c142, l0, l2, hs, hb, take_set, frzFuncs_nil, frzFuncs_c, frzFuncs_slice]
  · obtain ⟨U, V, rfl, hU⟩ := split_at (l := xs) (k := 20) (by omega)
    simp only [List.length_append] at h
    have s1 := S167 (P := P) (cp := cp) hE hC hb hg [] U V n (by omega) (by simp; omega)
    have s2 := S167 (P := P) (cp := cp) hE hC hb hg (sortI (ltC c) [] U) V [] n (by omega) (by simp [sortI_length]; omega)
    have z1 : sortI (ltC c) [] U ≠ [] := fun q => by have := sortI_length (lt := ltC c) [] U; rw [q] at this; simp at this; omega
    have hmr := sortI_mrg hS U V
    have hsl := sortI_length (lt := ltC c) [] V
    have hsu := sortI_length (lt := ltC c) [] U
    have hM := fun z2 => S168 (P := P) (cp := cp) hE hS hC hb hg n (by omega) (20 + V.length) [] (sortI (ltC c) [] U) (sortI (ltC c) [] V) [] 0 20 n (by simp at hsl hsu; omega) z1 z2 (sortI_srt hS [] U (by simp [Srt])) (sortI_srt hS [] V (by simp [Srt])) rfl (by simp at hsu; omega) (by simp at hsl; omega) (by simp)
    rw [hmr] at hM
    simp only [hsu, List.length_nil, Nat.zero_add, hU] at s2
    have h1 : (20 : Int) ≤ n := by omega
    have h3 : ¬ (40 : Int) ≤ n := by omega
    have e1 : (20 : Int) + V.length = n := by omega
    have l0b : ∀ E, execS P (limS P) c142_l0 ⟨[.slice b g 0 n none cp, .c (ci n), .c (.func f [] B), .c (ci 20), .c (ci 20), .c (ci 40)], E⟩ = some (.exit 0, ⟨[.slice b g 0 n none cp, .c (ci n), .c (.func f [] B), .c (ci 20), .c (ci 20)], E⟩) := by
      intro E
      rw [r142_l0]
      simp [c142_l0b, h3]
    have w40 : IntKind.i64.wrap 40 = 40 := rfl
    simp [hU] at s1
    have e2 : (((20 : Nat) : Int)) = 20 := rfl
    rw [e2, e1] at s2
    simp at s2
    have l0 : execS P (limS P) c142_l0 ⟨[.slice b g 0 n none cp, .c (ci n), .c (.func f [] B), .c (ci 20), .c (ci 0), .c (ci 20)], H.set b (.cells g (cA enc (U ++ V)) 0)⟩ = some (.exit 0, ⟨[.slice b g 0 n none cp, .c (ci n), .c (.func f [] B), .c (ci 20), .c (ci 20)], H.set b (.cells g (cA enc (sortI (ltC c) [] U ++ V)) 0)⟩) := by
      rw [r142_l0]
      simp [c142_l0b, h1, s1, w40, l0b, hb, take_set, frzFuncs_nil, frzFuncs_c, frzFuncs_slice]
    by_cases h4 : n = 20
    · have hV : V = [] := List.eq_nil_of_length_eq_zero (by omega)
      subst hV
      have h2 : ¬ (20 : Int) < n := by omega
      have l2 : ∀ E, execS P (limS P) c142_l2 ⟨[.slice b g 0 n none cp, .c (ci n), .c (.func f [] B), .c (ci 20)], E⟩ = some (.exit 2, ⟨[], E⟩) := by
        intro E
        rw [r142_l2]
        simp [c142_l2b, h2]
      simp [sortI] at s2 l0
      rw [u142]
      simp [c142, l0, l2, s2, hb, take_set, frzFuncs_nil, frzFuncs_c, frzFuncs_slice]
    · have z2 : sortI (ltC c) [] V ≠ [] := fun q => by rw [q] at hsl; simp at hsl; omega
      have hM := hM z2
      have h2 : (20 : Int) < n := by omega
      have h5 : ¬ (40 : Int) < n := by omega
      have l1 : ∀ E, execS P (limS P) c142_l1 ⟨[.slice b g 0 n none cp, .c (ci n), .c (.func f [] B), .c (ci 20), .c (ci 0), .c (ci 40)], E⟩ = some (.exit 4, ⟨[.slice b g 0 n none cp, .c (ci n), .c (.func f [] B), .c (ci 20), .c (ci 0)], E⟩) := by
        intro E
        rw [r142_l1]
        simp [c142_l1b, h3]
      have l2b : ∀ E, execS P (limS P) c142_l2 ⟨[.slice b g 0 n none cp, .c (ci n), .c (.func f [] B), .c (ci 40)], E⟩ = some (.exit 2, ⟨[], E⟩) := by
        intro E
        rw [r142_l2]
        simp [c142_l2b, h5]
      simp at hM
      have l2 : execS P (limS P) c142_l2 ⟨[.slice b g 0 n none cp, .c (ci n), .c (.func f [] B), .c (ci 20)], H.set b (.cells g (cA enc (sortI (ltC c) [] U ++ sortI (ltC c) [] V)) 0)⟩ = some (.exit 2, ⟨[], H.set b (.cells g (cA enc (sortI (ltC c) [] (U ++ V))) 0)⟩) := by
        have w20 : IntKind.i64.wrap 20 = 20 := rfl
        rw [r142_l2]
        simp [c142_l2b, h2, l1, w40, w20, hM, l2b, hb, take_set, frzFuncs_nil, frzFuncs_c, frzFuncs_slice]
      rw [u142]
      simp [c142, l0, l2, s2, hb, take_set, frzFuncs_nil, frzFuncs_c, frzFuncs_slice]
theorem S94 (hE : CellOk enc) (hS : Swo (ltC c)) (hC : CmpOk P enc f B c) (hb : b < H.length) (hg : g ≠ 0) (xs : List α) (n : Nat) (hn : n < 40) (h : n = xs.length) :
    sfn P 94 [.slice b g 0 n none cp, .c (.func f [] B)] (H.set b (.cells g (cA enc xs) 0)) = some (.c (.tuple []), H.set b (.cells g (cA enc (sortI (ltC c) [] xs)) 0)) := by
  have hs := S142 (P := P) (cp := cp) hE hS hC hb hg xs n hn h
  rw [u94]
  simp [c94, hs, hb, take_set, frzFuncs_nil, frzFuncs_c, frzFuncs_slice]
end LM.G6
namespace LM.G6
open Go LM
variable {P : Nat → Option SFunc} [Has P]
/-- A starter's rank among the seeds: those without one come last. -/
def rankS (l : List Stt) (i : Nat) : Int := match l[i]? with
  | some x => if x.seed = 0 then 1000000000 else x.seed
  | none => 0
theorem S93 (l : List Stt) (i : Nat) (h : i < l.length) : fn P 93 [ci i, .ptr [.slice (l.map Stt.enc)] 0] = some (ci (rankS l i)) := by
  have hlt : (i : Int) < l.length := by omega
  have e : l[i]? = some l[i] := List.getElem?_eq_getElem h
  rw [u93]
  unfold rankS
  rw [e]
  generalize hx : l[i] = x
  by_cases h0 : x.seed = 0
  · simp [c93, hlt, h, hx, Stt.enc, h0]
  · simp [c93, hlt, h, hx, Stt.enc, h0]
def cmpI (a b : Int) : Int := if a < b then -1 else if b < a then 1 else 0
theorem cmpI_neg (a b : Int) : cmpI a b < 0 ↔ a < b := by unfold cmpI; (repeat' split) <;> omega
theorem S96c (a b : Int) : fn P 96 [ci a, ci b] = some (ci (cmpI a b)) := by
  have e : ∀ x : Int, fn P 143 [ci x] = some (.bool false) := fun x => by rw [u143]; simp [c143]
  rw [u96]
  unfold cmpI
  by_cases h1 : a < b <;> by_cases h2 : b < a <;> simp [c96, e, h1, h2]
/-- Numbers of a list's elements. -/
def eF (n : Nat) (i : Fin n) : CV := ci (i.val : Int)
theorem eF_ok (n : Nat) : CellOk (eF n) := fun _ => ⟨rfl, rfl⟩
def rankC (l : List Stt) : CV := .func 93 [] [.ptr [.slice (l.map Stt.enc)] 0]
theorem cmp95 (l : List Stt) : CmpOk P (eF l.length) 95 [.ptr [rankC l] 0] fun i j => cmpI (rankS l i) (rankS l j) := by
  intro pos q x y h
  have h1 := S93 (P := P) l x.val x.isLt
  have h2 := S93 (P := P) l y.val y.isLt
  have h3 := S96c (P := P) (rankS l x) (rankS l y)
  have e : fn P 95 [ci x.val, ci y.val, .ptr [rankC l] 0] = some (ci (cmpI (rankS l x) (rankS l y))) := by
    rw [u95]
    simp [c95, rankC, h1, h2, h3]
  simp [eF, e]
theorem frz_38_func (f : Nat) (a b : List LV) (h : Heap) : frz 38 (.func f a b) h = bnd (mapH (frz 37) a h) fun x => bnd (mapH (frz 37) b x.2) fun y => some (.func f x.1 y.1, y.2) := by
  rw [frz]
  rcases mapH (frz 37) a h with _ | ⟨x, h1⟩
  · rfl
  · simp only [bnd]
    rcases mapH (frz 37) b h1 with _ | ⟨y, h2⟩ <;> rfl
theorem frz_37_ptr (b g off : Nat) (h : Heap) : frz 37 (.ptr b g off) h = match h[b]? with
    | some (.cells g' cs _) => if g = g' then bnd (mapH (frz 36) cs (bump b cs.length h)) fun a => some (.ptr a.1 off, a.2) else none
    | _ => none := frz_succ_ptr 36 b g off h
def rankI (l : List Stt) (a : Int) : Int := rankS l a.toNat
def ltR (l : List Stt) (a b : Int) : Bool := decide (rankI l a < rankI l b)
/-- The seeded order. -/
def seedL (l : List Stt) (key : Int) : List Int := sortI (ltR l) [] (drawL key l.length)
theorem swo95 (l : List Stt) : Swo (ltC fun i j : Fin l.length => cmpI (rankS l i) (rankS l j)) := by
  have e : (ltC fun i j : Fin l.length => cmpI (rankS l i) (rankS l j)) = fun i j => decide (rankS l i.val < rankS l j.val) := by
    funext i j
    exact decide_eq_decide.2 (cmpI_neg _ _)
  rw [e]
  exact swo_key fun i : Fin l.length => rankS l i.val
theorem to_fin {n : Nat} : ∀ {xs : List Int}, (∀ x ∈ xs, 0 ≤ x ∧ x < n) → ∃ F : List (Fin n), F.map (fun i => (i.val : Int)) = xs
  | [], _ => ⟨[], rfl⟩
  | x :: xs, h => by
    obtain ⟨F, hF⟩ := to_fin (xs := xs) fun y hy => h y (by simp [hy])
    have hx := h x (by simp)
    refine ⟨⟨x.toNat, by omega⟩ :: F, ?_⟩
    simp [hF]
    omega
theorem cI_fin {n : Nat} (F : List (Fin n)) : cA (eF n) F = cI (F.map fun i => (i.val : Int)) := by simp [cA, cI, eF]
theorem drawE_zero {key : Int} {n : Nat} (h : drawE key n = 0) : 1 ≤ key ∧ key ≤ 2147483646 ∧ n ≤ 256 := by
  unfold drawE at h
  split at h
  · cases h
  · omega
theorem seedL_fin (l : List Stt) (F : List (Fin l.length)) : (sortI (ltC fun i j : Fin l.length => cmpI (rankS l i) (rankS l j)) [] F).map (fun i => (i.val : Int)) = sortI (ltR l) [] (F.map fun i => (i.val : Int)) := by
  have := sortI_map (lt := ltC fun i j : Fin l.length => cmpI (rankS l i) (rankS l j)) (lt' := ltR l) (fun i : Fin l.length => (i.val : Int)) (fun x y => by
    unfold ltR rankI ltC
    simp only [Int.toNat_natCast]
    exact decide_eq_decide.2 (cmpI_neg _ _).symm) [] F
  exact this.symm
def seededE (l : List Stt) (key : Int) : Int := firstE [startersE l, drawE key l.length]
theorem S20 (l : List Stt) (key : Int) (hl : ∀ x ∈ l, x.ok) (hs : (l.length : Int) < 9223372036854775807) (hn : startersE l = 0 → l.length < 40) : fn P 20 [.slice (l.map Stt.enc), ci key] = some (.tuple (if seededE l key = 0 then [.slice ((seedL l key).map ci), ci 0] else [.slice [], ci (seededE l key)])) := by
  have e19 := S19 (P := P) l hl hs
  rw [u20]
  by_cases h1 : startersE l = 0
  · rw [h1] at e19
    by_cases h2 : drawE key l.length = 0
    · have hE : seededE l key = 0 := by unfold seededE; rw [h1, h2]; rfl
      have e92 := S92 (P := P) key l.length h2
      obtain ⟨d1, d2, d3⟩ := drawE_zero h2
      obtain ⟨F, hF⟩ := to_fin (drawL_range d1 d2 (n := l.length))
      have hFl : F.length = l.length := by have := congrArg List.length hF; simpa [drawL_length] using this
      have hsrt := fun X Y => S94 (P := P) (eF_ok l.length) (swo95 l) (cmp95 l) (H := [X, .cells 1 [] 0, .cells 1 [] 0, .dead, Y]) (b := 3) (g := 1) (cp := some l.length) (by simp) (by decide) F l.length (hn h1) hFl.symm
      rw [cI_fin, cI_fin, seedL_fin, hF] at hsrt
      have hd : sortI (ltR l) [] (drawL key l.length) = seedL l key := rfl
      rw [hd] at hsrt
      rw [if_pos hE]
      simp [rankC] at hsrt
      have hlen : l.length = ((seedL l key).map ci).length := by simp [seedL, sortI_length, drawL_length]
      have hres := fun X Y => resV_own (b := 3) (g := 1) (fz := 0) (e := none) (ys := (seedL l key).map ci) (h := [X, .cells 1 [] 0, .cells 1 [] 0, .cells 1 (cI (seedL l key)) 0, Y]) (len := l.length) (by rw [cellsOf_ints]; rfl) (intElems _) hlen (some l.length) (ci 0)
      simp [c20, e19, e92, LV.shift, shiftL, shiftB, LB.shift, shift_cI, frzFuncs_nil, frzFuncs_c, frzFuncs_slice, frzFuncs_func, frz_func, frz_38_func, frz_37_ptr, hsrt, hres]
    · have hE : seededE l key = 3 := by
        unfold seededE
        rw [h1]
        unfold drawE at h2 ⊢
        split at h2
        · rename_i q; rw [if_pos q]; rfl
        · exact absurd rfl h2
      have e92 := S90e (P := P) key l.length h2
      rw [if_neg (by rw [hE]; decide), hE]
      simp [c20, e19, e92, LV.shift, shiftL, shiftB, LB.shift]
  · have hE : seededE l key = startersE l := by unfold seededE; rw [firstE, if_pos h1]
    rw [if_neg (by rw [hE]; exact h1), hE]
    simp [c20, e19, h1]
end LM.G6
namespace LM.G6
open Go LM
variable {P : Nat → Option SFunc} [Has P]
theorem flat_cI (xs : List Int) : flatAll (cI xs) = true := by rw [← cellsOf_ints]; exact flatAll_cellsOf (intElems xs)
/-- Appending integers to a slice of the function's own. -/
theorem appI (pos : Option Nat) {b g : Nat} {ys xs : List Int} {h : Heap} (hb : h[b]? = some (.cells g (cI ys) 0)) (hs : ys.length + xs.length < 1000000) :
    appendOp pos none 8 (.slice b g 0 ys.length none none) (.c (.slice (xs.map ci))) h = if xs = [] then some (.slice b g 0 ys.length none none, h) else some (.slice b (g + 1) 0 (ys.length + xs.length) none none, h.set b (.cells (g + 1) (cI (ys ++ xs)) 0)) := by
  have h1 : sliceCells none h (.c (.slice (xs.map ci))) = some ((xs.map ci).length, cellsOf (xs.map ci)) := rfl
  rw [cellsOf_ints, List.length_map] at h1
  have hz : szOf none = 1 := rfl
  simp only [appendOp, h1, flat_cI, hb, hz]
  rw [if_neg (by simp), if_neg (by simp [cI_length]), if_neg (by simp; omega), if_pos (by simp [cI_length])]
  by_cases hx : xs = []
  · subst hx; simp
  · have : xs.length ≠ 0 := fun e => hx (List.eq_nil_of_length_eq_zero e)
    rw [if_neg this, if_neg hx]
    have : cI (ys ++ xs) = cI ys ++ cI xs := by simp [cI]
    rw [this]
    rfl
theorem appI0 (pos : Option Nat) {b g : Nat} {xs : List Int} {h : Heap} (hb : h[b]? = some (.cells g [] 0)) (hs : xs.length < 1000000) :
    appendOp pos none 8 (.slice b g 0 0 none (some 0)) (.c (.slice (xs.map ci))) h = if xs = [] then some (.slice b g 0 0 none (some 0), h) else some (.slice (newId pos h) 1 0 xs.length none none, newAt pos (.cells 1 (cI xs) 0) h) := by
  have h1 : sliceCells none h (.c (.slice (xs.map ci))) = some ((xs.map ci).length, cellsOf (xs.map ci)) := rfl
  rw [cellsOf_ints, List.length_map] at h1
  have hz : szOf none = 1 := rfl
  simp only [appendOp, h1, flat_cI, hb, hz]
  rw [if_neg (by simp), if_neg (by simp [cI_length]), if_neg (by simp; omega)]
  by_cases hx : xs = []
  · subst hx
    have hid : h.set b (.cells g [] 0) = h := by
      obtain ⟨q, e⟩ := List.getElem?_eq_some_iff.1 hb
      rw [← e]
      simp
    simp [cI, setCells, hid]
  · have : ¬ 0 + xs.length ≤ 0 := fun e => hx (List.eq_nil_of_length_eq_zero (by omega))
    rw [if_neg this, if_neg hx]
    simp
end LM.G6
namespace LM.G6
open Go LM
variable {P : Nat → Option SFunc} [Has P]
def isI (a : Int) (x : Int) : Bool := decide (x = a)
theorem L112n (a : Int) : ∀ (l pre : List Int), ((pre ++ l).length : Int) < 9223372036854775807 →
    ∃ k : Nat, execS P (limS P) c112_l0 ⟨[.c (.slice ((pre ++ l).map ci)), .c (ci a), .c (ci (pre ++ l).length), .c (ci pre.length)], []⟩ = if l.any (isI a) then some (.ret, ⟨[.c (ci k)], []⟩) else some (.exit 0, ⟨[], []⟩) := by
  intro l
  induction l with
  | nil =>
    intro pre h
    refine ⟨0, ?_⟩
    rw [r112_l0]
    simp [c112_l0b]
  | cons x r ih =>
    intro pre h
    obtain ⟨k, ih⟩ := ih (pre ++ [x]) (by simpa using h)
    simp [-List.any_eq_true] at ih h
    have hw : IntKind.i64.wrap (↑pre.length + 1) = ↑pre.length + 1 := wrap64 (by omega) (by omega)
    have hlt : (pre.length : Int) < pre.length + (r.length + 1) := by omega
    have e : isI a x = decide (x = a) := rfl
    have ea : isI a a = true := by simp [isI]
    by_cases h0 : x = a
    · refine ⟨pre.length, ?_⟩
      rw [r112_l0]
      simp [c112_l0b, hw, hlt, e, ea, h0, -List.any_eq_true]
    · have h0' : ¬ a = x := fun q => h0 q.symm
      refine ⟨k, ?_⟩
      rw [r112_l0]
      simp [c112_l0b, hw, hlt, e, h0, h0', ih, -List.any_eq_true]
theorem S100 (l : List Int) (a : Int) (h : (l.length : Int) < 9223372036854775807) : fn P 100 [.slice (l.map ci), ci a] = some (.bool (l.any (isI a))) := by
  obtain ⟨k, hL⟩ := L112n (P := P) a l [] (by simpa using h)
  simp [-List.any_eq_true] at hL
  have e112 : fn P 112 [.slice (l.map ci), ci a] = some (ci (if l.any (isI a) then (k : Int) else -1)) := by
    rw [u112]
    cases h0 : l.any (isI a) <;> rw [h0] at hL <;> simp [c112, hL]
  rw [u100]
  cases h0 : l.any (isI a) <;> rw [h0] at e112 <;> simp [c100, e112]
end LM.G6
namespace LM.G6
open Go LM
variable {P : Nat → Option SFunc} [Has P]
/-- The nation of a starter. -/
def natS (l : List Stt) (a : Int) : Str := match l[a.toNat]? with
  | some x => x.nation
  | none => []
theorem natS_get {l : List Stt} {a : Int} (ha : 0 ≤ a ∧ a < l.length) : ∃ x, l[a.toNat]? = some x ∧ x.nation = natS l a := by
  have e1 : l[a.toNat]? = some l[a.toNat] := List.getElem?_eq_getElem (by omega)
  refine ⟨_, e1, ?_⟩
  unfold natS
  rw [e1]
/-- How many neighbours are equal. -/
def adjN : List Str → Int
  | a :: b :: r => (if b = a then 1 else 0) + adjN (b :: r)
  | _ => 0
theorem adjN_bound : ∀ l : List Str, 0 ≤ adjN l ∧ adjN l ≤ l.length
  | [] => by simp [adjN]
  | [a] => by simp [adjN]
  | a :: b :: r => by
    have := adjN_bound (b :: r)
    simp only [adjN, List.length_cons] at this ⊢
    split <;> omega
end LM.G6
namespace LM.G6
open Go LM
variable {P : Nat → Option SFunc} [Has P]
structure Pr where
  a : Int
  b : Int
def Pr.enc (x : Pr) : CV := .agg [ci x.a, ci x.b]
theorem Pr.elem (x : Pr) : Elem (some 2) x.enc := ⟨_, rfl, rfl, by simp⟩
theorem Pr.elems (l : List Pr) : ∀ x ∈ l.map Pr.enc, Elem (some 2) x := by
  intro x hx
  obtain ⟨y, _, rfl⟩ := List.mem_map.1 hx
  exact y.elem
end LM.G6
namespace LM.G6
open Go LM
variable {P : Nat → Option SFunc} [Has P]
theorem firstE_zB (e : Int) (r : List Int) : firstE (e :: r) = 0 ↔ e = 0 ∧ firstE r = 0 := by
  rw [firstE]
  by_cases h : e = 0 <;> simp [h]
theorem whenE_z {b : Bool} {e : Int} (he : e ≠ 0) : whenE b e = 0 ↔ b = false := by
  unfold whenE
  cases b <;> simp [he]
theorem outside_f {x a b : Int} : outside x a b = false ↔ a ≤ x ∧ x ≤ b := by
  unfold outside
  by_cases h1 : x < a <;> by_cases h2 : x > b <;> simp [h1, h2] <;> omega
end LM.G6
namespace LM.G6
open Go LM
variable {P : Nat → Option SFunc} [Has P]
theorem starters_seeds {l : List Stt} (h : startersE l = 0) : l.length ≤ 160 ∧ ∀ x ∈ l, 0 ≤ x.seed ∧ x.seed ≤ 999999999 := by
  unfold startersE at h
  split at h
  · cases h
  · rename_i hl
    refine ⟨by omega, ?_⟩
    have key : ∀ (r pre : List Stt), eachE stE pre r = 0 → ∀ x ∈ r, 0 ≤ x.seed ∧ x.seed ≤ 999999999 := by
      intro r
      induction r with
      | nil => simp
      | cons a r ih =>
        intro pre h x hx
        rw [eachE] at h
        split at h
        · rename_i q; exact absurd h q
        · rename_i q
          rcases List.mem_cons.1 hx with rfl | hx
          · have q : stE pre x = 0 := by simpa using q
            unfold stE at q
            simp only [firstE_zB, whenE_z (show (3 : Int) ≠ 0 by decide), outside_f] at q
            exact q.2.2.2.1
          · exact ih _ h x hx
    exact key l [] h
end LM.G6
namespace LM.G6
open Go LM
variable {P : Nat → Option SFunc} [Has P]
/-- The error of a start list. -/
def ordE (n : Nat) (pre : List Int) (x : Int) : Int := firstE [whenE (decide (x < 0) || decide (x ≥ n)) 10, whenE (pre.any (isI x)) 9]
def orderE (n : Nat) (o : List Int) : Int := if eachE (ordE n) [] o ≠ 0 then eachE (ordE n) [] o else whenE (decide (o.length < n)) 7
theorem L32_0 (l : List Stt) (hl : l.length < 100000) : ∀ (r pre : List Int), ((pre ++ r).length : Int) < 9223372036854775807 →
    ∃ H, execS P (limS P) c32_l0 ⟨[.c (.slice (l.map Stt.enc)), .c (.slice ((pre ++ r).map ci)), .c (.slice ((pre ++ r).map ci)), .c (ci (pre ++ r).length), .c (ci pre.length)], []⟩ = if eachE (ordE l.length) pre r = 0 then some (.exit 0, ⟨[.c (.slice (l.map Stt.enc)), .c (.slice ((pre ++ r).map ci))], []⟩) else some (.ret, ⟨[.c (ci 0), .c (ci (eachE (ordE l.length) pre r))], H⟩) := by
  intro r
  induction r with
  | nil =>
    intro pre h
    refine ⟨[], ?_⟩
    rw [r32_l0]
    simp [c32_l0b, eachE]
  | cons x r ih =>
    intro pre h
    obtain ⟨H, ih⟩ := ih (pre ++ [x]) (by simpa using h)
    have e100 := S100 (P := P) pre x (by simp at h; omega)
    have ht : List.take pre.length (List.map ci pre ++ ci x :: List.map ci r) = pre.map ci := by simp
    simp [-List.any_eq_true] at ih h
    have hw : IntKind.i64.wrap (↑pre.length + 1) = ↑pre.length + 1 := wrap64 (by omega) (by omega)
    have hlt : (pre.length : Int) < pre.length + (r.length + 1) := by omega
    have hz : szFits 1 (List.map ci pre ++ ci x :: List.map ci r) = true := by cases pre <;> rfl
    have hb : (pre.length : Int) ≤ pre.length + (r.length + 1) := by omega
    have hE : eachE (ordE l.length) pre (x :: r) = if ordE l.length pre x ≠ 0 then ordE l.length pre x else eachE (ordE l.length) (pre ++ [x]) r := rfl
    have hS : firstE [whenE (decide (x < 0) || decide (x ≥ (l.length : Int))) 10, whenE (pre.any (isI x)) 9] = ordE l.length pre x := rfl
    rw [hE]
    by_cases hx : x < 0
    · have hq : (decide (x < 0) || decide (x ≥ (l.length : Int))) = true := by simp [hx]
      have h0 : ordE l.length pre x = 10 := by rw [← hS, hq]; rfl
      rw [hq] at hS
      rw [h0]
      refine ⟨[.dead], ?_⟩
      rw [r32_l0]
      simp [c32_l0b, hw, hlt, hz, hb, ht, e100, hx, hS, h0, -List.any_eq_true]
    · by_cases hx2 : x ≥ (l.length : Int)
      · have hq : (decide (x < 0) || decide (x ≥ (l.length : Int))) = true := by simp [hx2]
        have h0 : ordE l.length pre x = 10 := by rw [← hS, hq]; rfl
        rw [hq] at hS
        rw [h0]
        refine ⟨[.dead], ?_⟩
        have hx2' : (l.length : Int) ≤ x := hx2
        rw [r32_l0]
        simp [c32_l0b, hw, hlt, hz, hb, ht, e100, hx, hx2', hS, h0, -List.any_eq_true]
      · have hq : (decide (x < 0) || decide (x ≥ (l.length : Int))) = false := by simp; omega
        rw [hq] at hS
        have hx2' : ¬ (l.length : Int) ≤ x := hx2
        by_cases h0 : ordE l.length pre x = 0
        · refine ⟨H, ?_⟩
          rw [r32_l0]
          simp [c32_l0b, hw, hlt, hz, hb, ht, e100, hx, hx2', hS, h0, ih, -List.any_eq_true]
        · refine ⟨[.dead], ?_⟩
          rw [r32_l0]
          simp [c32_l0b, hw, hlt, hz, hb, ht, e100, hx, hx2', hS, h0, -List.any_eq_true]
theorem L32_1 (l : List Stt) : ∀ (r pre : List Int) (x : Int) (n : Int), (pre ++ x :: r).length < 1000 → 0 ≤ n → n ≤ pre.length → (∀ y ∈ pre ++ x :: r, 0 ≤ y ∧ y < l.length) →
    execS P (limS P) c32_l1 ⟨[.c (.slice (l.map Stt.enc)), .c (.slice ((pre ++ x :: r).map ci)), .c (ci n), .c (ci (pre.length + 1 : Nat))], []⟩ = some (.exit 2, ⟨[.c (ci (n + adjN ((x :: r).map (natS l))))], []⟩) := by
  intro r
  induction r with
  | nil =>
    intro pre x n h h0 h1 hr
    rw [r32_l1]
    simp [c32_l1b, adjN]
  | cons y r ih =>
    intro pre x n h h0 h1 hr
    have hx := hr x (by simp)
    have hy := hr y (by simp)
    obtain ⟨sx, gx, ex⟩ := natS_get hx
    obtain ⟨sy, gy, ey⟩ := natS_get hy
    obtain ⟨_, gx'⟩ := List.getElem?_eq_some_iff.1 gx
    obtain ⟨_, gy'⟩ := List.getElem?_eq_some_iff.1 gy
    have ihA := ih (pre ++ [x]) y (n + 1) (by simpa using h) (by omega) (by simp; omega) (by simpa using hr)
    have ihB := ih (pre ++ [x]) y n (by simpa using h) (by omega) (by simp; omega) (by simpa using hr)
    simp at ihA ihB h
    have hw : IntKind.i64.wrap ((pre.length : Int) + 1 + 1) = (pre.length : Int) + 1 + 1 := wrap64 (by omega) (by omega)
    have hw2 : IntKind.i64.wrap (n + 1) = n + 1 := wrap64 (by omega) (by omega)
    have hw4 : IntKind.i64.wrap (pre.length : Int) = pre.length := wrap64 (by omega) (by omega)
    have hlt : (pre.length : Int) + 1 < pre.length + (r.length + 1 + 1) := by omega
    have hlt2 : (pre.length : Int) < pre.length + (r.length + 1 + 1) := by omega
    have j3 : 0 ≤ (pre.length : Int) + 1 := by omega
    have hA : adjN ((x :: y :: r).map (natS l)) = (if natS l y = natS l x then 1 else 0) + adjN ((y :: r).map (natS l)) := rfl
    rw [hA, r32_l1]
    by_cases hq : natS l y = natS l x
    · simp [c32_l1b, hw, hw2, hw4, hlt, hlt2, j3, gx', gy', hx, hy, Stt.enc, ex, ey, hq, ihA]
      omega
    · simp [c32_l1b, hw, hw2, hw4, hlt, hlt2, j3, gx', gy', hx, hy, Stt.enc, ex, ey, hq, ihB]
theorem each_range {n : Nat} : ∀ {r pre : List Int}, eachE (ordE n) pre r = 0 → ∀ y ∈ r, 0 ≤ y ∧ y < n
  | [], _, _ => by simp
  | a :: r, pre, h => by
    intro y hy
    rw [eachE] at h
    split at h
    · rename_i q; exact absurd h q
    · rename_i q
      rcases List.mem_cons.1 hy with rfl | hy
      · have q : ordE n pre y = 0 := by simpa using q
        unfold ordE at q
        by_cases h1 : y < 0 <;> by_cases h2 : y ≥ (n : Int) <;> simp [firstE, whenE, h1, h2] at q <;> omega
      · exact each_range h y hy
def neighE (l : List Stt) (o : List Int) : Int := firstE [startersE l, orderE l.length o]
theorem S32 (l : List Stt) (o : List Int) (hl : ∀ x ∈ l, x.ok) (hs : (l.length : Int) < 9223372036854775807) (ho : (o.length : Int) < 9223372036854775807) (ho2 : o.length < 1000) :
    fn P 32 [.slice (l.map Stt.enc), .slice (o.map ci)] = some (.tuple [ci (if neighE l o = 0 then adjN (o.map (natS l)) else 0), ci (neighE l o)]) := by
  have e19 := S19 (P := P) l hl hs
  rw [u32]
  by_cases h1 : startersE l = 0
  · rw [h1] at e19
    have hll := (starters_seeds h1).1
    have hN : neighE l o = orderE l.length o := by unfold neighE; rw [h1]; by_cases q : orderE l.length o = 0 <;> simp [firstE, q]
    rw [hN]
    obtain ⟨H, hL⟩ := L32_0 (P := P) l (by omega) o [] (by simpa using ho)
    simp at hL
    by_cases h2 : eachE (ordE l.length) [] o = 0
    · rw [if_pos h2] at hL
      have hO : orderE l.length o = whenE (decide (o.length < l.length)) 7 := by unfold orderE; rw [if_neg (by simpa using h2)]
      rw [hO]
      by_cases h3 : o.length < l.length
      · have h3' : (o.length : Int) < l.length := by omega
        simp [c32, e19, hL, h3, h3', whenE]
      · have h3' : ¬ (o.length : Int) < l.length := by omega
        have hr := each_range h2
        have hL1 : execS P (limS P) c32_l1 ⟨[.c (.slice (l.map Stt.enc)), .c (.slice (o.map ci)), .c (ci 0), .c (ci 1)], []⟩ = some (.exit 2, ⟨[.c (ci (adjN (o.map (natS l))))], []⟩) := by
          cases o with
          | nil =>
            rw [r32_l1]
            simp [c32_l1b, adjN]
          | cons x r =>
            have h5 := L32_1 (P := P) l r [] x 0 (by simpa using ho2) (by omega) (by simp) (by simpa using hr)
            simp at h5
            simpa using h5
        simp [c32, e19, hL, h3, h3', whenE, hL1]
    · rw [if_neg h2] at hL
      have hO : orderE l.length o = eachE (ordE l.length) [] o := by unfold orderE; rw [if_pos h2]
      rw [hO, if_neg h2]
      simp [c32, e19, hL]
  · have hN : neighE l o = startersE l := by unfold neighE; rw [firstE, if_pos h1]
    rw [hN, if_neg h1]
    simp [c32, e19, h1]
end LM.G6
namespace LM.G6
open Go LM
variable {P : Nat → Option SFunc} [Has P]
/-- Truth values of numbers. -/
def cB (f : Nat → Bool) (n : Nat) : List LV := (List.range n).map fun k => .c (.bool (f k))
theorem cB_length (f : Nat → Bool) (n : Nat) : (cB f n).length = n := by simp [cB]
theorem cB_get (f : Nat → Bool) {n k : Nat} (h : k < n) : (cB f n)[k]? = some (.c (.bool (f k))) := by simp [cB, h]
theorem cB_set (f : Nat → Bool) {n k : Nat} (b : Bool) : (cB f n).set k (.c (.bool b)) = cB (fun i => if i = k then b else f i) n := by
  unfold cB
  apply List.ext_getElem
  · simp
  · intro i h1 h2
    rw [List.getElem_set]
    by_cases e : k = i
    · subst e; simp
    · have e' : ¬ i = k := fun q => e q.symm
      simp [e, e']
theorem under_cB (n : Nat) (f : Nat → Bool) (m : Nat) : underL n (cB f m) = true := by
  have : cB f m = ((List.range m).map fun k => CV.bool (f k)).map LV.c := by simp [cB]
  rw [this]
  exact underL_map_c n _
theorem L37 (n : Nat) (hn : n < 100000) : ∀ (r pre : List Int), ((pre ++ r).length : Int) < 9223372036854775807 →
    ∃ H, execS P (limS P) c37_l0 ⟨[.c (ci n), .c (.slice ((pre ++ r).map ci)), .slice 0 1 0 n none (some n), .c (ci pre.length)], [.cells 1 (cB (fun k => pre.any (isI (k : Int))) n) 0]⟩ = if eachE (ordE n) pre r = 0 then some (.exit 0, ⟨[.c (ci n), .c (.slice ((pre ++ r).map ci))], H⟩) else some (.ret, ⟨[.c (ci (eachE (ordE n) pre r))], H⟩) := by
  intro r
  induction r with
  | nil =>
    intro pre h
    refine ⟨[.cells 1 (cB (fun k => pre.any (isI (k : Int))) n) 0], ?_⟩
    rw [r37_l0]
    simp [c37_l0b, eachE]
  | cons x r ih =>
    intro pre h
    obtain ⟨H, ih⟩ := ih (pre ++ [x]) (by simpa using h)
    simp [-List.any_eq_true] at ih h
    have hw : IntKind.i64.wrap (↑pre.length + 1) = ↑pre.length + 1 := wrap64 (by omega) (by omega)
    have hlt : (pre.length : Int) < pre.length + (r.length + 1) := by omega
    have hE : eachE (ordE n) pre (x :: r) = if ordE n pre x ≠ 0 then ordE n pre x else eachE (ordE n) (pre ++ [x]) r := rfl
    have hS : ordE n pre x = firstE [whenE (decide (x < 0) || decide (x ≥ (n : Int))) 10, whenE (pre.any (isI x)) 9] := rfl
    rw [hE]
    by_cases hx : x < 0
    · have h0 : ordE n pre x = 10 := by rw [hS]; simp [hx, firstE, whenE]
      rw [h0]
      refine ⟨[.cells 1 (cB (fun k => pre.any (isI (k : Int))) n) 0], ?_⟩
      rw [r37_l0]
      simp [c37_l0b, hw, hlt, hx, -List.any_eq_true]
    · by_cases hx2 : x ≥ (n : Int)
      · have h0 : ordE n pre x = 10 := by rw [hS]; simp [hx2, firstE, whenE]
        rw [h0]
        refine ⟨[.cells 1 (cB (fun k => pre.any (isI (k : Int))) n) 0], ?_⟩
        have hx2' : (n : Int) ≤ x := hx2
        rw [r37_l0]
        simp [c37_l0b, hw, hlt, hx, hx2', -List.any_eq_true]
      · have hx2' : ¬ (n : Int) ≤ x := hx2
        have hx3 : x < n := by omega
        obtain ⟨k, rfl⟩ : ∃ k : Nat, x = k := ⟨x.toNat, by omega⟩
        have hk : k < n := by omega
        have hg := cB_get (fun k => pre.any (isI (k : Int))) hk
        have h0 : ordE n pre k = whenE (pre.any (isI (k : Int))) 9 := by
          rw [hS]
          have : (decide ((k : Int) < 0) || decide ((k : Int) ≥ (n : Int))) = false := by simp; omega
          rw [this]
          cases pre.any (isI (k : Int)) <;> rfl
        have hset : (cB (fun k => pre.any (isI (k : Int))) n).set k (.c (.bool true)) = cB (fun i => (pre ++ [(k : Int)]).any (isI (i : Int))) n := by
          rw [cB_set]
          congr 1
          funext i
          rw [List.any_append]
          by_cases e : i = k
          · subst e; simp [isI]
          · have : ¬ (k : Int) = i := by omega
            simp [e, isI, this]
        have hk1 : k + 1 ≤ n := by omega
        have hu := fun m f => under_cB m f n
        have hl := fun f => cB_length f n
        cases hq : pre.any (isI (k : Int))
        · rw [hq] at h0 hg
          refine ⟨H, ?_⟩
          simp [whenE] at h0
          simp only [List.any_append, List.any_cons, List.any_nil, Bool.or_false] at hset
          simp [c37_l0b, -List.any_eq_true] at hset ⊢
          rw [r37_l0]
          simp [c37_l0b, hw, hlt, hx, hx2', hx3, hg, h0, hset, hk1, hu, hl, ih, -List.any_eq_true]
        · rw [hq] at h0 hg
          refine ⟨[.cells 1 (cB (fun k => pre.any (isI (k : Int))) n) 0], ?_⟩
          simp [whenE] at h0
          rw [r37_l0]
          simp [c37_l0b, hw, hlt, hx, hx2', hx3, hg, h0, -List.any_eq_true]
theorem S37 (n : Nat) (o : List Int) (hn : n < 100000) (ho : (o.length : Int) < 9223372036854775807) : fn P 37 [ci n, .slice (o.map ci)] = some (ci (orderE n o)) := by
  obtain ⟨H, hL⟩ := L37 (P := P) n hn o [] (by simpa using ho)
  have e0 : (cB (fun k => ([] : List Int).any (isI (k : Int))) n) = List.replicate n (.c (.bool false)) := by
    unfold cB
    apply List.ext_getElem <;> simp
  rw [e0] at hL
  simp at hL
  rw [u37]
  unfold orderE
  have k1 : (n : Int) ≤ 9223372036854775807 := by omega
  have k2 : (n : Int) ≤ 140737488355328 := by omega
  by_cases h0 : eachE (ordE n) [] o = 0
  · rw [if_pos h0] at hL
    rw [if_neg (by simpa using h0)]
    by_cases h1 : o.length < n
    · simp [c37, k1, k2, hL, h1, whenE]
    · simp [c37, k1, k2, hL, h1, whenE]
  · rw [if_neg h0] at hL
    rw [if_pos h0]
    simp [c37, k1, k2, hL]
end LM.G6
namespace LM.G6
open Go LM
variable {P : Nat → Option SFunc} [Has P]
/-- How many are of a nation. -/
def cntS (s : Str) (l : List Stt) : Int := match l with
  | [] => 0
  | x :: r => (if x.nation = s then 1 else 0) + cntS s r
theorem cntS_bound (s : Str) : ∀ l : List Stt, 0 ≤ cntS s l ∧ cntS s l ≤ l.length
  | [] => by simp [cntS]
  | x :: r => by
    have := cntS_bound s r
    simp only [cntS, List.length_cons]
    split <;> omega
theorem cntS_append (s : Str) : ∀ a b : List Stt, cntS s (a ++ b) = cntS s a + cntS s b
  | [], b => by simp [cntS]
  | x :: a, b => by
    have := cntS_append s a b
    simp only [List.cons_append, cntS, this]
    omega
/-- The greatest number of those of one nation. -/
def maxS (all : List Stt) : List Stt → Int → Int
  | [], m => m
  | x :: r, m => maxS all r (max m (cntS x.nation all))
def mostS (l : List Stt) : Int := maxS l l 0
def fewS (l : List Stt) : Int := max 0 (2 * mostS l - l.length - 1)
end LM.G6
namespace LM.G6
open Go LM
variable {P : Nat → Option SFunc} [Has P]
/-- A map from texts to numbers. -/
abbrev Mi := List (Str × Int)
def iKs (M : Mi) : List CV := M.map fun p => CV.str p.1
def iVs (M : Mi) : List LV := M.map fun p => .c (ci p.2)
def iIdx (k : Str) : Mi → Option Nat
  | [] => none
  | p :: r => if k = p.1 then some 0 else (iIdx k r).map (· + 1)
def iGet (k : Str) : Mi → Int
  | [] => 0
  | p :: r => if k = p.1 then p.2 else iGet k r
def iPut (M : Mi) (k : Str) (v : Int) : Mi := match iIdx k M with
  | some i => M.set i (k, v)
  | none => M ++ [(k, v)]
theorem findK_mi (k : Str) : ∀ M : Mi, findK (.one 1) (.str k) (iKs M) = some (iIdx k M)
  | [] => rfl
  | p :: r => by
    have ih := findK_mi k r
    unfold iKs at ih ⊢
    simp only [List.map_cons, findK]
    have e : eqK (.one 1) (.str k) (.str p.1) = some (decide (k = p.1)) := by by_cases h : k = p.1 <;> simp [eqK, keyOk, kindOf, eqS, h]
    rw [e, iIdx]
    by_cases h : k = p.1
    · simp [h]
    · simp only [h, decide_false, if_false]
      rw [ih]
      cases iIdx k r <;> rfl
theorem iIdx_some {k : Str} : ∀ {M : Mi} {i : Nat}, iIdx k M = some i → M[i]? = some (k, iGet k M)
  | [], _, h => by simp [iIdx] at h
  | p :: r, i, h => by
    rw [iIdx] at h
    split at h
    · rename_i hk
      simp at h
      subst h
      simp [iGet, hk]
    · rename_i hk
      cases h2 : iIdx k r with
      | none => rw [h2] at h; simp at h
      | some i' =>
        rw [h2] at h
        simp at h
        subst h
        have := iIdx_some h2
        simpa [iGet, hk] using this
theorem iIdx_none {k : Str} : ∀ {M : Mi}, iIdx k M = none → iGet k M = 0
  | [], _ => rfl
  | p :: r, h => by
    rw [iIdx] at h
    split at h
    · cases h
    · rename_i hk
      cases h2 : iIdx k r with
      | none => rw [iGet, if_neg hk]; exact iIdx_none h2
      | some i' => rw [h2] at h; simp at h
theorem iGet_append (k k' : Str) (v : Int) : ∀ M : Mi, iIdx k M = none → iGet k' (M ++ [(k, v)]) = if k' = k then v else iGet k' M
  | [], _ => by simp [iGet]
  | p :: r, h => by
    rw [iIdx] at h
    split at h
    · cases h
    · rename_i hk
      have h2 : iIdx k r = none := by
        cases h2 : iIdx k r with
        | none => rfl
        | some i => rw [h2] at h; simp at h
      simp only [List.cons_append, iGet]
      by_cases e : k' = p.1
      · rw [if_pos e, if_pos e, if_neg (fun q => hk (by rw [← q, e]))]
      · rw [if_neg e, if_neg e]
        exact iGet_append k k' v r h2
theorem iGet_set {k : Str} (k' : Str) (v : Int) : ∀ {M : Mi} {i : Nat}, iIdx k M = some i → iGet k' (M.set i (k, v)) = if k' = k then v else iGet k' M
  | [], _, h => by simp [iIdx] at h
  | p :: r, i, h => by
    rw [iIdx] at h
    split at h
    · rename_i hk
      simp at h
      subst h
      simp only [List.set_cons_zero, iGet]
      by_cases e : k' = k
      · simp [e]
      · have : ¬ k' = p.1 := by rw [← hk]; exact e
        simp [e, this]
    · rename_i hk
      cases h2 : iIdx k r with
      | none => rw [h2] at h; simp at h
      | some i' =>
        rw [h2] at h
        simp at h
        subst h
        have ih := iGet_set k' v h2
        simp only [List.set_cons_succ, iGet, ih]
        by_cases e : k' = p.1
        · have : ¬ k' = k := fun q => hk (by rw [← q, e])
          simp [e, this]
          intro q
          exact absurd (q ▸ rfl) hk
        · simp [e]
theorem iGet_put (M : Mi) (k k' : Str) (v : Int) : iGet k' (iPut M k v) = if k' = k then v else iGet k' M := by
  unfold iPut
  cases h : iIdx k M with
  | some i => exact iGet_set k' v h
  | none => exact iGet_append k k' v M h
theorem iKs_put (M : Mi) (k : Str) (v : Int) : iKs (iPut M k v) = match iIdx k M with | some _ => iKs M | none => iKs M ++ [.str k] := by
  unfold iPut
  cases h : iIdx k M with
  | none => simp [iKs]
  | some i =>
    have hw := iIdx_some h
    obtain ⟨hi, hw⟩ := List.getElem?_eq_some_iff.1 hw
    simp only
    unfold iKs
    rw [List.map_set]
    apply List.ext_getElem
    · simp
    · intro j h1 h2
      rw [List.getElem_set]
      by_cases e : i = j
      · subst e; simp [hw]
      · simp [e]
theorem iVs_put (M : Mi) (k : Str) (v : Int) : iVs (iPut M k v) = match iIdx k M with | some i => (iVs M).set i (.c (ci v)) | none => iVs M ++ [.c (ci v)] := by
  unfold iPut
  cases h : iIdx k M with
  | none => simp [iVs]
  | some i =>
    simp only
    unfold iVs
    rw [List.map_set]
theorem iVs_get {M : Mi} {k : Str} {i : Nat} (h : iIdx k M = some i) : (iVs M)[i]? = some (.c (ci (iGet k M))) := by
  have := iIdx_some h
  simp [iVs, this]
theorem under_iVs (n : Nat) (M : Mi) : underL n (iVs M) = true := by
  unfold iVs
  induction M with
  | nil => rfl
  | cons p r ih => simpa [underL, LV.under] using ih
/-- A look into the map. -/
theorem look_mi (k : Str) (M : Mi) : (findK (.one 1) (.str k) (iKs M) = some none ∧ iGet k M = 0) ∨ (∃ i, findK (.one 1) (.str k) (iKs M) = some (some i) ∧ (iVs M)[i]? = some (.c (ci (iGet k M)))) := by
  have hf := findK_mi k M
  cases ia : iIdx k M with
  | none => rw [ia] at hf; exact .inl ⟨hf, iIdx_none ia⟩
  | some i => rw [ia] at hf; exact .inr ⟨i, hf, iVs_get ia⟩
theorem put_mi (k : Str) (v : Int) (M : Mi) : (findK (.one 1) (.str k) (iKs M) = some none ∧ iKs M ++ [.str k] = iKs (iPut M k v) ∧ iVs M ++ [.c (ci v)] = iVs (iPut M k v)) ∨ (∃ i, findK (.one 1) (.str k) (iKs M) = some (some i) ∧ iKs M = iKs (iPut M k v) ∧ (iVs M).set i (.c (ci v)) = iVs (iPut M k v) ∧ i < (iVs M).length) := by
  have hf := findK_mi k M
  have h1 := iKs_put M k v
  have h2 := iVs_put M k v
  cases ia : iIdx k M with
  | none => rw [ia] at hf h1 h2; exact .inl ⟨hf, h1.symm, h2.symm⟩
  | some i => rw [ia] at hf h1 h2; exact .inr ⟨i, hf, h1.symm, h2.symm, (List.getElem?_eq_some_iff.1 (iVs_get ia)).1⟩
end LM.G6
namespace LM.G6
open Go LM
variable {P : Nat → Option SFunc} [Has P]
def MI (M : Mi) : LB := .map (iKs M) (iVs M) false
def iVC (M : Mi) : List CV := M.map fun p => ci p.2
theorem iVs_eq (M : Mi) : iVs M = (iVC M).map LV.c := by simp [iVs, iVC]
theorem cntS_snoc (s : Str) (pre : List Stt) (x : Stt) : cntS s (pre ++ [x]) = cntS s pre + (if x.nation = s then 1 else 0) := by rw [cntS_append]; simp [cntS]
theorem seg102a (x : Stt) (M : Mi) (b : Str) (l L I : CV) (hx : iGet x.nation M + 1 ≤ 1000000 ∧ 0 ≤ iGet x.nation M) :
    execS P (limS P) c102_n6 ⟨[.map 0, .c (.str b), .ptr 1 0 0, .c l, .c L, .c I], [MI M, XB x 0]⟩ = some (.normal, ⟨[.map 0, .c (.str b), .ptr 1 0 0, .c l, .c L, .c I], [MI (iPut M x.nation (iGet x.nation M + 1)), XB x 0]⟩) := by
  have hk : ∀ s, keyOk (.one 1) (CV.str s) = true := fun _ => rfl
  have hw : IntKind.i64.wrap (iGet x.nation M + 1) = iGet x.nation M + 1 := wrap64 (by omega) (by omega)
  have hw1 : IntKind.i64.wrap (0 + 1) = 1 := rfl
  have hw2 : IntKind.i64.wrap 1 = 1 := rfl
  obtain ⟨nm, nt, sd⟩ := x
  simp only [XB, MI] at *
  rcases look_mi nt M with ⟨f1, e1⟩ | ⟨i, f1, e1⟩
  · rw [e1]
    rcases put_mi nt (0 + 1) M with ⟨q1, q2, q3⟩ | ⟨j, q1, q2, q3, q4⟩
    · simp at q2 q3
      simp [hk, f1, hw2, q2, q3]
    · rw [q1] at f1; cases f1
  · rcases put_mi nt (iGet nt M + 1) M with ⟨q1, q2, q3⟩ | ⟨j, q1, q2, q3, q4⟩
    · rw [q1] at f1; cases f1
    · have : i = j := by rw [q1] at f1; simpa using f1.symm
      subst this
      rw [← q2]
      obtain ⟨_, e1'⟩ := List.getElem?_eq_some_iff.1 e1
      simp [hk, f1, e1', hw, q3, q4]
theorem seg102b (x : Stt) (M : Mi) (b : Str) (l L I : CV) :
    execS P (limS P) c102_n8 ⟨[.map 0, .c (.str b), .ptr 1 0 0, .c l, .c L, .c I], [MI M, XB x 0]⟩ = some (.normal, ⟨[.map 0, .c (.str b), .ptr 1 0 0, .c l, .c L, .c I, .c (.bool (decide (iGet b M < iGet x.nation M)))], [MI M, XB x 0]⟩) := by
  have hk : ∀ s, keyOk (.one 1) (CV.str s) = true := fun _ => rfl
  obtain ⟨nm, nt, sd⟩ := x
  simp only [XB, MI] at *
  rcases look_mi nt M with ⟨f1, e1⟩ | ⟨i, f1, e1⟩ <;> rcases look_mi b M with ⟨f2, e2⟩ | ⟨j, f2, e2⟩
  · simp [hk, f1, e1, f2, e2]
  · obtain ⟨_, e2'⟩ := List.getElem?_eq_some_iff.1 e2
    simp [hk, f1, e1, f2, e2, e2']
  · obtain ⟨_, e1'⟩ := List.getElem?_eq_some_iff.1 e1
    simp [hk, f1, e1, e1', f2, e2]
  · obtain ⟨_, e1'⟩ := List.getElem?_eq_some_iff.1 e1
    obtain ⟨_, e2'⟩ := List.getElem?_eq_some_iff.1 e2
    simp [hk, f1, e1, e1', f2, e2, e2']
/-- The nation with the most starters, and how many each nation has. -/
structure Great (l : List Stt) (M : Mi) (b : Str) : Prop where
  cnt : ∀ s, iGet s M = cntS s l
  top : ∀ s, cntS s l ≤ cntS b l
theorem L102 : ∀ (r pre : List Stt) (M : Mi) (b : Str), (pre ++ r).length < 1000 → Great pre M b →
    ∃ M' b', Great (pre ++ r) M' b' ∧ execS P (limS P) c102_l0 ⟨[.map 0, .c (.str b), .c (.slice ((pre ++ r).map Stt.enc)), .c (ci (pre ++ r).length), .c (ci pre.length)], [MI M]⟩ = some (.exit 0, ⟨[.map 0, .c (.str b')], [MI M']⟩) := by
  intro r
  induction r with
  | nil =>
    intro pre M b h hG
    refine ⟨M, b, by simpa using hG, ?_⟩
    rw [r102_l0]
    simp [c102_l0b]
  | cons x r ih =>
    intro pre M b h hG
    have hc := cntS_bound x.nation pre
    have hx : iGet x.nation M + 1 ≤ 1000000 ∧ 0 ≤ iGet x.nation M := by rw [hG.cnt]; simp at h; omega
    have sa := seg102a (P := P) x M b
    have sb := seg102b (P := P) x (iPut M x.nation (iGet x.nation M + 1)) b
    have hG' : Great (pre ++ [x]) (iPut M x.nation (iGet x.nation M + 1)) (if iGet x.nation (iPut M x.nation (iGet x.nation M + 1)) > iGet b (iPut M x.nation (iGet x.nation M + 1)) then x.nation else b) := by
      have hcnt : ∀ s, iGet s (iPut M x.nation (iGet x.nation M + 1)) = cntS s (pre ++ [x]) := by
        intro s
        rw [iGet_put, cntS_snoc, hG.cnt, hG.cnt]
        by_cases e : s = x.nation
        · simp [e]
        · have e' : ¬ x.nation = s := fun q => e q.symm
          simp [e, e']
      refine ⟨hcnt, ?_⟩
      intro s
      rw [hcnt, hcnt]
      have ht := hG.top s
      have h1 := cntS_snoc s pre x
      have h2 := cntS_snoc b pre x
      have h3 := cntS_snoc x.nation pre x
      rw [if_pos rfl] at h3
      split
      · rename_i q
        by_cases e : x.nation = s
        · rw [e]; omega
        · rw [if_neg e] at h1
          split at h2 <;> omega
      · rename_i q
        by_cases e : x.nation = s
        · rw [← e]; omega
        · rw [if_neg e] at h1
          split at h2 <;> omega
    have hx' := fun (l L I : CV) => sa l L I hx
    generalize iPut M x.nation (iGet x.nation M + 1) = M1 at *
    obtain ⟨M', b', g1, g2⟩ := ih (pre ++ [x]) M1 _ (by simpa using h) hG'
    refine ⟨M', b', by simpa using g1, ?_⟩
    simp [Stt.enc] at h
    have hw : IntKind.i64.wrap (↑pre.length + 1) = ↑pre.length + 1 := wrap64 (by omega) (by omega)
    have hlt : (pre.length : Int) < pre.length + (r.length + 1) := by omega
    have hXB : LB.cells 0 [.c (.str x.name), .c (.str x.nation), .c (ci x.seed)] 0 = XB x 0 := rfl
    have hXB2 : (some (XB x 0)) = some (LB.cells 0 [.c (.str x.name), .c (.str x.nation), .c (ci x.seed)] 0) := rfl
    have hu : ∀ n, underB n [MI M1] = true := fun n => by simp [MI, underB, LB.under, under_iVs]
    rw [r102_l0]
    by_cases q : iGet b M1 < iGet x.nation M1
    · rw [if_pos q] at g2
      simp [Stt.enc] at g2
      simp [c102_l0b, hw, hlt, Stt.enc, hXB, hXB2, hx', sb, hu, q, g2, -c102_n6, -c102_n8]
    · rw [if_neg q] at g2
      simp [Stt.enc] at g2
      simp [c102_l0b, hw, hlt, Stt.enc, hXB, hx', sb, hu, q, g2, -c102_n6, -c102_n8]
end LM.G6
namespace LM.G6
open Go LM
variable {P : Nat → Option SFunc} [Has P]
def mEn (M : Mi) : CV := .map (iKs M) (iVC M)
theorem S102 (l : List Stt) (h : l.length < 1000) : ∃ M b, Great l M b ∧ fn P 102 [.slice (l.map Stt.enc)] = some (.tuple [.str b, mEn M]) := by
  obtain ⟨M, b, hG, hL⟩ := L102 (P := P) l [] [] [] (by simpa using h) ⟨fun s => by simp [iGet, cntS], fun s => by simp [cntS]⟩
  have e0 : MI [] = .map [] [] false := rfl
  rw [e0] at hL
  simp at hL hG
  refine ⟨M, b, hG, ?_⟩
  have hm := fun h => mapH_map_c 37 (iVC M) h
  have hfz : frz 39 (.map 0) [.map (iKs M) ((iVC M).map LV.c) false] = some (mEn M, [.map (iKs M) ((iVC M).map LV.c) true]) := by
    have := frz_succ_map 38 0 [.map (iKs M) ((iVC M).map LV.c) false]
    simp only [List.getElem?_cons_zero, hm, bnd_some] at this
    exact this
  rw [u102]
  simp [c102, hL, resV, mkTuple, MI, iVs_eq, hfz]
theorem look_mC (k : Str) (M : Mi) : (findK (.one 1) (.str k) (iKs M) = some none ∧ iGet k M = 0) ∨ (∃ i, findK (.one 1) (.str k) (iKs M) = some (some i) ∧ (iVC M)[i]? = some (ci (iGet k M))) := by
  rcases look_mi k M with h | ⟨i, h1, h2⟩
  · exact .inl h
  · refine .inr ⟨i, h1, ?_⟩
    rw [iVs_eq, List.getElem?_map] at h2
    cases q : (iVC M)[i]? with
    | none => rw [q] at h2; cases h2
    | some v => rw [q] at h2; simpa using h2
theorem Great.most {l : List Stt} {M : Mi} {b : Str} (h : Great l M b) : cntS b l = mostS l := by
  have key : ∀ (r : List Stt) (m : Int), 0 ≤ m → m ≤ cntS b l → maxS l r m ≤ cntS b l := by
    intro r
    induction r with
    | nil => intro m _ h1; exact h1
    | cons x r ih =>
      intro m h0 h1
      have := h.top x.nation
      have := cntS_bound x.nation l
      exact ih _ (by omega) (by omega)
  have lo : ∀ (r : List Stt) (m : Int), m ≤ maxS l r m := by
    intro r
    induction r with
    | nil => intro m; exact Int.le_refl _
    | cons x r ih => intro m; have := ih (max m (cntS x.nation l)); simp only [maxS]; omega
  have hi : ∀ (r : List Stt) (m : Int) (x : Stt), x ∈ r → cntS x.nation l ≤ maxS l r m := by
    intro r
    induction r with
    | nil => intro m x hx; cases hx
    | cons y r ih =>
      intro m x hx
      simp only [maxS]
      rcases List.mem_cons.1 hx with rfl | hx
      · have := lo r (max m (cntS x.nation l)); omega
      · exact ih _ x hx
  have hc := cntS_bound b l
  have h1 := key l 0 (by omega) (by omega)
  have h2 : cntS b l ≤ mostS l := by
    by_cases hz : cntS b l = 0
    · have := lo l 0; unfold mostS; omega
    · have : ∃ x ∈ l, x.nation = b := by
        by_cases hn : ∃ x ∈ l, x.nation = b
        · exact hn
        · exfalso
          apply hz
          have : ∀ r : List Stt, (∀ x ∈ r, ¬ x.nation = b) → cntS b r = 0 := by
            intro r
            induction r with
            | nil => intro _; rfl
            | cons y r ih =>
              intro hy
              simp only [cntS]
              rw [if_neg (hy y (by simp)), ih (fun x hx => hy x (by simp [hx]))]
              rfl
          exact this l (fun x hx q => hn ⟨x, hx, q⟩)
      obtain ⟨x, hx, rfl⟩ := this
      exact hi l 0 x hx
  unfold mostS at *
  omega
end LM.G6
namespace LM.G6
open Go LM
variable {P : Nat → Option SFunc} [Has P]
theorem bl_irr : ∀ x : Str, Op.bytesLess x x = false
  | [] => rfl
  | a :: x => by simp [Op.bytesLess, bl_irr x]
theorem bl_asym : ∀ x y : Str, Op.bytesLess x y = true → Op.bytesLess y x = false
  | [], [], h => by simp [Op.bytesLess] at h
  | [], b :: y, _ => rfl
  | a :: x, [], h => by simp [Op.bytesLess] at h
  | a :: x, b :: y, h => by
    have ih := bl_asym x y
    simp only [Op.bytesLess, Bool.or_eq_true, Bool.and_eq_true, decide_eq_true_eq, beq_iff_eq, UInt8.lt_iff_toNat_lt] at h
    simp only [Op.bytesLess, Bool.or_eq_false_iff, decide_eq_false_iff_not, Bool.and_eq_false_iff, UInt8.lt_iff_toNat_lt]
    rcases h with h | ⟨rfl, h⟩
    · refine ⟨by omega, .inl ?_⟩
      simp only [beq_eq_false_iff_ne]
      intro q; subst q; omega
    · exact ⟨by omega, .inr (ih h)⟩
theorem bl_tri : ∀ x y : Str, Op.bytesLess x y = false → Op.bytesLess y x = false → x = y
  | [], [], _, _ => rfl
  | [], b :: y, h, _ => by simp [Op.bytesLess] at h
  | a :: x, [], _, h => by simp [Op.bytesLess] at h
  | a :: x, b :: y, h1, h2 => by
    simp only [Op.bytesLess, Bool.or_eq_false_iff, decide_eq_false_iff_not, Bool.and_eq_false_iff, UInt8.lt_iff_toNat_lt, beq_eq_false_iff_ne] at h1 h2
    have e : a = b := UInt8.toNat_inj.1 (by omega)
    subst e
    have e2 := bl_tri x y (by simpa using h1.2) (by simpa using h2.2)
    rw [e2]
theorem bl_split : ∀ x y z : Str, Op.bytesLess x z = true → Op.bytesLess x y = true ∨ Op.bytesLess y z = true
  | _, _, [], h => by simp [Op.bytesLess] at h
  | [], [], c :: z, _ => .inr rfl
  | [], b :: y, c :: z, _ => .inl rfl
  | a :: x, [], c :: z, _ => .inr rfl
  | a :: x, b :: y, c :: z, h => by
    have ih := bl_split x y z
    simp only [Op.bytesLess, Bool.or_eq_true, Bool.and_eq_true, decide_eq_true_eq, beq_iff_eq, UInt8.lt_iff_toNat_lt] at h ⊢
    rcases h with h | ⟨rfl, h⟩
    · by_cases h1 : a.toNat < b.toNat
      · exact .inl (.inl h1)
      · exact .inr (.inl (by omega))
    · by_cases h1 : a.toNat < b.toNat
      · exact .inl (.inl h1)
      · by_cases h2 : b.toNat < a.toNat
        · exact .inr (.inl h2)
        · have e : a = b := UInt8.toNat_inj.1 (by omega)
          subst e
          rcases ih h with q | q
          · exact .inl (.inr ⟨rfl, q⟩)
          · exact .inr (.inr ⟨rfl, q⟩)
def cmpS (a b : Str) : Int := if Op.bytesLess a b then -1 else if Op.bytesLess b a then 1 else 0
theorem S105 (a b : Str) : fn P 105 [.str a, .str b] = some (ci (cmpS a b)) := by
  have e : ∀ x : Str, fn P 145 [.str x] = some (.bool false) := fun x => by rw [u145]; simp [c145]
  rw [u105]
  unfold cmpS
  cases h1 : Op.bytesLess a b
  · cases h2 : Op.bytesLess b a
    · have := bl_tri a b h1 h2
      subst this
      simp [c105, e, h1]
    · have hne : ¬ a = b := by
        intro q; subst q; rw [bl_irr] at h2; cases h2
      have hne2 : (a == b) = false := by simpa using hne
      simp [c105, e, h1, hne, hne2]
  · simp [c105, e, h1]
theorem S107 (x : Stt) (n : Str) : fn P 107 [x.enc, .str n] = some (ci (if x.nation = n then 0 else 1)) := by
  rw [u107]
  by_cases h : x.nation = n <;> simp [c107, Stt.enc, h]
theorem S104b (a b : Int) : fn P 104 [.slice [ci a, ci b]] = some (ci (firstE [a, b])) := by
  rw [u104]
  simp [c104]
  rw [r104_l0]
  by_cases ha : a = 0
  · simp [c104_l0b, ha, wrap64]
    rw [r104_l0]
    by_cases hb : b = 0
    · simp [c104_l0b, hb, wrap64]
      rw [r104_l0]
      simp [c104_l0b, firstE]
    · simp [c104_l0b, firstE, hb]
  · simp [c104_l0b, ha, firstE]
end LM.G6
namespace LM.G6
open Go LM
variable {P : Nat → Option SFunc} [Has P]
theorem natS_fin (l : List Stt) (i : Fin l.length) : l[i.val].nation = natS l i.val := by
  unfold natS
  simp
def cmpN (l : List Stt) (M : Mi) (i j : Fin l.length) : Int := firstE [cmpI (iGet (natS l j.val) M) (iGet (natS l i.val) M), cmpS (natS l i.val) (natS l j.val)]
theorem cmp103 (l : List Stt) (M : Mi) : CmpOk P (eF l.length) 103 [.ptr [.slice (l.map Stt.enc)] 0, .ptr [mEn M] 0] (cmpN l M) := by
  intro pos q x y h
  have hk : ∀ s, keyOk (.one 1) (CV.str s) = true := fun _ => rfl
  have hx := natS_fin l x
  have hy := natS_fin l y
  have x1 : (x.val : Int) < l.length := by have := x.isLt; omega
  have y1 : (y.val : Int) < l.length := by have := y.isLt; omega
  have x2 := x.isLt
  have y2 := y.isLt
  have e96 := S96c (P := P) (iGet (natS l y.val) M) (iGet (natS l x.val) M)
  have e105 := S105 (P := P) (natS l x.val) (natS l y.val)
  have e104 := S104b (P := P) (cmpI (iGet (natS l y.val) M) (iGet (natS l x.val) M)) (cmpS (natS l x.val) (natS l y.val))
  have e : fn P 103 [ci x.val, ci y.val, .ptr [.slice (l.map Stt.enc)] 0, .ptr [mEn M] 0] = some (ci (cmpN l M x y)) := by
    rw [u103]
    unfold cmpN
    rcases look_mC (natS l x.val) M with ⟨f1, g1⟩ | ⟨i, f1, g1⟩ <;> rcases look_mC (natS l y.val) M with ⟨f2, g2⟩ | ⟨j, f2, g2⟩
    · rw [g1, g2] at e96 e104 ⊢
      simp [c103, mEn, hk, x1, y1, x2, y2, Stt.enc, hx, hy, f1, f2, e96, e105, e104]
    · rw [g1] at e96 e104 ⊢
      obtain ⟨_, g2'⟩ := List.getElem?_eq_some_iff.1 g2
      simp [c103, mEn, hk, x1, y1, x2, y2, Stt.enc, hx, hy, f1, f2, g2, g2', e96, e105, e104]
    · rw [g2] at e96 e104 ⊢
      obtain ⟨_, g1'⟩ := List.getElem?_eq_some_iff.1 g1
      simp [c103, mEn, hk, x1, y1, x2, y2, Stt.enc, hx, hy, f1, f2, g1, g1', e96, e105, e104]
    · obtain ⟨_, g1'⟩ := List.getElem?_eq_some_iff.1 g1
      obtain ⟨_, g2'⟩ := List.getElem?_eq_some_iff.1 g2
      simp [c103, mEn, hk, x1, y1, x2, y2, Stt.enc, hx, hy, f1, f2, g1, g1', g2, g2', e96, e105, e104]
  simp [eF, e]
def othS (s : Str) (n : Str) : Int := if s = n then 0 else 1
def cmpO (l : List Stt) (b : Str) (i j : Fin l.length) : Int := cmpI (othS (natS l i.val) b) (othS (natS l j.val) b)
theorem cmp106 (l : List Stt) (b : Str) : CmpOk P (eF l.length) 106 [.ptr [.slice (l.map Stt.enc)] 0, .ptr [.str b] 0] (cmpO l b) := by
  intro pos q x y h
  have hx := natS_fin l x
  have hy := natS_fin l y
  have x1 : (x.val : Int) < l.length := by have := x.isLt; omega
  have y1 : (y.val : Int) < l.length := by have := y.isLt; omega
  have x2 := x.isLt
  have y2 := y.isLt
  have e107x := S107 (P := P) l[x.val] b
  have e107y := S107 (P := P) l[y.val] b
  have e96 := S96c (P := P) (othS (natS l x.val) b) (othS (natS l y.val) b)
  rw [hx] at e107x
  rw [hy] at e107y
  have ex : (if natS l x.val = b then (0 : Int) else 1) = othS (natS l x.val) b := rfl
  have ey : (if natS l y.val = b then (0 : Int) else 1) = othS (natS l y.val) b := rfl
  rw [ex] at e107x
  rw [ey] at e107y
  simp only [Stt.enc] at e107x e107y
  have e : fn P 106 [ci x.val, ci y.val, .ptr [.slice (l.map Stt.enc)] 0, .ptr [.str b] 0] = some (ci (cmpO l b x y)) := by
    rw [u106]
    unfold cmpO
    simp [c106, x1, y1, x2, y2, Stt.enc, e107x, e107y, e96]
  simp [eF, e]
end LM.G6
namespace LM.G6
open Go LM
variable {P : Nat → Option SFunc} [Has P]
def LX (l : List Stt) (z : Nat) : LB := .cells 0 [.c (.slice (l.map Stt.enc))] z
def BX (b : Str) (z : Nat) : LB := .cells 0 [.c (.str b)] z
def CX (M : Mi) (z : Nat) : LB := .cells 0 [.c (mEn M)] z
theorem iota_succ (n : Nat) : iota (n + 1) = iota n ++ [(n : Int)] := by simp [iota, List.range_succ]
theorem L34_0 (l : List Stt) (hl : l.length < 1000) (b : Str) (M : Mi) : ∀ (k i : Nat), i + k = l.length →
    execS P (limS P) c34_l0 ⟨[.ptr 0 0 0, .ptr 2 0 0, .ptr 3 0 0, .slice 4 (1 + i) 0 i none none, .c (ci l.length), .c (ci i)], [LX l 0, .cells 1 [] 0, BX b 0, CX M 0, .cells (1 + i) (cI (iota i)) 0]⟩ =
      some (.exit 0, ⟨[.ptr 0 0 0, .ptr 2 0 0, .ptr 3 0 0, .slice 4 (1 + l.length) 0 l.length none none], [LX l 0, .cells 1 [] 0, BX b 0, CX M 0, .cells (1 + l.length) (cI (iota l.length)) 0]⟩) := by
  intro k
  induction k with
  | zero =>
    intro i h
    have : i = l.length := by omega
    subst this
    rw [r34_l0]
    simp [c34_l0b]
  | succ k ih =>
    intro i h
    have ih := ih (i + 1) (by omega)
    have ha := appI none (b := 4) (g := 1 + i) (ys := iota i) (xs := [(i : Int)]) (h := [LX l 0, .cells 1 [] 0, BX b 0, CX M 0, .cells (1 + i) (cI (iota i)) 0]) rfl (by simp [iota_length]; omega)
    rw [← iota_succ, iota_length] at ha
    have hw : IntKind.i64.wrap ((i : Int) + 1) = (i : Int) + 1 := wrap64 (by omega) (by omega)
    have hlt : (i : Int) < l.length := by omega
    have e1 : 1 + (i + 1) = 1 + i + 1 := by omega
    rw [e1] at ih
    simp at ih ha
    rw [r34_l0]
    simp only [LX, BX, CX] at *
    simp [c34_l0b, hw, hlt, ha, under_cI, ih]
/-- Two halves, woven. -/
def weave (O : List Int) (m : Nat) : Nat → Nat → List Int
  | 0, _ => []
  | j + 1, k => O.getD k 0 :: (if m + k < O.length then O.getD (m + k) 0 :: weave O m j (k + 1) else weave O m j (k + 1))
theorem appC {b : Nat} {ys pad : List Int} {x : Int} {h : Heap} {n k : Nat} (hb : h[b]? = some (.cells 1 (cI (ys ++ 0 :: pad)) 0)) (hn : n = ys.length + pad.length + 1) (hk : k = ys.length) (hs : n < 1000000) :
    appendOp none none 8 (.slice b 1 0 k none (some n)) (.c (.slice [ci x])) h = some (.slice b 1 0 (k + 1) none (some n), h.set b (.cells 1 (cI (ys ++ x :: pad)) 0)) := by
  subst hk
  have h1 : sliceCells none h (.c (.slice [ci x])) = some (1, [.c (ci x)]) := rfl
  have hz : szOf none = 1 := rfl
  have hset : setCells (cI (ys ++ 0 :: pad)) ys.length [.c (ci x)] = cI (ys ++ x :: pad) := by
    have e : cI (ys ++ 0 :: pad) = cI ys ++ .c (ci 0) :: cI pad := by simp [cI]
    have e2 : cI (ys ++ x :: pad) = cI ys ++ .c (ci x) :: cI pad := by simp [cI]
    rw [e, e2]
    simp [setCells, cI_length]
  simp only [appendOp, h1, hb, hz]
  rw [if_neg (show ¬ ((!flatAll [LV.c (ci x)]) = true) from fun q => by cases q), if_neg (by simp), if_neg (by simp; omega), if_pos (by omega), if_pos (by simp [cI_length]; omega)]
  simp only [Nat.zero_add, Nat.mul_one, hset]
  rfl
theorem L34_1 (l : List Stt) (b : Str) (M : Mi) (z0 z2 z3 g : Nat) (O : List Int) (hO : O.length = l.length) (m : Nat) (hm : m ≤ l.length) (hl : l.length < 1000) : ∀ (j k : Nat) (ys pad : List Int), k + j = m → ys.length + pad.length = l.length → (weave O m j k).length ≤ pad.length → (∀ x ∈ pad, x = 0) →
    ∃ pad', ys.length + (weave O m j k).length + pad'.length = l.length ∧ execS P (limS P) c34_l1 ⟨[.ptr 0 0 0, .slice 4 g 0 l.length none none, .slice 5 1 0 ys.length none (some l.length), .c (ci m), .c (ci m), .c (ci k)], [LX l z0, .cells 1 [] 0, BX b z2, CX M z3, .cells g (cI O) 0, .cells 1 (cI (ys ++ pad)) 0]⟩ =
      some (.exit 2, ⟨[.slice 5 1 0 (ys ++ weave O m j k).length none (some l.length)], [LX l z0, .cells 1 [] 0, BX b z2, CX M z3, .cells g (cI O) 0, .cells 1 (cI ((ys ++ weave O m j k) ++ pad')) 0]⟩) := by
  intro j
  induction j with
  | zero =>
    intro k ys pad h1 h2 h3 h4
    have : k = m := by omega
    subst this
    refine ⟨pad, by simpa [weave] using h2, ?_⟩
    rw [r34_l1]
    simp [c34_l1b, weave]
  | succ j ih =>
    intro k ys pad h1 h2 h3 h4
    have gk : O[k]? = some (O.getD k 0) := by simp [List.getD_eq_getElem?_getD, List.getElem?_eq_getElem (show k < O.length by omega)]
    have gk2 := cI_get (xs := O) (i := k) (by omega)
    have hkO : k < (cI O).length := by rw [cI_length]; omega
    cases pad with
    | nil => rw [weave] at h3; split at h3 <;> simp at h3
    | cons p pad =>
      have hp := h4 p (by simp)
      subst hp
      have ha := appC (b := 5) (ys := ys) (pad := pad) (x := O.getD k 0) (h := [LX l z0, .cells 1 [] 0, BX b z2, CX M z3, .cells g (cI O) 0, .cells 1 (cI (ys ++ 0 :: pad)) 0]) (n := l.length) rfl (by simp at h2; omega) rfl (by omega)
      have hw : IntKind.i64.wrap ((k : Int) + 1) = (k : Int) + 1 := wrap64 (by omega) (by omega)
      have hw2 : IntKind.i64.wrap ((m : Int) + k) = ((m + k : Nat) : Int) := by rw [Int.natCast_add]; exact wrap64 (by omega) (by omega)
      have hlt : (k : Int) < m := by omega
      have hkl : (k : Int) < l.length := by omega
      have hkn : k < l.length := by omega
      rw [weave]
      by_cases hq : m + k < O.length
      · rw [if_pos hq]
        rw [weave, if_pos hq] at h3
        cases pad with
        | nil => simp at h3
        | cons p pad =>
          have hp := h4 p (by simp)
          subst hp
          have gq2 := cI_get (xs := O) (i := m + k) hq
          have hqi : ((m + k : Nat) : Int) < l.length := by omega
          have hb := appC (b := 5) (ys := ys ++ [O.getD k 0]) (pad := pad) (x := O.getD (m + k) 0) (h := [LX l z0, .cells 1 [] 0, BX b z2, CX M z3, .cells g (cI O) 0, .cells 1 (cI ((ys ++ [O.getD k 0]) ++ 0 :: pad)) 0]) (n := l.length) (k := ys.length + 1) rfl (by simp at h2 ⊢; omega) (by simp) (by omega)
          obtain ⟨pad', i1, i2⟩ := ih (k + 1) (ys ++ [O.getD k 0, O.getD (m + k) 0]) pad (by omega) (by simp at h2 ⊢; omega) (by simp at h3; omega) (fun x hx => h4 x (by simp [hx]))
          refine ⟨pad', by simp at i1 ⊢; omega, ?_⟩
          simp only [LX, BX, CX] at *
          generalize O.getD k 0 = u at *
          generalize O.getD (m + k) 0 = v at *
          simp at ha hb i2 hqi hw2
          have gq3 := List.getElem?_eq_some_iff.2 ⟨(by rw [cI_length]; exact hq), gq2⟩
          have j1 : 0 ≤ (m : Int) + k := by omega
          have t1 : ((m : Int) + k).toNat = m + k := by omega
          have e1 : ys.length + ((weave O m j (k + 1)).length + 1 + 1) = ys.length + (weave O m j (k + 1)).length + 1 + 1 := by omega
          have e2 : ys.length + ((weave O m j (k + 1)).length + 2) = ys.length + (weave O m j (k + 1)).length + 1 + 1 := by omega
          have e3 : ys.length + 1 + 1 + (weave O m j (k + 1)).length = ys.length + (weave O m j (k + 1)).length + 1 + 1 := by omega
          simp only [e1, e2, e3] at i2
          rw [r34_l1]
          simp [c34_l1b, hw, hw2, hlt, hkl, hkn, hkO, gk2, hqi, hq, hO, cI_length, gq2, gq3, j1, t1, ha, hb, under_cI, i2, e1]
      · rw [if_neg hq]
        rw [weave, if_neg hq] at h3
        simp at h3
        obtain ⟨pad', i1, i2⟩ := ih (k + 1) (ys ++ [O.getD k 0]) pad (by omega) (by simp at h2 ⊢; omega) h3 (fun x hx => h4 x (by simp [hx]))
        refine ⟨pad', by simp at i1 ⊢; omega, ?_⟩
        have hq' : ¬ (m : Int) + k < l.length := by omega
        simp only [LX, BX, CX] at *
        generalize O.getD k 0 = u at *
        simp at ha i2 hw2
        have e1 : ys.length + ((weave O m j (k + 1)).length + 1) = ys.length + 1 + (weave O m j (k + 1)).length := by omega
        simp only [e1] at i2
        rw [r34_l1]
        simp [c34_l1b, hw, hw2, hlt, hkl, hkn, hkO, gk2, hq, hq', hO, cI_length, ha, under_cI, i2, e1]
end LM.G6
namespace LM.G6
open Go LM
variable {P : Nat → Option SFunc} [Has P]
theorem L34_2 (l : List Stt) (b : Str) (M : Mi) (z0 z2 z3 g : Nat) (O : List Int) (hO : O.length = l.length) (m : Nat) (hm : m ≤ l.length) (hl : l.length < 1000) : ∀ (j k : Nat) (ys pad : List Int), k + j = m → ys.length + pad.length = l.length → (weave O m j k).length ≤ pad.length → (∀ x ∈ pad, x = 0) →
    ∃ pad', ys.length + (weave O m j k).length + pad'.length = l.length ∧ execS P (limS P) c34_l2 ⟨[.ptr 0 0 0, .slice 4 g 0 l.length none none, .slice 5 1 0 ys.length none (some l.length), .c (ci m), .c (ci m), .c (ci k)], [LX l z0, .cells 1 [] 0, BX b z2, CX M z3, .cells g (cI O) 0, .cells 1 (cI (ys ++ pad)) 0]⟩ =
      some (.exit 4, ⟨[.slice 5 1 0 (ys ++ weave O m j k).length none (some l.length)], [LX l z0, .cells 1 [] 0, BX b z2, CX M z3, .cells g (cI O) 0, .cells 1 (cI ((ys ++ weave O m j k) ++ pad')) 0]⟩) := by
  intro j
  induction j with
  | zero =>
    intro k ys pad h1 h2 h3 h4
    have : k = m := by omega
    subst this
    refine ⟨pad, by simpa [weave] using h2, ?_⟩
    rw [r34_l2]
    simp [c34_l2b, weave]
  | succ j ih =>
    intro k ys pad h1 h2 h3 h4
    have gk : O[k]? = some (O.getD k 0) := by simp [List.getD_eq_getElem?_getD, List.getElem?_eq_getElem (show k < O.length by omega)]
    have gk2 := cI_get (xs := O) (i := k) (by omega)
    have hkO : k < (cI O).length := by rw [cI_length]; omega
    cases pad with
    | nil => rw [weave] at h3; split at h3 <;> simp at h3
    | cons p pad =>
      have hp := h4 p (by simp)
      subst hp
      have ha := appC (b := 5) (ys := ys) (pad := pad) (x := O.getD k 0) (h := [LX l z0, .cells 1 [] 0, BX b z2, CX M z3, .cells g (cI O) 0, .cells 1 (cI (ys ++ 0 :: pad)) 0]) (n := l.length) rfl (by simp at h2; omega) rfl (by omega)
      have hw : IntKind.i64.wrap ((k : Int) + 1) = (k : Int) + 1 := wrap64 (by omega) (by omega)
      have hw2 : IntKind.i64.wrap ((m : Int) + k) = ((m + k : Nat) : Int) := by rw [Int.natCast_add]; exact wrap64 (by omega) (by omega)
      have hlt : (k : Int) < m := by omega
      have hkl : (k : Int) < l.length := by omega
      have hkn : k < l.length := by omega
      rw [weave]
      by_cases hq : m + k < O.length
      · rw [if_pos hq]
        rw [weave, if_pos hq] at h3
        cases pad with
        | nil => simp at h3
        | cons p pad =>
          have hp := h4 p (by simp)
          subst hp
          have gq2 := cI_get (xs := O) (i := m + k) hq
          have hqi : ((m + k : Nat) : Int) < l.length := by omega
          have hb := appC (b := 5) (ys := ys ++ [O.getD k 0]) (pad := pad) (x := O.getD (m + k) 0) (h := [LX l z0, .cells 1 [] 0, BX b z2, CX M z3, .cells g (cI O) 0, .cells 1 (cI ((ys ++ [O.getD k 0]) ++ 0 :: pad)) 0]) (n := l.length) (k := ys.length + 1) rfl (by simp at h2 ⊢; omega) (by simp) (by omega)
          obtain ⟨pad', i1, i2⟩ := ih (k + 1) (ys ++ [O.getD k 0, O.getD (m + k) 0]) pad (by omega) (by simp at h2 ⊢; omega) (by simp at h3; omega) (fun x hx => h4 x (by simp [hx]))
          refine ⟨pad', by simp at i1 ⊢; omega, ?_⟩
          simp only [LX, BX, CX] at *
          generalize O.getD k 0 = u at *
          generalize O.getD (m + k) 0 = v at *
          simp at ha hb i2 hqi hw2
          have gq3 := List.getElem?_eq_some_iff.2 ⟨(by rw [cI_length]; exact hq), gq2⟩
          have j1 : 0 ≤ (m : Int) + k := by omega
          have t1 : ((m : Int) + k).toNat = m + k := by omega
          have e1 : ys.length + ((weave O m j (k + 1)).length + 1 + 1) = ys.length + (weave O m j (k + 1)).length + 1 + 1 := by omega
          have e2 : ys.length + ((weave O m j (k + 1)).length + 2) = ys.length + (weave O m j (k + 1)).length + 1 + 1 := by omega
          have e3 : ys.length + 1 + 1 + (weave O m j (k + 1)).length = ys.length + (weave O m j (k + 1)).length + 1 + 1 := by omega
          simp only [e1, e2, e3] at i2
          rw [r34_l2]
          simp [c34_l2b, hw, hw2, hlt, hkl, hkn, hkO, gk2, hqi, hq, hO, cI_length, gq2, gq3, j1, t1, ha, hb, under_cI, i2, e1]
      · rw [if_neg hq]
        rw [weave, if_neg hq] at h3
        simp at h3
        obtain ⟨pad', i1, i2⟩ := ih (k + 1) (ys ++ [O.getD k 0]) pad (by omega) (by simp at h2 ⊢; omega) h3 (fun x hx => h4 x (by simp [hx]))
        refine ⟨pad', by simp at i1 ⊢; omega, ?_⟩
        have hq' : ¬ (m : Int) + k < l.length := by omega
        simp only [LX, BX, CX] at *
        generalize O.getD k 0 = u at *
        simp at ha i2 hw2
        have e1 : ys.length + ((weave O m j (k + 1)).length + 1) = ys.length + 1 + (weave O m j (k + 1)).length := by omega
        simp only [e1] at i2
        rw [r34_l2]
        simp [c34_l2b, hw, hw2, hlt, hkl, hkn, hkO, gk2, hq, hq', hO, cI_length, ha, under_cI, i2, e1]
/-- Two lists, woven: one of the first, one of the second. -/
def wv : List Int → List Int → List Int
  | a :: A, b :: B => a :: b :: wv A B
  | a :: A, [] => a :: wv A []
  | [], _ => []
theorem wv_perm : ∀ A B : List Int, B.length ≤ A.length → (wv A B).Perm (A ++ B)
  | [], [], _ => by simp [wv]
  | [], b :: B, h => by simp at h
  | a :: A, [], h => by
    have := wv_perm A [] (by simp)
    simp only [wv]
    simpa using this
  | a :: A, b :: B, h => by
    have ih := wv_perm A B (by simpa using h)
    simp only [wv, List.cons_append]
    refine List.Perm.cons a ?_
    exact (List.Perm.cons b ih).trans List.perm_middle.symm
theorem weave_wv (O : List Int) (m : Nat) (hm : m ≤ O.length) : ∀ (j k : Nat), k + j = m → weave O m j k = wv ((O.take m).drop k) (O.drop (m + k)) := by
  intro j
  induction j with
  | zero =>
    intro k h
    have : (O.take m).drop k = [] := by apply List.drop_eq_nil_of_le; simp; omega
    rw [this]
    simp [weave, wv]
  | succ j ih =>
    intro k h
    have hk : k < (O.take m).length := by simp; omega
    have e1 : (O.take m).drop k = O.getD k 0 :: (O.take m).drop (k + 1) := by
      rw [List.drop_eq_getElem_cons hk]
      congr 1
      simp [List.getD_eq_getElem?_getD, List.getElem?_eq_getElem (show k < O.length by omega)]
    rw [weave, ih (k + 1) (by omega), e1]
    by_cases hq : m + k < O.length
    · have e2 : O.drop (m + k) = O.getD (m + k) 0 :: O.drop (m + (k + 1)) := by
        rw [List.drop_eq_getElem_cons hq]
        congr 1
        simp [List.getD_eq_getElem?_getD, List.getElem?_eq_getElem hq]
      rw [if_pos hq, e2]
      simp [wv]
    · have e2 : O.drop (m + k) = [] := List.drop_eq_nil_of_le (by omega)
      have e3 : O.drop (m + (k + 1)) = [] := List.drop_eq_nil_of_le (by omega)
      rw [if_neg hq, e2, e3]
      simp [wv]
theorem weave_perm (O : List Int) (m : Nat) (hm : m ≤ O.length) (h2 : O.length ≤ 2 * m) : (weave O m m 0).Perm O := by
  rw [weave_wv O m hm m 0 (by omega)]
  have := wv_perm (O.take m) (O.drop m) (by simp; omega)
  simpa using this
def ltN (l : List Stt) (M : Mi) (a b : Int) : Bool := decide (iGet (natS l b) M < iGet (natS l a) M) || (decide (iGet (natS l b) M = iGet (natS l a) M) && Op.bytesLess (natS l a) (natS l b))
def ltO (l : List Stt) (s : Str) (a b : Int) : Bool := decide (othS (natS l a) s < othS (natS l b) s)
def ordA (l : List Stt) (M : Mi) (s : Str) : List Int := sortI (ltO l s) [] (sortI (ltN l M) [] (iota l.length))
def halfA (l : List Stt) (M : Mi) (s : Str) : Nat := if 2 * iGet s M > l.length + 1 then (iGet s M).toNat else (l.length + 1) / 2
def apartL (l : List Stt) (M : Mi) (s : Str) : List Int := weave (ordA l M s) (halfA l M s) (halfA l M s) 0
theorem cmpN_lt (l : List Stt) (M : Mi) (i j : Fin l.length) : ltC (cmpN l M) i j = ltN l M i.val j.val := by
  unfold ltC cmpN ltN cmpI cmpS
  by_cases h1 : iGet (natS l j.val) M < iGet (natS l i.val) M
  · simp [firstE, h1]
  · by_cases h2 : iGet (natS l i.val) M < iGet (natS l j.val) M
    · have h3 : ¬ iGet (natS l j.val) M = iGet (natS l i.val) M := by omega
      simp [firstE, h1, h2, h3]
    · have h3 : iGet (natS l j.val) M = iGet (natS l i.val) M := by omega
      cases h4 : Op.bytesLess (natS l i.val) (natS l j.val) <;> cases h5 : Op.bytesLess (natS l j.val) (natS l i.val) <;> simp [firstE, h3]
theorem cmpO_lt (l : List Stt) (s : Str) (i j : Fin l.length) : ltC (cmpO l s) i j = ltO l s i.val j.val := by
  unfold ltC cmpO ltO
  exact decide_eq_decide.2 (cmpI_neg _ _)
theorem swoN (l : List Stt) (M : Mi) : Swo (ltN l M) := by
  refine ⟨?_, ?_⟩
  · intro x y h
    unfold ltN at h ⊢
    simp only [Bool.or_eq_true, Bool.and_eq_true, decide_eq_true_eq] at h
    simp only [Bool.or_eq_false_iff, Bool.and_eq_false_iff, decide_eq_false_iff_not]
    rcases h with h | ⟨h1, h2⟩
    · exact ⟨by omega, .inl (by omega)⟩
    · exact ⟨by omega, .inr (bl_asym _ _ h2)⟩
  · intro x y z h
    unfold ltN at h ⊢
    simp only [Bool.or_eq_true, Bool.and_eq_true, decide_eq_true_eq] at h ⊢
    by_cases h1 : iGet (natS l y) M < iGet (natS l x) M
    · exact .inl (.inl h1)
    · by_cases h2 : iGet (natS l z) M < iGet (natS l y) M
      · exact .inr (.inl h2)
      · rcases h with h | ⟨h3, h4⟩
        · omega
        · rcases bl_split _ (natS l y) _ h4 with q | q
          · exact .inl (.inr ⟨by omega, q⟩)
          · exact .inr (.inr ⟨by omega, q⟩)
theorem swoO (l : List Stt) (s : Str) : Swo (ltO l s) := swo_key fun a => othS (natS l a) s
theorem swo_fin {n : Nat} {lt : Int → Int → Bool} (h : Swo lt) {c : Fin n → Fin n → Int} (hc : ∀ i j, ltC c i j = lt i.val j.val) : Swo (ltC c) :=
  ⟨fun x y q => by rw [hc] at q ⊢; exact h.asym _ _ q, fun x y z q => by rw [hc] at q ⊢; rw [hc]; exact h.split _ _ _ q⟩
theorem iota_fin (n : Nat) : ∃ F : List (Fin n), F.map (fun i => (i.val : Int)) = iota n := to_fin (by
  intro x hx
  unfold iota at hx
  obtain ⟨k, hk, rfl⟩ := List.mem_map.1 hx
  have := List.mem_range.1 hk
  omega)
end LM.G6
namespace LM.G6
open Go LM
variable {P : Nat → Option SFunc} [Has P]
theorem ordA_perm (l : List Stt) (M : Mi) (s : Str) : (ordA l M s).Perm (iota l.length) := by
  have h1 := sortI_perm (lt := ltO l s) [] (sortI (ltN l M) [] (iota l.length))
  have h2 := sortI_perm (lt := ltN l M) [] (iota l.length)
  exact h1.trans (by simpa using h2)
theorem ordA_len (l : List Stt) (M : Mi) (s : Str) : (ordA l M s).length = l.length := by rw [(ordA_perm l M s).length_eq, iota_length]
theorem halfA_le {l : List Stt} {M : Mi} {s : Str} (hG : Great l M s) : halfA l M s ≤ l.length ∧ l.length ≤ 2 * halfA l M s := by
  have hb := cntS_bound s l
  have := hG.cnt s
  unfold halfA
  split <;> omega
theorem apartL_perm {l : List Stt} {M : Mi} {s : Str} (hG : Great l M s) : (apartL l M s).Perm (iota l.length) := by
  obtain ⟨h1, h2⟩ := halfA_le hG
  have := ordA_len l M s
  exact (weave_perm (ordA l M s) (halfA l M s) (by omega) (by omega)).trans (ordA_perm l M s)
theorem S34 (l : List Stt) (hl : ∀ x ∈ l, x.ok) (hs : (l.length : Int) < 9223372036854775807) (hn : startersE l = 0 → l.length < 40) :
    (startersE l = 0 → ∃ M b, Great l M b ∧ fn P 34 [.slice (l.map Stt.enc)] = some (.tuple [.slice ((apartL l M b).map ci), ci 0])) ∧ (startersE l ≠ 0 → fn P 34 [.slice (l.map Stt.enc)] = some (.tuple [.slice [], ci (startersE l)])) := by
  have e19 := S19 (P := P) l hl hs
  refine ⟨fun h1 => ?_, fun h1 => ?_⟩
  · rw [h1] at e19
    have hnn := hn h1
    obtain ⟨M, b, hG, e102⟩ := S102 (P := P) l (by omega)
    refine ⟨M, b, hG, ?_⟩
    obtain ⟨F, hF⟩ := iota_fin l.length
    have hFl : F.length = l.length := by have := congrArg List.length hF; simpa [iota_length] using this
    have h0 := L34_0 (P := P) l (by omega) b M l.length 0 (by omega)
    have s1 := S94 (P := P) (eF_ok l.length) (swo_fin (swoN l M) (cmpN_lt l M)) (cmp103 l M) (H := [LX l 1, .cells 1 [] 0, BX b 0, CX M 1, .dead]) (b := 4) (g := 1 + l.length) (cp := none) (by simp) (by omega) F l.length (by omega) hFl.symm
    have m1 : (sortI (ltC (cmpN l M)) [] F).map (fun i => (i.val : Int)) = sortI (ltN l M) [] (iota l.length) := by
      rw [← hF]
      exact (sortI_map (lt := ltC (cmpN l M)) (lt' := ltN l M) (fun i : Fin l.length => (i.val : Int)) (fun x y => (cmpN_lt l M x y).symm) [] F).symm
    have hF2l : (sortI (ltC (cmpN l M)) [] F).length = l.length := by rw [sortI_length]; simpa using hFl
    have s2 := S94 (P := P) (eF_ok l.length) (swo_fin (swoO l b) (cmpO_lt l b)) (cmp106 l b) (H := [LX l 1, .cells 1 [] 0, BX b 1, CX M 1, .dead]) (b := 4) (g := 1 + l.length) (cp := none) (by simp) (by omega) (sortI (ltC (cmpN l M)) [] F) l.length (by omega) hF2l.symm
    have m2 : (sortI (ltC (cmpO l b)) [] (sortI (ltC (cmpN l M)) [] F)).map (fun i => (i.val : Int)) = ordA l M b := by
      unfold ordA
      rw [← m1]
      exact (sortI_map (lt := ltC (cmpO l b)) (lt' := ltO l b) (fun i : Fin l.length => (i.val : Int)) (fun x y => (cmpO_lt l b x y).symm) [] (sortI (ltC (cmpN l M)) [] F)).symm
    rw [cI_fin, cI_fin, hF, m1] at s1
    rw [cI_fin, cI_fin, m1, m2] at s2
    obtain ⟨hh1, hh2⟩ := halfA_le hG
    have hol := ordA_len l M b
    have hap := (apartL_perm hG).length_eq
    rw [iota_length] at hap
    have hap' : (weave (ordA l M b) (halfA l M b) (halfA l M b) 0).length = l.length := hap
    have hc := hG.cnt b
    have hcb := cntS_bound b l
    have e0 : cI (iota 0) = [] := rfl
    have hk : keyOk (.one 1) (CV.str b) = true := rfl
    have erep : List.replicate l.length (LV.c (CV.int .i64 0)) = cI (List.replicate l.length 0) := by simp [cI]
    obtain ⟨pad1, i1, a1⟩ := L34_1 (P := P) l b M 1 1 1 (1 + l.length) (ordA l M b) hol (halfA l M b) hh1 (by omega) (halfA l M b) 0 [] (List.replicate l.length 0) (by omega) (by simp) (by simp; omega) (by simp)
    obtain ⟨pad2, i2, a2⟩ := L34_2 (P := P) l b M 1 1 1 (1 + l.length) (ordA l M b) hol (halfA l M b) hh1 (by omega) (halfA l M b) 0 [] (List.replicate l.length 0) (by omega) (by simp) (by simp; omega) (by simp)
    have p1 : pad1 = [] := by rw [hap'] at i1; simpa using i1
    have p2 : pad2 = [] := by rw [hap'] at i2; simpa using i2
    subst p1
    subst p2
    have hA : weave (ordA l M b) (halfA l M b) (halfA l M b) 0 = apartL l M b := rfl
    rw [hA] at a1 a2
    have hr := fun X0 X1 X2 X3 X4 => resV_own (b := 5) (g := 1) (fz := 0) (e := none) (ys := (apartL l M b).map ci) (h := [X0, X1, X2, X3, X4, .cells 1 (cI (apartL l M b)) 0]) (len := l.length) (by rw [cellsOf_ints]; rfl) (intElems _) (by simp [hap]) (some l.length) (ci 0)
    simp only [e0] at h0
    simp only [List.nil_append] at a1 a2
    rw [← erep] at a1 a2
    simp [hap] at a1 a2 h0
    simp only [LX, BX, CX, mEn] at *
    simp only [List.set_cons_succ, List.set_cons_zero] at s1 s2
    have k1 : (l.length : Int) ≤ 9223372036854775807 := by omega
    have k2 : (l.length : Int) * 8 ≤ 140737488355328 := by omega
    have w1 : IntKind.i64.wrap (2 * cntS b l) = 2 * cntS b l := wrap64 (by omega) (by omega)
    have w2 : IntKind.i64.wrap ((l.length : Int) + 1) = (l.length : Int) + 1 := wrap64 (by omega) (by omega)
    have w0 : IntKind.i64.wrap 0 = 0 := rfl
    have t2 : ((l.length : Int) + 1).tdiv 2 = (((l.length + 1) / 2 : Nat) : Int) := rfl
    have w4 : IntKind.i64.wrap (((l.length + 1) / 2 : Nat) : Int) = (((l.length + 1) / 2 : Nat) : Int) := wrap64 (by omega) (by omega)
    rw [u34]
    by_cases hq : 2 * cntS b l > l.length + 1
    · have hh : (halfA l M b : Int) = cntS b l := by unfold halfA; rw [hc, if_pos hq]; omega
      rw [hh] at a1
      have hq' : (l.length : Int) + 1 < 2 * cntS b l := hq
      rcases look_mC b M with ⟨f1, e1⟩ | ⟨i, f1, e1⟩
      · omega
      · rw [hc] at e1
        obtain ⟨_, e1'⟩ := List.getElem?_eq_some_iff.1 e1
        simp [c34, c34_n36, e19, e102, h0, s1, s2, frzFuncs_nil, frzFuncs_c, frzFuncs_slice, frzFuncs_func, frz_func, k1, k2, hk, f1, e1, e1', w1, w2, hq', a1, hr]
    · have hh : halfA l M b = (l.length + 1) / 2 := by unfold halfA; rw [hc, if_neg hq]
      rw [hh] at a2
      have hq' : ¬ (l.length : Int) + 1 < 2 * cntS b l := hq
      generalize (l.length + 1) / 2 = q at *
      rcases look_mC b M with ⟨f1, e1⟩ | ⟨i, f1, e1⟩
      · have hq2 : ¬ (l.length : Int) + 1 < 0 := by omega
        simp [c34, c34_n36, e19, e102, h0, s1, s2, frzFuncs_nil, frzFuncs_c, frzFuncs_slice, frzFuncs_func, frz_func, k1, k2, hk, f1, w0, w2, hq2, t2, w4, a2, hr]
      · rw [hc] at e1
        obtain ⟨_, e1'⟩ := List.getElem?_eq_some_iff.1 e1
        simp [c34, c34_n36, e19, e102, h0, s1, s2, frzFuncs_nil, frzFuncs_c, frzFuncs_slice, frzFuncs_func, frz_func, k1, k2, hk, f1, e1, e1', w1, w2, hq', t2, w4, a2, hr]
  · rw [u34]
    simp [c34, e19, h1]
end LM.G6
namespace LM.G6
open Go LM
theorem cntS_count (s : Str) : ∀ l : List Stt, cntS s l = ((l.map (·.nation)).count s : Nat)
  | [] => by simp [cntS]
  | x :: r => by
    have ih := cntS_count s r
    simp only [cntS, List.map_cons, List.count_cons, ih]
    by_cases h : x.nation = s <;> simp [h] <;> omega
theorem iota_nat (l : List Stt) : (iota l.length).map (natS l) = l.map (·.nation) := by
  apply List.ext_getElem
  · simp [iota]
  · intro i h1 h2
    simp [iota, natS]
    have : i < l.length := by simpa using h2
    simp [this]
theorem cnt_perm {l : List Stt} {O : List Int} (h : O.Perm (iota l.length)) (s : Str) : cntS s l = ((O.map (natS l)).count s : Nat) := by
  rw [cntS_count, ← iota_nat, (h.map (natS l)).count_eq]
/-- By a truth value: those for whom it holds come first. -/
theorem part_ins {lt : Int → Int → Bool} {p : Int → Bool} (hlt : ∀ x y, lt x y = (p x && !p y)) : ∀ (U S : List Int), sortI lt (S.filter p ++ S.filter (fun a => !p a)) U = (S ++ U).filter p ++ (S ++ U).filter (fun a => !p a)
  | [], S => by simp [sortI]
  | x :: U, S => by
    have ih := part_ins hlt U (S ++ [x])
    have e : insS lt x (S.filter p ++ S.filter (fun a => !p a)) = (S ++ [x]).filter p ++ (S ++ [x]).filter (fun a => !p a) := by
      cases hp : p x
      · have h1 : (S ++ [x]).filter p = S.filter p := by simp [hp]
        have h2 : (S ++ [x]).filter (fun a => !p a) = S.filter (fun a => !p a) ++ [x] := by simp [hp]
        rw [h1, h2]
        have := insS_eq (lt := lt) (x := x) (A := S.filter p ++ S.filter (fun a => !p a)) (B := []) (fun y _ => by rw [hlt, hp]; rfl) (by simp)
        simpa using this
      · have h1 : (S ++ [x]).filter p = S.filter p ++ [x] := by simp [hp]
        have h2 : (S ++ [x]).filter (fun a => !p a) = S.filter (fun a => !p a) := by simp [hp]
        rw [h1, h2]
        have := insS_eq (lt := lt) (x := x) (A := S.filter p) (B := S.filter (fun a => !p a)) (fun y hy => by
          have hy2 := (List.mem_filter.1 hy).2
          rw [hlt, hy2]; simp) (fun y hy => by
          have hy2 := (List.mem_filter.1 hy).2
          rw [hlt, hp]; simpa using hy2)
        simpa using this
    rw [sortI, e, ih]
    simp
theorem ordA_split (l : List Stt) (M : Mi) (b : Str) : ordA l M b = (sortI (ltN l M) [] (iota l.length)).filter (fun a => decide (natS l a = b)) ++ (sortI (ltN l M) [] (iota l.length)).filter (fun a => !decide (natS l a = b)) := by
  unfold ordA
  have := part_ins (lt := ltO l b) (p := fun a => decide (natS l a = b)) (fun x y => by
    unfold ltO othS
    by_cases h1 : natS l x = b <;> by_cases h2 : natS l y = b <;> simp [h1, h2]) (sortI (ltN l M) [] (iota l.length)) []
  simpa using this
/-- The nations of the order: the greatest one first, and each one in one piece. -/
structure Blocks (N : List Str) (b : Str) : Prop where
  first : ∀ i s, N[i]? = some s → (i < N.count b ↔ s = b)
  piece : ∀ i j s, i ≤ j → N[i]? = some s → N[j]? = some s → j - i + 1 ≤ N.count s
theorem count_piece {N : List Str} {s : Str} {i j : Nat} (hij : i ≤ j) (hj : j < N.length) (h : ∀ k, i ≤ k → k ≤ j → N[k]? = some s) : j - i + 1 ≤ N.count s := by
  have hs : ((N.drop i).take (j - i + 1)) = List.replicate (j - i + 1) s := by
    apply List.ext_getElem
    · simp; omega
    · intro k h1 h2
      simp at h1 h2
      have := h (i + k) (by omega) (by omega)
      obtain ⟨_, e⟩ := List.getElem?_eq_some_iff.1 this
      simp [e]
  have hsub : ((N.drop i).take (j - i + 1)).Sublist N := (List.take_sublist _ _).trans (List.drop_sublist _ _)
  have := hsub.count_le s
  rw [hs, List.count_replicate_self] at this
  exact this
theorem ordA_blocks (l : List Stt) (M : Mi) (b : Str) (hM : ∀ s, iGet s M = cntS s l) : Blocks ((ordA l M b).map (natS l)) b := by
  have hsp := ordA_split l M b
  have hsrt := sortI_srt (swoN l M) [] (iota l.length) (by simp [Srt])
  generalize hS : sortI (ltN l M) [] (iota l.length) = S at hsp hsrt
  have hN : (ordA l M b).map (natS l) = (S.filter (fun a => decide (natS l a = b))).map (natS l) ++ (S.filter (fun a => !decide (natS l a = b))).map (natS l) := by rw [hsp, List.map_append]
  generalize hA : (S.filter (fun a => decide (natS l a = b))).map (natS l) = A at hN
  generalize hR : (S.filter (fun a => !decide (natS l a = b))).map (natS l) = R at hN
  have hAb : ∀ x ∈ A, x = b := by
    intro x hx
    rw [← hA] at hx
    obtain ⟨a, ha, rfl⟩ := List.mem_map.1 hx
    simpa using (List.mem_filter.1 ha).2
  have hRb : ∀ x ∈ R, x ≠ b := by
    intro x hx
    rw [← hR] at hx
    obtain ⟨a, ha, rfl⟩ := List.mem_map.1 hx
    simpa using (List.mem_filter.1 ha).2
  have hcA : A.count b = A.length := List.count_eq_length.2 (fun x hx => (hAb x hx).symm)
  have hcR : R.count b = 0 := List.count_eq_zero.2 (fun h => hRb b h rfl)
  have hcb : (A ++ R).count b = A.length := by rw [List.count_append, hcA, hcR]; rfl
  rw [hN]
  have hfirst : ∀ i s, (A ++ R)[i]? = some s → (i < (A ++ R).count b ↔ s = b) := by
    intro i s h
    rw [hcb]
    by_cases hi : i < A.length
    · rw [List.getElem?_append_left hi] at h
      have := hAb s (List.mem_of_getElem? h)
      simp [hi, this]
    · rw [List.getElem?_append_right (by omega)] at h
      have := hRb s (List.mem_of_getElem? h)
      simp [hi, this]
  refine ⟨hfirst, ?_⟩
  intro i j s hij h1 h2
  have hj : j < (A ++ R).length := (List.getElem?_eq_some_iff.1 h2).1
  by_cases hsb : s = b
  · subst hsb
    have := (hfirst j s h2).2 rfl
    refine count_piece hij hj (fun k k1 k2 => ?_)
    have hk : k < A.length := by omega
    rw [List.getElem?_append_left hk, List.getElem?_eq_getElem hk, hAb _ (List.getElem_mem hk)]
  · have hi : A.length ≤ i := by
      have : ¬ i < (A ++ R).count b := fun q => hsb ((hfirst i s h1).1 q)
      omega
    refine count_piece hij hj (fun k k1 k2 => ?_)
    rw [List.getElem?_append_right hi] at h1
    rw [List.getElem?_append_right (by omega)] at h2
    rw [List.getElem?_append_right (by omega)]
    rw [← hR] at h1 h2 ⊢
    have hF : (S.filter (fun a => !decide (natS l a = b))).Pairwise fun x y => ltN l M y x = false := List.Pairwise.filter _ hsrt
    generalize S.filter (fun a => !decide (natS l a = b)) = F at *
    rw [List.getElem?_map] at h1 h2 ⊢
    by_cases e1 : i = k
    · subst e1; exact h1
    · by_cases e2 : k = j
      · subst e2; exact h2
      · have hkF : k - A.length < F.length := by
          have : j - A.length < F.length := by
            by_cases q : j - A.length < F.length
            · exact q
            · rw [List.getElem?_eq_none (by omega)] at h2; cases h2
          omega
        have hjF : j - A.length < F.length := by
          by_cases q : j - A.length < F.length
          · exact q
          · rw [List.getElem?_eq_none (by omega)] at h2; cases h2
        have hiF : i - A.length < F.length := by omega
        have p1 := List.pairwise_iff_getElem.1 hF (i - A.length) (k - A.length) hiF hkF (by omega)
        have p2 := List.pairwise_iff_getElem.1 hF (k - A.length) (j - A.length) hkF hjF (by omega)
        rw [List.getElem?_eq_getElem hiF] at h1
        rw [List.getElem?_eq_getElem hjF] at h2
        rw [List.getElem?_eq_getElem hkF]
        simp at h1 h2 ⊢
        unfold ltN at p1 p2
        rw [h1] at p1
        rw [h2] at p2
        simp only [Bool.or_eq_false_iff, Bool.and_eq_false_iff, decide_eq_false_iff_not] at p1 p2
        refine bl_tri _ _ ?_ ?_
        · rcases p1.2 with q | q
          · omega
          · exact q
        · rcases p2.2 with q | q
          · omega
          · exact q
end LM.G6
namespace LM.G6
open Go LM
def wvG : List Str → List Str → List Str
  | a :: A, b :: B => a :: b :: wvG A B
  | a :: A, [] => a :: wvG A []
  | [], _ => []
theorem wv_map (f : Int → Str) : ∀ A B : List Int, (wv A B).map f = wvG (A.map f) (B.map f)
  | [], B => by simp [wv, wvG]
  | a :: A, [] => by have := wv_map f A []; simp [wv, wvG] at this ⊢; exact this
  | a :: A, b :: B => by simp [wv, wvG, wv_map f A B]
def hdE (l : List Str) (a : Str) : Int := match l with
  | b :: _ => if b = a then 1 else 0
  | [] => 0
theorem adjN_cons (a : Str) : ∀ l : List Str, adjN (a :: l) = hdE l a + adjN l
  | [] => rfl
  | b :: r => rfl
theorem wvG_rep (b : Str) : ∀ k : Nat, wvG (List.replicate k b) [] = List.replicate k b
  | 0 => rfl
  | k + 1 => by rw [List.replicate_succ, wvG, wvG_rep b k]
theorem adjN_rep (b : Str) : ∀ k : Nat, adjN (List.replicate (k + 1) b) = k
  | 0 => rfl
  | k + 1 => by
    rw [List.replicate_succ, adjN_cons, adjN_rep b k, List.replicate_succ]
    simp [hdE]
    omega
theorem adjN_great (b : Str) : ∀ (B : List Str) (k : Nat), (∀ x ∈ B, x ≠ b) → B.length + 1 ≤ k → adjN (wvG (List.replicate k b) B) = k - 1 - B.length
  | [], k, _, h => by
    obtain ⟨k', rfl⟩ : ∃ k', k = k' + 1 := ⟨k - 1, by simp at h; omega⟩
    rw [wvG_rep, adjN_rep]
    simp
  | x :: B, k, hx, h => by
    obtain ⟨k', rfl⟩ : ∃ k', k = k' + 1 + 1 := ⟨k - 2, by simp at h; omega⟩
    have ih := adjN_great b B (k' + 1) (fun y hy => hx y (by simp [hy])) (by simp at h; omega)
    have h0 := hx x (by simp)
    rw [List.replicate_succ, wvG, adjN_cons, adjN_cons, ih]
    have e1 : hdE (x :: wvG (List.replicate (k' + 1) b) B) b = 0 := by simp [hdE, h0]
    have e2 : hdE (wvG (List.replicate (k' + 1) b) B) x = 0 := by
      rw [List.replicate_succ]
      cases B with
      | nil => simp [wvG, hdE]; exact fun q => h0 q.symm
      | cons y B => simp [wvG, hdE]; exact fun q => h0 q.symm
    rw [e1, e2]
    simp
    omega
theorem adjN_none : ∀ (A B : List Str), (∀ (i : Nat) a b, A[i]? = some a → B[i]? = some b → a ≠ b) → (∀ (i : Nat) a b, B[i]? = some b → A[i + 1]? = some a → a ≠ b) → A.length ≤ B.length + 1 → adjN (wvG A B) = 0
  | [], B, _, _, _ => by simp [wvG, adjN]
  | [a], [], _, _, _ => by simp [wvG, adjN]
  | a :: a' :: A, [], _, _, h => by simp at h
  | a :: A, b :: B, h1, h2, h3 => by
    have ih := adjN_none A B (fun i x y p q => h1 (i + 1) x y (by simpa using p) (by simpa using q)) (fun i x y p q => h2 (i + 1) x y (by simpa using p) (by simpa using q)) (by simpa using h3)
    have d1 := h1 0 a b rfl rfl
    rw [wvG, adjN_cons, adjN_cons, ih]
    have e1 : hdE (b :: wvG A B) a = 0 := by simp [hdE]; exact fun q => d1 q.symm
    have e2 : hdE (wvG A B) b = 0 := by
      cases A with
      | nil => simp [wvG, hdE]
      | cons a' A =>
        have d2 := h2 0 a' b rfl rfl
        cases B <;> simp [wvG, hdE, d2]
    rw [e1, e2]
    rfl
theorem apart_adj {l : List Stt} {M : Mi} {b : Str} (hG : Great l M b) : adjN ((apartL l M b).map (natS l)) = fewS l := by
  have hB := ordA_blocks l M b hG.cnt
  have hlen := ordA_len l M b
  have hcnt := fun s => cnt_perm (ordA_perm l M b) s
  obtain ⟨hh1, hh2⟩ := halfA_le hG
  have hN : (apartL l M b).map (natS l) = wvG (((ordA l M b).map (natS l)).take (halfA l M b)) (((ordA l M b).map (natS l)).drop (halfA l M b)) := by
    unfold apartL
    rw [weave_wv (ordA l M b) (halfA l M b) (by omega) (halfA l M b) 0 (by omega), wv_map]
    simp
  have hNl : ((ordA l M b).map (natS l)).length = l.length := by simp [hlen]
  have hm := hG.most
  have hc := hG.cnt b
  have hcb := cntS_bound b l
  have htop := hG.top
  rw [hN]
  unfold fewS
  rw [← hm]
  have hhd : halfA l M b = if 2 * iGet b M > l.length + 1 then (iGet b M).toNat else (l.length + 1) / 2 := rfl
  rw [hc] at hhd
  generalize (ordA l M b).map (natS l) = N at *
  generalize halfA l M b = h at *
  have hb := hcnt b
  by_cases hq : 2 * cntS b l > l.length + 1
  · rw [if_pos hq] at hhd
    have hA : N.take h = List.replicate h b := by
      apply List.ext_getElem
      · simp; omega
      · intro i h1 h2
        simp at h1 h2
        have := (hB.first i (N[i]'(by omega)) (List.getElem?_eq_getElem (by omega))).1 (by omega)
        simp [this]
    have hR : ∀ x ∈ N.drop h, x ≠ b := by
      intro x hx
      obtain ⟨i, hi⟩ := List.mem_iff_getElem?.1 hx
      rw [List.getElem?_drop] at hi
      intro e
      have := (hB.first _ x hi).2 e
      omega
    rw [hA, adjN_great b _ h hR (by simp; omega)]
    simp
    omega
  · rw [if_neg hq] at hhd
    rw [adjN_none]
    · omega
    · intro i a c h1 h2
      rw [List.getElem?_take] at h1
      split at h1
      · rename_i hi
        rw [List.getElem?_drop] at h2
        intro e
        subst e
        have := hB.piece i (h + i) a (by omega) h1 h2
        have := htop a
        have := hcnt a
        omega
      · cases h1
    · intro i a c h1 h2
      rw [List.getElem?_take] at h2
      split at h2
      · rename_i hi
        rw [List.getElem?_drop] at h1
        intro e
        subst e
        have p1 := hB.piece (i + 1) (h + i) a (by omega) h2 h1
        have p2 := htop a
        have p3 := hcnt a
        have p4 := (hB.first (i + 1) a h2).1 (by omega)
        have p5 := (hB.first (h + i) a h1).2 p4
        omega
      · cases h2
    · simp; omega
/-- No order has fewer neighbours of one nation. -/
theorem adjN_lower (b : Str) : ∀ X : List Str, (2 * (X.count b : Nat) : Int) ≤ adjN X + X.length + 1 ∧ (X.head? = some b → (2 * (X.count b : Nat) : Int) ≤ adjN X + X.length + 1) ∧ (X.head? ≠ some b → (2 * (X.count b : Nat) : Int) ≤ adjN X + X.length)
  | [] => by simp [adjN]
  | x :: X => by
    have ih := adjN_lower b X
    have hcc : (x :: X).count b = X.count b + if x = b then 1 else 0 := by rw [List.count_cons]; simp
    rw [adjN_cons, hcc]
    have hb := adjN_bound X
    by_cases hx : x = b
    · subst hx
      have : hdE X x = 1 ∧ X.head? = some x ∨ hdE X x = 0 ∧ X.head? ≠ some x := by
        cases X with
        | nil => right; simp [hdE]
        | cons y X => by_cases q : y = x <;> simp [hdE, q]
      have goal : (2 * ((X.count x + if x = x then 1 else 0 : Nat) : Nat) : Int) ≤ hdE X x + adjN X + (x :: X).length + 1 := by
        simp
        rcases this with ⟨t1, t2⟩ | ⟨t1, t2⟩
        · have := ih.2.1 t2; omega
        · have := ih.2.2 t2; omega
      exact ⟨goal, fun _ => goal, fun q => by simp at q⟩
    · have h0 : 0 ≤ hdE X x := by unfold hdE; split <;> (try split) <;> omega
      have goal : (2 * ((X.count b + if x = b then 1 else 0 : Nat) : Nat) : Int) ≤ hdE X x + adjN X + (x :: X).length := by
        simp [hx]
        have := ih.1
        omega
      exact ⟨by omega, fun q => by omega, fun _ => goal⟩
end LM.G6
namespace LM.G6
open Go LM
variable {P : Nat → Option SFunc} [Has P]
/-- A row: where its block lies, and its numbers. -/
abbrev Row := Option Nat × List Int
def rowV : Row → LV
  | (none, _) => .nil
  | (some j, xs) => .slice (j + 1 + 1) xs.length 0 xs.length none none
structure RInv (T : List LB) (R : List Row) : Prop where
  ne : ∀ (k j : Nat) (xs : List Int), R[k]? = some (some j, xs) → xs ≠ []
  empty : ∀ (k : Nat) (xs : List Int), R[k]? = some (none, xs) → xs = []
  own : ∀ (k j : Nat) (xs : List Int), R[k]? = some (some j, xs) → T[j]? = some (.cells xs.length (cI xs) 0)
  one : ∀ (k k' j : Nat) (xs xs' : List Int), R[k]? = some (some j, xs) → R[k']? = some (some j, xs') → k = k'
theorem RInv.lt {T : List LB} {R : List Row} (h : RInv T R) {k j : Nat} {xs : List Int} (hk : R[k]? = some (some j, xs)) : j < T.length := (List.getElem?_eq_some_iff.1 (h.own k j xs hk)).1
theorem RInv.start (n : Nat) : RInv [] (List.replicate n (none, [])) := by
  have : ∀ (k : Nat) (o : Option Nat) (xs : List Int), (List.replicate n ((none, []) : Row))[k]? = some (o, xs) → o = none ∧ xs = [] := by
    intro k o xs h
    rw [List.getElem?_replicate] at h
    split at h
    · simp at h; exact ⟨h.1.symm, h.2⟩
    · cases h
  exact ⟨fun k j xs h => (by cases (this k _ xs h).1), fun k xs h => (this k _ xs h).2, fun k j xs h => (by cases (this k _ xs h).1), fun k k' j xs xs' h _ => (by cases (this k _ xs h).1)⟩
theorem RInv.new {T : List LB} {R : List Row} (h : RInv T R) (a : Nat) (ha : a < R.length) (i : Int) (W : List LB) : RInv (T ++ W ++ [.cells 1 (cI [i]) 0]) (R.set a (some (T.length + W.length), [i])) := by
  have hget : ∀ (k : Nat) (o : Option Nat) (xs : List Int), (R.set a (some (T.length + W.length), [i]))[k]? = some (o, xs) → (k = a ∧ o = some (T.length + W.length) ∧ xs = [i]) ∨ (k ≠ a ∧ R[k]? = some (o, xs)) := by
    intro k o xs hk
    rw [List.getElem?_set] at hk
    split at hk
    · rename_i e
      subst e
      simp at hk
      exact .inl ⟨rfl, hk.1.symm, hk.2.symm⟩
    · rename_i e
      exact .inr ⟨fun q => e q.symm, hk⟩
  refine ⟨?_, ?_, ?_, ?_⟩
  · intro k j xs hk
    rcases hget k (some j) xs hk with ⟨_, _, rfl⟩ | ⟨_, q⟩
    · simp
    · exact h.ne k j xs q
  · intro k xs hk
    rcases hget k none xs hk with ⟨_, q, _⟩ | ⟨_, q⟩
    · cases q
    · exact h.empty k xs q
  · intro k j xs hk
    rcases hget k (some j) xs hk with ⟨_, q, rfl⟩ | ⟨_, q⟩
    · have q : j = T.length + W.length := by simpa using q
      subst q
      rw [List.getElem?_append_right (by simp)]
      simp
    · have := h.lt q
      rw [List.append_assoc, List.getElem?_append_left this]
      exact h.own k j xs q
  · intro k k' j xs xs' h1 h2
    rcases hget k (some j) xs h1 with ⟨a1, q1, _⟩ | ⟨a1, q1⟩ <;> rcases hget k' (some j) xs' h2 with ⟨a2, q2, _⟩ | ⟨a2, q2⟩
    · rw [a1, a2]
    · have e : j = T.length + W.length := by simpa using q1
      have := h.lt q2
      omega
    · have e : j = T.length + W.length := by simpa using q2
      have := h.lt q1
      omega
    · exact h.one k k' j xs xs' q1 q2
theorem RInv.more {T : List LB} {R : List Row} (h : RInv T R) (a j : Nat) (xs : List Int) (ha : R[a]? = some (some j, xs)) (i : Int) (W : List LB) : RInv (T.set j (.cells (xs.length + 1) (cI (xs ++ [i])) 0) ++ W) (R.set a (some j, xs ++ [i])) := by
  have hal : a < R.length := (List.getElem?_eq_some_iff.1 ha).1
  have hj := h.lt ha
  have hget : ∀ (k : Nat) (o : Option Nat) (ys : List Int), (R.set a (some j, xs ++ [i]))[k]? = some (o, ys) → (k = a ∧ o = some j ∧ ys = xs ++ [i]) ∨ (k ≠ a ∧ R[k]? = some (o, ys)) := by
    intro k o ys hk
    rw [List.getElem?_set] at hk
    split at hk
    · rename_i e
      subst e
      simp at hk
      exact .inl ⟨rfl, hk.1.symm, hk.2.symm⟩
    · rename_i e
      exact .inr ⟨fun q => e q.symm, hk⟩
  refine ⟨?_, ?_, ?_, ?_⟩
  · intro k j' ys hk
    rcases hget k (some j') ys hk with ⟨_, _, rfl⟩ | ⟨_, q⟩
    · simp
    · exact h.ne k j' ys q
  · intro k ys hk
    rcases hget k none ys hk with ⟨_, q, _⟩ | ⟨_, q⟩
    · cases q
    · exact h.empty k ys q
  · intro k j' ys hk
    rcases hget k (some j') ys hk with ⟨_, q, rfl⟩ | ⟨hne, q⟩
    · have q : j' = j := by simpa using q
      subst q
      rw [List.getElem?_append_left (by simpa using hj), List.getElem?_set_self hj]
      simp
    · have hlt := h.lt q
      have hne2 : j ≠ j' := by
        intro e
        subst e
        exact hne (h.one k a j ys xs q ha)
      rw [List.getElem?_append_left (by simpa using hlt), List.getElem?_set_ne hne2]
      exact h.own k j' ys q
  · intro k k' j' ys ys' h1 h2
    rcases hget k (some j') ys h1 with ⟨a1, q1, _⟩ | ⟨a1, q1⟩ <;> rcases hget k' (some j') ys' h2 with ⟨a2, q2, _⟩ | ⟨a2, q2⟩
    · rw [a1, a2]
    · have e : j' = j := by simpa using q1
      subst e
      rw [a1]
      exact h.one a k' j' xs ys' ha q2
    · have e : j' = j := by simpa using q2
      subst e
      rw [a2]
      exact h.one k a j' ys xs q1 ha
    · exact h.one k k' j' ys ys' q1 q2
theorem bump_get {h : Heap} {k g z : Nat} {cs : List LV} (b t : Nat) (hk : h[k]? = some (.cells g cs z)) : ∃ z', (bump b t h)[k]? = some (.cells g cs z') := by
  unfold bump
  by_cases e : b = k
  · subst e
    rw [hk]
    exact ⟨_, List.getElem?_set_self (List.getElem?_eq_some_iff.1 hk).1⟩
  · split
    · rw [List.getElem?_set_ne e]
      exact ⟨z, hk⟩
    · exact ⟨z, hk⟩
/-- Rows that are frozen. -/
theorem mapH_rows (m : Nat) (hF : ∀ (b g z : Nat) (xs : List Int) (h : Heap), h[b]? = some (.cells g (cI xs) z) → frz m (.slice b g 0 xs.length none none) h = some (.slice (xs.map ci), bump b (xs.length * szOf none) h)) (hn : ∀ h, frz m .nil h = some (.slice [], h)) : ∀ (R : List Row) (h : Heap), (∀ o xs, (o, xs) ∈ R → match o with
      | none => xs = []
      | some j => ∃ z, h[j + 1 + 1]? = some (.cells xs.length (cI xs) z)) → ∃ h', mapH (frz m) (R.map rowV) h = some (R.map fun r => .slice (r.2.map ci), h')
  | [], h, _ => ⟨h, by simp⟩
  | (none, xs) :: R, h, hR => by
    have h0 := hR none xs (by simp)
    simp only at h0
    subst h0
    obtain ⟨h', ih⟩ := mapH_rows m hF hn R h (fun o xs hx => hR o xs (by simp [hx]))
    refine ⟨h', ?_⟩
    simp [mapH_cons, rowV, hn, ih]
  | (some j, xs) :: R, h, hR => by
    have hz := hR (some j) xs (by simp)
    simp only at hz
    obtain ⟨z, hz⟩ := hz
    obtain ⟨h', ih⟩ := mapH_rows m hF hn R (bump (j + 1 + 1) (xs.length * szOf none) h) (fun o ys hx => by
      have := hR o ys (by simp [hx])
      cases o with
      | none => exact this
      | some j' =>
        obtain ⟨z', hz'⟩ := this
        exact bump_get _ _ hz')
    refine ⟨h', ?_⟩
    rw [List.map_cons, mapH_cons]
    simp only [rowV]
    rw [hF _ _ _ _ _ hz]
    simp only [bnd_some, ih, List.map_cons]
theorem frzI38 (b g z : Nat) (xs : List Int) (h : Heap) (hb : h[b]? = some (.cells g (cI xs) z)) : frz 38 (.slice b g 0 xs.length none none) h = some (.slice (xs.map ci), bump b (xs.length * szOf none) h) := by
  have h3 := cellsOf_length (intElems xs)
  have h4 := chunk_cellsOf (intElems xs)
  have hz : szOf none = 1 := rfl
  rw [frz_38_slice, hb]
  simp only [Nat.zero_add, List.drop_zero, hz, Nat.mul_one]
  rw [if_pos ⟨trivial, by rw [cI_length]; omega⟩]
  have : (cI xs).take xs.length = cellsOf (xs.map ci) := by rw [← cellsOf_ints]; rw [List.take_of_length_le]; rw [cellsOf_ints, cI_length]; omega
  rw [this]
  unfold cellsOf
  rw [mapH_map_c 36]
  rw [List.length_map] at h4
  simp only [bnd_some, h4]
/-- The groups, filled one after another. -/
def atG (n p : Nat) : Nat := if p / n % 2 = 1 then n - 1 - p % n else p % n
def fillG (n : Nat) : Nat → List Int → List (List Int) → List (List Int)
  | _, [], G => G
  | p, i :: r, G => fillG n (p + 1) r (G.set (atG n p) (G.getD (atG n p) [] ++ [i]))
theorem atG_lt {n p : Nat} (h : 0 < n) : atG n p < n := by
  have := Nat.mod_lt p h
  unfold atG
  split <;> omega
end LM.G6
namespace LM.G6
open Go LM
variable {P : Nat → Option SFunc} [Has P]
/-- Both slots that a slot becomes. -/
def two (m : Nat) (s : Int) : List Int := [s, 2 * (m : Int) + 1 - s]
end LM.G6
namespace LM.G6
open Go LM
variable {P : Nat → Option SFunc} [Has P]
structure Rc where
  a : Str
  b : Str
  w : Int
def Rc.enc (x : Rc) : CV := .agg [.str x.a, .str x.b, ci x.w]
theorem Rc.elem (x : Rc) : Elem (some 3) x.enc := ⟨_, rfl, rfl, by simp⟩
theorem Rc.elems (l : List Rc) : ∀ x ∈ l.map Rc.enc, Elem (some 3) x := by
  intro x hx
  obtain ⟨y, _, rfl⟩ := List.mem_map.1 hx
  exact y.elem
end LM.G6
namespace LM.G6
open Go LM
variable {P : Nat → Option SFunc} [Has P]
def RH (T : List LB) (R : List Row) (cp : Nat) : Heap := .cells 1 [] 0 :: .cells 1 (R.map rowV) 0 :: T
theorem appNil (i : Int) (h : Heap) : appendOp none none 8 .nil (.c (.slice [ci i])) h = some (.slice h.length 1 0 1 none none, h ++ [.cells 1 (cI [i]) 0]) := rfl
theorem underL_no {n : Nat} {v : LV} (hv : v.under n = false) : ∀ {l : List LV}, v ∈ l → underL n l = false
  | [], h => by cases h
  | w :: l, h => by
    rw [underL]
    rcases List.mem_cons.1 h with rfl | h
    · rw [hv]; rfl
    · rw [underL_no hv h]; simp
theorem under_rows {n a : Nat} {R : List Row} {v : LV} (ha : a < R.length) (hv : v.under n = false) : underL n ((R.map rowV).set a v) = false :=
  underL_no hv (List.mem_set (by simpa using ha) _)
theorem L21 (n : Nat) (hn : 0 < n) (hn2 : n ≤ 16) : ∀ (r pre : List Int) (R : List Row) (T : List LB), RInv T R → R.length = n → (∀ w ∈ R, w.2.length ≤ pre.length) → (pre ++ r).length < 1000 →
    ∃ T' R', RInv T' R' ∧ R'.length = n ∧ R'.map (·.2) = fillG n pre.length r (R.map (·.2)) ∧
    execS P (limS P) c21_l0 ⟨[.c (ci n), .slice 1 1 0 n none (some n), .c (.slice ((pre ++ r).map ci)), .c (ci (pre ++ r).length), .c (ci pre.length)], RH T R n⟩ = some (.exit 0, ⟨[.slice 1 1 0 n none (some n)], RH T' R' n⟩) := by
  intro r
  induction r with
  | nil =>
    intro pre R T hI hR hB h
    refine ⟨T, R, hI, hR, rfl, ?_⟩
    rw [r21_l0]
    simp [c21_l0b]
  | cons i r ih =>
    intro pre R T hI hR hB h
    have hlt : (pre.length : Int) < pre.length + (r.length + 1) := by omega
    simp at h
    have hw : IntKind.i64.wrap (↑pre.length + 1) = ↑pre.length + 1 := wrap64 (by omega) (by omega)
    have ha := atG_lt (p := pre.length) hn
    obtain ⟨row, hrow⟩ : ∃ row, R[atG n pre.length]? = some row := ⟨_, List.getElem?_eq_getElem (by omega)⟩
    obtain ⟨o, xs⟩ := row
    obtain ⟨x, hx⟩ : ∃ x, x = pre.length % n := ⟨_, rfl⟩
    obtain ⟨y, hy⟩ : ∃ y, y = pre.length / n := ⟨_, rfl⟩
    have m1 : (pre.length : Int) % n = x := by rw [hx]; rfl
    have m2 : (pre.length : Int) / n = y := by rw [hy]; rfl
    have m4 : (pre.length : Int).tmod n = x := by rw [hx]; rfl
    have m5 : (pre.length : Int).tdiv n = y := by rw [hy]; rfl
    have m6 : (y : Int).tmod 2 = ((y % 2 : Nat) : Int) := rfl
    have w1 : IntKind.i64.wrap (y : Int) = y := wrap64 (by have := Nat.div_le_self pre.length n; omega) (by have := Nat.div_le_self pre.length n; omega)
    have hn0 : ¬ (n : Int) = 0 := by omega
    have hn0' : n ≠ 0 := by omega
    have hml := Nat.mod_lt pre.length hn
    rw [← hx] at hml
    have hat : atG n pre.length = if y % 2 = 1 then n - 1 - x else x := by rw [hx, hy]; rfl
    have hG : fillG n pre.length (i :: r) (R.map (·.2)) = fillG n (pre.length + 1) r ((R.map (·.2)).set (atG n pre.length) ((R.map (·.2)).getD (atG n pre.length) [] ++ [i])) := rfl
    have hgd : (R.map (·.2)).getD (atG n pre.length) [] = xs := by simp [List.getD_eq_getElem?_getD, hrow]
    rw [hgd] at hG
    have hvl : ∀ w, (R.map rowV).set (atG n pre.length) (rowV w) = (R.set (atG n pre.length) w).map rowV := fun w => by rw [List.map_set]
    have hsl : ∀ w : Row, (R.map (·.2)).set (atG n pre.length) w.2 = (R.set (atG n pre.length) w).map (·.2) := fun w => by rw [List.map_set]
    have hrv : (R.map rowV)[atG n pre.length]? = some (rowV (o, xs)) := by simp [hrow]
    generalize atG n pre.length = a at *
    have hai : (a : Int) < n := by omega
    have hwa : IntKind.i64.wrap ((n : Int) - 1) = (n : Int) - 1 := wrap64 (by omega) (by omega)
    cases o with
    | none =>
      have hx := hI.empty a xs hrow
      subst hx
      obtain ⟨T', R', i1, i2, i3, i4⟩ := ih (pre ++ [i]) (R.set a (some (T.length + 0), [i])) (T ++ [] ++ [.cells 1 (cI [i]) 0]) (hI.new a (by omega) i []) (by simpa using hR) (fun w hw => by
        rcases List.mem_or_eq_of_mem_set hw with q | q
        · have := hB w q; simp; omega
        · subst q; simp; try omega) (by simpa using h)
      refine ⟨T', R', i1, i2, ?_, ?_⟩
      · rw [hG, i3]
        simp
      · have hgc := under_rows (n := T.length + 1 + 1) (a := a) (R := R) (v := .slice (T.length + 1 + 1) 1 0 1 none none) (by omega) (by simp)
        have e2 : 2 + T.length = T.length + 1 + 1 := by omega
        simp [RH, rowV] at i4
        have hv := hvl (some T.length, [i])
        simp only [rowV, List.length_cons, List.length_nil] at hv
        simp [rowV] at hrv
        have hnx : a < R.length := by omega
        have hnx1 : a + 1 ≤ R.length := by omega
        obtain ⟨_, hra⟩ := List.getElem?_eq_some_iff.1 hrow
        rw [r21_l0]
        by_cases hq : y % 2 = 1
        · rw [if_pos hq] at hat
          have hwb : IntKind.i64.wrap ((n : Int) - 1 - x) = a := by rw [show (n : Int) - 1 - x = a from by omega]; exact wrap64 (by omega) (by omega)
          simp [c21_l0b, hlt, RH, m1, m2, m4, m5, m6, hq, hn0', w1, hw, hwa, hwb, hai, hrow, rowV, hrv, appNil, hgc, hnx, hnx1, hra, i4]
        · rw [if_neg hq] at hat
          have hq2 : y % 2 = 0 := by omega
          subst hat
          simp [c21_l0b, hlt, RH, m1, m2, m4, m5, m6, hq2, hn0', w1, hw, hai, hrow, rowV, hrv, appNil, hgc, hnx, hnx1, hra, i4]
    | some j =>
      have hT := hI.own a j xs hrow
      have hjl := hI.lt hrow
      have hxb := hB _ (List.mem_of_getElem? hrow)
      simp at hxb
      obtain ⟨T', R', i1, i2, i3, i4⟩ := ih (pre ++ [i]) (R.set a (some j, xs ++ [i])) (T.set j (.cells (xs.length + 1) (cI (xs ++ [i])) 0) ++ []) (hI.more a j xs hrow i []) (by simpa using hR) (fun w hw => by
        rcases List.mem_or_eq_of_mem_set hw with q | q
        · have := hB w q; simp; omega
        · subst q; simp; try omega) (by simpa using h)
      have hxl : xs.length + 1 < 1000000 := by have := hB _ (List.mem_of_getElem? hrow); simp at this; omega
      have hap := appI none (b := j + 1 + 1) (g := xs.length) (ys := xs) (xs := [i]) (h := RH T R n) (by simp [RH, hT]) hxl
      refine ⟨T', R', i1, i2, ?_, ?_⟩
      · rw [hG, i3]
        simp
      · simp [RH, rowV] at i4
        simp [RH] at hap
        simp [rowV] at hrv
        have hnx : a < R.length := by omega
        have hnx1 : a + 1 ≤ R.length := by omega
        obtain ⟨_, hra⟩ := List.getElem?_eq_some_iff.1 hrow
        have htk : ∀ (A B : LB) (X : List LB), X.length = T.length → List.take (T.length + 1 + 1) (A :: B :: X) = A :: B :: X := fun A B X hX => List.take_of_length_le (by simp; omega)
        rw [r21_l0]
        by_cases hq : y % 2 = 1
        · rw [if_pos hq] at hat
          have hwb : IntKind.i64.wrap ((n : Int) - 1 - x) = a := by rw [show (n : Int) - 1 - x = a from by omega]; exact wrap64 (by omega) (by omega)
          simp [c21_l0b, hlt, RH, m1, m2, m4, m5, m6, hq, hn0', w1, hw, hwa, hwb, hai, hrow, rowV, hrv, hap, hnx, hnx1, hra, htk, i4]
        · rw [if_neg hq] at hat
          have hq2 : y % 2 = 0 := by omega
          subst hat
          simp [c21_l0b, hlt, RH, m1, m2, m4, m5, m6, hq2, hn0', w1, hw, hai, hrow, rowV, hrv, hap, hnx, hnx1, hra, htk, i4]
def encG (G : List (List Int)) : List CV := G.map fun xs => .slice (xs.map ci)
theorem encG_elems (G : List (List Int)) : ∀ x ∈ encG G, Elem none x := by
  intro x hx
  obtain ⟨y, _, rfl⟩ := List.mem_map.1 hx
  exact ⟨rfl, rfl⟩
theorem chunkG (G : List (List Int)) : chunk none G.length (encG G) = some (encG G) := by
  have h := chunk_cellsOf (encG_elems G)
  have e : (encG G).flatMap CV.cells = encG G := by
    unfold encG
    induction G with
    | nil => rfl
    | cons x r ih => rw [List.map_cons, List.flatMap_cons, ih (chunk_cellsOf (encG_elems r))]; rfl
  rw [e] at h
  have : (encG G).length = G.length := by simp [encG]
  rw [this] at h
  exact h
theorem rows_heap {T : List LB} {R : List Row} (hI : RInv T R) (cp : Nat) (t : Nat) : ∀ o xs, (o, xs) ∈ R → match o with
      | none => xs = []
      | some j => ∃ z, (bump 1 t (RH T R cp))[j + 1 + 1]? = some (.cells xs.length (cI xs) z) := by
  intro o xs h
  obtain ⟨k, hk⟩ := List.mem_iff_getElem?.1 h
  cases o with
  | none => exact hI.empty k xs hk
  | some j => exact bump_get (h := RH T R cp) 1 t (by simp [RH]; exact hI.own k j xs hk)
theorem resRows {T : List LB} {R : List Row} (hI : RInv T R) (k : Nat) (hR : R.length = k) (cap : Option Nat) (v : CV) (G : List (List Int)) (hG : R.map (·.2) = G) :
    resV (some (mkTuple [.slice 1 1 0 k none cap, .c v])) (RH T R k) = some (.tuple [.slice (encG G), v]) := by
  have h1 : mkTuple [.slice 1 1 0 k none cap, .c v] = .tuple [.slice 1 1 0 k none cap, .c v] := rfl
  obtain ⟨h', hm⟩ := mapH_rows 38 frzI38 (fun _ => frz_38_nil _) R (bump 1 k (RH T R k)) (rows_heap hI k k)
  have hz : szOf none = 1 := rfl
  have e1 : (R.map fun r : Row => CV.slice (r.2.map ci)) = encG G := by rw [← hG]; simp [encG]
  rw [e1] at hm
  have hc := chunkG G
  have hl : G.length = k := by rw [← hG]; simpa using hR
  rw [hl] at hc
  have hf : frz 39 (.slice 1 1 0 k none cap) (RH T R k) = some (.slice (encG G), h') := by
    rw [frz_39_slice]
    have e2 : (RH T R k)[1]? = some (.cells 1 (R.map rowV) 0) := rfl
    rw [e2]
    simp only [Nat.zero_add, List.drop_zero, hz, Nat.mul_one]
    rw [if_pos ⟨trivial, by simp [hR]⟩]
    have e3 : (R.map rowV).take k = R.map rowV := List.take_of_length_le (by simp [hR])
    rw [e3, hm]
    simp only [bnd_some, hc]
  unfold resV
  rw [bnd_some, h1, frz_tuple]
  simp only [mapH_cons, hf, bnd_some, mapH_nil]
  rfl
def groupsE (l : List Stt) (n key : Int) : Int := firstE [startersE l, whenE (outside n 1 16) 3, drawE key l.length]
def groupsL (l : List Stt) (n : Nat) (key : Int) : List (List Int) := fillG n 0 (seedL l key) (List.replicate n [])
theorem S21 (l : List Stt) (n key : Int) (hl : ∀ x ∈ l, x.ok) (hs : (l.length : Int) < 9223372036854775807) (hn : startersE l = 0 → l.length < 40) : fn P 21 [.slice (l.map Stt.enc), ci n, ci key] = some (.tuple (if groupsE l n key = 0 then [.slice (encG (groupsL l n.toNat key)), ci 0] else [.slice [], ci (groupsE l n key)])) := by
  have e19 := S19 (P := P) l hl hs
  have e20 := S20 (P := P) l key hl hs hn
  have e91 := S91 (P := P) n 1 16
  have e88 := S88_2 (P := P) (startersE l) (whenE (outside n 1 16) 3)
  rw [u21]
  by_cases h1 : firstE [startersE l, whenE (outside n 1 16) 3] = 0
  · rw [h1] at e88
    have h1' := h1
    simp only [firstE_zB, whenE_z (show (3 : Int) ≠ 0 by decide), outside_f] at h1'
    obtain ⟨z1, z2, _⟩ := h1'
    by_cases h2 : seededE l key = 0
    · have hE : groupsE l n key = 0 := by
        unfold seededE at h2
        simp only [firstE_zB] at h2
        unfold groupsE
        simp only [firstE_zB] at h1 ⊢
        exact ⟨h1.1, h1.2.1, h2.2.1, rfl⟩
      rw [if_pos h2] at e20
      rw [if_pos hE]
      obtain ⟨k, rfl⟩ : ∃ k : Nat, n = k := ⟨n.toNat, by omega⟩
      have hll := starters_seeds z1
      have hsl : (seedL l key).length = l.length := by simp [seedL, sortI_length, drawL_length]
      obtain ⟨T', R', i1, i2, i3, i4⟩ := L21 (P := P) k (by omega) (by omega) (seedL l key) [] (List.replicate k (none, [])) [] (RInv.start k) (by simp) (by simp) (by simp [hsl]; omega)
      simp [RH, rowV] at i4
      have hG : R'.map (·.2) = groupsL l k key := by rw [i3]; simp [groupsL]
      have hr := resRows i1 k i2 (some k) (ci 0) (groupsL l k key) hG
      simp [RH] at hr
      have k1 : (k : Int) * 24 ≤ 140737488355328 := by omega
      have k2 : (k : Int) ≤ 9223372036854775807 := by omega
      simp [c21, e19, e91, e88, e20, i4, k1, k2, hr]
    · have hE : groupsE l n key = seededE l key := by
        unfold groupsE seededE
        simp only [firstE_zB] at h1
        rw [h1.1, h1.2.1]
        rfl
      rw [if_neg h2] at e20
      rw [hE, if_neg h2]
      simp [c21, e19, e91, e88, e20, h2]
  · have hE : groupsE l n key = firstE [startersE l, whenE (outside n 1 16) 3] := by
      unfold groupsE
      by_cases z1 : startersE l = 0
      · rw [z1] at h1 ⊢
        by_cases z2 : whenE (outside n 1 16) 3 = 0
        · rw [z2] at h1; exact absurd rfl h1
        · simp [firstE, z2]
      · simp [firstE, z1]
    rw [hE, if_neg h1]
    simp [c21, e19, e91, e88, h1]
end LM.G6
namespace LM.G6
open Go LM
variable {P : Nat → Option SFunc} [Has P] [HasP P]
theorem each_ok {n : Nat} : ∀ (r pre : List Int), (pre ++ r).Nodup → (∀ y ∈ r, 0 ≤ y ∧ y < n) → eachE (ordE n) pre r = 0
  | [], _, _, _ => rfl
  | x :: r, pre, hn, hr => by
    have hx := hr x (by simp)
    have hp : pre.any (isI x) = false := by
      rw [List.any_eq_false]
      intro y hy
      have : y ≠ x := by
        intro e
        subst e
        have := List.nodup_append.1 hn
        exact this.2.2 y hy y (by simp) rfl
      simp [isI, this]
    have h0 : ordE n pre x = 0 := by
      unfold ordE
      have : (decide (x < 0) || decide (x ≥ (n : Int))) = false := by simp; omega
      rw [this, hp]
      rfl
    rw [eachE, if_neg (by simpa using h0)]
    exact each_ok r (pre ++ [x]) (by simpa using hn) (fun y hy => hr y (by simp [hy]))
theorem iota_nodup (n : Nat) : (iota n).Nodup := by
  unfold iota
  exact List.Pairwise.map _ (fun a b h => by omega) List.nodup_range
theorem iota_range (n : Nat) : ∀ y ∈ iota n, 0 ≤ y ∧ y < n := by
  intro y hy
  unfold iota at hy
  obtain ⟨k, hk, rfl⟩ := List.mem_map.1 hy
  have := List.mem_range.1 hk
  omega
theorem orderE_perm {n : Nat} {o : List Int} (h : o.Perm (iota n)) : orderE n o = 0 := by
  have h1 := each_ok (n := n) o [] (by simpa using h.nodup_iff.2 (iota_nodup n)) (fun y hy => iota_range n y (h.mem_iff.1 hy))
  have h2 := h.length_eq
  rw [iota_length] at h2
  unfold orderE
  rw [if_neg (by simpa using h1)]
  simp [whenE, h2]
end LM.G6
namespace LM.G6
open Go LM
theorem divmod_succ {n p : Nat} (hn : 0 < n) : (p % n + 1 < n ∧ (p + 1) / n = p / n ∧ (p + 1) % n = p % n + 1) ∨ (p % n + 1 = n ∧ (p + 1) / n = p / n + 1 ∧ (p + 1) % n = 0) := by
  have h1 := Nat.div_add_mod p n
  have h2 := Nat.mod_lt p hn
  by_cases h : p % n + 1 < n
  · left
    have : p + 1 = n * (p / n) + (p % n + 1) := by omega
    refine ⟨h, ?_, ?_⟩
    · rw [this, Nat.mul_add_div hn, Nat.div_eq_of_lt h]; omega
    · rw [this, Nat.mul_add_mod, Nat.mod_eq_of_lt h]
  · right
    have e : p % n + 1 = n := by omega
    have : p + 1 = n * (p / n + 1) := by rw [Nat.mul_add, Nat.mul_one]; omega
    refine ⟨e, ?_, ?_⟩
    · rw [this, Nat.mul_div_cancel_left _ hn]
    · rw [this, Nat.mul_mod_right]
/-- How many a group has after p starters. -/
def lenG (n p g : Nat) : Nat := p / n + if (if p / n % 2 = 1 then n ≤ g + p % n else g < p % n) then 1 else 0
theorem lenG_step {n p g : Nat} (hn : 0 < n) (hg : g < n) : lenG n (p + 1) g = lenG n p g + (if g = atG n p then 1 else 0) := by
  have h2 := Nat.mod_lt p hn
  rcases divmod_succ (p := p) hn with ⟨a1, a2, a3⟩ | ⟨a1, a2, a3⟩
  · unfold lenG atG
    rw [a2, a3]
    by_cases q : p / n % 2 = 1
    · simp only [q, if_true]
      (repeat' split) <;> omega
    · simp only [q, if_false]
      (repeat' split) <;> omega
  · unfold lenG atG
    rw [a2, a3]
    by_cases q : p / n % 2 = 1
    · have q2 : ¬ (p / n + 1) % 2 = 1 := by omega
      simp only [q, q2, if_true, if_false]
      (repeat' split) <;> omega
    · have q2 : (p / n + 1) % 2 = 1 := by omega
      simp only [q, q2, if_true, if_false]
      (repeat' split) <;> omega
theorem lenG_at {n p : Nat} (hn : 0 < n) : lenG n p (atG n p) = p / n := by
  have h2 := Nat.mod_lt p hn
  unfold lenG atG
  by_cases q : p / n % 2 = 1
  · simp only [q, if_true]
    rw [if_neg (by omega)]; rfl
  · simp only [q, if_false]
    rw [if_neg (by omega)]; rfl
structure FillOk (n : Nat) (o : List Int) (p : Nat) (G : List (List Int)) : Prop where
  len : G.length = n
  cnt : ∀ (g : Nat) xs, G[g]? = some xs → xs.length = lenG n p g
  row : ∀ (g k : Nat) xs x, G[g]? = some xs → xs[k]? = some x → ∃ q : Nat, q < p ∧ o[q]? = some x ∧ q / n = k
  sum : (G.map List.length).sum = p
theorem fill_ok {n : Nat} (hn : 0 < n) (o : List Int) : ∀ (r pre : List Int) (G : List (List Int)), o = pre ++ r → FillOk n o pre.length G → FillOk n o o.length (fillG n pre.length r G)
  | [], pre, G, ho, h => by
    have : o = pre := by simpa using ho
    subst this
    exact h
  | i :: r, pre, G, ho, h => by
    have hat := atG_lt (n := n) (p := pre.length) hn
    have hal : atG n pre.length < G.length := by rw [h.len]; exact hat
    obtain ⟨xs, hxs⟩ : ∃ xs, G[atG n pre.length]? = some xs := ⟨_, List.getElem?_eq_getElem hal⟩
    have hgd : G.getD (atG n pre.length) [] = xs := by simp [List.getD_eq_getElem?_getD, hxs]
    have ih := fill_ok hn o r (pre ++ [i]) (G.set (atG n pre.length) (xs ++ [i])) (by simp [ho]) (by
      have hget : ∀ (g : Nat) ys, (G.set (atG n pre.length) (xs ++ [i]))[g]? = some ys → (g = atG n pre.length ∧ ys = xs ++ [i]) ∨ (g ≠ atG n pre.length ∧ G[g]? = some ys) := by
        intro g ys hg
        rw [List.getElem?_set] at hg
        split at hg
        · rename_i e
          subst e
          simp [hal] at hg
          exact .inl ⟨rfl, hg.symm⟩
        · rename_i e
          exact .inr ⟨fun q => e q.symm, hg⟩
      have hlx := h.cnt _ xs hxs
      rw [lenG_at hn] at hlx
      refine ⟨by simpa using h.len, ?_, ?_, ?_⟩
      · intro g ys hg
        have hgn : g < n := by
          have := (List.getElem?_eq_some_iff.1 hg).1
          simp [h.len] at this
          exact this
        rw [List.length_append, List.length_singleton, lenG_step hn hgn]
        rcases hget g ys hg with ⟨e, rfl⟩ | ⟨e, q⟩
        · subst e
          rw [if_pos rfl, lenG_at hn]
          simp [hlx]
        · rw [if_neg e, h.cnt g ys q]; rfl
      · intro g k ys x hg hk
        rcases hget g ys hg with ⟨e, rfl⟩ | ⟨e, q⟩
        · by_cases hkx : k < xs.length
          · rw [List.getElem?_append_left hkx] at hk
            obtain ⟨q, q1, q2, q3⟩ := h.row _ k xs x hxs hk
            exact ⟨q, by simp; omega, q2, q3⟩
          · rw [List.getElem?_append_right (by omega)] at hk
            have hk0 : k = xs.length := by
              by_cases z : k - xs.length = 0
              · omega
              · rw [List.getElem?_eq_none (by simp; omega)] at hk; cases hk
            subst hk0
            simp at hk
            subst hk
            refine ⟨pre.length, by simp, by rw [ho]; simp, hlx.symm⟩
        · obtain ⟨q', q1, q2, q3⟩ := h.row g k ys x q hk
          exact ⟨q', by simp; omega, q2, q3⟩
      · have hs := h.sum
        have key : ∀ (L : List (List Int)) (a : Nat) (ys : List Int), L[a]? = some ys → ((L.set a (ys ++ [i])).map List.length).sum = (L.map List.length).sum + 1 := by
          intro L
          induction L with
          | nil => intro a ys h; simp at h
          | cons y L ihL =>
            intro a ys h
            cases a with
            | zero => simp at h; subst h; simp; omega
            | succ a =>
              have := ihL a ys (by simpa using h)
              simp only [List.set_cons_succ, List.map_cons, List.sum_cons]
              omega
        rw [key G _ xs hxs, hs]
        simp)
    rw [fillG, hgd]
    simpa using ih
theorem groups_ok {n : Nat} (hn : 0 < n) (o : List Int) : FillOk n o o.length (fillG n 0 o (List.replicate n [])) := by
  have h : FillOk n o 0 (List.replicate n []) := by
    refine ⟨by simp, ?_, ?_, ?_⟩
    · intro g xs hg
      have := List.eq_of_mem_replicate (List.mem_of_getElem? hg)
      subst this
      unfold lenG
      simp
    · intro g k xs x hg hk
      have := List.eq_of_mem_replicate (List.mem_of_getElem? hg)
      subst this
      simp at hk
    · simp
  exact fill_ok hn o o [] _ rfl h
theorem adjN_snoc (x : Str) : ∀ l : List Str, adjN (l ++ [x]) = adjN l + (match l.getLast? with | some y => if x = y then 1 else 0 | none => 0)
  | [] => by simp [adjN]
  | [a] => by simp [adjN]
  | a :: b :: r => by
    have ih := adjN_snoc x (b :: r)
    have e1 : adjN (a :: b :: r ++ [x]) = (if b = a then 1 else 0) + adjN (b :: r ++ [x]) := rfl
    have e2 : adjN (a :: b :: r) = (if b = a then 1 else 0) + adjN (b :: r) := rfl
    rw [e1, ih, e2]
    simp [List.getLast?_cons_cons]
    omega
theorem adjN_rev : ∀ l : List Str, adjN l.reverse = adjN l
  | [] => rfl
  | a :: r => by
    rw [List.reverse_cons, adjN_snoc, adjN_rev r, adjN_cons]
    cases r with
    | nil => simp [hdE]
    | cons b r =>
      simp [hdE]
      by_cases h : a = b
      · subst h; simp; omega
      · have : ¬ b = a := fun q => h q.symm
        simp [h, this]
theorem adj_least {l : List Stt} {M : Mi} {b : Str} (hG : Great l M b) {o : List Int} (h : o.Perm (iota l.length)) : fewS l ≤ adjN (o.map (natS l)) := by
  have h1 := (adjN_lower b (o.map (natS l))).1
  have h2 := cnt_perm h b
  have h3 := hG.most
  have h4 := adjN_bound (o.map (natS l))
  have h5 := h.length_eq
  rw [iota_length] at h5
  unfold fewS
  simp at h1
  omega
end LM.G6
namespace LM.G6
open Go LM
variable {P : Nat → Option SFunc} [Has P]
def PB (p q r : Nat) : LB := .cells 0 [.c (.int .u8 p), .c (.int .u8 q), .c (.int .u8 r)] 0
/-- The places of the numbers in an order. -/
def plc : List Int → Nat → List Int → List Int
  | [], _, X => X
  | x :: r, i, X => plc r (i + 1) (X.set x.toNat i)
theorem plc_len : ∀ (r : List Int) (i : Nat) (X : List Int), (plc r i X).length = X.length
  | [], _, _ => rfl
  | x :: r, i, X => by rw [plc, plc_len]; simp
theorem plc_get {n : Nat} : ∀ (r : List Int) (i : Nat) (X : List Int), X.length = n → r.Nodup → (∀ y ∈ r, 0 ≤ y ∧ y < n) → (∀ (j : Nat) y, r[j]? = some y → (plc r i X)[y.toNat]? = some ((i + j : Nat) : Int)) ∧ (∀ y : Int, 0 ≤ y → y ∉ r → (plc r i X)[y.toNat]? = X[y.toNat]?)
  | [], i, X, _, _, _ => ⟨by simp, fun y _ _ => rfl⟩
  | x :: r, i, X, hX, hn, hr => by
    have hx := hr x (by simp)
    have hn' := List.nodup_cons.1 hn
    obtain ⟨a1, a2⟩ := plc_get r (i + 1) (X.set x.toNat i) (by simpa using hX) hn'.2 (fun y hy => hr y (by simp [hy]))
    refine ⟨?_, ?_⟩
    · intro j y hj
      rw [plc]
      cases j with
      | zero =>
        simp at hj
        subst hj
        rw [a2 x hx.1 hn'.1, List.getElem?_set_self (by omega)]
        simp
      | succ j =>
        rw [a1 j y (by simpa using hj)]
        congr 2
        omega
    · intro y h0 hy
      rw [plc, a2 y h0 (fun q => hy (by simp [q])), List.getElem?_set_ne]
      intro q
      apply hy
      have : x = y := by omega
      simp [this]
theorem L10_0 (Ll Lo : CV) (n : Int) (G C : CV) (p q r : Nat) (N : Nat) (hN : N < 100000) : ∀ (u pre X : List Int), (pre ++ u).length < 100000 → X.length = N → (∀ y ∈ u, 0 ≤ y ∧ y < N) →
    execS P (limS P) c10_l0 ⟨[.c Ll, .c Lo, .ptr 0 0 0, .c (ci n), .c G, .c (.slice ((pre ++ u).map ci)), .c C, .slice 1 1 0 N none (some N), .c (ci (pre ++ u).length), .c (ci pre.length)], [PB p q r, .cells 1 (cI X) 0]⟩ =
      some (.exit 0, ⟨[.c Ll, .c Lo, .ptr 0 0 0, .c (ci n), .c G, .c C, .slice 1 1 0 N none (some N)], [PB p q r, .cells 1 (cI (plc u pre.length X)) 0]⟩) := by
  intro u
  induction u with
  | nil =>
    intro pre X h hX hr
    rw [r10_l0]
    simp [c10_l0b, plc]
  | cons x u ih =>
    intro pre X h hX hr
    have hx := hr x (by simp)
    have ih := ih (pre ++ [x]) (X.set x.toNat pre.length) (by simpa using h) (by simpa using hX) (fun y hy => hr y (by simp [hy]))
    simp at ih h
    have hw : IntKind.i64.wrap (↑pre.length + 1) = ↑pre.length + 1 := wrap64 (by omega) (by omega)
    have hlt : (pre.length : Int) < pre.length + (u.length + 1) := by omega
    have hxN : x.toNat + 1 ≤ N := by omega
    simp only [PB] at *
    rw [r10_l0]
    simp [c10_l0b, plc, hw, hlt, hx, hX, hxN, cI_length, cI_set, under_cI, ih]
theorem L10_1 (l : List Stt) (Lo C : CV) (n : Nat) (hn0 : 0 < n) (hnn : n < 100) (G : List (List Int)) (p q r : Nat) (X : List Int) (hX : X.length = l.length) (hl : l.length < 100000) (i : Nat) (xs : List Int) (hi : G[i]? = some xs) (S : Int) (L : CV)
    (hok : ∀ (k : Nat) x, xs[k]? = some x → 0 ≤ x ∧ x < l.length ∧ ∃ j : Nat, X[x.toNat]? = some (j : Int) ∧ j / n = k ∧ j < 100000) : ∀ (u pre : List Int), xs = pre ++ u → xs.length < 100000 →
    execS P (limS P) c10_l1 ⟨[.c (.slice (l.map Stt.enc)), .c Lo, .ptr 0 0 0, .c (ci n), .c (.slice (encG G)), .c C, .slice 1 1 0 l.length none (some l.length), .c (ci S), .c (ci i), .c L, .c (ci i), .c (ci xs.length), .c (ci pre.length)], [PB p q r, .cells 1 (cI X) 0]⟩ =
      some (.exit 4, ⟨[.c (.slice (l.map Stt.enc)), .c Lo, .ptr 0 0 0, .c (ci n), .c (.slice (encG G)), .c C, .slice 1 1 0 l.length none (some l.length), .c (ci S), .c (ci i), .c L, .c (ci i)], [PB p q r, .cells 1 (cI X) 0]⟩) := by
  intro u
  induction u with
  | nil =>
    intro pre hx h
    have : xs = pre := by simpa using hx
    subst this
    rw [r10_l1]
    simp [c10_l1b]
  | cons x u ih =>
    intro pre hx h
    have ih := ih (pre ++ [x]) (by simp [hx]) h
    have gx : xs[pre.length]? = some x := by rw [hx]; simp
    obtain ⟨o1, o2, j, o3, o4, o5⟩ := hok pre.length x gx
    have hxl : pre.length < xs.length := (List.getElem?_eq_some_iff.1 gx).1
    simp at ih
    have hw : IntKind.i64.wrap (↑pre.length + 1) = ↑pre.length + 1 := wrap64 (by omega) (by omega)
    have hlt : (pre.length : Int) < xs.length := by omega
    have hGl : i < G.length := (List.getElem?_eq_some_iff.1 hi).1
    have hGi : (i : Int) < (encG G).length := by simp [encG]; omega
    have gG : (encG G)[i]? = some (.slice (xs.map ci)) := by simp [encG, hi]
    have gx2 : (xs.map ci)[pre.length]? = some (ci x) := by simp [gx]
    have gX : (cI X)[x.toNat]? = some (.c (ci j)) := by simp [cI, o3]
    have n1 : ¬ x < 0 := by omega
    have n2 : ¬ (l.length : Int) ≤ x := by omega
    have n0 : ¬ n = 0 := by omega
    have d1 : (j : Int).tdiv n = ((j / n : Nat) : Int) := rfl
    have w1 : IntKind.i64.wrap ((j / n : Nat) : Int) = ((j / n : Nat) : Int) := wrap64 (by have := Nat.div_le_self j n; omega) (by have := Nat.div_le_self j n; omega)
    rw [o4] at d1 w1
    obtain ⟨_, gG'⟩ := List.getElem?_eq_some_iff.1 gG
    obtain ⟨_, gx'⟩ := List.getElem?_eq_some_iff.1 gx
    simp only [PB] at *
    rw [r10_l1]
    simp [c10_l1b, hw, hlt, hGi, gG, gG', gx, gx', gx2, gX, n1, n2, n0, o1, o2, d1, w1, hxl, under_cI, ih]
end LM.G6
namespace LM.G6
open Go LM
variable {P : Nat → Option SFunc} [Has P]
theorem L10_2 (l : List Stt) (Lo : CV) (C : CV) (n : Nat) (hn0 : 0 < n) (hnn : n < 100) (G : List (List Int)) (p q r : Nat) (X : List Int) (hX : X.length = l.length) (hl : l.length < 1000)
    (hok : ∀ (g k : Nat) xs x, G[g]? = some xs → xs[k]? = some x → 0 ≤ x ∧ x < l.length ∧ ∃ j : Nat, X[x.toNat]? = some (j : Int) ∧ j / n = k ∧ j < 100000)
    (hlen : ∀ (g : Nat) xs, G[g]? = some xs → xs.length < 1000) (hdiff : ∀ (g g' : Nat) xs ys, G[g]? = some xs → G[g']? = some ys → xs.length ≤ ys.length + 1) (hGl : G.length < 1000) : ∀ (u pre : List (List Int)) (S : Int), G = pre ++ u → 0 ≤ S → S ≤ 1000 * pre.length →
    execS P (limS P) c10_l2 ⟨[.c (.slice (l.map Stt.enc)), .c Lo, .ptr 0 0 0, .c (ci n), .c (.slice (encG G)), .c C, .slice 1 1 0 l.length none (some l.length), .c (ci S), .c (ci G.length), .c (ci pre.length)], [PB p q r, .cells 1 (cI X) 0]⟩ =
      some (.exit 2, ⟨[.c (.slice (l.map Stt.enc)), .c Lo, .ptr 0 0 0, .c C, .c (ci (S + ((u.map List.length).sum : Nat)))], [PB p q r, .cells 1 (cI X) 0]⟩) := by
  intro u
  induction u with
  | nil =>
    intro pre S hG h0 h1
    have hp : G = pre := by simpa using hG
    subst hp
    rw [r10_l2]
    simp [c10_l2b]
  | cons xs u ih =>
    intro pre S hG h0 h1
    have hi : G[pre.length]? = some xs := by rw [hG]; simp
    have hxl := hlen _ xs hi
    have ih := ih (pre ++ [xs]) (S + xs.length) (by simp [hG]) (by omega) (by simp; omega)
    have h1' := L10_1 (P := P) l Lo C n hn0 hnn G p q r X hX (by omega) pre.length xs hi S (ci G.length) (fun k x hk => hok _ k xs x hi hk) xs [] rfl (by omega)
    obtain ⟨ys, hy⟩ : ∃ ys, G[0]? = some ys := by
      have : 0 < G.length := by have := (List.getElem?_eq_some_iff.1 hi).1; omega
      exact ⟨_, List.getElem?_eq_getElem this⟩
    have hyl := hlen _ ys hy
    have d1 := hdiff _ _ _ _ hi hy
    have d2 := hdiff _ _ _ _ hy hi
    have hpl : pre.length < G.length := (List.getElem?_eq_some_iff.1 hi).1
    have hw : IntKind.i64.wrap (↑pre.length + 1) = ↑pre.length + 1 := wrap64 (by omega) (by omega)
    have hw2 : IntKind.i64.wrap (S + xs.length) = S + xs.length := wrap64 (by omega) (by omega)
    have hw3 : IntKind.i64.wrap ((xs.length : Int) - ys.length) = (xs.length : Int) - ys.length := wrap64 (by omega) (by omega)
    have hw4 : IntKind.i64.wrap ((ys.length : Int) - xs.length) = (ys.length : Int) - xs.length := wrap64 (by omega) (by omega)
    have hlt : (pre.length : Int) < G.length := by omega
    have hel : (encG G).length = G.length := by simp [encG]
    have gG : (encG G)[pre.length]? = some (.slice (xs.map ci)) := by simp [encG, hi]
    have gG0 : (encG G)[0]? = some (.slice (ys.map ci)) := by simp [encG, hy]
    obtain ⟨_, gG'⟩ := List.getElem?_eq_some_iff.1 gG
    obtain ⟨_, gG0'⟩ := List.getElem?_eq_some_iff.1 gG0
    have n1 : ¬ (1 : Int) < (xs.length : Int) - ys.length := by omega
    have n2 : ¬ (1 : Int) < (ys.length : Int) - xs.length := by omega
    have hG0 : 0 < G.length := by omega
    have e : S + (xs.length : Int) + ((u.map List.length).sum : Nat) = S + ((xs.length + (u.map List.length).sum : Nat) : Int) := by omega
    rw [e] at ih
    simp at ih h1'
    simp only [PB] at *
    rw [r10_l2]
    simp [c10_l2b, hw, hw2, hw3, hw4, hlt, hel, gG, gG', gG0, gG0', n1, n2, hG0, hpl, h1', under_cI, ih]
theorem L10_3 (Ll : CV) (a : List Int) (m : CV) (p q r : Nat) (X : List Int) (ha : a.length < 1000) : ∀ (j k : Nat), k + j = a.length →
    ∃ g, execS P (limS P) c10_l3 ⟨[.c Ll, .ptr 0 0 0, .c (.slice (a.map ci)), .c m, .slice 2 (1 + k) 0 k none none, .c (ci a.length), .c (ci k)], [PB p q r, .cells 1 (cI X) 0, .cells (1 + k) (cI (a.reverse.take k)) 0]⟩ =
      some (.exit 6, ⟨[.c Ll, .ptr 0 0 0, .c (.slice (a.map ci)), .c m, .slice 2 g 0 a.length none none], [PB p q r, .cells 1 (cI X) 0, .cells g (cI a.reverse) 0]⟩) := by
  intro j
  induction j with
  | zero =>
    intro k h
    have : k = a.length := by omega
    subst this
    refine ⟨1 + a.length, ?_⟩
    have e : a.reverse.take a.length = a.reverse := List.take_of_length_le (by simp)
    rw [r10_l3]
    simp [c10_l3b, e]
  | succ j ih =>
    intro k h
    obtain ⟨g, ih⟩ := ih (k + 1) (by omega)
    refine ⟨g, ?_⟩
    have hkl : k < a.length := by omega
    obtain ⟨x, hx⟩ : ∃ x, a[a.length - 1 - k]? = some x := ⟨_, List.getElem?_eq_getElem (by omega)⟩
    have htk : a.reverse.take (k + 1) = a.reverse.take k ++ [x] := by
      rw [List.take_succ, List.getElem?_reverse (by omega), hx]
      rfl
    have hl : (a.reverse.take k).length = k := by simp; omega
    have hap := appI none (b := 2) (g := 1 + k) (ys := a.reverse.take k) (xs := [x]) (h := [PB p q r, .cells 1 (cI X) 0, .cells (1 + k) (cI (a.reverse.take k)) 0]) rfl (by rw [hl]; simp; omega)
    rw [hl, ← htk] at hap
    have hw : IntKind.i64.wrap ((k : Int) + 1) = (k : Int) + 1 := wrap64 (by omega) (by omega)
    have w1 : IntKind.i64.wrap ((a.length : Int) - 1) = (a.length : Int) - 1 := wrap64 (by omega) (by omega)
    have w2 : IntKind.i64.wrap ((a.length : Int) - 1 - k) = ((a.length - 1 - k : Nat) : Int) := by rw [show (a.length : Int) - 1 - k = ((a.length - 1 - k : Nat) : Int) from by omega]; exact wrap64 (by omega) (by omega)
    have hlt : (k : Int) < a.length := by omega
    have i1 : a.length - 1 - k < a.length := by omega
    generalize a.length - 1 - k = z at *
    obtain ⟨_, hx'⟩ := List.getElem?_eq_some_iff.1 hx
    have e1 : 1 + (k + 1) = 1 + k + 1 := by omega
    rw [e1] at ih
    simp at ih hap
    simp only [PB] at *
    rw [r10_l3]
    simp [c10_l3b, hw, w1, w2, hlt, hx, hx', i1, hap, under_cI, ih]
end LM.G6
namespace LM.G6
open Go LM
variable {P : Nat → Option SFunc} [Has P] [HasP P]
theorem seedL_perm {l : List Stt} {key : Int} (h : drawE key l.length = 0) : (seedL l key).Perm (iota l.length) := by
  obtain ⟨d1, d2, _⟩ := drawE_zero h
  have := sortI_perm (lt := ltR l) [] (drawL key l.length)
  exact (by simpa [seedL] using this : (seedL l key).Perm (drawL key l.length)).trans (drawL_perm d1 d2)
theorem lenG_diff {n p g g' : Nat} : lenG n p g ≤ lenG n p g' + 1 := by
  unfold lenG
  have : ∀ (c : Prop) [Decidable c], (if c then (1 : Nat) else 0) ≤ 1 := fun c _ => by split <;> omega
  have := this (if p / n % 2 = 1 then n ≤ g + p % n else g < p % n)
  omega
theorem lenG_le (n p g : Nat) : lenG n p g ≤ p / n + 1 := by
  have : ∀ (c : Prop) [Decidable c], (if c then (1 : Nat) else 0) ≤ 1 := fun c _ => by split <;> omega
  have := this (if p / n % 2 = 1 then n ≤ g + p % n else g < p % n)
  unfold lenG
  omega
theorem perm_of_sub : ∀ (o L : List Int), o.Nodup → (∀ x ∈ o, x ∈ L) → L.length ≤ o.length → o.Perm L
  | [], L, _, _, h => by
    have : L = [] := List.eq_nil_of_length_eq_zero (by simpa using h)
    rw [this]
  | x :: r, L, hn, hs, h => by
    have hn' := List.nodup_cons.1 hn
    have hx := hs x (by simp)
    have hp := List.perm_cons_erase hx
    refine (List.Perm.cons x (perm_of_sub r (L.erase x) hn'.2 (fun y hy => ?_) ?_)).trans hp.symm
    · exact (List.mem_erase_of_ne (by intro e; subst e; exact hn'.1 hy)).2 (hs y (by simp [hy]))
    · rw [List.length_erase_of_mem hx]
      simp at h
      omega
theorem each_nodup {n : Nat} : ∀ (r pre : List Int), pre.Nodup → eachE (ordE n) pre r = 0 → (pre ++ r).Nodup
  | [], pre, hp, _ => by simpa using hp
  | x :: r, pre, hp, h => by
    rw [eachE] at h
    split at h
    · rename_i q; exact absurd h q
    · rename_i q
      have q : ordE n pre x = 0 := by simpa using q
      have hx : x ∉ pre := by
        intro hm
        have : pre.any (isI x) = true := List.any_eq_true.2 ⟨x, hm, by simp [isI]⟩
        unfold ordE at q
        rw [this] at q
        cases h1 : (decide (x < 0) || decide (x ≥ (n : Int))) <;> rw [h1] at q <;> cases q
      have := each_nodup r (pre ++ [x]) (by
        rw [List.nodup_append]
        exact ⟨hp, by simp, fun a ha b hb => by
          simp at hb
          subst hb
          intro e
          subst e
          exact hx ha⟩) h
      simpa using this
theorem order_perm {n : Nat} {o : List Int} (h : orderE n o = 0) : o.Perm (iota n) := by
  unfold orderE at h
  split at h
  · rename_i q; exact absurd h q
  · rename_i q
    have q : eachE (ordE n) [] o = 0 := by simpa using q
    have hn : ¬ o.length < n := by
      intro z
      rw [whenE, if_pos (by simpa using z)] at h
      cases h
    refine perm_of_sub o (iota n) (by simpa using each_nodup (n := n) o [] (by simp) q) (fun x hx => ?_) (by rw [iota_length]; omega)
    have := each_range q x hx
    unfold iota
    exact List.mem_map.2 ⟨x.toNat, List.mem_range.2 (by omega), by omega⟩
theorem S10 (h16 : fn P 16 [] = some (.bool true)) (l : List Stt) (o : List Int) (p q r : Nat) (hp : p < 256) (hq : q < 256) (hr : r < 256) (hl : ∀ x ∈ l, x.ok) (hb : l.length * 40 ≤ 2 ^ 47) (ho : (o.length : Int) < 9223372036854775807) : fn P 10 [.slice (l.map Stt.enc), .slice (o.map ci), .agg [.int .u8 p, .int .u8 q, .int .u8 r]] = some (.bool true) := by
  have hs : (l.length : Int) < 9223372036854775807 := by omega
  have e15 := S15 (P := P) l hb
  have e17 := S17 (P := P) l 20 hs
  have e18 := S18 (P := P) l hs
  rw [u10]
  cases g : shortStt l 20
  · rw [g] at e17
    simp [c10, h16, e15, e17]
  · rw [g] at e17
    by_cases z1 : startersE l = 0
    · rw [z1] at e18
      by_cases g1 : (30 : Int) < o.length
      · simp [c10, h16, e15, e17, e18, g1]
      · obtain ⟨q1, q2⟩ := starters_seeds z1
        have hll : l.length ≤ 20 := by unfold shortStt at g; simp at g; omega
        obtain ⟨n, hn⟩ : ∃ n, n = 1 + p % 6 := ⟨_, rfl⟩
        have hn0 : 0 < n := by omega
        have hn6 : n ≤ 6 := by omega
        obtain ⟨key, hkey⟩ : ∃ key : Int, key = 1 + (q : Int) := ⟨_, rfl⟩
        have hd : drawE key l.length = 0 := by unfold drawE; rw [if_neg (by omega)]
        have e20 := S20 (P := P) l key hl hs (fun _ => by omega)
        have e21 := S21 (P := P) l (n : Int) key hl hs (fun _ => by omega)
        have hE20 : seededE l key = 0 := by unfold seededE; rw [z1, hd]; rfl
        have hE21 : groupsE l (n : Int) key = 0 := by
          unfold groupsE
          rw [z1, hd]
          have : outside (n : Int) 1 16 = false := by simp [outside]; omega
          rw [this]
          rfl
        rw [if_pos hE20] at e20
        rw [if_pos hE21, Int.toNat_natCast] at e21
        obtain ⟨M, b, hG, e34⟩ := (S34 (P := P) l hl hs (fun _ => by omega)).1 z1
        have hperm := apartL_perm hG
        have hadj := apart_adj hG
        have hsp := seedL_perm hd
        have hsl : (seedL l key).length = l.length := by rw [hsp.length_eq, iota_length]
        have hcl : (apartL l M b).length = l.length := by rw [hperm.length_eq, iota_length]
        have e37s := S37 (P := P) l.length (seedL l key) (by omega) (by omega)
        rw [orderE_perm hsp] at e37s
        have e37a := S37 (P := P) l.length (apartL l M b) (by omega) (by omega)
        rw [orderE_perm hperm] at e37a
        have nE : ∀ x : List Int, x.Perm (iota l.length) → neighE l x = 0 := fun x hx => by unfold neighE; rw [z1, orderE_perm hx]; rfl
        have e32 : ∀ x : List Int, x.Perm (iota l.length) → fn P 32 [.slice (l.map Stt.enc), .slice (x.map ci)] = some (.tuple [ci (adjN (x.map (natS l))), ci 0]) := fun x hx => by
          have hxl := hx.length_eq
          rw [iota_length] at hxl
          have := S32 (P := P) l x hl hs (by omega) (by omega)
          rw [nE x hx] at this
          exact this
        have e32a := e32 _ hperm
        rw [hadj] at e32a
        have hfo := groups_ok hn0 (seedL l key)
        have hGe : groupsL l n key = fillG n 0 (seedL l key) (List.replicate n []) := rfl
        rw [← hGe] at hfo
        have hpg := plc_get (n := l.length) (seedL l key) 0 (List.replicate l.length 0) (by simp) (hsp.nodup_iff.2 (iota_nodup _)) (fun y hy => iota_range _ y (hsp.mem_iff.1 hy))
        have hl0 := L10_0 (P := P) (.slice (l.map Stt.enc)) (.slice (o.map ci)) n (.slice (encG (groupsL l n key))) (.slice ((apartL l M b).map ci)) p q r l.length (by omega) (seedL l key) [] (List.replicate l.length 0) (by rw [List.nil_append, hsl]; omega) (by simp) (fun y hy => iota_range _ y (hsp.mem_iff.1 hy))
        have hpl := plc_len (seedL l key) 0 (List.replicate l.length 0)
        have hl2 := L10_2 (P := P) l (.slice (o.map ci)) (.slice ((apartL l M b).map ci)) n hn0 (by omega) (groupsL l n key) p q r (plc (seedL l key) 0 (List.replicate l.length 0)) (by rw [hpl]; simp) (by omega) (by
          intro gg k xs x h1 h2
          obtain ⟨j, j1, j2, j3⟩ := hfo.row gg k xs x h1 h2
          have hx := iota_range _ x (hsp.mem_iff.1 (List.mem_of_getElem? j2))
          refine ⟨hx.1, hx.2, j, ?_, j3, by omega⟩
          have := hpg.1 j x j2
          simpa using this) (by
          intro gg xs h1
          rw [hfo.cnt gg xs h1, hsl]
          have := Nat.div_le_self l.length n
          have := lenG_le n l.length gg
          omega) (by
          intro gg gg' xs ys h1 h2
          rw [hfo.cnt gg xs h1, hfo.cnt gg' ys h2]
          exact lenG_diff) (by rw [hfo.len]; omega) (groupsL l n key) [] 0 rfl (by omega) (by simp)
        rw [hfo.sum, hfo.len, hsl] at hl2
        have hGlen := hfo.len
        have hEl : (encG (groupsL l n key)).length = n := by simp [encG, hGlen]
        generalize groupsL l n key = G at *
        generalize seedL l key = K at *
        have erep : List.replicate l.length (LV.c (CV.int .i64 0)) = cI (List.replicate l.length 0) := by simp [cI]
        simp only [List.length_nil, List.nil_append, hsl] at hl0
        rw [← erep] at hl0
        simp only [List.length_nil, Int.zero_add] at hl2
        have t6 : (p : Int).tmod 6 = ((p % 6 : Nat) : Int) := rfl
        have wn : IntKind.i64.wrap (1 + ((p % 6 : Nat) : Int)) = n := by rw [show 1 + ((p % 6 : Nat) : Int) = n from by omega]; exact wrap64 (by omega) (by omega)
        have wp : IntKind.i64.wrap (p : Int) = p := wrap64 (by omega) (by omega)
        have wq : IntKind.i64.wrap (q : Int) = q := wrap64 (by omega) (by omega)
        have wr : IntKind.i64.wrap (r : Int) = r := wrap64 (by omega) (by omega)
        have wk : IntKind.i64.wrap (1 + (q : Int)) = key := by rw [← hkey]; exact wrap64 (by omega) (by omega)
        have k1 : (l.length : Int) ≤ 9223372036854775807 := by omega
        have k2 : (l.length : Int) * 8 ≤ 140737488355328 := by omega
        have w0 : IntKind.i64.wrap 0 = 0 := rfl
        have e37o := S37 (P := P) l.length o (by omega) ho
        generalize plc K 0 (List.replicate l.length 0) = X at *
        generalize hA : apartL l M b = A at *
        simp only [PB] at *
        generalize p % 6 = p6 at *
        simp at hl0 hl2
        -- the order that is asked
        have hoP : orderE l.length o = 0 → o.Perm (iota l.length) := by
          intro h
          exact order_perm h
        by_cases hA0 : l.length = 0
        · have hl0' : l = [] := List.eq_nil_of_length_eq_zero hA0
          have hz : (l = []) ↔ True := ⟨fun _ => trivial, fun _ => hl0'⟩
          by_cases y : orderE l.length o = 0
          · have e32o := e32 o (hoP y)
            have hlow := adj_least hG (hoP y)
            have hlow' : ¬ adjN (o.map (natS l)) < fewS l := by omega
            simp [c10, h16, e15, e17, e18, g1, t6, wn, wp, wq, wr, wk, w0, e20, e21, e34, hGlen, hEl, e37s, e37a, hcl, hsl, k1, k2, hl0, hl2, e32a, e37o, y, e32o, hlow', hz]
          · simp [c10, h16, e15, e17, e18, g1, t6, wn, wp, wq, wr, wk, w0, e20, e21, e34, hGlen, hEl, e37s, e37a, hcl, hsl, k1, k2, hl0, hl2, e32a, e37o, y, hz]
        · have hlne : ¬ l = [] := fun q => hA0 (by rw [q]; rfl)
          obtain ⟨gg, hl3⟩ := L10_3 (P := P) (.slice (l.map Stt.enc)) A (ci (fewS l)) p q r X (by omega) A.length 0 (by omega)
          rw [hcl] at hl3
          have eR := e32 A.reverse ((List.reverse_perm A).trans hperm)
          have eR' : adjN (A.reverse.map (natS l)) = fewS l := by rw [List.map_reverse, adjN_rev, hadj]
          rw [eR'] at eR
          have hBl : A.reverse.length = l.length := by simp [hcl]
          simp only [Nat.add_zero, List.take_zero] at hl3
          generalize A.reverse = BB at *
          have hfB := fun X0 X1 X3 X4 => frz_own (b := 2) (g := gg) (fz := 0) (e := none) (ys := BB.map ci) (h := [X0, X1, .cells gg (cI BB) 0, X3, X4]) (len := l.length) (by rw [cellsOf_ints]; rfl) (intElems _) (by simp [hBl]) none
          have hapW := fun X0 X1 X2 => appI0 none (b := 3) (g := 1) (xs := A) (h := [X0, X1, X2, .cells 1 [] 0]) rfl (by omega)
          have hAne : ¬ A = [] := fun q => hA0 (by rw [← hcl, q]; rfl)
          simp only [if_neg hAne] at hapW
          obtain ⟨i, hi⟩ : ∃ i, i = q % l.length := ⟨_, rfl⟩
          obtain ⟨k, hk⟩ : ∃ k, k = r % l.length := ⟨_, rfl⟩
          have hil : i < l.length := by rw [hi]; exact Nat.mod_lt _ (by omega)
          have hkl : k < l.length := by rw [hk]; exact Nat.mod_lt _ (by omega)
          have eW := e32 (sw A i k) ((sw_perm (by omega) (by omega)).trans hperm)
          have hlowW := adj_least hG ((sw_perm (xs := A) (i := i) (k := k) (by omega) (by omega)).trans hperm)
          have m1 : (q : Int).tmod l.length = i := by rw [hi]; rfl
          have m2 : (r : Int).tmod l.length = k := by rw [hk]; rfl
          simp only [PB] at hl3
          have hsw : (A.set i (A.getD k 0)).set k (A.getD i 0) = sw A i k := rfl
          have gi := cI_get (xs := A) (i := i) (by omega)
          have gk := cI_get (xs := A) (i := k) (by omega)
          have i1 : (i : Int) < l.length := by omega
          have i2 : (k : Int) < l.length := by omega
          have i3 : i + 1 ≤ l.length := by omega
          have i4 : k + 1 ≤ l.length := by omega
          have hWl : (sw A i k).length = l.length := by rw [sw_length, hcl]
          have hlowW' : fewS l ≤ adjN ((sw A i k).map (natS l)) := hlowW
          generalize A.getD k 0 = ak at *
          generalize A.getD i 0 = ai at *
          generalize sw A i k = WW at *
          have hfW := fun X0 X1 X2 X3 => frz_own (b := 4) (g := 1) (fz := 0) (e := none) (ys := WW.map ci) (h := [X0, X1, X2, X3, .cells 1 (cI WW) 0]) (len := l.length) (by rw [cellsOf_ints]; rfl) (intElems _) (by simp [hWl]) none
          have e0 : cI [] = [] := rfl
          simp [-frz_slice, e0] at hl3 hfB hfW hapW
          have l0 : ¬ l.length = 0 := hA0
          by_cases y : orderE l.length o = 0
          · have e32o := e32 o (hoP y)
            have hlow := adj_least hG (hoP y)
            have hlow' : ¬ adjN (o.map (natS l)) < fewS l := by omega
            simp [c10, h16, e15, e17, e18, g1, t6, wn, wp, wq, wr, wk, w0, e20, e21, e34, hGlen, hEl, e37s, e37a, hcl, hsl, k1, k2, hl0, hl2, e32a, e37o, y, e32o, hlow', hA0, hlne, hl3, hfB, eR, hapW, newId, newAt, hcl, gi, gk, i1, i2, i3, i4, hil, hkl, hWl, hsw, cI_set, cI_length, hfW, eW, m1, m2, hlowW', -frz_slice]
          · simp [c10, h16, e15, e17, e18, g1, t6, wn, wp, wq, wr, wk, w0, e20, e21, e34, hGlen, hEl, e37s, e37a, hcl, hsl, k1, k2, hl0, hl2, e32a, e37o, y, hA0, hlne, hl3, hfB, eR, hapW, newId, newAt, hcl, gi, gk, i1, i2, i3, i4, hil, hkl, hWl, hsw, cI_set, cI_length, hfW, eW, m1, m2, hlowW', -frz_slice]
    · simp [c10, h16, e15, e17, e18, z1]
end LM.G6
