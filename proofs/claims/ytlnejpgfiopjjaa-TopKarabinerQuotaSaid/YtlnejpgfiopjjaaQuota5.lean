/- Part 8 of what YtlnejpgfiopjjaaQuota leans on. -/
import Derived.Test.YtlnejpgfiopjjaaRows
import Derived.WalkKit
import Derived.ProofKit
import Derived.SizedLaws
import Derived.Test.YtlnejpgfiopjjaaQuotaL1
import Derived.Test.YtlnejpgfiopjjaaQuotaL2
import Derived.Test.YtlnejpgfiopjjaaQuotaL3
import Derived.Test.YtlnejpgfiopjjaaQuota1
import Derived.Test.YtlnejpgfiopjjaaQuota2
import Derived.Test.YtlnejpgfiopjjaaQuota3
import Derived.Test.YtlnejpgfiopjjaaQuota4
set_option linter.all false
namespace Go.Proofs.Ytlnejpgfiopjjaa
open Go.ChangeShapes Go.WideShapes Go.ChangeAt Go.RowKit
theorem own_knob : ownKnob Try.prog.godebug = none := by kernel_rfl
theorem laid_out : laidOutB Try.prog = true := by kernel_rfl
theorem maps_rowed : mapsRowed Try.prog = true := by kernel_rfl
theorem slices_full : LM.slicesFullB Try.prog = true := by kernel_rfl
theorem typed_map {α : Type} {enc : α → LM.CV} {p : α → Prop} {e : LM.CTy} (h : ∀ x, LM.Typed e x → ∃ a, x = enc a ∧ p a) : ∀ {xs : List LM.CV}, (∀ x ∈ xs, LM.Typed e x) → ∃ l : List α, xs = l.map enc ∧ ∀ a ∈ l, p a
  | [], _ => ⟨[], rfl, by simp⟩
  | x :: xs, hx => by
    obtain ⟨a, ha, hp⟩ := h x (hx x (by simp))
    obtain ⟨l, hl, hq⟩ := typed_map h (xs := xs) fun y hy => hx y (by simp [hy])
    exact ⟨a :: l, by rw [ha, hl]; rfl, fun b hb => by rcases List.mem_cons.1 hb with rfl | hb; exact hp; exact hq b hb⟩
theorem typed_slice {α : Type} {enc : α → LM.CV} {p : α → Prop} {e : LM.CTy} {b : Nat} (h : ∀ x, LM.Typed e x → ∃ a, x = enc a ∧ p a) {v : LM.CV} (hv : LM.Typed (.slice b e) v) : ∃ l : List α, v = .slice (l.map enc) ∧ (∀ a ∈ l, p a) ∧ l.length * b ≤ 2 ^ 47 := by
  simp only [LM.Typed] at hv
  obtain ⟨xs, rfl, _, hb, hx⟩ := hv
  obtain ⟨l, rfl, hp⟩ := typed_map h hx
  refine ⟨l, rfl, hp, ?_⟩
  rw [List.length_map] at hb
  exact Nat.le_trans hb (by decide)
theorem typed_str {v : LM.CV} (hv : LM.Typed .str v) : ∃ s : LM.Str, v = .str s ∧ s.length < 9223372036854775807 := by
  simp only [LM.Typed] at hv
  obtain ⟨s, rfl, h⟩ := hv
  exact ⟨s, rfl, Nat.lt_of_le_of_lt h (by decide)⟩
theorem typed_int {v : LM.CV} (hv : LM.Typed (.int .i64) v) : ∃ n, v = LM.ci n ∧ -9223372036854775808 ≤ n ∧ n ≤ 9223372036854775807 := by
  simp only [LM.Typed] at hv
  obtain ⟨n, rfl, h⟩ := hv
  refine ⟨n, rfl, ?_⟩
  simp [Lit.wf, IntKind.min, IntKind.max, IntKind.bits, IntKind.signed] at h
  omega
end Go.Proofs.Ytlnejpgfiopjjaa
namespace LM.GK
open Go LM
variable {P : Nat → Option SFunc} [Has P]
@[simp] theorem S30 (b : Bool) (e : Int) : fn P 30 [.bool b, ci e] = some (ci (whenE b e)) := by
  rw [u30]; cases b <;> simp [c30, whenE]
@[simp] theorem S78 (c : Nat) : fn P 78 [.int .i32 c] = some (.bool (letterN c)) := by
  rw [u78]; simp [c78, letterN]
  rw [show decide ((97 : Int) ≤ c) = decide (97 ≤ c) from decide_eq_decide.2 (by omega), show decide ((c : Int) ≤ 122) = decide (c ≤ 122) from decide_eq_decide.2 (by omega),
    show decide ((65 : Int) ≤ c) = decide (65 ≤ c) from decide_eq_decide.2 (by omega), show decide ((c : Int) ≤ 90) = decide (c ≤ 90) from decide_eq_decide.2 (by omega)]
theorem L20 : ∀ (l pre : List Int), (l.length : Int) + pre.length < 9223372036854775807 → execS P (limS P) c20_l0 ⟨[.c (.slice ((pre ++ l).map ci)), .c (ci (pre ++ l).length), .c (ci pre.length)], []⟩ = if firstE l = 0 then some (.exit 0, ⟨[], []⟩) else some (.ret, ⟨[.c (ci (firstE l))], []⟩) := by
  intro l
  induction l with
  | nil =>
    intro pre h
    rw [r20_l0]
    simp [c20_l0b, firstE]
  | cons c r ih =>
    intro pre h
    have ih := ih (pre ++ [c]) (by simp at h ⊢; omega)
    simp at ih h
    have hw : IntKind.i64.wrap (↑pre.length + 1) = ↑pre.length + 1 := wrap64 (by omega) (by omega)
    have hlt : (pre.length : Int) < pre.length + (r.length + 1) := by omega
    rw [r20_l0]
    by_cases hc : c = 0
    · subst hc
      simp [c20_l0b, firstE, hw, hlt, ih]
    · simp [c20_l0b, firstE, hw, hlt, hc]
@[simp] theorem S20 (l : List Int) (h : l.length < 9223372036854775807) : fn P 20 [.slice (l.map ci)] = some (ci (firstE l)) := by
  have := L20 (P := P) l [] (by simp; omega)
  rw [u20]
  simp at this
  simp [c20, this]
  by_cases hc : firstE l = 0 <;> simp [hc]
@[simp] theorem S20_1 (a : Int) : fn P 20 [.slice [ci a]] = some (ci (firstE [a])) := S20 [a] (by simp)
@[simp] theorem S20_2 (a b : Int) : fn P 20 [.slice [ci a, ci b]] = some (ci (firstE [a, b])) := S20 [a, b] (by simp)
@[simp] theorem S20_3 (a b c : Int) : fn P 20 [.slice [ci a, ci b, ci c]] = some (ci (firstE [a, b, c])) := S20 [a, b, c] (by simp)
@[simp] theorem S20_4 (a b c d : Int) : fn P 20 [.slice [ci a, ci b, ci c, ci d]] = some (ci (firstE [a, b, c, d])) := S20 [a, b, c, d] (by simp)
@[simp] theorem S20_5 (a b c d e : Int) : fn P 20 [.slice [ci a, ci b, ci c, ci d, ci e]] = some (ci (firstE [a, b, c, d, e])) := S20 [a, b, c, d, e] (by simp)
theorem L39 (s : Str) (hs : s.length ≤ 24) : ∀ (l pre : Str), s = pre ++ l → execS P (limS P) c39_l0 ⟨[.c (.str s), .c (ci pre.length)], []⟩ = if nameFrom pre.length l then some (.exit 0, ⟨[], []⟩) else some (.ret, ⟨[.c (.bool false)], []⟩) := by
  intro l
  induction l with
  | nil =>
    intro pre h
    rw [r39_l0]
    simp [c39_l0b, h, nameFrom]
  | cons c r ih =>
    intro pre h
    have ih := ih (pre ++ [c]) (by simp [h])
    simp at ih
    rw [h] at hs
    simp at hs
    have hw : IntKind.i64.wrap (↑pre.length + 1) = ↑pre.length + 1 := wrap64 (by omega) (by omega)
    have hlt : (pre.length : Int) < pre.length + (r.length + 1) := by omega
    have hn : (((↑c.toNat : Int) < 97 ∨ 122 < (↑c.toNat : Int)) ∧ ((↑c.toNat : Int) < 65 ∨ 90 < (↑c.toNat : Int))) ∧ (pre = [] ∨ ((↑c.toNat : Int) < 48 ∨ 57 < (↑c.toNat : Int)) ∧ ¬(↑c.toNat : Int) = 95) ↔ nameN pre.length c.toNat = false := by
      have hp : pre = [] ↔ pre.length = 0 := by simp
      unfold nameN letterN digitN
      cases pre with
      | nil => simp; omega
      | cons x y => simp; omega
    rw [r39_l0]
    simp [c39_l0b, h, nameFrom, hw, hlt, hn]
    rw [← h, ih]
    cases nameN pre.length c.toNat <;> simp
@[simp] theorem S39 (s : Str) : fn P 39 [.str s] = some (.bool (isName s)) := by
  rw [u39]
  by_cases h1 : s.length < 1
  · have : s = [] := List.eq_nil_of_length_eq_zero (by omega)
    subst this
    simp [c39, isName]
  · by_cases h2 : s.length > 24
    · have h3 : ¬ (s.length : Int) < 1 := by omega
      have h4 : (24 : Int) < (s.length : Int) := by omega
      have h5 : ¬ s.length ≤ 24 := by omega
      simp [c39, isName, h3, h4, h5]
    · have := L39 (P := P) s (by omega) s [] rfl
      simp at this
      have h3 : ¬ (s.length : Int) < 1 := by omega
      have h4 : ¬ (24 : Int) < (s.length : Int) := by omega
      have h5 : s.length ≤ 24 := by omega
      have h6 : 1 ≤ s.length := by omega
      simp [c39, isName, h3, h4, h5, h6, this]
      cases nameFrom 0 s <;> simp
theorem L69 (s : Str) (hs : s.length < 9223372036854775807) : ∀ (l pre : Str), s = pre ++ l → ∃ q, execS P (limS P) c69_l0 ⟨[.c (.str s), .ptr 0 0 0], [.iter s pre.length]⟩ = if nameFrom pre.length l then some (.exit 0, ⟨[.c (.str s)], [.iter s s.length]⟩) else some (.ret, ⟨[.c (.bool false)], [.iter s q]⟩) := by
  intro l
  induction l with
  | nil =>
    intro pre h
    refine ⟨0, ?_⟩
    rw [r69_l0]
    simp [c69_l0b, h, nameFrom]
  | cons c r ih =>
    intro pre h
    obtain ⟨q, ih⟩ := ih (pre ++ [c]) (by simp [h])
    simp at ih
    have hc : s[pre.length]? = some c := by simp [h]
    rw [r69_l0]
    rcases Nat.lt_or_ge c.toNat 128 with hlo | hhi
    · have hd := decode_lo hc hlo
      rw [h] at hd
      have hn : (letterN c.toNat = false ∧ (pre = [] ∨ ¬(↑c.toNat : Int) = 95 ∧ ((↑c.toNat : Int) < 48 ∨ 57 < (↑c.toNat : Int)))) ↔ nameN pre.length c.toNat = false := by
        unfold nameN digitN
        cases pre with
        | nil => simp
        | cons x y => simp; cases letterN c.toNat <;> simp; omega
      refine ⟨if nameN pre.length c.toNat = false then pre.length + 1 else q, ?_⟩
      simp [c69_l0b, h, nameFrom, hd, hn]
      rw [h] at ih
      simp at ih
      cases nameN pre.length c.toNat <;> simp [ih]
    · have hd := decode_hi hc hhi
      rw [h] at hd
      have hl : letterN (Utf8.decode { data := List.toArray (pre ++ c :: r) } pre.length).fst = false := by
        have := nameN_hi (i := 0) hd
        simpa [nameN] using this
      have h1 : ¬ (↑(Utf8.decode { data := List.toArray (pre ++ c :: r) } pre.length).fst : Int) = 95 := by omega
      have h2 : (57 : Int) < (↑(Utf8.decode { data := List.toArray (pre ++ c :: r) } pre.length).fst : Int) := by omega
      refine ⟨pre.length + (Utf8.decode { data := List.toArray (pre ++ c :: r) } pre.length).snd, ?_⟩
      simp [c69_l0b, h, nameFrom, hl, h1, h2, nameN_hi hhi]
@[simp] theorem S69 (s : Str) (hs : s.length < 9223372036854775807) : fn P 69 [.str s] = some (.bool (isName s)) := by
  rw [u69]
  obtain ⟨q, this⟩ := L69 (P := P) s hs s [] rfl
  simp at this
  simp [c69, this]
  cases hn : nameFrom 0 s
  · simp [isName, hn]
  · cases s with
    | nil => simp [isName]
    | cons c r =>
      simp [isName, hn]
      omega
end LM.GK
namespace LM.GK
open Go LM
variable {P : Nat → Option SFunc} [Has P]
structure Lic where
  name : Str
  frm : Int
  to : Int
def Lic.enc (x : Lic) : CV := .agg [.str x.name, ci x.frm, ci x.to]
def Lic.ok (x : Lic) : Prop := x.name.length < 9223372036854775807
def eachE {α : Type} (chk : List α → α → Int) : List α → List α → Int
  | _, [] => 0
  | pre, x :: r => if chk pre x ≠ 0 then chk pre x else eachE chk (pre ++ [x]) r
end LM.GK
namespace LM.GK
open Go LM
def idxF {α : Type} (p : α → Bool) : Nat → List α → Int
  | _, [] => -1
  | n, x :: r => if p x then n else idxF p (n + 1) r
theorem idxF_lt {α : Type} (p : α → Bool) : ∀ (l : List α) (n : Nat), (idxF p n l < 0) ↔ l.any p = false
  | [], n => by simp [idxF]
  | x :: r, n => by
    unfold idxF
    cases h : p x
    · simp [h, idxF_lt p r (n + 1)]
    · simp [h]
theorem idxF_none {α : Type} {p : α → Bool} : ∀ {l : List α} {n : Nat}, l.any p = false → idxF p n l = -1
  | [], n, _ => rfl
  | x :: r, n, h => by
    simp only [List.any_cons, Bool.or_eq_false_iff] at h
    rw [idxF, if_neg (by simp [h.1]), idxF_none h.2]
theorem idxF_dec {α : Type} (p : α → Bool) (l : List α) (n : Nat) : decide (0 ≤ idxF p n l) = l.any p := by
  have := idxF_lt p l n
  cases h : l.any p
  · have := this.2 h
    simp; omega
  · have : ¬ idxF p n l < 0 := fun q => by rw [this.1 q] at h; cases h
    simp; omega
end LM.GK
namespace LM.GK
open Go LM
variable {P : Nat → Option SFunc} [Has P]
def Str.is (s : Str) (x : Str) : Bool := x == s
theorem Str.is_eq (s x : Str) : Str.is s x = decide (x = s) := by unfold Str.is; by_cases h : x = s <;> simp [h]
theorem Str.is_eq' (s x : Str) : Str.is s x = decide (s = x) := by rw [Str.is_eq]; exact decide_eq_decide.2 eq_comm
theorem L53 (s : Str) : ∀ (l pre : List Str), ((pre ++ l).length : Int) < 9223372036854775807 →
    execS P (limS P) c53_l0 ⟨[.c (.slice ((pre ++ l).map CV.str)), .c (.str s), .c (ci (pre ++ l).length), .c (ci pre.length)], []⟩ = if l.any (Str.is s) then some (.ret, ⟨[.c (ci (idxF (Str.is s) pre.length l))], []⟩) else some (.exit 0, ⟨[], []⟩) := by
  intro l
  induction l with
  | nil =>
    intro pre h
    rw [r53_l0]
    simp [c53_l0b]
  | cons x r ih =>
    intro pre h
    have ih := ih (pre ++ [x]) (by simpa using h)
    simp at ih h
    have hw : IntKind.i64.wrap (↑pre.length + 1) = ↑pre.length + 1 := wrap64 (by omega) (by omega)
    have hlt : (pre.length : Int) < pre.length + (r.length + 1) := by omega
    have e := Str.is_eq' s x
    rw [r53_l0]
    by_cases h0 : s = x
    · simp only [h0, decide_true] at e
      simp [c53_l0b, hw, hlt, idxF, h0, e]
    · simp only [h0, decide_false] at e
      simp [c53_l0b, hw, hlt, idxF, h0, e, ih]
theorem S33 (s : Str) (l : List Str) (h : (l.length : Int) < 9223372036854775807) : fn P 33 [.slice (l.map CV.str), .str s] = some (.bool (l.any (Str.is s))) := by
  have hl := L53 (P := P) s l [] (by simpa using h)
  have h2 : fn P 53 [.slice (l.map CV.str), .str s] = some (ci (idxF (Str.is s) 0 l)) := by
    rw [u53]
    simp at hl
    simp [c53, hl]
    exact fun hx => (idxF_none (by simpa using hx)).symm
  rw [u33]
  simp [c33, h2, idxF_dec]
end LM.GK
namespace LM.GK
open Go LM
variable {P : Nat → Option SFunc} [Has P]
@[simp] theorem S63 (n a b : Int) : fn P 63 [ci n, ci a, ci b] = some (ci (whenE (outside n a b) 3)) := by
  rw [u63]
  unfold outside whenE
  by_cases h1 : n < a <;> by_cases h2 : b < n <;> simp [c63, h1, h2]
@[simp] theorem S44 (n a b : Int) : fn P 44 [ci n, ci a, ci b] = some (ci (whenE (outside n a b) 3)) := by
  rw [u44]
  unfold outside
  by_cases h1 : n < a <;> by_cases h2 : b < n <;> simp [c44, h1, h2]
theorem frzFuncs_nil (h : Heap) : frzFuncs [] h = some ([], h) := by rw [frzFuncs]
theorem frzFuncs_c (v : CV) (l : List LV) (h : Heap) : frzFuncs (.c v :: l) h = bnd (frzFuncs l h) fun a => some (.c v :: a.1, a.2) := by
  rw [frzFuncs]
  rcases frzFuncs l h with _ | ⟨x, y⟩ <;> rfl
  all_goals simp
theorem frzFuncs_slice (b g o n : Nat) (e c : Option Nat) (l : List LV) (h : Heap) : frzFuncs (.slice b g o n e c :: l) h = bnd (frzFuncs l h) fun a => some (.slice b g o n e c :: a.1, a.2) := by
  rw [frzFuncs]
  rcases frzFuncs l h with _ | ⟨x, y⟩ <;> rfl
  all_goals simp
end LM.GK
namespace LM.GK
open Go LM
variable {P : Nat → Option SFunc} [Has P]
structure Rs where
  who : Str
  state : Str
  vals : List Int
def Rs.enc (x : Rs) : CV := .agg [.str x.who, .str x.state, .slice (x.vals.map ci)]
def Rs.ptr (x : Rs) : CV := .ptr [.str x.who, .str x.state, .slice (x.vals.map ci)] 0
def Rs.ok (x : Rs) : Prop := x.who.length < 9223372036854775807 ∧ x.state.length < 9223372036854775807 ∧ (x.vals.length : Int) < 9223372036854775807
theorem Rs.elem (x : Rs) : Elem (some 3) x.enc := ⟨_, rfl, rfl, by simp [CV.flat]⟩
theorem Rs.elems (l : List Rs) : ∀ x ∈ l.map Rs.enc, Elem (some 3) x := by
  intro x hx
  obtain ⟨y, _, rfl⟩ := List.mem_map.1 hx
  exact y.elem
def PredOk (P : Nat → Option SFunc) (f : Nat) (B : List CV) (p : Rs → Bool) : Prop :=
  ∀ (pos : Option Nat) (q : Bool) (x : Rs) (h : Heap), callS P (limS P) pos q f (.c x.enc :: B.map .c) h = some (.c (.bool (p x)), h)
def isW (s : Str) (x : Rs) : Bool := decide (x.who = s)
def isS (x : Rs) : Bool := decide (x.state = [])
theorem pred157 (c : Rs) : PredOk P 65 [c.ptr] (isW c.who) := by
  intro pos q x h
  have e : fn P 65 [x.enc, c.ptr] = some (.bool (isW c.who x)) := by
    rw [u65]
    by_cases h : x.who = c.who <;> simp [c65, Rs.enc, Rs.ptr, isW, h]
  simp [e]
theorem pred161 : PredOk P 68 [] isS := by
  intro pos q x h
  have e : fn P 68 [x.enc] = some (.bool (isS x)) := by
    rw [u68]
    by_cases h : x.state = [] <;> simp [c68, Rs.enc, isS, h]
  simp [e]
theorem pred162 : PredOk P 45 [] (fun x => !isS x) := by
  intro pos q x h
  have e : fn P 45 [x.enc] = some (.bool (!isS x)) := by
    rw [u45]
    by_cases h : x.state = [] <;> simp [c45, Rs.enc, isS, h]
  simp [e]
def idxP (p : Rs → Bool) : Nat → List Rs → Int
  | _, [] => -1
  | n, x :: r => if p x then n else idxP p (n + 1) r
theorem L160c {f : Nat} {B : List CV} {p : Rs → Bool} (hp : PredOk P f B p) (H : Heap) : ∀ (l pre : List Rs), ((pre ++ l).length : Int) < 9223372036854775807 →
    execS P (limS P) c57_l0 ⟨[.c (.slice ((pre ++ l).map Rs.enc)), .c (.func f [] B), .c (ci (pre ++ l).length), .c (ci pre.length)], H⟩ = if l.any p then some (.ret, ⟨[.c (ci (idxP p pre.length l))], H⟩) else some (.exit 0, ⟨[], H⟩) := by
  intro l
  induction l with
  | nil =>
    intro pre h
    rw [r57_l0]
    simp [c57_l0b]
  | cons x r ih =>
    intro pre h
    have ih := ih (pre ++ [x]) (by simpa using h)
    have hc := fun pos q h => hp pos q x h
    simp [Rs.enc, -List.any_eq_true] at ih h hc
    have hw : IntKind.i64.wrap (↑pre.length + 1) = ↑pre.length + 1 := wrap64 (by omega) (by omega)
    have hlt : (pre.length : Int) < pre.length + (r.length + 1) := by omega
    have ht : List.take H.length H = H := List.take_length
    rw [r57_l0]
    cases h0 : p x
    · simp only [h0] at hc
      simp [c57_l0b, hw, hlt, Rs.enc, hc, idxP, h0, ht, ih, -List.any_eq_true]
    · simp only [h0] at hc
      simp [c57_l0b, hw, hlt, Rs.enc, hc, idxP, h0, -List.any_eq_true]
theorem idxP_none {p : Rs → Bool} : ∀ {l : List Rs} {n : Nat}, l.any p = false → idxP p n l = -1
  | [], n, _ => rfl
  | x :: r, n, h => by
    simp only [List.any_cons, Bool.or_eq_false_iff] at h
    rw [idxP, if_neg (by simp [h.1]), idxP_none h.2]
theorem idxP_some {p : Rs → Bool} : ∀ {l : List Rs} {n : Nat}, l.any p = true → ∃ k, k < l.length ∧ idxP p n l = (n + k : Nat) ∧ ∃ x, l[k]? = some x ∧ l.find? p = some x
  | [], n, h => by simp at h
  | x :: r, n, h => by
    cases h0 : p x
    · have h' : r.any p = true := by simpa [h0] using h
      obtain ⟨k, k1, k2, y, k3, k4⟩ := idxP_some (n := n + 1) h'
      refine ⟨k + 1, by simp; omega, ?_, y, by simpa using k3, by simp [h0, k4]⟩
      rw [idxP, if_neg (by simp [h0]), k2]
      congr 1
      omega
    · refine ⟨0, by simp, ?_, x, rfl, by simp [h0]⟩
      rw [idxP, if_pos h0]
      rfl
theorem S160c {f : Nat} {B : List CV} {p : Rs → Bool} (hp : PredOk P f B p) (H : Heap) (l : List Rs) (h : (l.length : Int) < 9223372036854775807) : sfn P 57 [.c (.slice (l.map Rs.enc)), .c (.func f [] B)] H = some (.c (ci (idxP p 0 l)), H) := by
  have hl := L160c (P := P) hp H l [] (by simpa using h)
  simp [-List.any_eq_true] at hl
  rw [u57]
  cases h0 : l.any p
  · rw [h0] at hl
    simp [c57, hl, idxP_none h0]
  · rw [h0] at hl
    simp [c57, hl]
theorem frzF_c2 (a b : CV) (h : Heap) : frzFuncs [.c a, .c b] h = some ([.c a, .c b], h) := by rw [frzFuncs_c, frzFuncs_c, frzFuncs_nil]; rfl
theorem S31 {f : Nat} {B : List CV} {p : Rs → Bool} (hp : PredOk P f B p) (l : List Rs) (h : (l.length : Int) < 9223372036854775807) : fn P 31 [.slice (l.map Rs.enc), .func f [] B] = some (.bool (l.any p)) := by
  have e := S160c (P := P) hp [] l h
  rw [u31]
  cases h0 : l.any p
  · rw [idxP_none h0] at e
    simp [c31, frzF_c2, e]
  · obtain ⟨k, _, k2, _⟩ := idxP_some (n := 0) h0
    rw [k2] at e
    have : (0 : Int) ≤ ((0 + k : Nat) : Int) := by omega
    simp at e this
    simp [c31, frzF_c2, e, this]
end LM.GK
namespace LM.GK
open Go LM
variable {P : Nat → Option SFunc} [Has P]
def farI (n : Int) : Bool := decide (n < -999999999) || decide (n > 999999999)
theorem S67 (n : Int) : fn P 67 [ci n] = some (.bool (farI n)) := by
  rw [u67]
  unfold farI
  by_cases h1 : n < -999999999 <;> by_cases h2 : n > 999999999 <;> simp [c67, h1, h2]
theorem L77 : ∀ (l pre : List Int), ((pre ++ l).length : Int) < 9223372036854775807 →
    ∃ k : Nat, execS P (limS P) c77_l0 ⟨[.c (.slice ((pre ++ l).map ci)), .c (.func 67 [] []), .c (ci (pre ++ l).length), .c (ci pre.length)], []⟩ = if l.any farI then some (.ret, ⟨[.c (ci k)], []⟩) else some (.exit 0, ⟨[], []⟩) := by
  intro l
  induction l with
  | nil =>
    intro pre h
    refine ⟨0, ?_⟩
    rw [r77_l0]
    simp [c77_l0b]
  | cons x r ih =>
    intro pre h
    obtain ⟨k, ih⟩ := ih (pre ++ [x]) (by simpa using h)
    have es := S67 (P := P) x
    simp [-List.any_eq_true] at ih h
    have hw : IntKind.i64.wrap (↑pre.length + 1) = ↑pre.length + 1 := wrap64 (by omega) (by omega)
    have hlt : (pre.length : Int) < pre.length + (r.length + 1) := by omega
    cases h0 : farI x
    · refine ⟨k, ?_⟩
      rw [h0] at es
      rw [r77_l0]
      simp [c77_l0b, hw, hlt, es, h0, ih, -List.any_eq_true]
    · refine ⟨pre.length, ?_⟩
      rw [h0] at es
      rw [r77_l0]
      simp [c77_l0b, hw, hlt, es, h0, -List.any_eq_true]
theorem S66 (l : List Int) (h : (l.length : Int) < 9223372036854775807) : fn P 66 [.slice (l.map ci), .func 67 [] []] = some (.bool (l.any farI)) := by
  obtain ⟨k, hl⟩ := L77 (P := P) l [] (by simpa using h)
  simp [-List.any_eq_true] at hl
  have e170 : fn P 77 [.slice (l.map ci), .func 67 [] []] = some (ci (if l.any farI then (k : Int) else -1)) := by
    rw [u77]
    cases h0 : l.any farI <;> rw [h0] at hl <;> simp [c77, hl]
  rw [u66]
  cases h0 : l.any farI <;> rw [h0] at e170 <;> simp [c66, e170]
def statesL : List Str := [[], [100, 110, 115], [100, 110, 102], [100, 115, 113]]
def stateOk (s : Str) : Bool := statesL.any (Str.is s)
def shapeE (pre : List Rs) (x : Rs) : Bool := match pre.find? isS with
  | some y => isS x && decide (x.vals.length ≠ y.vals.length)
  | none => false
def resE (pre : List Rs) (x : Rs) : Int := firstE [whenE (!isName x.who) 8, whenE (pre.any (isW x.who)) 9, whenE (!stateOk x.state) 13, whenE (!isS x && decide (0 < x.vals.length)) 1, whenE (decide (8 < x.vals.length)) 5, whenE (x.vals.any farI) 3, whenE (shapeE pre x) 2]
def resultsE (l : List Rs) : Int := if (l.length : Int) > 160 then 5 else eachE resE [] l
theorem S20_7 (a b c d e f g : Int) : fn P 20 [.slice [ci a, ci b, ci c, ci d, ci e, ci f, ci g]] = some (ci (firstE [a, b, c, d, e, f, g])) := S20 [a, b, c, d, e, f, g] (by simp)
theorem S43 (x : Rs) (pre : List Rs) (hx : x.ok) (h : (pre.length : Int) < 9223372036854775807) : fn P 43 [x.enc, .slice (pre.map Rs.enc)] = some (ci (resE pre x)) := by
  obtain ⟨h1, h2, h3⟩ := hx
  have e134 := S31 (P := P) (pred157 (P := P) x) pre h
  have e113 := S33 (P := P) x.state statesL (by decide)
  have e158 := S66 (P := P) x.vals h3
  have e160 := fun H => S160c (P := P) (pred161 (P := P)) H pre h
  have e90 := S69 (P := P) x.who h1
  have e88 := S20_7 (P := P)
  have hst : statesL.any (Str.is x.state) = stateOk x.state := rfl
  rw [hst] at e113
  rw [u43]
  unfold resE shapeE
  have hS : isS x = decide (x.state = []) := rfl
  simp [statesL, Rs.ptr, -List.any_eq_true] at e113 e134
  have q8 : (8 : Int) < (x.vals.length : Int) ↔ 8 < x.vals.length := by omega
  have q0 : (0 : Int) < (x.vals.length : Int) ↔ 0 < x.vals.length := by omega
  have d8 : decide ((8 : Int) < (x.vals.length : Int)) = decide (8 < x.vals.length) := decide_eq_decide.2 q8
  cases hq : pre.any isS
  · have hf : pre.find? isS = none := by
      rw [List.find?_eq_none]
      intro y hy
      have := List.any_eq_false.1 hq y hy
      exact this
    simp only [idxP_none hq] at e160
    rw [hf]
    simp [c43, c43_n11, Rs.enc, frzF_c2, e134, e113, e158, e160, e90, e88, statesL, -List.any_eq_true]
    simp only [hS, d8]
  · obtain ⟨k, k1, k2, y, k3, k4⟩ := idxP_some (n := 0) hq
    simp only [k2, Nat.zero_add] at e160
    rw [k4]
    obtain ⟨_, k3'⟩ := List.getElem?_eq_some_iff.1 k3
    have k5 : (k : Int) < pre.length := by omega
    have hbne : ((x.vals.length : Int) != (y.vals.length : Int)) = !decide (x.vals.length = y.vals.length) := by
      by_cases q : x.vals.length = y.vals.length
      · simp [q]
      · have : ¬ (x.vals.length : Int) = y.vals.length := by omega
        simp [q, this]
    by_cases hs : x.state = []
    · rw [hs] at e134 e113
      simp [c43, c43_n11, Rs.enc, frzF_c2, e134, e113, e158, e160, e90, e88, statesL, k1, k3', k5, hs, -List.any_eq_true]
      simp only [hS, d8, hs]
      simp [hbne, -List.any_eq_true]
    · simp [c43, c43_n11, Rs.enc, frzF_c2, e134, e113, e158, e160, e90, e88, statesL, k1, k3', k5, hs, -List.any_eq_true]
      simp only [hS, d8, hs]
      simp [-List.any_eq_true]
def RB3 (x : Rs) (z : Nat) : LB := .cells 0 [.c (.str x.who), .c (.str x.state), .c (.slice (x.vals.map ci))] z
theorem L21 : ∀ (r pre : List Rs), (∀ x ∈ r, x.ok) → ((pre ++ r).length : Int) < 9223372036854775807 →
    ∃ H, execS P (limS P) c21_l0 ⟨[.c (.slice ((pre ++ r).map Rs.enc)), .c (.slice ((pre ++ r).map Rs.enc)), .c (ci (pre ++ r).length), .c (ci pre.length)], []⟩ = if eachE resE pre r = 0 then some (.exit 0, ⟨[], []⟩) else some (.ret, ⟨[.c (ci (eachE resE pre r))], H⟩) := by
  intro r
  induction r with
  | nil =>
    intro pre hl h
    refine ⟨[], ?_⟩
    rw [r21_l0]
    simp [c21_l0b, eachE]
  | cons x r ih =>
    intro pre hl h
    obtain ⟨H, ih⟩ := ih (pre ++ [x]) (fun y hy => hl y (by simp [hy])) (by simpa using h)
    have e131 := S43 (P := P) x pre (hl x (by simp)) (by simp at h; omega)
    have ht : List.take pre.length (List.map Rs.enc pre ++ x.enc :: List.map Rs.enc r) = pre.map Rs.enc := by simp
    simp [Rs.enc] at ih h e131 ht
    have hw : IntKind.i64.wrap (↑pre.length + 1) = ↑pre.length + 1 := wrap64 (by omega) (by omega)
    have hlt : (pre.length : Int) < pre.length + (r.length + 1) := by omega
    have hz : szFits 3 (List.map Rs.enc pre ++ CV.agg [.str x.who, .str x.state, .slice (x.vals.map ci)] :: List.map Rs.enc r) = true := by cases pre <;> rfl
    have hb : (pre.length : Int) ≤ pre.length + (r.length + 1) := by omega
    have hE : eachE resE pre (x :: r) = if resE pre x ≠ 0 then resE pre x else eachE resE (pre ++ [x]) r := rfl
    by_cases h0 : resE pre x = 0
    · refine ⟨H, ?_⟩
      rw [hE, r21_l0]
      simp [c21_l0b, hw, hlt, hz, hb, ht, Rs.enc, e131, h0, ih]
    · refine ⟨[RB3 x 0], ?_⟩
      rw [hE, r21_l0]
      simp [c21_l0b, hw, hlt, hz, hb, ht, Rs.enc, e131, h0, RB3]
theorem S21 (l : List Rs) (hl : ∀ x ∈ l, x.ok) (h : (l.length : Int) < 9223372036854775807) : fn P 21 [.slice (l.map Rs.enc)] = some (ci (resultsE l)) := by
  obtain ⟨H, hL⟩ := L21 (P := P) l [] hl (by simpa using h)
  simp at hL
  rw [u21]
  unfold resultsE
  by_cases hm : (l.length : Int) > 160
  · have hm' : (160 : Int) < (l.length : Int) := hm
    simp [c21, hm']
  · have hm' : ¬ (160 : Int) < (l.length : Int) := hm
    simp [c21, hm', hL]
    by_cases h0 : eachE resE [] l = 0 <;> simp [h0]
def chkR (x : Rs) : Int := firstE [whenE (!stateOk x.state) 13, whenE (!isS x && decide (0 < x.vals.length)) 1, whenE (decide (8 < x.vals.length)) 5, whenE (x.vals.any farI) 3]
theorem L40 (x : Rs) : ∀ (r pre : List Int), x.vals = pre ++ r → ((pre ++ r).length : Int) < 9223372036854775807 →
    execS P (limS P) c40_l0 ⟨[.ptr 0 0 0, .c (ci pre.length)], [RB3 x 0]⟩ = if r.any farI then some (.ret, ⟨[.c (ci 3)], [RB3 x 0]⟩) else some (.exit 0, ⟨[], [RB3 x 0]⟩) := by
  intro r
  induction r with
  | nil =>
    intro pre hv h
    rw [r40_l0]
    simp [c40_l0b, RB3, hv]
  | cons n r ih =>
    intro pre hv h
    have ih := ih (pre ++ [n]) (by simp [hv]) (by simpa using h)
    simp [-List.any_eq_true, RB3, hv] at ih h
    have hw : IntKind.i64.wrap (↑pre.length + 1) = ↑pre.length + 1 := wrap64 (by omega) (by omega)
    have hlt : (pre.length : Int) < pre.length + (r.length + 1) := by omega
    have ho : outside n (-999999999) 999999999 = farI n := rfl
    rw [r40_l0]
    cases h0 : farI n
    · simp [c40_l0b, RB3, hv, hw, hlt, ho, h0, whenE, ih, -List.any_eq_true]
    · simp [c40_l0b, RB3, hv, hw, hlt, ho, h0, whenE, -List.any_eq_true]
theorem S40 (x : Rs) (hx : (x.vals.length : Int) < 9223372036854775807) : fn P 40 [x.enc] = some (ci (chkR x)) := by
  have hL := L40 (P := P) x x.vals [] rfl (by simpa using hx)
  simp [RB3, -List.any_eq_true] at hL
  have q8 : (8 : Int) < (x.vals.length : Int) ↔ 8 < x.vals.length := by omega
  have hst : stateOk x.state = (decide (x.state = []) || decide (x.state = [100, 110, 115]) || decide (x.state = [100, 110, 102]) || decide (x.state = [100, 115, 113])) := by
    unfold stateOk statesL
    by_cases h1 : x.state = [] <;> by_cases h2 : x.state = [100, 110, 115] <;> by_cases h3 : x.state = [100, 110, 102] <;> by_cases h4 : x.state = [100, 115, 113] <;> simp [Str.is, h1, h2, h3, h4]
    exact ⟨fun q => h2 q.symm, fun q => h3 q.symm, fun q => h4 q.symm⟩
  have hS : isS x = decide (x.state = []) := rfl
  rw [u40]
  unfold chkR
  rw [hst, hS]
  have q0 : (0 : Int) < (x.vals.length : Int) ↔ 0 < x.vals.length := by omega
  have e1 : ∀ b : Bool, whenE b 13 = if b then 13 else 0 := fun b => rfl
  by_cases h1 : x.state = []
  · by_cases v8 : 8 < x.vals.length
    · have v8' : (8 : Int) < (x.vals.length : Int) := q8.2 v8
      simp [c40, Rs.enc, h1, v8', v8, whenE, firstE]
    · have v8' : ¬ (8 : Int) < (x.vals.length : Int) := fun q => v8 (q8.1 q)
      rw [h1] at hL
      cases hf : x.vals.any farI <;> rw [hf] at hL <;> simp at hL <;> simp [c40, Rs.enc, h1, v8', v8, whenE, firstE, hL]
  · cases hk : (decide (x.state = [100, 110, 115]) || decide (x.state = [100, 110, 102]) || decide (x.state = [100, 115, 113]))
    · simp only [Bool.or_eq_false_iff, decide_eq_false_iff_not] at hk
      simp [c40, Rs.enc, h1, hk, whenE, firstE]
    · have hor : x.state = [100, 110, 115] ∨ x.state = [100, 110, 102] ∨ x.state = [100, 115, 113] := by simpa [or_assoc] using hk
      by_cases v0 : 0 < x.vals.length
      · have v0' : (0 : Int) < (x.vals.length : Int) := q0.2 v0
        have v1 : x.vals ≠ [] := fun q => by rw [q] at v0; cases v0
        rcases hor with e | e | e <;> simp [c40, Rs.enc, e, v0', v0, v1, whenE, firstE]
      · have v1 : x.vals = [] := List.eq_nil_of_length_eq_zero (by omega)
        rw [v1] at hL
        simp at hL
        rcases hor with e | e | e <;> rw [e] at hL <;> simp [c40, Rs.enc, e, v1, whenE, firstE, hL]
end LM.GK
namespace LM.GK
open Go LM
variable {P : Nat → Option SFunc} [Has P]
theorem L16_0 (X : List Rs) (x : Rs) (c : CV) : ∀ (r pre rest : List Rs), X = pre ++ r ++ x :: rest → (X.length : Int) < 9223372036854775807 →
    execS P (limS P) c16_l0 ⟨[.c (.slice (X.map Rs.enc)), .c c, .c (ci (pre ++ r).length), .c (ci pre.length)], []⟩ = if r.any (isW x.who) then some (.ret, ⟨[.c (ci 9)], []⟩) else some (.exit 2, ⟨[.c (.slice (X.map Rs.enc)), .c c, .c (ci (pre ++ r).length)], []⟩) := by
  intro r
  induction r with
  | nil =>
    intro pre rest hX h
    rw [r16_l0]
    simp [c16_l0b]
  | cons y r ih =>
    intro pre rest hX h
    have ih := ih (pre ++ [y]) rest (by simp [hX]) h
    subst hX
    simp [Rs.enc, -List.any_eq_true] at ih h
    have hw : IntKind.i64.wrap (↑pre.length + 1) = ↑pre.length + 1 := wrap64 (by omega) (by omega)
    have hlt : (pre.length : Int) < pre.length + (r.length + 1) := by omega
    have k1 : (pre.length : Int) < pre.length + (r.length + (rest.length + 1) + 1) := by omega
    have k2 : (pre.length : Int) + (r.length + 1) < pre.length + (r.length + (rest.length + 1) + 1) := by omega
    have t1 : ((pre.length : Int) + (r.length + 1)).toNat = pre.length + (r.length + 1) := by omega
    have j2 : 0 ≤ (pre.length : Int) + (r.length + 1) := by omega
    have hu : isW x.who y = decide (y.who = x.who) := rfl
    rw [r16_l0]
    by_cases h0 : y.who = x.who
    · simp [c16_l0b, hw, hlt, k1, k2, t1, j2, Rs.enc, hu, h0, -List.any_eq_true]
    · simp [c16_l0b, hw, hlt, k1, k2, t1, j2, Rs.enc, hu, h0, ih, -List.any_eq_true]
def cntR (pre : List Rs) : Int := match pre.find? isS with
  | some y => y.vals.length
  | none => -1
theorem cntR_snoc (pre : List Rs) (x : Rs) : cntR (pre ++ [x]) = if cntR pre < 0 ∧ isS x = true then (x.vals.length : Int) else cntR pre := by
  unfold cntR
  rw [List.find?_append]
  cases h : pre.find? isS with
  | some y => simp; omega
  | none => cases h2 : isS x <;> simp [h2]
theorem shapeE_eq (pre : List Rs) (x : Rs) : shapeE pre x = (isS x && decide ((x.vals.length : Int) ≠ cntR (pre ++ [x]))) := by
  rw [cntR_snoc]
  unfold shapeE cntR
  cases h : pre.find? isS with
  | some y =>
    have : ¬ ((y.vals.length : Int) < 0) := by omega
    simp [this]
    cases isS x
    · rfl
    · by_cases q : x.vals.length = y.vals.length
      · simp [q]
      · have : ¬ (x.vals.length : Int) = y.vals.length := by omega
        simp [q, this]
  | none => cases h2 : isS x <;> simp
theorem L16_1 : ∀ (r pre : List Rs), (∀ x ∈ r, x.ok) → ((pre ++ r).length : Int) < 9223372036854775807 →
    execS P (limS P) c16_l1 ⟨[.c (.slice ((pre ++ r).map Rs.enc)), .c (ci (cntR pre)), .c (ci pre.length)], []⟩ = if eachE resE pre r = 0 then some (.exit 0, ⟨[], []⟩) else some (.ret, ⟨[.c (ci (eachE resE pre r))], []⟩) := by
  intro r
  induction r with
  | nil =>
    intro pre hl h
    rw [r16_l1]
    simp [c16_l1b, eachE]
  | cons x r ih =>
    intro pre hl h
    have hx := hl x (by simp)
    have ih := ih (pre ++ [x]) (fun y hy => hl y (by simp [hy])) (by simpa using h)
    have h0 := L16_0 (P := P) (pre ++ x :: r) x (ci (cntR pre)) pre [] r (by simp) h
    have e130 := S40 (P := P) x hx.2.2
    have hsn := cntR_snoc pre x
    have hsh := shapeE_eq pre x
    have hS : isS x = decide (x.state = []) := rfl
    have hE : eachE resE pre (x :: r) = if resE pre x ≠ 0 then resE pre x else eachE resE (pre ++ [x]) r := rfl
    have hR : resE pre x = firstE [whenE (!isName x.who) 8, whenE (pre.any (isW x.who)) 9, chkR x, whenE (shapeE pre x) 2] := by
      unfold resE chkR
      cases isName x.who <;> cases pre.any (isW x.who) <;> cases stateOk x.state <;> cases (!isS x && decide (0 < x.vals.length)) <;> cases decide (8 < x.vals.length) <;> cases x.vals.any farI <;> cases shapeE pre x <;> rfl
    generalize cntR (pre ++ [x]) = cn at *
    simp [Rs.enc, -List.any_eq_true] at ih h h0 e130
    have hw : IntKind.i64.wrap (↑pre.length + 1) = ↑pre.length + 1 := wrap64 (by omega) (by omega)
    have hlt : (pre.length : Int) < pre.length + (r.length + 1) := by omega
    rw [hE, r16_l1]
    cases q1 : isName x.who
    · simp [c16_l1b, hw, hlt, Rs.enc, hR, q1, whenE, firstE]
    · cases q2 : pre.any (isW x.who)
      · rw [q2] at h0
        simp at h0
        by_cases q3 : chkR x = 0
        · rw [q3] at e130
          rw [hsh, hS] at hR
          by_cases q4 : x.state = []
          · by_cases q5 : cntR pre < 0
            · rw [if_pos ⟨q5, by rw [hS, q4]; rfl⟩] at hsn
              subst hsn
              rw [q4] at hR h0 e130 ih
              simp [q1, q2, q3, whenE, firstE] at hR
              simp [c16_l1b, hw, hlt, Rs.enc, hR, q1, h0, e130, q4, q5, ih]
            · rw [if_neg (fun z => q5 z.1)] at hsn
              subst hsn
              rw [q4] at hR h0 e130 ih
              by_cases q6 : (x.vals.length : Int) = cntR pre
              · simp [q1, q2, q3, q6, whenE, firstE] at hR
                simp [c16_l1b, hw, hlt, Rs.enc, hR, q1, h0, e130, q4, q5, q6, ih]
              · simp [q1, q2, q3, q6, whenE, firstE] at hR
                simp [c16_l1b, hw, hlt, Rs.enc, hR, q1, h0, e130, q4, q5, q6]
          · rw [if_neg (fun z => q4 (by have := z.2; rw [hS] at this; simpa using this))] at hsn
            subst hsn
            simp [q1, q2, q3, q4, whenE, firstE] at hR
            simp [c16_l1b, hw, hlt, Rs.enc, hR, q1, h0, e130, q4, ih]
        · simp [c16_l1b, hw, hlt, Rs.enc, hR, q1, q2, q3, h0, e130, whenE, firstE]
      · rw [q2] at h0
        simp at h0
        simp [c16_l1b, hw, hlt, Rs.enc, hR, q1, q2, h0, whenE, firstE]
theorem S16 (l : List Rs) (hl : ∀ x ∈ l, x.ok) (h : (l.length : Int) < 9223372036854775807) : fn P 16 [.slice (l.map Rs.enc)] = some (ci (resultsE l)) := by
  have hL := L16_1 (P := P) l [] hl (by simpa using h)
  have e0 : cntR [] = -1 := rfl
  simp [e0] at hL
  rw [u16]
  unfold resultsE
  by_cases hm : (l.length : Int) > 160
  · have hm' : (160 : Int) < (l.length : Int) := hm
    simp [c16, hm']
  · have hm' : ¬ (160 : Int) < (l.length : Int) := hm
    simp [c16, hm', hL]
    by_cases h0 : eachE resE [] l = 0 <;> simp [h0]
def Rs.short (x : Rs) : Bool := decide (x.who.length ≤ 40) && decide (x.state.length ≤ 20) && decide (x.vals.length ≤ 10)
theorem L15 : ∀ (r pre : List Rs), ((pre ++ r).length : Int) < 9223372036854775807 →
    execS P (limS P) c15_l0 ⟨[.c (.slice ((pre ++ r).map Rs.enc)), .c (ci pre.length)], []⟩ = if r.all Rs.short then some (.exit 0, ⟨[], []⟩) else some (.ret, ⟨[.c (.bool false)], []⟩) := by
  intro r
  induction r with
  | nil =>
    intro pre h
    rw [r15_l0]
    simp [c15_l0b]
  | cons x r ih =>
    intro pre h
    have ih := ih (pre ++ [x]) (by simpa using h)
    simp [Rs.enc, -List.all_eq_true] at ih h
    have hw : IntKind.i64.wrap (↑pre.length + 1) = ↑pre.length + 1 := wrap64 (by omega) (by omega)
    have hlt : (pre.length : Int) < pre.length + (r.length + 1) := by omega
    have e : x.short = (decide (x.who.length ≤ 40) && decide (x.state.length ≤ 20) && decide (x.vals.length ≤ 10)) := rfl
    have q1 : (40 : Int) < x.who.length ↔ ¬ x.who.length ≤ 40 := by omega
    have q2 : (20 : Int) < x.state.length ↔ ¬ x.state.length ≤ 20 := by omega
    have q3 : (10 : Int) < x.vals.length ↔ ¬ x.vals.length ≤ 10 := by omega
    rw [r15_l0]
    by_cases h1 : x.who.length ≤ 40 <;> by_cases h2 : x.state.length ≤ 20 <;> by_cases h3 : x.vals.length ≤ 10 <;> simp [c15_l0b, hw, hlt, Rs.enc, e, q1, q2, q3, h1, h2, h3, ih, -List.all_eq_true, -Nat.not_le]
def shortRs (l : List Rs) (n : Int) : Bool := !((decide ((l.length : Int) > n) && decide ((l.length : Int) ≤ 160)) || decide ((l.length : Int) > 162)) && l.all Rs.short
theorem S15 (l : List Rs) (n : Int) (h : (l.length : Int) < 9223372036854775807) : fn P 15 [.slice (l.map Rs.enc), ci n] = some (.bool (shortRs l n)) := by
  have hl := L15 (P := P) l [] (by simpa using h)
  simp [-List.all_eq_true] at hl
  rw [u15]
  unfold shortRs
  by_cases h1 : n < (l.length : Int) <;> by_cases h2 : (l.length : Int) ≤ 160 <;> by_cases h3 : (162 : Int) < l.length <;> cases h0 : l.all Rs.short <;> rw [h0] at hl <;> simp [c15, h1, h2, h3, hl]
end LM.GK
namespace LM.GK
open Go LM
variable {P : Nat → Option SFunc} [Has P]
def cA {α : Type} (enc : α → CV) (xs : List α) : List LV := xs.map fun x => LV.c (enc x)
theorem cA_length {α : Type} (enc : α → CV) (xs : List α) : (cA enc xs).length = xs.length := by simp [cA]
def CmpOk (P : Nat → Option SFunc) {α : Type} (enc : α → CV) (f : Nat) (B : List CV) (c : α → α → Int) : Prop :=
  ∀ (pos : Option Nat) (q : Bool) (x y : α) (h : Heap), callS P (limS P) pos q f (.c (enc x) :: .c (enc y) :: B.map .c) h = some (.c (ci (c x y)), h)
def CellOk {α : Type} (enc : α → CV) : Prop := ∀ x, Elem none (enc x)
theorem CellOk.cells {α : Type} {enc : α → CV} (h : CellOk enc) (x : α) : CV.cells (enc x) = [enc x] := (h x).1
theorem CellOk.flat {α : Type} {enc : α → CV} (h : CellOk enc) (x : α) : flatAll [LV.c (enc x)] = true := by have := (h x).2; simpa [flatAll] using this
def ltC {α : Type} (c : α → α → Int) (x y : α) : Bool := decide (c x y < 0)
variable {α : Type} {enc : α → CV} {f : Nat} {B : List CV} {c : α → α → Int} {H : Heap} {b g : Nat} {cp : Option Nat}
theorem take_set (X : LB) : List.take H.length (H.set b X) = H.set b X := List.take_of_length_le (by simp)
theorem L81_0 (hE : CellOk enc) (hC : CmpOk P enc f B c) (hb : b < H.length) (hg : g ≠ 0) (A : List α) (a bb i : Int) (ha : a = A.length) (n : Nat) (hn : n < 9223372036854775807) : ∀ (L : List α) (x : α) (Q : List α), n = A.length + L.length + 1 + Q.length →
    execS P (limS P) c81_l0 ⟨[.slice b g 0 n none cp, .c (ci a), .c (ci bb), .c (.func f [] B), .c (ci i), .c (ci (A.length + L.length))], H.set b (.cells g (cA enc (A ++ L.reverse ++ x :: Q)) 0)⟩ =
      some (.exit 2, ⟨[.slice b g 0 n none cp, .c (ci a), .c (ci bb), .c (.func f [] B), .c (ci i)], H.set b (.cells g (cA enc (A ++ insL (ltC c) x L Q)) 0)⟩) := by
  subst ha
  intro L
  induction L with
  | nil =>
    intro x Q h
    rw [r81_l0]
    simp [c81_l0b, insL]
  | cons y L ih =>
    intro x Q h
    have ih := ih x (y :: Q) (by simp at h ⊢; omega)
    simp at h
    have hlt : (A.length : Int) < A.length + (L.length + 1) := by omega
    have hw : IntKind.i64.wrap ((A.length : Int) + (L.length + 1) - 1) = A.length + L.length := by
      rw [show (A.length : Int) + (L.length + 1) - 1 = A.length + L.length from by omega]; exact wrap64 (by omega) (by omega)
    have t1 : ((A.length : Int) + (L.length + 1)).toNat = A.length + (L.length + 1) := by omega
    have t2 : ((A.length : Int) + L.length).toNat = A.length + L.length := by omega
    have i1 : (A.length : Int) + (L.length + 1) < n := by omega
    have i2 : (A.length : Int) + L.length < n := by omega
    have j1 : 0 ≤ (A.length : Int) + (L.length + 1) := by omega
    have j2 : 0 ≤ (A.length : Int) + L.length := by omega
    have e : A ++ (y :: L).reverse ++ x :: Q = A ++ (L.reverse ++ y :: x :: Q) := by simp
    have g1 : (cA enc (A ++ (L.reverse ++ y :: x :: Q)))[A.length + L.length]? = some (.c (enc y)) := by
      unfold cA; rw [List.getElem?_map, List.getElem?_append_right (by omega), List.getElem?_append_right (by simp)]; simp
    have g2 : (cA enc (A ++ (L.reverse ++ y :: x :: Q)))[A.length + (L.length + 1)]? = some (.c (enc x)) := by
      unfold cA; rw [List.getElem?_map, List.getElem?_append_right (by omega), List.getElem?_append_right (by simp), List.length_reverse, show A.length + (L.length + 1) - A.length - L.length = 1 from by omega]; simp
    have gs : ((cA enc (A ++ (L.reverse ++ y :: x :: Q))).set (A.length + (L.length + 1)) (.c (enc y))).set (A.length + L.length) (.c (enc x)) = cA enc (A ++ (L.reverse ++ x :: y :: Q)) := by
      have q : cA enc (A ++ (L.reverse ++ y :: x :: Q)) = (cA enc A ++ cA enc L.reverse) ++ .c (enc y) :: .c (enc x) :: cA enc Q := by simp [cA]
      have q2 : cA enc (A ++ (L.reverse ++ x :: y :: Q)) = (cA enc A ++ cA enc L.reverse) ++ .c (enc x) :: .c (enc y) :: cA enc Q := by simp [cA]
      have ql : (cA enc A ++ cA enc L.reverse).length = A.length + L.length := by simp [cA_length]
      rw [q, q2, List.set_append_right _ _ (by omega), ql, show A.length + (L.length + 1) - (A.length + L.length) = 1 from by omega, List.set_cons_succ, List.set_cons_zero, List.set_append_right _ _ (by omega), ql, Nat.sub_self, List.set_cons_zero]
    obtain ⟨_, g1⟩ := List.getElem?_eq_some_iff.1 g1
    obtain ⟨_, g2⟩ := List.getElem?_eq_some_iff.1 g2
    have k1 : A.length + (L.length + 1) + 1 ≤ A.length + (L.length + (Q.length + 1 + 1)) := by omega
    have k2 : A.length + L.length + 1 ≤ A.length + (L.length + (Q.length + 1 + 1)) := by omega
    have hc := fun pos q h => hC pos q x y h
    have m1 := hE.cells
    simp only [CV.cells] at m1
    have m2 := hE.flat
    rw [e]
    rw [r81_l0]
    simp only [insL]
    by_cases hk : c x y < 0
    · have hl : ltC c x y = true := decide_eq_true hk
      have ih' := ih
      simp at ih
      simp [c81_l0b, hb, hlt, hw, t1, t2, i1, i2, j1, j2, g1, g2, gs, hc, hk, hl, m1, m2, take_set, cA_length, k1, k2, ih]
    · have hl : ltC c x y = false := decide_eq_false hk
      simp [c81_l0b, hb, hlt, hw, t1, t2, i1, i2, j1, j2, g1, g2, hc, hk, hl, take_set, cA_length]
theorem L81_1 (hE : CellOk enc) (hC : CmpOk P enc f B c) (hb : b < H.length) (hg : g ≠ 0) (A T : List α) (n : Nat) (hn : n < 9223372036854775807) (bb : Int) : ∀ (U S : List α), n = A.length + S.length + U.length + T.length → bb = A.length + S.length + U.length →
    execS P (limS P) c81_l1 ⟨[.slice b g 0 n none cp, .c (ci A.length), .c (ci bb), .c (.func f [] B), .c (ci (A.length + S.length))], H.set b (.cells g (cA enc (A ++ (S ++ (U ++ T)))) 0)⟩ =
      some (.exit 0, ⟨[], H.set b (.cells g (cA enc (A ++ (sortI (ltC c) S U ++ T))) 0)⟩) := by
  intro U
  induction U with
  | nil =>
    intro S h1 h2
    have hlt : ¬ (A.length : Int) + S.length < bb := by simp at h2; omega
    rw [r81_l1]
    simp [c81_l1b, hlt, sortI]
  | cons x U ih =>
    intro S h1 h2
    have ih := ih (insS (ltC c) x S) (by rw [insS_length]; simp at h1 ⊢; omega) (by rw [insS_length]; simp at h2 ⊢; omega)
    have hin := L81_0 (P := P) (cp := cp) hE hC hb hg A A.length bb (A.length + S.length) rfl n hn S.reverse x (U ++ T) (by simp at h1 ⊢; omega)
    have e : insL (ltC c) x S.reverse (U ++ T) = insS (ltC c) x S ++ (U ++ T) := insL_append x S.reverse [] (U ++ T)
    rw [e] at hin
    rw [insS_length] at ih
    simp at hin ih h1 h2
    have hlt : (A.length : Int) + S.length < bb := by omega
    have hw : IntKind.i64.wrap ((A.length : Int) + S.length + 1) = (A.length : Int) + (S.length + 1) := by
      rw [Int.add_assoc]; exact wrap64 (by omega) (by omega)
    rw [r81_l1]
    simp only [sortI]
    simp [c81_l1b, hlt, hin, hw, hb, take_set, ih]
theorem S81 (hE : CellOk enc) (hC : CmpOk P enc f B c) (hb : b < H.length) (hg : g ≠ 0) (A U T : List α) (n : Nat) (hn : n < 9223372036854775807) (h : n = A.length + U.length + T.length) :
    sfn P 81 [.slice b g 0 n none cp, .c (ci A.length), .c (ci (A.length + U.length)), .c (.func f [] B)] (H.set b (.cells g (cA enc (A ++ (U ++ T))) 0)) = some (.c (.tuple []), H.set b (.cells g (cA enc (A ++ (sortI (ltC c) [] U ++ T))) 0)) := by
  have hw : IntKind.i64.wrap ((A.length : Int) + 1) = (A.length : Int) + 1 := wrap64 (by omega) (by omega)
  rw [u81]
  cases U with
  | nil =>
    have hlt : ¬ (A.length : Int) + 1 < A.length := by omega
    have hL : execS P (limS P) c81_l1 ⟨[.slice b g 0 n none cp, .c (ci A.length), .c (ci A.length), .c (.func f [] B), .c (ci ((A.length : Int) + 1))], H.set b (.cells g (cA enc (A ++ T)) 0)⟩ = some (.exit 0, ⟨[], H.set b (.cells g (cA enc (A ++ T)) 0)⟩) := by
      rw [r81_l1]
      simp [c81_l1b, hlt]
    simp [c81, hw, hL, sortI]
  | cons x U =>
    have hL := L81_1 (P := P) (cp := cp) hE hC hb hg A T n hn (A.length + (U.length + 1)) U [x] (by simp at h ⊢; omega) (by simp; omega)
    have e : insS (ltC c) x [] = [x] := rfl
    simp at hL
    simp [c81, hw, hL, sortI, e]
end LM.GK
namespace LM.GK
open Go LM
variable {P : Nat → Option SFunc} [Has P]
def cel3 (x : Rs) : List LV := [.c (.str x.who), .c (.str x.state), .c (.slice (x.vals.map ci))]
def cR (xs : List Rs) : List LV := xs.flatMap cel3
theorem cR_length (xs : List Rs) : (cR xs).length = xs.length * 3 := by
  induction xs with
  | nil => rfl
  | cons x r ih => simp [cR, cel3] at ih ⊢; omega
theorem cR_append (xs ys : List Rs) : cR (xs ++ ys) = cR xs ++ cR ys := by simp [cR]
theorem cR_cons (x : Rs) (ys : List Rs) : cR (x :: ys) = cel3 x ++ cR ys := by simp [cR]
theorem cellsOf_rs (xs : List Rs) : cellsOf (xs.map Rs.enc) = cR xs := by
  induction xs with
  | nil => rfl
  | cons x r ih =>
    have : cellsOf ((x :: r).map Rs.enc) = cel3 x ++ cellsOf (r.map Rs.enc) := rfl
    rw [this, ih]
    rfl
theorem under_cR (n : Nat) (xs : List Rs) : underL n (cR xs) = true := by rw [← cellsOf_rs]; exact underL_cellsOf _ _
theorem cR_load {Pr Po : List Rs} {x : Rs} {W : List LV} {k : Nat} (h : k = Pr.length) : ((cR (Pr ++ x :: Po) ++ W).drop (k * 3)).take 3 = cel3 x := by
  subst h
  rw [cR_append, cR_cons, List.append_assoc, List.drop_left' (by rw [cR_length])]
  simp [cel3]
theorem cR_store {Pr Po : List Rs} {x y : Rs} {W : List LV} {k : Nat} (h : k = Pr.length) : setCells (cR (Pr ++ x :: Po) ++ W) (k * 3) (cel3 y) = cR (Pr ++ y :: Po) ++ W := by
  subst h
  have e1 : cR (Pr ++ x :: Po) ++ W = cR Pr ++ (.c (.str x.who) :: .c (.str x.state) :: .c (.slice (x.vals.map ci)) :: (cR Po ++ W)) := by rw [cR_append, cR_cons]; simp [cel3]
  have e2 : cR (Pr ++ y :: Po) ++ W = cR Pr ++ (.c (.str y.who) :: .c (.str y.state) :: .c (.slice (y.vals.map ci)) :: (cR Po ++ W)) := by rw [cR_append, cR_cons]; simp [cel3]
  rw [e1, e2]
  simp only [setCells, cel3]
  have hl := cR_length Pr
  rw [List.set_append_right _ _ (by omega), List.set_append_right _ _ (by omega), List.set_append_right _ _ (by omega), hl]
  have a1 : Pr.length * 3 - Pr.length * 3 = 0 := by omega
  have a2 : Pr.length * 3 + 1 - Pr.length * 3 = 1 := by omega
  have a3 : Pr.length * 3 + 1 + 1 - Pr.length * 3 = 2 := by omega
  simp only [a1, a2, a3, List.set_cons_zero, List.set_cons_succ]
def Rs.vok (x : Rs) : Prop := (x.vals.length : Int) < 9223372036854775807
def CmpR (P : Nat → Option SFunc) (f : Nat) (B : List CV) (c : Rs → Rs → Int) : Prop :=
  ∀ (pos : Option Nat) (q : Bool) (x y : Rs) (h : Heap), x.vok → y.vok → callS P (limS P) pos q f (.c x.enc :: .c y.enc :: B.map .c) h = some (.c (ci (c x y)), h)
variable {f : Nat} {B : List CV} {c : Rs → Rs → Int} {H : Heap} {b g : Nat} {cp : Option Nat} {W : List LV}
theorem L79_0 (hC : CmpR P f B c) (hb : b < H.length) (hg : g ≠ 0) (A : List Rs) (a bb i : Int) (ha : a = A.length) (n : Nat) (hn : n < 1000000) : ∀ (L : List Rs) (x : Rs) (Q : List Rs), x.vok → (∀ y ∈ L, y.vok) → n = A.length + L.length + 1 + Q.length →
    execS P (limS P) c79_l0 ⟨[.slice b g 0 n (some 3) cp, .c (ci a), .c (ci bb), .c (.func f [] B), .c (ci i), .c (ci (A.length + L.length))], H.set b (.cells g (cR (A ++ L.reverse ++ x :: Q) ++ W) 0)⟩ =
      some (.exit 2, ⟨[.slice b g 0 n (some 3) cp, .c (ci a), .c (ci bb), .c (.func f [] B), .c (ci i)], H.set b (.cells g (cR (A ++ insL (ltC c) x L Q) ++ W) 0)⟩) := by
  subst ha
  intro L
  induction L with
  | nil =>
    intro x Q hvx hvL h
    rw [r79_l0]
    simp [c79_l0b, insL]
  | cons y L ih =>
    intro x Q hvx hvL h
    have ih := ih x (y :: Q) hvx (fun z hz => hvL z (by simp [hz])) (by simp at h ⊢; omega)
    simp at h
    have hlt : (A.length : Int) < A.length + (L.length + 1) := by omega
    have hw : IntKind.i64.wrap ((A.length : Int) + (L.length + 1) - 1) = A.length + L.length := by
      rw [show (A.length : Int) + (L.length + 1) - 1 = A.length + L.length from by omega]; exact wrap64 (by omega) (by omega)
    have t1 : ((A.length : Int) + (L.length + 1)).toNat = A.length + (L.length + 1) := by omega
    have t2 : ((A.length : Int) + L.length).toNat = A.length + L.length := by omega
    have i1 : (A.length : Int) + (L.length + 1) < n := by omega
    have i2 : (A.length : Int) + L.length < n := by omega
    have j1 : 0 ≤ (A.length : Int) + (L.length + 1) := by omega
    have j2 : 0 ≤ (A.length : Int) + L.length := by omega
    have e : A ++ (y :: L).reverse ++ x :: Q = (A ++ L.reverse) ++ y :: (x :: Q) := by simp
    have e' : (A ++ L.reverse) ++ y :: (x :: Q) = (A ++ L.reverse ++ [y]) ++ x :: Q := by simp
    have e3 : (A ++ L.reverse) ++ y :: (y :: Q) = (A ++ L.reverse ++ [y]) ++ y :: Q := by simp
    have e4 : A ++ L.reverse ++ x :: (y :: Q) = (A ++ L.reverse) ++ x :: (y :: Q) := rfl
    have g1 := cR_load (Pr := A ++ L.reverse) (x := y) (Po := x :: Q) (W := W) (k := A.length + L.length) (by simp)
    have g2 : ((cR ((A ++ L.reverse) ++ y :: (x :: Q)) ++ W).drop ((A.length + (L.length + 1)) * 3)).take 3 = cel3 x := by rw [e']; exact cR_load (by simp)
    have s1 : setCells (cR ((A ++ L.reverse) ++ y :: (x :: Q)) ++ W) ((A.length + (L.length + 1)) * 3) (cel3 y) = cR ((A ++ L.reverse) ++ y :: (y :: Q)) ++ W := by rw [e', e3]; exact cR_store (by simp)
    have s2 := cR_store (Pr := A ++ L.reverse) (x := y) (y := x) (Po := y :: Q) (W := W) (k := A.length + L.length) (by simp)
    have l1 : (cR ((A ++ L.reverse) ++ y :: (x :: Q)) ++ W).length = n * 3 + W.length := by rw [List.length_append, cR_length]; simp; omega
    have l2 : (cR ((A ++ L.reverse) ++ y :: (y :: Q)) ++ W).length = n * 3 + W.length := by rw [List.length_append, cR_length]; simp; omega
    have k1 : (A.length + (L.length + 1)) * 3 + 3 ≤ n * 3 + W.length := by omega
    have k2 : (A.length + L.length) * 3 + 3 ≤ n * 3 + W.length := by omega
    have p1 : 3 ≤ n * 3 + W.length - (A.length + (L.length + 1)) * 3 := by omega
    have p2 : 3 ≤ n * 3 + W.length - (A.length + L.length) * 3 := by omega
    have hc := fun pos q h => hC pos q x y h hvx (hvL y (by simp))
    rw [e]
    rw [r79_l0]
    simp only [insL]
    rw [e4] at ih
    have hD1 : cR (A ++ (L.reverse ++ y :: x :: Q)) ++ W = cR ((A ++ L.reverse) ++ y :: (x :: Q)) ++ W := by simp
    generalize cR ((A ++ L.reverse) ++ y :: (x :: Q)) ++ W = D1 at *
    generalize cR ((A ++ L.reverse) ++ y :: (y :: Q)) ++ W = D2 at *
    generalize cR ((A ++ L.reverse) ++ x :: (y :: Q)) ++ W = D3 at *
    simp only [cel3, Rs.enc] at g1 g2 s1 s2 hc
    by_cases hk : c x y < 0
    · have hl : ltC c x y = true := decide_eq_true hk
      simp [c79_l0b, hb, hlt, hw, t1, t2, i1, i2, j1, j2, g1, g2, s1, s2, l1, l2, hc, hk, hl, take_set, k1, k2, p1, p2, ih]
    · have hl : ltC c x y = false := decide_eq_false hk
      simp [c79_l0b, hb, hlt, hw, t1, t2, i1, i2, j1, j2, g1, g2, l1, hc, hk, hl, take_set, k1, k2, p1, p2, hD1]
theorem L79_1 (hC : CmpR P f B c) (hb : b < H.length) (hg : g ≠ 0) (A T : List Rs) (n : Nat) (hn : n < 1000000) (bb : Int) : ∀ (U S : List Rs), (∀ y ∈ S ++ U, y.vok) → n = A.length + S.length + U.length + T.length → bb = A.length + S.length + U.length →
    execS P (limS P) c79_l1 ⟨[.slice b g 0 n (some 3) cp, .c (ci A.length), .c (ci bb), .c (.func f [] B), .c (ci (A.length + S.length))], H.set b (.cells g (cR (A ++ (S ++ (U ++ T))) ++ W) 0)⟩ =
      some (.exit 0, ⟨[], H.set b (.cells g (cR (A ++ (sortI (ltC c) S U ++ T)) ++ W) 0)⟩) := by
  intro U
  induction U with
  | nil =>
    intro S hv h1 h2
    have hlt : ¬ (A.length : Int) + S.length < bb := by simp at h2; omega
    rw [r79_l1]
    simp [c79_l1b, hlt, sortI]
  | cons x U ih =>
    intro S hv h1 h2
    have ih := ih (insS (ltC c) x S) (fun y hy => by
      rcases List.mem_append.1 hy with q | q
      · rcases List.mem_cons.1 ((insS_perm x S).mem_iff.1 q) with rfl | q
        · exact hv y (by simp)
        · exact hv y (by simp [q])
      · exact hv y (by simp [q])) (by rw [insS_length]; simp at h1 ⊢; omega) (by rw [insS_length]; simp at h2 ⊢; omega)
    have hin := L79_0 (P := P) (cp := cp) (W := W) hC hb hg A A.length bb (A.length + S.length) rfl n hn S.reverse x (U ++ T) (hv x (by simp)) (fun y hy => hv y (by simp at hy; simp [hy])) (by simp at h1 ⊢; omega)
    have e : insL (ltC c) x S.reverse (U ++ T) = insS (ltC c) x S ++ (U ++ T) := insL_append x S.reverse [] (U ++ T)
    rw [e] at hin
    rw [insS_length] at ih
    simp at hin ih h1 h2
    have hlt : (A.length : Int) + S.length < bb := by omega
    have hw : IntKind.i64.wrap ((A.length : Int) + S.length + 1) = (A.length : Int) + (S.length + 1) := by
      rw [Int.add_assoc]; exact wrap64 (by omega) (by omega)
    rw [r79_l1]
    simp only [sortI]
    simp [c79_l1b, hlt, hin, hw, hb, take_set, ih]
theorem S79 (hC : CmpR P f B c) (hb : b < H.length) (hg : g ≠ 0) (U : List Rs) (hv : ∀ y ∈ U, y.vok) (n : Nat) (hn : n < 1000000) (h : n = U.length) :
    sfn P 79 [.slice b g 0 n (some 3) cp, .c (ci 0), .c (ci n), .c (.func f [] B)] (H.set b (.cells g (cR U ++ W) 0)) = some (.c (.tuple []), H.set b (.cells g (cR (sortI (ltC c) [] U) ++ W) 0)) := by
  have hw : IntKind.i64.wrap (0 + 1) = 1 := rfl
  have hw1 : IntKind.i64.wrap 1 = 1 := rfl
  rw [u79]
  cases U with
  | nil =>
    have h0 : n = 0 := by simpa using h
    subst h0
    have hL : execS P (limS P) c79_l1 ⟨[.slice b g 0 0 (some 3) cp, .c (ci 0), .c (ci 0), .c (.func f [] B), .c (ci 1)], H.set b (.cells g (cR [] ++ W) 0)⟩ = some (.exit 0, ⟨[], H.set b (.cells g (cR [] ++ W) 0)⟩) := by
      rw [r79_l1]
      simp [c79_l1b]
    simp [c79, hw1, hL, sortI]
  | cons x U =>
    have hL := L79_1 (P := P) (cp := cp) (W := W) hC hb hg [] [] n hn n U [x] (by simpa using hv) (by simp at h ⊢; omega) (by simp at h ⊢; omega)
    have e : insS (ltC c) x [] = [x] := rfl
    simp at hL
    simp [c79, hw1, hL, sortI, e]
theorem S70 (hC : CmpR P f B c) (hb : b < H.length) (hg : g ≠ 0) (xs : List Rs) (hv : ∀ y ∈ xs, y.vok) (n : Nat) (hn : n < 20) (h : n = xs.length) :
    sfn P 70 [.slice b g 0 n (some 3) cp, .c (ci n), .c (.func f [] B)] (H.set b (.cells g (cR xs ++ W) 0)) = some (.c (.tuple []), H.set b (.cells g (cR (sortI (ltC c) [] xs) ++ W) 0)) := by
  have hs := S79 (P := P) (cp := cp) (W := W) hC hb hg xs hv n (by omega) h
  have h1 : ¬ (20 : Int) ≤ n := by omega
  have h2 : ¬ (20 : Int) < n := by omega
  have l0 : ∀ E, execS P (limS P) c70_l0 ⟨[.slice b g 0 n (some 3) cp, .c (ci n), .c (.func f [] B), .c (ci 20), .c (ci 0), .c (ci 20)], E⟩ = some (.exit 0, ⟨[.slice b g 0 n (some 3) cp, .c (ci n), .c (.func f [] B), .c (ci 20), .c (ci 0)], E⟩) := by
    intro E
    rw [r70_l0]
    simp [c70_l0b, h1]
  have l2 : ∀ E, execS P (limS P) c70_l2 ⟨[.slice b g 0 n (some 3) cp, .c (ci n), .c (.func f [] B), .c (ci 20)], E⟩ = some (.exit 2, ⟨[], E⟩) := by
    intro E
    rw [r70_l2]
    simp [c70_l2b, h2]
  rw [u70]
  simp [c70, l0, l2, hs, hb, take_set, frzFuncs_nil, frzFuncs_c, frzFuncs_slice]
theorem S46 (hC : CmpR P f B c) (hb : b < H.length) (hg : g ≠ 0) (xs : List Rs) (hv : ∀ y ∈ xs, y.vok) (n : Nat) (hn : n < 20) (h : n = xs.length) :
    sfn P 46 [.slice b g 0 n (some 3) cp, .c (.func f [] B)] (H.set b (.cells g (cR xs ++ W) 0)) = some (.c (.tuple []), H.set b (.cells g (cR (sortI (ltC c) [] xs) ++ W) 0)) := by
  have hs := S70 (P := P) (cp := cp) (W := W) hC hb hg xs hv n hn h
  rw [u46]
  simp [c46, hs, hb, take_set, frzFuncs_nil, frzFuncs_c, frzFuncs_slice]
end LM.GK
namespace LM.GK
open Go LM
variable {P : Nat → Option SFunc} [Has P]
variable {f : Nat} {B : List CV} {p : Rs → Bool} {H : Heap} {b g : Nat} {cp : Option Nat} {W : List LV}
theorem cR_bound {Pr Po : List Rs} {x : Rs} : (Pr.length) * 3 + 3 ≤ (cR (Pr ++ x :: Po)).length ∧ 3 ≤ (cR (Pr ++ x :: Po)).length - Pr.length * 3 := by
  rw [cR_length]; simp; omega
theorem L160l (hp : PredOk P f B p) (hb : b < H.length) (hg : g ≠ 0) (n : Nat) (hn : n < 1000000) : ∀ (l pre : List Rs), n = (pre ++ l).length →
    execS P (limS P) c57_l0 ⟨[.slice b g 0 n (some 3) cp, .c (.func f [] B), .c (ci n), .c (ci pre.length)], H.set b (.cells g (cR (pre ++ l)) 0)⟩ = if l.any p then some (.ret, ⟨[.c (ci (idxP p pre.length l))], H.set b (.cells g (cR (pre ++ l)) 0)⟩) else some (.exit 0, ⟨[], H.set b (.cells g (cR (pre ++ l)) 0)⟩) := by
  intro l
  induction l with
  | nil =>
    intro pre h
    have : (pre.length : Int) = n := by simp at h; omega
    rw [r57_l0]
    simp [c57_l0b, this]
  | cons x r ih =>
    intro pre h
    have ih := ih (pre ++ [x]) (by simpa using h)
    have hc := fun pos q h => hp pos q x h
    have g1 := cR_load (Pr := pre) (x := x) (Po := r) (W := []) (k := pre.length) rfl
    have g2 := cR_bound (Pr := pre) (x := x) (Po := r)
    rw [List.append_nil] at g1
    have e : pre ++ [x] ++ r = pre ++ x :: r := by simp
    rw [e] at ih
    simp at h
    have hw : IntKind.i64.wrap (↑pre.length + 1) = ↑pre.length + 1 := wrap64 (by omega) (by omega)
    have hlt : (pre.length : Int) < n := by omega
    generalize cR (pre ++ x :: r) = D at *
    simp [-List.any_eq_true] at ih
    simp only [cel3, Rs.enc] at g1 hc
    rw [r57_l0]
    cases h0 : p x
    · simp only [h0] at hc
      simp [c57_l0b, hw, hlt, hb, g1, g2, hc, idxP, h0, take_set, ih, -List.any_eq_true]
    · simp only [h0] at hc
      simp [c57_l0b, hw, hlt, hb, g1, g2, hc, idxP, h0, -List.any_eq_true]
theorem S160l (hp : PredOk P f B p) (hb : b < H.length) (hg : g ≠ 0) (l : List Rs) (hn : l.length < 1000000) : sfn P 57 [.slice b g 0 l.length (some 3) cp, .c (.func f [] B)] (H.set b (.cells g (cR l) 0)) = some (.c (ci (idxP p 0 l)), H.set b (.cells g (cR l) 0)) := by
  have hl := L160l (P := P) (cp := cp) hp hb hg l.length hn l [] rfl
  simp [-List.any_eq_true] at hl
  rw [u57]
  cases h0 : l.any p
  · rw [h0] at hl
    simp [c57, hl, idxP_none h0]
  · rw [h0] at hl
    simp [c57, hl]
theorem L34 (hp : PredOk P f B p) (hb : b < H.length) (hg : g ≠ 0) (hU : ∀ D : List LV, underL H.length D = true → underB H.length (H.set b (.cells g D 0)) = true) (n : Nat) (hn : n < 1000000) : ∀ (R K M : List Rs) (hM : M ≠ []), n = K.length + M.length + R.length →
    ∃ M', K.length + (R.filter (fun x => !p x)).length + M'.length = n ∧ execS P (limS P) c34_l0 ⟨[.slice b g 0 n (some 3) cp, .c (.func f [] B), .c (ci K.length), .c (ci (K.length + M.length))], H.set b (.cells g (cR (K ++ (M ++ R))) 0)⟩ =
      some (.exit 0, ⟨[.slice b g 0 n (some 3) cp, .c (ci (K ++ R.filter (fun x => !p x)).length)], H.set b (.cells g (cR ((K ++ R.filter (fun x => !p x)) ++ M')) 0)⟩) := by
  intro R
  induction R with
  | nil =>
    intro K M hM h
    refine ⟨M, by simp at h ⊢; omega, ?_⟩
    have hlt : ¬ (K.length : Int) + M.length < n := by simp at h; omega
    rw [r34_l0]
    simp [c34_l0b, hlt]
  | cons x R ih =>
    intro K M hM h
    simp at h
    have hw : IntKind.i64.wrap ((K.length : Int) + M.length + 1) = (K.length : Int) + M.length + 1 := wrap64 (by omega) (by omega)
    have hw2 : IntKind.i64.wrap ((K.length : Int) + 1) = (K.length : Int) + 1 := wrap64 (by omega) (by omega)
    have hlt : (K.length : Int) + M.length < n := by omega
    have j1 : 0 ≤ (K.length : Int) + M.length := by omega
    have t1 : ((K.length : Int) + M.length).toNat = K.length + M.length := by omega
    have e1 : K ++ (M ++ x :: R) = (K ++ M) ++ x :: R := by simp
    have g1 := cR_load (Pr := K ++ M) (x := x) (Po := R) (W := []) (k := K.length + M.length) (by simp)
    have g2 := cR_bound (Pr := K ++ M) (x := x) (Po := R)
    rw [List.append_nil] at g1
    rw [← e1] at g1 g2
    simp only [List.length_append] at g2
    have hc := fun pos q h => hp pos q x h
    cases h0 : p x
    · cases M with
      | nil => exact absurd rfl hM
      | cons m M =>
        have s1 := cR_store (Pr := K) (x := m) (y := x) (Po := M ++ x :: R) (W := []) (k := K.length) rfl
        simp only [List.append_nil] at s1
        have e2 : K ++ ((m :: M) ++ x :: R) = K ++ m :: (M ++ x :: R) := rfl
        obtain ⟨M', i1, i2⟩ := ih (K ++ [x]) (M ++ [x]) (by simp) (by simp at h ⊢; omega)
        refine ⟨M', by simp [h0] at i1 ⊢; omega, ?_⟩
        have e3 : K ++ x :: (M ++ x :: R) = (K ++ [x]) ++ ((M ++ [x]) ++ R) := by simp
        rw [e3] at s1
        have hf : (x :: R).filter (fun x => !p x) = x :: R.filter (fun x => !p x) := by simp [h0]
        have hl : (cR (K ++ ((m :: M) ++ x :: R))).length = n * 3 := by rw [cR_length]; simp at h ⊢; omega
        have hl2 : (cR ((K ++ [x]) ++ ((M ++ [x]) ++ R))).length = n * 3 := by rw [cR_length]; simp at h ⊢; omega
        rw [hl] at g2
        rw [← e2] at s1
        have hu := hU _ (under_cR H.length ((K ++ [x]) ++ ((M ++ [x]) ++ R)))
        have hKn : (K.length : Int) < n := by simp at h; omega
        have k1 : K.length * 3 + 3 ≤ n * 3 := by simp at h; omega
        have e5 : (K ++ [x]) ++ R.filter (fun x => !p x) = K ++ x :: R.filter (fun x => !p x) := by simp
        rw [e5] at i2
        rw [hf]
        simp only [h0] at hc
        generalize cR (K ++ ((m :: M) ++ x :: R)) = D1 at *
        generalize cR ((K ++ [x]) ++ ((M ++ [x]) ++ R)) = D2 at *
        generalize cR (K ++ x :: R.filter (fun x => !p x) ++ M') = D3 at *
        simp only [cel3, Rs.enc] at g1 hc s1
        have hget : ∀ X Y : LB, (H.set b X ++ [Y])[b]? = some X := fun X Y => by rw [List.getElem?_append_left (by simpa using hb)]; simp [hb]
        simp only [setCells] at s1
        rw [r34_l0]
        simp at i2 hw hlt j1 t1 g1 g2 ⊢
        have e6 : (K.length : Int) + 1 + (M.length + 1) = K.length + (M.length + 1) + 1 := by omega
        rw [e6] at i2
        simp [c34_l0b, hw, hw2, hlt, j1, t1, hb, g1, g2, s1, hl, hl2, hc, hKn, k1, take_set, hu, hget, i2]
    · obtain ⟨M', i1, i2⟩ := ih K (M ++ [x]) (by simp) (by simp at h ⊢; omega)
      have hf : (x :: R).filter (fun x => !p x) = R.filter (fun x => !p x) := by simp [h0]
      rw [hf]
      refine ⟨M', i1, ?_⟩
      have e3 : K ++ ((M ++ [x]) ++ R) = K ++ (M ++ x :: R) := by simp
      rw [e3] at i2
      have hl : (cR (K ++ (M ++ x :: R))).length = n * 3 := by rw [cR_length]; simp; omega
      rw [hl] at g2
      have hu := hU _ (under_cR H.length (K ++ (M ++ x :: R)))
      simp only [h0] at hc
      generalize cR (K ++ (M ++ x :: R)) = D1 at *
      generalize cR (K ++ R.filter (fun x => !p x) ++ M') = D3 at *
      simp only [cel3, Rs.enc] at g1 hc
      have hget : ∀ X Y : LB, (H.set b X ++ [Y])[b]? = some X := fun X Y => by rw [List.getElem?_append_left (by simpa using hb)]; simp [hb]
      rw [r34_l0]
      simp at i2 ⊢
      have e6 : (K.length : Int) + (M.length + 1) = K.length + M.length + 1 := by omega
      rw [e6] at i2
      simp [c34_l0b, hw, hlt, j1, t1, hb, g1, g2, hl, hc, take_set, hu, hget, i2]
end LM.GK
namespace LM.GK
open Go LM
variable {P : Nat → Option SFunc} [Has P]
variable {f : Nat} {B : List CV} {p : Rs → Bool} {H : Heap} {b g : Nat} {cp : Option Nat} {W : List LV}
theorem filter_split {p : Rs → Bool} : ∀ {xs : List Rs}, xs.any p = true → ∃ K m R, xs = K ++ m :: R ∧ idxP p 0 xs = (K.length : Nat) ∧ xs.filter (fun x => !p x) = K ++ R.filter (fun x => !p x) := by
  have key : ∀ (xs : List Rs) (n : Nat), xs.any p = true → ∃ K m R, xs = K ++ m :: R ∧ idxP p n xs = ((n + K.length : Nat) : Int) ∧ xs.filter (fun x => !p x) = K ++ R.filter (fun x => !p x) := by
    intro xs
    induction xs with
    | nil => intro n h; simp at h
    | cons x r ih =>
      intro n h
      cases h0 : p x
      · obtain ⟨K, m, R, e1, e2, e3⟩ := ih (n + 1) (by simpa [h0] using h)
        refine ⟨x :: K, m, R, by rw [e1]; rfl, ?_, by simp [h0, e3]⟩
        rw [idxP, if_neg (by simp [h0]), e2]
        congr 1
        simp
        omega
      · exact ⟨[], x, r, rfl, by rw [idxP, if_pos h0]; simp, by simp [h0]⟩
  intro xs h
  obtain ⟨K, m, R, e1, e2, e3⟩ := key xs 0 h
  exact ⟨K, m, R, e1, by rw [e2]; simp, e3⟩
theorem set_all : ∀ (Z A C : List LV), Z.length = C.length → setCells (A ++ C) A.length Z = A ++ Z
  | [], A, C, h => by
    have : C = [] := List.eq_nil_of_length_eq_zero h.symm
    subst this
    rfl
  | z :: Z, A, [], h => by simp at h
  | z :: Z, A, c :: C, h => by
    have ih := set_all Z (A ++ [z]) C (by simpa using h)
    have e : (A ++ c :: C).set A.length z = (A ++ [z]) ++ C := by simp
    rw [setCells, e]
    simpa using ih
theorem repeatL_len (z : List LV) : ∀ n, (repeatL n z).length = n * z.length
  | 0 => by simp [repeatL]
  | n + 1 => by
    have := repeatL_len z n
    have e : repeatL (n + 1) z = z ++ repeatL n z := by simp [repeatL, List.replicate_succ]
    rw [e, List.length_append, this, Nat.add_mul]
    omega
theorem under_repeat (m : Nat) (z : List LV) (h : underL m z = true) : ∀ n, underL m (repeatL n z) = true
  | 0 => rfl
  | n + 1 => by
    have := under_repeat m z h n
    have e : repeatL (n + 1) z = z ++ repeatL n z := by simp [repeatL, List.replicate_succ]
    rw [e, underL_append, h, this]
    rfl
theorem S34 (hp : PredOk P f B p) (hb : b < H.length) (hg : g ≠ 0) (hU : ∀ D : List LV, underL (H.length + 1) D = true → underB (H.length + 1) ((H ++ [LB.cells 1 [] 0]).set b (.cells g D 0)) = true) (xs : List Rs) (hn : xs.length < 1000000) :
    ∃ W cp', (∀ m, underL m W = true) ∧ sfn P 34 [.slice b g 0 xs.length (some 3) none, .c (.func f [] B)] (H.set b (.cells g (cR xs) 0)) = some (.slice b g 0 (xs.filter (fun x => !p x)).length (some 3) cp', (H ++ [LB.cells 1 [] 0]).set b (.cells g (cR (xs.filter (fun x => !p x)) ++ W) 0)) := by
  have hs : ∀ X, H.set b X ++ [LB.cells 1 [] 0] = (H ++ [LB.cells 1 [] 0]).set b X := fun X => (List.set_append_left _ _ hb).symm
  have hb1 : b < (H ++ [LB.cells 1 [] 0]).length := by simp; omega
  have e160 := S160l (P := P) (cp := none) hp hb1 hg xs hn
  cases hq : xs.any p
  · have hf : xs.filter (fun x => !p x) = xs := by
      rw [List.filter_eq_self]
      intro x hx
      have := List.any_eq_false.1 hq x hx
      simpa using this
    refine ⟨[], none, fun _ => rfl, ?_⟩
    rw [hf, u34]
    rw [idxP_none hq] at e160
    simp [c34, hs, frzFuncs_nil, frzFuncs_c, frzFuncs_slice, e160]
  · obtain ⟨K, m, R, e1, e2, e3⟩ := filter_split hq
    rw [e2] at e160
    obtain ⟨M', i1, i2⟩ := L34 (P := P) (H := H ++ [LB.cells 1 [] 0]) (cp := none) hp hb1 hg (by simpa using hU) xs.length hn R K [m] (by simp) (by rw [e1]; simp; omega)
    have e4 : K ++ ([m] ++ R) = xs := by rw [e1]; simp
    rw [e4, ← e3] at i2
    have hFl : (xs.filter (fun x => !p x)).length = K.length + (R.filter (fun x => !p x)).length := by rw [e3]; simp
    rw [← hFl] at i1
    have hlt : (xs.filter (fun x => !p x)).length < xs.length := by
      rw [hFl, e1]
      have := List.length_filter_le (fun x => !p x) R
      simp
      omega
    have hKx : K.length < xs.length := by rw [e1]; simp
    generalize xs.filter (fun x => !p x) = F at *
    refine ⟨repeatL M'.length [LV.c (.str []), LV.c (.str []), LV.nil], none, fun m => under_repeat m _ rfl _, ?_⟩
    have hset := set_all (repeatL M'.length [LV.c (.str []), LV.c (.str []), LV.nil]) (cR F) (cR M') (by rw [repeatL_len, cR_length]; simp)
    rw [← cR_append, cR_length] at hset
    have hcl : (cR (F ++ M')).length = xs.length * 3 := by rw [cR_length]; simp; omega
    have hd : xs.length - F.length = M'.length := by omega
    have q1 : (F.length : Int) ≤ xs.length := by omega
    have q2 : F.length ≤ xs.length := by omega
    have q3 : ¬ M'.length = 0 := by omega
    have q4 : F.length * 3 + M'.length * 3 ≤ xs.length * 3 := by omega
    have q5 : ¬ (K.length : Int) = -1 := by omega
    have hw : IntKind.i64.wrap ((K.length : Int) + 1) = (K.length : Int) + 1 := wrap64 (by omega) (by omega)
    have hZ : (List.replicate M'.length [LV.c (.str []), LV.c (.str []), LV.nil]).flatten = repeatL M'.length [LV.c (.str []), LV.c (.str []), LV.nil] := rfl
    generalize cR (F ++ M') = D1 at *
    generalize cR F = D2 at *
    generalize repeatL M'.length [LV.c (.str []), LV.c (.str []), LV.nil] = Z at *
    have hs' : ∀ X, (H ++ [LB.cells 1 [] 0]).set b X = H.set b X ++ [LB.cells 1 [] 0] := fun X => (hs X).symm
    have hget : ∀ X Y : LB, (H.set b X ++ [Y])[b]? = some X := fun X Y => by rw [List.getElem?_append_left (by simpa using hb)]; simp [hb]
    simp only [hs'] at i2 e160 ⊢
    simp at i2
    rw [u34]
    by_cases hF : F = []
    · have hF0 : F.length = 0 := by rw [hF]; rfl
      have hx0 : ¬ xs.length = 0 := by omega
      have hx1 : M'.length = xs.length := by omega
      have hx2 : ¬ xs = [] := fun q => hx0 (by rw [q]; rfl)
      have hM0 : ¬ M' = [] := fun q => q3 (by rw [q]; rfl)
      rw [hF0] at hset
      simp at hset
      simp [c34, frzFuncs_nil, frzFuncs_c, frzFuncs_slice, e160, q5, hw, i2, q1, hb, hget, hF, hF0, hx0, hx2, hcl]
      rw [← hx1, hZ, hset]
    · simp [c34, frzFuncs_nil, frzFuncs_c, frzFuncs_slice, e160, q5, hw, i2, q1, hb, hget, hF, hlt, hd, q3, q4, hcl]
      rw [hZ, hset]
end LM.GK
namespace LM.GK
open Go LM
variable {P : Nat → Option SFunc} [Has P]
def cmpJ (a b : Int) : Int := if a < b then -1 else if b < a then 1 else 0
theorem S96j (a b : Int) : fn P 52 [ci a, ci b] = some (ci (cmpJ a b)) := by
  have e : ∀ x : Int, fn P 72 [ci x] = some (.bool false) := fun x => by rw [u72]; simp [c72]
  rw [u52]
  unfold cmpJ
  by_cases h1 : a < b <;> by_cases h2 : b < a <;> simp [c52, e, h1, h2]
theorem cmpJ_zero (a b : Int) : cmpJ a b = 0 ↔ a = b := by unfold cmpJ; (repeat' split) <;> omega
def cmpL : List Int → List Int → Int
  | [], [] => 0
  | [], _ :: _ => -1
  | _ :: _, [] => 1
  | a :: x, b :: y => if a = b then cmpL x y else cmpJ a b
def loopC : List Int → List Int → Option Int
  | [], _ => none
  | _ :: _, [] => some 1
  | a :: x, b :: y => if a = b then loopC x y else some (cmpJ a b)
theorem cmpL_loop : ∀ x y : List Int, cmpL x y = match loopC x y with
    | some v => v
    | none => if x.length < y.length then -1 else 0
  | [], [] => rfl
  | [], b :: y => by simp [cmpL, loopC]
  | a :: x, [] => rfl
  | a :: x, b :: y => by
    have ih := cmpL_loop x y
    simp only [cmpL, loopC]
    by_cases h : a = b
    · rw [if_pos h, if_pos h, ih]
      cases loopC x y <;> simp
    · rw [if_neg h, if_neg h]
theorem L48 : ∀ (x y pa pb : List Int), pa.length = pb.length → ((pa ++ x).length : Int) < 9223372036854775807 → ((pb ++ y).length : Int) < 9223372036854775807 →
    execS P (limS P) c48_l0 ⟨[.c (.slice ((pa ++ x).map ci)), .c (.slice ((pb ++ y).map ci)), .c (.slice ((pa ++ x).map ci)), .c (ci (pa ++ x).length), .c (ci pa.length)], []⟩ =
      match loopC x y with
      | some v => some (.ret, ⟨[.c (ci v)], []⟩)
      | none => some (.exit 0, ⟨[.c (.slice ((pa ++ x).map ci)), .c (.slice ((pb ++ y).map ci))], []⟩) := by
  intro x
  induction x with
  | nil =>
    intro y pa pb hp h1 h2
    rw [r48_l0]
    simp [c48_l0b, loopC]
  | cons a x ih =>
    intro y pa pb hp h1 h2
    simp at h1 h2
    have hw : IntKind.i64.wrap (↑pa.length + 1) = ↑pa.length + 1 := wrap64 (by omega) (by omega)
    have hlt : (pa.length : Int) < pa.length + (x.length + 1) := by omega
    cases y with
    | nil =>
      have hge : (pb.length : Int) ≤ pa.length := by omega
      rw [r48_l0]
      simp [c48_l0b, loopC, hlt, hge]
    | cons b y =>
      have ih := ih y (pa ++ [a]) (pb ++ [b]) (by simp [hp]) (by simp; omega) (by simp at h2 ⊢; omega)
      have e96 := S96j (P := P) a b
      simp at h2
      have hge : ¬ (pb.length : Int) + (y.length + 1) ≤ pa.length := by omega
      have hlt2 : (pa.length : Int) < pb.length + (y.length + 1) := by omega
      have g1 : (pb.map ci ++ ci b :: y.map ci)[pa.length]? = some (ci b) := by rw [hp]; simp
      obtain ⟨_, g1'⟩ := List.getElem?_eq_some_iff.1 g1
      simp at ih
      rw [r48_l0]
      simp only [loopC]
      by_cases h : a = b
      · have e0 : cmpJ a b = 0 := (cmpJ_zero a b).2 h
        rw [e0] at e96
        rw [if_pos h]
        simp [c48_l0b, hw, hlt, hge, hlt2, g1, g1', e96, ih]
      · have e0 : ¬ cmpJ a b = 0 := fun q => h ((cmpJ_zero a b).1 q)
        rw [if_neg h]
        simp [c48_l0b, hw, hlt, hge, hlt2, g1, g1', e96, e0]
theorem S48 (x y : List Int) (h1 : (x.length : Int) < 9223372036854775807) (h2 : (y.length : Int) < 9223372036854775807) : fn P 48 [.slice (x.map ci), .slice (y.map ci)] = some (ci (cmpL x y)) := by
  have hL := L48 (P := P) x y [] [] rfl (by simpa using h1) (by simpa using h2)
  simp at hL
  rw [u48, cmpL_loop]
  cases h : loopC x y with
  | some v =>
    rw [h] at hL
    simp at hL
    simp [c48, hL]
  | none =>
    rw [h] at hL
    simp at hL
    by_cases hl : x.length < y.length
    · simp [c48, hL, hl]
    · simp [c48, hL, hl]
theorem L49 : ∀ (x y pa pb : List Int), pa.length = pb.length → x.length = y.length → ((pa ++ x).length : Int) < 9223372036854775807 →
    execS P (limS P) c49_l0 ⟨[.c (.slice ((pa ++ x).map ci)), .c (.slice ((pb ++ y).map ci)), .c (ci (pa ++ x).length), .c (ci pa.length)], []⟩ =
      if x = y then some (.exit 0, ⟨[], []⟩) else some (.ret, ⟨[.c (.bool false)], []⟩) := by
  intro x
  induction x with
  | nil =>
    intro y pa pb hp hl h1
    have : y = [] := List.eq_nil_of_length_eq_zero (by simpa using hl.symm)
    subst this
    rw [r49_l0]
    simp [c49_l0b]
  | cons a x ih =>
    intro y pa pb hp hl h1
    cases y with
    | nil => simp at hl
    | cons b y =>
      have ih := ih y (pa ++ [a]) (pb ++ [b]) (by simp [hp]) (by simpa using hl) (by simpa using h1)
      simp at h1 hl
      have hw : IntKind.i64.wrap (↑pa.length + 1) = ↑pa.length + 1 := wrap64 (by omega) (by omega)
      have hlt : (pa.length : Int) < pa.length + (x.length + 1) := by omega
      have hlt2 : (pa.length : Int) < pb.length + (y.length + 1) := by omega
      have g1 : (pb.map ci ++ ci b :: y.map ci)[pa.length]? = some (ci b) := by rw [hp]; simp
      obtain ⟨_, g1'⟩ := List.getElem?_eq_some_iff.1 g1
      simp at ih
      rw [r49_l0]
      by_cases h : a = b
      · subst h
        simp [c49_l0b, hw, hlt, hlt2, g1, g1', ih]
      · simp [c49_l0b, hw, hlt, hlt2, g1, g1', h]
theorem S49 (x y : List Int) (h1 : (x.length : Int) < 9223372036854775807) : fn P 49 [.slice (x.map ci), .slice (y.map ci)] = some (.bool (decide (x = y))) := by
  rw [u49]
  by_cases hl : x.length = y.length
  · have hL := L49 (P := P) x y [] [] rfl hl (by simpa using h1)
    simp at hL
    have hl' : (x.length : Int) = y.length := by omega
    by_cases h : x = y
    · rw [if_pos h] at hL
      subst h
      simp [c49, hL]
    · rw [if_neg h, hl] at hL
      simp [c49, hl, hL, h]
  · have h : ¬ x = y := fun q => hl (by rw [q])
    have hl' : ¬ (x.length : Int) = y.length := by omega
    simp [c49, hl', h]
def cmpRs (x y : Rs) : Int := cmpL y.vals x.vals
end LM.GK
namespace LM.GK
open Go LM
theorem strElem (s : Str) : Elem none (CV.str s) := ⟨rfl, rfl⟩
theorem strElems (l : List Str) : ∀ x ∈ l.map CV.str, Elem none x := by
  intro x hx
  obtain ⟨y, _, rfl⟩ := List.mem_map.1 hx
  exact strElem y
end LM.GK
namespace LM.GK
open Go LM
variable {P : Nat → Option SFunc} [Has P]
theorem cmp164 : CmpR P 47 [] cmpRs := by
  intro pos q x y h hx hy
  have e165 := S48 (P := P) y.vals x.vals hy hx
  have e : fn P 47 [x.enc, y.enc] = some (ci (cmpRs x y)) := by
    rw [u47]
    simp [c47, Rs.enc, e165, cmpRs]
  simp [e]
def fwdR (quota : Int) : Int → Int → Option Rs → List Rs → List Str
  | _, _, _, [] => []
  | i, rank, prev, x :: r =>
    let rk := match prev with
      | some y => if x.vals = y.vals then rank else i + 1
      | none => i + 1
    (if rk ≤ quota then [x.who] else []) ++ fwdR quota (i + 1) rk (some x) r
def SW (ys : List Str) : LB := .cells (1 + ys.length) (cellsOf (ys.map CV.str)) 0
theorem SW_under (n : Nat) (ys : List Str) : (SW ys).under n = true := by simp [SW, LB.under, underL_cellsOf]
theorem cR_get2 {Pr Po : List Rs} {y : Rs} {W : List LV} {k : Nat} (h : k = Pr.length) : (cR (Pr ++ y :: Po) ++ W)[k * 3 + 2]? = some (.c (.slice (y.vals.map ci))) := by
  subst h
  have hl := cR_length Pr
  rw [cR_append, cR_cons, List.append_assoc, List.getElem?_append_right (by omega), hl, show Pr.length * 3 + 2 - Pr.length * 3 = 2 from by omega]
  rfl
theorem L23 (quota : Int) (s : List Rs) (hv : ∀ y ∈ s, y.vok) (W : List LV) (hW : underL 4 W = true) (cp : Option Nat) (n : Nat) (hn : n = s.length) (hn2 : n < 1000) : ∀ (r pre : List Rs) (ys : List Str) (rank : Int), s = pre ++ r → ys.length ≤ pre.length → (∀ y, pre.getLast? = some y → True) →
    execS P (limS P) c23_l0 ⟨[.slice 1 1 0 n (some 3) cp, .c (ci quota), .slice 3 (1 + ys.length) 0 ys.length none none, .c (ci rank), .slice 1 1 0 n (some 3) cp, .c (ci n), .c (ci pre.length)], [.cells 1 [] 0, .cells 1 (cR s ++ W) 0, .cells 1 [] 0, SW ys]⟩ =
      some (.exit 0, ⟨[.slice 3 (1 + (ys ++ fwdR quota pre.length rank pre.getLast? r).length) 0 (ys ++ fwdR quota pre.length rank pre.getLast? r).length none none], [.cells 1 [] 0, .cells 1 (cR s ++ W) 0, .cells 1 [] 0, SW (ys ++ fwdR quota pre.length rank pre.getLast? r)]⟩) := by
  intro r
  induction r with
  | nil =>
    intro pre ys rank hs hy _
    have : (pre.length : Int) = n := by rw [hn, hs]; simp
    rw [r23_l0]
    simp [c23_l0b, this, fwdR]
  | cons x r ih =>
    intro pre ys rank hs hy _
    have hpl : pre.length < n := by rw [hn, hs]; simp
    have hw : IntKind.i64.wrap ((pre.length : Int) + 1) = (pre.length : Int) + 1 := wrap64 (by omega) (by omega)
    have hlt : (pre.length : Int) < n := by omega
    have hxv := hv x (by rw [hs]; simp)
    have g1 := cR_load (Pr := pre) (x := x) (Po := r) (W := W) (k := pre.length) rfl
    rw [← hs] at g1
    have hl : (cR s ++ W).length = n * 3 + W.length := by rw [List.length_append, cR_length, hn]
    have p1 : 3 ≤ n * 3 + W.length - pre.length * 3 := by omega
    have p2 : pre.length * 3 ≤ n * 3 + W.length := by omega
    have hu := underL_append 4 (cR s) W
    rw [under_cR, hW] at hu
    simp only [Bool.and_self] at hu
    have hyb : ys.length < 1000 := by omega
    have ha := fun X0 X1 X2 X4 => append_own (b := 3) (g := 1 + ys.length) (bytes := 16) (e := none) (ys := ys.map CV.str) (xs := [.str x.who]) (h := [X0, X1, X2, SW ys, X4]) (len := ys.length) (fz := 0) rfl (strElems _) (by simpa using strElem x.who) (by simp) (Nat.zero_le _) (by simp) (by simp; omega) (by simp; omega)
    have eS : LB.cells (1 + ys.length + 1) (cellsOf (ys.map CV.str ++ [CV.str x.who])) 0 = SW (ys ++ [x.who]) := by simp [SW, Nat.add_assoc]
    simp at ha
    simp only [eS] at ha
    have hsu := fun zs => SW_under 4 zs
    unfold LB.under at hsu
    have ihA := fun rk => ih (pre ++ [x]) (ys ++ [x.who]) rk (by simp [hs]) (by simp; omega) (fun _ _ => trivial)
    have ihB := fun rk => ih (pre ++ [x]) ys rk (by simp [hs]) (by simp; omega) (fun _ _ => trivial)
    have e1 : 1 + (ys.length + 1) = 1 + ys.length + 1 := by omega
    simp [e1] at ihA ihB
    rcases List.eq_nil_or_concat pre with hpre | ⟨pre', y, hpre⟩
    · subst hpre
      simp only [List.length_nil] at *
      have hF : fwdR quota 0 rank none (x :: r) = (if 1 ≤ quota then [x.who] else []) ++ fwdR quota 1 1 (some x) r := by simp [fwdR]
      simp [hF]
      generalize cR s ++ W = D at *
      simp only [cel3] at g1
      have w1 : IntKind.i64.wrap 1 = 1 := rfl
      simp at g1 ihA ihB p1 hlt hw
      rw [r23_l0]
      by_cases hq : 1 ≤ quota
      · simp [c23_l0b, hlt, hl, g1, p1, hq, w1, ha, hu, hsu, ihA]
        omega
      · simp [c23_l0b, hlt, hl, g1, p1, hq, w1, hu, hsu, ihB]
    · have hpl' : pre.length = pre'.length + 1 := by rw [hpre]; simp
      have hlast : pre.getLast? = some y := by rw [hpre]; simp
      have gy : (cR s ++ W)[pre'.length * 3 + 2]? = some (.c (.slice (y.vals.map ci))) := by
        have : s = pre' ++ y :: (x :: r) := by rw [hs, hpre]; simp
        rw [this]
        exact cR_get2 rfl
      have e166 := S49 (P := P) x.vals y.vals hxv
      rw [hlast]
      have hF : fwdR quota pre.length rank (some y) (x :: r) = (if (if x.vals = y.vals then rank else (pre.length : Int) + 1) ≤ quota then [x.who] else []) ++ fwdR quota (pre.length + 1) (if x.vals = y.vals then rank else (pre.length : Int) + 1) (some x) r := rfl
      rw [hF]
      have n0 : ¬ (pre.length : Int) = 0 := by omega
      have w1 : IntKind.i64.wrap ((pre.length : Int) - 1) = pre'.length := by rw [show (pre.length : Int) - 1 = pre'.length from by omega]; exact wrap64 (by omega) (by omega)
      have hlt' : (pre'.length : Int) < n := by omega
      have hpn : ¬ pre = [] := fun q => by rw [q] at hpl'; simp at hpl'
      generalize cR s ++ W = D at *
      simp only [cel3] at g1
      obtain ⟨gy1, gy2⟩ := List.getElem?_eq_some_iff.1 gy
      rw [r23_l0]
      by_cases hv : x.vals = y.vals
      · have e166' : fn P 49 [.slice (x.vals.map ci), .slice (y.vals.map ci)] = some (.bool true) := by rw [e166]; simp [hv]
        by_cases hq : rank ≤ quota
        · simp [hv, hq]
          simp [c23_l0b, hlt, hl, g1, p1, n0, hpn, w1, hlt', gy, gy2, e166', hq, hw, ha, hu, hsu, ihA]
        · simp [hv, hq]
          simp [c23_l0b, hlt, hl, g1, p1, n0, hpn, w1, hlt', gy, gy2, e166', hq, hw, hu, hsu, ihB]
      · rw [decide_eq_false hv] at e166
        by_cases hq : (pre.length : Int) + 1 ≤ quota
        · simp [hv, hq]
          simp [c23_l0b, hlt, hl, g1, p1, n0, hpn, w1, hlt', gy, gy2, e166, hq, hw, ha, hu, hsu, ihA]
        · simp [hv, hq]
          simp [c23_l0b, hlt, hl, g1, p1, n0, hpn, w1, hlt', gy, gy2, e166, hq, hw, hu, hsu, ihB]
end LM.GK
namespace LM.GK
open Go LM
variable {P : Nat → Option SFunc} [Has P]
def fwdL (l : List Rs) (quota : Int) : List Str := fwdR quota 0 0 none (sortI (ltC cmpRs) [] (l.filter isS))
theorem clone_rs (X : List Rs) (h : X.length < 1000000) : cloneP (some 3) 56 [.slice (X.map Rs.enc)] = if X = [] then some (.emp, []) else some (.slice 0 1 0 X.length (some 3) none, [.cells 1 (cR X) 0]) := by
  have e1 : ((X.map Rs.enc).flatMap CV.cells).map LV.c = cR X := by rw [← cellsOf_rs]; rfl
  by_cases hx : X = []
  · subst hx; rfl
  · have hn : X.length ≠ 0 := fun e => hx (List.eq_nil_of_length_eq_zero e)
    have hz : szOf (some 3) = 3 := rfl
    have hf : flatAll (cR X) = true := by rw [← cellsOf_rs]; exact flatAll_cellsOf (Rs.elems X)
    unfold cloneP
    simp only [e1, List.length_map, cR_length, hf, hz]
    rw [if_neg hn, if_neg (by simp; omega), if_neg hx]
theorem frzFuncs_emp (l : List LV) (h : Heap) : frzFuncs (.emp :: l) h = bnd (frzFuncs l h) fun a => some (.emp :: a.1, a.2) := by
  rw [frzFuncs]
  rcases frzFuncs l h with _ | ⟨x, y⟩ <;> rfl
  all_goals simp
theorem shift_cR (n : Nat) : ∀ xs : List Rs, shiftL n (cR xs) = cR xs
  | [] => rfl
  | x :: r => by
    have ih := shift_cR n r
    have e : cR (x :: r) = .c (.str x.who) :: .c (.str x.state) :: .c (.slice (x.vals.map ci)) :: cR r := rfl
    rw [e]
    simp only [shiftL, LV.shift, ih]
theorem S23 (l : List Rs) (quota : Int) (hv : ∀ y ∈ l, y.vok) (hl : l.length < 1000) (hn : (l.filter isS).length < 20) : fn P 23 [.slice (l.map Rs.enc), ci quota] = some (.slice ((fwdL l quota).map CV.str)) := by
  have hc := clone_rs l (by omega)
  rw [u23]
  by_cases h0 : l = []
  · subst h0
    simp at hc
    have e160 : ∀ h, sfn P 57 [.emp, .c (.func 45 [] [])] h = some (.c (ci (-1)), h) := by
      intro h
      have hL : execS P (limS P) c57_l0 ⟨[.emp, .c (.func 45 [] []), .c (ci 0), .c (ci 0)], h⟩ = some (.exit 0, ⟨[], h⟩) := by
        rw [r57_l0]
        simp [c57_l0b]
      rw [u57]
      simp [c57, hL]
    have e136 : ∀ h, sfn P 34 [.emp, .c (.func 45 [] [])] h = some (.emp, h ++ [.cells 1 [] 0]) := by
      intro h
      rw [u34]
      simp [c34, frzFuncs_nil, frzFuncs_c, frzFuncs_emp, e160]
    have e173 : ∀ h, sfn P 79 [.emp, .c (ci 0), .c (ci 0), .c (.func 47 [] [])] h = some (.c (.tuple []), h) := by
      intro h
      have hL : execS P (limS P) c79_l1 ⟨[.emp, .c (ci 0), .c (ci 0), .c (.func 47 [] []), .c (ci 1)], h⟩ = some (.exit 0, ⟨[], h⟩) := by
        rw [r79_l1]
        simp [c79_l1b]
      have w1 : IntKind.i64.wrap 1 = 1 := rfl
      rw [u79]
      simp [c79, w1, hL]
    have e171 : ∀ h, sfn P 70 [.emp, .c (ci 0), .c (.func 47 [] [])] h = some (.c (.tuple []), h) := by
      intro h
      have l0 : ∀ E, execS P (limS P) c70_l0 ⟨[.emp, .c (ci 0), .c (.func 47 [] []), .c (ci 20), .c (ci 0), .c (ci 20)], E⟩ = some (.exit 0, ⟨[.emp, .c (ci 0), .c (.func 47 [] []), .c (ci 20), .c (ci 0)], E⟩) := by
        intro E
        rw [r70_l0]
        simp [c70_l0b]
      have l2 : ∀ E, execS P (limS P) c70_l2 ⟨[.emp, .c (ci 0), .c (.func 47 [] []), .c (ci 20)], E⟩ = some (.exit 2, ⟨[], E⟩) := by
        intro E
        rw [r70_l2]
        simp [c70_l2b]
      rw [u70]
      simp [c70, l0, l2, e173, frzFuncs_nil, frzFuncs_c, frzFuncs_emp]
    have e163 : ∀ h, sfn P 46 [.emp, .c (.func 47 [] [])] h = some (.c (.tuple []), h) := by
      intro h
      rw [u46]
      simp [c46, e171, frzFuncs_nil, frzFuncs_c, frzFuncs_emp]
    have hL : ∀ E, execS P (limS P) c23_l0 ⟨[.emp, .c (ci quota), .slice 3 1 0 0 none none, .c (ci 0), .emp, .c (ci 0), .c (ci 0)], E⟩ = some (.exit 0, ⟨[.slice 3 1 0 0 none none], E⟩) := by
      intro E
      rw [r23_l0]
      simp [c23_l0b]
    have hR : fwdL [] quota = [] := rfl
    rw [hR]
    simp [c23, u35, hc, LV.shift, shiftB, frzFuncs_nil, frzFuncs_c, frzFuncs_emp, e136, e163, hL]
  · rw [if_neg h0] at hc
    obtain ⟨W, cp', hW, e136⟩ := S34 (P := P) (pred162 (P := P)) (H := [.cells 1 [] 0, .dead]) (b := 1) (g := 1) (by simp) (by decide) (by intro D hD; have hD2 : underL 3 D = true := hD; simp [hD2]) l (by omega)
    have hfe : l.filter (fun x => !!isS x) = l.filter isS := by congr 1; funext x; simp
    rw [hfe] at e136
    have hv' : ∀ y ∈ l.filter isS, y.vok := fun y hy => hv y (List.mem_filter.1 hy).1
    have e163 := S46 (P := P) (cp := cp') (W := W) (cmp164 (P := P)) (H := [.cells 1 [] 0, .dead, .cells 1 [] 0]) (b := 1) (g := 1) (by simp) (by decide) (l.filter isS) hv' (l.filter isS).length hn rfl
    have hsl := sortI_length (lt := ltC cmpRs) [] (l.filter isS)
    simp at hsl
    have hL := L23 (P := P) quota (sortI (ltC cmpRs) [] (l.filter isS)) (fun y hy => hv' y (by simpa using (sortI_perm (lt := ltC cmpRs) [] (l.filter isS)).mem_iff.1 hy)) W (hW 4) cp' (l.filter isS).length hsl.symm (by omega) (sortI (ltC cmpRs) [] (l.filter isS)) [] [] 0 rfl (by simp) (fun _ _ => trivial)
    have hF : fwdR quota 0 0 none (sortI (ltC cmpRs) [] (l.filter isS)) = fwdL l quota := rfl
    simp [hF] at hL
    have hr := fun X0 X1 X2 => resV_own1 (b := 3) (g := 1 + (fwdL l quota).length) (fz := 0) (e := none) (ys := (fwdL l quota).map CV.str) (h := [X0, X1, X2, SW (fwdL l quota)]) (len := (fwdL l quota).length) rfl (strElems _) (by simp) none
    have e0 : SW [] = .cells 1 [] 0 := rfl
    simp [e0] at hL e136 e163
    generalize l.filter isS = F at *
    generalize sortI (ltC cmpRs) [] F = S at *
    generalize fwdL l quota = R at *
    simp [c23, u35, hc, LV.shift, shiftB, LB.shift, shift_cR, frzFuncs_nil, frzFuncs_c, frzFuncs_slice, e136, e163, hL, hr]
end LM.GK
namespace LM.GK
open Go LM
variable {P : Nat → Option SFunc} [Has P]
theorem S22 (q : Int) : fn P 22 [ci q] = some (ci (whenE (outside q 0 160) 3)) := by
  have := S44 (P := P) q 0 160
  rw [u22]
  simp [c22, this]
theorem pred135 (s : Str) : PredOk P 32 [.ptr [.str s] 0] (isW s) := by
  intro pos q x h
  have e : fn P 32 [x.enc, .ptr [.str s] 0] = some (.bool (isW s x)) := by
    rw [u32]
    by_cases h : x.who = s <;> simp [c32, Rs.enc, isW, h]
  simp [e]
def inW (out : List Str) (x : Rs) : Bool := out.any (Str.is x.who)
theorem pred138 (out : List Str) (ho : (out.length : Int) < 9223372036854775807) : PredOk P 36 [.ptr [.slice (out.map CV.str)] 0] (inW out) := by
  intro pos q x h
  have e113 := S33 (P := P) x.who out ho
  have e : fn P 36 [x.enc, .ptr [.slice (out.map CV.str)] 0] = some (.bool (inW out x)) := by
    rw [u36]
    simp [c36, Rs.enc, e113, inW, -List.any_eq_true]
  simp [e]
def outE (l : List Rs) (pre : List Str) (s : Str) : Int := firstE [whenE (!l.any (isW s)) 10, whenE (pre.any (Str.is s)) 9]
def OB (out : List Str) (z : Nat) : LB := .cells 0 [.c (.slice (out.map CV.str))] z
theorem L10 (l : List Rs) (hl : (l.length : Int) < 9223372036854775807) (Q : CV) : ∀ (r pre : List Str), ((pre ++ r).length : Int) < 9223372036854775807 →
    ∃ H b g, H[b]? = some (.cells g [] 0) ∧ execS P (limS P) c10_l0 ⟨[.c (.slice (l.map Rs.enc)), .c Q, .ptr 0 0 0, .c (.slice ((pre ++ r).map CV.str)), .c (ci (pre ++ r).length), .c (ci pre.length)], [OB (pre ++ r) 0, .cells 1 [] 0, .dead]⟩ =
      if eachE (outE l) pre r = 0 then some (.exit 0, ⟨[.c (.slice (l.map Rs.enc)), .c Q, .ptr 0 0 0], [OB (pre ++ r) 0, .cells 1 [] 0, .dead]⟩) else some (.ret, ⟨[.slice b g 0 0 none none, .c (ci (eachE (outE l) pre r))], H⟩) := by
  intro r
  induction r with
  | nil =>
    intro pre h
    refine ⟨[.cells 1 [] 0], 0, 1, rfl, ?_⟩
    rw [r10_l0]
    simp [c10_l0b, eachE]
  | cons s r ih =>
    intro pre h
    obtain ⟨H, b, g, k1, ih⟩ := ih (pre ++ [s]) (by simpa using h)
    have e134 := S31 (P := P) (pred135 (P := P) s) l hl
    have e113 := S33 (P := P) s pre (by simp at h; omega)
    have ht : List.take pre.length (List.map CV.str pre ++ CV.str s :: List.map CV.str r) = pre.map CV.str := by simp
    simp [-List.any_eq_true] at ih h
    have hw : IntKind.i64.wrap (↑pre.length + 1) = ↑pre.length + 1 := wrap64 (by omega) (by omega)
    have hlt : (pre.length : Int) < pre.length + (r.length + 1) := by omega
    have hz : szFits 1 (List.map CV.str pre ++ CV.str s :: List.map CV.str r) = true := by cases pre <;> rfl
    have hb : (pre.length : Int) ≤ pre.length + (r.length + 1) := by omega
    have hE : eachE (outE l) pre (s :: r) = if outE l pre s ≠ 0 then outE l pre s else eachE (outE l) (pre ++ [s]) r := rfl
    have hS : firstE [whenE (!l.any (isW s)) 10, whenE (pre.any (Str.is s)) 9] = outE l pre s := rfl
    by_cases h0 : outE l pre s = 0
    · refine ⟨H, b, g, k1, ?_⟩
      rw [hE, r10_l0]
      simp [OB] at ih
      simp [c10_l0b, OB, hw, hlt, hz, hb, ht, e134, e113, hS, h0, ih, -List.any_eq_true]
    · refine ⟨[OB (pre ++ s :: r) 0, .cells 1 [] 0, .dead, .cells 0 [.c (.str s)] 0, .dead, .cells 1 [] 0], 5, 1, rfl, ?_⟩
      rw [hE, r10_l0]
      simp [c10_l0b, OB, hw, hlt, hz, hb, ht, e134, e113, hS, h0, -List.any_eq_true]
theorem S136e (F : CV) (h : Heap) : sfn P 34 [.emp, .c F] h = some (.emp, h ++ [.cells 1 [] 0]) := by
  have e160 : ∀ h, sfn P 57 [.emp, .c F] h = some (.c (ci (-1)), h) := by
    intro h
    have hL : execS P (limS P) c57_l0 ⟨[.emp, .c F, .c (ci 0), .c (ci 0)], h⟩ = some (.exit 0, ⟨[], h⟩) := by
      rw [r57_l0]
      simp [c57_l0b]
    rw [u57]
    simp [c57, hL]
  rw [u34]
  simp [c34, frzFuncs_nil, frzFuncs_c, frzFuncs_emp, e160]
theorem frz_rs {b g fz : Nat} {F : List Rs} {W : List LV} {h : Heap} (hb : h[b]? = some (.cells g (cR F ++ W) fz)) (cap : Option Nat) : ∃ h', frz frzDepth (.slice b g 0 F.length (some 3) cap) h = some (.slice (F.map Rs.enc), h') := by
  refine ⟨bump b (F.length * 3) h, ?_⟩
  have h3 := chunk_cellsOf (Rs.elems F)
  have hz : szOf (some 3) = 3 := rfl
  rw [frz_slice, hb]
  simp only [Nat.zero_add, List.drop_zero, hz]
  rw [if_pos ⟨trivial, by rw [List.length_append, cR_length]; omega⟩]
  have : (cR F ++ W).take (F.length * 3) = cellsOf (F.map Rs.enc) := by rw [List.take_left' (by rw [cR_length]), cellsOf_rs]
  rw [this]
  unfold cellsOf
  rw [mapH_map_c 38]
  rw [List.length_map] at h3
  simp only [bnd_some, h3]
def replE0 (l : List Rs) (q : Int) (out : List Str) : Int := firstE [resultsE l, whenE (outside q 0 160) 3, whenE (decide ((out.length : Int) > 160)) 5]
def replE (l : List Rs) (q : Int) (out : List Str) : Int := if replE0 l q out ≠ 0 then replE0 l q out else eachE (outE l) [] out
def restL (l : List Rs) (out : List Str) : List Rs := l.filter (fun x => !inW out x)
theorem S10 (l : List Rs) (q : Int) (out : List Str) (hl : ∀ x ∈ l, x.ok) (hs : (l.length : Int) < 9223372036854775807) (ho : (out.length : Int) < 9223372036854775807) (hn : resultsE l = 0 → l.length < 20) : fn P 10 [.slice (l.map Rs.enc), ci q, .slice (out.map CV.str)] = some (.tuple (if replE l q out = 0 then [.slice ((fwdL (restL l out) q).map CV.str), ci 0] else [.slice [], ci (replE l q out)])) := by
  have e73 := S21 (P := P) l hl hs
  have e132 := S22 (P := P) q
  have e88 := S20_3 (P := P) (resultsE l) (whenE (outside q 0 160) 3) (whenE (decide ((out.length : Int) > 160)) 5)
  have hE : firstE [resultsE l, whenE (outside q 0 160) 3, whenE (decide ((out.length : Int) > 160)) 5] = replE0 l q out := rfl
  rw [hE] at e88
  have hd : decide ((160 : Int) < out.length) = decide ((out.length : Int) > 160) := rfl
  obtain ⟨H, b, g, k1, hL⟩ := L10 (P := P) l hs (ci q) out [] (by simpa using ho)
  rw [u10]
  by_cases h0 : replE0 l q out = 0
  · have hRE : replE l q out = eachE (outE l) [] out := by unfold replE; rw [if_neg (by simpa using h0)]
    rw [hRE]
    rw [h0] at e88
    by_cases h1 : eachE (outE l) [] out = 0
    · rw [if_pos h1] at hL ⊢
      have hr : resultsE l = 0 := by
        unfold replE0 at h0
        by_cases q : resultsE l = 0
        · exact q
        · rw [firstE, if_pos q] at h0; exact absurd h0 q
      have hnn := hn hr
      have hfl := List.length_filter_le (fun x => !inW out x) l
      have hfl2 := List.length_filter_le isS (restL l out)
      have hrl : (restL l out).length ≤ l.length := hfl
      have e133 := S23 (P := P) (restL l out) q (fun y hy => (hl y (List.mem_filter.1 hy).1).2.2) (by omega) (by omega)
      have hc := clone_rs l (by omega)
      by_cases hle : l = []
      · subst hle
        have e136 := fun F h => S136e (P := P) F h
        have hre : restL [] out = [] := rfl
        rw [hre] at e133 ⊢
        simp at hc e133
        simp only [OB] at hL
        simp at hL e73
        simp [c10, e73, e132, e88, hd, hL, u35, hc, LV.shift, shiftB, frzFuncs_nil, frzFuncs_c, frzFuncs_emp, frzFuncs_func, frz_func, e136, e133]
      · rw [if_neg hle] at hc
        obtain ⟨W, cp', hW, e136⟩ := S34 (P := P) (pred138 (P := P) out ho) (H := [OB out 1, .cells 1 [] 0, .dead, .dead]) (b := 3) (g := 1) (by simp) (by decide) (by intro D hD; have hD2 : underL 5 D = true := hD; simp [hD2, OB]) l (by omega)
        have hfr : l.filter (fun x => !inW out x) = restL l out := rfl
        rw [hfr] at e136
        obtain ⟨h', e5⟩ := frz_rs (b := 3) (g := 1) (fz := 0) (F := restL l out) (W := W) (h := [OB out 1, .cells 1 [] 0, .dead, .cells 1 (cR (restL l out) ++ W) 0, .cells 1 [] 0]) rfl cp'
        simp only [OB] at hL e136 e5
        simp at hL e136
        simp [c10, e73, e132, e88, hd, hL, u35, hc, LV.shift, shiftB, LB.shift, shift_cR, frzFuncs_nil, frzFuncs_c, frzFuncs_slice, frzFuncs_func, frz_func, e136, e5, e133, -frz_slice]
    · rw [if_neg h1] at hL ⊢
      simp only [OB] at hL
      simp at hL
      simp [c10, e73, e132, e88, hd, hL, resV, mkTuple, k1]
  · have hRE : replE l q out = replE0 l q out := by unfold replE; rw [if_pos h0]
    rw [hRE, if_neg h0]
    simp [c10, e73, e132, e88, hd, h0]
end LM.GK
namespace LM.GK
open Go LM
variable {P : Nat → Option SFunc} [Has P]
theorem cmpL_zero : ∀ a b : List Int, cmpL a b = 0 ↔ a = b
  | [], [] => by simp [cmpL]
  | [], b :: y => by simp [cmpL]
  | a :: x, [] => by simp [cmpL]
  | a :: x, b :: y => by
    have ih := cmpL_zero x y
    simp only [cmpL]
    by_cases h : a = b
    · subst h; simp [ih]
    · rw [if_neg h]
      have := cmpJ_zero a b
      simp [h, this]
theorem cmpL_anti : ∀ a b : List Int, cmpL a b < 0 ↔ 0 < cmpL b a
  | [], [] => by simp [cmpL]
  | [], b :: y => by simp [cmpL]
  | a :: x, [] => by simp [cmpL]
  | a :: x, b :: y => by
    have ih := cmpL_anti x y
    simp only [cmpL]
    by_cases h : a = b
    · subst h; simp [ih]
    · have h' : ¬ b = a := fun q => h q.symm
      rw [if_neg h, if_neg h']
      unfold cmpJ
      (repeat' split) <;> omega
theorem cmpL_split : ∀ a b c : List Int, cmpL a c < 0 → cmpL a b < 0 ∨ cmpL b c < 0
  | [], [], [], h => by simp [cmpL] at h
  | [], [], c :: z, _ => .inr (by simp [cmpL])
  | [], b :: y, _, _ => .inl (by simp [cmpL])
  | a :: x, _, [], h => by simp [cmpL] at h
  | a :: x, [], c :: z, _ => .inr (by simp [cmpL])
  | a :: x, b :: y, c :: z, h => by
    have ih := cmpL_split x y z
    simp only [cmpL] at h ⊢
    by_cases h1 : a = b
    · subst h1
      by_cases h2 : a = c
      · subst h2
        simp at h ⊢
        exact ih h
      · rw [if_neg h2] at h ⊢
        simp
        exact .inr h
    · by_cases h2 : b = c
      · subst h2
        rw [if_neg h1] at h ⊢
        exact .inl h
      · rw [if_neg h1, if_neg h2]
        by_cases h3 : a = c
        · subst h3
          unfold cmpJ
          (repeat' split) <;> omega
        · rw [if_neg h3] at h
          unfold cmpJ at h ⊢
          (repeat' split at h) <;> (repeat' split) <;> omega
def btr (x y : Rs) : Bool := decide (cmpL y.vals x.vals < 0)
theorem btr_eq : ltC cmpRs = btr := rfl
theorem swoR : Swo btr := by
  refine ⟨?_, ?_⟩
  · intro x y h
    unfold btr at h ⊢
    simp only [decide_eq_true_eq, decide_eq_false_iff_not] at h ⊢
    have := (cmpL_anti y.vals x.vals).1 h
    omega
  · intro x y z h
    unfold btr at h ⊢
    simp only [decide_eq_true_eq] at h ⊢
    rcases cmpL_split _ y.vals _ h with q | q
    · exact .inr q
    · exact .inl q
def cntB (S : List Rs) (x : Rs) : Int := ((S.filter (fun y => btr y x)).length : Nat)
theorem btr_total {x y : Rs} (h : ¬ x.vals = y.vals) (h2 : btr x y = false) : btr y x = true := by
  unfold btr at h2 ⊢
  simp only [decide_eq_true_eq, decide_eq_false_iff_not] at h2 ⊢
  have h3 := cmpL_anti x.vals y.vals
  have h4 := cmpL_zero y.vals x.vals
  have h5 : ¬ cmpL y.vals x.vals = 0 := fun q => h (h4.1 q).symm
  omega
theorem fwdR_cnt (quota : Int) (S : List Rs) (hS : Srt btr S) : ∀ (r pre : List Rs) (rank : Int), S = pre ++ r → (∀ y, pre.getLast? = some y → rank = cntB S y + 1) →
    fwdR quota pre.length rank pre.getLast? r = (r.filter (fun x => decide (cntB S x < quota))).map (·.who)
  | [], pre, rank, _, _ => by simp [fwdR]
  | x :: r, pre, rank, hs, hr => by
    have hrk : (match pre.getLast? with
      | some y => if x.vals = y.vals then rank else (pre.length : Int) + 1
      | none => (pre.length : Int) + 1) = cntB S x + 1 := by
      have hall : (∀ z ∈ pre, btr z x = true) → (pre.length : Int) = cntB S x := by
        intro hz
        unfold cntB
        have hs2 := hS
        unfold Srt at hs2
        rw [hs] at hs2
        obtain ⟨p1, p2, p3⟩ := List.pairwise_append.1 hs2
        obtain ⟨p4, p5⟩ := List.pairwise_cons.1 p2
        rw [hs, List.filter_append]
        have e1 : pre.filter (fun y => btr y x) = pre := List.filter_eq_self.2 hz
        have e2 : (x :: r).filter (fun y => btr y x) = [] := by
          rw [List.filter_eq_nil_iff]
          intro y hy
          rcases List.mem_cons.1 hy with rfl | hy
          · simp [swoR.irr y]
          · simp [p4 y hy]
        rw [e1, e2]
        simp
      rcases List.eq_nil_or_concat pre with hpre | ⟨pre', y, hpre⟩
      · subst hpre
        have := hall (by simp)
        simp at this ⊢
        omega
      · rw [List.concat_eq_append] at hpre
        have hlast : pre.getLast? = some y := by rw [hpre]; simp
        rw [hlast]
        simp only
        by_cases hv : x.vals = y.vals
        · rw [if_pos hv, hr y hlast]
          have : cntB S x = cntB S y := by unfold cntB btr; rw [hv]
          rw [this]
        · rw [if_neg hv]
          have hs2 := hS
          unfold Srt at hs2
          rw [hs] at hs2
          obtain ⟨p1, p2, p3⟩ := List.pairwise_append.1 hs2
          have hyx : btr y x = true := btr_total hv (p3 y (by rw [hpre]; simp) x (by simp))
          rw [← hall (fun z hz => by
            rw [hpre] at hz
            rcases List.mem_append.1 hz with q | q
            · rw [hpre] at p1
              have := (List.pairwise_append.1 p1).2.2 z q y (by simp)
              exact swoR.lel this hyx
            · simp at q; rw [q]; exact hyx)]
    have ih := fwdR_cnt quota S hS r (pre ++ [x]) (cntB S x + 1) (by simp [hs]) (fun y hy => by simp at hy; rw [hy])
    simp at ih
    have hF : fwdR quota pre.length rank pre.getLast? (x :: r) = (if cntB S x + 1 ≤ quota then [x.who] else []) ++ fwdR quota (pre.length + 1) (cntB S x + 1) (some x) r := by
      rw [← hrk]
      cases pre.getLast? <;> rfl
    rw [hF, ih]
    by_cases hq : cntB S x + 1 ≤ quota
    · have : cntB S x < quota := by omega
      simp [hq, this]
    · have : ¬ cntB S x < quota := by omega
      simp [hq, this]
theorem fwdL_cnt (l : List Rs) (quota : Int) : fwdL l quota = ((sortI btr [] (l.filter isS)).filter (fun x => decide (cntB (sortI btr [] (l.filter isS)) x < quota))).map (·.who) := by
  unfold fwdL
  rw [btr_eq]
  exact fwdR_cnt quota _ (sortI_srt swoR [] _ (by simp [Srt])) _ [] 0 rfl (by simp)
end LM.GK
namespace LM.GK
open Go LM
variable {P : Nat → Option SFunc} [Has P]
def Like (l : List Rs) : Prop := ∀ x ∈ l, ∀ y ∈ l, isS x = true → isS y = true → x.vals.length = y.vals.length
end LM.GK
namespace LM.GK
open Go LM
variable {P : Nat → Option SFunc} [Has P]
theorem firstE_zC (e : Int) (r : List Int) : firstE (e :: r) = 0 ↔ e = 0 ∧ firstE r = 0 := by
  rw [firstE]
  by_cases h : e = 0 <;> simp [h]
theorem whenE_zC {b : Bool} {e : Int} (h : e ≠ 0) : whenE b e = 0 ↔ b = false := by cases b <;> simp [whenE, h]
theorem results_like {l : List Rs} (h : resultsE l = 0) : Like l := by
  unfold resultsE at h
  split at h
  · cases h
  · have key : ∀ (r pre : List Rs), eachE resE pre r = 0 → (∀ x ∈ pre, isS x = true → (x.vals.length : Int) = cntR pre) → ∀ x ∈ pre ++ r, isS x = true → (x.vals.length : Int) = cntR (pre ++ r) := by
      intro r
      induction r with
      | nil => intro pre _ hp; simpa using hp
      | cons a r ih =>
        intro pre h hp
        rw [eachE] at h
        split at h
        · rename_i q; exact absurd h q
        · rename_i q
          have q : resE pre a = 0 := by simpa using q
          have hsh : shapeE pre a = false := by
            unfold resE at q
            simp only [firstE_zC, whenE_zC (show (2 : Int) ≠ 0 by decide)] at q
            exact q.2.2.2.2.2.2.1
          rw [shapeE_eq] at hsh
          have := ih (pre ++ [a]) h (by
            intro x hx hs
            have hsn := cntR_snoc pre a
            rcases List.mem_append.1 hx with hx | hx
            · have h1 := hp x hx hs
              have : ¬ cntR pre < 0 := by omega
              rw [hsn, if_neg (fun z => this z.1)]
              exact h1
            · simp at hx
              subst hx
              rw [hs] at hsh
              simp at hsh
              exact hsh)
          simpa using this
    have := key l [] h (by simp)
    intro x hx y hy sx sy
    have h1 := this x (by simpa using hx) sx
    have h2 := this y (by simpa using hy) sy
    omega
end LM.GK
namespace LM.GK
open Go LM
variable {P : Nat → Option SFunc} [Has P]
theorem L6_0 (l : List Rs) (hl : (l.length : Int) < 9223372036854775807) (out : List Str) (i : Nat) (s : Str) (hi : out[i]? = some s) : ∀ (r pre : List Rs) (b : Bool), l = pre ++ r →
    execS P (limS P) c6_l0 ⟨[.c (.slice (l.map Rs.enc)), .c (.slice (out.map CV.str)), .c (ci i), .c (.bool b), .c (ci pre.length)], []⟩ = some (.exit 2, ⟨[.c (.slice (l.map Rs.enc)), .c (.slice (out.map CV.str)), .c (ci i), .c (.bool (b || r.any (isW s)))], []⟩) := by
  intro r
  induction r with
  | nil =>
    intro pre b hp
    have hp' : l = pre := by simpa using hp
    subst hp'
    rw [r6_l0]
    simp [c6_l0b]
  | cons x r ih =>
    intro pre b hp
    have gx : l[pre.length]? = some x := by rw [hp]; simp
    have hpl : pre.length < l.length := (List.getElem?_eq_some_iff.1 gx).1
    obtain ⟨_, gx'⟩ := List.getElem?_eq_some_iff.1 gx
    have hil : i < out.length := (List.getElem?_eq_some_iff.1 hi).1
    obtain ⟨_, hi'⟩ := List.getElem?_eq_some_iff.1 hi
    have ih := fun b => ih (pre ++ [x]) b (by simp [hp])
    simp [-List.any_eq_true] at ih
    have hw : IntKind.i64.wrap ((pre.length : Int) + 1) = (pre.length : Int) + 1 := wrap64 (by omega) (by omega)
    have hlt : (pre.length : Int) < l.length := by omega
    have hu : isW s x = decide (x.who = s) := rfl
    rw [r6_l0]
    cases b
    · by_cases h0 : x.who = s
      · simp [c6_l0b, hw, hlt, gx, gx', hpl, hi, hi', hil, Rs.enc, hu, h0, ih, -List.any_eq_true]
      · have hbq : (x.who == s) = false := beq_eq_false_iff_ne.2 h0
        simp [c6_l0b, hw, hlt, gx, gx', hpl, hi, hi', hil, Rs.enc, hu, h0, hbq, ih, -List.any_eq_true]
    · simp [c6_l0b, hw, hlt, ih, -List.any_eq_true]
theorem L6_1 (l : CV) (X : List Str) (x : Str) (hx : (X.length : Int) < 9223372036854775807) : ∀ (r pre rest : List Str) (b : CV), X = pre ++ r ++ x :: rest →
    execS P (limS P) c6_l1 ⟨[.c l, .c (.slice (X.map CV.str)), .c (ci (pre ++ r).length), .c (ci pre.length)], []⟩ = if r.any (Str.is x) then some (.ret, ⟨[.c (ci 9)], []⟩) else some (.exit 4, ⟨[.c l, .c (.slice (X.map CV.str)), .c (ci (pre ++ r).length)], []⟩) := by
  intro r
  induction r with
  | nil =>
    intro pre rest b hX
    rw [r6_l1]
    simp [c6_l1b]
  | cons y r ih =>
    intro pre rest b hX
    have ih := ih (pre ++ [y]) rest b (by simp [hX])
    subst hX
    simp [-List.any_eq_true] at ih hx
    have hw : IntKind.i64.wrap (↑pre.length + 1) = ↑pre.length + 1 := wrap64 (by omega) (by omega)
    have hlt : (pre.length : Int) < pre.length + (r.length + 1) := by omega
    have k1 : (pre.length : Int) < pre.length + (r.length + (rest.length + 1) + 1) := by omega
    have k2 : (pre.length : Int) + (r.length + 1) < pre.length + (r.length + (rest.length + 1) + 1) := by omega
    have t1 : ((pre.length : Int) + (r.length + 1)).toNat = pre.length + (r.length + 1) := by omega
    have j2 : 0 ≤ (pre.length : Int) + (r.length + 1) := by omega
    rw [r6_l1]
    by_cases h0 : y = x
    · subst h0
      have hu : Str.is y y = true := by simp [Str.is]
      simp [c6_l1b, hw, hlt, k1, k2, t1, j2, hu, -List.any_eq_true]
    · have hu : Str.is x y = false := by
        unfold Str.is
        first
          | (simp; exact h0)
          | (simp; exact fun q => h0 q.symm)
      simp [c6_l1b, hw, hlt, k1, k2, t1, j2, hu, h0, ih, -List.any_eq_true]
theorem L6_2 (l : List Rs) (hl : (l.length : Int) < 9223372036854775807) : ∀ (r pre : List Str), ((pre ++ r).length : Int) < 9223372036854775807 →
    execS P (limS P) c6_l2 ⟨[.c (.slice (l.map Rs.enc)), .c (.slice ((pre ++ r).map CV.str)), .c (ci pre.length)], []⟩ = if eachE (outE l) pre r = 0 then some (.exit 0, ⟨[], []⟩) else some (.ret, ⟨[.c (ci (eachE (outE l) pre r))], []⟩) := by
  intro r
  induction r with
  | nil =>
    intro pre h
    rw [r6_l2]
    simp [c6_l2b, eachE]
  | cons s r ih =>
    intro pre h
    have ih := ih (pre ++ [s]) (by simpa using h)
    have h0 := L6_0 (P := P) l hl (pre ++ s :: r) pre.length s (by simp) l [] false rfl
    have h1 := L6_1 (P := P) (.slice (l.map Rs.enc)) (pre ++ s :: r) s h pre [] r (.bool false) (by simp)
    simp [-List.any_eq_true] at ih h h0 h1
    have hw : IntKind.i64.wrap (↑pre.length + 1) = ↑pre.length + 1 := wrap64 (by omega) (by omega)
    have hlt : (pre.length : Int) < pre.length + (r.length + 1) := by omega
    have hE : eachE (outE l) pre (s :: r) = if outE l pre s ≠ 0 then outE l pre s else eachE (outE l) (pre ++ [s]) r := rfl
    have hS : outE l pre s = firstE [whenE (!l.any (isW s)) 10, whenE (pre.any (Str.is s)) 9] := rfl
    rw [hE, r6_l2]
    cases q1 : l.any (isW s)
    · rw [q1] at h0
      simp [c6_l2b, hw, hlt, h0, hS, q1, whenE, firstE]
    · rw [q1] at h0
      cases q2 : pre.any (Str.is s)
      · rw [q2] at h1
        simp at h1
        simp [c6_l2b, hw, hlt, h0, h1, hS, q1, q2, whenE, firstE, ih]
      · rw [q2] at h1
        simp at h1
        simp [c6_l2b, hw, hlt, h0, h1, hS, q1, q2, whenE, firstE]
def outsE (l : List Rs) (out : List Str) : Int := if (out.length : Int) > 160 then 5 else eachE (outE l) [] out
theorem S6 (l : List Rs) (out : List Str) (hl : (l.length : Int) < 9223372036854775807) (ho : (out.length : Int) < 9223372036854775807) : fn P 6 [.slice (l.map Rs.enc), .slice (out.map CV.str)] = some (ci (outsE l out)) := by
  have hL := L6_2 (P := P) l hl out [] (by simpa using ho)
  simp at hL
  rw [u6]
  unfold outsE
  by_cases hm : (out.length : Int) > 160
  · have hm' : (160 : Int) < (out.length : Int) := hm
    simp [c6, hm']
  · have hm' : ¬ (160 : Int) < (out.length : Int) := hm
    simp [c6, hm', hL]
    by_cases h0 : eachE (outE l) [] out = 0 <;> simp [h0]
end LM.GK
namespace LM.GK
open Go LM
variable {P : Nat → Option SFunc} [Has P] [HasP P]
theorem fwdL_len (l : List Rs) (q : Int) : (fwdL l q).length ≤ l.length := by
  rw [fwdL_cnt, List.length_map]
  refine Nat.le_trans (List.length_filter_le _ _) ?_
  rw [sortI_length]
  simpa using List.length_filter_le _ _
theorem restL_len (l : List Rs) (out : List Str) : (restL l out).length ≤ l.length := List.length_filter_le _ _
end LM.GK
namespace LM.GK
open Go LM
structure RG (l : List Rs) : Prop where
  one : ∀ x ∈ l, isName x.who = true ∧ stateOk x.state = true ∧ (!isS x && decide (0 < x.vals.length)) = false ∧ decide (8 < x.vals.length) = false ∧ x.vals.any farI = false
  uniq : l.Pairwise fun x y => x.who ≠ y.who
  like : Like l
theorem firstE_seven {a b c d e f g : Int} : firstE [a, b, c, d, e, f, g] = 0 ↔ a = 0 ∧ b = 0 ∧ c = 0 ∧ d = 0 ∧ e = 0 ∧ f = 0 ∧ g = 0 := by
  simp only [firstE_zC]
  simp [firstE]
theorem resE_zero {pre : List Rs} {x : Rs} : resE pre x = 0 ↔ (isName x.who = true ∧ stateOk x.state = true ∧ (!isS x && decide (0 < x.vals.length)) = false ∧ decide (8 < x.vals.length) = false ∧ x.vals.any farI = false) ∧ pre.any (isW x.who) = false ∧ shapeE pre x = false := by
  unfold resE
  rw [firstE_seven]
  rw [whenE_zC (by decide), whenE_zC (by decide), whenE_zC (by decide), whenE_zC (by decide), whenE_zC (by decide), whenE_zC (by decide), whenE_zC (by decide)]
  rw [Bool.not_eq_false', Bool.not_eq_false']
  constructor
  · rintro ⟨a, b, c, d, e, f, g⟩; exact ⟨⟨a, c, d, e, f⟩, b, g⟩
  · rintro ⟨⟨a, c, d, e, f⟩, b, g⟩; exact ⟨a, b, c, d, e, f, g⟩
theorem eachR_zero : ∀ (r pre : List Rs), eachE resE pre r = 0 ↔ ∀ a x b, r = a ++ x :: b → resE (pre ++ a) x = 0
  | [], pre => by simp [eachE]
  | y :: r, pre => by
    have ih := eachR_zero r (pre ++ [y])
    rw [eachE]
    constructor
    · intro h a x b hab
      split at h
      · rename_i q; exact absurd h q
      · rename_i q
        cases a with
        | nil => simp at hab; obtain ⟨rfl, rfl⟩ := hab; simpa using q
        | cons z a =>
          simp at hab
          obtain ⟨rfl, rfl⟩ := hab
          have := ih.1 h a x b rfl
          simpa using this
    · intro h
      have h0 := h [] y r rfl
      rw [if_neg (by simpa using h0)]
      refine ih.2 (fun a x b hab => ?_)
      have := h (y :: a) x b (by simp [hab])
      simpa using this
theorem results_rg {l : List Rs} (h : resultsE l = 0) : RG l := by
  have hk := results_like h
  unfold resultsE at h
  split at h
  · cases h
  · have h := (eachR_zero l []).1 h
    refine ⟨?_, ?_, hk⟩
    · intro x hx
      obtain ⟨a, b, hab⟩ := List.append_of_mem hx
      exact (resE_zero.1 (h a x b hab)).1
    · have key : ∀ (r pre : List Rs), l = pre ++ r → pre.Pairwise (fun x y => x.who ≠ y.who) → l.Pairwise fun x y => x.who ≠ y.who := by
        intro r
        induction r with
        | nil => intro pre hp hw; rw [hp]; simpa using hw
        | cons y r ih =>
          intro pre hp hw
          refine ih (pre ++ [y]) (by simp [hp]) ?_
          rw [List.pairwise_append]
          refine ⟨hw, by simp, ?_⟩
          intro a ha b hb
          simp at hb
          subst hb
          have := (resE_zero.1 (h pre b r hp)).2.1
          simp only [List.nil_append, List.any_eq_false] at this
          have := this a ha
          simpa [isW] using this
      exact key l [] rfl (by simp)
theorem RG.perm {l m : List Rs} (p : l.Perm m) (h : RG l) : RG m := by
  refine ⟨fun x hx => h.one x (p.mem_iff.2 hx), ?_, fun x hx y hy => h.like x (p.mem_iff.2 hx) y (p.mem_iff.2 hy)⟩
  exact (p.pairwise_iff (fun {a b} q => fun e => q e.symm)).1 h.uniq
theorem RG.filter {l : List Rs} (p : Rs → Bool) (h : RG l) : RG (l.filter p) :=
  ⟨fun x hx => h.one x (List.mem_filter.1 hx).1, h.uniq.sublist List.filter_sublist, fun x hx y hy => h.like x (List.mem_filter.1 hx).1 y (List.mem_filter.1 hy).1⟩
theorem pair_who : ∀ {l : List Rs}, l.Pairwise (fun x y => x.who ≠ y.who) → ∀ {x y : Rs}, x ∈ l → y ∈ l → x.who = y.who → x = y
  | [], _, x, y, hx, _, _ => by cases hx
  | a :: l, h, x, y, hx, hy, e => by
    obtain ⟨h1, h2⟩ := List.pairwise_cons.1 h
    rcases List.mem_cons.1 hx with rfl | kx
    · rcases List.mem_cons.1 hy with rfl | ky
      · rfl
      · exact absurd e (h1 y ky)
    · rcases List.mem_cons.1 hy with rfl | ky
      · exact absurd e.symm (h1 x kx)
      · exact pair_who h2 kx ky e
section
variable {α : Type} {lt : α → α → Bool}
theorem insS_filter (h : Swo lt) (p : α → Bool) (x : α) {S : List α} (hs : Srt lt S) : (insS lt x S).filter p = if p x then insS lt x (S.filter p) else S.filter p := by
  obtain ⟨A, B, rfl, e2, e3, e4⟩ := insS_split h x hs
  rw [e2]
  cases q : p x
  · simp [q]
  · rw [List.filter_append, List.filter_append, List.filter_cons, q]
    simp only [if_true]
    rw [insS_eq (fun y hy => e3 y (List.mem_filter.1 hy).1) (fun y hy => e4 y (List.mem_filter.1 hy).1)]
theorem sortI_filter (h : Swo lt) (p : α → Bool) : ∀ (S U : List α), Srt lt S → sortI lt (S.filter p) (U.filter p) = (sortI lt S U).filter p
  | S, [], _ => rfl
  | S, x :: U, hs => by
    have ih := sortI_filter h p (insS lt x S) U (insS_srt h x hs)
    have hi := insS_filter h p x hs
    rw [sortI, ← ih, hi]
    cases q : p x
    · simp [q]
    · simp [q, sortI]
theorem filter_len_mono {a b : α → Bool} : ∀ (l : List α), (∀ x ∈ l, a x = true → b x = true) → (l.filter a).length ≤ (l.filter b).length
  | [], _ => Nat.le_refl _
  | x :: l, h => by
    have ih := filter_len_mono l (fun y hy => h y (by simp [hy]))
    have hx := h x (by simp)
    rw [List.filter_cons, List.filter_cons]
    cases q1 : a x
    · cases b x <;> simp <;> omega
    · rw [hx q1]; simp; exact ih
end
def FW (l : List Rs) (q : Int) : List Rs := (sortI btr [] (l.filter isS)).filter (fun x => decide (cntB (sortI btr [] (l.filter isS)) x < q))
theorem fwdL_FW (l : List Rs) (q : Int) : fwdL l q = (FW l q).map (·.who) := fwdL_cnt l q
theorem cntB_perm {S T : List Rs} (h : S.Perm T) (x : Rs) : cntB S x = cntB T x := by
  unfold cntB
  rw [(h.filter _).length_eq]
theorem FW_mem {l : List Rs} {q : Int} {x : Rs} : x ∈ FW l q ↔ (x ∈ l ∧ isS x = true) ∧ cntB (sortI btr [] (l.filter isS)) x < q := by
  unfold FW
  rw [List.mem_filter, (sortI_perm (lt := btr) [] (l.filter isS)).mem_iff, List.nil_append, List.mem_filter, decide_eq_true_eq]
theorem sort_rest (l : List Rs) (p : Rs → Bool) : sortI btr [] ((l.filter p).filter isS) = (sortI btr [] (l.filter isS)).filter p := by
  have := sortI_filter swoR p [] (l.filter isS) (by simp [Srt])
  rw [← this]
  congr 1
  rw [List.filter_filter, List.filter_filter]
  congr 1
  funext x
  rw [Bool.and_comm]
theorem FW_same {l : List Rs} (hl : RG l) (q : Int) (p : Rs → Bool) (hp : ∀ x ∈ l, p x = false → x ∉ FW l q) (h1 : ∀ x ∈ l, ∀ y ∈ l, p x = false → p y = false → x = y) : FW (l.filter p) q = FW l q := by
  have hm := fun x => FW_mem (l := l) (q := q) (x := x)
  have hmem : ∀ x, x ∈ sortI btr [] (l.filter isS) → x ∈ l ∧ isS x = true := fun x hx => by
    have := (sortI_perm (lt := btr) [] (l.filter isS)).mem_iff.1 hx
    simpa using this
  unfold FW
  rw [sort_rest]
  generalize sortI btr [] (l.filter isS) = T at *
  rw [List.filter_filter]
  apply List.filter_congr
  intro z hz
  have hzl := hmem z hz
  cases hpz : p z
  · have := hp z hzl.1 hpz
    rw [hm] at this
    have h2 : ¬ cntB T z < q := fun c => this ⟨hzl, c⟩
    simp [h2]
  · simp only [Bool.and_true]
    apply decide_eq_decide.2
    have hle : cntB (T.filter p) z ≤ cntB T z := by
      unfold cntB
      rw [List.filter_filter]
      have := filter_len_mono (a := fun a => btr a z && p a) (b := fun y => btr y z) T (fun x _ h => by simp at h; exact h.1)
      omega
    constructor
    · intro hlt
      refine Int.not_le.1 (fun hge => ?_)
      suffices q ≤ cntB (T.filter p) z by omega
      by_cases hr : ∃ r ∈ T, p r = false ∧ btr r z = true
      · obtain ⟨r, hrT, hpr, hrz⟩ := hr
        have hrl := hmem r hrT
        have := hp r hrl.1 hpr
        rw [hm] at this
        have h2 : ¬ cntB T r < q := fun c => this ⟨hrl, c⟩
        have h3 : cntB T r ≤ cntB (T.filter p) z := by
          unfold cntB
          rw [List.filter_filter]
          have := filter_len_mono (a := fun y => btr y r) (b := fun a => btr a z && p a) T (fun y hy h => by
            have e1 : btr y z = true := swoR.lel (swoR.asym _ _ h) hrz
            cases hpy : p y
            · have := h1 y (hmem y hy).1 r hrl.1 hpy hpr
              subst this
              rw [swoR.irr] at h
              cases h
            · simp [e1])
          omega
        omega
      · have h3 : cntB T z ≤ cntB (T.filter p) z := by
          unfold cntB
          rw [List.filter_filter]
          have := filter_len_mono (a := fun y => btr y z) (b := fun a => btr a z && p a) T (fun y hy h => by
            cases hpy : p y
            · exact absurd ⟨y, hy, hpy, h⟩ hr
            · simp [h])
          omega
        omega
    · intro h; omega
theorem inW_one (s : Str) (x : Rs) : inW [s] x = decide (x.who = s) := by
  unfold inW
  simp only [List.any_cons, List.any_nil, Bool.or_false]
  exact Str.is_eq' _ _
theorem gone (l : List Rs) (q : Int) (s : Str) : (fwdL (restL l [s]) q).any (Str.is s) = false := by
  rw [List.any_eq_false, fwdL_FW]
  intro n hn
  obtain ⟨x, hx, rfl⟩ := List.mem_map.1 hn
  have := (FW_mem.1 hx).1.1
  have := (List.mem_filter.1 this).2
  rw [inW_one] at this
  rw [Str.is_eq]
  simpa using this
theorem same {l : List Rs} (hl : RG l) (q : Int) (s : Str) (h : (fwdL l q).any (Str.is s) = false) : fwdL (restL l [s]) q = fwdL l q := by
  rw [fwdL_FW, fwdL_FW]
  unfold restL
  rw [FW_same hl]
  · intro x hx hp hf
    rw [inW_one] at hp
    simp at hp
    rw [List.any_eq_false] at h
    have := h x.who (by rw [fwdL_FW]; exact List.mem_map.2 ⟨x, hf, rfl⟩)
    rw [Str.is_eq] at this
    simp [hp] at this
  · intro x hx y hy px py
    rw [inW_one] at px py
    simp at px py
    exact pair_who hl.uniq hx hy (by rw [px, py])
theorem repl_zero {l : List Rs} {q : Int} {out : List Str} (hr : resultsE l = 0) (hq : outside q 0 160 = false) (ho : out.length ≤ 160) (h : eachE (outE l) [] out = 0) : replE l q out = 0 := by
  have h0 : replE0 l q out = 0 := by
    unfold replE0
    rw [hr, hq, decide_eq_false (by omega)]
    rfl
  unfold replE
  rw [h0]
  simpa using h
end LM.GK
namespace LM.GK
open Go LM
def gradeR (x : Rs) : Int := idxF (Str.is x.state) 0 statesL
def cmpT (x y : Rs) : Int := if cmpJ (gradeR x) (gradeR y) ≠ 0 then cmpJ (gradeR x) (gradeR y) else cmpL y.vals x.vals
def btT (x y : Rs) : Bool := decide (cmpT x y < 0)
def cntT (l : List Rs) (x : Rs) : Int := ((l.filter (fun y => btT y x)).length : Nat)
def rankT (l : List Rs) (x : Rs) : Int := 1 + cntT l x
section
variable {α : Type} {lt lt' : α → α → Bool}
theorem insS_congr (x : α) (S : List α) (h : ∀ y ∈ S, lt' x y = lt x y) : insS lt' x S = insS lt x S := insL_congr x S.reverse [] (fun y hy => h y (by simpa using hy))
theorem sortI_congr : ∀ (U S : List α), (∀ x ∈ U, ∀ y ∈ S ++ U, lt' x y = lt x y) → sortI lt' S U = sortI lt S U
  | [], S, _ => rfl
  | x :: U, S, h => by
    rw [sortI, sortI, insS_congr x S (fun y hy => h x (by simp) y (by simp [hy]))]
    refine sortI_congr U _ (fun z hz y hy => h z (by simp [hz]) y ?_)
    rcases List.mem_append.1 hy with q | q
    · rcases List.mem_cons.1 ((insS_perm x S).mem_iff.1 q) with rfl | q
      · simp
      · simp [q]
    · simp [q]
theorem filter_len_lt {a b : α → Bool} : ∀ (l : List α), (∀ x ∈ l, a x = true → b x = true) → (∃ x ∈ l, b x = true ∧ a x = false) → (l.filter a).length < (l.filter b).length
  | [], _, h => by obtain ⟨x, hx, _⟩ := h; cases hx
  | x :: l, h, ⟨y, hy, h1, h2⟩ => by
    have hx := h x (by simp)
    rcases List.mem_cons.1 hy with rfl | hy
    · have := filter_len_mono l (fun z hz => h z (by simp [hz]))
      simp [h1, h2]
      omega
    · have ih := filter_len_lt l (fun z hz => h z (by simp [hz])) ⟨y, hy, h1, h2⟩
      rw [List.filter_cons, List.filter_cons]
      cases q1 : a x
      · cases b x <;> simp <;> omega
      · rw [hx q1]; simp; exact ih
theorem cnt_lt (h : Swo lt) {F : List α} {x y : α} (hx : x ∈ F) : ((F.filter (fun z => lt z x)).length < (F.filter (fun z => lt z y)).length) ↔ lt x y = true := by
  constructor
  · intro hl
    cases q : lt x y
    · have := filter_len_mono (a := fun z => lt z y) (b := fun z => lt z x) F (fun z _ hz => by
        rcases h.split z x y hz with p | p
        · exact p
        · rw [q] at p; cases p)
      omega
    · rfl
  · intro hl
    refine filter_len_lt F (fun z _ hz => ?_) ⟨x, hx, hl, h.irr x⟩
    rcases h.split z y x hz with p | p
    · exact p
    · rw [h.asym _ _ hl] at p; cases p
end
theorem grade_isS {x : Rs} (h : isS x = true) : gradeR x = 0 := by
  have : x.state = [] := by simpa [isS] using h
  unfold gradeR
  rw [this]
  rfl
theorem idxF_ge {α : Type} (p : α → Bool) : ∀ (l : List α) (n : Nat), l.any p = true → (n : Int) ≤ idxF p n l
  | [], n, h => by simp at h
  | x :: r, n, h => by
    unfold idxF
    cases q : p x
    · have := idxF_ge p r (n + 1) (by simpa [q] using h)
      simp
      omega
    · simp
theorem grade_notS {x : Rs} (h : isS x = false) (ho : stateOk x.state = true) : 0 < gradeR x := by
  have h0 : x.state ≠ [] := by simpa [isS] using h
  unfold gradeR stateOk statesL at *
  have e : Str.is x.state [] = false := by rw [Str.is_eq]; simpa using h0
  rw [List.any_cons, e, Bool.false_or] at ho
  rw [idxF, e]
  have := idxF_ge _ _ 1 ho
  simp
  omega
theorem btT_isS {x y : Rs} (hx : isS x = true) (hy : stateOk y.state = true) : btT y x = (isS y && btr y x) := by
  unfold btT btr cmpT
  rw [grade_isS hx]
  cases q : isS y
  · have := grade_notS q hy
    have e : cmpJ (gradeR y) 0 = 1 := by unfold cmpJ; rw [if_neg (by omega), if_pos (by omega)]
    rw [e]
    rfl
  · rw [grade_isS q]
    rfl
theorem cntT_isS {l : List Rs} (hl : ∀ y ∈ l, stateOk y.state = true) {x : Rs} (hx : isS x = true) : cntT l x = cntB (l.filter isS) x := by
  unfold cntT cntB
  rw [List.filter_filter]
  congr 2
  apply List.filter_congr
  intro y hy
  rw [btT_isS hx (hl y hy), Bool.and_comm]
def throughL (l : List Rs) (q : Int) : List Str := ((sortI (fun x y => decide (rankT l x < rankT l y)) [] l).filter (fun x => isS x && decide (rankT l x ≤ q))).map (·.who)
theorem through_fwd {l : List Rs} (hl : ∀ y ∈ l, stateOk y.state = true) (q : Int) : throughL l q = fwdL l q := by
  rw [fwdL_FW]
  unfold throughL FW
  congr 1
  have hs : Swo (fun x y : Rs => decide (rankT l x < rankT l y)) := swo_key (rankT l)
  have e1 := sortI_filter hs isS [] l (by simp [Srt])
  simp only [List.filter_nil] at e1
  have e2 : sortI (fun x y => decide (rankT l x < rankT l y)) [] (l.filter isS) = sortI btr [] (l.filter isS) := by
    apply sortI_congr
    intro x hx y hy
    simp only [List.nil_append] at hy
    have sx := (List.mem_filter.1 hx).2
    have sy := (List.mem_filter.1 hy).2
    unfold rankT
    rw [cntT_isS hl sx, cntT_isS hl sy]
    have := cnt_lt swoR hx (y := y)
    unfold cntB
    cases q : btr x y
    · rw [q] at this
      simp only [Bool.false_eq_true, iff_false] at this
      exact decide_eq_false (by omega)
    · rw [q] at this
      simp only [iff_true] at this
      exact decide_eq_true (by omega)
  have e3 : (sortI (fun x y => decide (rankT l x < rankT l y)) [] l).filter (fun x => isS x && decide (rankT l x ≤ q)) = ((sortI (fun x y => decide (rankT l x < rankT l y)) [] l).filter isS).filter (fun x => decide (rankT l x ≤ q)) := by
    rw [List.filter_filter]
    congr 1
    funext x
    rw [Bool.and_comm]
  rw [e3, ← e1, e2]
  apply List.filter_congr
  intro x hx
  have hx' := (sortI_perm (lt := btr) [] (l.filter isS)).mem_iff.1 hx
  simp only [List.nil_append] at hx'
  have sx := (List.mem_filter.1 hx').2
  apply decide_eq_decide.2
  unfold rankT
  rw [cntT_isS hl sx, cntB_perm (sortI_perm (lt := btr) [] (l.filter isS)) x, List.nil_append]
  omega
end LM.GK
namespace LM.GK
open Go LM
def takeP (out : List Str) : Nat → List Str → List Str
  | 0, _ => []
  | _ + 1, [] => []
  | n + 1, x :: r => if out.any (Str.is x) then takeP out (n + 1) r else x :: takeP out n r
theorem takeP_eq (out : List Str) : ∀ (l : List Str) (n : Nat), takeP out n l = (l.filter (fun x => !out.any (Str.is x))).take n
  | l, 0 => by cases l <;> simp [takeP]
  | [], n + 1 => by simp [takeP]
  | x :: r, n + 1 => by
    rw [takeP]
    cases h : out.any (Str.is x)
    · rw [takeP_eq out r n]; simp [h, -List.any_eq_true, -List.any_eq_false]
    · rw [takeP_eq out r (n + 1)]; simp [h, -List.any_eq_true, -List.any_eq_false]
def NoTie (l : List Rs) : Prop := ∀ x ∈ l, ∀ y ∈ l, isS x = true → isS y = true → rankT l x = rankT l y → x = y
theorem count_take (S : List Rs) (hS : Srt btr S) (hn : ∀ a x b, S = a ++ x :: b → ∀ z ∈ a, btr z x = true) (q : Nat) : S.filter (fun x => decide (cntB S x < q)) = S.take q := by
  have key : ∀ (r pre : List Rs), S = pre ++ r → r.filter (fun x => decide (cntB S x < q)) = r.take (q - pre.length) := by
    intro r
    induction r with
    | nil => intro pre _; simp
    | cons x r ih =>
      intro pre hp
      have ih := ih (pre ++ [x]) (by simp [hp])
      have hc : cntB S x = pre.length := by
        unfold cntB
        have hs := hS
        unfold Srt at hs
        rw [hp] at hs
        obtain ⟨_, p2, _⟩ := List.pairwise_append.1 hs
        obtain ⟨p4, _⟩ := List.pairwise_cons.1 p2
        have e1 : pre.filter (fun y => btr y x) = pre := List.filter_eq_self.2 (hn pre x r hp)
        have e2 : (x :: r).filter (fun y => btr y x) = [] := by
          rw [List.filter_eq_nil_iff]
          intro y hy
          rcases List.mem_cons.1 hy with rfl | hy
          · simp [swoR.irr y]
          · simp [p4 y hy]
        rw [hp, List.filter_append, e1, e2]
        simp
      rw [List.filter_cons, hc, ih]
      by_cases h : pre.length < q
      · have e : q - pre.length = (q - (pre.length + 1)) + 1 := by omega
        simp only [List.length_append, List.length_singleton]
        rw [if_pos (by simpa using h), e, List.take_succ_cons]
      · have e : q - pre.length = 0 := by omega
        have e' : q - (pre.length + 1) = 0 := by omega
        simp only [List.length_append, List.length_singleton]
        rw [if_neg (by simpa using h), e, e']
        simp
  simpa using key S [] rfl
theorem btr_all {l : List Rs} (hl : RG l) (ht : NoTie l) {x y : Rs} (hx : x ∈ l) (hy : y ∈ l) (sx : isS x = true) (sy : isS y = true) (hne : x ≠ y) (h : btr y x = false) : btr x y = true := by
  have ho : ∀ y ∈ l, stateOk y.state = true := fun y hy => (hl.one y hy).2.1
  cases q : btr x y
  · exfalso
    apply hne
    apply ht x hx y hy sx sy
    unfold rankT
    rw [cntT_isS ho sx, cntT_isS ho sy]
    unfold cntB
    have mx : x ∈ l.filter isS := List.mem_filter.2 ⟨hx, sx⟩
    have my : y ∈ l.filter isS := List.mem_filter.2 ⟨hy, sy⟩
    have a := cnt_lt swoR mx (y := y)
    have b := cnt_lt swoR my (y := x)
    rw [q] at a
    rw [h] at b
    simp only [Bool.false_eq_true, iff_false] at a b
    omega
  · rfl
theorem FW_take {l : List Rs} (hl : RG l) (ht : NoTie l) (p : Rs → Bool) (q : Nat) : FW (l.filter p) q = ((sortI btr [] (l.filter isS)).filter p).take q := by
  unfold FW
  rw [sort_rest]
  have hsrt := sortI_srt swoR [] (l.filter isS) (by simp [Srt])
  have hperm := sortI_perm (lt := btr) [] (l.filter isS)
  have hmem : ∀ x ∈ sortI btr [] (l.filter isS), x ∈ l ∧ isS x = true := fun x hx => by
    have := hperm.mem_iff.1 hx
    simpa using this
  have hnd : (sortI btr [] (l.filter isS)).Pairwise (fun x y => x ≠ y) := by
    have h1 : (l.filter isS).Pairwise (fun x y : Rs => x ≠ y) := (hl.uniq.imp (fun {a b} h e => h (by rw [e]))).sublist List.filter_sublist
    have h2 := (hperm.pairwise_iff (R := fun x y : Rs => x ≠ y) (fun {a b} q => fun e => q e.symm)).2 (by simpa using h1)
    exact h2
  generalize sortI btr [] (l.filter isS) = S at *
  have hsf : Srt btr (S.filter p) := hsrt.sublist List.filter_sublist
  apply count_take _ hsf
  intro a x b hab z hz
  have hnf : (S.filter p).Pairwise (fun x y => x ≠ y) := hnd.sublist List.filter_sublist
  unfold Srt at hsf
  rw [hab] at hsf hnf
  have h1 := (List.pairwise_append.1 hsf).2.2 z hz x (by simp)
  have h2 := (List.pairwise_append.1 hnf).2.2 z hz x (by simp)
  have mz : z ∈ S := (List.mem_filter.1 (by rw [hab]; simp [hz] : z ∈ S.filter p)).1
  have mx : x ∈ S := (List.mem_filter.1 (by rw [hab]; simp : x ∈ S.filter p)).1
  exact btr_all hl ht (hmem z mz).1 (hmem x mx).1 (hmem z mz).2 (hmem x mx).2 h2 h1
theorem cntB_lt {S : List Rs} {x : Rs} (hx : x ∈ S) : cntB S x < S.length := by
  unfold cntB
  have := filter_len_lt (a := fun y => btr y x) (b := fun _ => true) S (fun _ _ _ => rfl) ⟨x, hx, rfl, swoR.irr x⟩
  have e : (S.filter fun _ => true).length = S.length := by simp
  omega
theorem FW_all (l : List Rs) : FW l l.length = sortI btr [] (l.filter isS) := by
  unfold FW
  rw [List.filter_eq_self]
  intro x hx
  have h1 := cntB_lt hx
  have h2 := sortI_length (lt := btr) [] (l.filter isS)
  have h3 := List.length_filter_le isS l
  simp at h2 ⊢
  omega
theorem quota_take {l : List Rs} (hl : RG l) (ht : NoTie l) (out : List Str) (q : Nat) : takeP out q (throughL l l.length) = fwdL (restL l out) q := by
  rw [through_fwd (fun y hy => (hl.one y hy).2.1), fwdL_FW, FW_all, takeP_eq, fwdL_FW]
  unfold restL
  rw [FW_take hl ht, List.map_take, List.filter_map]
  congr 2
end LM.GK
namespace LM.GK
open Go LM
variable {P : Nat → Option SFunc} [Has P]
@[simp] theorem S51 (b : Bool) (e : Int) : fn P 51 [.bool b, ci e] = some (ci (whenE b e)) := by
  rw [u51]; cases b <;> simp [c51, whenE]
theorem L24 : ∀ (l pre : List Int), (l.length : Int) + pre.length < 9223372036854775807 → execS P (limS P) c24_l0 ⟨[.c (.slice ((pre ++ l).map ci)), .c (ci (pre ++ l).length), .c (ci pre.length)], []⟩ = if firstE l = 0 then some (.exit 0, ⟨[], []⟩) else some (.ret, ⟨[.c (ci (firstE l))], []⟩) := by
  intro l
  induction l with
  | nil =>
    intro pre h
    rw [r24_l0]
    simp [c24_l0b, firstE]
  | cons c r ih =>
    intro pre h
    have ih := ih (pre ++ [c]) (by simp at h ⊢; omega)
    simp at ih h
    have hw : IntKind.i64.wrap (↑pre.length + 1) = ↑pre.length + 1 := wrap64 (by omega) (by omega)
    have hlt : (pre.length : Int) < pre.length + (r.length + 1) := by omega
    rw [r24_l0]
    by_cases hc : c = 0
    · subst hc
      simp [c24_l0b, firstE, hw, hlt, ih]
    · simp [c24_l0b, firstE, hw, hlt, hc]
@[simp] theorem S24 (l : List Int) (h : l.length < 9223372036854775807) : fn P 24 [.slice (l.map ci)] = some (ci (firstE l)) := by
  have := L24 (P := P) l [] (by simp; omega)
  rw [u24]
  simp at this
  simp [c24, this]
  by_cases hc : firstE l = 0 <;> simp [hc]
@[simp] theorem S24_1 (a : Int) : fn P 24 [.slice [ci a]] = some (ci (firstE [a])) := S24 [a] (by simp)
@[simp] theorem S24_2 (a b : Int) : fn P 24 [.slice [ci a, ci b]] = some (ci (firstE [a, b])) := S24 [a, b] (by simp)
@[simp] theorem S24_3 (a b c : Int) : fn P 24 [.slice [ci a, ci b, ci c]] = some (ci (firstE [a, b, c])) := S24 [a, b, c] (by simp)
@[simp] theorem S24_4 (a b c d : Int) : fn P 24 [.slice [ci a, ci b, ci c, ci d]] = some (ci (firstE [a, b, c, d])) := S24 [a, b, c, d] (by simp)
@[simp] theorem S24_5 (a b c d e : Int) : fn P 24 [.slice [ci a, ci b, ci c, ci d, ci e]] = some (ci (firstE [a, b, c, d, e])) := S24 [a, b, c, d, e] (by simp)
@[simp] theorem S24_6 (a b c d e f : Int) : fn P 24 [.slice [ci a, ci b, ci c, ci d, ci e, ci f]] = some (ci (firstE [a, b, c, d, e, f])) := S24 [a, b, c, d, e, f] (by simp)
@[simp] theorem S60 (b : Bool) (e : Int) : fn P 60 [.bool b, ci e] = some (ci (whenE b e)) := by
  rw [u60]; cases b <;> simp [c60, whenE]
theorem L58 : ∀ (l pre : List Int), (l.length : Int) + pre.length < 9223372036854775807 → execS P (limS P) c58_l0 ⟨[.c (.slice ((pre ++ l).map ci)), .c (ci (pre ++ l).length), .c (ci pre.length)], []⟩ = if firstE l = 0 then some (.exit 0, ⟨[], []⟩) else some (.ret, ⟨[.c (ci (firstE l))], []⟩) := by
  intro l
  induction l with
  | nil =>
    intro pre h
    rw [r58_l0]
    simp [c58_l0b, firstE]
  | cons c r ih =>
    intro pre h
    have ih := ih (pre ++ [c]) (by simp at h ⊢; omega)
    simp at ih h
    have hw : IntKind.i64.wrap (↑pre.length + 1) = ↑pre.length + 1 := wrap64 (by omega) (by omega)
    have hlt : (pre.length : Int) < pre.length + (r.length + 1) := by omega
    rw [r58_l0]
    by_cases hc : c = 0
    · subst hc
      simp [c58_l0b, firstE, hw, hlt, ih]
    · simp [c58_l0b, firstE, hw, hlt, hc]
@[simp] theorem S58 (l : List Int) (h : l.length < 9223372036854775807) : fn P 58 [.slice (l.map ci)] = some (ci (firstE l)) := by
  have := L58 (P := P) l [] (by simp; omega)
  rw [u58]
  simp at this
  simp [c58, this]
  by_cases hc : firstE l = 0 <;> simp [hc]
@[simp] theorem S58_1 (a : Int) : fn P 58 [.slice [ci a]] = some (ci (firstE [a])) := S58 [a] (by simp)
@[simp] theorem S58_2 (a b : Int) : fn P 58 [.slice [ci a, ci b]] = some (ci (firstE [a, b])) := S58 [a, b] (by simp)
@[simp] theorem S58_3 (a b c : Int) : fn P 58 [.slice [ci a, ci b, ci c]] = some (ci (firstE [a, b, c])) := S58 [a, b, c] (by simp)
@[simp] theorem S58_4 (a b c d : Int) : fn P 58 [.slice [ci a, ci b, ci c, ci d]] = some (ci (firstE [a, b, c, d])) := S58 [a, b, c, d] (by simp)
@[simp] theorem S58_5 (a b c d e : Int) : fn P 58 [.slice [ci a, ci b, ci c, ci d, ci e]] = some (ci (firstE [a, b, c, d, e])) := S58 [a, b, c, d, e] (by simp)
@[simp] theorem S58_6 (a b c d e f : Int) : fn P 58 [.slice [ci a, ci b, ci c, ci d, ci e, ci f]] = some (ci (firstE [a, b, c, d, e, f])) := S58 [a, b, c, d, e, f] (by simp)
@[simp] theorem S26 (n a b : Int) : fn P 26 [ci n, ci a, ci b] = some (ci (whenE (outside n a b) 3)) := by
  rw [u26]
  unfold outside
  by_cases h1 : n < a <;> by_cases h2 : b < n <;> simp [c26, h1, h2]
@[simp] theorem S74 (n a b : Int) : fn P 74 [ci n, ci a, ci b] = some (ci (whenE (outside n a b) 3)) := by
  rw [u74]
  unfold outside
  by_cases h1 : n < a <;> by_cases h2 : b < n <;> simp [c74, h1, h2]
theorem S71 (n : Int) : fn P 71 [ci n] = some (.bool (farI n)) := by
  rw [u71]
  unfold farI
  by_cases h1 : n < -999999999 <;> by_cases h2 : n > 999999999 <;> simp [c71, h1, h2]
theorem L77b : ∀ (l pre : List Int), ((pre ++ l).length : Int) < 9223372036854775807 →
    ∃ k : Nat, execS P (limS P) c77_l0 ⟨[.c (.slice ((pre ++ l).map ci)), .c (.func 71 [] []), .c (ci (pre ++ l).length), .c (ci pre.length)], []⟩ = if l.any farI then some (.ret, ⟨[.c (ci k)], []⟩) else some (.exit 0, ⟨[], []⟩) := by
  intro l
  induction l with
  | nil =>
    intro pre h
    refine ⟨0, ?_⟩
    rw [r77_l0]
    simp [c77_l0b]
  | cons x r ih =>
    intro pre h
    obtain ⟨k, ih⟩ := ih (pre ++ [x]) (by simpa using h)
    have es := S71 (P := P) x
    simp [-List.any_eq_true] at ih h
    have hw : IntKind.i64.wrap (↑pre.length + 1) = ↑pre.length + 1 := wrap64 (by omega) (by omega)
    have hlt : (pre.length : Int) < pre.length + (r.length + 1) := by omega
    cases h0 : farI x
    · refine ⟨k, ?_⟩
      rw [h0] at es
      rw [r77_l0]
      simp [c77_l0b, hw, hlt, es, h0, ih, -List.any_eq_true]
    · refine ⟨pre.length, ?_⟩
      rw [h0] at es
      rw [r77_l0]
      simp [c77_l0b, hw, hlt, es, h0, -List.any_eq_true]
theorem S66b (l : List Int) (h : (l.length : Int) < 9223372036854775807) : fn P 66 [.slice (l.map ci), .func 71 [] []] = some (.bool (l.any farI)) := by
  obtain ⟨k, hl⟩ := L77b (P := P) l [] (by simpa using h)
  simp [-List.any_eq_true] at hl
  have e170 : fn P 77 [.slice (l.map ci), .func 71 [] []] = some (ci (if l.any farI then (k : Int) else -1)) := by
    rw [u77]
    cases h0 : l.any farI <;> rw [h0] at hl <;> simp [c77, hl]
  rw [u66]
  cases h0 : l.any farI <;> rw [h0] at e170 <;> simp [c66, e170]
def aloneE (x : Rs) : Int := firstE [whenE (!isName x.who) 8, whenE (!stateOk x.state) 13, whenE (!isS x && decide (0 < x.vals.length)) 1, whenE (decide (8 < x.vals.length)) 5, whenE (x.vals.any farI) 3]
theorem S54 : fn P 54 [] = some (.slice (statesL.map CV.str)) := by
  have hr := resV_own1 (b := 1) (g := 1) (fz := 0) (e := none) (ys := statesL.map CV.str) (h := [.cells 1 [] 0, .cells 1 (cellsOf (statesL.map CV.str)) 0]) (len := 4) rfl (strElems _) rfl (some 4)
  simp [statesL, cellsOf] at hr
  rw [u54]
  simp [c54, statesL, hr]
theorem S50 (x : Rs) (hx : x.ok) : fn P 50 [x.enc] = some (ci (aloneE x)) := by
  obtain ⟨h1, h2, h3⟩ := hx
  have e66 := S66b (P := P) x.vals h3
  have e54 := S54 (P := P)
  have e33 := S33 (P := P) x.state statesL (by decide)
  have e69 := S69 (P := P) x.who h1
  have e24 := S24_5 (P := P)
  have hst : statesL.any (Str.is x.state) = stateOk x.state := rfl
  rw [hst] at e33
  have hS : isS x = decide (x.state = []) := rfl
  have d8 : decide ((8 : Int) < (x.vals.length : Int)) = decide (8 < x.vals.length) := decide_eq_decide.2 (by omega)
  rw [u50]
  unfold aloneE
  by_cases hs : x.state = []
  · rw [hs] at e33
    simp [c50, Rs.enc, e66, e54, e33, e69, e24, hs, hS, d8, -List.any_eq_true]
  · simp [c50, Rs.enc, e66, e54, e33, e69, e24, hs, hS, d8, -List.any_eq_true]
end LM.GK
namespace LM.GK
open Go LM
variable {P : Nat → Option SFunc} [Has P]
theorem RG.alone {l : List Rs} (h : RG l) {x : Rs} (hx : x ∈ l) : aloneE x = 0 := by
  obtain ⟨a, b, c, d, e⟩ := h.one x hx
  unfold aloneE
  rw [a, b, c, d, e]
  rfl
theorem RG.fresh {l : List Rs} (h : RG l) {pre r : List Rs} {x : Rs} (hp : l = pre ++ x :: r) : x.who ∉ pre.map (·.who) := by
  intro hm
  obtain ⟨y, hy, e⟩ := List.mem_map.1 hm
  have := h.uniq
  rw [hp] at this
  exact (List.pairwise_append.1 this).2.2 y hy x (by simp) e
theorem RG.count {l : List Rs} (h : RG l) {pre r : List Rs} {x : Rs} (hp : l = pre ++ x :: r) (hs : isS x = true) : (x.vals.length : Int) = cntR (pre ++ [x]) := by
  rw [cntR_snoc]
  by_cases q : cntR pre < 0
  · rw [if_pos ⟨q, hs⟩]
  · rw [if_neg (fun z => q z.1)]
    unfold cntR at q ⊢
    cases hf : pre.find? isS with
    | none => rw [hf] at q; simp at q
    | some y =>
      have h1 := List.find?_some hf
      have h2 := List.mem_of_find?_eq_some hf
      have := h.like x (by rw [hp]; simp) y (by rw [hp]; simp [h2]) hs h1
      simp [this]
def seenB (pre : List Rs) : LB := .map ((pre.map (·.who)).map CV.str) (setV (pre.map (·.who))) false
theorem L25_0 (l : List Rs) (hg : RG l) (hk : ∀ x ∈ l, x.ok) (hl : l.length < 1000) : ∀ (r pre : List Rs), l = pre ++ r →
    execS P (limS P) c25_l0 ⟨[.map 0, .c (ci (cntR pre)), .c (.slice (l.map Rs.enc)), .c (ci l.length), .c (ci pre.length)], [seenB pre]⟩ = some (.exit 0, ⟨[], [seenB l]⟩) := by
  intro r
  induction r with
  | nil =>
    intro pre hp
    have hp' : l = pre := by simpa using hp
    subst hp'
    rw [r25_l0]
    simp [c25_l0b]
  | cons x r ih =>
    intro pre hp
    have ih := ih (pre ++ [x]) (by simp [hp])
    have hx : x ∈ l := by rw [hp]; simp
    have gx : l[pre.length]? = some x := by rw [hp]; simp
    have hpl : pre.length < l.length := (List.getElem?_eq_some_iff.1 gx).1
    obtain ⟨_, gx'⟩ := List.getElem?_eq_some_iff.1 gx
    have e50 := S50 (P := P) x (hk x hx)
    rw [hg.alone hx] at e50
    have hw : IntKind.i64.wrap ((pre.length : Int) + 1) = (pre.length : Int) + 1 := wrap64 (by omega) (by omega)
    have hlt : (pre.length : Int) < l.length := by omega
    have hno := findK_no x.who (hg.fresh hp)
    have hkk := keyOk_str x.who
    have hsv := setV_snoc (pre.map (·.who)) x.who
    have hu := fun n => setV_under n (pre.map (·.who))
    have hu2 := fun n => setV_under n ((pre ++ [x]).map (·.who))
    have hsn := cntR_snoc pre x
    have hcount := fun hs => hg.count hp hs
    have hS : isS x = decide (x.state = []) := rfl
    simp only [seenB, List.map_append, List.map_cons, List.map_nil] at ih hu2 ⊢
    simp only [Rs.enc] at e50
    generalize hN : pre.map (·.who) = N at *
    generalize cntR (pre ++ [x]) = cn at *
    rw [r25_l0]
    by_cases hs : x.state = []
    · rw [hs] at e50
      have hcn := hcount (by simp [isS, hs])
      by_cases q : cntR pre < 0
      · rw [if_pos ⟨q, by simp [isS, hs]⟩] at hsn
        subst hsn
        try simp at ih
        simp [c25_l0b, hlt, hpl, gx, gx', Rs.enc, e50, whenE, firstE, hno, hkk, hsv, hu, hu2, hs, q, hw, ih]
      · rw [if_neg (fun z => q z.1)] at hsn
        subst hsn
        try simp at ih
        simp [c25_l0b, hlt, hpl, gx, gx', Rs.enc, e50, whenE, firstE, hno, hkk, hsv, hu, hu2, hs, q, hcn, hw, ih]
    · rw [if_neg (fun z => hs (by simpa [isS] using z.2))] at hsn
      subst hsn
      try simp at ih
      simp [c25_l0b, hlt, hpl, gx, gx', Rs.enc, e50, whenE, firstE, hno, hkk, hsv, hu, hu2, hs, hw, ih]
theorem S25 (l : List Rs) (hg : RG l) (hk : ∀ x ∈ l, x.ok) (hl : l.length ≤ 160) : fn P 25 [.slice (l.map Rs.enc)] = some (ci 0) := by
  have hL := L25_0 (P := P) l hg hk (by omega) l [] rfl
  have e0 : cntR [] = -1 := rfl
  have e1 : seenB [] = .map [] [] false := rfl
  have hm : ¬ (160 : Int) < (l.length : Int) := by omega
  rw [u25]
  simp [e0, e1] at hL
  simp [c25, hm, hL]
theorem S64 (x : Rs) (h : stateOk x.state = true) : ∃ n : Int, 0 ≤ n ∧ fn P 64 [.str x.state] = some (ci n) := by
  unfold stateOk statesL at h
  simp only [List.any_cons, List.any_nil, Bool.or_false] at h
  rw [u64]
  by_cases h1 : x.state = []
  · exact ⟨0, by decide, by simp [c64, h1]⟩
  by_cases h2 : x.state = [100, 110, 115]
  · exact ⟨1, by decide, by simp [c64, h2]⟩
  by_cases h3 : x.state = [100, 110, 102]
  · exact ⟨2, by decide, by simp [c64, h3]⟩
  by_cases h4 : x.state = [100, 115, 113]
  · exact ⟨3, by decide, by simp [c64, h4]⟩
  rw [Str.is_eq', Str.is_eq', Str.is_eq', Str.is_eq'] at h
  simp [h1, h2, h3, h4] at h
theorem L41_0 (x : Rs) (hf : x.vals.any farI = false) (hl : (x.vals.length : Int) < 9223372036854775807) : ∀ (r pre : List Int), x.vals = pre ++ r →
    execS P (limS P) c41_l0 ⟨[.ptr 0 0 0, .c (ci pre.length)], [RB3 x 0]⟩ = some (.exit 0, ⟨[], [RB3 x 0]⟩) := by
  intro r
  induction r with
  | nil =>
    intro pre hv
    rw [r41_l0]
    simp [c41_l0b, RB3, hv]
  | cons n r ih =>
    intro pre hv
    have ih := ih (pre ++ [n]) (by simp [hv])
    have hn : farI n = false := by
      rw [List.any_eq_false] at hf
      have := hf n (by rw [hv]; simp)
      simpa using this
    unfold farI at hn
    simp at hn
    obtain ⟨n1, n2⟩ := hn
    have n1' : ¬ n < -999999999 := by omega
    have n2' : ¬ (999999999 : Int) < n := by omega
    simp [RB3, hv] at ih hl
    have hw : IntKind.i64.wrap (↑pre.length + 1) = ↑pre.length + 1 := wrap64 (by omega) (by omega)
    have hlt : (pre.length : Int) < pre.length + (r.length + 1) := by omega
    rw [r41_l0]
    simp [c41_l0b, RB3, hv, hw, hlt, n1', n2', ih]
theorem S41 (x : Rs) (hx : x.ok) (ha : isName x.who = true ∧ stateOk x.state = true ∧ (!isS x && decide (0 < x.vals.length)) = false ∧ decide (8 < x.vals.length) = false ∧ x.vals.any farI = false) : fn P 41 [x.enc] = some (ci 0) := by
  obtain ⟨a1, a2, a3, a4, a5⟩ := ha
  have hL := L41_0 (P := P) x a5 hx.2.2 x.vals [] rfl
  obtain ⟨n, hn, e64⟩ := S64 (P := P) x a2
  have hn' : ¬ n < 0 := by omega
  have h8 : ¬ (8 : Int) < (x.vals.length : Int) := by simp at a4; omega
  simp [RB3] at hL
  rw [u41]
  by_cases hs : x.state = []
  · simp [hs] at e64 hL
    simp [c41, Rs.enc, a1, e64, hn', h8, hs, hL]
  · have h0 : ¬ (0 : Int) < (x.vals.length : Int) := by
      simp [isS, hs] at a3
      simp [a3]
    simp [c41, Rs.enc, a1, e64, hn', h8, hs, h0, hL]
    simpa [isS, hs] using a3
theorem L42_0 (s : Str) (l : List Rs) (hl : (l.length : Int) < 9223372036854775807) : ∀ (r pre : List Rs), l = pre ++ r → (∀ x ∈ r, x.who ≠ s) →
    execS P (limS P) c42_l0 ⟨[.c (.slice (l.map Rs.enc)), .c (.str s), .c (ci pre.length)], []⟩ = some (.exit 0, ⟨[], []⟩) := by
  intro r
  induction r with
  | nil =>
    intro pre hp _
    rw [r42_l0]
    simp [c42_l0b, hp]
  | cons x r ih =>
    intro pre hp hn
    have ih := ih (pre ++ [x]) (by simp [hp]) (fun y hy => hn y (by simp [hy]))
    subst hp
    have h0 := hn x (by simp)
    simp [Rs.enc] at ih hl
    have hw : IntKind.i64.wrap (↑pre.length + 1) = ↑pre.length + 1 := wrap64 (by omega) (by omega)
    have hlt : (pre.length : Int) < pre.length + (r.length + 1) := by omega
    rw [r42_l0]
    simp [c42_l0b, hw, hlt, Rs.enc, h0, ih]
theorem S42n (s : Str) (l : List Rs) (hl : (l.length : Int) < 9223372036854775807) (h : ∀ x ∈ l, x.who ≠ s) : fn P 42 [.slice (l.map Rs.enc), .str s] = some (ci (-1)) := by
  have hL := L42_0 (P := P) s l hl l [] rfl h
  simp at hL
  rw [u42]
  simp [c42, hL]
theorem L17_0 (l : List Rs) (hg : RG l) (hk : ∀ x ∈ l, x.ok) (hl : l.length < 1000) : ∀ (r pre : List Rs), l = pre ++ r →
    execS P (limS P) c17_l0 ⟨[.c (.slice (l.map Rs.enc)), .c (ci (cntR pre)), .c (ci pre.length)], []⟩ = some (.exit 0, ⟨[], []⟩) := by
  intro r
  induction r with
  | nil =>
    intro pre hp
    rw [r17_l0]
    simp [c17_l0b, hp]
  | cons x r ih =>
    intro pre hp
    have ih := ih (pre ++ [x]) (by simp [hp])
    have hx : x ∈ l := by rw [hp]; simp
    have gx : l[pre.length]? = some x := by rw [hp]; simp
    have hpl : pre.length < l.length := (List.getElem?_eq_some_iff.1 gx).1
    obtain ⟨_, gx'⟩ := List.getElem?_eq_some_iff.1 gx
    have e41 := S41 (P := P) x (hk x hx) (hg.one x hx)
    have hfr := hg.fresh hp
    have e42 := S42n (P := P) x.who pre (by omega) (fun y hy e => hfr (List.mem_map.2 ⟨y, hy, e⟩))
    have hw : IntKind.i64.wrap ((pre.length : Int) + 1) = (pre.length : Int) + 1 := wrap64 (by omega) (by omega)
    have hlt : (pre.length : Int) < l.length := by omega
    have hb : (pre.length : Int) ≤ l.length := by omega
    have hz : szFits 3 (l.map Rs.enc) = true := by cases l <;> rfl
    have ht : List.take pre.length (l.map Rs.enc) = pre.map Rs.enc := by rw [hp]; simp
    have hsn := cntR_snoc pre x
    have hcount := fun hs => hg.count hp hs
    simp only [Rs.enc] at e41
    generalize cntR (pre ++ [x]) = cn at *
    rw [r17_l0]
    by_cases hs : x.state = []
    · rw [hs] at e41
      have hcn := hcount (by simp [isS, hs])
      by_cases q : cntR pre < 0
      · rw [if_pos ⟨q, by simp [isS, hs]⟩] at hsn
        subst hsn
        try simp at ih
        simp [c17_l0b, hlt, hpl, hb, hz, ht, gx, gx', Rs.enc, e41, e42, hs, q, hw, ih]
      · rw [if_neg (fun z => q z.1)] at hsn
        subst hsn
        try simp at ih
        simp [c17_l0b, hlt, hpl, hb, hz, ht, gx, gx', Rs.enc, e41, e42, hs, q, hcn, hw, ih]
    · rw [if_neg (fun z => hs (by simpa [isS] using z.2))] at hsn
      subst hsn
      try simp at ih
      simp [c17_l0b, hlt, hpl, hb, hz, ht, gx, gx', Rs.enc, e41, e42, hs, hw, ih]
theorem S17 (l : List Rs) (hg : RG l) (hk : ∀ x ∈ l, x.ok) (hl : l.length ≤ 160) : fn P 17 [.slice (l.map Rs.enc)] = some (ci 0) := by
  have hL := L17_0 (P := P) l hg hk (by omega) l [] rfl
  have e0 : cntR [] = -1 := rfl
  have hm : ¬ (160 : Int) < (l.length : Int) := by omega
  rw [u17]
  simp [e0] at hL
  simp [c17, hm, hL]
end LM.GK
namespace LM.GK
open Go LM
variable {P : Nat → Option SFunc} [Has P]
theorem S53 (s : Str) (l : List Str) (h : (l.length : Int) < 9223372036854775807) : fn P 53 [.slice (l.map CV.str), .str s] = some (ci (idxF (Str.is s) 0 l)) := by
  have hl := L53 (P := P) s l [] (by simpa using h)
  rw [u53]
  simp at hl
  simp [c53, hl]
  exact fun hx => (idxF_none (by simpa using hx)).symm
theorem S28 (x y : Rs) (hx : x.vok) (hy : y.vok) : fn P 28 [x.enc, y.enc] = some (ci (cmpT x y)) := by
  have e54 := S54 (P := P)
  have e1 := S53 (P := P) x.state statesL (by decide)
  have e2 := S53 (P := P) y.state statesL (by decide)
  have e52 := S96j (P := P) (gradeR x) (gradeR y)
  have e48 := S48 (P := P) y.vals x.vals hy hx
  have g1 : idxF (Str.is x.state) 0 statesL = gradeR x := rfl
  have g2 : idxF (Str.is y.state) 0 statesL = gradeR y := rfl
  rw [g1] at e1
  rw [g2] at e2
  rw [u28]
  unfold cmpT
  by_cases h : cmpJ (gradeR x) (gradeR y) = 0
  · rw [h] at e52
    simp [c28, Rs.enc, e54, e1, e2, e52, e48, h]
  · simp [c28, Rs.enc, e54, e1, e2, e52, e48, h]
theorem cntT_snoc (pre : List Rs) (x y : Rs) : cntT (pre ++ [y]) x = if cmpT y x < 0 then cntT pre x + 1 else cntT pre x := by
  unfold cntT btT
  rw [List.filter_append]
  by_cases h : cmpT y x < 0
  · simp [h]
  · simp [h]
theorem L27_0 (l : List Rs) (hv : ∀ x ∈ l, x.vok) (hl : l.length < 1000) (x : Rs) (hx : x.vok) (i : Nat) (O : LV) (hO : O = .slice 1 (1 + i) 0 i none none) (A : List LV) (hA : underL 3 A = true) : ∀ (r pre : List Rs), l = pre ++ r →
    execS P (limS P) c27_l0 ⟨[.c (.slice (l.map Rs.enc)), .c (.func 28 [] []), O, .ptr 2 0 0, .c (ci (1 + cntT pre x)), .c (.slice (l.map Rs.enc)), .c (ci l.length), .c (ci i), .c (.slice (l.map Rs.enc)), .c (ci l.length), .c (ci pre.length)], [.cells 1 [] 0, .cells (1 + i) A 0, RB3 x 0]⟩ =
      some (.exit 2, ⟨[.c (.slice (l.map Rs.enc)), .c (.func 28 [] []), O, .c (ci (1 + cntT l x)), .c (.slice (l.map Rs.enc)), .c (ci l.length), .c (ci i)], [.cells 1 [] 0, .cells (1 + i) A 0, RB3 x 0]⟩) := by
  subst hO
  intro r
  induction r with
  | nil =>
    intro pre hp
    have hp' : l = pre := by simpa using hp
    subst hp'
    rw [r27_l0]
    simp [c27_l0b]
  | cons y r ih =>
    intro pre hp
    have ih := ih (pre ++ [y]) (by simp [hp])
    have hy : y ∈ l := by rw [hp]; simp
    have gy : l[pre.length]? = some y := by rw [hp]; simp
    have hpl : pre.length < l.length := (List.getElem?_eq_some_iff.1 gy).1
    obtain ⟨_, gy'⟩ := List.getElem?_eq_some_iff.1 gy
    have hw : IntKind.i64.wrap ((pre.length : Int) + 1) = (pre.length : Int) + 1 := wrap64 (by omega) (by omega)
    have hlt : (pre.length : Int) < l.length := by omega
    have e28 := S28 (P := P) y x (hv y hy) hx
    have hsn := cntT_snoc pre x y
    have hb : 0 ≤ cntT pre x ∧ cntT pre x ≤ pre.length := by
      unfold cntT
      have := List.length_filter_le (fun z => btT z x) pre
      omega
    have hw2 : IntKind.i64.wrap (1 + cntT pre x + 1) = 1 + (cntT pre x + 1) := by rw [show 1 + cntT pre x + 1 = 1 + (cntT pre x + 1) from by omega]; exact wrap64 (by omega) (by omega)
    simp only [Rs.enc, RB3] at *
    rw [r27_l0]
    by_cases h : cmpT y x < 0
    · rw [if_pos h] at hsn
      rw [hsn] at ih
      simp at ih
      simp [c27_l0b, hlt, hpl, gy, gy', Rs.enc, e28, h, hw, hw2, hA, ih]
    · rw [if_neg h] at hsn
      rw [hsn] at ih
      simp at ih
      simp [c27_l0b, hlt, hpl, gy, gy', Rs.enc, e28, h, hw, hA, ih]
theorem rkElems (l pre : List Rs) : ∀ x ∈ pre.map (fun x => ci (rankT l x)), Elem none x := by
  intro x hx
  obtain ⟨y, _, rfl⟩ := List.mem_map.1 hx
  exact ⟨rfl, rfl⟩
theorem L27_1 (l : List Rs) (hv : ∀ x ∈ l, x.vok) (hl : l.length < 1000) : ∀ (r pre : List Rs), l = pre ++ r →
    execS P (limS P) c27_l1 ⟨[.c (.slice (l.map Rs.enc)), .c (.func 28 [] []), .slice 1 (1 + pre.length) 0 pre.length none none, .c (.slice (l.map Rs.enc)), .c (ci l.length), .c (ci pre.length)], [.cells 1 [] 0, .cells (1 + pre.length) (cellsOf (pre.map (fun x => ci (rankT l x)))) 0]⟩ =
      some (.exit 0, ⟨[.slice 1 (1 + l.length) 0 l.length none none], [.cells 1 [] 0, .cells (1 + l.length) (cellsOf (l.map (fun x => ci (rankT l x)))) 0]⟩) := by
  intro r
  induction r with
  | nil =>
    intro pre hp
    have hp' : l = pre := by simpa using hp
    subst hp'
    rw [r27_l1]
    simp [c27_l1b]
  | cons x r ih =>
    intro pre hp
    have ih := ih (pre ++ [x]) (by simp [hp])
    have hx : x ∈ l := by rw [hp]; simp
    have gx : l[pre.length]? = some x := by rw [hp]; simp
    have hpl : pre.length < l.length := (List.getElem?_eq_some_iff.1 gx).1
    obtain ⟨_, gx'⟩ := List.getElem?_eq_some_iff.1 gx
    have hw : IntKind.i64.wrap ((pre.length : Int) + 1) = (pre.length : Int) + 1 := wrap64 (by omega) (by omega)
    have hlt : (pre.length : Int) < l.length := by omega
    have h0 := L27_0 (P := P) l hv hl x (hv x hx) pre.length _ rfl (cellsOf (pre.map (fun x => ci (rankT l x)))) (underL_cellsOf _ _) l [] rfl
    have hc0 : cntT [] x = 0 := rfl
    have hr : 1 + cntT l x = rankT l x := rfl
    rw [hc0, hr] at h0
    have ha := fun X0 X2 => append_own (b := 1) (g := 1 + pre.length) (bytes := 8) (e := none) (ys := pre.map (fun x => ci (rankT l x))) (xs := [ci (rankT l x)]) (h := [X0, .cells (1 + pre.length) (cellsOf (pre.map (fun x => ci (rankT l x)))) 0, X2]) (len := pre.length) (fz := 0) rfl (rkElems _ _) (by intro y hy; simp at hy; rw [hy]; exact ⟨rfl, rfl⟩) (by simp) (Nat.zero_le _) (by simp) (by simp; omega) (by simp; omega)
    have e1 : 1 + (pre.length + 1) = 1 + pre.length + 1 := by omega
    simp only [RB3, List.map_append, List.map_cons, List.map_nil, List.length_append, List.length_cons, List.length_nil] at h0 ih ha
    have hu1 := underL_cellsOf 2 (pre.map (fun x => ci (rankT l x)) ++ [ci (rankT l x)])
    generalize pre.map (fun x => ci (rankT l x)) = D at *
    rw [r27_l1]
    simp [e1] at h0 ih ha
    simp [c27_l1b, hlt, hpl, gx, gx', Rs.enc, h0, ha, hw, hu1, ih]
theorem S27 (l : List Rs) (hv : ∀ x ∈ l, x.vok) (hl : l.length < 1000) : fn P 27 [.slice (l.map Rs.enc), .func 28 [] []] = some (.slice (l.map (fun x => ci (rankT l x)))) := by
  have hL := L27_1 (P := P) l hv hl l [] rfl
  have hr := resV_own1 (b := 1) (g := 1 + l.length) (fz := 0) (e := none) (ys := l.map (fun x => ci (rankT l x))) (h := [.cells 1 [] 0, .cells (1 + l.length) (cellsOf (l.map (fun x => ci (rankT l x)))) 0]) (len := l.length) rfl (rkElems _ _) (by simp) none
  generalize l.map (fun x => ci (rankT l x)) = D at *
  rw [u27]
  simp at hL
  simp [c27, hL, hr]
end LM.GK
namespace LM.GK
open Go LM
variable {P : Nat → Option SFunc} [Has P]
section
variable {α : Type} {enc : α → CV} {f : Nat} {B : List CV} {c : α → α → Int} {H : Heap} {b g : Nat} {cp : Option Nat}
theorem S73 (hE : CellOk enc) (hC : CmpOk P enc f B c) (hb : b < H.length) (hg : g ≠ 0) (xs : List α) (n : Nat) (hn : n < 20) (h : n = xs.length) :
    sfn P 73 [.slice b g 0 n none cp, .c (ci n), .c (.func f [] B)] (H.set b (.cells g (cA enc xs) 0)) = some (.c (.tuple []), H.set b (.cells g (cA enc (sortI (ltC c) [] xs)) 0)) := by
  have hs := S81 (P := P) (cp := cp) hE hC hb hg [] xs [] n (by omega) (by simpa using h)
  have h1 : ¬ (20 : Int) ≤ n := by omega
  have h2 : ¬ (20 : Int) < n := by omega
  have l0 : ∀ E, execS P (limS P) c73_l0 ⟨[.slice b g 0 n none cp, .c (ci n), .c (.func f [] B), .c (ci 20), .c (ci 0), .c (ci 20)], E⟩ = some (.exit 0, ⟨[.slice b g 0 n none cp, .c (ci n), .c (.func f [] B), .c (ci 20), .c (ci 0)], E⟩) := by
    intro E
    rw [r73_l0]
    simp [c73_l0b, h1]
  have l2 : ∀ E, execS P (limS P) c73_l2 ⟨[.slice b g 0 n none cp, .c (ci n), .c (.func f [] B), .c (ci 20)], E⟩ = some (.exit 2, ⟨[], E⟩) := by
    intro E
    rw [r73_l2]
    simp [c73_l2b, h2]
  simp [← h] at hs
  rw [u73]
  simp [c73, l0, l2, hs, hb, take_set, frzFuncs_nil, frzFuncs_c, frzFuncs_slice]
theorem S55 (hE : CellOk enc) (hC : CmpOk P enc f B c) (hb : b < H.length) (hg : g ≠ 0) (xs : List α) (n : Nat) (hn : n < 20) (h : n = xs.length) :
    sfn P 55 [.slice b g 0 n none cp, .c (.func f [] B)] (H.set b (.cells g (cA enc xs) 0)) = some (.c (.tuple []), H.set b (.cells g (cA enc (sortI (ltC c) [] xs)) 0)) := by
  have hs := S73 (P := P) (cp := cp) hE hC hb hg xs n hn h
  rw [u55]
  simp [c55, hs, hb, take_set, frzFuncs_nil, frzFuncs_c, frzFuncs_slice]
end
def encF {n : Nat} (i : Fin n) : CV := ci i.val
theorem encF_cell {n : Nat} : CellOk (encF (n := n)) := fun _ => ⟨rfl, rfl⟩
def cmpR (R : List Int) (a b : Fin R.length) : Int := cmpJ R[a.val] R[b.val]
theorem cmp56 (R : List Int) : CmpOk P encF 56 [.ptr [.slice (R.map ci)] 0] (cmpR R) := by
  intro pos q x y h
  have e52 := S96j (P := P) R[x.val] R[y.val]
  have hx := x.isLt
  have hy := y.isLt
  have e : fn P 56 [encF x, encF y, .ptr [.slice (R.map ci)] 0] = some (ci (cmpR R x y)) := by
    rw [u56]
    simp [c56, encF, e52, cmpR]
  simp only [encF] at e ⊢
  simp [e]
def byR (R : List Int) : List (Fin R.length) := sortI (ltC (cmpR R)) [] (List.finRange R.length)
theorem byR_length (R : List Int) : (byR R).length = R.length := by unfold byR; rw [sortI_length]; simp
def natC (n : Nat) : List CV := (List.range n).map fun i : Nat => ci (i : Int)
theorem natC_length (n : Nat) : (natC n).length = n := by simp [natC]
theorem natC_elems (n : Nat) : ∀ x ∈ natC n, Elem none x := by
  intro x hx
  obtain ⟨y, _, rfl⟩ := List.mem_map.1 hx
  exact ⟨rfl, rfl⟩
theorem natC_snoc (n : Nat) : natC n ++ [ci n] = natC (n + 1) := by simp [natC, List.range_succ]
theorem natC_cells (n : Nat) : cellsOf (natC n) = cA encF (List.finRange n) := by
  have e : natC n = (List.finRange n).map encF := by
    apply List.ext_getElem
    · simp [natC]
    · intro i h1 h2
      simp [natC, encF]
  rw [e]
  unfold cellsOf cA
  rw [List.flatMap_map, List.map_flatMap]
  induction List.finRange n with
  | nil => rfl
  | cons x r ih => simp only [List.flatMap_cons, List.map_cons, ih]; rfl
theorem L29_0 (R : List Int) (hR : R.length < 1000) : ∀ (k i : Nat), i + k = R.length →
    execS P (limS P) c29_l0 ⟨[.ptr 0 0 0, .slice 2 (1 + i) 0 i none none, .c (ci R.length), .c (ci i)], [.cells 0 [.c (.slice (R.map ci))] 0, .cells 1 [] 0, .cells (1 + i) (cellsOf (natC i)) 0]⟩ =
      some (.exit 0, ⟨[.ptr 0 0 0, .slice 2 (1 + R.length) 0 R.length none none], [.cells 0 [.c (.slice (R.map ci))] 0, .cells 1 [] 0, .cells (1 + R.length) (cellsOf (natC R.length)) 0]⟩) := by
  intro k
  induction k with
  | zero =>
    intro i h
    have : i = R.length := by omega
    subst this
    rw [r29_l0]
    simp [c29_l0b]
  | succ k ih =>
    intro i h
    have ih := ih (i + 1) (by omega)
    have hw : IntKind.i64.wrap ((i : Int) + 1) = (i : Int) + 1 := wrap64 (by omega) (by omega)
    have hlt : (i : Int) < R.length := by omega
    have ha := append_own (b := 2) (g := 1 + i) (bytes := 8) (e := none) (ys := natC i) (xs := [ci i]) (h := [.cells 0 [.c (.slice (R.map ci))] 0, .cells 1 [] 0, .cells (1 + i) (cellsOf (natC i)) 0]) (len := i) (fz := 0) rfl (natC_elems _) (by intro y hy; simp at hy; rw [hy]; exact ⟨rfl, rfl⟩) (natC_length i).symm (Nat.zero_le _) (by simp) (by rw [natC_length]; simp; omega) (by rw [natC_length]; simp; omega)
    rw [natC_snoc] at ha
    have hu := underL_cellsOf 3 (natC (i + 1))
    have e1 : 1 + (i + 1) = 1 + i + 1 := by omega
    simp [e1] at ha ih
    rw [r29_l0]
    simp [c29_l0b, hlt, hw, ha, hu, ih]
theorem S29 (R : List Int) (hR : R.length < 20) : fn P 29 [.slice (R.map ci)] = some (.slice ((byR R).map encF)) := by
  have hL := L29_0 (P := P) R (by omega) R.length 0 (by omega)
  have e55 := S55 (P := P) (cp := none) encF_cell (cmp56 R) (H := [.cells 0 [.c (.slice (R.map ci))] 1, .cells 1 [] 0, .dead]) (b := 2) (g := 1 + R.length) (by simp) (by omega) (List.finRange R.length) R.length hR (by simp)
  have e0 : natC 0 = [] := rfl
  rw [e0, natC_cells] at hL
  have hB : sortI (ltC (cmpR R)) [] (List.finRange R.length) = byR R := rfl
  rw [hB] at e55
  have hcell : ∀ xs : List (Fin R.length), cA encF xs = cellsOf (xs.map encF) := by
    intro xs
    unfold cellsOf cA
    rw [List.flatMap_map, List.map_flatMap]
    induction xs with
    | nil => rfl
    | cons x r ih => simp only [List.flatMap_cons, List.map_cons, ih]; rfl
  have hr := fun X0 X1 => resV_own1 (b := 2) (g := 1 + R.length) (fz := 0) (e := none) (ys := (byR R).map encF) (h := [X0, X1, .cells (1 + R.length) (cA encF (byR R)) 0]) (len := R.length) (by rw [hcell]; rfl) (fun x hx => by obtain ⟨y, _, rfl⟩ := List.mem_map.1 hx; exact encF_cell y) (by simp [byR_length]) none
  simp at hL e55 hr
  rw [u29]
  simp [c29, hL, frzFuncs_nil, frzFuncs_c, frzFuncs_slice, frzFuncs_func, frz_func, e55, hr]
end LM.GK
namespace LM.GK
open Go LM
variable {P : Nat → Option SFunc} [Has P]
def ranksL (l : List Rs) : List Int := l.map (rankT l)
theorem ranksL_length (l : List Rs) : (ranksL l).length = l.length := by simp [ranksL]
def thr (l : List Rs) (q : Int) (x : Rs) : Bool := isS x && decide (rankT l x ≤ q)
abbrev Nr := Nat × Rs
def Nr.enc (p : Nr) : CV := ci p.1
def goL (l : List Rs) (q : Int) (Z : List Nr) : List Str := (Z.filter (fun p => thr l q p.2)).map (·.2.who)
theorem L9_0 (l : List Rs) (q : Int) (hl : l.length < 500) (Z : List Nr) (hg : ∀ p ∈ Z, l[p.1]? = some p.2) (hZ : Z.length < 500) : ∀ (r pre : List Nr) (ys : List Str), Z = pre ++ r → ys.length ≤ pre.length →
    execS P (limS P) c9_l0 ⟨[.c (.slice (l.map Rs.enc)), .c (ci q), .c (.slice ((ranksL l).map ci)), .slice 1 (1 + ys.length) 0 ys.length none none, .c (.slice (Z.map Nr.enc)), .c (ci Z.length), .c (ci pre.length)], [.cells 1 [] 0, SW ys]⟩ =
      some (.exit 0, ⟨[.slice 1 (1 + (ys ++ goL l q r).length) 0 (ys ++ goL l q r).length none none], [.cells 1 [] 0, SW (ys ++ goL l q r)]⟩) := by
  intro r
  induction r with
  | nil =>
    intro pre ys hp hy
    have hp' : Z = pre := by simpa using hp
    subst hp'
    rw [r9_l0]
    simp [c9_l0b, goL]
  | cons p r ih =>
    intro pre ys hp hy
    have ihA := fun y => ih (pre ++ [p]) (ys ++ [y]) (by simp [hp]) (by simp; omega)
    have ihB := ih (pre ++ [p]) ys (by simp [hp]) (by simp; omega)
    have ga : Z[pre.length]? = some p := by rw [hp]; simp
    have hpl : pre.length < Z.length := (List.getElem?_eq_some_iff.1 ga).1
    obtain ⟨_, ga'⟩ := List.getElem?_eq_some_iff.1 ga
    have hw : IntKind.i64.wrap ((pre.length : Int) + 1) = (pre.length : Int) + 1 := wrap64 (by omega) (by omega)
    have hlt : (pre.length : Int) < Z.length := by omega
    have gx := hg p (by rw [hp]; simp)
    have gr : (ranksL l)[p.1]? = some (rankT l p.2) := by unfold ranksL; rw [List.getElem?_map, gx]; rfl
    obtain ⟨hal, gx'⟩ := List.getElem?_eq_some_iff.1 gx
    obtain ⟨har, gr'⟩ := List.getElem?_eq_some_iff.1 gr
    have ht : thr l q p.2 = (isS p.2 && decide (rankT l p.2 ≤ q)) := rfl
    have hS : isS p.2 = decide (p.2.state = []) := rfl
    have hap := append_own (b := 1) (g := 1 + ys.length) (bytes := 16) (e := none) (ys := ys.map CV.str) (xs := [.str p.2.who]) (h := [.cells 1 [] 0, SW ys]) (len := ys.length) (fz := 0) rfl (strElems _) (by simpa using strElem _) (by simp) (Nat.zero_le _) (by simp) (by simp; omega) (by simp; omega)
    have eS : LB.cells (1 + ys.length + 1) (cellsOf (ys.map CV.str ++ [CV.str p.2.who])) 0 = SW (ys ++ [p.2.who]) := by simp [SW, Nat.add_assoc]
    simp [eS] at hap
    have hsu := fun zs => SW_under 2 zs
    unfold LB.under at hsu
    have e1 : 1 + (ys.length + 1) = 1 + ys.length + 1 := by omega
    have hR : goL l q (p :: r) = if thr l q p.2 then p.2.who :: goL l q r else goL l q r := by unfold goL; cases h : thr l q p.2 <;> simp [h]
    have hal' : (p.1 : Int) < l.length := by omega
    have har' : (p.1 : Int) < (ranksL l).length := by omega
    generalize goL l q r = G at *
    rw [hR, r9_l0]
    generalize ranksL l = R at *
    obtain ⟨i, x⟩ := p
    simp only at *
    generalize rankT l x = k at *
    have hE : ∀ (i : Nat) (x : Rs), Nr.enc (i, x) = ci i := fun _ _ => rfl
    by_cases hs : x.state = []
    · by_cases hk : k ≤ q
      · simp [ht, hS, hs, hk, e1] at ihA ⊢
        simp [c9_l0b, hlt, hpl, ga, ga', hE, hal', hal, gx, gx', har', har, gr, gr', Rs.enc, hs, hk, hap, hsu, hw, ihA]
        try omega
      · simp [ht, hS, hs, hk, e1] at ihB ⊢
        simp [c9_l0b, hlt, hpl, ga, ga', hE, hal', hal, gx, gx', har', har, gr, gr', Rs.enc, hs, hk, hsu, hw, ihB]
    · simp [ht, hS, hs, e1] at ihB ⊢
      simp [c9_l0b, hlt, hpl, ga, ga', hE, hal', hal, gx, gx', har', har, gr, gr', Rs.enc, hs, hsu, hw, ihB]
theorem getD_fin (l : List Rs) (i : Fin (ranksL l).length) : ∃ x, l[i.val]? = some x ∧ l.getD i.val ⟨[], [], []⟩ = x := by
  have := Nat.lt_of_lt_of_eq i.isLt (ranksL_length l)
  exact ⟨_, List.getElem?_eq_getElem this, by simp [List.getD_eq_getElem?_getD, this]⟩
def sortedN (l : List Rs) : List Nr := (byR (ranksL l)).map fun i => (i.val, l.getD i.val ⟨[], [], []⟩)
theorem sortedN_get (l : List Rs) : ∀ p ∈ sortedN l, l[p.1]? = some p.2 := by
  intro p hp
  obtain ⟨i, _, rfl⟩ := List.mem_map.1 hp
  obtain ⟨x, h1, h2⟩ := getD_fin l i
  simp only [h2, h1]
theorem sortedN_rs (l : List Rs) : (sortedN l).map (·.2) = sortI (fun x y => decide (rankT l x < rankT l y)) [] l := by
  unfold sortedN byR
  rw [List.map_map]
  have := sortI_map (lt := ltC (cmpR (ranksL l))) (lt' := fun x y => decide (rankT l x < rankT l y)) (fun i : Fin (ranksL l).length => l.getD i.val ⟨[], [], []⟩) (by
    intro a b
    obtain ⟨x, h1, h2⟩ := getD_fin l a
    obtain ⟨y, h3, h4⟩ := getD_fin l b
    have g1 : (ranksL l)[a.val] = rankT l x := by
      have : (ranksL l)[a.val]? = some (rankT l x) := by unfold ranksL; rw [List.getElem?_map, h1]; rfl
      exact (List.getElem?_eq_some_iff.1 this).2
    have g2 : (ranksL l)[b.val] = rankT l y := by
      have : (ranksL l)[b.val]? = some (rankT l y) := by unfold ranksL; rw [List.getElem?_map, h3]; rfl
      exact (List.getElem?_eq_some_iff.1 this).2
    rw [h2, h4]
    unfold ltC cmpR cmpJ
    rw [g1, g2]
    apply decide_eq_decide.2
    (repeat' split) <;> omega) [] (List.finRange (ranksL l).length)
  have e : (List.finRange (ranksL l).length).map (fun i => l.getD i.val ⟨[], [], []⟩) = l := by
    apply List.ext_getElem
    · simp [ranksL]
    · intro i h1 h2
      simp [List.getD_eq_getElem?_getD, h2]
  rw [e] at this
  exact this.symm
theorem goL_through (l : List Rs) (q : Int) : goL l q (sortedN l) = throughL l q := by
  unfold throughL
  rw [← sortedN_rs]
  unfold goL
  rw [List.filter_map, List.map_map]
  rfl
theorem S9 (l : List Rs) (q : Int) (hg : RG l) (hk : ∀ x ∈ l, x.ok) (hl : l.length < 20) (h0 : 0 ≤ q) (h1 : q ≤ 160) : fn P 9 [.slice (l.map Rs.enc), ci q] = some (.tuple [.slice ((throughL l q).map CV.str), ci 0]) := by
  have e25 := S25 (P := P) l hg hk (by omega)
  have e26 := S26 (P := P) q 0 160
  have ho : outside q 0 160 = false := by unfold outside; simp; omega
  rw [ho] at e26
  have e24 := S24_2 (P := P) 0 0
  have e27 := S27 (P := P) l (fun x hx => (hk x hx).2.2) (by omega)
  have hR : l.map (fun x => ci (rankT l x)) = (ranksL l).map ci := by simp [ranksL]
  rw [hR] at e27
  have e29 := S29 (P := P) (ranksL l) (by rw [ranksL_length]; exact hl)
  have hZ : (byR (ranksL l)).map encF = (sortedN l).map Nr.enc := by unfold sortedN; rw [List.map_map]; rfl
  have hZl : (sortedN l).length = l.length := by unfold sortedN; rw [List.length_map, byR_length, ranksL_length]
  rw [hZ] at e29
  have hL := L9_0 (P := P) l q (by omega) (sortedN l) (sortedN_get l) (by omega) (sortedN l) [] [] rfl (by simp)
  rw [goL_through] at hL
  have e0 : SW [] = .cells 1 [] 0 := rfl
  have hr := fun X0 => resV_own (b := 1) (g := 1 + (throughL l q).length) (fz := 0) (e := none) (ys := (throughL l q).map CV.str) (h := [X0, SW (throughL l q)]) (len := (throughL l q).length) rfl (strElems _) (by simp) none (ci 0)
  generalize throughL l q = T at *
  generalize sortedN l = Z at *
  generalize ranksL l = R at *
  simp [e0, mkTuple] at hL hr
  rw [u9]
  simp [c9, e25, e26, e24, e27, e29, whenE, firstE, hL, hr, mkTuple]
end LM.GK
namespace LM.GK
open Go LM
variable {P : Nat → Option SFunc} [Has P]
theorem S13 (l : List Rs) (hg : RG l) (hk : ∀ x ∈ l, x.ok) (hl : l.length ≤ 160) : fn P 13 [.slice (l.map Rs.enc)] = some (.tuple [.slice ((ranksL l).map ci), ci 0]) := by
  have e25 := S25 (P := P) l hg hk hl
  have e27 := S27 (P := P) l (fun x hx => (hk x hx).2.2) (by omega)
  have hR : l.map (fun x => ci (rankT l x)) = (ranksL l).map ci := by simp [ranksL]
  rw [hR] at e27
  rw [u13]
  simp [c13, e25, e27]
def noName (s : Str) : Bool := !isName s
theorem S76 (s : Str) (hs : s.length < 9223372036854775807) : fn P 76 [.str s] = some (.bool (noName s)) := by
  have e := S69 (P := P) s hs
  rw [u76]
  simp [c76, e, noName]
theorem L83 : ∀ (l pre : List Str), (∀ s ∈ l, s.length < 9223372036854775807) → ((pre ++ l).length : Int) < 9223372036854775807 →
    ∃ k : Nat, execS P (limS P) c83_l0 ⟨[.c (.slice ((pre ++ l).map CV.str)), .c (.func 76 [] []), .c (ci (pre ++ l).length), .c (ci pre.length)], []⟩ = if l.any noName then some (.ret, ⟨[.c (ci k)], []⟩) else some (.exit 0, ⟨[], []⟩) := by
  intro l
  induction l with
  | nil =>
    intro pre hn h
    refine ⟨0, ?_⟩
    rw [r83_l0]
    simp [c83_l0b]
  | cons x r ih =>
    intro pre hn h
    obtain ⟨k, ih⟩ := ih (pre ++ [x]) (fun s hs => hn s (by simp [hs])) (by simpa using h)
    have es := S76 (P := P) x (hn x (by simp))
    simp [-List.any_eq_true] at ih h
    have hw : IntKind.i64.wrap (↑pre.length + 1) = ↑pre.length + 1 := wrap64 (by omega) (by omega)
    have hlt : (pre.length : Int) < pre.length + (r.length + 1) := by omega
    cases h0 : noName x
    · refine ⟨k, ?_⟩
      rw [h0] at es
      rw [r83_l0]
      simp [c83_l0b, hw, hlt, es, h0, ih, -List.any_eq_true]
    · refine ⟨pre.length, ?_⟩
      rw [h0] at es
      rw [r83_l0]
      simp [c83_l0b, hw, hlt, es, h0, -List.any_eq_true]
theorem S61 (l : List Str) (hn : ∀ s ∈ l, s.length < 9223372036854775807) (h : (l.length : Int) < 9223372036854775807) : fn P 61 [.slice (l.map CV.str)] = some (ci (whenE (l.any noName) 8)) := by
  obtain ⟨k, hl⟩ := L83 (P := P) l [] hn (by simpa using h)
  simp [-List.any_eq_true] at hl
  have e83 : fn P 83 [.slice (l.map CV.str), .func 76 [] []] = some (ci (if l.any noName then (k : Int) else -1)) := by
    rw [u83]
    cases h0 : l.any noName <;> rw [h0] at hl <;> simp [c83, hl]
  have e75 : fn P 75 [.slice (l.map CV.str), .func 76 [] []] = some (.bool (l.any noName)) := by
    rw [u75]
    cases h0 : l.any noName <;> rw [h0] at e83 <;> simp [c75, e83]
  rw [u61]
  simp [c61, e75, -List.any_eq_true]
theorem name_len {s : Str} (h : isName s = true) : s.length ≤ 24 := by unfold isName at h; simp at h; exact h.1.2
theorem S61_1 (a : Str) (ha : isName a = true) : fn P 61 [.slice [.str a]] = some (ci 0) := by
  have := S61 (P := P) [a] (by intro s hs; simp at hs; subst hs; have := name_len ha; omega) (by simp)
  simpa [noName, ha, whenE] using this
theorem S61_2 (a b : Str) (ha : isName a = true) (hb : isName b = true) : fn P 61 [.slice [.str a, .str b]] = some (ci 0) := by
  have := S61 (P := P) [a, b] (by intro s hs; simp at hs; rcases hs with rfl | rfl; have := name_len ha; omega; have := name_len hb; omega) (by simp)
  simpa [noName, ha, hb, whenE] using this
def entC (s : Str) : CV := .agg [.str s, .str [65]]
def rndS : Str := [114, 111, 117, 110, 100]
def listC (q : Int) (E : List Str) : CV := .agg [.str rndS, ci q, .slice (E.map entC)]
def quotaC (q : Int) (E : List Str) : CV := .agg [.slice [listC q E], ci 160]
theorem L59_0 (Lc : CV) (X0 X1 X2 : LB) (hu : underB 6 [X0, X1, X2] = true) (E : List Str) (hE : E.length < 1000) (hn : ∀ s ∈ E, isName s = true) (hd : E.Nodup) : ∀ (r pre : List Str), E = pre ++ r →
    execS P (limS P) c59_l0 ⟨[.ptr 0 0 0, .map 1, .map 5, .c Lc, .c (ci 1), .c (ci 0), .c (.slice (E.map entC)), .c (ci E.length), .c (ci pre.length)], [X0, X1, X2, .dead, .dead, .map (pre.map CV.str) (setV pre) false]⟩ =
      some (.exit 2, ⟨[.ptr 0 0 0, .map 1, .c Lc, .c (ci 1), .c (ci 0)], [X0, X1, X2, .dead, .dead, .map (E.map CV.str) (setV E) false]⟩) := by
  intro r
  induction r with
  | nil =>
    intro pre hp
    have hp' : E = pre := by simpa using hp
    subst hp'
    rw [r59_l0]
    simp [c59_l0b]
  | cons x r ih =>
    intro pre hp
    have ih := ih (pre ++ [x]) (by simp [hp])
    have gx : E[pre.length]? = some x := by rw [hp]; simp
    have hpl : pre.length < E.length := (List.getElem?_eq_some_iff.1 gx).1
    obtain ⟨_, gx'⟩ := List.getElem?_eq_some_iff.1 gx
    have hx := hn x (by rw [hp]; simp)
    have e1 := S61_2 (P := P) x [65] hx rfl
    have hno : x ∉ pre := by
      rw [hp] at hd
      have := List.nodup_append.1 hd
      intro hm
      exact this.2.2 x hm x (by simp) rfl
    have ef := findK_no x hno
    have hk := keyOk_str x
    have hsv := setV_snoc pre x
    have hw : IntKind.i64.wrap (↑pre.length + 1) = ↑pre.length + 1 := wrap64 (by omega) (by omega)
    have hlt : (pre.length : Int) < E.length := by omega
    have hu2 := setV_under 6 (pre ++ [x])
    simp only [underB_cons, Bool.and_eq_true, underB_nil, and_true] at hu
    obtain ⟨u0, u1, u2⟩ := hu
    unfold LB.under at u0 u1 u2
    simp at ih
    rw [r59_l0]
    simp [c59_l0b, hlt, hpl, gx, gx', entC, e1, whenE, firstE, hk, ef, hsv, hw, u0, u1, u2, hu2, ih]
theorem S59 (q : Int) (E : List Str) (h0 : 0 ≤ q) (h1 : q ≤ 160) (hE : E.length ≤ 160) (hn : ∀ s ∈ E, isName s = true) (hd : E.Nodup) : fn P 59 [quotaC q E] = some (ci 0) := by
  have e1 := S61_1 (P := P) rndS rfl
  have e2 := S74 (P := P) q 0 160
  have e3 := S74 (P := P) 160 1 160
  have ho : outside q 0 160 = false := by unfold outside; simp; omega
  have ho2 : outside 160 1 160 = false := rfl
  rw [ho] at e2
  rw [ho2] at e3
  have hm : ¬ (160 : Int) < (E.length : Int) := by omega
  rw [u59]
  simp only [rndS] at e1
  have hk : keyOk (.one 1) (CV.str rndS) = true := rfl
  simp only [rndS] at hk
  have ef : findK (.one 1) (CV.str [114, 111, 117, 110, 100]) [] = some none := rfl
  have hL : ∀ s, execS P (limS P) c59_l1 s = seqK (execS P (limS P) c59_l1b s) fun s' => execS P (limS P) c59_l1 (gc s.heap.length s') := r59_l1
  have h2 := L59_0 (P := P) (.slice [.agg [.str [114, 111, 117, 110, 100], ci q, .slice (E.map entC)]]) (.cells 0 [.c (.slice [.agg [.str [114, 111, 117, 110, 100], ci q, .slice (E.map entC)]]), .c (ci 160)] 0) (.map [.str [114, 111, 117, 110, 100]] [.c (.bool true)] false) (.cells 0 [.c (.str [114, 111, 117, 110, 100]), .c (ci q), .c (.slice (E.map entC))] 0) (by simp) E (by omega) hn hd E [] rfl
  have hv0 : setV ([] : List Str) = [] := rfl
  have w1 : IntKind.i64.wrap 1 = 1 := rfl
  simp [hv0] at h2
  simp [c59, quotaC, listC, rndS]
  rw [hL]
  simp [c59_l1b, e1, e2, e3, whenE, hk, ef, hm, firstE, h2, w1]
  rw [hL]
  simp [c59_l1b, e3, whenE]
end LM.GK
namespace LM.GK
open Go LM
variable {P : Nat → Option SFunc} [Has P]
theorem L37_0 (X0 : LB) (hu : underB 1 [X0] = true) (O : List Str) (hO : O.length < 1000) (hn : ∀ s ∈ O, isName s = true) (hd : O.Nodup) : ∀ (r pre : List Str), O = pre ++ r →
    execS P (limS P) c37_l0 ⟨[.c (.slice (O.map CV.str)), .c (.slice (O.map CV.str)), .c (ci O.length), .c (ci pre.length)], [X0]⟩ = some (.exit 0, ⟨[], [X0]⟩) := by
  intro r
  induction r with
  | nil =>
    intro pre hp
    have hp' : O = pre := by simpa using hp
    subst hp'
    rw [r37_l0]
    simp [c37_l0b]
  | cons x r ih =>
    intro pre hp
    have ih := ih (pre ++ [x]) (by simp [hp])
    have gx : O[pre.length]? = some x := by rw [hp]; simp
    have hpl : pre.length < O.length := (List.getElem?_eq_some_iff.1 gx).1
    obtain ⟨_, gx'⟩ := List.getElem?_eq_some_iff.1 gx
    have hx := hn x (by rw [hp]; simp)
    have e1 := S61_1 (P := P) x hx
    have hno : x ∉ pre := by
      rw [hp] at hd
      have := List.nodup_append.1 hd
      intro hm
      exact this.2.2 x hm x (by simp) rfl
    have e33 := S33 (P := P) x pre (by omega)
    have ha : pre.any (Str.is x) = false := by
      rw [List.any_eq_false]
      intro y hy
      rw [Str.is_eq]
      simp
      exact fun e => hno (e ▸ hy)
    rw [ha] at e33
    have hb : (pre.length : Int) ≤ O.length := by omega
    have hz : szFits 1 (O.map CV.str) = true := by cases O <;> rfl
    have ht : List.take pre.length (O.map CV.str) = pre.map CV.str := by rw [hp]; simp
    have hw : IntKind.i64.wrap (↑pre.length + 1) = ↑pre.length + 1 := wrap64 (by omega) (by omega)
    have hlt : (pre.length : Int) < O.length := by omega
    simp only [underB_cons, Bool.and_eq_true, underB_nil, and_true] at hu
    unfold LB.under at hu
    simp at ih
    rw [r37_l0]
    simp [c37_l0b, hlt, hpl, gx, gx', e1, hb, hz, ht, e33, whenE, firstE, hw, hu, ih]
theorem S37 (q : Int) (E O : List Str) (h0 : 0 ≤ q) (h1 : q ≤ 160) (hE : E.length ≤ 160) (hn : ∀ s ∈ E, isName s = true) (hd : E.Nodup) (hO : O.length ≤ 256) (hn2 : ∀ s ∈ O, isName s = true) (hd2 : O.Nodup) : fn P 37 [quotaC q E, .slice (O.map CV.str)] = some (ci 0) := by
  have e59 := S59 (P := P) q E h0 h1 hE hn hd
  have hm : ¬ (256 : Int) < (O.length : Int) := by omega
  have hL := L37_0 (P := P) (.cells 0 [.c (.slice [listC q E]), .c (ci 160)] 0) (by simp) O (by omega) hn2 hd2 O [] rfl
  rw [u37]
  simp [quotaC] at e59 ⊢
  simp at hL
  simp [c37, e59, hm, whenE, firstE, hL]
def natK (n : Nat) : List CV := if n = 0 then [] else [.str [65]]
def natV (n : Nat) : List LV := if n = 0 then [] else [.c (ci n)]
theorem find_nat (n : Nat) : findK (.one 1) (.str [65]) (natK n) = some (if n = 0 then none else some 0) := by
  unfold natK
  by_cases h : n = 0 <;> simp [h, findK, eqK_str]
theorem L38_0 (X0 X1 X2 X4 X5 : LB) (hu : underB 6 [X0, X1, X2, X4, X5] = true) (lim : CV) (hX : X5 = .cells 0 [.c lim, .map 3, .map 4, .nil] 0) (O : List Str) (hO : O.length < 1000) (hd : O.Nodup) : ∀ (r pre : List Str), O = pre ++ r →
    execS P (limS P) c38_l0 ⟨[.ptr 2 0 0, .ptr 5 0 0, .c (.slice (O.map CV.str)), .c (ci O.length), .c (ci pre.length)], [X0, X1, X2, .map (pre.map CV.str) (setV pre) false, X4, X5]⟩ =
      some (.exit 0, ⟨[.ptr 2 0 0, .ptr 5 0 0], [X0, X1, X2, .map (O.map CV.str) (setV O) false, X4, X5]⟩) := by
  subst hX
  intro r
  induction r with
  | nil =>
    intro pre hp
    have hp' : O = pre := by simpa using hp
    subst hp'
    rw [r38_l0]
    simp [c38_l0b]
  | cons x r ih =>
    intro pre hp
    have ih := ih (pre ++ [x]) (by simp [hp])
    have gx : O[pre.length]? = some x := by rw [hp]; simp
    have hpl : pre.length < O.length := (List.getElem?_eq_some_iff.1 gx).1
    obtain ⟨_, gx'⟩ := List.getElem?_eq_some_iff.1 gx
    have hno : x ∉ pre := by
      rw [hp] at hd
      have := List.nodup_append.1 hd
      intro hm
      exact this.2.2 x hm x (by simp) rfl
    have ef := findK_no x hno
    have hk := keyOk_str x
    have hsv := setV_snoc pre x
    have hw : IntKind.i64.wrap (↑pre.length + 1) = ↑pre.length + 1 := wrap64 (by omega) (by omega)
    have hlt : (pre.length : Int) < O.length := by omega
    have hu2 := setV_under 6 (pre ++ [x])
    simp only [underB_cons, Bool.and_eq_true, underB_nil, and_true] at hu
    obtain ⟨u0, u1, u2, u4, u5⟩ := hu
    unfold LB.under at u0 u1 u2 u4 u5
    simp at ih
    rw [r38_l0]
    simp [c38_l0b, hlt, hpl, gx, gx', hk, ef, hsv, hw, u0, u1, u2, u4, u5, hu2, ih]
theorem S62 (x : Str) (lim : Int) (pl : LV) (K : List Str) (n : Nat) (H : Heap) (h3 : H[3]? = some (.map (K.map CV.str) (setV K) false)) (h4 : H[4]? = some (.map (natK n) (natV n) false)) (h5 : H[5]? = some (.cells 0 [.c (ci lim), .map 3, .map 4, pl] 0)) :
    sfn P 62 [.ptr 5 0 0, .c (entC x)] H = some (.c (.bool (!decide (x ∈ K) && decide ((n : Int) < lim))), H ++ [.cells 0 [.c (.str x), .c (.str [65])] 0]) := by
  have l3 := (List.getElem?_eq_some_iff.1 h3).1
  have l4 := (List.getElem?_eq_some_iff.1 h4).1
  have l5 := (List.getElem?_eq_some_iff.1 h5).1
  have g3 : ∀ Y, (H ++ [Y])[3]? = some (.map (K.map CV.str) (setV K) false) := fun Y => by rw [List.getElem?_append_left l3, h3]
  have g4 : ∀ Y, (H ++ [Y])[4]? = some (.map (natK n) (natV n) false) := fun Y => by rw [List.getElem?_append_left l4, h4]
  have g5 : ∀ Y, (H ++ [Y])[5]? = some (.cells 0 [.c (ci lim), .map 3, .map 4, pl] 0) := fun Y => by rw [List.getElem?_append_left l5, h5]
  have gl : ∀ Y : LB, (H ++ [Y])[H.length]? = some Y := fun Y => by simp
  have k1 := keyOk_str x
  have k2 : keyOk (.one 1) (CV.str [65]) = true := rfl
  have fn := find_nat n
  have m2 : 2 < H.length := by omega
  have m4 : 4 < H.length + 1 := by omega
  have m5 : 5 < H.length + 1 := by omega
  have m3 : 3 < H.length + 1 := by omega
  have q3 := fun Y => (List.getElem?_eq_some_iff.1 (g3 Y)).2
  have q4 := fun Y => (List.getElem?_eq_some_iff.1 (g4 Y)).2
  have q5 := fun Y => (List.getElem?_eq_some_iff.1 (g5 Y)).2
  rw [u62]
  by_cases hx : x ∈ K
  · obtain ⟨i, hi, ef⟩ := findK_yes x hx
    have hv := setV_get hi
    simp [c62, entC, g3, g4, g5, gl, k1, k2, ef, hv, hx, m2, m3, m4, m5, l4, q3, q4, q5]
  · have ef := findK_no x hx
    by_cases hn : n = 0
    · subst hn
      simp [c62, entC, g3, g4, g5, gl, k1, k2, ef, fn, hx, m2, m3, m4, m5, l4, q3, q4, q5]
    · have hv : (natV n)[0]? = some (.c (ci n)) := by simp [natV, hn]
      simp [c62, entC, g3, g4, g5, gl, k1, k2, ef, fn, hx, hn, hv, m2, m3, m4, m5, l4, q3, q4, q5]
end LM.GK
namespace LM.GK
open Go LM
variable {P : Nat → Option SFunc} [Has P]
def plcC (s : Str) : CV := .agg [.str s, ci 0]
theorem plcElems (T : List Str) : ∀ x ∈ T.map plcC, Elem (some 2) x := by
  intro x hx
  obtain ⟨y, _, rfl⟩ := List.mem_map.1 hx
  exact ⟨_, rfl, rfl, by simp [CV.flat]⟩
def stB (s : Str) : LB := .cells 0 [.c (.str s), .c (.str [65])] 0
def h7 (X0 X1 X2 X6 : LB) (O : List Str) : Heap := [X0, X1, X2, .map (O.map CV.str) (setV O) false, .map [] [] false, .cells 0 [.c (ci 160), .map 3, .map 4, .nil] 0, X6]
def h11 (X0 X1 X2 X6 : LB) (s : Str) (O T : List Str) : Heap := [X0, X1, X2, .map ((O ++ T).map CV.str) (setV (O ++ T)) false, .map (natK T.length) (natV T.length) false, .cells 0 [.c (ci 160), .map 3, .map 4, .slice 10 T.length 0 T.length (some 2) none] 0, X6, stB s, stB s, .dead, .cells T.length (cellsOf (T.map plcC)) 0]
theorem frzFuncs_ptr (b g o : Nat) (l : List LV) (h : Heap) : frzFuncs (.ptr b g o :: l) h = bnd (frzFuncs l h) fun a => some (.ptr b g o :: a.1, a.2) := by
  rw [frzFuncs]
  rcases frzFuncs l h with _ | ⟨x, y⟩ <;> rfl
  all_goals simp
theorem L38_1t (X0 X1 X2 X6 : LB) (hu : underB 11 [X0, X1, X2, X6] = true) (Lc : CV) (O E : List Str) (hE : E.length < 150) (s0 : Str) : ∀ (r pre T : List Str) (left : Nat), E = pre ++ r → T ≠ [] → T.length ≤ pre.length → (∀ y ∈ r, y ∉ T) → r.Nodup → left < 1000 →
    ∃ id Y, (id = 3 ∨ id = 4) ∧ execS P (limS P) c38_l1 ⟨[.ptr 5 0 0, .c (ci 0), .c (ci left), .c Lc, .c (ci 1), .c (ci 0), .c (.slice (E.map entC)), .c (ci E.length), .c (ci pre.length)], h11 X0 X1 X2 X6 s0 O T⟩ =
      some (.exit id, ⟨[.ptr 5 0 0, .c Lc, .c (ci 1), .c (ci 0)], h11 X0 X1 X2 X6 s0 O (T ++ takeP O left r) ++ Y⟩) := by
  intro r
  induction r with
  | nil =>
    intro pre T left hp hT hTl hd hn hlf
    have hp' : E = pre := by simpa using hp
    subst hp'
    refine ⟨4, [], .inr rfl, ?_⟩
    have e : takeP O left [] = [] := by cases left <;> rfl
    rw [r38_l1, e]
    simp [c38_l1b]
  | cons x r ih =>
    intro pre T left hp hT hTl hd hn hlf
    have gx : E[pre.length]? = some x := by rw [hp]; simp
    have hpl : pre.length < E.length := (List.getElem?_eq_some_iff.1 gx).1
    obtain ⟨_, gx'⟩ := List.getElem?_eq_some_iff.1 gx
    have hw : IntKind.i64.wrap (↑pre.length + 1) = ↑pre.length + 1 := wrap64 (by omega) (by omega)
    have hlt : (pre.length : Int) < E.length := by omega
    have hn2 := List.nodup_cons.1 hn
    cases left with
    | zero =>
      refine ⟨3, [stB x], .inl rfl, ?_⟩
      have e : takeP O 0 (x :: r) = [] := rfl
      rw [r38_l1, e]
      simp [c38_l1b, h11, stB, hlt, hpl, gx, gx', entC]
    | succ left =>
      have hxT : x ∉ T := hd x (by simp)
      have hTn : T.length ≠ 0 := fun e => hT (List.eq_nil_of_length_eq_zero e)
      have e62 := fun H a b c => S62 (P := P) x 160 (.slice 10 T.length 0 T.length (some 2) none) (O ++ T) T.length H a b c
      have e62 := e62 (h11 X0 X1 X2 X6 s0 O T ++ [stB x]) rfl rfl rfl
      have hl160 : (T.length : Int) < 160 := by omega
      have hl161 : ¬ (160 : Int) ≤ T.length := by omega
      have hmem : x ∈ O ++ T ↔ O.any (Str.is x) = true := by
        rw [List.any_eq_true]
        constructor
        · intro h
          rcases List.mem_append.1 h with h | h
          · exact ⟨x, h, by simp [Str.is]⟩
          · exact absurd h hxT
        · rintro ⟨y, hy, h⟩
          rw [Str.is_eq] at h
          simp at h
          subst h
          exact List.mem_append.2 (.inl hy)
      have h1 : ¬ (left : Int) + 1 = 0 := by omega
      simp only [underB_cons, Bool.and_eq_true, underB_nil, and_true] at hu
      obtain ⟨u0, u1, u2, u6⟩ := hu
      unfold LB.under at u0 u1 u2 u6
      have hg : findK (.one 1) (.str [65]) (natK T.length) = some (some 0) := by rw [find_nat]; simp [hTn]
      have hfA : findK (.one 1) (.str [65]) [.str [65]] = some (some 0) := by simp [findK, eqK_str]
      have hk := keyOk_str x
      have hkA : keyOk (.one 1) (CV.str [65]) = true := rfl
      have hwT : IntKind.i64.wrap ((T.length : Int) + 1) = (T.length : Int) + 1 := wrap64 (by omega) (by omega)
      have hwl : IntKind.i64.wrap (left : Int) = (left : Int) := wrap64 (by omega) (by omega)
      have hpu := underL_cellsOf 11 (T.map plcC)
      have hsu := fun (ks : List Str) => setV_under 11 ks
      cases hO : O.any (Str.is x)
      · have hxm : x ∉ O ++ T := fun h => by rw [hmem.1 h] at hO; cases hO
        obtain ⟨id, Y, hid, ih⟩ := ih (pre ++ [x]) (T ++ [x]) left (by simp [hp]) (by simp) (by simp; omega) (fun y hy h => by
          rcases List.mem_append.1 h with h | h
          · exact hd y (by simp [hy]) h
          · simp at h; subst h; exact hn2.1 hy) hn2.2 (by omega)
        refine ⟨id, Y, hid, ?_⟩
        have eT : takeP O (left + 1) (x :: r) = x :: takeP O left r := by rw [takeP, hO]; rfl
        have ef := findK_no x hxm
        have hsv := setV_snoc (O ++ T) x
        have hap := fun h (hh : h[10]? = some (LB.cells T.length (cellsOf (T.map plcC)) 0)) => append_ownP (some 14) (b := 10) (g := T.length) (bytes := 24) (e := some 2) (ys := T.map plcC) (xs := [plcC x]) (h := h) (len := T.length) (fz := 0) hh (plcElems _) (by intro y hy; simp at hy; subst hy; exact ⟨_, rfl, rfl, by simp [CV.flat]⟩) (by simp) (Nat.zero_le _) (by simp) (by simp; omega) (by simp; omega)
        rw [eT]
        simp [hxm] at e62
        simp [h11, natK, natV, hTn] at ih e62 ⊢
        generalize takeP O left r = Z at *
        simp [stB, entC, plcC] at e62 ih
        simp [plcC] at hap
        simp at ef hsv
        have hu2 := hsu (O ++ (T ++ [x]))
        have hpu2 := underL_cellsOf 11 ((T ++ [x]).map plcC)
        simp [plcC] at hpu2
        rw [r38_l1]
        simp [c38_l1b, stB, hlt, hpl, gx, gx', entC, h1, frzFuncs_ptr, frzFuncs_c, frzFuncs_nil, e62, hwl, hwT, hk, hkA, ef, hsv, hap, hl161, hw, u0, u1, u2, u6, hu2, hpu2, ih, plcC, hfA, hT]
      · have hxm : x ∈ O ++ T := hmem.2 hO
        obtain ⟨id, Y, hid, ih⟩ := ih (pre ++ [x]) T (left + 1) (by simp [hp]) hT (by simp; omega) (fun y hy => hd y (by simp [hy])) hn2.2 (by omega)
        refine ⟨id, Y, hid, ?_⟩
        have eT : takeP O (left + 1) (x :: r) = takeP O (left + 1) r := by rw [takeP, hO]; rfl
        have hu2 := hsu (O ++ T)
        rw [eT]
        simp only [hxm] at e62
        simp [h11, natK, natV, hTn] at ih e62 ⊢
        generalize takeP O (left + 1) r = Z at *
        simp [stB, entC] at e62 ih
        rw [r38_l1]
        simp [c38_l1b, stB, hlt, hpl, gx, gx', entC, h1, frzFuncs_ptr, frzFuncs_c, frzFuncs_nil, e62, hw, u0, u1, u2, u6, hu2, hpu, ih]
theorem L38_1n (X0 X1 X2 X6 : LB) (hu : underB 11 [X0, X1, X2, X6] = true) (hv : underB 7 [X0, X1, X2, X6] = true) (Lc : CV) (O E : List Str) (hE : E.length < 150) : ∀ (r pre : List Str) (left : Nat), E = pre ++ r → r.Nodup → left < 1000 →
    ∃ id s0 Y, (id = 3 ∨ id = 4) ∧ execS P (limS P) c38_l1 ⟨[.ptr 5 0 0, .c (ci 0), .c (ci left), .c Lc, .c (ci 1), .c (ci 0), .c (.slice (E.map entC)), .c (ci E.length), .c (ci pre.length)], h7 X0 X1 X2 X6 O⟩ =
      some (.exit id, ⟨[.ptr 5 0 0, .c Lc, .c (ci 1), .c (ci 0)], if takeP O left r = [] then h7 X0 X1 X2 X6 O ++ Y else h11 X0 X1 X2 X6 s0 O (takeP O left r) ++ Y⟩) := by
  intro r
  induction r with
  | nil =>
    intro pre left hp hn hlf
    have hp' : E = pre := by simpa using hp
    subst hp'
    refine ⟨4, [], [], .inr rfl, ?_⟩
    have e : takeP O left [] = [] := by cases left <;> rfl
    rw [r38_l1, e]
    simp [c38_l1b]
  | cons x r ih =>
    intro pre left hp hn hlf
    have gx : E[pre.length]? = some x := by rw [hp]; simp
    have hpl : pre.length < E.length := (List.getElem?_eq_some_iff.1 gx).1
    obtain ⟨_, gx'⟩ := List.getElem?_eq_some_iff.1 gx
    have hw : IntKind.i64.wrap (↑pre.length + 1) = ↑pre.length + 1 := wrap64 (by omega) (by omega)
    have hlt : (pre.length : Int) < E.length := by omega
    have hn2 := List.nodup_cons.1 hn
    cases left with
    | zero =>
      refine ⟨3, [], [stB x], .inl rfl, ?_⟩
      have e : takeP O 0 (x :: r) = [] := rfl
      rw [r38_l1, e]
      simp [c38_l1b, h7, stB, hlt, hpl, gx, gx', entC]
    | succ left =>
      have e62 := S62 (P := P) x 160 .nil O 0 (h7 X0 X1 X2 X6 O ++ [stB x]) rfl rfl rfl
      have hmem : x ∈ O ↔ O.any (Str.is x) = true := by
        rw [List.any_eq_true]
        constructor
        · intro h
          exact ⟨x, h, by simp [Str.is]⟩
        · rintro ⟨y, hy, h⟩
          rw [Str.is_eq] at h
          simp at h
          subst h
          exact hy
      have h1 : ¬ (left : Int) + 1 = 0 := by omega
      simp only [underB_cons, Bool.and_eq_true, underB_nil, and_true] at hv
      obtain ⟨u0, u1, u2, u6⟩ := hv
      unfold LB.under at u0 u1 u2 u6
      have hfA : findK (.one 1) (.str [65]) [] = some none := rfl
      have hk := keyOk_str x
      have hkA : keyOk (.one 1) (CV.str [65]) = true := rfl
      have hwl : IntKind.i64.wrap (left : Int) = (left : Int) := wrap64 (by omega) (by omega)
      have hsu := fun (ks : List Str) => setV_under 7 ks
      cases hO : O.any (Str.is x)
      · have hxm : x ∉ O := fun h => by rw [hmem.1 h] at hO; cases hO
        obtain ⟨id, Y, hid, ih⟩ := L38_1t (P := P) X0 X1 X2 X6 hu Lc O E hE x r (pre ++ [x]) [x] left (by simp [hp]) (by simp) (by simp) (fun y hy h => by simp at h; subst h; exact hn2.1 hy) hn2.2 (by omega)
        refine ⟨id, x, Y, hid, ?_⟩
        have eT : takeP O (left + 1) (x :: r) = x :: takeP O left r := by rw [takeP, hO]; rfl
        have ef := findK_no x hxm
        have hsv := setV_snoc O x
        rw [eT]
        simp [hxm] at e62
        generalize takeP O left r = Z at *
        have w1 : IntKind.i64.wrap 1 = 1 := rfl
        have hap : ∀ A0 A1 A2 A3 A4 A5 A6 A7 A8 A9 : LB, appendOp (some 10) (some 2) 24 .nil (.c (.slice [.agg [.str x, ci 0]])) [A0, A1, A2, A3, A4, A5, A6, A7, A8, A9, .dead] = some (.slice 10 1 0 1 (some 2) none, [A0, A1, A2, A3, A4, A5, A6, A7, A8, A9, .cells 1 [.c (.str x), .c (ci 0)] 0]) := fun _ _ _ _ _ _ _ _ _ _ => rfl
        have hcz : ∀ zs : List CV, cellsOf (.agg [.str x, ci 0] :: zs) = .c (.str x) :: .c (ci 0) :: cellsOf zs := fun _ => rfl
        have hc0 : cellsOf [] = [] := rfl
        simp [h11, natK, natV, plcC, stB, entC, hcz, hc0] at ih
        simp [h7, h11, natK, natV, stB, entC, plcC, hcz] at e62 ⊢
        rw [r38_l1]
        simp [c38_l1b, stB, hlt, hpl, gx, gx', entC, h1, frzFuncs_ptr, frzFuncs_c, frzFuncs_nil, e62, hwl, hk, hkA, ef, hsv, hfA, w1, hw, hap, ih]
      · have hxm : x ∈ O := hmem.2 hO
        obtain ⟨id, s0, Y, hid, ih⟩ := ih (pre ++ [x]) (left + 1) (by simp [hp]) hn2.2 (by omega)
        refine ⟨id, s0, Y, hid, ?_⟩
        have eT : takeP O (left + 1) (x :: r) = takeP O (left + 1) r := by rw [takeP, hO]; rfl
        have hu2 := hsu O
        rw [eT]
        simp only [hxm] at e62
        generalize takeP O (left + 1) r = Z at *
        simp [h7, natK, natV, stB, entC] at ih e62 ⊢
        rw [r38_l1]
        simp [c38_l1b, stB, hlt, hpl, gx, gx', entC, h1, frzFuncs_ptr, frzFuncs_c, frzFuncs_nil, e62, hw, u0, u1, u2, u6, hu2, ih]
end LM.GK
namespace LM.GK
open Go LM
variable {P : Nat → Option SFunc} [Has P]
theorem S38 (q : Nat) (E O : List Str) (Z : Nat) (h1 : q ≤ 160) (hE : E.length < 150) (hd : E.Nodup) (hO : O.length ≤ 256) (hd2 : O.Nodup) :
    ∃ H, sfn P 38 [.c (quotaC q E), .c (.slice (O.map CV.str))] [.cells 0 [.c (.slice [listC q E]), .c (ci 160)] Z, .cells 1 [] 0] = some (.ptr 5 0 0, H) ∧
      ((takeP O q E = [] ∧ ∃ a b c, H[5]? = some (.cells 0 [a, b, c, .nil] 0)) ∨ (∃ a b c, H[5]? = some (.cells 0 [a, b, c, .slice 10 (takeP O q E).length 0 (takeP O q E).length (some 2) none] 0)) ∧ H[10]? = some (.cells (takeP O q E).length (cellsOf ((takeP O q E).map plcC)) 0)) := by
  have hL0 := L38_0 (P := P) (.cells 0 [.c (.slice [listC q E]), .c (ci 160)] Z) (.cells 1 [] 0) (.cells 0 [.c (.slice [listC q E]), .c (ci 160)] 0) (.map [] [] false) (.cells 0 [.c (ci 160), .map 3, .map 4, .nil] 0) (by simp) (ci 160) rfl O (by omega) hd2 O [] rfl
  have hL : ∀ s, execS P (limS P) c38_l2 s = seqK (execS P (limS P) c38_l2b s) fun s' => execS P (limS P) c38_l2 (gc s.heap.length s') := r38_l2
  have hv0 : setV ([] : List Str) = [] := rfl
  have w1 : IntKind.i64.wrap 1 = 1 := rfl
  simp [hv0] at hL0
  obtain ⟨id, s0, Y, hid, h2⟩ := L38_1n (P := P) (.cells 0 [.c (.slice [listC q E]), .c (ci 160)] Z) (.cells 1 [] 0) (.cells 0 [.c (.slice [listC q E]), .c (ci 160)] 0) (.cells 0 [.c (.str rndS), .c (ci q), .c (.slice (E.map entC))] 0) (by simp) (by simp) (.slice [listC q E]) O E hE E [] q rfl hd (by omega)
  have hsu := setV_under 6 O
  rw [u38]
  by_cases hT : takeP O q E = []
  · rw [if_pos hT] at h2
    simp [h7, listC] at h2
    refine ⟨[.cells 0 [.c (.slice [listC q E]), .c (ci 160)] Z, .cells 1 [] 0, .cells 0 [.c (.slice [listC q E]), .c (ci 160)] 0, .map (O.map CV.str) (setV O) false, .map [] [] false, .cells 0 [.c (ci 160), .map 3, .map 4, .nil] 0], ?_, .inl ⟨hT, _, _, _, rfl⟩⟩
    simp [listC] at hL0
    simp [c38, quotaC, listC, hL0]
    rw [hL]
    rcases hid with rfl | rfl
    · simp [c38_l2b, listC, h2, w1, hsu]
      rw [hL]
      simp [c38_l2b]
    · simp [c38_l2b, listC, h2, w1, hsu]
      rw [hL]
      simp [c38_l2b]
  · rw [if_neg hT] at h2
    generalize takeP O q E = T at *
    simp [h7, h11, listC, stB] at h2
    refine ⟨h11 (.cells 0 [.c (.slice [listC q E]), .c (ci 160)] Z) (.cells 1 [] 0) (.cells 0 [.c (.slice [listC q E]), .c (ci 160)] 0) (.cells 0 [.c (.str rndS), .c (ci q), .c (.slice (E.map entC))] 0) s0 O T ++ Y, ?_, .inr ⟨⟨_, _, _, rfl⟩, rfl⟩⟩
    simp [listC] at hL0
    simp [c38, quotaC, listC, hL0, h11, stB]
    rw [hL]
    rcases hid with rfl | rfl
    · simp [c38_l2b, listC, h2, w1, hsu]
      rw [hL]
      simp [c38_l2b]
    · simp [c38_l2b, listC, h2, w1, hsu]
      rw [hL]
      simp [c38_l2b]
theorem S14 (q : Nat) (E O : List Str) (h1 : q ≤ 160) (hE : E.length < 150) (hn : ∀ s ∈ E, isName s = true) (hd : E.Nodup) (hO : O.length ≤ 256) (hn2 : ∀ s ∈ O, isName s = true) (hd2 : O.Nodup) : fn P 14 [quotaC q E, .slice (O.map CV.str)] = some (.tuple [.slice ((takeP O q E).map plcC), ci 0]) := by
  have e37 := S37 (P := P) q E O (by omega) (by omega) (by omega) hn hd hO hn2 hd2
  obtain ⟨H, e38, hH⟩ := S38 (P := P) q E O 0 h1 hE hd hO hd2
  rw [u14]
  simp only [quotaC] at e37 e38 ⊢
  rcases hH with ⟨hT, a, b, c, h5⟩ | ⟨⟨a, b, c, h5⟩, h10⟩
  · rw [hT]
    obtain ⟨l5, g5⟩ := List.getElem?_eq_some_iff.1 h5
    simp [c14, e37, e38, frzFuncs_c, frzFuncs_nil, h5, l5, g5, resV, mkTuple]
  · generalize takeP O q E = T at *
    obtain ⟨l5, g5⟩ := List.getElem?_eq_some_iff.1 h5
    have hr := resV_own (b := 10) (g := T.length) (fz := 0) (e := some 2) (ys := T.map plcC) (h := H) (len := T.length) h10 (plcElems _) (by simp) none (ci 0)
    simp [mkTuple] at hr
    simp [c14, e37, e38, frzFuncs_c, frzFuncs_nil, h5, l5, g5, hr, mkTuple]
end LM.GK
namespace LM.GK
open Go LM
variable {P : Nat → Option SFunc} [Has P] [HasP P]
def karR (l : List Rs) (n : Int) : Bool := shortRs l n && decide ((l.length : Int) ≤ n) && decide (resultsE l = 0)
theorem S5 (l : List Rs) (n : Int) (hn : n ≤ 160) (hk : ∀ x ∈ l, x.ok) (hl : (l.length : Int) < 9223372036854775807) : fn P 5 [.slice (l.map Rs.enc), ci n] = some (.bool (karR l n)) := by
  have e15 := S15 (P := P) l n hl
  have e16 := S16 (P := P) l hk hl
  rw [u5]
  unfold karR
  cases h1 : shortRs l n
  · rw [h1] at e15
    simp [c5, e15]
  rw [h1] at e15
  by_cases h2 : (l.length : Int) ≤ n
  · by_cases h3 : resultsE l = 0
    · have e17 := S17 (P := P) l (results_rg h3) hk (by omega)
      rw [h3] at e16
      simp [c5, e15, h2, e16, e17, h3]
    · simp [c5, e15, h2, e16, h3]
  · simp [c5, e15, h2]
end LM.GK
namespace LM.GK
open Go LM
variable {P : Nat → Option SFunc} [Has P] [HasP P]
def tieIn (l pre : List Rs) (x : Rs) : Bool := pre.any (fun y => isS x && decide (rankT l x = rankT l y))
def tieL (l : List Rs) : List Rs → List Rs → Bool
  | _, [] => false
  | pre, x :: r => tieIn l pre x || tieL l (pre ++ [x]) r
theorem tieL_pair (l : List Rs) : ∀ r pre, tieL l pre r = false → (∀ x ∈ pre, ∀ y ∈ r, isS y = true → rankT l y ≠ rankT l x) ∧ r.Pairwise (fun x y => isS y = true → rankT l y ≠ rankT l x)
  | [], pre, _ => ⟨by simp, List.Pairwise.nil⟩
  | z :: r, pre, h => by
    rw [tieL, Bool.or_eq_false_iff] at h
    obtain ⟨h1, h2⟩ := h
    obtain ⟨i1, i2⟩ := tieL_pair l r (pre ++ [z]) h2
    unfold tieIn at h1
    rw [List.any_eq_false] at h1
    refine ⟨?_, ?_⟩
    · intro x hx y hy sy
      rcases List.mem_cons.1 hy with rfl | hy
      · have := h1 x hx
        simpa [sy] using this
      · exact i1 x (by simp [hx]) y hy sy
    · exact List.Pairwise.cons (fun y hy sy => i1 z (by simp) y hy sy) i2
theorem pair_or {α : Type} {R : α → α → Prop} : ∀ {l : List α}, l.Pairwise R → ∀ {x y : α}, x ∈ l → y ∈ l → x = y ∨ R x y ∨ R y x
  | [], _, x, y, hx, _ => by cases hx
  | a :: l, h, x, y, hx, hy => by
    obtain ⟨h1, h2⟩ := List.pairwise_cons.1 h
    rcases List.mem_cons.1 hx with rfl | kx
    · rcases List.mem_cons.1 hy with rfl | ky
      · exact .inl rfl
      · exact .inr (.inl (h1 y ky))
    · rcases List.mem_cons.1 hy with rfl | ky
      · exact .inr (.inr (h1 x kx))
      · exact pair_or h2 kx ky
theorem noTie {l : List Rs} (h : tieL l [] l = false) : NoTie l := by
  intro x hx y hy sx sy e
  rcases pair_or (tieL_pair l l [] h).2 hx hy with q | q | q
  · exact q
  · exact absurd e.symm (q sy)
  · exact absurd e (q sx)
theorem L4_0 (h7 : fn P 7 [] = some (.bool true)) (q O A : CV) (l : List Rs) (hl : l.length < 1000) (x : Rs) (p : List Rs) (gx : l[p.length]? = some x) : ∀ (r pre : List Rs), p = pre ++ r → (∀ (k : Nat) y, p[k]? = some y → l[k]? = some y) →
    execS P (limS P) c4_l0 ⟨[.c (.slice (l.map Rs.enc)), .c q, .c O, .c (.slice ((ranksL l).map ci)), .c A, .c (ci p.length), .c (ci l.length), .c (ci p.length), .c (ci p.length), .c (ci pre.length)], []⟩ =
      if tieIn l r x then some (.ret, ⟨[.c (.bool true)], []⟩) else some (.exit 2, ⟨[.c (.slice (l.map Rs.enc)), .c q, .c O, .c (.slice ((ranksL l).map ci)), .c A, .c (ci l.length), .c (ci p.length)], []⟩) := by
  intro r
  induction r with
  | nil =>
    intro pre hp hpl
    have hp' : p = pre := by simpa using hp
    subst hp'
    rw [r4_l0]
    simp [c4_l0b, tieIn]
  | cons y r ih =>
    intro pre hp hpl
    have ih := ih (pre ++ [y]) (by simp [hp]) hpl
    have gy := hpl pre.length y (by rw [hp]; simp)
    have hlp : p.length < l.length := (List.getElem?_eq_some_iff.1 gx).1
    have hly : pre.length < l.length := (List.getElem?_eq_some_iff.1 gy).1
    have hpp : pre.length < p.length := by rw [hp]; simp
    have rx : (ranksL l)[p.length]? = some (rankT l x) := by unfold ranksL; rw [List.getElem?_map, gx]; rfl
    have ry : (ranksL l)[pre.length]? = some (rankT l y) := by unfold ranksL; rw [List.getElem?_map, gy]; rfl
    obtain ⟨_, gx'⟩ := List.getElem?_eq_some_iff.1 gx
    obtain ⟨hrx, rx'⟩ := List.getElem?_eq_some_iff.1 rx
    obtain ⟨hry, ry'⟩ := List.getElem?_eq_some_iff.1 ry
    have hw : IntKind.i64.wrap ((pre.length : Int) + 1) = (pre.length : Int) + 1 := wrap64 (by omega) (by omega)
    have hlt : (pre.length : Int) < p.length := by omega
    have a1 : (p.length : Int) < l.length := by omega
    have a2 : (p.length : Int) < (ranksL l).length := by omega
    have a3 : (pre.length : Int) < (ranksL l).length := by omega
    have ht : tieIn l (y :: r) x = ((isS x && decide (rankT l x = rankT l y)) || tieIn l r x) := by simp [tieIn, -List.any_eq_true]
    have hS : isS x = decide (x.state = []) := rfl
    rw [ht, r4_l0]
    generalize tieIn l r x = T at *
    generalize rankT l x = kx at *
    generalize rankT l y = ky at *
    generalize ranksL l = R at *
    simp at ih
    by_cases hs : x.state = []
    · by_cases hk : kx = ky
      · subst hk
        simp [c4_l0b, hlt, a1, a2, a3, hlp, hrx, hry, gx, gx', rx, rx', ry, ry', Rs.enc, hs, hS, h7, hw]
      · simp [c4_l0b, hlt, a1, a2, a3, hlp, hrx, hry, gx, gx', rx, rx', ry, ry', Rs.enc, hs, hS, hk, hw, ih]
    · simp [c4_l0b, hlt, a1, a2, a3, hlp, hrx, hry, gx, gx', rx, rx', ry, ry', Rs.enc, hs, hS, hw, ih]
theorem L4_1 (h7 : fn P 7 [] = some (.bool true)) (q : CV) (O A : CV) (l : List Rs) (hl : l.length < 1000) : ∀ (r pre : List Rs), l = pre ++ r →
    execS P (limS P) c4_l1 ⟨[.c (.slice (l.map Rs.enc)), .c q, .c O, .c (.slice ((ranksL l).map ci)), .c A, .c (ci l.length), .c (ci pre.length)], []⟩ =
      if tieL l pre r then some (.ret, ⟨[.c (.bool true)], []⟩) else some (.exit 0, ⟨[.c (.slice (l.map Rs.enc)), .c q, .c O, .c A], []⟩) := by
  intro r
  induction r with
  | nil =>
    intro pre hp
    have hp' : l = pre := by simpa using hp
    subst hp'
    rw [r4_l1]
    simp [c4_l1b, tieL]
  | cons x r ih =>
    intro pre hp
    have ih := ih (pre ++ [x]) (by simp [hp])
    have gx : l[pre.length]? = some x := by rw [hp]; simp
    have hpl : pre.length < l.length := (List.getElem?_eq_some_iff.1 gx).1
    have hw : IntKind.i64.wrap ((pre.length : Int) + 1) = (pre.length : Int) + 1 := wrap64 (by omega) (by omega)
    have hlt : (pre.length : Int) < l.length := by omega
    rw [r4_l1, tieL]
    have h0 := L4_0 (P := P) h7 q O A l hl x pre gx pre [] rfl (fun k y h => by rw [hp, List.getElem?_append_left (List.getElem?_eq_some_iff.1 h).1]; exact h)
    simp at h0 ih
    cases ht : tieIn l pre x
    · rw [ht] at h0
      simp at h0
      simp [c4_l1b, hlt, h0, hw, ih]
    · rw [ht] at h0
      simp at h0
      simp [c4_l1b, hlt, h0]
theorem entElems (T : List Str) : ∀ x ∈ T.map entC, Elem (some 2) x := by
  intro x hx
  obtain ⟨y, _, rfl⟩ := List.mem_map.1 hx
  exact ⟨_, rfl, rfl, by simp [CV.flat]⟩
def qHeap (q : CV) (E : List Str) : Heap := if E = [] then [.cells 1 [.c (.str rndS), .c q, .nil] 0, .cells 0 [.slice 0 1 0 1 (some 3) (some 1), .c (ci 160)] 0] else [.cells 1 [.c (.str rndS), .c q, .slice 3 E.length 0 E.length (some 2) none] 0, .cells 0 [.slice 0 1 0 1 (some 3) (some 1), .c (ci 160)] 0, .dead, .cells E.length (cellsOf (E.map entC)) 0]
theorem L4_2 (L q O : CV) (A : List Str) (hA : A.length < 150) : ∀ (r pre : List Str), A = pre ++ r →
    execS P (limS P) c4_l2 ⟨[.c L, .c q, .c O, .ptr 1 0 0, .c (.slice (A.map CV.str)), .c (ci A.length), .c (ci pre.length)], qHeap q pre⟩ = some (.exit 4, ⟨[.c L, .c q, .c O, .ptr 1 0 0], qHeap q A⟩) := by
  intro r
  induction r with
  | nil =>
    intro pre hp
    have hp' : A = pre := by simpa using hp
    subst hp'
    rw [r4_l2]
    simp [c4_l2b]
  | cons x r ih =>
    intro pre hp
    have ih := ih (pre ++ [x]) (by simp [hp])
    have gx : A[pre.length]? = some x := by rw [hp]; simp
    have hpl : pre.length < A.length := (List.getElem?_eq_some_iff.1 gx).1
    obtain ⟨_, gx'⟩ := List.getElem?_eq_some_iff.1 gx
    have hw : IntKind.i64.wrap ((pre.length : Int) + 1) = (pre.length : Int) + 1 := wrap64 (by omega) (by omega)
    have hlt : (pre.length : Int) < A.length := by omega
    have hc0 : cellsOf [] = [] := rfl
    have hcz : ∀ zs : List CV, cellsOf (.agg [.str x, .str [65]] :: zs) = .c (.str x) :: .c (.str [65]) :: cellsOf zs := fun _ => rfl
    by_cases h0 : pre = []
    · subst h0
      have hap : ∀ A0 A1 A2 : LB, appendOp (some 3) (some 2) 32 .nil (.c (.slice [.agg [.str x, .str [65]]])) [A0, A1, A2, .dead] = some (.slice 3 1 0 1 (some 2) none, [A0, A1, A2, .cells 1 [.c (.str x), .c (.str [65])] 0]) := fun _ _ _ => rfl
      have w1 : IntKind.i64.wrap 1 = 1 := rfl
      have gx0 : A[0]? = some x := gx
      have hl0 : 0 < A.length := hpl
      obtain ⟨_, gx1⟩ := List.getElem?_eq_some_iff.1 gx0
      simp [qHeap, entC, hcz, hc0] at ih
      rw [r4_l2]
      simp [c4_l2b, qHeap, hl0, gx0, gx1, hap, w1, ih]
    · have hne : ¬ pre ++ [x] = [] := by simp
      have hn : pre.length ≠ 0 := fun e => h0 (List.eq_nil_of_length_eq_zero e)
      have hap := fun h (hh : h[3]? = some (LB.cells pre.length (cellsOf (pre.map entC)) 0)) => append_ownP (some 5) (b := 3) (g := pre.length) (bytes := 32) (e := some 2) (ys := pre.map entC) (xs := [entC x]) (h := h) (len := pre.length) (fz := 0) hh (entElems _) (by intro y hy; simp at hy; subst hy; exact ⟨_, rfl, rfl, by simp [CV.flat]⟩) (by simp) (Nat.zero_le _) (by simp) (by simp; omega) (by simp; omega)
      have hu := underL_cellsOf 4 ((pre ++ [x]).map entC)
      unfold qHeap at ih ⊢
      rw [if_neg hne] at ih
      rw [if_neg h0]
      simp [entC] at hap ih hu
      rw [r4_l2]
      simp [c4_l2b, hlt, hpl, gx, gx', hap, hw, hu, ih, h0]
theorem frz_own38 {b g fz : Nat} {e : Option Nat} {ys : List CV} {h : Heap} {len : Nat} (hb : h[b]? = some (.cells g (cellsOf ys) fz)) (hy : ∀ x ∈ ys, Elem e x) (hlen : len = ys.length) (cap : Option Nat) :
    frz 38 (.slice b g 0 len e cap) h = some (.slice ys, bump b (len * szOf e) h) := by
  subst hlen
  have h3 := cellsOf_length hy
  rw [frz_38_slice, hb]
  simp only [Nat.zero_add, List.drop_zero]
  rw [if_pos ⟨trivial, by omega⟩]
  have : (cellsOf ys).take (ys.length * szOf e) = cellsOf ys := by rw [← h3]; exact List.take_length
  rw [this]
  unfold cellsOf
  rw [mapH_map_c 36]
  simp only [bnd_some, chunk_cellsOf hy]
theorem frz_quota (q : CV) (A : List Str) (o : CV) : ∃ h', frzArgs false [.agg [.slice 0 1 0 1 (some 3) (some 1), .c (ci 160)], .c o] [.cells 1 [.c (.str [114, 111, 117, 110, 100]), .c q, .slice 3 A.length 0 A.length (some 2) none] 0, .cells 0 [.slice 0 1 0 1 (some 3) (some 1), .c (ci 160)] 0, .dead, .cells A.length (cellsOf (A.map entC)) 0] =
    some ([.agg [.slice [.agg [.str [114, 111, 117, 110, 100], q, .slice (A.map entC)]], ci 160], o], h') := by
  have h38 := fun X0 X1 X2 => frz_own38 (b := 3) (g := A.length) (fz := 0) (e := some 2) (ys := A.map entC) (h := [X0, X1, X2, .cells A.length (cellsOf (A.map entC)) 0]) (len := A.length) rfl (entElems A) (by simp) none
  have c38 : ∀ (v : CV) (h : Heap), frz 38 (.c v) h = some (v, h) := fun _ _ => rfl
  have c39 : ∀ (v : CV) (h : Heap), frz 39 (.c v) h = some (v, h) := fun _ _ => rfl
  have key : ∀ (x : Option (List CV × Heap)) (a : List CV), x.map Prod.fst = some a → ∃ h', x = some (a, h') := by
    intro x a h
    rcases x with _ | ⟨p, r⟩
    · cases h
    · simp at h; subst h; exact ⟨r, rfl⟩
  apply key
  rw [frzArgs_cons, frz_agg]
  simp only [mapH_cons, frz_39_slice, List.getElem?_cons_zero, Nat.zero_add, List.drop_zero]
  simp [h38, c38, c39, -frz_38_slice]
theorem frz_quota0 (q : CV) (o : CV) : ∃ h', frzArgs false [.agg [.slice 0 1 0 1 (some 3) (some 1), .c (ci 160)], .c o] [.cells 1 [.c (.str [114, 111, 117, 110, 100]), .c q, .nil] 0, .cells 0 [.slice 0 1 0 1 (some 3) (some 1), .c (ci 160)] 0] =
    some ([.agg [.slice [.agg [.str [114, 111, 117, 110, 100], q, .slice []]], ci 160], o], h') := by
  have c38 : ∀ (v : CV) (h : Heap), frz 38 (.c v) h = some (v, h) := fun _ _ => rfl
  have c39 : ∀ (v : CV) (h : Heap), frz 39 (.c v) h = some (v, h) := fun _ _ => rfl
  have key : ∀ (x : Option (List CV × Heap)) (a : List CV), x.map Prod.fst = some a → ∃ h', x = some (a, h') := by
    intro x a h
    rcases x with _ | ⟨p, r⟩
    · cases h
    · simp at h; subst h; exact ⟨r, rfl⟩
  apply key
  rw [frzArgs_cons, frz_agg]
  simp only [mapH_cons, frz_39_slice, List.getElem?_cons_zero, Nat.zero_add, List.drop_zero]
  simp [c38, c39]
theorem L4_3 (A : List Str) (H : Heap) (hA : A.length < 1000) : ∀ (r pre : List Str), A = pre ++ r →
    ∃ H', execS P (limS P) c4_l3 ⟨[.c (.slice (A.map plcC)), .c (.slice (A.map CV.str)), .c (ci A.length), .c (ci pre.length)], H⟩ = some (.exit 6, ⟨[], H'⟩) := by
  intro r
  induction r generalizing H with
  | nil =>
    intro pre hp
    have hp' : A = pre := by simpa using hp
    subst hp'
    refine ⟨H, ?_⟩
    rw [r4_l3]
    simp [c4_l3b]
  | cons x r ih =>
    intro pre hp
    have gx : A[pre.length]? = some x := by rw [hp]; simp
    have hpl : pre.length < A.length := (List.getElem?_eq_some_iff.1 gx).1
    obtain ⟨_, gx'⟩ := List.getElem?_eq_some_iff.1 gx
    have hw : IntKind.i64.wrap ((pre.length : Int) + 1) = (pre.length : Int) + 1 := wrap64 (by omega) (by omega)
    have hlt : (pre.length : Int) < A.length := by omega
    have ht : List.take H.length H = H := List.take_length
    have heq : eqK (.many [1, 0]) (.agg [.str x, ci 0]) (.agg [.str x, ci 0]) = some true := by simp [eqK, keyOk, kindsOk, kindOf, eqCells, eqS]
    obtain ⟨H', ih⟩ := ih H (pre ++ [x]) (by simp [hp])
    simp at ih
    refine ⟨H', ?_⟩
    rw [r4_l3]
    cases hu : underB H.length H
    · simp [c4_l3b, hlt, hpl, gx, gx', plcC, heq, hw, ht, hu, ih]
    · simp [c4_l3b, hlt, hpl, gx, gx', plcC, heq, hw, ht, hu, ih]
theorem outs_zero (l : List Rs) : ∀ (r pre : List Str), eachE (outE l) pre r = 0 → (∀ s ∈ r, l.any (isW s) = true) ∧ (∀ s ∈ r, s ∉ pre) ∧ r.Nodup
  | [], pre, _ => ⟨by simp, by simp, List.Pairwise.nil⟩
  | s :: r, pre, h => by
    rw [eachE] at h
    split at h
    · rename_i q; exact absurd h q
    · rename_i q
      have q : outE l pre s = 0 := by simpa using q
      obtain ⟨i1, i2, i3⟩ := outs_zero l r (pre ++ [s]) h
      unfold outE at q
      simp only [firstE_zC, whenE_zC (show (10 : Int) ≠ 0 by decide), whenE_zC (show (9 : Int) ≠ 0 by decide)] at q
      obtain ⟨q1, q2, _⟩ := q
      rw [Bool.not_eq_false'] at q1
      have hs : s ∉ pre := by
        intro hm
        rw [List.any_eq_false] at q2
        have := q2 s hm
        simp [Str.is] at this
      refine ⟨?_, ?_, ?_⟩
      · intro t ht
        rcases List.mem_cons.1 ht with rfl | ht
        · exact q1
        · exact i1 t ht
      · intro t ht
        rcases List.mem_cons.1 ht with rfl | ht
        · exact hs
        · exact fun hm => i2 t ht (by simp [hm])
      · exact List.Pairwise.cons (fun t ht e => i2 t ht (by simp [e])) i3
theorem through_names {l : List Rs} (hg : RG l) (q : Int) : (∀ s ∈ throughL l q, isName s = true) ∧ (throughL l q).Nodup := by
  have hp := sortI_perm (lt := fun x y => decide (rankT l x < rankT l y)) [] l
  simp only [List.nil_append] at hp
  unfold throughL
  refine ⟨?_, ?_⟩
  · intro s hs
    obtain ⟨x, hx, rfl⟩ := List.mem_map.1 hs
    exact (hg.one x (hp.mem_iff.1 (List.mem_filter.1 hx).1)).1
  · have h1 := ((hg.perm hp.symm).uniq).sublist (List.filter_sublist (p := fun x => isS x && decide (rankT l x ≤ q)))
    exact List.pairwise_map.2 h1
theorem S4 (h7 : fn P 7 [] = some (.bool true)) (l : List Rs) (q : Int) (out : List Str) (hk : ∀ x ∈ l, x.ok) (hl : (l.length : Int) < 9223372036854775807) (ho : (out.length : Int) < 9223372036854775807) : fn P 4 [.slice (l.map Rs.enc), ci q, .slice (out.map CV.str)] = some (.bool true) := by
  have e5 := S5 (P := P) l 10 (by decide) hk hl
  rw [u4]
  cases g : karR l 10
  · rw [g] at e5
    simp [c4, h7, e5]
  rw [g] at e5
  by_cases q1 : q < 0
  · simp [c4, h7, e5, q1]
  by_cases q2 : 20 < q
  · simp [c4, h7, e5, q1, q2]
  by_cases hm : (10 : Int) < (out.length : Int)
  · simp [c4, h7, e5, q1, q2, hm]
  have e6 := S6 (P := P) l out hl ho
  by_cases ho0 : outsE l out = 0
  case neg => simp [c4, h7, e5, q1, q2, hm, e6, ho0]
  rw [ho0] at e6
  unfold karR at g
  simp only [Bool.and_eq_true, decide_eq_true_eq] at g
  obtain ⟨⟨_, g2⟩, g3⟩ := g
  have hg := results_rg g3
  have hq : outside q 0 160 = false := by unfold outside; simp; omega
  have e10 := S10 (P := P) l q out hk hl ho (fun _ => by omega)
  have e9 := S9 (P := P) l l.length hg hk (by omega) (by omega) (by omega)
  have e13 := S13 (P := P) l hg hk (by omega)
  have hr0 : replE l q out = 0 := repl_zero g3 hq (by omega) (by
    unfold outsE at ho0
    rw [if_neg (by omega)] at ho0
    exact ho0)
  rw [if_pos hr0] at e10
  have hrl := ranksL_length l
  have w0 : IntKind.i64.wrap 0 = 0 := rfl
  have hL1 := L4_1 (P := P) h7 (ci q) (.slice (out.map CV.str)) (.slice ((throughL l l.length).map CV.str)) l (by omega) l [] rfl
  simp at hL1
  cases ht : tieL l [] l
  case true =>
    rw [ht] at hL1
    simp at hL1
    simp [c4, h7, e5, q1, q2, hm, e6, e13, e9, w0, hrl, hL1]
  rw [ht] at hL1
  simp at hL1
  have hth := through_fwd (fun y hy => (hg.one y hy).2.1) l.length
  have hfl := fwdL_len l l.length
  rw [← hth] at hfl
  have hL2 := fun A hA => L4_2 (P := P) (.slice (l.map Rs.enc)) (ci q) (.slice (out.map CV.str)) A hA A [] rfl
  have hq0 : qHeap (ci q) [] = [.cells 1 [.c (.str [114, 111, 117, 110, 100]), .c (ci q), .nil] 0, .cells 0 [.slice 0 1 0 1 (some 3) (some 1), .c (ci 160)] 0] := rfl
  have hL2 := hL2 (throughL l l.length) (by omega)
  obtain ⟨hA, hA2⟩ := through_names hg l.length
  obtain ⟨o1, _, hO2⟩ := outs_zero l out [] (by
    unfold outsE at ho0
    rw [if_neg (by omega)] at ho0
    exact ho0)
  have hO : ∀ s ∈ out, isName s = true := by
    intro s hs
    obtain ⟨x, hx, hxs⟩ := List.any_eq_true.1 (o1 s hs)
    have : x.who = s := by simpa [isW] using hxs
    rw [← this]
    exact (hg.one x hx).1
  have hqn : ((q.toNat : Nat) : Int) = q := by omega
  have e14 := S14 (P := P) q.toNat (throughL l l.length) out (by omega) (by omega) hA hA2 (by omega) hO hO2
  rw [hqn, quota_take hg (noTie ht), hqn] at e14
  rw [hq0] at hL2
  have hcl : (fwdL (restL l out) q).length < 1000 := by
    have a1 := fwdL_len (restL l out) q
    have a2 := restL_len l out
    omega
  generalize throughL l l.length = A at *
  by_cases hAe : A = []
  · subst hAe
    simp [hq0] at hL2 hL1
    obtain ⟨h', hfz⟩ := frz_quota0 (ci q) (.slice (out.map CV.str))
    obtain ⟨H3, h3⟩ := L4_3 (P := P) (fwdL (restL l out) q) h' hcl (fwdL (restL l out) q) [] rfl
    simp only [quotaC, listC, rndS] at e14
    simp at h3 e14
    simp [c4, hfz, e14, e10, h7, e5, q1, q2, hm, e6, e13, e9, w0, hrl, hL1, hL2, h3]
  · simp at hL2
    obtain ⟨h', hfz⟩ := frz_quota (ci q) A (.slice (out.map CV.str))
    obtain ⟨H3, h3⟩ := L4_3 (P := P) (fwdL (restL l out) q) h' hcl (fwdL (restL l out) q) [] rfl
    simp only [quotaC, listC, rndS] at e14
    simp at h3
    simp [c4, h3, hfz, e14, e10, h7, e5, q1, q2, hm, e6, e13, e9, w0, hrl, hL1, hL2, qHeap, hAe, rndS]
end LM.GK
