/- Part 11 of what YteihlaoeolfkfaaGreatAges leans on. -/
import Derived.Test.YteihlaoeolfkfaaGreatLib1
import Derived.Test.YteihlaoeolfkfaaGreatLib2
import Derived.Test.YteihlaoeolfkfaaGreatLib3
import Derived.Test.YteihlaoeolfkfaaGreatAges1
import Derived.Test.YteihlaoeolfkfaaGreatAges2
import Derived.Test.YteihlaoeolfkfaaGreatAges3
import Derived.Test.YteihlaoeolfkfaaGreatAges4
import Derived.Test.YteihlaoeolfkfaaGreatAges5
import Derived.Test.YteihlaoeolfkfaaGreatAges6
import Derived.Test.YteihlaoeolfkfaaGreatAges7
set_option linter.all false
namespace LM.G9
open Go LM
variable {P : Nat → Option SFunc} [Has P] [HasP P]

/-- Spans that ascend and do not touch. -/
def chain : Int → List (Int × Int) → Prop
  | _, [] => True
  | last, p :: r => last + 1 < p.1 ∧ 0 ≤ p.1 ∧ p.1 ≤ p.2 ∧ p.2 ≤ 120 ∧ chain p.2 r

def lastOf : Int → List (Int × Int) → Int
  | last, [] => last
  | _, p :: r => lastOf p.2 r

theorem chain_snoc (p : Int × Int) : ∀ (last : Int) (zs : List (Int × Int)), chain last (zs ++ [p]) ↔ chain last zs ∧ lastOf last zs + 1 < p.1 ∧ 0 ≤ p.1 ∧ p.1 ≤ p.2 ∧ p.2 ≤ 120
  | last, [] => by simp [chain, lastOf]
  | last, q :: r => by
    simp only [List.cons_append, chain, lastOf, chain_snoc p q.2 r, and_assoc]

theorem lastOf_mem : ∀ (last : Int) (zs : List (Int × Int)), lastOf last zs = last ∧ zs = [] ∨ ∃ p ∈ zs, lastOf last zs = p.2
  | last, [] => .inl ⟨rfl, rfl⟩
  | last, q :: r => by
    rcases lastOf_mem q.2 r with ⟨h, _⟩ | ⟨p, hp, h⟩
    · exact .inr ⟨q, by simp, h⟩
    · exact .inr ⟨p, by simp [hp], h⟩

theorem gapsN_chain (f : Nat → Bool) : ∀ n, n ≤ 121 → chain (-2) (gapsN f n)
  | 0, _ => trivial
  | n + 1, hn => by
    have ih := gapsN_chain f n (by omega)
    rw [gapsN]
    split
    · exact ih
    · split
      · rename_i hc
        simp at hc
        obtain ⟨zs, a, hz⟩ := gapsN_last f n hc.1 hc.2
        rw [hz, chain_snoc] at ih
        rw [hz, setLast_snoc, chain_snoc]
        exact ⟨ih.1, ih.2.1, ih.2.2.1, by simp; omega, by simp; omega⟩
      · rename_i hc
        rw [chain_snoc]
        refine ⟨ih, ?_, by simp, by simp, by simp; omega⟩
        rcases lastOf_mem (-2) (gapsN f n) with ⟨h, _⟩ | ⟨p, hp, h⟩
        · rw [h]; simp; omega
        · rw [h]
          simp at hc
          have hn0 : 0 < n := by
            rcases Nat.eq_zero_or_pos n with h0 | h0
            · subst h0; simp [gapsN] at hp
            · exact h0
          have := gapsN_lt' f n hn0 (hc hn0) p hp
          simp; omega

def inP (k : Nat) (p : Int × Int) : Bool := decide (p.1 ≤ k) && decide ((k : Int) ≤ p.2)
def inG (G : List (Int × Int)) (k : Nat) : Bool := G.any (inP k)

theorem inP_one (n k : Nat) : inP k ((n : Int), (n : Int)) = (k == n) := by
  unfold inP
  by_cases h : k = n
  · subst h; simp
  · have : (k == n) = false := by simp [h]
    rw [this]
    simp; omega

theorem gapsN_in (f : Nat → Bool) (k : Nat) : ∀ n, n ≤ 121 → inG (gapsN f n) k = (decide (k < n) && !f k)
  | 0, _ => by simp [gapsN, inG]
  | n + 1, hn => by
    have ih := gapsN_in f k n (by omega)
    have hd : decide (k < n + 1) = (decide (k < n) || k == n) := by
      by_cases h : k = n
      · subst h; simp
      · have : (k == n) = false := by simp [h]
        rw [this, Bool.or_false]
        exact decide_eq_decide.2 (by omega)
    rw [gapsN]
    cases h0 : f n
    · rw [if_neg (by simp)]
      have hk : (k == n && !f k) = (k == n) := by
        by_cases h : k = n
        · subst h; simp [h0]
        · simp [h]
      have e : (decide (k < n + 1) && !f k) = (inG (gapsN f n) k || k == n) := by
        rw [hd, Bool.and_or_distrib_right, hk, ih]
      rw [e]
      split
      · rename_i hc
        simp at hc
        obtain ⟨zs, a, hz⟩ := gapsN_last f n hc.1 hc.2
        have hch := gapsN_chain f n (by omega)
        rw [hz, chain_snoc] at hch
        rw [hz, setLast_snoc]
        unfold inG
        rw [List.any_append, List.any_append, Bool.or_assoc]
        congr 1
        simp only [List.any_cons, List.any_nil, Bool.or_false]
        unfold inP
        simp at hch ⊢
        by_cases h : k = n
        · subst h; simp; omega
        · have h1 : (k == n) = false := by simp [h]
          have h2 : decide (k ≤ n) = decide ((k : Int) ≤ n - 1) := decide_eq_decide.2 (by omega)
          rw [h1, Bool.or_false, h2]
      · unfold inG
        rw [List.any_append]
        rw [show List.any [((n : Int), (n : Int))] (inP k) = inP k ((n : Int), (n : Int)) from by simp, inP_one]
    · rw [if_pos rfl, ih, hd]
      by_cases h : k = n
      · subst h; simp [h0]
      · have h1 : (k == n) = false := by simp only [beq_eq_false_iff_ne, ne_eq]; exact h
        rw [h1, Bool.or_false]

end LM.G9

namespace LM.G9
open Go LM
variable {P : Nat → Option SFunc} [Has P] [HasP P]

def ann (born : Int) : Clm := ⟨[97, 110, 110], [65], born, [111, 112, 101, 110]⟩
theorem ann_ok (born : Int) : (ann born).ok := by simp [Clm.ok, ann]
theorem ann_aged {born day : Int} (h0 : 0 ≤ born) (h1 : born ≤ 10000) (h2 : born ≤ day) (h3 : day ≤ 99999) : checkAged (ann born) day = 0 := by
  have e1 : named [97, 110, 110] = 0 := by rfl
  have e2 : named [65] = 0 := by rfl
  have e3 : named [111, 112, 101, 110] = 0 := by rfl
  have e4 : outside born 0 99999 = false := by unfold outside; simp; omega
  have e5 : outside day 0 99999 = false := by unfold outside; simp; omega
  have e6 : ¬ born > day := by omega
  unfold checkAged checkClm ann
  simp only [e1, e2, e3, List.any_nil, whenE, dated, e4, e5]
  simp [firstE]
  omega

theorem ann_age {born day : Int} (h0 : 0 ≤ born) (h2 : born ≤ day) (h3 : day ≤ 99999) : ageOf (ann born) day = (day - born) / 365 := by
  unfold ageOf ann
  simp only
  rw [wrap64 (n := day - born) (by omega) (by omega), Int.tdiv_eq_ediv_of_nonneg (by omega)]
  exact wrap64 (by omega) (by omega)

theorem L7a (X G : CV) (B0 : List LV) (hB : underL 3 B0 = true) (born n i p1 p2 : Int) (hm : p2 ≤ 120) : ∀ (m a : Nat) (f : Nat → Bool), (p2 + 1 - a).toNat = m →
    execS P (limS P) c7_l0 ⟨[.c X, .c (ci born), .ptr 0 0 0, .slice 1 1 0 121 none (some 121), .ptr 2 0 0, .c (ci a), .c G, .c (ci n), .c (ci i)], [.cells 0 B0 0, .cells 1 (arr f) 0, .cells 0 [.c (ci p1), .c (ci p2)] 0]⟩ =
      some (.exit 2, ⟨[.c X, .c (ci born), .ptr 0 0 0, .slice 1 1 0 121 none (some 121), .ptr 2 0 0, .c G, .c (ci n), .c (ci i)], [.cells 0 B0 0, .cells 1 (arr fun k => f k || (decide (a ≤ k) && decide ((k : Int) ≤ p2))) 0, .cells 0 [.c (ci p1), .c (ci p2)] 0]⟩) := by
  intro m
  induction m with
  | zero =>
    intro a f h
    have h1 : ¬ (a : Int) ≤ p2 := by omega
    have e : (fun k => f k || (decide (a ≤ k) && decide ((k : Int) ≤ p2))) = f := by
      funext k
      have : (decide (a ≤ k) && decide ((k : Int) ≤ p2)) = false := by
        simp; omega
      rw [this, Bool.or_false]
    rw [e, r7_l0]
    simp [c7_l0b, h1]
  | succ m ih =>
    intro a f h
    have h1 : (a : Int) ≤ p2 := by omega
    have ih := ih (a + 1) (fun k => f k || k == a) (by omega)
    have hw : IntKind.i64.wrap (↑a + 1) = ↑a + 1 := wrap64 (by omega) (by omega)
    have h2 : (a : Int) < 121 := by omega
    have h3 : a < 121 := by omega
    have e : (fun k => (f k || k == a) || (decide (a + 1 ≤ k) && decide ((k : Int) ≤ p2))) = (fun k => f k || (decide (a ≤ k) && decide ((k : Int) ≤ p2))) := by
      funext k
      by_cases h4 : k = a
      · subst h4
        simp [h1]
      · have h5 : (k == a) = false := by simp only [beq_eq_false_iff_ne, ne_eq]; exact h4
        have h6 : decide (a + 1 ≤ k) = decide (a ≤ k) := decide_eq_decide.2 (by omega)
        rw [h5, h6, Bool.or_false]
    rw [e] at ih
    simp at ih
    rw [r7_l0]
    have h7 : a ≤ 120 := by omega
    simp [c7_l0b, h1, h2, h3, h7, hw, arr_length, arr_set, under_arr, hB, ih]

theorem L7b (X : CV) (B0 : List LV) (hB : underL 2 B0 = true) (hB3 : underL 3 B0 = true) (born : Int) : ∀ (l pre : List (Int × Int)) (last : Int) (f : Nat → Bool), chain last l → -2 ≤ last → last ≤ 120 → ((pre ++ l).length : Int) < 9223372036854775807 →
    execS P (limS P) c7_l1 ⟨[.c X, .c (ci born), .ptr 0 0 0, .c (ci last), .slice 1 1 0 121 none (some 121), .c (.slice ((pre ++ l).map encP)), .c (ci (pre ++ l).length), .c (ci pre.length)], [.cells 0 B0 0, .cells 1 (arr f) 0]⟩ =
      some (.exit 0, ⟨[.c X, .c (ci born), .ptr 0 0 0, .slice 1 1 0 121 none (some 121)], [.cells 0 B0 0, .cells 1 (arr fun k => f k || inG l k) 0]⟩) := by
  intro l
  induction l with
  | nil =>
    intro pre last f _ _ _ h
    have e : (fun k => f k || inG [] k) = f := by funext k; simp [inG]
    rw [e, r7_l1]
    simp [c7_l1b]
  | cons p r ih =>
    intro pre last f hch hl1 hl2 h
    obtain ⟨p1, p2⟩ := p
    simp only [chain] at hch
    obtain ⟨c1, c2, c3, c4, c5⟩ := hch
    obtain ⟨a, ha⟩ : ∃ a : Nat, p1 = (a : Int) := ⟨p1.toNat, by omega⟩
    have ih := ih (pre ++ [(p1, p2)]) p2 (fun k => f k || (decide (a ≤ k) && decide ((k : Int) ≤ p2))) c5 (by omega) (by omega) (by simpa using h)
    have hin := L7a (P := P) X (.slice ((pre ++ (p1, p2) :: r).map encP)) B0 hB3 born (pre ++ (p1, p2) :: r).length pre.length p1 p2 (by omega) _ a f rfl
    have e : (fun k => (f k || (decide (a ≤ k) && decide ((k : Int) ≤ p2))) || inG r k) = (fun k => f k || inG ((p1, p2) :: r) k) := by
      funext k
      have : inP k (p1, p2) = (decide (a ≤ k) && decide ((k : Int) ≤ p2)) := by
        unfold inP
        simp only [ha]
        have : decide ((a : Int) ≤ k) = decide (a ≤ k) := decide_eq_decide.2 (by omega)
        rw [this]
      simp only [inG, List.any_cons, this, Bool.or_assoc]
    rw [e] at ih
    simp [encP, ha] at ih h hin
    have hw : IntKind.i64.wrap (↑pre.length + 1) = ↑pre.length + 1 := wrap64 (by omega) (by omega)
    have hw2 : IntKind.i64.wrap (last + 1) = last + 1 := wrap64 (by omega) (by omega)
    have hlt : (pre.length : Int) < pre.length + (r.length + 1) := by omega
    have c1' : ¬ (a : Int) ≤ last + 1 := by omega
    have c2' : ¬ (a : Int) < 0 := by omega
    have c3' : ¬ p2 < (a : Int) := by omega
    have c4' : ¬ 120 < p2 := by omega
    rw [r7_l1]
    simp [c7_l1b, hw, hw2, hlt, encP, ha, hin, under_arr, hB, hB3, c1', c2', c3', c4', ih]

theorem L7c (l : List Cat) (hl : ∀ x ∈ l, x.ok) (sl : l.length * 32 ≤ 2 ^ 47) (h4 : checkCats l = 0) (born : Int) (hb1 : 0 ≤ born) (hb2 : born ≤ 10000) (f : Nat → Bool) (hf : ∀ k, k < 121 → f k = !cov l k) : ∀ (m n : Nat), n + m = 121 →
    execS P (limS P) c7_l2 ⟨[.c (.slice (l.map Cat.enc)), .c (ci born), .ptr 0 0 0, .slice 1 1 0 121 none (some 121), .c (ci 121), .c (ci n)], [.cells 0 [.c (.str [97, 110, 110]), .c (.str [65]), .c (ci born), .c (.str [111, 112, 101, 110])] 0, .cells 1 (arr f) 0]⟩ =
      some (.exit 4, ⟨[], [.cells 0 [.c (.str [97, 110, 110]), .c (.str [65]), .c (ci born), .c (.str [111, 112, 101, 110])] 0, .cells 1 (arr f) 0]⟩) := by
  intro m
  induction m with
  | zero =>
    intro n hn
    simp at hn
    subst hn
    rw [r7_l2]
    simp [c7_l2b]
  | succ m ih =>
    intro n hn
    have ih := ih (n + 1) (by omega)
    have hw : IntKind.i64.wrap (↑n + 1) = ↑n + 1 := wrap64 (by omega) (by omega)
    have hw2 : IntKind.i64.wrap (365 * ↑n) = 365 * ↑n := wrap64 (by omega) (by omega)
    have hw3 : IntKind.i64.wrap (born + 365 * ↑n) = born + 365 * ↑n := wrap64 (by omega) (by omega)
    have hlt : (n : Int) < 121 := by omega
    have hlt2 : n < 121 := by omega
    have a1 := S57 (P := P) l hl (ann born) (ann_ok born) (born + 365 * n) sl
    have d1 : (born + 365 * (n : Int) - born) / 365 = n := by omega
    rw [ann_aged (by omega) (by omega) (by omega) (by omega), ann_age (by omega) (by omega) (by omega), h4, d1] at a1
    simp [Clm.enc, ann, firstE] at a1
    have hg := arr_get f hlt2
    rw [hf n hlt2] at hg
    have hp := suitsL_pos l n
    rw [r7_l2]
    simp at ih
    cases h0 : cov l n
    · rw [h0] at hp hg
      simp at hp
      rw [hp] at a1
      simp [c7_l2b, hlt, hlt2, hw, hw2, hw3, a1, hg, under_arr, ih]
    · rw [h0] at hp hg
      have hp2 : ¬ ((suitsL l n).length : Int) = 0 := by
        have := of_decide_eq_true hp
        omega
      simp at hp2
      simp [c7_l2b, hlt, hlt2, hw, hw2, hw3, a1, hg, hp2, under_arr, ih]

theorem S7 (h14 : fn P 14 [] = some (.bool true)) (l : List Cat) (born day : Int) (hl : ∀ x ∈ l, x.ok) (sl : l.length * 32 ≤ 2 ^ 47) (h2 : l.length ≤ 12) (h3 : shortCats l = true) (h4 : checkCats l = 0) (h5 : outside born 0 10000 = false) (h6 : outside day born 90000 = false) : fn P 7 [.slice (l.map Cat.enc), ci born, ci day] = some (.bool true) := by
  have e51 := S51 (P := P) l sl
  have e52 := S52 (P := P) l (by omega)
  have e53 := S53 (P := P) l (by omega)
  have e55 := S55 (P := P) l hl sl checkCats_inR
  have h2' : ¬ (12 : Int) < l.length := by omega
  rw [h3] at e52
  rw [h4] at e53 e55
  simp at e55
  have q5 := h5
  have q6 := h6
  simp [outside] at q5 q6
  have w1 : IntKind.i64.wrap (day + 365) = day + 365 := wrap64 (by omega) (by omega)
  have a1 := S56 (P := P) (ann born) (ann_ok born) day
  have a2 := S56 (P := P) (ann born) (ann_ok born) (day + 365)
  rw [ann_aged (by omega) (by omega) (by omega) (by omega), ann_age (by omega) (by omega) (by omega)] at a1 a2
  simp [Clm.enc, ann] at a1 a2
  have d1 : (day + 365 - born) / 365 = (day - born) / 365 + 1 := by omega
  have w2 : IntKind.i64.wrap ((day - born) / 365 + 1) = (day - born) / 365 + 1 := wrap64 (by omega) (by omega)
  have w3 : IntKind.i64.wrap (365 * ((day - born) / 365)) = 365 * ((day - born) / 365) := wrap64 (by omega) (by omega)
  have w4 : IntKind.i64.wrap (365 * ((day - born) / 365 + 1)) = 365 * ((day - born) / 365 + 1) := wrap64 (by omega) (by omega)
  have w5 : IntKind.i64.wrap (day - born) = day - born := wrap64 (by omega) (by omega)
  have w6 : IntKind.i64.wrap 0 = 0 := wrap64 (by omega) (by omega)
  have d2 : ¬ day - born < 365 * ((day - born) / 365) := by omega
  have d3 : ¬ 365 * ((day - born) / 365 + 1) ≤ day - born := by omega
  rw [d1] at a2
  rw [u7]
  have hz : arr (fun _ => false) = List.replicate 121 (.c (.bool false)) := rfl
  have hgl := gapsN_length (cov l) 121
  have hB := L7b (P := P) (.slice (l.map Cat.enc)) [.c (.str [97, 110, 110]), .c (.str [65]), .c (ci born), .c (.str [111, 112, 101, 110])] rfl rfl born (gapsL l) [] (-2) (fun _ => false) (gapsN_chain _ 121 (by omega)) (by omega) (by omega) (by unfold gapsL; simp; omega)
  have hC := L7c (P := P) l hl sl h4 born (by omega) (by omega) (fun k => false || inG (gapsL l) k) (fun k hk => by
    unfold gapsL
    rw [gapsN_in _ _ 121 (by omega)]
    simp [hk]) 121 0 rfl
  rw [hz] at hB
  simp [List.replicate] at hB
  simp at hC
  simp [c7, e51, h14, h2', e52, e53, h5, h6, e55, a1, a2, w1, w2, w3, w4, w5, w6, d2, d3, hB, hC]

theorem S7' (h14 : fn P 14 [] = some (.bool true)) (l : List Cat) (born day : Int) (hl : ∀ x ∈ l, x.ok) (sl : l.length * 32 ≤ 2 ^ 47) : fn P 7 [.slice (l.map Cat.enc), ci born, ci day] = some (.bool true) := by
  have e51 := S51 (P := P) l sl
  have e52 := S52 (P := P) l (by omega)
  have e53 := S53 (P := P) l (by omega)
  by_cases h2 : l.length ≤ 12
  · have h2' : ¬ (12 : Int) < l.length := by omega
    cases h3 : shortCats l
    · rw [h3] at e52
      rw [u7]
      simp [c7, e51, h14, h2', e52]
    · by_cases h4 : checkCats l = 0
      · cases h5 : outside born 0 10000
        · cases h6 : outside day born 90000
          · exact S7 h14 l born day hl sl h2 h3 h4 h5 h6
          · rw [h3] at e52
            rw [h4] at e53
            rw [u7]
            simp [c7, e51, h14, h2', e52, e53, h5, h6]
        · rw [h3] at e52
          rw [h4] at e53
          rw [u7]
          simp [c7, e51, h14, h2', e52, e53, h5]
      · rw [h3] at e52
        rw [u7]
        simp [c7, e51, h14, h2', e52, e53, h4]
  · have h2' : (12 : Int) < l.length := by omega
    rw [u7]
    simp [c7, e51, h14, h2']

end LM.G9

