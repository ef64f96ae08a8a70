/- Part 12 of what YteihlaoeolfkfaaGreatRepl leans on. -/
import Derived.Test.YteihlaoeolfkfaaGreatReplL1
import Derived.Test.YteihlaoeolfkfaaGreatReplL2
import Derived.Test.YteihlaoeolfkfaaGreatReplL3
import Derived.Test.YteihlaoeolfkfaaGreatRepl1
import Derived.Test.YteihlaoeolfkfaaGreatRepl2
import Derived.Test.YteihlaoeolfkfaaGreatRepl3
import Derived.Test.YteihlaoeolfkfaaGreatRepl4
import Derived.Test.YteihlaoeolfkfaaGreatRepl5
import Derived.Test.YteihlaoeolfkfaaGreatRepl6
import Derived.Test.YteihlaoeolfkfaaGreatRepl7
import Derived.Test.YteihlaoeolfkfaaGreatRepl8
set_option linter.all false
namespace LM.G9
open Go LM
theorem named_zero {s : Str} : named s = 0 ↔ isName s = true := by
 unfold named whenE
 cases isName s <;> simp
theorem name_len {s : Str} (h : isName s = true) : s.length ≤ 24 := by
 unfold isName at h
 simp only [Bool.and_eq_true, decide_eq_true_eq] at h
 exact h.1.2
theorem no_post (x : Str) : isName (postS ++ x) = false := by
 unfold isName postS
 simp only [List.cons_append, List.nil_append, nameFrom]
 have : nameN 4 32 = false := by decide
 simp [this]
theorem once_zero {m : Int} : ∀ {l pre : List Str}, eachE once pre l = 0 → ∀ s ∈ l, isName s = true
 | [], _, _ => by simp
 | x :: r, pre, h => by
  rw [eachE] at h
  split at h
  ·rename_i h1; exact absurd h h1
  ·rename_i h1
   have h1 : once pre x = 0 := by simpa using h1
   unfold once at h1
   rw [firstE_zD] at h1
   intro s hs
   rcases List.mem_cons.1 hs with rfl | hs
   ·exact named_zero.1 h1.1
   ·exact once_zero (m := m) h s hs
theorem onceL_zero {m : Int} {l : List Str} (h : onceL m l = 0) : (l.length : Int) ≤ m ∧ ∀ s ∈ l, isName s = true := by
 unfold onceL at h
 split at h
 ·cases h
 ·exact ⟨by omega, once_zero (m := m) h⟩
theorem eachPst_zero : ∀ {l pre : List Pst}, eachE checkPst pre l = 0 → (∀ x ∈ l, isName x.name = true ∧ isName x.role = true ∧ x.name ∉ pre.map (·.name)) ∧ (l.map (·.name)).Nodup
 | [], _, _ => by simp
 | x :: r, pre, h => by
  rw [eachE] at h
  split at h
  ·rename_i h1; exact absurd h h1
  ·rename_i h1
   have h1 : checkPst pre x = 0 := by simpa using h1
   unfold checkPst at h1
   simp only [firstE_zD] at h1
   obtain ⟨n1, n2, n3, _⟩ := h1
   have n3 : x.name ∉ pre.map (·.name) := by
    rw [whenE_zD (by decide), List.any_eq_false] at n3
    intro hm
    obtain ⟨y, hy, e⟩ := List.mem_map.1 hm
    exact n3 y hy (by simp [Pst.is, e])
   obtain ⟨k1, k2⟩ := eachPst_zero h
   refine ⟨fun y hy => ?_, ?_⟩
   ·rcases List.mem_cons.1 hy with rfl | hy
    ·exact ⟨named_zero.1 n1, named_zero.1 n2, n3⟩
    ·obtain ⟨a, b, c⟩ := k1 y hy
     exact ⟨a, b, fun hm => c (by rw [List.map_append]; exact List.mem_append.2 (.inl hm))⟩
   ·rw [List.map_cons, List.nodup_cons]
    refine ⟨fun hm => ?_, k2⟩
    obtain ⟨y, hy, e⟩ := List.mem_map.1 hm
    exact (k1 y hy).2.2 (by rw [List.map_append, e]; simp)
structure Good (j : Jur) : Prop where
 n : j.ofs.length ≤ 24
 rl : ∀ o ∈ j.ofs, o.roles.length ≤ 16 ∧ ∀ s ∈ o.roles, isName s = true
 ld : ∀ o ∈ j.ofs, 0 ≤ o.load ∧ o.load ≤ 24
 pn : ∀ q ∈ j.pts, isName q.name = true ∧ isName q.role = true
 nd : (j.pts.map (·.name)).Nodup
theorem good_of {j : Jur} (h : checkJur j = 0) : Good j := by
 obtain ⟨h1, h2, _, h4⟩ := checkJur_zero.1 h
 unfold ptsE at h4
 split at h4
 ·cases h4
 ·obtain ⟨k1, k2⟩ := eachPst_zero h4
  refine ⟨h1, fun o ho => ?_, fun o ho => ⟨(h2 o ho).2.2.2.1, (h2 o ho).2.2.2.2⟩, fun q hq => ⟨(k1 q hq).1, (k1 q hq).2.1⟩, k2⟩
  obtain ⟨a, b⟩ := onceL_zero (h2 o ho).2.2.1
  exact ⟨by omega, b⟩
theorem name_inj {j : Jur} (g : Good j) {p q : Nat} (hp : p < j.pts.length) (hq : q < j.pts.length) (e : nameP j.pts p = nameP j.pts q) : p = q := by
 unfold nameP at e
 rw [List.getElem?_eq_getElem hp, List.getElem?_eq_getElem hq] at e
 have hp' : p < (j.pts.map (·.name)).length := by simpa using hp
 have hq' : q < (j.pts.map (·.name)).length := by simpa using hq
 have e' : (j.pts.map (·.name))[p] = (j.pts.map (·.name))[q] := by simpa using e
 rcases Nat.lt_trichotomy p q with h | h | h
 ·exact absurd e' (List.pairwise_iff_getElem.1 g.nd p q hp' hq' h)
 ·exact h
 ·exact absurd e'.symm (List.pairwise_iff_getElem.1 g.nd q p hq' hp' h)
theorem any_is {s : Str} {l : List Str} : l.any (Str.is s) = decide (s ∈ l) := by
 rw [Bool.eq_iff_iff, List.any_eq_true, decide_eq_true_eq]
 constructor
 ·rintro ⟨x, hx, e⟩
  rw [Str.is_eq, decide_eq_true_eq] at e
  rw [← e]; exact hx
 ·intro h
  exact ⟨s, h, by rw [Str.is_eq]; simp⟩
theorem fx_serves {j : Jur} (g : Good j) (a : List Int) (opn i p : Nat) (hi : i < j.ofs.length) (hp : p < j.pts.length) :
  servF (fxJ j a opn) i p = match fixd a opn p with
   | none => servF j i p
   | some i0 => decide (i = i0) && !(j.pts[p].nations.any (Str.is j.ofs[i].nation)) := by
 have ho : (fxJ j a opn).ofs[i]? = some ⟨j.ofs[i].name, j.ofs[i].nation, RK a opn j.pts (rolesA j.ofs) j.pts.length i, j.ofs[i].load⟩ := by
  show (fxO _ _)[i]? = _
  rw [fxO_get, List.getElem?_eq_getElem hi]; rfl
 have hq : (fxJ j a opn).pts[p]? = some (if p < j.pts.length ∧ fixd a opn p ≠ none then postR j.pts[p] else j.pts[p]) := by
  show (qsK _ _ _ _)[p]? = _
  rw [qsK_get, List.getElem?_eq_getElem hp]; rfl
 have hrA : rolesA j.ofs i = j.ofs[i].roles := by unfold rolesA; rw [List.getElem?_eq_getElem hi]
 have hgo := g.rl _ (List.getElem_mem hi)
 have hgp := g.pn _ (List.getElem_mem hp)
 have e1 : servF (fxJ j a opn) i p = servesB ⟨j.ofs[i].name, j.ofs[i].nation, RK a opn j.pts (rolesA j.ofs) j.pts.length i, j.ofs[i].load⟩ (if p < j.pts.length ∧ fixd a opn p ≠ none then postR j.pts[p] else j.pts[p]) := by
  unfold servF servesV
  simp only [Int.toNat_natCast, ho, hq]
 rw [e1]
 unfold servesB
 rw [any_is]
 cases hf : fixd a opn p with
 | none =>
  rw [if_neg (by simp)]
  have e2 : servF j i p = servesB j.ofs[i] j.pts[p] := by
   unfold servF servesV
   simp [List.getElem?_eq_getElem hi, List.getElem?_eq_getElem hp]
  simp only []
  rw [e2]
  unfold servesB
  rw [any_is (s := j.pts[p].role) (l := j.ofs[i].roles)]
  congr 1
  rw [decide_eq_decide, RK_mem, hrA]
  constructor
  ·rintro (h | ⟨p', _, _, e⟩)
   ·exact h
   ·have := hgp.2
    rw [e, no_post] at this
    cases this
  ·exact .inl
 | some i0 =>
  rw [if_pos ⟨hp, by simp⟩]
  simp only []
  have en : nameP j.pts p = j.pts[p].name := by unfold nameP; rw [List.getElem?_eq_getElem hp]
  congr 1
  rw [decide_eq_decide]
  show postS ++ j.pts[p].name ∈ _ ↔ _
  rw [RK_mem, hrA]
  constructor
  ·rintro (h | ⟨p', h1, h2, e⟩)
   ·have := hgo.2 _ h
    rw [no_post] at this
    cases this
   ·have := List.append_cancel_left e
    rw [← en] at this
    have := name_inj g hp h1 this
    subst this
    rw [hf] at h2
    cases h2
    rfl
  ·rintro rfl
   exact .inr ⟨p, hp, hf, by rw [en]⟩
theorem or_bit (x p q : Nat) : bitB (x ||| 2 ^ p) q = (bitB x q || decide (q = p)) := by
 have h : ∀ y q : Nat, bitB y q = y.testBit q := by
  intro y q
  unfold bitB
  rw [Nat.testBit_eq_decide_div_mod_eq]
 rw [h, h, Nat.testBit_or, Nat.testBit_two_pow]
 congr 1
 exact decide_eq_decide.2 eq_comm
theorem setK_bit (a : List Int) (opn q : Nat) : ∀ k, bitB (setK a opn k) q = (bitB opn q || (decide (q < k) && (fixd a opn q).isSome))
 | 0 => by simp [setK]
 | k + 1 => by
  have ih := setK_bit a opn q k
  unfold setK
  cases hf : fixd a opn k with
  | none =>
   simp only []
   rw [ih]
   by_cases e : q = k
   ·subst e; simp [hf]
   ·congr 2
    exact decide_eq_decide.2 (by omega)
  | some i =>
   simp only []
   rw [or_bit, ih]
   by_cases e : q = k
   ·subst e; simp [hf]
   ·have : decide (q < k + 1) = decide (q < k) := decide_eq_decide.2 (by omega)
    rw [this]
    simp [e]
end LM.G9
namespace LM.G9
open Go LM
def jx (j : Jur) (wo : Int) (out : List Int) (opn : Nat) : Jy := jy (fxJ j out opn) (ldsW wo j.ofs)
theorem jx_m (j : Jur) (wo : Int) (out : List Int) (opn : Nat) : (jx j wo out opn).m = j.pts.length := qsK_len _ _ _ _
theorem jx_n (j : Jur) (wo : Int) (out : List Int) (opn : Nat) : (jx j wo out opn).n = j.ofs.length := fxO_len _ _
theorem jx_hr (j : Jur) (wo : Int) (out : List Int) (opn p : Nat) : (jx j wo out opn).hr p = (jyJ j).hr p := by
 show hourAt (fxJ j out opn) p = hourAt j p
 unfold hourAt
 have : (fxJ j out opn).pts[p]? = (j.pts[p]?).map fun q => if p < j.pts.length ∧ fixd out opn p ≠ none then postR q else q := qsK_get _ _ _ _ _
 rw [this]
 cases j.pts[p]? with
 | none => rfl
 | some q =>
  simp only [Option.map_some]
  split <;> rfl
theorem ldW_at {j : Jur} (g : Good j) (wo : Int) {i : Nat} (hi : i < j.ofs.length) : (ldsW wo j.ofs).getD i 0 = if (i : Int) = wo then 0 else (jyJ j).ld i := by
 have hl : (ldsL 24 j.ofs).length = j.ofs.length := by simp [ldsL]
 have hJ : (jyJ j).ld i = (ldsL 24 j.ofs).getD i 0 := rfl
 rw [hJ]
 unfold ldsW
 by_cases h0 : 0 ≤ wo
 ·rw [if_pos h0]
  by_cases e : (i : Int) = wo
  ·rw [if_pos e]
   have : wo.toNat = i := by omega
   rw [this, List.getD_eq_getElem?_getD, List.getElem?_set_self (by omega)]
   rfl
  ·rw [if_neg e, List.getD_eq_getElem?_getD, List.getElem?_set_ne (by omega), List.getD_eq_getElem?_getD]
 ·rw [if_neg h0, if_neg (by omega)]
theorem ldJ_pos {j : Jur} (g : Good j) {i : Nat} (hi : i < j.ofs.length) : (jyJ j).ld i = j.ofs[i].load ∧ 0 ≤ (jyJ j).ld i := by
 have := g.ld _ (List.getElem_mem hi)
 have e : (jyJ j).ld i = (ldsL 24 j.ofs).getD i 0 := rfl
 rw [e, lds_at hi, if_neg (by omega)]
 exact ⟨rfl, this.1⟩
theorem jx_ld {j : Jur} (g : Good j) (wo : Int) (out : List Int) (opn : Nat) {i : Nat} (hi : i < j.ofs.length) : (jx j wo out opn).ld i = if (i : Int) = wo then 0 else (jyJ j).ld i := ldW_at g wo hi
theorem jx_pos {j : Jur} (g : Good j) (wo : Int) (out : List Int) (opn : Nat) : ∀ i, i < (jx j wo out opn).n → 0 ≤ (jx j wo out opn).ld i := by
 intro i hi
 rw [jx_n] at hi
 rw [jx_ld g wo out opn hi]
 split
 ·exact Int.le_refl _
 ·exact (ldJ_pos g hi).2
theorem cnt_eq {J J' : Jy} (h : J.m = J'.m) (B : Nat → Option Nat) (i : Nat) : cntA J B i = cntA J' B i := by unfold cntA; rw [h]
theorem cnt_zero {J : Jy} {B : Nat → Option Nat} {i : Nat} (h : cntA J B i = 0) {p : Nat} (hp : p < J.m) : B p ≠ some i := by
 unfold cntA at h
 rw [List.countP_eq_zero] at h
 have := h p (List.mem_range.2 hp)
 simpa using this
theorem cpl_iff {j : Jur} (g : Good j) (wo : Int) (out : List Int) (opn : Nat)
  (hfx : ∀ p i, p < j.pts.length → fixd out opn p = some i → i < j.ofs.length ∧ servF j i p = true ∧ (i : Int) ≠ wo) :
  cplB j wo out opn = true ↔ ∃ B, Valid (jyJ j) B ∧ (∀ p, p < j.pts.length → ∀ i, fixd out opn p = some i → B p = some i) ∧ (∀ p, p < j.pts.length → bitB opn p = true → B p ≠ none) ∧ (∀ p, p < j.pts.length → ∀ i, B p = some i → (i : Int) ≠ wo) := by
 have hmJ : (jyJ j).m = j.pts.length := rfl
 have hnJ : (jyJ j).n = j.ofs.length := rfl
 have hm := jx_m j wo out opn
 have hn := jx_n j wo out opn
 have hsv : ∀ i p, (jx j wo out opn).sv i p = servF (fxJ j out opn) i p := fun _ _ => rfl
 have hsJ : ∀ i p, (jyJ j).sv i p = servF j i p := fun _ _ => rfl
 have hnat : ∀ p i, p < j.pts.length → (hi : i < j.ofs.length) → servF j i p = true → (hp : p < j.pts.length) → (j.pts[p].nations.any (Str.is j.ofs[i].nation)) = false := by
  intro p i _ hi hs hp
  unfold servF servesV at hs
  simp only [Int.toNat_natCast, List.getElem?_eq_getElem hi, List.getElem?_eq_getElem hp] at hs
  unfold servesB at hs
  rw [Bool.and_eq_true] at hs
  simpa using hs.2
 have key : cplB j wo out opn = true ↔ ∃ B, Valid (jx j wo out opn) B ∧ ∀ p ∈ (List.range j.pts.length).filter (bitB (setK out opn j.pts.length)), B p ≠ none := by
  unfold cplB
  rw [decide_eq_true_eq]
  show (fillL (jx j wo out opn) ((List.range (fxJ j out opn).pts.length).filter (bitB (setK out opn j.pts.length))) start).1 = _ ↔ _
  have e : (fxJ j out opn).pts.length = j.pts.length := qsK_len _ _ _ _
  rw [e]
  exact fills_iff (jx_pos g wo out opn) (List.Pairwise.filter _ List.nodup_range) fun p hp => by
   rw [hm]
   exact List.mem_range.1 (List.mem_filter.1 hp).1
 have hset : ∀ p, p < j.pts.length → (p ∈ (List.range j.pts.length).filter (bitB (setK out opn j.pts.length)) ↔ (bitB opn p = true ∨ ∃ i, fixd out opn p = some i)) := by
  intro p hp
  rw [List.mem_filter, List.mem_range, setK_bit]
  simp only [hp, true_and, decide_true, Bool.true_and, Bool.or_eq_true, Option.isSome_iff_exists]
 rw [key]
 constructor
 ·rintro ⟨B, hB, hc⟩
  have hwo : ∀ p, p < j.pts.length → ∀ i, B p = some i → (i : Int) ≠ wo := by
   intro p hp i hi e
   have hin := (hB.fit p (by omega) i hi).1
   have hl := hB.ld i hin
   rw [jx_ld g wo out opn (by omega), if_pos e] at hl
   exact cnt_zero (J := jx j wo out opn) (by omega) (by omega) hi
  have hfxB : ∀ p, p < j.pts.length → ∀ i, fixd out opn p = some i → B p = some i := by
   intro p hp i hi
   have hne := hc p ((hset p hp).2 (.inr ⟨i, hi⟩))
   cases hb : B p with
   | none => exact absurd hb hne
   | some i' =>
    obtain ⟨h1, h2⟩ := hB.fit p (by omega) i' hb
    rw [hsv, fx_serves g out opn i' p (by omega) hp, hi] at h2
    simp only [Bool.and_eq_true, decide_eq_true_eq] at h2
    rw [h2.1]
  refine ⟨B, ⟨?_, ?_, ?_⟩, hfxB, fun p hp hb => hc p ((hset p hp).2 (.inl hb)), hwo⟩
  ·intro p hp i hi
   rw [hmJ] at hp
   obtain ⟨h1, h2⟩ := hB.fit p (by omega) i hi
   refine ⟨by omega, ?_⟩
   rw [hsJ]
   cases hf : fixd out opn p with
   | none =>
    rw [hsv, fx_serves g out opn i p (by omega) hp, hf] at h2
    exact h2
   | some i0 =>
    have := hfxB p hp i0 hf
    rw [hi] at this
    cases this
    exact (hfx p i hp hf).2.1
  ·intro p q hp hq hne i h1 h2
   rw [← jx_hr j wo out opn p, ← jx_hr j wo out opn q]
   exact hB.apart p q (by omega) (by omega) hne i h1 h2
  ·intro i hi
   rw [hnJ] at hi
   have h1 := hB.ld i (by omega)
   rw [jx_ld g wo out opn hi] at h1
   rw [cnt_eq (J' := jx j wo out opn) (by omega)]
   have := (ldJ_pos g hi).2
   split at h1 <;> omega
 ·rintro ⟨B, hB, h1, h2, h3⟩
  refine ⟨B, ⟨?_, ?_, ?_⟩, ?_⟩
  ·intro p hp i hi
   rw [hm] at hp
   obtain ⟨k1, k2⟩ := hB.fit p (by omega) i hi
   refine ⟨by omega, ?_⟩
   rw [hsv, fx_serves g out opn i p (by omega) hp]
   cases hf : fixd out opn p with
   | none => exact k2
   | some i0 =>
    have := h1 p hp i0 hf
    rw [hi] at this
    cases this
    simp only [decide_true, Bool.true_and]
    rw [hnat p i hp (by omega) k2 hp]
    rfl
  ·intro p q hp hq hne i e1 e2
   rw [jx_hr, jx_hr]
   exact hB.apart p q (by omega) (by omega) hne i e1 e2
  ·intro i hi
   rw [hn] at hi
   rw [jx_ld g wo out opn hi, cnt_eq (J' := jyJ j) (by omega)]
   by_cases e : (i : Int) = wo
   ·rw [if_pos e]
    have : cntA (jyJ j) B i = 0 := by
     unfold cntA
     rw [List.countP_eq_zero]
     intro p hp
     rw [decide_eq_true_eq]
     exact fun hb => h3 p (List.mem_range.1 hp) i hb e
    omega
   ·rw [if_neg e]
    exact hB.ld i (by omega)
  ·intro p hp
   have hpm := List.mem_range.1 (List.mem_filter.1 hp).1
   rcases (hset p hpm).1 hp with h | ⟨i, h⟩
   ·exact h2 p hpm h
   ·rw [h1 p hpm i h]
    simp
end LM.G9
namespace LM.G9
open Go LM
theorem eachE_zero {α : Type} {chk : List α → α → Int} : ∀ {l pre : List α}, eachE chk pre l = 0 ↔ ∀ k (hk : k < l.length), chk (pre ++ l.take k) l[k] = 0
 | [], _ => by simp [eachE]
 | x :: r, pre => by
  have ih := eachE_zero (chk := chk) (l := r) (pre := pre ++ [x])
  rw [eachE]
  by_cases h : chk pre x = 0
  ·rw [if_neg (by simp [h]), ih]
   constructor
   ·intro h1 k hk
    cases k with
    | zero => simpa using h
    | succ k =>
     have := h1 k (by simpa using hk)
     simpa using this
   ·intro h1 k hk
    have := h1 (k + 1) (by simpa using hk)
    simpa using this
  ·rw [if_pos (by simpa using h)]
   constructor
   ·intro e; exact absurd e h
   ·intro h1
    have h2 := h1 0 (by simp)
    rw [List.take_zero, List.append_nil] at h2
    exact absurd h2 h
def toB (l : List Int) (p : Nat) : Option Nat := match l[p]? with
 | some x => if x < 0 then none else some x.toNat
 | none => none
def Ent (j : Jur) (p : Nat) (v : Int) : Prop := v = -1 ∨ (0 ≤ v ∧ v < j.ofs.length ∧ servesV j v p = true)
theorem numE_zero {j : Jur} {p : Nat} {v : Int} : numE j p v = 0 ↔ Ent j p v := by
 unfold numE Ent outside
 by_cases h1 : v < -1
 ·simp [h1]; omega
 ·by_cases h2 : v > (j.ofs.length : Int) - 1
  ·simp [h1, h2]; omega
  ·by_cases h3 : v = -1
   ·subst h3; simp [show ¬ (-1 : Int) > (j.ofs.length : Int) - 1 from h2]
   ·have h4 : 0 ≤ v := by omega
    have h5 : v < j.ofs.length := by omega
    simp [h1, h2, h3, h4, h5]
theorem toB_some {l : List Int} {p i : Nat} : toB l p = some i ↔ l[p]? = some (i : Int) := by
 unfold toB
 cases h : l[p]? with
 | none => simp
 | some x =>
  simp only [Option.some.injEq]
  by_cases h0 : x < 0
  ·rw [if_pos h0]; constructor
   ·intro e; cases e
   ·intro e; omega
  ·rw [if_neg h0]
   simp only [Option.some.injEq]
   omega
theorem clash_iff {j : Jur} {v h : Int} : ∀ {l : List Int} {k : Nat}, clashF j v h k l = true ↔ ∃ q, l[q]? = some v ∧ hourAt j (k + q) = h
 | [], k => by simp [clashF]
 | x :: r, k => by
  have ih := clash_iff (j := j) (v := v) (h := h) (l := r) (k := k + 1)
  rw [clashF, Bool.or_eq_true, Bool.and_eq_true, decide_eq_true_eq, decide_eq_true_eq, ih]
  constructor
  ·rintro (⟨rfl, h1⟩ | ⟨q, h1, h2⟩)
   ·exact ⟨0, rfl, h1⟩
   ·exact ⟨q + 1, by simpa using h1, by rw [← h2]; congr 1; omega⟩
  ·rintro ⟨q, h1, h2⟩
   cases q with
   | zero => exact .inl ⟨by simpa using h1, h2⟩
   | succ q => exact .inr ⟨q, by simpa using h1, by rw [← h2]; congr 1; omega⟩
theorem countV_app (v : Int) (l : List Int) (x : Int) : countV v (l ++ [x]) = countV v l + if x = v then 1 else 0 := by
 unfold countV
 rw [List.filter_append, List.length_append]
 by_cases h : x = v <;> simp [h]
theorem countV_app2 (v : Int) (l r : List Int) : countV v (l ++ r) = countV v l + countV v r := by
 unfold countV
 rw [List.filter_append, List.length_append]
 omega
theorem cnt_take (l : List Int) (i : Nat) : ∀ k, k ≤ l.length → (((List.range k).countP fun p => decide (toB l p = some i) : Nat) : Int) = countV i (l.take k)
 | 0, _ => by simp [countV]
 | k + 1, h => by
  have ih := cnt_take l i k (by omega)
  have hk : k < l.length := by omega
  rw [List.range_succ, List.countP_append, List.take_succ, List.getElem?_eq_getElem hk]
  rw [Int.natCast_add, ih, Option.toList_some, countV_app]
  congr 1
  rw [List.countP_singleton]
  have : (toB l k = some i) ↔ l[k] = (i : Int) := by rw [toB_some, List.getElem?_eq_getElem hk]; simp
  by_cases e : l[k] = (i : Int)
  ·rw [if_pos e]; simp [this, e]
  ·rw [if_neg e]; simp [this, e]
theorem cnt_all {j : Jur} {l : List Int} (hl : l.length = j.pts.length) (i : Nat) : (cntA (jyJ j) (toB l) i : Int) = countV i l := by
 have := cnt_take l i l.length (Nat.le_refl _)
 rw [List.take_length, hl] at this
 exact this
theorem load_at {j : Jur} (g : Good j) {i : Nat} (hi : i < j.ofs.length) : loadOf j i = (jyJ j).ld i := by
 rw [(ldJ_pos g hi).1]
 unfold loadOf
 rw [Int.toNat_natCast, List.getElem?_eq_getElem hi]
def FitL (j : Jur) (l : List Int) : Prop := ∀ k (hk : k < l.length), fitE j (l.take k) l[k] = 0
theorem fitE_zero {j : Jur} {pre : List Int} {v : Int} : fitE j pre v = 0 ↔ v < 0 ∨ (clashF j v (hourAt j pre.length) 0 pre = false ∧ countV v pre + 1 ≤ loadOf j v) := by
 unfold fitE
 by_cases h : v < 0
 ·simp [h]
 ·rw [if_neg h]
  cases clashF j v (hourAt j pre.length) 0 pre
  ·by_cases h2 : countV v pre + 1 > loadOf j v
   ·rw [if_pos h2]; simp [h]; omega
   ·simp [h, h2]; omega
  ·simp [h]
theorem valid_iff {j : Jur} (g : Good j) {l : List Int} (hl : l.length = j.pts.length) (he : ∀ k (hk : k < l.length), Ent j k l[k]) : FitL j l ↔ Valid (jyJ j) (toB l) := by
 have hmJ : (jyJ j).m = j.pts.length := rfl
 have hnJ : (jyJ j).n = j.ofs.length := rfl
 constructor
 ·intro h
  refine ⟨?_, ?_, ?_⟩
  ·intro p hp i hi
   rw [hmJ] at hp
   have hp' : p < l.length := by omega
   rw [toB_some, List.getElem?_eq_getElem hp'] at hi
   have hi : l[p] = (i : Int) := by simpa using hi
   rcases he p hp' with e | ⟨e1, e2, e3⟩
   ·omega
   ·rw [hi] at e2 e3
    exact ⟨by omega, e3⟩
  ·have key : ∀ p q, p < q → q < j.pts.length → ∀ i, toB l p = some i → toB l q = some i → hourAt j p ≠ hourAt j q := by
    intro p q hpq hq i h1 h2 e
    have hq' : q < l.length := by omega
    rw [toB_some] at h1 h2
    rw [List.getElem?_eq_getElem hq'] at h2
    have h2 : l[q] = (i : Int) := by simpa using h2
    have := fitE_zero.1 (h q hq')
    rw [h2, List.length_take, Nat.min_eq_left (by omega)] at this
    rcases this with h3 | ⟨h3, _⟩
    ·omega
    ·have hc : clashF j (i : Int) (hourAt j q) 0 (l.take q) = true := clash_iff.2 ⟨p, by rw [List.getElem?_take_of_lt hpq]; exact h1, by rw [Nat.zero_add]; exact e⟩
     rw [hc] at h3
     cases h3
   intro p q hp hq hne i h1 h2
   show hourAt j p ≠ hourAt j q
   rcases Nat.lt_or_gt_of_ne hne with h3 | h3
   ·exact key p q h3 hq i h1 h2
   ·exact (key q p h3 hp i h2 h1).symm
  ·intro i hi
   rw [hnJ] at hi
   rw [cnt_all hl]
   have : ∀ k, k ≤ l.length → countV i (l.take k) ≤ (jyJ j).ld i := by
    intro k
    induction k with
    | zero => intro _; have := (ldJ_pos g hi).2; simpa [countV] using this
    | succ k ih =>
     intro hk
     have ih := ih (by omega)
     have hk' : k < l.length := by omega
     rw [List.take_succ, List.getElem?_eq_getElem hk', Option.toList_some, countV_app]
     by_cases e : l[k] = (i : Int)
     ·rw [if_pos e]
      have := fitE_zero.1 (h k hk')
      rw [e, load_at g hi] at this
      rcases this with h3 | ⟨_, h3⟩
      ·omega
      ·exact h3
     ·rw [if_neg e]; omega
   have := this l.length (Nat.le_refl _)
   rw [List.take_length] at this
   exact this
 ·intro h k hk
  rw [fitE_zero]
  by_cases h0 : l[k] < 0
  ·exact .inl h0
  ·obtain ⟨i, hi⟩ : ∃ i : Nat, l[k] = i := ⟨l[k].toNat, by omega⟩
   have hb : toB l k = some i := by rw [toB_some, List.getElem?_eq_getElem hk, hi]
   have hin := (h.fit k (by omega) i hb).1
   rw [hnJ] at hin
   refine .inr ⟨?_, ?_⟩
   ·rw [hi, List.length_take, Nat.min_eq_left (by omega)]
    cases hc : clashF j (i : Int) (hourAt j k) 0 (l.take k)
    ·rfl
    ·obtain ⟨q, h1, h2⟩ := clash_iff.1 hc
     rw [Nat.zero_add] at h2
     have hq : q < k := by
      have := (List.getElem?_eq_some_iff.1 h1).1
      rw [List.length_take] at this
      omega
     rw [List.getElem?_take_of_lt hq] at h1
     exact absurd h2 (h.apart q k (by omega) (by omega) (by omega) i (toB_some.2 h1) hb)
   ·rw [hi, load_at g hin]
    have h1 := h.ld i hin
    rw [cnt_all hl] at h1
    have h2 : l = l.take (k + 1) ++ l.drop (k + 1) := (List.take_append_drop _ _).symm
    have h3 : countV i l = countV i (l.take (k + 1)) + countV i (l.drop (k + 1)) := by
     rw [← countV_app2, List.take_append_drop]
    have h4 := countV_nonneg i (l.drop (k + 1))
    rw [List.take_succ, List.getElem?_eq_getElem hk, Option.toList_some, countV_app, hi, if_pos rfl] at h3
    omega
theorem appE_zero {j : Jur} {a : List Int} : appE j a = 0 ↔ a.length = j.pts.length ∧ (∀ k (hk : k < a.length), Ent j k a[k]) ∧ FitL j a := by
 unfold appE
 by_cases h : a.length = j.pts.length
 ·rw [if_neg (by simpa using h)]
  have e1 : eachE (fun pre v => numE j pre.length v) [] a = 0 ↔ ∀ k (hk : k < a.length), Ent j k a[k] := by
   rw [eachE_zero]
   constructor
   ·intro h1 k hk
    have := h1 k hk
    rw [List.nil_append, List.length_take, Nat.min_eq_left (by omega), numE_zero] at this
    exact this
   ·intro h1 k hk
    show numE j ([] ++ a.take k).length a[k] = 0
    rw [List.nil_append, List.length_take, Nat.min_eq_left (by omega), numE_zero]
    exact h1 k hk
  have e2 : eachE (fitE j) [] a = 0 ↔ FitL j a := by
   rw [eachE_zero]
   unfold FitL
   simp only [List.nil_append]
  by_cases h1 : eachE (fun pre v => numE j pre.length v) [] a = 0
  ·rw [if_neg (by simpa using h1), e2]
   exact ⟨fun h2 => ⟨h, e1.1 h1, h2⟩, fun h2 => h2.2.2⟩
  ·rw [if_pos (by simpa using h1)]
   exact ⟨fun h2 => absurd h2 h1, fun h2 => absurd (e1.2 h2.2.1) h1⟩
 ·rw [if_pos (by simpa using h)]
  simp [h]
end LM.G9
namespace LM.G9
open Go LM
theorem fixd_eq (a : List Int) (opn p : Nat) : fixd a opn p = if bitB opn p = true then none else toB a p := by
 unfold fixd toB
 cases a[p]? with
 | none => simp
 | some x =>
  simp only []
  cases bitB opn p <;> simp
theorem clr_bits : (List.range 32).all (fun v => (List.range 5).all fun p => (List.range 5).all fun q => bitB (clr v p) q == (bitB v q && q != p)) = true := by decide +kernel
theorem clr_bit {v p q : Nat} (hv : v < 32) (hp : p < 5) (hq : q < 5) : bitB (clr v p) q = (bitB v q && q != p) :=
 eq_of_beq (List.all_eq_true.1 (List.all_eq_true.1 (List.all_eq_true.1 clr_bits v (List.mem_range.2 hv)) p (List.mem_range.2 hp)) q (List.mem_range.2 hq))
theorem Valid.sub {J : Jy} {B B' : Nat → Option Nat} (h : Valid J B) (hs : ∀ q, q < J.m → ∀ i, B' q = some i → B q = some i) : Valid J B' := by
 refine ⟨fun p hp i hi => h.fit p hp i (hs p hp i hi), fun p q hp hq hne i h1 h2 => h.apart p q hp hq hne i (hs p hp i h1) (hs q hq i h2), fun i hi => ?_⟩
 have h1 := h.ld i hi
 have h2 : cntA J B' i ≤ cntA J B i := by
  unfold cntA
  refine List.countP_mono_left fun p hp hpi => ?_
  rw [decide_eq_true_eq] at hpi ⊢
  exact hs p (List.mem_range.1 hp) i hpi
 omega
def RightB (j : Jur) (a : List Int) (off : Nat) (B : Nat → Option Nat) : Prop :=
 ∀ q, q < j.pts.length → (a[q]? = some (off : Int) → B q ≠ none ∧ B q ≠ some off) ∧ (a[q]? ≠ some (off : Int) → B q = toB a q)
def ExB (j : Jur) (a : List Int) (off p : Nat) (out : List Int) : Prop := ∃ B, Valid (jyJ j) B ∧ RightB j a off B ∧ ∀ q, q < p → B q = toB out q
structure LInv (j : Jur) (a : List Int) (off p : Nat) (out : List Int) (opn : Nat) : Prop where
 len : out.length = j.pts.length
 ent : ∀ k (hk : k < out.length), Ent j k out[k]
 bits : ∀ q, q < j.pts.length → (bitB opn q = true ↔ p ≤ q ∧ a[q]? = some (off : Int))
 done : ∀ q, q < p → (a[q]? = some (off : Int) → ∃ i : Nat, out[q]? = some (i : Int) ∧ i ≠ off) ∧ (a[q]? ≠ some (off : Int) → out[q]? = a[q]?)
 rest : ∀ q, p ≤ q → out[q]? = a[q]?
theorem toB_congr {l k : List Int} {q : Nat} (h : l[q]? = k[q]?) : toB l q = toB k q := by unfold toB; rw [h]
theorem toB_set_ne {l : List Int} {p q : Nat} {x : Int} (h : q ≠ p) : toB (l.set p x) q = toB l q := toB_congr (List.getElem?_set_ne (Ne.symm h))
theorem toB_set_eq {l : List Int} {p i : Nat} (h : p < l.length) : toB (l.set p (i : Int)) p = some i := by
 rw [toB_some, List.getElem?_set_self h]
theorem LInv.put {j : Jur} {a : List Int} {off p : Nat} {out : List Int} {opn : Nat} (h : LInv j a off p out opn) (hp : p < j.pts.length) (hm : j.pts.length ≤ 5) (ho : opn < 2 ^ j.pts.length) (hap : a[p]? = some (off : Int)) {i : Nat} (hi : i < j.ofs.length) (hne : i ≠ off) (hs : servF j i p = true) : LInv j a off (p + 1) (out.set p i) (clr opn p) := by
 have h32 := pow32 hm
 have hpl : p < out.length := by rw [h.len]; exact hp
 refine ⟨by rw [List.length_set]; exact h.len, ?_, ?_, ?_, ?_⟩
 ·intro k hk
  rw [List.length_set] at hk
  by_cases e : k = p
  ·subst e
   rw [List.getElem_set_self]
   exact .inr ⟨by omega, by omega, hs⟩
  ·rw [List.getElem_set_ne (Ne.symm e)]
   exact h.ent k hk
 ·intro q hq
  rw [clr_bit (by omega) (by omega) (by omega), Bool.and_eq_true, h.bits q hq, bne_iff_ne]
  constructor
  ·rintro ⟨⟨h1, h2⟩, h3⟩; exact ⟨by omega, h2⟩
  ·rintro ⟨h1, h2⟩; exact ⟨⟨by omega, h2⟩, by omega⟩
 ·intro q hq
  by_cases e : q = p
  ·subst e
   rw [List.getElem?_set_self hpl]
   exact ⟨fun _ => ⟨i, rfl, hne⟩, fun hn => absurd hap hn⟩
  ·rw [List.getElem?_set_ne (Ne.symm e)]
   exact h.done q (by omega)
 ·intro q hq
  rw [List.getElem?_set_ne (by omega)]
  exact h.rest q (by omega)
theorem LInv.skip {j : Jur} {a : List Int} {off p : Nat} {out : List Int} {opn : Nat} (h : LInv j a off p out opn) (hap : a[p]? ≠ some (off : Int)) : LInv j a off (p + 1) out opn := by
 refine ⟨h.len, h.ent, fun q hq => ?_, fun q hq => ?_, fun q hq => h.rest q (by omega)⟩
 ·rw [h.bits q hq]
  constructor
  ·rintro ⟨h1, h2⟩
   refine ⟨?_, h2⟩
   rcases Nat.lt_or_ge p q with h3 | h3
   ·exact h3
   ·have : q = p := by omega
    subst this
    exact absurd h2 hap
  ·rintro ⟨h1, h2⟩; exact ⟨by omega, h2⟩
 ·by_cases e : q = p
  ·subst e
   exact ⟨fun h1 => absurd h1 hap, fun _ => h.rest q (Nat.le_refl _)⟩
  ·exact h.done q (by omega)
theorem cpl_ex {j : Jur} (g : Good j) {a : List Int} {off p : Nat} (hpm : p ≤ j.pts.length) {out : List Int} {opn : Nat} (h : LInv j a off p out opn) : cplB j off out opn = true ↔ ExB j a off p out := by
 have hmJ : (jyJ j).m = j.pts.length := rfl
 have hnb : ∀ q, q < j.pts.length → bitB opn q ≠ true → ∀ k, toB out q = some k → k < j.ofs.length ∧ servF j k q = true ∧ ((k : Int) ≠ (off : Int)) := by
  intro q hq hb k hk
  have hql : q < out.length := by rw [h.len]; exact hq
  rw [toB_some] at hk
  have hk' : out[q] = (k : Int) := by rw [List.getElem?_eq_getElem hql] at hk; simpa using hk
  have he := h.ent q hql
  rw [hk'] at he
  rcases he with e | ⟨_, e2, e3⟩
  ·omega
  ·refine ⟨by omega, e3, ?_⟩
   have hb : ¬ (p ≤ q ∧ a[q]? = some (off : Int)) := fun hh => hb ((h.bits q hq).2 hh)
   intro e
   rw [e] at hk
   by_cases hqp : p ≤ q
   ·rw [h.rest q hqp] at hk
    exact hb ⟨hqp, hk⟩
   ·by_cases ha : a[q]? = some (off : Int)
    ·obtain ⟨i, h1, h2⟩ := (h.done q (by omega)).1 ha
     rw [hk] at h1
     have : (off : Int) = i := by simpa using h1
     omega
    ·rw [(h.done q (by omega)).2 ha] at hk
     exact ha hk
 have heq : ∀ q, q < j.pts.length → a[q]? ≠ some (off : Int) → toB out q = toB a q := by
  intro q hq ha
  by_cases hqp : p ≤ q
  ·exact toB_congr (h.rest q hqp)
  ·exact toB_congr ((h.done q (by omega)).2 ha)
 rw [cpl_iff g (off : Int) out opn fun q i hq hf => by
  rw [fixd_eq] at hf
  by_cases hb : bitB opn q = true
  ·rw [if_pos hb] at hf; cases hf
  ·rw [if_neg hb] at hf
   exact hnb q hq hb i hf]
 constructor
 ·rintro ⟨B, hB, h1, h2, h3⟩
  refine ⟨fun q => if bitB opn q = true then B q else toB out q, hB.sub fun q hq i hi => ?_, fun q hq => ⟨fun ha => ?_, fun ha => ?_⟩, fun q hq => ?_⟩
  ·rw [hmJ] at hq
   by_cases hb : bitB opn q = true
   ·simp only [hb, if_true] at hi; exact hi
   ·simp only [hb] at hi
    refine h1 q hq i ?_
    rw [fixd_eq, if_neg hb]
    exact hi
  ·by_cases hqp : p ≤ q
   ·have hb := (h.bits q hq).2 ⟨hqp, ha⟩
    simp only [hb, if_true]
    refine ⟨h2 q hq hb, fun e => h3 q hq off e rfl⟩
   ·have hb : ¬ bitB opn q = true := fun hb => hqp ((h.bits q hq).1 hb).1
    simp only [hb]
    obtain ⟨i, e1, e2⟩ := (h.done q (by omega)).1 ha
    have : toB out q = some i := toB_some.2 e1
    rw [if_neg (by simp), this]
    exact ⟨by simp, fun e => e2 (by simpa using e)⟩
  ·have hb : ¬ bitB opn q = true := fun hb => ha ((h.bits q hq).1 hb).2
   simp only [hb]
   rw [if_neg (by simp)]
   exact heq q hq ha
  ·have hb : ¬ bitB opn q = true := fun hb => by have := ((h.bits q (by omega)).1 hb).1; omega
   simp only [hb]
   rw [if_neg (by simp)]
 ·rintro ⟨B, hB, hR, hag⟩
  refine ⟨B, hB, fun q hq i hf => ?_, fun q hq hb => ((hR q hq).1 ((h.bits q hq).1 hb).2).1, fun q hq i hi e => ?_⟩
  ·rw [fixd_eq] at hf
   by_cases hb : bitB opn q = true
   ·rw [if_pos hb] at hf; cases hf
   ·rw [if_neg hb] at hf
    by_cases hqp : q < p
    ·rw [hag q hqp]; exact hf
    ·have ha : a[q]? ≠ some (off : Int) := fun ha => hb ((h.bits q hq).2 ⟨by omega, ha⟩)
     rw [(hR q hq).2 ha, ← heq q hq ha]
     exact hf
  ·have e' : i = off := by omega
   subst e'
   by_cases ha : a[q]? = some (i : Int)
   ·exact ((hR q hq).1 ha).2 hi
   ·rw [(hR q hq).2 ha, toB_some] at hi
    exact ha hi
def Least (j : Jur) (a : List Int) (off : Nat) : Nat → Nat → List Int → List Int → Prop
 | 0, _, out, out2 => out2 = out
 | d + 1, p, out, out2 => (a[p]? ≠ some (off : Int) ∧ Least j a off d (p + 1) out out2) ∨
   (a[p]? = some (off : Int) ∧ ∃ i : Nat, i < j.ofs.length ∧ i ≠ off ∧ servF j i p = true ∧ ExB j a off (p + 1) (out.set p i) ∧ (∀ k : Nat, k < i → k ≠ off → servF j k p = true → ¬ ExB j a off (p + 1) (out.set p k)) ∧ Least j a off d (p + 1) (out.set p i) out2)
theorem tryO_some {C : List Int → Nat → Bool} {j : Jur} {wo : Int} {p opn : Nat} {out r : List Int} : ∀ {d b : Nat}, tryO C j wo p opn out (List.range' b d) = some r →
  ∃ i, b ≤ i ∧ i < b + d ∧ (i : Int) ≠ wo ∧ servF j i p = true ∧ C (out.set p i) (clr opn p) = true ∧ r = out.set p i ∧ ∀ k, b ≤ k → k < i → (k : Int) ≠ wo → servF j k p = true → C (out.set p k) (clr opn p) = false
 | 0, b, h => by cases h
 | d + 1, b, h => by
  rw [List.range'_succ, tryO] at h
  split at h
  ·rename_i hc
   cases h
   exact ⟨b, Nat.le_refl _, by omega, hc.1.1, hc.1.2, hc.2, rfl, fun k h1 h2 => absurd h2 (by omega)⟩
  ·rename_i hc
   obtain ⟨i, h1, h2, h3, h4, h5, h6, h7⟩ := tryO_some h
   refine ⟨i, by omega, by omega, h3, h4, h5, h6, fun k k1 k2 k3 k4 => ?_⟩
   by_cases e : k = b
   ·subst e
    cases hC : C (out.set p k) (clr opn p)
    ·rfl
    ·exact absurd ⟨⟨k3, k4⟩, hC⟩ hc
   ·exact h7 k (by omega) k2 k3 k4
theorem tryO_none {C : List Int → Nat → Bool} {j : Jur} {wo : Int} {p opn : Nat} {out : List Int} : ∀ {d b : Nat}, tryO C j wo p opn out (List.range' b d) = none →
  ∀ k, b ≤ k → k < b + d → (k : Int) ≠ wo → servF j k p = true → C (out.set p k) (clr opn p) = false
 | 0, b, _, k, h1, h2 => absurd h2 (by omega)
 | d + 1, b, h, k, h1, h2 => by
  rw [List.range'_succ, tryO] at h
  split at h
  ·cases h
  ·rename_i hc
   intro k3 k4
   by_cases e : k = b
   ·subst e
    cases hC : C (out.set p k) (clr opn p)
    ·rfl
    ·exact absurd ⟨⟨k3, k4⟩, hC⟩ hc
   ·exact tryO_none h k (by omega) (by omega) k3 k4
theorem ExB.step {j : Jur} {a : List Int} {off p : Nat} {out : List Int} (h : ExB j a off (p + 1) out) : ExB j a off p out := by
 obtain ⟨B, h1, h2, h3⟩ := h
 exact ⟨B, h1, h2, fun q hq => h3 q (by omega)⟩
theorem ExB.congr {j : Jur} {a : List Int} {off p : Nat} {out out' : List Int} (h : ExB j a off p out) (e : ∀ q, q < p → toB out' q = toB out q) : ExB j a off p out' := by
 obtain ⟨B, h1, h2, h3⟩ := h
 exact ⟨B, h1, h2, fun q hq => by rw [e q hq]; exact h3 q hq⟩
theorem lead_spec {j : Jur} (g : Good j) {a : List Int} {off : Nat} (hm : j.pts.length ≤ 5) : ∀ (d p : Nat) (out : List Int) (opn : Nat), p + d = j.pts.length → opn < 2 ^ j.pts.length → LInv j a off p out opn →
  (ExB j a off p out → ∃ out2 opn2, leadL (cplB j off) j off (List.range' p d) out opn = some out2 ∧ LInv j a off j.pts.length out2 opn2 ∧ ExB j a off j.pts.length out2 ∧ Least j a off d p out out2) ∧
  (¬ ExB j a off p out → leadL (cplB j off) j off (List.range' p d) out opn = none ∨ ((∀ q, p ≤ q → q < j.pts.length → a[q]? ≠ some (off : Int)) ∧ leadL (cplB j off) j off (List.range' p d) out opn = some out)) := by
 intro d
 induction d with
 | zero =>
  intro p out opn hd ho h
  have hp : p = j.pts.length := by omega
  subst hp
  exact ⟨fun hE => ⟨out, opn, rfl, h, hE, rfl⟩, fun _ => .inr ⟨fun q h1 h2 => absurd h2 (by omega), rfl⟩⟩
 | succ d ih =>
  intro p out opn hd ho h
  have hp : p < j.pts.length := by omega
  have hpl : p < out.length := by rw [h.len]; exact hp
  rw [List.range'_succ, leadL]
  by_cases ha : a[p]? = some (off : Int)
  ·have hb := (h.bits p hp).2 ⟨Nat.le_refl _, ha⟩
   rw [if_pos hb]
   have hC : ∀ i : Nat, i < j.ofs.length → i ≠ off → servF j i p = true → (cplB j off (out.set p i) (clr opn p) = true ↔ ExB j a off (p + 1) (out.set p i)) := fun i hi hne hs =>
    cpl_ex g (by omega) (h.put hp hm ho ha hi hne hs)
   have hcl := clr_le opn p
   cases ht : tryO (cplB j off) j off p opn out (List.range j.ofs.length) with
   | none =>
    simp only []
    rw [List.range_eq_range'] at ht
    have hn := tryO_none ht
    have hno : ¬ ExB j a off p out := by
     rintro ⟨B, hB, hR, hag⟩
     obtain ⟨h1, h2⟩ := (hR p hp).1 ha
     cases hBp : B p with
     | none => exact h1 hBp
     | some i =>
      obtain ⟨h3, h4⟩ := hB.fit p hp i hBp
      have hin : i < j.ofs.length := h3
      have hne : i ≠ off := fun e => h2 (by rw [hBp, e])
      have hf := hn i (Nat.zero_le _) (by omega) (by omega) h4
      have : cplB j off (out.set p i) (clr opn p) = true := (hC i hin hne h4).2 ⟨B, hB, hR, fun q hq => by
       by_cases e : q = p
       ·subst e; rw [toB_set_eq hpl]; exact hBp
       ·rw [toB_set_ne e]; exact hag q (by omega)⟩
      rw [hf] at this
      cases this
    exact ⟨fun hE => absurd hE hno, fun _ => .inl trivial⟩
   | some out' =>
    simp only []
    rw [List.range_eq_range'] at ht
    obtain ⟨i, _, h2, h3, h4, h5, rfl, h7⟩ := tryO_some ht
    have hin : i < j.ofs.length := by omega
    have hne : i ≠ off := by omega
    have hE' := (hC i hin hne h4).1 h5
    obtain ⟨k1, _⟩ := ih (p + 1) (out.set p i) (clr opn p) (by omega) (by omega) (h.put hp hm ho ha hin hne h4)
    obtain ⟨out2, opn2, e1, e2, e3, e4⟩ := k1 hE'
    have hE : ExB j a off p out := hE'.step.congr fun q hq => (toB_set_ne (by omega)).symm
    refine ⟨fun _ => ⟨out2, opn2, e1, e2, e3, .inr ⟨ha, i, hin, hne, h4, hE', fun k hk hko hks hEk => ?_, e4⟩⟩, fun hn => absurd hE hn⟩
    have := h7 k (Nat.zero_le _) hk (by omega) hks
    have := (hC k (by omega) hko hks).2 hEk
    simp_all
  ·have hb : ¬ bitB opn p = true := fun hb => ha ((h.bits p hp).1 hb).2
   rw [if_neg hb]
   obtain ⟨k1, k2⟩ := ih (p + 1) out opn (by omega) ho (h.skip ha)
   have hiff : ExB j a off p out ↔ ExB j a off (p + 1) out := by
    constructor
    ·rintro ⟨B, hB, hR, hag⟩
     refine ⟨B, hB, hR, fun q hq => ?_⟩
     by_cases e : q = p
     ·subst e
      rw [(hR q hp).2 ha]
      exact toB_congr (h.rest q (Nat.le_refl _)).symm
     ·exact hag q (by omega)
    ·exact fun h => h.step
   refine ⟨fun hE => ?_, fun hn => ?_⟩
   ·obtain ⟨out2, opn2, e1, e2, e3, e4⟩ := k1 (hiff.1 hE)
    exact ⟨out2, opn2, e1, e2, e3, .inl ⟨ha, e4⟩⟩
   ·rcases k2 (fun h => hn (hiff.2 h)) with h1 | ⟨h1, h2⟩
    ·exact .inl h1
    ·refine .inr ⟨fun q h3 h4 => ?_, h2⟩
     by_cases e : q = p
     ·subst e; exact ha
     ·exact h1 q (by omega) h4
end LM.G9
namespace LM.G9
open Go LM
variable {P : Nat → Option SFunc} [Has P]
@[simp] theorem S21 (b : Bool) (e : Int) : fn P 21 [.bool b, ci e] = some (ci (whenE b e)) := by
 rw [u21]; cases b <;> simp [c21, whenE]
end LM.G9
namespace LM.G9
open Go LM
variable {P : Nat → Option SFunc} [Has P] [HasP P]
theorem opnA_bit (a : List Int) (off : Int) (q : Nat) : ∀ k, bitB (opnA a off k) q = (decide (q < k) && decide (a[q]? = some off))
 | 0 => by simp [opnA, bitB]
 | k + 1 => by
  have ih := opnA_bit a off q k
  unfold opnA
  by_cases h : a[k]? = some off
  ·rw [if_pos h, or_bit, ih]
   by_cases e : q = k
   ·subst e; simp [h]
   ·have : decide (q < k + 1) = decide (q < k) := decide_eq_decide.2 (by omega)
    rw [this]; simp [e]
  ·rw [if_neg h, ih]
   by_cases e : q = k
   ·subst e; simp [h]
   ·have : decide (q < k + 1) = decide (q < k) := decide_eq_decide.2 (by omega)
    rw [this]
theorem LInv.init {j : Jur} {a : List Int} {off : Nat} (hl : a.length = j.pts.length) (he : ∀ k (hk : k < a.length), Ent j k a[k]) : LInv j a off 0 a (opnA a off j.pts.length) := by
 refine ⟨hl, he, fun q hq => ?_, fun q hq => absurd hq (by omega), fun q _ => rfl⟩
 rw [opnA_bit]
 simp [hq]
theorem ent_lt {j : Jur} {a : List Int} (he : ∀ k (hk : k < a.length), Ent j k a[k]) : ∀ x ∈ a, x < (j.ofs.length : Int) := by
 intro x hx
 obtain ⟨k, hk, rfl⟩ := List.getElem_of_mem hx
 rcases he k hk with h | ⟨_, h, _⟩ <;> omega
theorem ex_self {j : Jur} (g : Good j) {a : List Int} {off : Nat} (hl : a.length = j.pts.length) (he : ∀ k (hk : k < a.length), Ent j k a[k]) (hf : FitL j a) (hn : ∀ q, q < j.pts.length → a[q]? ≠ some (off : Int)) : ExB j a off 0 a :=
 ⟨toB a, (valid_iff g hl he).1 hf, fun q hq => ⟨fun h => absurd h (hn q hq), fun _ => rfl⟩, fun q hq => absurd hq (by omega)⟩
theorem lead_none {j : Jur} (g : Good j) {a : List Int} {off : Nat} (hm : j.pts.length ≤ 5) (hl : a.length = j.pts.length) (he : ∀ k (hk : k < a.length), Ent j k a[k]) (hf : FitL j a) (hn : ¬ ExB j a off 0 a) :
  leadL (cplB j off) j off (List.range j.pts.length) a (opnA a off j.pts.length) = none ∧ ∃ q, q < j.pts.length ∧ a[q]? = some (off : Int) := by
 have hex : ∃ q, q < j.pts.length ∧ a[q]? = some (off : Int) := by
  by_cases h : ∃ q, q < j.pts.length ∧ a[q]? = some (off : Int)
  ·exact h
  ·exact absurd (ex_self g hl he hf fun q hq e => h ⟨q, hq, e⟩) hn
 refine ⟨?_, hex⟩
 rw [List.range_eq_range']
 rcases (lead_spec g hm j.pts.length 0 a _ (by omega) (opnA_lt a off _ (Nat.le_refl _)) (LInv.init hl he)).2 hn with h | ⟨h, _⟩
 ·exact h
 ·obtain ⟨q, h1, h2⟩ := hex
  exact absurd h2 (h q (Nat.zero_le _) h1)
theorem lead_some {j : Jur} (g : Good j) {a : List Int} {off : Nat} (hm : j.pts.length ≤ 5) (hl : a.length = j.pts.length) (he : ∀ k (hk : k < a.length), Ent j k a[k]) (hE : ExB j a off 0 a) :
  ∃ r opn, leadL (cplB j off) j off (List.range j.pts.length) a (opnA a off j.pts.length) = some r ∧ LInv j a off j.pts.length r opn ∧ appE j r = 0 := by
 obtain ⟨r, opn, h1, h2, ⟨B, hB, _, hag⟩, _⟩ := (lead_spec g hm j.pts.length 0 a _ (by omega) (opnA_lt a off _ (Nat.le_refl _)) (LInv.init hl he)).1 hE
 rw [← List.range_eq_range'] at h1
 refine ⟨r, opn, h1, h2, appE_zero.2 ⟨h2.len, h2.ent, (valid_iff g h2.len h2.ent).2 (hB.sub fun q hq i hi => ?_)⟩⟩
 rw [hag q hq]; exact hi
end LM.G9
namespace LM.G9
open Go LM
def lastFit (j : Jur) (pre : List Int) : Bool := pre == [] || fitE j pre.dropLast (pre.getLastD 0) == 0
def allF (j : Jur) : Nat → List Int → List (List Int)
 | 0, pre => if lastFit j pre = true then [pre] else []
 | d + 1, pre => if lastFit j pre = true then allF j d (pre ++ [-1]) ++ (List.range j.ofs.length).flatMap fun k => if servF j k pre.length = true then allF j d (pre ++ [(k : Int)]) else [] else []
def EntL (j : Jur) (l : List Int) : Prop := ∀ k (hk : k < l.length), Ent j k l[k]
def FitP (j : Jur) (l : List Int) : Prop := ∀ k (hk : k + 1 < l.length), fitE j (l.take k) l[k] = 0
theorem last_fit {j : Jur} {pre : List Int} (hp : FitP j pre) : lastFit j pre = true ↔ FitL j pre := by
 unfold lastFit
 rcases List.eq_nil_or_concat pre with rfl | ⟨l, x, rfl⟩
 ·simp [FitL]
 ·have e1 : (l ++ [x]).dropLast = l := by simp
  have e2 : (l ++ [x]).getLastD 0 = x := by simp
  rw [List.concat_eq_append] at hp ⊢
  rw [e1, e2]
  have e3 : ((l ++ [x]) == []) = false := by simp
  rw [e3, Bool.false_or, beq_iff_eq]
  constructor
  ·intro h k hk
   by_cases e : k = l.length
   ·subst e
    simpa using h
   ·exact hp k (by rw [List.length_append, List.length_cons, List.length_nil] at hk ⊢; omega)
  ·intro h
   have := h l.length (by simp)
   simpa using this
theorem FitL.toP {j : Jur} {pre : List Int} (h : FitL j pre) (x : Int) : FitP j (pre ++ [x]) := by
 intro k hk
 rw [List.length_append, List.length_cons, List.length_nil] at hk
 have hk' : k < pre.length := by omega
 rw [List.getElem_append_left hk', List.take_append_of_le_length (by omega)]
 exact h k hk'
theorem EntL.snoc {j : Jur} {pre : List Int} {x : Int} (h : EntL j pre) (hx : Ent j pre.length x) : EntL j (pre ++ [x]) := by
 intro k hk
 by_cases e : k = pre.length
 ·subst e
  simpa using hx
 ·rw [List.length_append, List.length_cons, List.length_nil] at hk
  rw [List.getElem_append_left (by omega)]
  exact h k (by omega)
theorem allF_mem {j : Jur} : ∀ {d : Nat} {pre l : List Int}, l ∈ allF j d pre → EntL j pre → FitP j pre → EntL j l ∧ FitL j l ∧ l.length = pre.length + d ∧ l.take pre.length = pre
 | 0, pre, l, h, he, hf => by
  unfold allF at h
  split at h
  ·rename_i hl
   rw [List.mem_singleton] at h
   subst h
   exact ⟨he, (last_fit hf).1 hl, rfl, List.take_length⟩
  ·cases h
 | d + 1, pre, l, h, he, hf => by
  unfold allF at h
  split at h
  ·rename_i hl
   have hfl := (last_fit hf).1 hl
   have key : ∀ x : Int, Ent j pre.length x → l ∈ allF j d (pre ++ [x]) → EntL j l ∧ FitL j l ∧ l.length = pre.length + (d + 1) ∧ l.take pre.length = pre := by
    intro x hx hm
    obtain ⟨a1, a2, a3, a4⟩ := allF_mem hm (he.snoc hx) (hfl.toP x)
    rw [List.length_append, List.length_cons, List.length_nil] at a3 a4
    refine ⟨a1, a2, by omega, ?_⟩
    have := congrArg (List.take pre.length) a4
    rw [List.take_take, Nat.min_eq_left (by omega), List.take_append_of_le_length (Nat.le_refl _), List.take_length] at this
    exact this
   rcases List.mem_append.1 h with h | h
   ·exact key (-1) (.inl rfl) h
   ·obtain ⟨k, hk, hm⟩ := List.mem_flatMap.1 h
    split at hm
    ·rename_i hs
     exact key k (.inr ⟨by omega, by have := List.mem_range.1 hk; omega, hs⟩) hm
    ·cases hm
  ·cases h
def rightB (a : List Int) (off : Int) (l : List Int) : Bool := (List.range a.length).all fun k => if a[k]? = some off then decide (0 ≤ l.getD k 0) && decide (l.getD k 0 ≠ off) else decide (l[k]? = a[k]?)
theorem right_toB {j : Jur} {a l : List Int} {off : Nat} (ha : a.length = j.pts.length) (hl : l.length = j.pts.length) (h : rightB a off l = true) : RightB j a off (toB l) := by
 unfold rightB at h
 rw [List.all_eq_true] at h
 intro q hq
 have := h q (List.mem_range.2 (by omega))
 have hql : q < l.length := by omega
 constructor
 ·intro e
  rw [if_pos e] at this
  rw [Bool.and_eq_true, decide_eq_true_eq, decide_eq_true_eq, List.getD_eq_getElem?_getD, List.getElem?_eq_getElem hql] at this
  simp only [Option.getD_some] at this
  have hb : toB l q = some l[q].toNat := by rw [toB_some, List.getElem?_eq_getElem hql]; congr 1; omega
  rw [hb]
  refine ⟨by simp, fun e => ?_⟩
  have : l[q].toNat = off := by simpa using e
  omega
 ·intro e
  rw [if_neg e, decide_eq_true_eq] at this
  exact toB_congr this
theorem right_of {j : Jur} {a l : List Int} {off : Nat} (ha : a.length = j.pts.length) (hea : EntL j a) (hl : l.length = j.pts.length) (hel : EntL j l) (h : RightB j a off (toB l)) : rightB a off l = true := by
 unfold rightB
 rw [List.all_eq_true]
 intro q hq
 have hq := List.mem_range.1 hq
 obtain ⟨h1, h2⟩ := h q (by omega)
 have hql : q < l.length := by omega
 by_cases e : a[q]? = some (off : Int)
 ·rw [if_pos e, Bool.and_eq_true, decide_eq_true_eq, decide_eq_true_eq, List.getD_eq_getElem?_getD, List.getElem?_eq_getElem hql]
  simp only [Option.getD_some]
  obtain ⟨h3, h4⟩ := h1 e
  cases hb : toB l q with
  | none => exact absurd hb h3
  | some i =>
   rw [hb] at h4
   have hne : i ≠ off := fun e => h4 (by rw [e])
   rw [toB_some, List.getElem?_eq_getElem hql] at hb
   have hb : l[q] = (i : Int) := by simpa using hb
   omega
 ·rw [if_neg e, decide_eq_true_eq]
  have h3 := h2 e
  have hqa : q < a.length := hq
  rw [List.getElem?_eq_getElem hql, List.getElem?_eq_getElem hqa]
  congr 1
  cases hb : toB l q with
  | none =>
   have h4 : toB a q = none := by rw [← h3]; exact hb
   have n1 : l[q] < 0 := by
    unfold toB at hb
    rw [List.getElem?_eq_getElem hql] at hb
    simp only [] at hb
    by_cases h0 : l[q] < 0
    ·exact h0
    ·rw [if_neg h0] at hb; cases hb
   have n2 : a[q] < 0 := by
    unfold toB at h4
    rw [List.getElem?_eq_getElem hqa] at h4
    simp only [] at h4
    by_cases h0 : a[q] < 0
    ·exact h0
    ·rw [if_neg h0] at h4; cases h4
   rcases hel q hql with k1 | k1 <;> rcases hea q hqa with k2 | k2 <;> omega
  | some i =>
   have h4 : toB a q = some i := by rw [← h3]; exact hb
   rw [toB_some, List.getElem?_eq_getElem hql] at hb
   rw [toB_some, List.getElem?_eq_getElem hqa] at h4
   have hb : l[q] = (i : Int) := by simpa using hb
   have h4 : a[q] = (i : Int) := by simpa using h4
   rw [hb, h4]
end LM.G9
namespace LM.G9
open Go LM
theorem find_flat {α : Type} {f : Nat → List α} {q : α → Bool} {r : α} : ∀ {d b i : Nat}, b ≤ i → i < b + d → (∀ k, b ≤ k → k < i → (f k).find? q = none) → (f i).find? q = some r → ((List.range' b d).flatMap f).find? q = some r
 | 0, b, i, h1, h2, _, _ => absurd h2 (by omega)
 | d + 1, b, i, h1, h2, h3, h4 => by
  rw [List.range'_succ, List.flatMap_cons, List.find?_append]
  by_cases e : i = b
  ·subst e
   rw [h4]; rfl
  ·rw [h3 b (Nat.le_refl _) (by omega), find_flat (i := i) (by omega) (by omega) (fun k k1 k2 => h3 k (by omega) k2) h4]
   rfl
def ofB (j : Jur) (B : Nat → Option Nat) : List Int := (List.range j.pts.length).map fun q => match B q with
 | some i => (i : Int)
 | none => -1
theorem ofB_len (j : Jur) (B : Nat → Option Nat) : (ofB j B).length = j.pts.length := by simp [ofB]
theorem ofB_get {j : Jur} (B : Nat → Option Nat) {q : Nat} (hq : q < j.pts.length) : (ofB j B)[q]? = some (match B q with
 | some i => (i : Int)
 | none => -1) := by
 unfold ofB
 rw [List.getElem?_map, List.getElem?_range hq]
 rfl
theorem toB_ofB {j : Jur} (B : Nat → Option Nat) {q : Nat} (hq : q < j.pts.length) : toB (ofB j B) q = B q := by
 unfold toB
 rw [ofB_get B hq]
 cases B q with
 | none => rfl
 | some i =>
  simp only []
  rw [if_neg (by omega)]
  rfl
theorem ofB_ent {j : Jur} {B : Nat → Option Nat} (h : Fit (jyJ j) B) : EntL j (ofB j B) := by
 intro k hk
 have hk' : k < j.pts.length := by rw [ofB_len] at hk; exact hk
 have e := ofB_get (j := j) B hk'
 rw [List.getElem?_eq_getElem hk] at e
 have e : (ofB j B)[k] = match B k with
  | some i => (i : Int)
  | none => -1 := by simpa using e
 rw [e]
 cases hb : B k with
 | none => exact .inl rfl
 | some i =>
  obtain ⟨h1, h2⟩ := h k hk' i hb
  have h1 : i < j.ofs.length := h1
  exact .inr ⟨by simp only []; omega, by simp only []; omega, h2⟩
theorem FitL.take {j : Jur} {l : List Int} (h : FitL j l) (p : Nat) : FitL j (l.take p) := by
 intro k hk
 have hk1 : k < p ∧ k < l.length := by rw [List.length_take] at hk; omega
 rw [List.take_take, Nat.min_eq_left (by omega), List.getElem_take]
 exact h k hk1.2
theorem Ent.get {j : Jur} {l : List Int} (h : EntL j l) {q : Nat} (hq : q < l.length) : l[q]? = some (match toB l q with
 | some i => (i : Int)
 | none => -1) := by
 rw [List.getElem?_eq_getElem hq]
 congr 1
 rcases h q hq with e | ⟨e, _⟩
 ·have : toB l q = none := by unfold toB; rw [List.getElem?_eq_getElem hq, e]; rfl
  rw [this, e]
 ·have : toB l q = some l[q].toNat := by rw [toB_some, List.getElem?_eq_getElem hq]; congr 1; omega
  rw [this]
  simp only []
  omega
theorem ex_fit {j : Jur} (g : Good j) {a out : List Int} {off p : Nat} (hl : out.length = j.pts.length) (he : EntL j out) (hp : p ≤ j.pts.length) (h : ExB j a off p out) : FitL j (out.take p) := by
 obtain ⟨B, hB, _, hag⟩ := h
 have hB' : Valid (jyJ j) (toB (ofB j B)) := hB.sub fun q hq i hi => by rw [toB_ofB B hq] at hi; exact hi
 have h1 := ((valid_iff g (ofB_len j B) (ofB_ent hB.fit)).2 hB').take p
 have : (ofB j B).take p = out.take p := by
  apply List.ext_getElem?
  intro q
  by_cases hq : q < p
  ·rw [List.getElem?_take_of_lt hq, List.getElem?_take_of_lt hq, ofB_get B (by omega), Ent.get he (by omega), hag q hq]
  ·rw [List.getElem?_eq_none (by rw [List.length_take]; omega), List.getElem?_eq_none (by rw [List.length_take]; omega)]
 rw [this] at h1
 exact h1
theorem EntL.take {j : Jur} {l : List Int} (h : EntL j l) (p : Nat) : EntL j (l.take p) := by
 intro k hk
 have hk1 : k < l.length := by rw [List.length_take] at hk; omega
 rw [List.getElem_take]
 exact h k hk1
theorem allF_ex {j : Jur} (g : Good j) {a out l : List Int} {off p d : Nat} (hal : a.length = j.pts.length) (hd : p + 1 + d = j.pts.length) (hl : out.length = j.pts.length) (he : EntL j out) (hf : FitL j (out.take p)) {x : Int} (hx : Ent j p x) (hm : l ∈ allF j d (out.take p ++ [x])) (hr : rightB a off l = true) :
  l[p]? = some x ∧ RightB j a off (toB l) ∧ ExB j a off (p + 1) l ∧ ∀ q, q < p → toB l q = toB out q := by
 have htl : (out.take p).length = p := by rw [List.length_take]; omega
 obtain ⟨h1, h2, h3, h4⟩ := allF_mem hm ((he.take p).snoc (by rw [htl]; exact hx)) (hf.toP x)
 rw [List.length_append, htl, List.length_cons, List.length_nil] at h3 h4
 have hll : l.length = j.pts.length := by omega
 have hR := right_toB hal hll hr
 have hV := (valid_iff g hll h1).1 h2
 have hg : ∀ q, q < p + 1 → l[q]? = (out.take p ++ [x])[q]? := fun q hq => by rw [← h4, List.getElem?_take_of_lt (by omega)]
 refine ⟨?_, hR, ⟨toB l, hV, hR, fun q _ => rfl⟩, fun q hq => toB_congr ?_⟩
 ·rw [hg p (by omega), List.getElem?_append_right (by omega), htl]
  simp
 ·rw [hg q (by omega), List.getElem?_append_left (by omega), List.getElem?_take_of_lt hq]
theorem allF_first {j : Jur} (g : Good j) {a : List Int} {off : Nat} (hal : a.length = j.pts.length) (hea : EntL j a) (hm5 : j.pts.length ≤ 5) : ∀ (d p : Nat) (out out2 : List Int) (opn : Nat), p + d = j.pts.length → opn < 2 ^ j.pts.length → LInv j a off p out opn → ExB j a off p out → Least j a off d p out out2 → (allF j d (out.take p)).find? (rightB a off) = some out2
 | 0, p, out, out2, opn, hd, _, h, hE, hL => by
  have hp : p = out.length := by rw [h.len]; omega
  have hf := ex_fit g h.len h.ent (by omega) hE
  rw [hp, List.take_length] at hf ⊢
  rw [hL]
  have hlf := (last_fit (fun k hk => hf k (by omega))).2 hf
  rw [allF, if_pos hlf]
  obtain ⟨B, hB, hR, hag⟩ := hE
  have hr : rightB a off out = true := right_of hal hea h.len h.ent fun q hq => by
   rw [← hag q (by rw [hp, h.len]; exact hq)]
   exact hR q hq
  simp [hr]
 | d + 1, p, out, out2, opn, hd, ho, h, hE, hL => by
  have hp : p < j.pts.length := by omega
  have hpl : p < out.length := by rw [h.len]; exact hp
  have hf := ex_fit g h.len h.ent (by omega) hE
  have htl : (out.take p).length = p := by rw [List.length_take]; omega
  have hlf := (last_fit (fun k hk => hf k (by omega))).2 hf
  have hcl := clr_le opn p
  rw [allF, if_pos hlf, List.find?_append, htl]
  have nr : ∀ x : Int, Ent j p x → (∀ l, l ∈ allF j d (out.take p ++ [x]) → rightB a off l = true → False) → (allF j d (out.take p ++ [x])).find? (rightB a off) = none := fun x _ hx => by
   rw [List.find?_eq_none]
   intro l hl hr
   exact hx l hl hr
  have hsF : ∀ k : Nat, k < j.ofs.length → servF j k p = true → Ent j p k := fun k hk hs => .inr ⟨by omega, by omega, hs⟩
  rcases hL with ⟨ha, hL⟩ | ⟨ha, i, hi, hne, hs, hEi, hno, hL⟩
  ·have hap : p < a.length := by omega
   have hx : out[p]? = a[p]? := h.rest p (Nat.le_refl _)
   rw [List.getElem?_eq_getElem hpl, List.getElem?_eq_getElem hap] at hx
   have hx : out[p] = a[p] := by simpa using hx
   have hE' : ExB j a off (p + 1) out := by
    obtain ⟨B, hB, hR, hag⟩ := hE
    refine ⟨B, hB, hR, fun q hq => ?_⟩
    by_cases e : q = p
    ·subst e
     rw [(hR q hp).2 ha]
     exact toB_congr (h.rest q (Nat.le_refl _)).symm
    ·exact hag q (by omega)
   have ih := allF_first g hal hea hm5 d (p + 1) out out2 opn (by omega) ho (h.skip ha) hE' hL
   have htk : out.take (p + 1) = out.take p ++ [a[p]] := by
    rw [List.take_succ, List.getElem?_eq_getElem hpl, hx]; rfl
   rw [htk] at ih
   have bad : ∀ x : Int, Ent j p x → x ≠ a[p] → (allF j d (out.take p ++ [x])).find? (rightB a off) = none := fun x hxe hxn => nr x hxe fun l hl hr => by
    obtain ⟨e1, e2, _, _⟩ := allF_ex g hal (by omega) h.len h.ent hf hxe hl hr
    have e3 := (e2 p hp).2 ha
    have hea' := hea p hap
    have t1 : toB l p = (if x < 0 then none else some x.toNat) := by unfold toB; rw [e1]
    have t2 : toB a p = (if a[p] < 0 then none else some a[p].toNat) := by unfold toB; rw [List.getElem?_eq_getElem hap]
    rw [t1, t2] at e3
    by_cases h1 : x < 0
    ·by_cases h2 : a[p] < 0
     ·rcases hxe with k1 | k1 <;> rcases hea' with k2 | k2 <;> omega
     ·rw [if_pos h1, if_neg h2] at e3; cases e3
    ·by_cases h2 : a[p] < 0
     ·rw [if_neg h1, if_pos h2] at e3; cases e3
     ·rw [if_neg h1, if_neg h2] at e3
      have : x.toNat = a[p].toNat := by simpa using e3
      omega
   rcases hea p hap with e | ⟨e1, e2, e3⟩
   ·rw [e] at ih
    rw [ih]; rfl
   ·rw [bad (-1) (.inl rfl) (by omega), Option.none_or, List.range_eq_range']
    obtain ⟨i, hi⟩ : ∃ i : Nat, a[p] = i := ⟨a[p].toNat, by omega⟩
    have hs : servF j i p = true := by rw [hi] at e3; exact e3
    refine find_flat (i := i) (Nat.zero_le _) (by omega) (fun k _ hk => ?_) ?_
    ·split
     ·rename_i hsk
      exact bad k (hsF k (by omega) hsk) (by omega)
     ·rfl
    ·rw [if_pos hs, ← hi]
     exact ih
  ·have ih := allF_first g hal hea hm5 d (p + 1) (out.set p i) out2 (clr opn p) (by omega) (by omega) (h.put hp hm5 ho ha hi hne hs) hEi hL
   have htk : (out.set p (i : Int)).take (p + 1) = out.take p ++ [(i : Int)] := by
    rw [List.take_succ, List.getElem?_set_self hpl, List.take_set_of_le (Nat.le_refl _)]; rfl
   rw [htk] at ih
   have bad : ∀ x : Int, Ent j p x → (x < 0 ∨ x = off ∨ ∃ k : Nat, x = k ∧ k < i ∧ k ≠ off ∧ servF j k p = true) → (allF j d (out.take p ++ [x])).find? (rightB a off) = none := fun x hxe hxn => nr x hxe fun l hl hr => by
    obtain ⟨e1, e2, e3, e4⟩ := allF_ex g hal (by omega) h.len h.ent hf hxe hl hr
    obtain ⟨r1, r2⟩ := (e2 p hp).1 ha
    have t1 : toB l p = (if x < 0 then none else some x.toNat) := by unfold toB; rw [e1]
    rcases hxn with h1 | rfl | ⟨k, rfl, hk, hko, hks⟩
    ·exact r1 (by rw [t1, if_pos h1])
    ·exact r2 (by rw [t1, if_neg (by omega)]; rfl)
    ·refine hno k hk hko hks (e3.congr fun q hq => ?_)
     by_cases e : q = p
     ·subst e
      rw [toB_set_eq hpl, t1, if_neg (by omega)]
      rfl
     ·rw [toB_set_ne e]
      exact (e4 q (by omega)).symm
   rw [bad (-1) (.inl rfl) (.inl (by omega)), Option.none_or, List.range_eq_range']
   refine find_flat (i := i) (Nat.zero_le _) (by omega) (fun k _ hk => ?_) ?_
   ·split
    ·rename_i hsk
     by_cases hko : k = off
     ·exact bad k (hsF k (by omega) hsk) (.inr (.inl (by omega)))
     ·exact bad k (hsF k (by omega) hsk) (.inr (.inr ⟨k, rfl, hk, hko, hsk⟩))
    ·rfl
   ·rw [if_pos hs]
    exact ih
theorem first_lead {j : Jur} (g : Good j) {a : List Int} {off : Nat} (hal : a.length = j.pts.length) (hea : EntL j a) (hf : FitL j a) (hm5 : j.pts.length ≤ 5) :
  (allF j j.pts.length []).find? (rightB a off) = leadL (cplB j off) j off (List.range j.pts.length) a (opnA a off j.pts.length) := by
 by_cases hE : ExB j a off 0 a
 ·obtain ⟨r, opn, h1, _, _, h4⟩ := (lead_spec g hm5 j.pts.length 0 a _ (by omega) (opnA_lt a off _ (Nat.le_refl _)) (LInv.init hal hea)).1 hE
  rw [← List.range_eq_range'] at h1
  rw [h1]
  exact allF_first g hal hea hm5 j.pts.length 0 a r _ (by omega) (opnA_lt a off _ (Nat.le_refl _)) (LInv.init hal hea) hE h4
 ·rw [(lead_none g hm5 hal hea hf hE).1, List.find?_eq_none]
  intro l hl hr
  obtain ⟨h1, h2, h3, _⟩ := allF_mem hl (fun k hk => absurd hk (by simp)) (fun k hk => absurd hk (by simp))
  have hll : l.length = j.pts.length := by simpa using h3
  exact hE ⟨toB l, (valid_iff g hll h1).1 h2, right_toB hal hll hr, fun q hq => absurd hq (by omega)⟩
end LM.G9
namespace LM.G9
open Go LM
variable {P : Nat → Option SFunc} [Has P]
theorem L76 (a b : List Int) (hl : b.length = a.length) (h : a.length < 1000) : ∀ (d i : Nat), i + d = a.length → a.take i = b.take i →
  execS P (limS P) c76_l0 ⟨[.c (.slice (a.map ci)), .c (.slice (b.map ci)), .c (ci i)], []⟩ = if a = b then some (.exit 0, ⟨[], []⟩) else some (.ret, ⟨[.c (.bool false)], []⟩) := by
 intro d
 induction d with
 | zero =>
  intro i hd hp
  have hi : i = a.length := by omega
  subst hi
  have : a = b := by rw [List.take_length, ← hl, List.take_length] at hp; exact hp
  rw [if_pos this, r76_l0]
  simp [c76_l0b]
 | succ d ih =>
  intro i hd hp
  have hi : i < a.length := by omega
  have hi2 : i < b.length := by omega
  have hw : IntKind.i64.wrap ((i : Int) + 1) = (i : Int) + 1 := wrap64 (by omega) (by omega)
  have hx : a[i]? = some a[i] := List.getElem?_eq_getElem hi
  have hy : b[i]? = some b[i] := List.getElem?_eq_getElem hi2
  rw [r76_l0]
  by_cases e : a[i] = b[i]
  ·have ih := ih (i + 1) (by omega) (by rw [List.take_succ, List.take_succ, hp, hx, hy, e])
   simp at ih
   simp [c76_l0b, hi, hi2, hx, hy, e, hw, ih]
  ·have hne : a ≠ b := fun h => e (by subst h; rfl)
   rw [if_neg hne]
   simp [c76_l0b, hi, hi2, hx, hy, e]
theorem S76 (a b : List Int) (h : a.length < 1000) : fn P 76 [.slice (a.map ci), .slice (b.map ci)] = some (.bool (decide (a = b))) := by
 rw [u76]
 by_cases hl : a.length = b.length
 ·have k := L76 (P := P) a b hl.symm h a.length 0 (by omega) rfl
  by_cases e : a = b
  ·rw [if_pos e] at k
   simp at k
   simp [c76, hl, k, e]
   subst e
   simp [k]
  ·rw [if_neg e] at k
   simp at k
   simp [c76, hl, k, e]
 ·have hne : a ≠ b := fun h => hl (by rw [h])
  have hl' : ¬ (a.length : Int) = b.length := by omega
  simp [c76, hl', hne, hl]
theorem S49_ok (a b : List Int) (h : a.length < 1000) : fn P 49 [.slice (a.map ci), ci 0, ci 0, .slice (b.map ci)] = some (.bool (decide (a = b))) := by
 have e := S76 (P := P) a b h
 rw [u49]
 simp [c49, e]
theorem S49_bad (e b : Int) (w : CV) (hb : b ≠ 0) : fn P 49 [.slice [], ci e, ci b, w] = some (.bool (decide (e = b))) := by
 rw [u49]
 by_cases h : e = b <;> simp [c49, hb, h]
def truesC (m k : Nat) : List LV := (List.replicate k (.c (.bool true))) ++ List.replicate (m - k) (.c (.bool false))
theorem trues_set {m k : Nat} (h : k < m) : (truesC m k).set k (.c (.bool true)) = truesC m (k + 1) := by
 unfold truesC
 rw [List.set_append_right _ _ (by simp), List.length_replicate, Nat.sub_self, show m - k = (m - (k + 1)) + 1 from by omega, List.replicate_succ, List.set_cons_zero, List.replicate_succ', List.append_assoc]
 rfl
theorem trues_len {m k : Nat} (h : k ≤ m) : (truesC m k).length = m := by unfold truesC; simp; omega
theorem L115 (j : Jur) (m : Nat) (hm : m < 1000) : ∀ (d k : Nat), k + d = m →
  execS P (limS P) c115_l0 ⟨[.slice 2 1 0 m none (some m), .c (ci k)], [JB j, .cells 1 [] 0, .cells 1 (truesC m k) 0]⟩ = some (.exit 0, ⟨[.slice 2 1 0 m none (some m)], [JB j, .cells 1 [] 0, .cells 1 (truesC m m) 0]⟩) := by
 intro d
 induction d with
 | zero =>
  intro k hd
  have hk : k = m := by omega
  subst hk
  rw [r115_l0]
  simp [c115_l0b]
 | succ d ih =>
  intro k hd
  have hk : k < m := by omega
  have hw : IntKind.i64.wrap ((k : Int) + 1) = (k : Int) + 1 := wrap64 (by omega) (by omega)
  have ih := ih (k + 1) (by omega)
  have hs := trues_set hk
  have hl := trues_len (m := m) (k := k) (by omega)
  have hk1 : k + 1 ≤ m := hk
  unfold JB at *
  simp at ih
  rw [r115_l0]
  simp [c115_l0b, hk, hw, hs, hl, hk1, ih]
theorem S115 (j : Jur) (hm : j.pts.length < 1000) : fn P 115 [j.enc] = some (.slice (List.replicate j.pts.length (.bool true))) := by
 have k := L115 (P := P) j j.pts.length hm j.pts.length 0 (by omega)
 have e0 : truesC j.pts.length 0 = List.replicate j.pts.length (.c (.bool false)) := by unfold truesC; simp
 have e1 : truesC j.pts.length j.pts.length = cellsOf (List.replicate j.pts.length (CV.bool true)) := by
  unfold truesC cellsOf
  generalize j.pts.length = n
  induction n with
  | zero => rfl
  | succ n ih =>
   simp only [Nat.sub_self, List.replicate_zero, List.append_nil] at ih ⊢
   rw [List.replicate_succ, List.replicate_succ, List.flatMap_cons, List.map_append, ← ih]
   rfl
 rw [e0, e1] at k
 have s1 : (j.pts.length : Int) ≤ 140737488355328 := by omega
 have s2 : (j.pts.length : Int) ≤ 9223372036854775807 := by omega
 have hfz := fun (h : Heap) (hb : h[2]? = some (.cells 1 (cellsOf (List.replicate j.pts.length (CV.bool true))) 0)) => frz_own (b := 2) (g := 1) (fz := 0) (e := none) (ys := List.replicate j.pts.length (CV.bool true)) (h := h) (len := j.pts.length) hb (fun x hx => by rw [List.eq_of_mem_replicate hx]; exact ⟨rfl, rfl⟩) (by simp) (some j.pts.length)
 unfold JB at k
 simp at k
 rw [u115]
 simp [c115, Jur.enc, s1, s2, k, resV, hfz, -frz_slice]
def encL (l : List Int) : CV := .slice (l.map ci)
theorem encL_elems (ls : List (List Int)) : ∀ x ∈ ls.map encL, Elem none x := by
 intro x hx
 obtain ⟨l, _, rfl⟩ := List.mem_map.1 hx
 exact ⟨rfl, rfl⟩
theorem appX {pos e : Option Nat} {bytes b g : Nat} {ys xs : List CV} {H : Heap} (hb : H[b]? = some (.cells g (cellsOf ys) 0)) (hg : g ≠ 0) (hy : ∀ x ∈ ys, Elem e x) (hx : ∀ x ∈ xs, Elem e x) (hs : (ys.length + xs.length) * bytes ≤ 2 ^ 47) (hs2 : ys.length + xs.length ≤ 9223372036854775807) :
  ∃ g' H', g' ≠ 0 ∧ appendOp pos e bytes (.slice b g 0 ys.length e none) (.c (.slice xs)) H = some (.slice b g' 0 (ys.length + xs.length) e none, H') ∧ H'[b]? = some (.cells g' (cellsOf (ys ++ xs)) 0) ∧ H'.length = H.length ∧ ∀ b', b' ≠ b → H'[b']? = H[b']? := by
 by_cases hn : xs = []
 ·subst hn
  refine ⟨g, H, hg, ?_, by simpa using hb, rfl, fun _ _ => rfl⟩
  have h1 : sliceCells e H (.c (.slice [])) = some (0, []) := rfl
  have h3 := cellsOf_length hy
  simp only [appendOp, h1, hb]
  rw [if_neg (by simp [flatAll]), if_neg (by simp), if_neg (by simp at hs ⊢; omega), if_pos ⟨trivial, h3.symm, Nat.zero_le _⟩, if_pos trivial]
  rfl
 ·refine ⟨g + 1, _, by omega, append_ownP pos hb hy hx rfl (Nat.zero_le _) hn hs hs2, ?_, by simp, fun b' h => List.getElem?_set_ne (Ne.symm h)⟩
  rw [List.getElem?_set_self (lt_get hb)]
theorem more (j : Jur) (W : CV) (pre : List Int) (hpre : pre.length < 1000) (x : Int) (ls new : List (List Int)) (hln : ls.length + new.length < 100000) (g : Nat) (hg : g ≠ 0) (h : Heap) (h0 : h[0]? = some (JB j)) (h2 : h[2]? = some (.cells g (cellsOf (ls.map encL)) 0)) (p1 p2 p3 : Option Nat) :
  ∃ g1 H1 g2 H2 H3 g4 H4, g4 ≠ 0 ∧ H4[0]? = some (JB j) ∧ H4[2]? = some (.cells g4 (cellsOf ((ls ++ new).map encL)) 0) ∧
   appendOp p1 none 8 (.slice h.length 1 0 0 none none) (.c (.slice (pre.map ci))) (h ++ [.cells 1 [] 0, .dead, .dead, .dead]) = some (.slice h.length g1 0 pre.length none none, H1) ∧
   appendOp p2 none 8 (.slice h.length g1 0 pre.length none none) (.c (.slice [ci x])) H1 = some (.slice h.length g2 0 (pre.length + 1) none none, H2) ∧
   frz frzDepth (.slice h.length g2 0 (pre.length + 1) none none) H2 = some (.slice ((pre ++ [x]).map ci), H3) ∧
   appendOp p3 none 24 (.slice 2 g 0 ls.length none none) (.c (.slice (new.map encL))) H3 = some (.slice 2 g4 0 (ls.length + new.length) none none, H4) ∧
   (h ++ [.cells 1 [] 0, .dead, .dead, .dead] : Heap).length = h.length + 4 ∧ H1.length = h.length + 4 ∧ H2.length = h.length + 4 ∧ H3.length = h.length + 4 ∧
   (∀ k, 1 ≤ k → k < 4 → H1[h.length + k]? = some .dead ∧ H2[h.length + k]? = some .dead ∧ H3[h.length + k]? = some .dead) ∧ g1 ≠ 0 ∧ g2 ≠ 0 := by
 have l2 := lt_get h2
 have hb0 : (h ++ [LB.cells 1 [] 0, .dead, .dead, .dead])[h.length]? = some (.cells 1 (cellsOf []) 0) := by
  rw [List.getElem?_append_right (Nat.le_refl _)]
  simp
 obtain ⟨g1, H1, n1, a1, c1, d1, f1⟩ := appX (pos := p1) (e := none) (bytes := 8) (b := h.length) (g := 1) (ys := []) (xs := pre.map ci) hb0 (by omega) (by simp) (intElems _) (by simp; omega) (by simp; omega)
 obtain ⟨g2, H2, n2, a2, c2, d2, f2⟩ := appX (pos := p2) (e := none) (bytes := 8) (b := h.length) (g := g1) (ys := [] ++ pre.map ci) (xs := [ci x]) c1 n1 (by simpa using intElems pre) (intElems [x]) (by simp; omega) (by simp; omega)
 have e2 : [] ++ pre.map ci ++ [ci x] = (pre ++ [x]).map ci := by simp
 rw [e2] at c2
 have hf := frz_own (cap := none) (len := pre.length + 1) c2 (intElems _) (by simp)
 have s3 := bump_same h.length ((pre.length + 1) * szOf none) H2
 have d3 : (bump h.length ((pre.length + 1) * szOf none) H2).length = H2.length := by
  unfold bump
  split <;> simp
 have f3 : ∀ b', b' ≠ h.length → (bump h.length ((pre.length + 1) * szOf none) H2)[b']? = H2[b']? := fun b' hb => by
  unfold bump
  split
  ·exact List.getElem?_set_ne (Ne.symm hb)
  ·rfl
 generalize bump h.length ((pre.length + 1) * szOf none) H2 = H3 at *
 have c3 : H3[2]? = some (.cells g (cellsOf (ls.map encL)) 0) := by
  rw [f3 2 (by omega), f2 2 (by omega), f1 2 (by omega)]
  exact app_get h2
 obtain ⟨g4, H4, n4, a4, c4, d4, f4⟩ := appX (pos := p3) (e := none) (bytes := 24) (b := 2) (g := g) (ys := ls.map encL) (xs := new.map encL) c3 hg (encL_elems ls) (encL_elems new) (by simp; omega) (by simp; omega)
 simp only [List.length_map, List.nil_append, List.length_nil, Nat.zero_add, List.length_cons] at a1 a2 a4
 rw [← List.map_append] at c4
 have hz : ∀ k, 1 ≤ k → k < 4 → (h ++ [LB.cells 1 [] 0, .dead, .dead, .dead])[h.length + k]? = some .dead := by
  intro k k1 k2
  rw [List.getElem?_append_right (by omega), Nat.add_sub_cancel_left]
  rcases k with _ | _ | _ | _ | k
  ·omega
  ·rfl
  ·rfl
  ·rfl
  ·omega
 simp only [List.length_append, List.length_cons, List.length_nil] at d1
 refine ⟨g1, H1, g2, H2, H3, g4, H4, n4, ?_, c4, a1, a2, hf, a4, by simp, by omega, by omega, by omega, fun k k1 k2 => ⟨?_, ?_, ?_⟩, n1, n2⟩
 ·rw [f4 0 (by omega), f3 0 (by omega), f2 0 (by omega), f1 0 (by omega)]
  exact app_get h0
 ·rw [f1 _ (by omega)]; exact hz k k1 k2
 ·rw [f2 _ (by omega), f1 _ (by omega)]; exact hz k k1 k2
 ·rw [f3 _ (by omega), f2 _ (by omega), f1 _ (by omega)]; exact hz k k1 k2
def outR (g n : Nat) : LV := .slice 2 g 0 n none none
set_option maxHeartbeats 4000000 in
theorem n15 (j : Jur) (W : CV) (pre : List Int) (hpre : pre.length < 1000) (i : Int) (ls new : List (List Int)) (hln : ls.length + new.length < 100000) (g : Nat) (hg : g ≠ 0) (h : Heap) (h0 : h[0]? = some (JB j)) (h2 : h[2]? = some (.cells g (cellsOf (ls.map encL)) 0))
  (e114 : fn P 114 [j.enc, W, .bool true, .slice ((pre ++ [-1]).map ci)] = some (.slice (new.map encL))) :
  ∃ g4 H4, g4 ≠ 0 ∧ H4[0]? = some (JB j) ∧ H4[2]? = some (.cells g4 (cellsOf ((ls ++ new).map encL)) 0) ∧
   execS P (limS P) c114_n15 ⟨[.c W, .c (.bool true), .c (.slice (pre.map ci)), .ptr 0 0 0, .c (ci i), outR g ls.length, .c (.bool true)], h⟩ = some (.normal, ⟨[.c W, .c (.bool true), .c (.slice (pre.map ci)), .ptr 0 0 0, .c (ci i), outR g4 (ls.length + new.length)], H4⟩) := by
 obtain ⟨g1, H1, g2, H2, H3, g4, H4, q1, q2, q3, a1, a2, a3, a4, k0, k1, k2, k3, kd, n1, n2⟩ := more j W pre hpre (-1) ls new hln g hg h h0 h2 (some (h.length + 1)) (some (h.length + 2)) (some (h.length + 3))
 refine ⟨g4, H4, q1, q2, q3, ?_⟩
 have b0 : ∀ t : Heap, (h ++ t)[0]? = some (JB j) := fun t => app_get h0
 have b0' := fun t => (List.getElem?_eq_some_iff.1 (b0 t)).2
 have l0 := lt_get h0
 have l2 := lt_get h2
 have d1 := (kd 2 (by omega) (by omega)).1
 have d1' := (List.getElem?_eq_some_iff.1 d1).2
 have d3 := (kd 3 (by omega) (by omega)).2.2
 have d3' := (List.getElem?_eq_some_iff.1 d3).2
 simp only [Jur.enc] at e114
 unfold JB at b0 b0'
 simp [-frz_slice] at a1 a2 a3 a4 e114
 simp [outR, b0, b0', l0, l2, setFrom, a1, a2, a3, a4, e114, isDead, d1, d1', d3, d3', k1, k2, k3, hg, -frz_slice]
set_option maxHeartbeats 4000000 in
theorem n5 (j : Jur) (W : CV) (pre : List Int) (hpre : pre.length < 1000) (i : Int) (k : Nat) (ls new : List (List Int)) (hln : ls.length + new.length < 100000) (g : Nat) (hg : g ≠ 0) (h : Heap) (h0 : h[0]? = some (JB j)) (h2 : h[2]? = some (.cells g (cellsOf (ls.map encL)) 0))
  (e114 : fn P 114 [j.enc, W, .bool true, .slice ((pre ++ [(k : Int)]).map ci)] = some (.slice (new.map encL))) :
  ∃ g4 H4, g4 ≠ 0 ∧ H4[0]? = some (JB j) ∧ H4[2]? = some (.cells g4 (cellsOf ((ls ++ new).map encL)) 0) ∧
   execS P (limS P) c114_n5 ⟨[.c W, .c (.bool true), .c (.slice (pre.map ci)), .ptr 0 0 0, .c (ci i), outR g ls.length, .c (ci k), .c (.bool true)], h⟩ = some (.normal, ⟨[.c W, .c (.bool true), .c (.slice (pre.map ci)), .ptr 0 0 0, .c (ci i), outR g4 (ls.length + new.length), .c (ci k)], H4⟩) := by
 obtain ⟨g1, H1, g2, H2, H3, g4, H4, q1, q2, q3, a1, a2, a3, a4, k0, k1, k2, k3, kd, n1, n2⟩ := more j W pre hpre k ls new hln g hg h h0 h2 (some (h.length + 1)) (some (h.length + 2)) (some (h.length + 3))
 refine ⟨g4, H4, q1, q2, q3, ?_⟩
 have b0 : ∀ t : Heap, (h ++ t)[0]? = some (JB j) := fun t => app_get h0
 have b0' := fun t => (List.getElem?_eq_some_iff.1 (b0 t)).2
 have l0 := lt_get h0
 have l2 := lt_get h2
 have d1 := (kd 2 (by omega) (by omega)).1
 have d1' := (List.getElem?_eq_some_iff.1 d1).2
 have d3 := (kd 3 (by omega) (by omega)).2.2
 have d3' := (List.getElem?_eq_some_iff.1 d3).2
 simp only [Jur.enc] at e114
 unfold JB at b0 b0'
 simp [-frz_slice] at a1 a2 a3 a4 e114
 simp [outR, b0, b0', l0, l2, setFrom, a1, a2, a3, a4, e114, isDead, d1, d1', d3, d3', k1, k2, k3, hg, -frz_slice]
def trueC (m : Nat) : CV := .slice (List.replicate m (.bool true))
def T114 (m : Nat) (pre : List Int) (g n k : Nat) : List LV := [.c (trueC m), .c (.bool true), .c (.slice (pre.map ci)), .ptr 0 0 0, .c (ci pre.length), outR g n, .c (ci k)]
def brF (j : Jur) (d : Nat) (pre : List Int) (k : Nat) : List (List Int) := if servF j k pre.length = true then allF j d (pre ++ [(k : Int)]) else []
set_option maxHeartbeats 4000000 in
theorem L114 (j : Jur) (hj : j.ok) (d : Nat) (pre : List Int) (hp : pre.length < j.pts.length) (hm : j.pts.length < 1000) (hn : j.ofs.length < 1000)
  (E : ∀ k : Nat, k < j.ofs.length → servF j k pre.length = true → fn P 114 [j.enc, trueC j.pts.length, .bool true, .slice ((pre ++ [(k : Int)]).map ci)] = some (.slice ((allF j d (pre ++ [(k : Int)])).map encL))) :
  ∀ (d' k : Nat) (ls : List (List Int)) (g : Nat) (h : Heap), k + d' = j.ofs.length → g ≠ 0 → h[0]? = some (JB j) → h[2]? = some (.cells g (cellsOf (ls.map encL)) 0) → ls.length + ((List.range' k d').flatMap (brF j d pre)).length < 100000 →
   ∃ g' H', H'[2]? = some (.cells g' (cellsOf ((ls ++ (List.range' k d').flatMap (brF j d pre)).map encL)) 0) ∧
    execS P (limS P) c114_l0 ⟨T114 j.pts.length pre g ls.length k, h⟩ = some (.exit 0, ⟨[outR g' (ls ++ (List.range' k d').flatMap (brF j d pre)).length], H'⟩) := by
 intro d'
 induction d' with
 | zero =>
  intro k ls g h hd hg h0 h2 _
  have hk : k = j.ofs.length := by omega
  subst hk
  have h0' := (List.getElem?_eq_some_iff.1 h0).2
  have l0 := lt_get h0
  unfold JB at h0 h0'
  refine ⟨g, h, by simpa using h2, ?_⟩
  rw [r114_l0]
  simp [T114, trueC, c114_l0b, h0, h0', l0]
 | succ d' ih =>
  intro k ls g h hd hg h0 h2 hB
  have hk : k < j.ofs.length := by omega
  have hw : IntKind.i64.wrap ((k : Int) + 1) = (k : Int) + 1 := wrap64 (by omega) (by omega)
  have hsv := S44 (P := P) j hj k pre.length j.ofs[k] j.pts[pre.length] (List.getElem?_eq_getElem hk) (List.getElem?_eq_getElem hp)
  have hsF : servF j k pre.length = servesB j.ofs[k] j.pts[pre.length] := by
   unfold servF servesV
   simp [List.getElem?_eq_getElem hk, List.getElem?_eq_getElem hp]
  rw [← hsF] at hsv
  have hsplit : ls ++ (List.range' k (d' + 1)).flatMap (brF j d pre) = (ls ++ brF j d pre k) ++ (List.range' (k + 1) d').flatMap (brF j d pre) := by
   rw [List.range'_succ, List.flatMap_cons, List.append_assoc]
  have hBl : ls.length + (brF j d pre k).length + ((List.range' (k + 1) d').flatMap (brF j d pre)).length < 100000 := by
   have := congrArg List.length hsplit
   rw [List.length_append, List.length_append, List.length_append] at this
   omega
  rw [hsplit]
  have h0' := (List.getElem?_eq_some_iff.1 h0).2
  have l0 := lt_get h0
  have h00 := h0
  unfold JB at h0 h0'
  simp only [Jur.enc] at hsv
  cases hs : servF j k pre.length
  ·have e0 : brF j d pre k = [] := by unfold brF; rw [if_neg (by simp [hs])]
   rw [e0, List.append_nil]
   rw [e0] at hBl
   obtain ⟨g', H', e1, e2⟩ := ih (k + 1) ls g h (by omega) hg h00 h2 (by simpa using hBl)
   refine ⟨g', H', e1, ?_⟩
   rw [hs] at hsv
   simp [T114, trueC] at e2 ⊢
   rw [r114_l0]
   simp [c114_l0b, h0, h0', l0, hk, hp, hsv, hw, e2]
  ·have e0 : brF j d pre k = allF j d (pre ++ [(k : Int)]) := by unfold brF; rw [if_pos hs]
   obtain ⟨g4, H4, q1, q2, q3, q4⟩ := n5 (P := P) j (trueC j.pts.length) pre (by omega) pre.length k ls (brF j d pre k) (by omega) g hg h h00 h2 (by rw [e0]; exact E k hk hs)
   obtain ⟨g', H', e1, e2⟩ := ih (k + 1) (ls ++ brF j d pre k) g4 H4 (by omega) q1 q2 q3 (by rw [List.length_append]; omega)
   refine ⟨g', H', e1, ?_⟩
   rw [hs] at hsv
   rw [List.length_append] at e2
   simp only [trueC] at q4
   simp [T114, trueC] at e2 ⊢
   rw [r114_l0]
   simp [c114_l0b, h0, h0', l0, hk, hp, hsv, hw, q4, e2, -c114_n5]
theorem flat_len {α : Type} {f : Nat → List α} {c : Nat} (h : ∀ k, (f k).length ≤ c) : ∀ l : List Nat, (l.flatMap f).length ≤ l.length * c
 | [] => by simp
 | a :: l => by
  have := flat_len h l
  have := h a
  rw [List.flatMap_cons, List.length_append, List.length_cons, Nat.add_mul]
  omega
theorem allF_len {j : Jur} (hn : j.ofs.length ≤ 4) : ∀ (d : Nat) (pre : List Int), (allF j d pre).length ≤ 5 ^ d
 | 0, pre => by
  unfold allF
  split <;> simp
 | d + 1, pre => by
  unfold allF
  split
  ·rw [List.length_append]
   have h1 := allF_len hn d (pre ++ [-1])
   have h2 := flat_len (f := fun k : Nat => if servF j k pre.length = true then allF j d (pre ++ [(k : Int)]) else []) (c := 5 ^ d) (fun k => by
    split
    ·exact allF_len hn d _
    ·simp) (List.range j.ofs.length)
   rw [List.length_range] at h2
   have h3 : j.ofs.length * 5 ^ d ≤ 4 * 5 ^ d := Nat.mul_le_mul_right _ hn
   rw [Nat.pow_succ]
   omega
  ·simp
set_option maxHeartbeats 8000000 in
theorem S114 (j : Jur) (hj : j.ok) (hm : j.pts.length ≤ 5) (hn : j.ofs.length ≤ 4) : ∀ (d : Nat) (pre : List Int), pre.length + d = j.pts.length → EntL j pre →
  fn P 114 [j.enc, trueC j.pts.length, .bool true, .slice (pre.map ci)] = some (.slice ((allF j d pre).map encL)) := by
 intro d
 induction d with
 | zero =>
  intro pre hd he
  have hpl : pre.length = j.pts.length := by omega
  rcases List.eq_nil_or_concat pre with rfl | ⟨l, x, hlx⟩
  ·have hm0 : j.pts.length = 0 := by simpa using hpl.symm
   have hnil : j.pts = [] := List.eq_nil_of_length_eq_zero hm0
   rw [u114]
   simp [c114, Jur.enc, trueC, hnil, allF, lastFit, encL, appendOp, sliceCells, flatAll, ok, newId, newAt, szOf, resV]
  ·rw [List.concat_eq_append] at hlx
   have hxe := he l.length (by rw [hlx]; simp)
   have hx1 : pre[l.length]'(by rw [hlx]; simp) = x := by subst hlx; simp
   rw [hx1] at hxe
   have e112 := S112 (P := P) j hj l x (by rw [hlx] at hpl; simp at hpl; omega) (by rw [hlx] at hpl; simp at hpl; omega) (by rcases hxe with e | ⟨e1, e2, _⟩ <;> omega)
   rw [← hlx] at e112
   have hlf : lastFit j pre = (fitE j l x == 0) := by
    subst hlx
    unfold lastFit
    simp
   have hp0 : pre ≠ [] := by rw [hlx]; simp
   simp only [Jur.enc] at e112
   rw [u114]
   by_cases hf : fitE j l x = 0
   ·have hl : lastFit j pre = true := by rw [hlf, hf]; rfl
    rw [allF, if_pos hl]
    rw [hf] at e112
    have ha := append_ownP none (b := 2) (g := 1) (bytes := 8) (e := none) (ys := []) (xs := pre.map ci) (h := [.cells 0 [.c (.slice (j.ofs.map Ofc.enc)), .c (.slice (j.pts.map Pst.enc))] 0, .cells 1 [] 0, .cells 1 [] 0]) (len := 0) (fz := 0) rfl (by simp) (intElems _) rfl (Nat.zero_le _) (by simpa using hp0) (by simp; omega) (by simp; omega)
    have hfz := fun (h : Heap) (k : Nat) (hb : h[2]? = some (.cells 2 (cellsOf (pre.map ci)) k)) => frz_own39 (cap := none) (len := j.pts.length) hb (intElems _) (by simp [hpl])
    simp [hpl] at ha
    simp [c114, Jur.enc, trueC, hpl, hp0, e112, encL, ha, hfz, resV, -frz_39_slice]
   ·have hl : ¬ lastFit j pre = true := by rw [hlf]; simpa using hf
    rw [allF, if_neg hl]
    simp [c114, Jur.enc, trueC, hp0, e112, hf]
 | succ d ih =>
  intro pre hd he
  have hpl : pre.length < j.pts.length := by omega
  have e1 := ih (pre ++ [-1]) (by simp; omega) (he.snoc (.inl rfl))
  have hpow : 5 ^ d ≤ 5 ^ 5 := Nat.pow_le_pow_right (by omega) (by omega)
  have b1 := allF_len hn d (pre ++ [-1])
  have hbr : ((List.range j.ofs.length).flatMap (brF j d pre)).length ≤ j.ofs.length * 5 ^ d := by
   have := flat_len (f := brF j d pre) (c := 5 ^ d) (fun k => by
    unfold brF
    split
    ·exact allF_len hn d _
    ·simp) (List.range j.ofs.length)
   rw [List.length_range] at this
   exact this
  have h3 : j.ofs.length * 5 ^ d ≤ 4 * 5 ^ 5 := Nat.mul_le_mul hn hpow
  obtain ⟨g4, H4, q1, q2, q3, q4⟩ := n15 (P := P) j (trueC j.pts.length) pre (by omega) pre.length [] (allF j d (pre ++ [-1])) (by simp; omega) 1 (by omega) [JB j, .cells 1 [] 0, .cells 1 [] 0] rfl rfl e1
  obtain ⟨g5, H5, r1, r2⟩ := L114 (P := P) j hj d pre hpl (by omega) (by omega) (fun k hk hs => ih (pre ++ [(k : Int)]) (by simp; omega) (he.snoc (.inr ⟨by omega, by omega, hs⟩))) j.ofs.length 0 ([] ++ allF j d (pre ++ [-1])) g4 H4 (by omega) q1 q2 q3 (by rw [← List.range_eq_range']; simp only [List.nil_append]; omega)
  rw [← List.range_eq_range'] at r1 r2
  simp only [List.nil_append] at r1 r2 q3
  have hall : allF j d (pre ++ [-1]) ++ (List.range j.ofs.length).flatMap (brF j d pre) = if lastFit j pre = true then allF j (d + 1) pre else allF j d (pre ++ [-1]) ++ (List.range j.ofs.length).flatMap (brF j d pre) := by
   split
   ·rename_i h
    rw [allF, if_pos h]
    rfl
   ·rfl
  have hgt : (List.replicate j.pts.length (CV.bool true))[pre.length]? = some (.bool true) := by rw [List.getElem?_replicate]; simp [hpl]
  have hgt' := (List.getElem?_eq_some_iff.1 hgt).2
  have hne : ¬ (pre.length : Int) = j.pts.length := by omega
  have hfz := fun (v : Unit) => frz_own (cap := none) (len := (allF j d (pre ++ [-1]) ++ (List.range j.ofs.length).flatMap (brF j d pre)).length) r1 (encL_elems _) (by simp)
  simp only [trueC] at q4 r2
  simp only [T114, trueC, outR, List.length_nil] at q4 r2
  rcases List.eq_nil_or_concat pre with rfl | ⟨l, x, hlx⟩
  ·have hl : lastFit j [] = true := rfl
   rw [if_pos hl] at hall
   rw [hall] at hfz r2
   rw [u114]
   simp [JB, -c114_n15] at q4
   simp at r2 hgt hgt' hne
   simp [c114, Jur.enc, trueC, JB, hgt, hgt', hne, hpl, q4, r2, resV, hfz (), -c114_n15, -frz_slice]
  ·rw [List.concat_eq_append] at hlx
   have hxe := he l.length (by rw [hlx]; simp)
   have hx1 : pre[l.length]'(by rw [hlx]; simp) = x := by subst hlx; simp
   rw [hx1] at hxe
   have e112 := S112 (P := P) j hj l x (by rw [hlx] at hpl; simp at hpl; omega) (by rw [hlx] at hpl; simp at hpl; omega) (by rcases hxe with e | ⟨e1, e2, _⟩ <;> omega)
   rw [← hlx] at e112
   have hlf : lastFit j pre = (fitE j l x == 0) := by
    subst hlx
    unfold lastFit
    simp
   have hp0 : pre ≠ [] := by rw [hlx]; simp
   simp only [Jur.enc] at e112
   rw [u114]
   by_cases hf : fitE j l x = 0
   ·have hl : lastFit j pre = true := by rw [hlf, hf]; rfl
    rw [if_pos hl] at hall
    rw [hall] at hfz r2
    rw [hf] at e112
    simp [JB, -c114_n15] at q4
    simp at r2 hgt hgt' hne
    simp [c114, Jur.enc, trueC, JB, hgt, hgt', hne, hpl, hp0, e112, q4, r2, resV, hfz (), -c114_n15, -frz_slice]
   ·have hl : ¬ lastFit j pre = true := by rw [hlf]; simpa using hf
    rw [allF, if_neg hl]
    simp [c114, Jur.enc, trueC, JB, hp0, e112, hf]
def rtB (a : List Int) (off : Int) (l : List Int) (k : Nat) : Bool := if a[k]? = some off then decide (0 ≤ l.getD k 0) && decide (l.getD k 0 ≠ off) else decide (l[k]? = a[k]?)
def HR (j : Jur) : Heap := [JB j, .cells 1 [] 0]
set_option maxHeartbeats 4000000 in
theorem L50a (j : Jur) (a : List Int) (off : Int) (ls : List (List Int)) (i : Nat) (l : List Int) (hi : ls[i]? = some l) (hl : l.length = a.length) (ha : a.length < 1000) : ∀ (d k : Nat) (r : Bool), k + d = a.length →
  execS P (limS P) c50_l0 ⟨[.c (.slice (a.map ci)), .c (ci off), .c (.slice (ls.map encL)), .c (ci i), .c (.bool r), .c (ci k)], HR j⟩ = some (.exit 2, ⟨[.c (.slice (a.map ci)), .c (ci off), .c (.slice (ls.map encL)), .c (ci i), .c (.bool (r && (List.range' k d).all (rtB a off l)))], HR j⟩) := by
 intro d
 induction d with
 | zero =>
  intro k r hd
  have hk : k = a.length := by omega
  subst hk
  rw [r50_l0]
  simp [c50_l0b]
 | succ d ih =>
  intro k r hd
  have hk : k < a.length := by omega
  have hk2 : k < l.length := by omega
  have hw : IntKind.i64.wrap ((k : Int) + 1) = (k : Int) + 1 := wrap64 (by omega) (by omega)
  have hx : a[k]? = some a[k] := List.getElem?_eq_getElem hk
  have hy : l[k]? = some l[k] := List.getElem?_eq_getElem hk2
  obtain ⟨hil, hi'⟩ := List.getElem?_eq_some_iff.1 hi
  have ih := ih (k + 1) (r && rtB a off l k) (by omega)
  rw [List.range'_succ, List.all_cons, ← Bool.and_assoc]
  have hrt : rtB a off l k = if a[k] = off then decide (0 ≤ l[k]) && decide (l[k] ≠ off) else decide (l[k] = a[k]) := by
   unfold rtB
   rw [hx, hy, List.getD_eq_getElem?_getD, hy]
   simp
  rw [hrt] at ih ⊢
  have hb1 : (l[k] != off) = !decide (l[k] = off) := by by_cases h : l[k] = off <;> simp [h]
  have hb2 : (l[k] == a[k]) = decide (l[k] = a[k]) := by by_cases h : l[k] = a[k] <;> simp [h]
  generalize (List.range' (k + 1) d).all (rtB a off l) = z at *
  simp [HR, JB] at ih ⊢
  rw [r50_l0]
  by_cases h1 : a[k] = off
  ·simp [h1] at ih ⊢
   cases r
   ·simp at ih
    simp [c50_l0b, hk, hk2, hx, hy, hil, hi, hi', encL, h1, hw, hb2, ih]
   ·by_cases h2 : 0 ≤ l[k]
    ·simp [h2] at ih ⊢
     simp [c50_l0b, hk, hk2, hx, hy, hil, hi, hi', encL, h1, h2, hw, hb1, ih]
    ·simp [h2] at ih ⊢
     simp [c50_l0b, hk, hk2, hx, hy, hil, hi, hi', encL, h1, h2, hw, hb1, ih]
  ·simp [h1] at ih ⊢
   cases r
   ·simp at ih
    simp [c50_l0b, hk, hk2, hx, hy, hil, hi, hi', encL, h1, hw, hb2, ih]
   ·simp at ih
    simp [c50_l0b, hk, hk2, hx, hy, hil, hi, hi', encL, h1, hw, hb2, ih]
def refV : Option (List Int) → CV
 | some l => .tuple [encL l, .bool true]
 | none => .tuple [.slice [], .bool false]
set_option maxHeartbeats 4000000 in
theorem L50b (j : Jur) (a : List Int) (off : Int) (ls : List (List Int)) (hls : ls.length < 100000) (hl : ∀ l ∈ ls, l.length = a.length) (ha : a.length < 1000) : ∀ (r pre : List (List Int)), ls = pre ++ r →
  execS P (limS P) c50_l1 ⟨[.c (.slice (a.map ci)), .c (ci off), .c (.slice (ls.map encL)), .c (ci pre.length)], HR j⟩ = match r.find? (rightB a off) with
   | some l => some (.ret, ⟨[.c (encL l), .c (.bool true)], HR j⟩)
   | none => some (.exit 0, ⟨[], HR j⟩) := by
 intro r
 induction r with
 | nil =>
  intro pre hp
  have hp : ls = pre := by simpa using hp
  rw [hp, r50_l1]
  simp [c50_l1b]
 | cons l r ih =>
  intro pre hp
  have ih := ih (pre ++ [l]) (by simpa using hp)
  have hi : ls[pre.length]? = some l := by rw [hp]; simp
  obtain ⟨hil, hi'⟩ := List.getElem?_eq_some_iff.1 hi
  have hw : IntKind.i64.wrap ((pre.length : Int) + 1) = (pre.length : Int) + 1 := wrap64 (by omega) (by omega)
  have k := L50a (P := P) j a off ls pre.length l hi (hl l (by rw [hp]; simp)) ha a.length 0 true (by omega)
  rw [← List.range_eq_range', Bool.true_and] at k
  have er : (List.range a.length).all (rtB a off l) = rightB a off l := rfl
  rw [er] at k
  rw [List.find?_cons]
  unfold HR JB at *
  simp at k ih
  rw [r50_l1]
  cases hr : rightB a off l
  ·rw [hr] at k
   simp [c50_l1b, hil, hi, hi', hw, k, ih]
  ·rw [hr] at k
   simp [c50_l1b, hil, hi, hi', hw, k, encL]
theorem allF_all {j : Jur} {d : Nat} {pre l : List Int} (h : l ∈ allF j d pre) (he : EntL j pre) (hf : FitP j pre) : l.length = pre.length + d := (allF_mem h he hf).2.2.1
theorem S50 (j : Jur) (hj : j.ok) (hm : j.pts.length ≤ 5) (hn : j.ofs.length ≤ 4) (a : List Int) (hal : a.length = j.pts.length) (off : Int) :
  fn P 50 [j.enc, .slice (a.map ci), ci off] = some (refV ((allF j j.pts.length []).find? (rightB a off))) := by
 have e115 := S115 (P := P) j (by omega)
 have he : EntL j [] := fun k hk => absurd hk (by simp)
 have hf : FitP j [] := fun k hk => absurd hk (by simp)
 have e114 := S114 (P := P) j hj hm hn j.pts.length [] (by simp) he
 have hlen := allF_len hn j.pts.length []
 have hpow : 5 ^ j.pts.length ≤ 5 ^ 5 := Nat.pow_le_pow_right (by omega) hm
 have k := L50b (P := P) j a off (allF j j.pts.length []) (by omega) (fun l h => by rw [allF_all h he hf, hal]; simp) (by omega) _ [] rfl
 generalize allF j j.pts.length [] = ls at *
 simp only [Jur.enc, trueC, List.map_nil] at e114 e115
 unfold HR JB at k
 simp at k
 rw [u50]
 cases hr : ls.find? (rightB a off) with
 | some l =>
  rw [hr] at k
  simp at k
  simp [c50, Jur.enc, e115, e114, k, refV, encL]
 | none =>
  rw [hr] at k
  simp at k
  simp [c50, Jur.enc, e115, e114, k, refV]
end LM.G9
namespace LM.G9
open Go LM
variable {P : Nat → Option SFunc} [Has P] [HasP P]
theorem out_range (off n : Int) : outside off 0 (n - 1) = (decide (off < 0) || decide (n ≤ off)) := by
 unfold outside
 congr 1
 exact decide_eq_decide.2 (by omega)
set_option maxHeartbeats 8000000 in
theorem S6 (h14 : fn P 14 [] = some (.bool true)) (T : Tabs9 P) (j : Jur) (hj : j.ok) (a : List Int) (ha : (a.length : Int) < 9223372036854775) (off : Int) : fn P 6 [j.enc, .slice (a.map ci), ci off] = some (.bool true) := by
 have e39 := S39 (P := P) j hj
 have e40 := S40 (P := P) j hj
 have e41 := S41 (P := P) j hj
 have e45 := S45 (P := P) j hj a ha
 have e47 := S47 (P := P) j hj 4 5
 simp only [Jur.enc] at e39 e40 e41 e45 e47
 cases hsh : shortJur j
 ·rw [hsh] at e40
  rw [u6]
  simp [c6, Jur.enc, e39, h14, e40]
 rw [hsh] at e40
 by_cases hl30 : (30 : Int) < a.length
 ·rw [u6]
  simp [c6, Jur.enc, e39, h14, e40, hl30]
 have hA : replE j a off = firstE [if checkJur j ≠ 0 then checkJur j else appE j a, whenE (decide (off < 0) || decide ((j.ofs.length : Int) ≤ off)) 10, whenE (decide ((12 : Int) < j.pts.length)) 22] := by
  unfold replE appJ ofcE
  rw [out_range]
 by_cases hR : replE j a off = 0
 ·have hR' := hR
  rw [hA] at hR
  have hz := hR
  rw [firstE_zD] at hz
  have hc : checkJur j = 0 := by
   by_cases h : checkJur j = 0
   ·exact h
   ·rw [if_pos h] at hz; exact hz.1
  have hap : appE j a = 0 := by
   have := hz.1
   rwa [if_neg (by simpa using hc)] at this
  have hof : ¬ off < 0 ∧ ¬ (j.ofs.length : Int) ≤ off := by
   have := hz.2
   rw [firstE_zD, whenE_zD (by decide)] at this
   simpa using this.1
  rw [hc] at e41
  rw [hap] at e45
  rw [hc, hap] at hR
  cases hfew : fewB j 4 5
  ·rw [hfew] at e47
   simp [hof] at hR
   rw [u6]
   simp [c6, Jur.enc, e39, h14, e40, hl30, e41, e45, e47, hof, hR]
  ·rw [hfew] at e47
   obtain ⟨hn4, hm5, _⟩ := few_iff hfew
   have g := good_of hc
   obtain ⟨hl, he, hf⟩ := appE_zero.1 hap
   obtain ⟨o, rfl⟩ : ∃ o : Nat, off = o := ⟨off.toNat, by omega⟩
   have e48 := S48 (P := P) T j hj a o hR' (by omega) (by omega) hl (ent_lt he) ⟨by omega, by omega⟩ (fun o ho => by have := (g.rl o ho).1; omega) (fun q hq => by have := name_len (g.pn q hq).1; omega) (fun o ho => (g.ld o ho).1)
   have e50 := S50 (P := P) j hj (by omega) (by omega) a hl (o : Int)
   rw [first_lead g hl he hf (by omega)] at e50
   have hof2 : ¬ j.ofs.length ≤ o := by omega
   simp [hof2] at hR
   have w1 : whenE true 23 = 23 := rfl
   have w0 : whenE false 23 = 0 := rfl
   simp only [Jur.enc] at e48 e50
   cases hr : leadL (cplB j o) j o (List.range j.pts.length) a (opnA a o j.pts.length) with
   | none =>
    rw [hr] at e48 e50
    simp only [replV, refV] at e48 e50
    have e49 := S49_bad (P := P) 23 23 (.slice []) (by omega)
    rw [u6]
    simp [c6, Jur.enc, e39, h14, e40, hl30, e41, e45, e47, hof2, hR, e48, e50, w1, w0, e49]
   | some l =>
    have hE : ExB j a o 0 a := by
     by_cases h : ExB j a o 0 a
     ·exact h
     ·rw [(lead_none g (by omega) hl he hf h).1] at hr; cases hr
    obtain ⟨r, opn, l1, l2, _⟩ := lead_some g (by omega) hl he hE
    rw [hr] at l1
    cases l1
    rw [hr] at e48 e50
    simp only [replV, refV, encL] at e48 e50
    have e49 := S49_ok (P := P) l l (by rw [l2.len]; omega)
    rw [u6]
    simp [c6, Jur.enc, e39, h14, e40, hl30, e41, e45, e47, hof2, hR, e48, e50, w1, w0, e49]
 ·have e48 := S48_bad (P := P) j hj a (by omega) off hR
  have e49 := S49_bad (P := P) (replE j a off) (replE j a off) (.slice []) hR
  rw [hA] at hR e48 e49
  simp only [Jur.enc] at e48
  by_cases hc : checkJur j = 0
  ·rw [hc] at e41
   simp only [hc, ne_eq, not_true_eq_false, if_false] at hR e48 e49
   rw [u6]
   simp at hR e48 e49
   simp [c6, Jur.enc, e39, h14, e40, hl30, e41, e45, hR, e48, e49]
  ·simp only [hc, ne_eq, not_false_eq_true, if_true] at hR e48 e49
   rw [u6]
   simp at hR e48 e49
   simp [c6, Jur.enc, e39, h14, e40, hl30, e41, hc, hR, e48, e49]
end LM.G9
namespace LM.G9
open Go LM
def isM1 : LV → Bool
 | .c (.int .i64 v) => v == -1
 | _ => false
def chkRep (m : Nat) : Option (LV × List LB) → Bool
 | some (.slice 1 1 0 n none (some c), [.cells 1 [] 0, .cells 1 l 0]) => n == m && c == m && l.length == m && l.all isM1
 | _ => false
theorem isM1_eq {x : LV} (h : isM1 x = true) : x = .c (ci (-1)) := by
 unfold isM1 at h
 split at h
 ·simp only [beq_iff_eq] at h; rw [h]
 ·cases h
theorem chkRep_eq {m : Nat} {r : Option (LV × List LB)} (h : chkRep m r = true) : r = some (.slice 1 1 0 m none (some m), [.cells 1 [] 0, .cells 1 (repM m) 0]) := by
 unfold chkRep at h
 split at h
 ·rename_i n c l
  simp only [Bool.and_eq_true, beq_iff_eq] at h
  obtain ⟨⟨⟨rfl, rfl⟩, h3⟩, h4⟩ := h
  have : l = repM c := by
   rw [List.all_eq_true] at h4
   unfold repM
   rw [List.eq_replicate_iff]
   exact ⟨h3, fun b hb => isM1_eq (h4 b hb)⟩
  rw [this]
 ·cases h
theorem all_range {p : Nat → Bool} {n : Nat} (h : (List.range n).all p = true) : ∀ k, k < n → p k = true := by
 intro k hk
 rw [List.all_eq_true] at h
 exact h k (List.mem_range.2 hk)
def chkI (r : Option CV) (x : Int) : Bool := match r with
 | some (.int .i64 v) => v == x
 | _ => false
theorem chkI_eq {r : Option CV} {x : Int} (h : chkI r x = true) : r = some (ci x) := by
 unfold chkI at h
 split at h
 ·simp only [beq_iff_eq] at h; rw [h]
 ·cases h
theorem ev131 : (List.range 6).all (fun m => chkRep m (freshS (runS prog 1000) [.tmp 0] c131 [.slice [ci (-1)], ci (m : Nat)])) = true := by kernel_rfl
theorem ev144 : (List.range 32).all (fun k => chkI (pcallS prog 1000 144 [.int .u64 (k : Nat)]) (popN 5 k)) = true := by kernel_rfl
theorem tabs9 : Tabs9 prog where
 rep m hm := by
  have h := chkRep_eq (all_range ev131 m (by omega))
  have e : ffn prog 131 [.slice [ci (-1)], ci m] = freshS (limS prog) [.tmp 0] c131 [.slice [ci (-1)], ci m] := by
   simp only [ffn, p131]
   rfl
  rw [e]
  exact (scottS_fresh (limS_chain (prog := prog)) _ _ _).mono _ _ _ (fun c s x h => limS_iff.2 ⟨1000, h⟩) h
 pop x hx := pcallS_fn (chkI_eq (all_range ev144 x hx))
end LM.G9
