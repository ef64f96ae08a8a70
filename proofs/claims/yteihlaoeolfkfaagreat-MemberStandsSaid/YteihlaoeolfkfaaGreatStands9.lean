/- Part 12 of what YteihlaoeolfkfaaGreatStands leans on. -/
import Derived.Test.YteihlaoeolfkfaaGreatStandsL1
import Derived.Test.YteihlaoeolfkfaaGreatStandsL2
import Derived.Test.YteihlaoeolfkfaaGreatStandsL3
import Derived.Test.YteihlaoeolfkfaaGreatStands1
import Derived.Test.YteihlaoeolfkfaaGreatStands2
import Derived.Test.YteihlaoeolfkfaaGreatStands3
import Derived.Test.YteihlaoeolfkfaaGreatStands4
import Derived.Test.YteihlaoeolfkfaaGreatStands5
import Derived.Test.YteihlaoeolfkfaaGreatStands6
import Derived.Test.YteihlaoeolfkfaaGreatStands7
import Derived.Test.YteihlaoeolfkfaaGreatStands8
set_option linter.all false
namespace LM.G9
open Go LM
variable {P : Nat → Option SFunc} [Has P]
def cplB (j : Jur) (wo : Int) (out : List Int) (opn : Nat) : Bool :=
  decide (nFill (fxJ j out opn) (ldsW wo j.ofs) (setK out opn j.pts.length) = ((List.range j.pts.length).filter (bitB (setK out opn j.pts.length))).length)
theorem fxd_mem {a : List Int} {opn p i : Nat} (h : fixd a opn p = some i) : (i : Int) ∈ a := by
  unfold fixd at h
  cases hx : a[p]? with
  | none => rw [hx] at h; cases h
  | some x =>
    rw [hx] at h
    simp only [] at h
    split at h
    · cases h
    · rename_i hn
      cases h
      have : ¬ x < 0 := fun h => hn (.inr h)
      rw [show ((x.toNat : Nat) : Int) = x from by omega]
      exact List.mem_of_getElem? hx
theorem fxJ_ok {j : Jur} (hj : j.ok) (a : List Int) (opn : Nat) (hm : j.pts.length ≤ 5) (hR : ∀ o ∈ j.ofs, o.roles.length < 1000) (hn : ∀ q ∈ j.pts, q.name.length < 1000) : (fxJ j a opn).ok := by
  have hq : ∀ q ∈ qsK a opn j.pts j.pts.length, q.ok := by
    intro q hq
    obtain ⟨p, hp, e⟩ := List.getElem_of_mem hq
    have e' : (qsK a opn j.pts j.pts.length)[p]? = some q := by rw [List.getElem?_eq_getElem hp, e]
    rw [qsK_get] at e'
    obtain ⟨q', h1, h2⟩ := Option.map_eq_some_iff.1 e'
    have hm' := List.mem_of_getElem? h1
    have ok' := hj.p q' hm'
    have := hn q' hm'
    split at h2
    · subst h2
      obtain ⟨k1, k2, k3, k4⟩ := ok'
      exact ⟨k1, by simp [postR, reRole, postS]; omega, k3, k4⟩
    · subst h2; exact ok'
  refine ⟨?_, hq, ?_, ?_⟩
  · intro o ho
    obtain ⟨i, hi, e⟩ := List.getElem_of_mem ho
    have e' : (fxO j.ofs (RK a opn j.pts (rolesA j.ofs) j.pts.length))[i]? = some o := by rw [← e]; exact List.getElem?_eq_getElem hi
    rw [fxO_get] at e'
    obtain ⟨o', h1, h2⟩ := Option.map_eq_some_iff.1 e'
    have hm' := List.mem_of_getElem? h1
    obtain ⟨k1, k2, k3, k4⟩ := hj.o o' hm'
    have hr := hR o' hm'
    have hrA : rolesA j.ofs i = o'.roles := by unfold rolesA; rw [h1]
    have hl := RK_len a opn j.pts (rolesA j.ofs) i j.pts.length
    rw [hrA] at hl
    subst h2
    refine ⟨k1, k2, ?_, ?_⟩
    · show ((RK a opn j.pts (rolesA j.ofs) j.pts.length i).length : Int) < _
      omega
    · intro y hy
      rcases (RK_mem a opn j.pts (rolesA j.ofs) i y j.pts.length).1 hy with h | ⟨p, hp, _, rfl⟩
      · rw [hrA] at h; exact k4 y h
      · have : (nameP j.pts p).length < 1000 := by
          unfold nameP
          rw [List.getElem?_eq_getElem hp]
          exact hn _ (List.getElem_mem hp)
        simp [postS]
        omega
  · show (fxO j.ofs _).length * 64 ≤ _
    rw [fxO_len]; exact hj.so
  · show (qsK a opn j.pts j.pts.length).length * 64 ≤ _
    rw [qsK_len]; exact hj.sp
theorem ldsW_len (wo : Int) (l : List Ofc) : (ldsW wo l).length = l.length := by
  unfold ldsW
  split <;> simp [ldsL]
theorem ldsW_pos {j : Jur} (wo : Int) (hpos : ∀ o ∈ j.ofs, 0 ≤ o.load) : ∀ x ∈ ldsW wo j.ofs, 0 ≤ x := by
  have h0 : ∀ x ∈ ldsL 24 j.ofs, 0 ≤ x := by
    intro x hx
    obtain ⟨o, ho, rfl⟩ := List.mem_map.1 hx
    have := hpos o ho
    show (0 : Int) ≤ if (24 : Int) < o.load then 24 else o.load
    split <;> omega
  intro x hx
  unfold ldsW at hx
  split at hx
  · rcases List.mem_or_eq_of_mem_set hx with h | h
    · exact h0 x h
    · omega
  · exact h0 x hx
theorem E142 (T : Tabs9 P) (j : Jur) (hj : j.ok) (wo : Int) (hwo : wo < j.ofs.length) (n0 : 0 < j.ofs.length) (hjl : j.ofs.length < 800) (hm : j.pts.length ≤ 5) (hR : ∀ o ∈ j.ofs, o.roles.length < 1000) (hn : ∀ q ∈ j.pts, q.name.length < 1000) (hpos : ∀ o ∈ j.ofs, 0 ≤ o.load)
    (out : List Int) (o : Nat) (hl : out.length = j.pts.length) (hx : ∀ x ∈ out, x < (j.ofs.length : Int)) (ho : o < 2 ^ j.pts.length) (m0 : 0 < j.pts.length) :
    fn P 142 [j.enc, .slice (out.map ci), .int .u64 o, ci wo] = some (.bool (cplB j wo out o)) := by
  refine S142 (P := P) j out o wo n0 m0 hjl hl hm ho hwo hR hn (fun p i h => by have := hx _ (fxd_mem h); omega) _ ?_
  have hfl : (fxJ j out o).ofs.length = j.ofs.length := fxO_len _ _
  have hfp : (fxJ j out o).pts.length = j.pts.length := qsK_len _ _ _ _
  have e := S121 (P := P) T (fxJ j out o) (fxJ_ok hj out o hm hR hn) (ldsW wo j.ofs) (by rw [ldsW_len, hfl]) (fun i hi => ?_) (by omega) (by omega) (setK out o j.pts.length) (by rw [hfp]; exact setK_lt out ho _ (Nat.le_refl _))
  · rw [hfp] at e
    exact e
  · show 0 ≤ (ldsW wo j.ofs).getD i 0
    have hi' : i < (ldsW wo j.ofs).length := by rw [ldsW_len]; omega
    rw [List.getD_eq_getElem?_getD, List.getElem?_eq_getElem hi']
    exact ldsW_pos wo hpos _ (List.getElem_mem hi')
def opnA (a : List Int) (off : Int) : Nat → Nat
  | 0 => 0
  | k + 1 => if a[k]? = some off then opnA a off k ||| 2 ^ k else opnA a off k
theorem opnA_lt (a : List Int) (off : Int) {m : Nat} : ∀ k, k ≤ m → opnA a off k < 2 ^ m
  | 0, _ => Nat.two_pow_pos _
  | k + 1, h => by
    have ih := opnA_lt a off k (m := m) (by omega)
    unfold opnA
    split
    · exact Nat.or_lt_two_pow ih (Nat.pow_lt_pow_right (by omega) (by omega))
    · exact ih
theorem L48 (j : Jur) (a : List Int) (off : Int) (hm : a.length ≤ 5) : ∀ (d k : Nat), k + d = a.length →
    execS P (limS P) c48_l0 ⟨[.c (.slice (a.map ci)), .c (ci off), .ptr 0 0 0, .c (.int .u64 (opnA a off k)), .c (.slice (a.map ci)), .c (ci a.length), .c (ci k)], [JB j, .cells 1 [] 0, .dead]⟩ = some (.exit 0, ⟨[.c (.slice (a.map ci)), .c (ci off), .ptr 0 0 0, .c (.int .u64 (opnA a off a.length))], [JB j, .cells 1 [] 0, .dead]⟩) := by
  have h32 := pow32 hm
  intro d
  induction d with
  | zero =>
    intro k hd
    have hk : k = a.length := by omega
    subst hk
    rw [r48_l0]
    simp [c48_l0b]
  | succ d ih =>
    intro k hd
    have hk : k < a.length := by omega
    have ih := ih (k + 1) (by omega)
    have hw : IntKind.i64.wrap ((k : Int) + 1) = (k : Int) + 1 := wrap64 (by omega) (by omega)
    have hsl := shl1 (p := k) (by omega)
    have hlt := opnA_lt a off k (m := a.length) (by omega)
    have hor := eq_of_beq (List.all_eq_true.1 (List.all_eq_true.1 or1_all (opnA a off k) (List.mem_range.2 (by omega))) k (List.mem_range.2 (by omega)))
    have hx : a[k]? = some a[k] := List.getElem?_eq_getElem hk
    have e0 : opnA a off (k + 1) = if a[k]? = some off then opnA a off k ||| 2 ^ k else opnA a off k := rfl
    rw [e0] at ih
    rw [r48_l0]
    unfold JB at *
    by_cases h : a[k] = off
    · rw [hx, if_pos (by rw [h])] at ih
      simp at ih
      simp [c48_l0b, hk, hx, h, hw, hsl, hor, ih]
    · rw [hx, if_neg (by simpa using h)] at ih
      simp at ih
      simp [c48_l0b, hk, hx, h, hw, ih]
def replE (j : Jur) (a : List Int) (off : Int) : Int := firstE [appJ j a, ofcE j off, whenE (decide ((12 : Int) < j.pts.length)) 22]
def replV : Option (List Int) → CV
  | some l => .tuple [.slice (l.map ci), ci 0]
  | none => .tuple [.slice [], ci 23]
theorem S48 (T : Tabs9 P) (j : Jur) (hj : j.ok) (a : List Int) (off : Int) (he : replE j a off = 0) (hjl : j.ofs.length < 800) (hm : j.pts.length ≤ 5) (hl : a.length = j.pts.length) (hx : ∀ x ∈ a, x < (j.ofs.length : Int)) (hoff : 0 ≤ off ∧ off < j.ofs.length) (hR : ∀ o ∈ j.ofs, o.roles.length < 1000) (hn : ∀ q ∈ j.pts, q.name.length < 1000) (hpos : ∀ o ∈ j.ofs, 0 ≤ o.load) :
    fn P 48 [j.enc, .slice (a.map ci), ci off] = some (replV (leadL (cplB j off) j off (List.range j.pts.length) a (opnA a off j.pts.length))) := by
  have e46 := S46 (P := P) j hj a (by omega)
  have e110 := S110 (P := P) j hj off
  have e113 := S113 (P := P) j hj (cplB j off) off (by omega) hm (fun out o h1 h2 h3 h4 => E142 (P := P) T j hj off hoff.2 (by omega) hjl hm hR hn hpos out o h1 h2 h3 h4) a (opnA a off j.pts.length) (opnA_lt a off _ (Nat.le_refl _)) hl hx
  have k := L48 (P := P) j a off (by omega) a.length 0 (by omega)
  rw [hl] at k
  simp only [Jur.enc] at e46 e110 e113
  unfold replE at he
  generalize leadL (cplB j off) j off (List.range j.pts.length) a (opnA a off j.pts.length) = r at *
  simp [JB, hl, opnA] at k
  rw [u48]
  cases r with
  | none =>
    simp only [leadV] at e113
    simp [c48, Jur.enc, e46, e110, he, hl, k, e113, replV]
  | some l =>
    simp only [leadV] at e113
    simp [c48, Jur.enc, e46, e110, he, hl, k, e113, replV]
end LM.G9
namespace LM.G9
open Go LM
theorem named_zero {s : Str} : named s = 0 ↔ isName s = true := by
  unfold named whenE
  cases isName s <;> simp
theorem name_len {s : Str} (h : isName s = true) : s.length ≤ 24 := by
  unfold isName at h
  simp only [Bool.and_eq_true, decide_eq_true_eq] at h
  exact h.1.2
theorem no_post (x : Str) : isName (postS ++ x) = false := by
  unfold isName postS
  simp only [List.cons_append, List.nil_append, nameFrom]
  have : nameN 4 32 = false := by decide
  simp [this]
theorem once_zero {m : Int} : ∀ {l pre : List Str}, eachE once pre l = 0 → ∀ s ∈ l, isName s = true
  | [], _, _ => by simp
  | x :: r, pre, h => by
    rw [eachE] at h
    split at h
    · rename_i h1; exact absurd h h1
    · rename_i h1
      have h1 : once pre x = 0 := by simpa using h1
      unfold once at h1
      rw [firstE_zD] at h1
      intro s hs
      rcases List.mem_cons.1 hs with rfl | hs
      · exact named_zero.1 h1.1
      · exact once_zero (m := m) h s hs
theorem onceL_zero {m : Int} {l : List Str} (h : onceL m l = 0) : (l.length : Int) ≤ m ∧ ∀ s ∈ l, isName s = true := by
  unfold onceL at h
  split at h
  · cases h
  · exact ⟨by omega, once_zero (m := m) h⟩
theorem eachPst_zero : ∀ {l pre : List Pst}, eachE checkPst pre l = 0 → (∀ x ∈ l, isName x.name = true ∧ isName x.role = true ∧ x.name ∉ pre.map (·.name)) ∧ (l.map (·.name)).Nodup
  | [], _, _ => by simp
  | x :: r, pre, h => by
    rw [eachE] at h
    split at h
    · rename_i h1; exact absurd h h1
    · rename_i h1
      have h1 : checkPst pre x = 0 := by simpa using h1
      unfold checkPst at h1
      simp only [firstE_zD] at h1
      obtain ⟨n1, n2, n3, _⟩ := h1
      have n3 : x.name ∉ pre.map (·.name) := by
        rw [whenE_zD (by decide), List.any_eq_false] at n3
        intro hm
        obtain ⟨y, hy, e⟩ := List.mem_map.1 hm
        exact n3 y hy (by simp [Pst.is, e])
      obtain ⟨k1, k2⟩ := eachPst_zero h
      refine ⟨fun y hy => ?_, ?_⟩
      · rcases List.mem_cons.1 hy with rfl | hy
        · exact ⟨named_zero.1 n1, named_zero.1 n2, n3⟩
        · obtain ⟨a, b, c⟩ := k1 y hy
          exact ⟨a, b, fun hm => c (by rw [List.map_append]; exact List.mem_append.2 (.inl hm))⟩
      · rw [List.map_cons, List.nodup_cons]
        refine ⟨fun hm => ?_, k2⟩
        obtain ⟨y, hy, e⟩ := List.mem_map.1 hm
        exact (k1 y hy).2.2 (by rw [List.map_append, e]; simp)
structure Good (j : Jur) : Prop where
  n : j.ofs.length ≤ 24
  rl : ∀ o ∈ j.ofs, o.roles.length ≤ 16 ∧ ∀ s ∈ o.roles, isName s = true
  ld : ∀ o ∈ j.ofs, 0 ≤ o.load ∧ o.load ≤ 24
  pn : ∀ q ∈ j.pts, isName q.name = true ∧ isName q.role = true
  nd : (j.pts.map (·.name)).Nodup
theorem good_of {j : Jur} (h : checkJur j = 0) : Good j := by
  obtain ⟨h1, h2, _, h4⟩ := checkJur_zero.1 h
  unfold ptsE at h4
  split at h4
  · cases h4
  · obtain ⟨k1, k2⟩ := eachPst_zero h4
    refine ⟨h1, fun o ho => ?_, fun o ho => ⟨(h2 o ho).2.2.2.1, (h2 o ho).2.2.2.2⟩, fun q hq => ⟨(k1 q hq).1, (k1 q hq).2.1⟩, k2⟩
    obtain ⟨a, b⟩ := onceL_zero (h2 o ho).2.2.1
    exact ⟨by omega, b⟩
theorem name_inj {j : Jur} (g : Good j) {p q : Nat} (hp : p < j.pts.length) (hq : q < j.pts.length) (e : nameP j.pts p = nameP j.pts q) : p = q := by
  unfold nameP at e
  rw [List.getElem?_eq_getElem hp, List.getElem?_eq_getElem hq] at e
  have hp' : p < (j.pts.map (·.name)).length := by simpa using hp
  have hq' : q < (j.pts.map (·.name)).length := by simpa using hq
  have e' : (j.pts.map (·.name))[p] = (j.pts.map (·.name))[q] := by simpa using e
  rcases Nat.lt_trichotomy p q with h | h | h
  · exact absurd e' (List.pairwise_iff_getElem.1 g.nd p q hp' hq' h)
  · exact h
  · exact absurd e'.symm (List.pairwise_iff_getElem.1 g.nd q p hq' hp' h)
theorem any_is {s : Str} {l : List Str} : l.any (Str.is s) = decide (s ∈ l) := by
  rw [Bool.eq_iff_iff, List.any_eq_true, decide_eq_true_eq]
  constructor
  · rintro ⟨x, hx, e⟩
    rw [Str.is_eq, decide_eq_true_eq] at e
    rw [← e]; exact hx
  · intro h
    exact ⟨s, h, by rw [Str.is_eq]; simp⟩
theorem fx_serves {j : Jur} (g : Good j) (a : List Int) (opn i p : Nat) (hi : i < j.ofs.length) (hp : p < j.pts.length) :
    servF (fxJ j a opn) i p = match fixd a opn p with
      | none => servF j i p
      | some i0 => decide (i = i0) && !(j.pts[p].nations.any (Str.is j.ofs[i].nation)) := by
  have ho : (fxJ j a opn).ofs[i]? = some ⟨j.ofs[i].name, j.ofs[i].nation, RK a opn j.pts (rolesA j.ofs) j.pts.length i, j.ofs[i].load⟩ := by
    show (fxO _ _)[i]? = _
    rw [fxO_get, List.getElem?_eq_getElem hi]; rfl
  have hq : (fxJ j a opn).pts[p]? = some (if p < j.pts.length ∧ fixd a opn p ≠ none then postR j.pts[p] else j.pts[p]) := by
    show (qsK _ _ _ _)[p]? = _
    rw [qsK_get, List.getElem?_eq_getElem hp]; rfl
  have hrA : rolesA j.ofs i = j.ofs[i].roles := by unfold rolesA; rw [List.getElem?_eq_getElem hi]
  have hgo := g.rl _ (List.getElem_mem hi)
  have hgp := g.pn _ (List.getElem_mem hp)
  have e1 : servF (fxJ j a opn) i p = servesB ⟨j.ofs[i].name, j.ofs[i].nation, RK a opn j.pts (rolesA j.ofs) j.pts.length i, j.ofs[i].load⟩ (if p < j.pts.length ∧ fixd a opn p ≠ none then postR j.pts[p] else j.pts[p]) := by
    unfold servF servesV
    simp only [Int.toNat_natCast, ho, hq]
  rw [e1]
  unfold servesB
  rw [any_is]
  cases hf : fixd a opn p with
  | none =>
    rw [if_neg (by simp)]
    have e2 : servF j i p = servesB j.ofs[i] j.pts[p] := by
      unfold servF servesV
      simp [List.getElem?_eq_getElem hi, List.getElem?_eq_getElem hp]
    simp only []
    rw [e2]
    unfold servesB
    rw [any_is (s := j.pts[p].role) (l := j.ofs[i].roles)]
    congr 1
    rw [decide_eq_decide, RK_mem, hrA]
    constructor
    · rintro (h | ⟨p', _, _, e⟩)
      · exact h
      · have := hgp.2
        rw [e, no_post] at this
        cases this
    · exact .inl
  | some i0 =>
    rw [if_pos ⟨hp, by simp⟩]
    simp only []
    have en : nameP j.pts p = j.pts[p].name := by unfold nameP; rw [List.getElem?_eq_getElem hp]
    congr 1
    rw [decide_eq_decide]
    show postS ++ j.pts[p].name ∈ _ ↔ _
    rw [RK_mem, hrA]
    constructor
    · rintro (h | ⟨p', h1, h2, e⟩)
      · have := hgo.2 _ h
        rw [no_post] at this
        cases this
      · have := List.append_cancel_left e
        rw [← en] at this
        have := name_inj g hp h1 this
        subst this
        rw [hf] at h2
        cases h2
        rfl
    · rintro rfl
      exact .inr ⟨p, hp, hf, by rw [en]⟩
theorem or_bit (x p q : Nat) : bitB (x ||| 2 ^ p) q = (bitB x q || decide (q = p)) := by
  have h : ∀ y q : Nat, bitB y q = y.testBit q := by
    intro y q
    unfold bitB
    rw [Nat.testBit_eq_decide_div_mod_eq]
  rw [h, h, Nat.testBit_or, Nat.testBit_two_pow]
  congr 1
  exact decide_eq_decide.2 eq_comm
theorem setK_bit (a : List Int) (opn q : Nat) : ∀ k, bitB (setK a opn k) q = (bitB opn q || (decide (q < k) && (fixd a opn q).isSome))
  | 0 => by simp [setK]
  | k + 1 => by
    have ih := setK_bit a opn q k
    unfold setK
    cases hf : fixd a opn k with
    | none =>
      simp only []
      rw [ih]
      by_cases e : q = k
      · subst e; simp [hf]
      · congr 2
        exact decide_eq_decide.2 (by omega)
    | some i =>
      simp only []
      rw [or_bit, ih]
      by_cases e : q = k
      · subst e; simp [hf]
      · have : decide (q < k + 1) = decide (q < k) := decide_eq_decide.2 (by omega)
        rw [this]
        simp [e]
end LM.G9
namespace LM.G9
open Go LM
def jx (j : Jur) (wo : Int) (out : List Int) (opn : Nat) : Jy := jy (fxJ j out opn) (ldsW wo j.ofs)
theorem jx_m (j : Jur) (wo : Int) (out : List Int) (opn : Nat) : (jx j wo out opn).m = j.pts.length := qsK_len _ _ _ _
theorem jx_n (j : Jur) (wo : Int) (out : List Int) (opn : Nat) : (jx j wo out opn).n = j.ofs.length := fxO_len _ _
theorem jx_hr (j : Jur) (wo : Int) (out : List Int) (opn p : Nat) : (jx j wo out opn).hr p = (jyJ j).hr p := by
  show hourAt (fxJ j out opn) p = hourAt j p
  unfold hourAt
  have : (fxJ j out opn).pts[p]? = (j.pts[p]?).map fun q => if p < j.pts.length ∧ fixd out opn p ≠ none then postR q else q := qsK_get _ _ _ _ _
  rw [this]
  cases j.pts[p]? with
  | none => rfl
  | some q =>
    simp only [Option.map_some]
    split <;> rfl
theorem ldW_at {j : Jur} (g : Good j) (wo : Int) {i : Nat} (hi : i < j.ofs.length) : (ldsW wo j.ofs).getD i 0 = if (i : Int) = wo then 0 else (jyJ j).ld i := by
  have hl : (ldsL 24 j.ofs).length = j.ofs.length := by simp [ldsL]
  have hJ : (jyJ j).ld i = (ldsL 24 j.ofs).getD i 0 := rfl
  rw [hJ]
  unfold ldsW
  by_cases h0 : 0 ≤ wo
  · rw [if_pos h0]
    by_cases e : (i : Int) = wo
    · rw [if_pos e]
      have : wo.toNat = i := by omega
      rw [this, List.getD_eq_getElem?_getD, List.getElem?_set_self (by omega)]
      rfl
    · rw [if_neg e, List.getD_eq_getElem?_getD, List.getElem?_set_ne (by omega), List.getD_eq_getElem?_getD]
  · rw [if_neg h0, if_neg (by omega)]
theorem ldJ_pos {j : Jur} (g : Good j) {i : Nat} (hi : i < j.ofs.length) : (jyJ j).ld i = j.ofs[i].load ∧ 0 ≤ (jyJ j).ld i := by
  have := g.ld _ (List.getElem_mem hi)
  have e : (jyJ j).ld i = (ldsL 24 j.ofs).getD i 0 := rfl
  rw [e, lds_at hi, if_neg (by omega)]
  exact ⟨rfl, this.1⟩
theorem jx_ld {j : Jur} (g : Good j) (wo : Int) (out : List Int) (opn : Nat) {i : Nat} (hi : i < j.ofs.length) : (jx j wo out opn).ld i = if (i : Int) = wo then 0 else (jyJ j).ld i := ldW_at g wo hi
theorem jx_pos {j : Jur} (g : Good j) (wo : Int) (out : List Int) (opn : Nat) : ∀ i, i < (jx j wo out opn).n → 0 ≤ (jx j wo out opn).ld i := by
  intro i hi
  rw [jx_n] at hi
  rw [jx_ld g wo out opn hi]
  split
  · exact Int.le_refl _
  · exact (ldJ_pos g hi).2
theorem cnt_eq {J J' : Jy} (h : J.m = J'.m) (B : Nat → Option Nat) (i : Nat) : cntA J B i = cntA J' B i := by unfold cntA; rw [h]
theorem cnt_zero {J : Jy} {B : Nat → Option Nat} {i : Nat} (h : cntA J B i = 0) {p : Nat} (hp : p < J.m) : B p ≠ some i := by
  unfold cntA at h
  rw [List.countP_eq_zero] at h
  have := h p (List.mem_range.2 hp)
  simpa using this
theorem cpl_iff {j : Jur} (g : Good j) (wo : Int) (out : List Int) (opn : Nat)
    (hfx : ∀ p i, p < j.pts.length → fixd out opn p = some i → i < j.ofs.length ∧ servF j i p = true ∧ (i : Int) ≠ wo) :
    cplB j wo out opn = true ↔ ∃ B, Valid (jyJ j) B ∧ (∀ p, p < j.pts.length → ∀ i, fixd out opn p = some i → B p = some i) ∧ (∀ p, p < j.pts.length → bitB opn p = true → B p ≠ none) ∧ (∀ p, p < j.pts.length → ∀ i, B p = some i → (i : Int) ≠ wo) := by
  have hmJ : (jyJ j).m = j.pts.length := rfl
  have hnJ : (jyJ j).n = j.ofs.length := rfl
  have hm := jx_m j wo out opn
  have hn := jx_n j wo out opn
  have hsv : ∀ i p, (jx j wo out opn).sv i p = servF (fxJ j out opn) i p := fun _ _ => rfl
  have hsJ : ∀ i p, (jyJ j).sv i p = servF j i p := fun _ _ => rfl
  have hnat : ∀ p i, p < j.pts.length → (hi : i < j.ofs.length) → servF j i p = true → (hp : p < j.pts.length) → (j.pts[p].nations.any (Str.is j.ofs[i].nation)) = false := by
    intro p i _ hi hs hp
    unfold servF servesV at hs
    simp only [Int.toNat_natCast, List.getElem?_eq_getElem hi, List.getElem?_eq_getElem hp] at hs
    unfold servesB at hs
    rw [Bool.and_eq_true] at hs
    simpa using hs.2
  have key : cplB j wo out opn = true ↔ ∃ B, Valid (jx j wo out opn) B ∧ ∀ p ∈ (List.range j.pts.length).filter (bitB (setK out opn j.pts.length)), B p ≠ none := by
    unfold cplB
    rw [decide_eq_true_eq]
    show (fillL (jx j wo out opn) ((List.range (fxJ j out opn).pts.length).filter (bitB (setK out opn j.pts.length))) start).1 = _ ↔ _
    have e : (fxJ j out opn).pts.length = j.pts.length := qsK_len _ _ _ _
    rw [e]
    exact fills_iff (jx_pos g wo out opn) (List.Pairwise.filter _ List.nodup_range) fun p hp => by
      rw [hm]
      exact List.mem_range.1 (List.mem_filter.1 hp).1
  have hset : ∀ p, p < j.pts.length → (p ∈ (List.range j.pts.length).filter (bitB (setK out opn j.pts.length)) ↔ (bitB opn p = true ∨ ∃ i, fixd out opn p = some i)) := by
    intro p hp
    rw [List.mem_filter, List.mem_range, setK_bit]
    simp only [hp, true_and, decide_true, Bool.true_and, Bool.or_eq_true, Option.isSome_iff_exists]
  rw [key]
  constructor
  · rintro ⟨B, hB, hc⟩
    have hwo : ∀ p, p < j.pts.length → ∀ i, B p = some i → (i : Int) ≠ wo := by
      intro p hp i hi e
      have hin := (hB.fit p (by omega) i hi).1
      have hl := hB.ld i hin
      rw [jx_ld g wo out opn (by omega), if_pos e] at hl
      exact cnt_zero (J := jx j wo out opn) (by omega) (by omega) hi
    have hfxB : ∀ p, p < j.pts.length → ∀ i, fixd out opn p = some i → B p = some i := by
      intro p hp i hi
      have hne := hc p ((hset p hp).2 (.inr ⟨i, hi⟩))
      cases hb : B p with
      | none => exact absurd hb hne
      | some i' =>
        obtain ⟨h1, h2⟩ := hB.fit p (by omega) i' hb
        rw [hsv, fx_serves g out opn i' p (by omega) hp, hi] at h2
        simp only [Bool.and_eq_true, decide_eq_true_eq] at h2
        rw [h2.1]
    refine ⟨B, ⟨?_, ?_, ?_⟩, hfxB, fun p hp hb => hc p ((hset p hp).2 (.inl hb)), hwo⟩
    · intro p hp i hi
      rw [hmJ] at hp
      obtain ⟨h1, h2⟩ := hB.fit p (by omega) i hi
      refine ⟨by omega, ?_⟩
      rw [hsJ]
      cases hf : fixd out opn p with
      | none =>
        rw [hsv, fx_serves g out opn i p (by omega) hp, hf] at h2
        exact h2
      | some i0 =>
        have := hfxB p hp i0 hf
        rw [hi] at this
        cases this
        exact (hfx p i hp hf).2.1
    · intro p q hp hq hne i h1 h2
      rw [← jx_hr j wo out opn p, ← jx_hr j wo out opn q]
      exact hB.apart p q (by omega) (by omega) hne i h1 h2
    · intro i hi
      rw [hnJ] at hi
      have h1 := hB.ld i (by omega)
      rw [jx_ld g wo out opn hi] at h1
      rw [cnt_eq (J' := jx j wo out opn) (by omega)]
      have := (ldJ_pos g hi).2
      split at h1 <;> omega
  · rintro ⟨B, hB, h1, h2, h3⟩
    refine ⟨B, ⟨?_, ?_, ?_⟩, ?_⟩
    · intro p hp i hi
      rw [hm] at hp
      obtain ⟨k1, k2⟩ := hB.fit p (by omega) i hi
      refine ⟨by omega, ?_⟩
      rw [hsv, fx_serves g out opn i p (by omega) hp]
      cases hf : fixd out opn p with
      | none => exact k2
      | some i0 =>
        have := h1 p hp i0 hf
        rw [hi] at this
        cases this
        simp only [decide_true, Bool.true_and]
        rw [hnat p i hp (by omega) k2 hp]
        rfl
    · intro p q hp hq hne i e1 e2
      rw [jx_hr, jx_hr]
      exact hB.apart p q (by omega) (by omega) hne i e1 e2
    · intro i hi
      rw [hn] at hi
      rw [jx_ld g wo out opn hi, cnt_eq (J' := jyJ j) (by omega)]
      by_cases e : (i : Int) = wo
      · rw [if_pos e]
        have : cntA (jyJ j) B i = 0 := by
          unfold cntA
          rw [List.countP_eq_zero]
          intro p hp
          rw [decide_eq_true_eq]
          exact fun hb => h3 p (List.mem_range.1 hp) i hb e
        omega
      · rw [if_neg e]
        exact hB.ld i (by omega)
    · intro p hp
      have hpm := List.mem_range.1 (List.mem_filter.1 hp).1
      rcases (hset p hpm).1 hp with h | ⟨i, h⟩
      · exact h2 p hpm h
      · rw [h1 p hpm i h]
        simp
end LM.G9
namespace LM.G9
open Go LM
theorem eachE_zero {α : Type} {chk : List α → α → Int} : ∀ {l pre : List α}, eachE chk pre l = 0 ↔ ∀ k (hk : k < l.length), chk (pre ++ l.take k) l[k] = 0
  | [], _ => by simp [eachE]
  | x :: r, pre => by
    have ih := eachE_zero (chk := chk) (l := r) (pre := pre ++ [x])
    rw [eachE]
    by_cases h : chk pre x = 0
    · rw [if_neg (by simp [h]), ih]
      constructor
      · intro h1 k hk
        cases k with
        | zero => simpa using h
        | succ k =>
          have := h1 k (by simpa using hk)
          simpa using this
      · intro h1 k hk
        have := h1 (k + 1) (by simpa using hk)
        simpa using this
    · rw [if_pos (by simpa using h)]
      constructor
      · intro e; exact absurd e h
      · intro h1
        have h2 := h1 0 (by simp)
        rw [List.take_zero, List.append_nil] at h2
        exact absurd h2 h
def toB (l : List Int) (p : Nat) : Option Nat := match l[p]? with
  | some x => if x < 0 then none else some x.toNat
  | none => none
def Ent (j : Jur) (p : Nat) (v : Int) : Prop := v = -1 ∨ (0 ≤ v ∧ v < j.ofs.length ∧ servesV j v p = true)
theorem numE_zero {j : Jur} {p : Nat} {v : Int} : numE j p v = 0 ↔ Ent j p v := by
  unfold numE Ent outside
  by_cases h1 : v < -1
  · simp [h1]; omega
  · by_cases h2 : v > (j.ofs.length : Int) - 1
    · simp [h1, h2]; omega
    · by_cases h3 : v = -1
      · subst h3; simp [show ¬ (-1 : Int) > (j.ofs.length : Int) - 1 from h2]
      · have h4 : 0 ≤ v := by omega
        have h5 : v < j.ofs.length := by omega
        simp [h1, h2, h3, h4, h5]
theorem toB_some {l : List Int} {p i : Nat} : toB l p = some i ↔ l[p]? = some (i : Int) := by
  unfold toB
  cases h : l[p]? with
  | none => simp
  | some x =>
    simp only [Option.some.injEq]
    by_cases h0 : x < 0
    · rw [if_pos h0]; constructor
      · intro e; cases e
      · intro e; omega
    · rw [if_neg h0]
      simp only [Option.some.injEq]
      omega
theorem clash_iff {j : Jur} {v h : Int} : ∀ {l : List Int} {k : Nat}, clashF j v h k l = true ↔ ∃ q, l[q]? = some v ∧ hourAt j (k + q) = h
  | [], k => by simp [clashF]
  | x :: r, k => by
    have ih := clash_iff (j := j) (v := v) (h := h) (l := r) (k := k + 1)
    rw [clashF, Bool.or_eq_true, Bool.and_eq_true, decide_eq_true_eq, decide_eq_true_eq, ih]
    constructor
    · rintro (⟨rfl, h1⟩ | ⟨q, h1, h2⟩)
      · exact ⟨0, rfl, h1⟩
      · exact ⟨q + 1, by simpa using h1, by rw [← h2]; congr 1; omega⟩
    · rintro ⟨q, h1, h2⟩
      cases q with
      | zero => exact .inl ⟨by simpa using h1, h2⟩
      | succ q => exact .inr ⟨q, by simpa using h1, by rw [← h2]; congr 1; omega⟩
theorem countV_app (v : Int) (l : List Int) (x : Int) : countV v (l ++ [x]) = countV v l + if x = v then 1 else 0 := by
  unfold countV
  rw [List.filter_append, List.length_append]
  by_cases h : x = v <;> simp [h]
theorem countV_app2 (v : Int) (l r : List Int) : countV v (l ++ r) = countV v l + countV v r := by
  unfold countV
  rw [List.filter_append, List.length_append]
  omega
theorem cnt_take (l : List Int) (i : Nat) : ∀ k, k ≤ l.length → (((List.range k).countP fun p => decide (toB l p = some i) : Nat) : Int) = countV i (l.take k)
  | 0, _ => by simp [countV]
  | k + 1, h => by
    have ih := cnt_take l i k (by omega)
    have hk : k < l.length := by omega
    rw [List.range_succ, List.countP_append, List.take_succ, List.getElem?_eq_getElem hk]
    rw [Int.natCast_add, ih, Option.toList_some, countV_app]
    congr 1
    rw [List.countP_singleton]
    have : (toB l k = some i) ↔ l[k] = (i : Int) := by rw [toB_some, List.getElem?_eq_getElem hk]; simp
    by_cases e : l[k] = (i : Int)
    · rw [if_pos e]; simp [this, e]
    · rw [if_neg e]; simp [this, e]
theorem cnt_all {j : Jur} {l : List Int} (hl : l.length = j.pts.length) (i : Nat) : (cntA (jyJ j) (toB l) i : Int) = countV i l := by
  have := cnt_take l i l.length (Nat.le_refl _)
  rw [List.take_length, hl] at this
  exact this
theorem load_at {j : Jur} (g : Good j) {i : Nat} (hi : i < j.ofs.length) : loadOf j i = (jyJ j).ld i := by
  rw [(ldJ_pos g hi).1]
  unfold loadOf
  rw [Int.toNat_natCast, List.getElem?_eq_getElem hi]
def FitL (j : Jur) (l : List Int) : Prop := ∀ k (hk : k < l.length), fitE j (l.take k) l[k] = 0
theorem fitE_zero {j : Jur} {pre : List Int} {v : Int} : fitE j pre v = 0 ↔ v < 0 ∨ (clashF j v (hourAt j pre.length) 0 pre = false ∧ countV v pre + 1 ≤ loadOf j v) := by
  unfold fitE
  by_cases h : v < 0
  · simp [h]
  · rw [if_neg h]
    cases clashF j v (hourAt j pre.length) 0 pre
    · by_cases h2 : countV v pre + 1 > loadOf j v
      · rw [if_pos h2]; simp [h]; omega
      · simp [h, h2]; omega
    · simp [h]
theorem valid_iff {j : Jur} (g : Good j) {l : List Int} (hl : l.length = j.pts.length) (he : ∀ k (hk : k < l.length), Ent j k l[k]) : FitL j l ↔ Valid (jyJ j) (toB l) := by
  have hmJ : (jyJ j).m = j.pts.length := rfl
  have hnJ : (jyJ j).n = j.ofs.length := rfl
  constructor
  · intro h
    refine ⟨?_, ?_, ?_⟩
    · intro p hp i hi
      rw [hmJ] at hp
      have hp' : p < l.length := by omega
      rw [toB_some, List.getElem?_eq_getElem hp'] at hi
      have hi : l[p] = (i : Int) := by simpa using hi
      rcases he p hp' with e | ⟨e1, e2, e3⟩
      · omega
      · rw [hi] at e2 e3
        exact ⟨by omega, e3⟩
    · have key : ∀ p q, p < q → q < j.pts.length → ∀ i, toB l p = some i → toB l q = some i → hourAt j p ≠ hourAt j q := by
        intro p q hpq hq i h1 h2 e
        have hq' : q < l.length := by omega
        rw [toB_some] at h1 h2
        rw [List.getElem?_eq_getElem hq'] at h2
        have h2 : l[q] = (i : Int) := by simpa using h2
        have := fitE_zero.1 (h q hq')
        rw [h2, List.length_take, Nat.min_eq_left (by omega)] at this
        rcases this with h3 | ⟨h3, _⟩
        · omega
        · have hc : clashF j (i : Int) (hourAt j q) 0 (l.take q) = true := clash_iff.2 ⟨p, by rw [List.getElem?_take_of_lt hpq]; exact h1, by rw [Nat.zero_add]; exact e⟩
          rw [hc] at h3
          cases h3
      intro p q hp hq hne i h1 h2
      show hourAt j p ≠ hourAt j q
      rcases Nat.lt_or_gt_of_ne hne with h3 | h3
      · exact key p q h3 hq i h1 h2
      · exact (key q p h3 hp i h2 h1).symm
    · intro i hi
      rw [hnJ] at hi
      rw [cnt_all hl]
      have : ∀ k, k ≤ l.length → countV i (l.take k) ≤ (jyJ j).ld i := by
        intro k
        induction k with
        | zero => intro _; have := (ldJ_pos g hi).2; simpa [countV] using this
        | succ k ih =>
          intro hk
          have ih := ih (by omega)
          have hk' : k < l.length := by omega
          rw [List.take_succ, List.getElem?_eq_getElem hk', Option.toList_some, countV_app]
          by_cases e : l[k] = (i : Int)
          · rw [if_pos e]
            have := fitE_zero.1 (h k hk')
            rw [e, load_at g hi] at this
            rcases this with h3 | ⟨_, h3⟩
            · omega
            · exact h3
          · rw [if_neg e]; omega
      have := this l.length (Nat.le_refl _)
      rw [List.take_length] at this
      exact this
  · intro h k hk
    rw [fitE_zero]
    by_cases h0 : l[k] < 0
    · exact .inl h0
    · obtain ⟨i, hi⟩ : ∃ i : Nat, l[k] = i := ⟨l[k].toNat, by omega⟩
      have hb : toB l k = some i := by rw [toB_some, List.getElem?_eq_getElem hk, hi]
      have hin := (h.fit k (by omega) i hb).1
      rw [hnJ] at hin
      refine .inr ⟨?_, ?_⟩
      · rw [hi, List.length_take, Nat.min_eq_left (by omega)]
        cases hc : clashF j (i : Int) (hourAt j k) 0 (l.take k)
        · rfl
        · obtain ⟨q, h1, h2⟩ := clash_iff.1 hc
          rw [Nat.zero_add] at h2
          have hq : q < k := by
            have := (List.getElem?_eq_some_iff.1 h1).1
            rw [List.length_take] at this
            omega
          rw [List.getElem?_take_of_lt hq] at h1
          exact absurd h2 (h.apart q k (by omega) (by omega) (by omega) i (toB_some.2 h1) hb)
      · rw [hi, load_at g hin]
        have h1 := h.ld i hin
        rw [cnt_all hl] at h1
        have h2 : l = l.take (k + 1) ++ l.drop (k + 1) := (List.take_append_drop _ _).symm
        have h3 : countV i l = countV i (l.take (k + 1)) + countV i (l.drop (k + 1)) := by
          rw [← countV_app2, List.take_append_drop]
        have h4 := countV_nonneg i (l.drop (k + 1))
        rw [List.take_succ, List.getElem?_eq_getElem hk, Option.toList_some, countV_app, hi, if_pos rfl] at h3
        omega
theorem appE_zero {j : Jur} {a : List Int} : appE j a = 0 ↔ a.length = j.pts.length ∧ (∀ k (hk : k < a.length), Ent j k a[k]) ∧ FitL j a := by
  unfold appE
  by_cases h : a.length = j.pts.length
  · rw [if_neg (by simpa using h)]
    have e1 : eachE (fun pre v => numE j pre.length v) [] a = 0 ↔ ∀ k (hk : k < a.length), Ent j k a[k] := by
      rw [eachE_zero]
      constructor
      · intro h1 k hk
        have := h1 k hk
        rw [List.nil_append, List.length_take, Nat.min_eq_left (by omega), numE_zero] at this
        exact this
      · intro h1 k hk
        show numE j ([] ++ a.take k).length a[k] = 0
        rw [List.nil_append, List.length_take, Nat.min_eq_left (by omega), numE_zero]
        exact h1 k hk
    have e2 : eachE (fitE j) [] a = 0 ↔ FitL j a := by
      rw [eachE_zero]
      unfold FitL
      simp only [List.nil_append]
    by_cases h1 : eachE (fun pre v => numE j pre.length v) [] a = 0
    · rw [if_neg (by simpa using h1), e2]
      exact ⟨fun h2 => ⟨h, e1.1 h1, h2⟩, fun h2 => h2.2.2⟩
    · rw [if_pos (by simpa using h1)]
      exact ⟨fun h2 => absurd h2 h1, fun h2 => absurd (e1.2 h2.2.1) h1⟩
  · rw [if_pos (by simpa using h)]
    simp [h]
end LM.G9
namespace LM.G9
open Go LM
theorem fixd_eq (a : List Int) (opn p : Nat) : fixd a opn p = if bitB opn p = true then none else toB a p := by
  unfold fixd toB
  cases a[p]? with
  | none => simp
  | some x =>
    simp only []
    cases bitB opn p <;> simp
theorem clr_bits : (List.range 32).all (fun v => (List.range 5).all fun p => (List.range 5).all fun q => bitB (clr v p) q == (bitB v q && q != p)) = true := by decide +kernel
theorem clr_bit {v p q : Nat} (hv : v < 32) (hp : p < 5) (hq : q < 5) : bitB (clr v p) q = (bitB v q && q != p) :=
  eq_of_beq (List.all_eq_true.1 (List.all_eq_true.1 (List.all_eq_true.1 clr_bits v (List.mem_range.2 hv)) p (List.mem_range.2 hp)) q (List.mem_range.2 hq))
theorem Valid.sub {J : Jy} {B B' : Nat → Option Nat} (h : Valid J B) (hs : ∀ q, q < J.m → ∀ i, B' q = some i → B q = some i) : Valid J B' := by
  refine ⟨fun p hp i hi => h.fit p hp i (hs p hp i hi), fun p q hp hq hne i h1 h2 => h.apart p q hp hq hne i (hs p hp i h1) (hs q hq i h2), fun i hi => ?_⟩
  have h1 := h.ld i hi
  have h2 : cntA J B' i ≤ cntA J B i := by
    unfold cntA
    refine List.countP_mono_left fun p hp hpi => ?_
    rw [decide_eq_true_eq] at hpi ⊢
    exact hs p (List.mem_range.1 hp) i hpi
  omega
def RightB (j : Jur) (a : List Int) (off : Nat) (B : Nat → Option Nat) : Prop :=
  ∀ q, q < j.pts.length → (a[q]? = some (off : Int) → B q ≠ none ∧ B q ≠ some off) ∧ (a[q]? ≠ some (off : Int) → B q = toB a q)
def ExB (j : Jur) (a : List Int) (off p : Nat) (out : List Int) : Prop := ∃ B, Valid (jyJ j) B ∧ RightB j a off B ∧ ∀ q, q < p → B q = toB out q
structure LInv (j : Jur) (a : List Int) (off p : Nat) (out : List Int) (opn : Nat) : Prop where
  len : out.length = j.pts.length
  ent : ∀ k (hk : k < out.length), Ent j k out[k]
  bits : ∀ q, q < j.pts.length → (bitB opn q = true ↔ p ≤ q ∧ a[q]? = some (off : Int))
  done : ∀ q, q < p → (a[q]? = some (off : Int) → ∃ i : Nat, out[q]? = some (i : Int) ∧ i ≠ off) ∧ (a[q]? ≠ some (off : Int) → out[q]? = a[q]?)
  rest : ∀ q, p ≤ q → out[q]? = a[q]?
theorem toB_congr {l k : List Int} {q : Nat} (h : l[q]? = k[q]?) : toB l q = toB k q := by unfold toB; rw [h]
theorem toB_set_ne {l : List Int} {p q : Nat} {x : Int} (h : q ≠ p) : toB (l.set p x) q = toB l q := toB_congr (List.getElem?_set_ne (Ne.symm h))
theorem toB_set_eq {l : List Int} {p i : Nat} (h : p < l.length) : toB (l.set p (i : Int)) p = some i := by
  rw [toB_some, List.getElem?_set_self h]
theorem LInv.put {j : Jur} {a : List Int} {off p : Nat} {out : List Int} {opn : Nat} (h : LInv j a off p out opn) (hp : p < j.pts.length) (hm : j.pts.length ≤ 5) (ho : opn < 2 ^ j.pts.length) (hap : a[p]? = some (off : Int)) {i : Nat} (hi : i < j.ofs.length) (hne : i ≠ off) (hs : servF j i p = true) : LInv j a off (p + 1) (out.set p i) (clr opn p) := by
  have h32 := pow32 hm
  have hpl : p < out.length := by rw [h.len]; exact hp
  refine ⟨by rw [List.length_set]; exact h.len, ?_, ?_, ?_, ?_⟩
  · intro k hk
    rw [List.length_set] at hk
    by_cases e : k = p
    · subst e
      rw [List.getElem_set_self]
      exact .inr ⟨by omega, by omega, hs⟩
    · rw [List.getElem_set_ne (Ne.symm e)]
      exact h.ent k hk
  · intro q hq
    rw [clr_bit (by omega) (by omega) (by omega), Bool.and_eq_true, h.bits q hq, bne_iff_ne]
    constructor
    · rintro ⟨⟨h1, h2⟩, h3⟩; exact ⟨by omega, h2⟩
    · rintro ⟨h1, h2⟩; exact ⟨⟨by omega, h2⟩, by omega⟩
  · intro q hq
    by_cases e : q = p
    · subst e
      rw [List.getElem?_set_self hpl]
      exact ⟨fun _ => ⟨i, rfl, hne⟩, fun hn => absurd hap hn⟩
    · rw [List.getElem?_set_ne (Ne.symm e)]
      exact h.done q (by omega)
  · intro q hq
    rw [List.getElem?_set_ne (by omega)]
    exact h.rest q (by omega)
theorem LInv.skip {j : Jur} {a : List Int} {off p : Nat} {out : List Int} {opn : Nat} (h : LInv j a off p out opn) (hap : a[p]? ≠ some (off : Int)) : LInv j a off (p + 1) out opn := by
  refine ⟨h.len, h.ent, fun q hq => ?_, fun q hq => ?_, fun q hq => h.rest q (by omega)⟩
  · rw [h.bits q hq]
    constructor
    · rintro ⟨h1, h2⟩
      refine ⟨?_, h2⟩
      rcases Nat.lt_or_ge p q with h3 | h3
      · exact h3
      · have : q = p := by omega
        subst this
        exact absurd h2 hap
    · rintro ⟨h1, h2⟩; exact ⟨by omega, h2⟩
  · by_cases e : q = p
    · subst e
      exact ⟨fun h1 => absurd h1 hap, fun _ => h.rest q (Nat.le_refl _)⟩
    · exact h.done q (by omega)
theorem cpl_ex {j : Jur} (g : Good j) {a : List Int} {off p : Nat} (hpm : p ≤ j.pts.length) {out : List Int} {opn : Nat} (h : LInv j a off p out opn) : cplB j off out opn = true ↔ ExB j a off p out := by
  have hmJ : (jyJ j).m = j.pts.length := rfl
  have hnb : ∀ q, q < j.pts.length → bitB opn q ≠ true → ∀ k, toB out q = some k → k < j.ofs.length ∧ servF j k q = true ∧ ((k : Int) ≠ (off : Int)) := by
    intro q hq hb k hk
    have hql : q < out.length := by rw [h.len]; exact hq
    rw [toB_some] at hk
    have hk' : out[q] = (k : Int) := by rw [List.getElem?_eq_getElem hql] at hk; simpa using hk
    have he := h.ent q hql
    rw [hk'] at he
    rcases he with e | ⟨_, e2, e3⟩
    · omega
    · refine ⟨by omega, e3, ?_⟩
      have hb : ¬ (p ≤ q ∧ a[q]? = some (off : Int)) := fun hh => hb ((h.bits q hq).2 hh)
      intro e
      rw [e] at hk
      by_cases hqp : p ≤ q
      · rw [h.rest q hqp] at hk
        exact hb ⟨hqp, hk⟩
      · by_cases ha : a[q]? = some (off : Int)
        · obtain ⟨i, h1, h2⟩ := (h.done q (by omega)).1 ha
          rw [hk] at h1
          have : (off : Int) = i := by simpa using h1
          omega
        · rw [(h.done q (by omega)).2 ha] at hk
          exact ha hk
  have heq : ∀ q, q < j.pts.length → a[q]? ≠ some (off : Int) → toB out q = toB a q := by
    intro q hq ha
    by_cases hqp : p ≤ q
    · exact toB_congr (h.rest q hqp)
    · exact toB_congr ((h.done q (by omega)).2 ha)
  rw [cpl_iff g (off : Int) out opn fun q i hq hf => by
    rw [fixd_eq] at hf
    by_cases hb : bitB opn q = true
    · rw [if_pos hb] at hf; cases hf
    · rw [if_neg hb] at hf
      exact hnb q hq hb i hf]
  constructor
  · rintro ⟨B, hB, h1, h2, h3⟩
    refine ⟨fun q => if bitB opn q = true then B q else toB out q, hB.sub fun q hq i hi => ?_, fun q hq => ⟨fun ha => ?_, fun ha => ?_⟩, fun q hq => ?_⟩
    · rw [hmJ] at hq
      by_cases hb : bitB opn q = true
      · simp only [hb, if_true] at hi; exact hi
      · simp only [hb] at hi
        refine h1 q hq i ?_
        rw [fixd_eq, if_neg hb]
        exact hi
    · by_cases hqp : p ≤ q
      · have hb := (h.bits q hq).2 ⟨hqp, ha⟩
        simp only [hb, if_true]
        refine ⟨h2 q hq hb, fun e => h3 q hq off e rfl⟩
      · have hb : ¬ bitB opn q = true := fun hb => hqp ((h.bits q hq).1 hb).1
        simp only [hb]
        obtain ⟨i, e1, e2⟩ := (h.done q (by omega)).1 ha
        have : toB out q = some i := toB_some.2 e1
        rw [if_neg (by simp), this]
        exact ⟨by simp, fun e => e2 (by simpa using e)⟩
    · have hb : ¬ bitB opn q = true := fun hb => ha ((h.bits q hq).1 hb).2
      simp only [hb]
      rw [if_neg (by simp)]
      exact heq q hq ha
    · have hb : ¬ bitB opn q = true := fun hb => by have := ((h.bits q (by omega)).1 hb).1; omega
      simp only [hb]
      rw [if_neg (by simp)]
  · rintro ⟨B, hB, hR, hag⟩
    refine ⟨B, hB, fun q hq i hf => ?_, fun q hq hb => ((hR q hq).1 ((h.bits q hq).1 hb).2).1, fun q hq i hi e => ?_⟩
    · rw [fixd_eq] at hf
      by_cases hb : bitB opn q = true
      · rw [if_pos hb] at hf; cases hf
      · rw [if_neg hb] at hf
        by_cases hqp : q < p
        · rw [hag q hqp]; exact hf
        · have ha : a[q]? ≠ some (off : Int) := fun ha => hb ((h.bits q hq).2 ⟨by omega, ha⟩)
          rw [(hR q hq).2 ha, ← heq q hq ha]
          exact hf
    · have e' : i = off := by omega
      subst e'
      by_cases ha : a[q]? = some (i : Int)
      · exact ((hR q hq).1 ha).2 hi
      · rw [(hR q hq).2 ha, toB_some] at hi
        exact ha hi
def Least (j : Jur) (a : List Int) (off : Nat) : Nat → Nat → List Int → List Int → Prop
  | 0, _, out, out2 => out2 = out
  | d + 1, p, out, out2 => (a[p]? ≠ some (off : Int) ∧ Least j a off d (p + 1) out out2) ∨
      (a[p]? = some (off : Int) ∧ ∃ i : Nat, i < j.ofs.length ∧ i ≠ off ∧ servF j i p = true ∧ ExB j a off (p + 1) (out.set p i) ∧ (∀ k : Nat, k < i → k ≠ off → servF j k p = true → ¬ ExB j a off (p + 1) (out.set p k)) ∧ Least j a off d (p + 1) (out.set p i) out2)
theorem tryO_some {C : List Int → Nat → Bool} {j : Jur} {wo : Int} {p opn : Nat} {out r : List Int} : ∀ {d b : Nat}, tryO C j wo p opn out (List.range' b d) = some r →
    ∃ i, b ≤ i ∧ i < b + d ∧ (i : Int) ≠ wo ∧ servF j i p = true ∧ C (out.set p i) (clr opn p) = true ∧ r = out.set p i ∧ ∀ k, b ≤ k → k < i → (k : Int) ≠ wo → servF j k p = true → C (out.set p k) (clr opn p) = false
  | 0, b, h => by cases h
  | d + 1, b, h => by
    rw [List.range'_succ, tryO] at h
    split at h
    · rename_i hc
      cases h
      exact ⟨b, Nat.le_refl _, by omega, hc.1.1, hc.1.2, hc.2, rfl, fun k h1 h2 => absurd h2 (by omega)⟩
    · rename_i hc
      obtain ⟨i, h1, h2, h3, h4, h5, h6, h7⟩ := tryO_some h
      refine ⟨i, by omega, by omega, h3, h4, h5, h6, fun k k1 k2 k3 k4 => ?_⟩
      by_cases e : k = b
      · subst e
        cases hC : C (out.set p k) (clr opn p)
        · rfl
        · exact absurd ⟨⟨k3, k4⟩, hC⟩ hc
      · exact h7 k (by omega) k2 k3 k4
theorem tryO_none {C : List Int → Nat → Bool} {j : Jur} {wo : Int} {p opn : Nat} {out : List Int} : ∀ {d b : Nat}, tryO C j wo p opn out (List.range' b d) = none →
    ∀ k, b ≤ k → k < b + d → (k : Int) ≠ wo → servF j k p = true → C (out.set p k) (clr opn p) = false
  | 0, b, _, k, h1, h2 => absurd h2 (by omega)
  | d + 1, b, h, k, h1, h2 => by
    rw [List.range'_succ, tryO] at h
    split at h
    · cases h
    · rename_i hc
      intro k3 k4
      by_cases e : k = b
      · subst e
        cases hC : C (out.set p k) (clr opn p)
        · rfl
        · exact absurd ⟨⟨k3, k4⟩, hC⟩ hc
      · exact tryO_none h k (by omega) (by omega) k3 k4
theorem ExB.step {j : Jur} {a : List Int} {off p : Nat} {out : List Int} (h : ExB j a off (p + 1) out) : ExB j a off p out := by
  obtain ⟨B, h1, h2, h3⟩ := h
  exact ⟨B, h1, h2, fun q hq => h3 q (by omega)⟩
theorem ExB.congr {j : Jur} {a : List Int} {off p : Nat} {out out' : List Int} (h : ExB j a off p out) (e : ∀ q, q < p → toB out' q = toB out q) : ExB j a off p out' := by
  obtain ⟨B, h1, h2, h3⟩ := h
  exact ⟨B, h1, h2, fun q hq => by rw [e q hq]; exact h3 q hq⟩
theorem lead_spec {j : Jur} (g : Good j) {a : List Int} {off : Nat} (hm : j.pts.length ≤ 5) : ∀ (d p : Nat) (out : List Int) (opn : Nat), p + d = j.pts.length → opn < 2 ^ j.pts.length → LInv j a off p out opn →
    (ExB j a off p out → ∃ out2 opn2, leadL (cplB j off) j off (List.range' p d) out opn = some out2 ∧ LInv j a off j.pts.length out2 opn2 ∧ ExB j a off j.pts.length out2 ∧ Least j a off d p out out2) ∧
    (¬ ExB j a off p out → leadL (cplB j off) j off (List.range' p d) out opn = none ∨ ((∀ q, p ≤ q → q < j.pts.length → a[q]? ≠ some (off : Int)) ∧ leadL (cplB j off) j off (List.range' p d) out opn = some out)) := by
  intro d
  induction d with
  | zero =>
    intro p out opn hd ho h
    have hp : p = j.pts.length := by omega
    subst hp
    exact ⟨fun hE => ⟨out, opn, rfl, h, hE, rfl⟩, fun _ => .inr ⟨fun q h1 h2 => absurd h2 (by omega), rfl⟩⟩
  | succ d ih =>
    intro p out opn hd ho h
    have hp : p < j.pts.length := by omega
    have hpl : p < out.length := by rw [h.len]; exact hp
    rw [List.range'_succ, leadL]
    by_cases ha : a[p]? = some (off : Int)
    · have hb := (h.bits p hp).2 ⟨Nat.le_refl _, ha⟩
      rw [if_pos hb]
      have hC : ∀ i : Nat, i < j.ofs.length → i ≠ off → servF j i p = true → (cplB j off (out.set p i) (clr opn p) = true ↔ ExB j a off (p + 1) (out.set p i)) := fun i hi hne hs =>
        cpl_ex g (by omega) (h.put hp hm ho ha hi hne hs)
      have hcl := clr_le opn p
      cases ht : tryO (cplB j off) j off p opn out (List.range j.ofs.length) with
      | none =>
        simp only []
        rw [List.range_eq_range'] at ht
        have hn := tryO_none ht
        have hno : ¬ ExB j a off p out := by
          rintro ⟨B, hB, hR, hag⟩
          obtain ⟨h1, h2⟩ := (hR p hp).1 ha
          cases hBp : B p with
          | none => exact h1 hBp
          | some i =>
            obtain ⟨h3, h4⟩ := hB.fit p hp i hBp
            have hin : i < j.ofs.length := h3
            have hne : i ≠ off := fun e => h2 (by rw [hBp, e])
            have hf := hn i (Nat.zero_le _) (by omega) (by omega) h4
            have : cplB j off (out.set p i) (clr opn p) = true := (hC i hin hne h4).2 ⟨B, hB, hR, fun q hq => by
              by_cases e : q = p
              · subst e; rw [toB_set_eq hpl]; exact hBp
              · rw [toB_set_ne e]; exact hag q (by omega)⟩
            rw [hf] at this
            cases this
        exact ⟨fun hE => absurd hE hno, fun _ => .inl trivial⟩
      | some out' =>
        simp only []
        rw [List.range_eq_range'] at ht
        obtain ⟨i, _, h2, h3, h4, h5, rfl, h7⟩ := tryO_some ht
        have hin : i < j.ofs.length := by omega
        have hne : i ≠ off := by omega
        have hE' := (hC i hin hne h4).1 h5
        obtain ⟨k1, _⟩ := ih (p + 1) (out.set p i) (clr opn p) (by omega) (by omega) (h.put hp hm ho ha hin hne h4)
        obtain ⟨out2, opn2, e1, e2, e3, e4⟩ := k1 hE'
        have hE : ExB j a off p out := hE'.step.congr fun q hq => (toB_set_ne (by omega)).symm
        refine ⟨fun _ => ⟨out2, opn2, e1, e2, e3, .inr ⟨ha, i, hin, hne, h4, hE', fun k hk hko hks hEk => ?_, e4⟩⟩, fun hn => absurd hE hn⟩
        have := h7 k (Nat.zero_le _) hk (by omega) hks
        have := (hC k (by omega) hko hks).2 hEk
        simp_all
    · have hb : ¬ bitB opn p = true := fun hb => ha ((h.bits p hp).1 hb).2
      rw [if_neg hb]
      obtain ⟨k1, k2⟩ := ih (p + 1) out opn (by omega) ho (h.skip ha)
      have hiff : ExB j a off p out ↔ ExB j a off (p + 1) out := by
        constructor
        · rintro ⟨B, hB, hR, hag⟩
          refine ⟨B, hB, hR, fun q hq => ?_⟩
          by_cases e : q = p
          · subst e
            rw [(hR q hp).2 ha]
            exact toB_congr (h.rest q (Nat.le_refl _)).symm
          · exact hag q (by omega)
        · exact fun h => h.step
      refine ⟨fun hE => ?_, fun hn => ?_⟩
      · obtain ⟨out2, opn2, e1, e2, e3, e4⟩ := k1 (hiff.1 hE)
        exact ⟨out2, opn2, e1, e2, e3, .inl ⟨ha, e4⟩⟩
      · rcases k2 (fun h => hn (hiff.2 h)) with h1 | ⟨h1, h2⟩
        · exact .inl h1
        · refine .inr ⟨fun q h3 h4 => ?_, h2⟩
          by_cases e : q = p
          · subst e; exact ha
          · exact h1 q (by omega) h4
end LM.G9
namespace LM.G9
open Go LM
variable {P : Nat → Option SFunc} [Has P]
def othB (j : Jur) (off : Int) (i : Nat) (l : List Nat) : Bool := l.any fun m => decide ((m : Int) ≠ off) && servF j m i
def T11a (a : List Int) (off : Int) (r : CV) (e : Int) (hard busy other : Bool) (n i m : Nat) : List LV := [.c (.slice (a.map ci)), .c (ci off), .ptr 0 0 0, .ptr 1 0 0, .c r, .c (ci e), .c (.bool hard), .c (.bool busy), .c (ci i), .c (.bool other), .c (.slice (a.map ci)), .c (ci a.length), .c (ci i), .c (ci n), .c (ci m)]
set_option maxHeartbeats 4000000 in
theorem L11a (j : Jur) (hj : j.ok) (a : List Int) (off : Int) (r : CV) (e : Int) (hard busy : Bool) (i : Nat) (hi : i < j.pts.length) (hjl : j.ofs.length < 1000) : ∀ (d m : Nat) (other : Bool), m + d = j.ofs.length →
    execS P (limS P) c11_l0 ⟨T11a a off r e hard busy other j.ofs.length i m, [JB j, JB j]⟩ = some (.exit 2, ⟨[.c (.slice (a.map ci)), .c (ci off), .ptr 0 0 0, .ptr 1 0 0, .c r, .c (ci e), .c (.bool hard), .c (.bool busy), .c (.bool (other || othB j off i (List.range' m d))), .c (.slice (a.map ci)), .c (ci a.length), .c (ci i)], [JB j, JB j]⟩) := by
  intro d
  induction d with
  | zero =>
    intro m other hd
    have hm : m = j.ofs.length := by omega
    subst hm
    rw [r11_l0]
    simp [T11a, c11_l0b, othB]
  | succ d ih =>
    intro m other hd
    have hm : m < j.ofs.length := by omega
    have hw : IntKind.i64.wrap ((m : Int) + 1) = (m : Int) + 1 := wrap64 (by omega) (by omega)
    have hsv := S44 (P := P) j hj m i j.ofs[m] j.pts[i] (List.getElem?_eq_getElem hm) (List.getElem?_eq_getElem hi)
    have hsF : servF j m i = servesB j.ofs[m] j.pts[i] := by
      unfold servF servesV
      simp [List.getElem?_eq_getElem hm, List.getElem?_eq_getElem hi]
    rw [← hsF] at hsv
    have ih := ih (m + 1) (other || (decide ((m : Int) ≠ off) && servF j m i)) (by omega)
    have e0 : othB j off i (List.range' m (d + 1)) = ((decide ((m : Int) ≠ off) && servF j m i) || othB j off i (List.range' (m + 1) d)) := by
      unfold othB
      rw [List.range'_succ, List.any_cons]
    rw [e0, ← Bool.or_assoc]
    simp only [Jur.enc] at hsv
    generalize othB j off i (List.range' (m + 1) d) = z at *
    generalize servF j m i = w at *
    rw [r11_l0]
    cases other
    · by_cases hmo : (m : Int) = off
      · simp [T11a, JB, hmo] at ih ⊢
        have hlt : off < j.ofs.length := by omega
        have hw' : IntKind.i64.wrap (off + 1) = off + 1 := wrap64 (by omega) (by omega)
        simp [c11_l0b, hw', hlt, ih]
      · simp [T11a, JB, hmo] at ih ⊢
        simp [c11_l0b, hm, hmo, hw, hsv, ih]
    · simp [T11a, JB] at ih ⊢
      simp [c11_l0b, hm, hw, ih]
def hardB (j : Jur) (off : Int) (a : List Int) (l : List Nat) : Bool := l.any fun i => decide (a[i]? = some off) && !othB j off i (List.range j.ofs.length)
def busyB (off : Int) (a : List Int) (l : List Nat) : Bool := l.any fun i => decide (a[i]? = some off)
def T11b (a : List Int) (off : Int) (r : CV) (e : Int) (hard busy : Bool) (i : Nat) : List LV := [.c (.slice (a.map ci)), .c (ci off), .ptr 0 0 0, .ptr 1 0 0, .c r, .c (ci e), .c (.bool hard), .c (.bool busy), .c (.slice (a.map ci)), .c (ci a.length), .c (ci i)]
set_option maxHeartbeats 4000000 in
theorem L11b (j : Jur) (hj : j.ok) (a : List Int) (off : Int) (r : CV) (e : Int) (hal : a.length = j.pts.length) (hm : j.pts.length < 1000) (hjl : j.ofs.length < 1000) : ∀ (d i : Nat) (hard busy : Bool), i + d = a.length →
    execS P (limS P) c11_l1 ⟨T11b a off r e hard busy i, [JB j, JB j]⟩ = some (.exit 0, ⟨[.c (.slice (a.map ci)), .c (ci off), .ptr 1 0 0, .c r, .c (ci e), .c (.bool (hard || hardB j off a (List.range' i d))), .c (.bool (busy || busyB off a (List.range' i d)))], [JB j, JB j]⟩) := by
  intro d
  induction d with
  | zero =>
    intro i hard busy hd
    have hi : i = a.length := by omega
    subst hi
    rw [r11_l1]
    simp [T11b, c11_l1b, hardB, busyB]
  | succ d ih =>
    intro i hard busy hd
    have hi : i < a.length := by omega
    have hx : a[i]? = some a[i] := List.getElem?_eq_getElem hi
    have hw : IntKind.i64.wrap ((i : Int) + 1) = (i : Int) + 1 := wrap64 (by omega) (by omega)
    have e1 : hardB j off a (List.range' i (d + 1)) = ((decide (a[i]? = some off) && !othB j off i (List.range j.ofs.length)) || hardB j off a (List.range' (i + 1) d)) := by
      unfold hardB
      rw [List.range'_succ, List.any_cons]
    have e2 : busyB off a (List.range' i (d + 1)) = (decide (a[i]? = some off) || busyB off a (List.range' (i + 1) d)) := by
      unfold busyB
      rw [List.range'_succ, List.any_cons]
    rw [e1, e2, ← Bool.or_assoc, ← Bool.or_assoc]
    have k := fun b => L11a (P := P) j hj a off r e hard b i (by omega) hjl j.ofs.length 0 false (by omega)
    rw [← List.range_eq_range'] at k
    generalize othB j off i (List.range j.ofs.length) = z at *
    rw [hx]
    rw [r11_l1]
    by_cases ha : a[i] = off
    · have ih := ih (i + 1) (hard || !z) true (by omega)
      simp [T11a, T11b, JB, ha] at ih k ⊢
      cases hard
      · simp at ih k
        simp [c11_l1b, hi, hx, ha, hw, k, ih]
      · simp at ih k
        simp [c11_l1b, hi, hx, ha, hw, k, ih]
    · have ih := ih (i + 1) hard busy (by omega)
      simp [T11b, JB, ha] at ih ⊢
      simp [c11_l1b, hi, hx, ha, hw, ih]
def stayB (off x y : Int) : Bool := !(decide (y = off) || (decide (x ≠ off) && decide (y ≠ x)) || (decide (x = off) && decide (y < 0)))
theorem L11c (j : Jur) (a r : List Int) (off : Int) (hl : r.length = a.length) (hal : a.length < 1000) (hs : ∀ i (h1 : i < a.length) (h2 : i < r.length), stayB off a[i] r[i] = true) : ∀ (d i : Nat), i + d = a.length →
    execS P (limS P) c11_l2 ⟨[.c (ci off), .c (.slice (r.map ci)), .c (.slice (a.map ci)), .c (ci a.length), .c (ci i)], [JB j, JB j]⟩ = some (.exit 4, ⟨[], [JB j, JB j]⟩) := by
  intro d
  induction d with
  | zero =>
    intro i hd
    have hi : i = a.length := by omega
    subst hi
    rw [r11_l2]
    simp [c11_l2b]
  | succ d ih =>
    intro i hd
    have hi : i < a.length := by omega
    have hi2 : i < r.length := by omega
    have ih := ih (i + 1) (by omega)
    have hx : a[i]? = some a[i] := List.getElem?_eq_getElem hi
    have hy : r[i]? = some r[i] := List.getElem?_eq_getElem hi2
    have hw : IntKind.i64.wrap ((i : Int) + 1) = (i : Int) + 1 := wrap64 (by omega) (by omega)
    have hs := hs i hi hi2
    unfold stayB at hs
    have hc : (¬r[i] = off ∧ (¬a[i] = off → r[i] = a[i])) ∧ (a[i] = off → 0 ≤ r[i]) := by
      by_cases h1 : r[i] = off
      · simp [h1] at hs
      · by_cases h2 : a[i] = off
        · have h3 : ¬ r[i] < 0 := by simpa [h1, h2] using hs
          exact ⟨⟨h1, fun h => absurd h2 h⟩, fun _ => by omega⟩
        · have h3 : r[i] = a[i] := by simpa [h1, h2] using hs
          exact ⟨⟨h1, fun _ => h3⟩, fun h => absurd h h2⟩
    rw [r11_l2]
    simp [JB] at ih
    simp [c11_l2b, hi, hi2, hl, hx, hy, hw, JB, ih]
    exact hc
end LM.G9
namespace LM.G9
open Go LM
variable {P : Nat → Option SFunc} [Has P] [HasP P]
theorem opnA_bit (a : List Int) (off : Int) (q : Nat) : ∀ k, bitB (opnA a off k) q = (decide (q < k) && decide (a[q]? = some off))
  | 0 => by simp [opnA, bitB]
  | k + 1 => by
    have ih := opnA_bit a off q k
    unfold opnA
    by_cases h : a[k]? = some off
    · rw [if_pos h, or_bit, ih]
      by_cases e : q = k
      · subst e; simp [h]
      · have : decide (q < k + 1) = decide (q < k) := decide_eq_decide.2 (by omega)
        rw [this]; simp [e]
    · rw [if_neg h, ih]
      by_cases e : q = k
      · subst e; simp [h]
      · have : decide (q < k + 1) = decide (q < k) := decide_eq_decide.2 (by omega)
        rw [this]
theorem LInv.init {j : Jur} {a : List Int} {off : Nat} (hl : a.length = j.pts.length) (he : ∀ k (hk : k < a.length), Ent j k a[k]) : LInv j a off 0 a (opnA a off j.pts.length) := by
  refine ⟨hl, he, fun q hq => ?_, fun q hq => absurd hq (by omega), fun q _ => rfl⟩
  rw [opnA_bit]
  simp [hq]
theorem ent_lt {j : Jur} {a : List Int} (he : ∀ k (hk : k < a.length), Ent j k a[k]) : ∀ x ∈ a, x < (j.ofs.length : Int) := by
  intro x hx
  obtain ⟨k, hk, rfl⟩ := List.getElem_of_mem hx
  rcases he k hk with h | ⟨_, h, _⟩ <;> omega
theorem ex_self {j : Jur} (g : Good j) {a : List Int} {off : Nat} (hl : a.length = j.pts.length) (he : ∀ k (hk : k < a.length), Ent j k a[k]) (hf : FitL j a) (hn : ∀ q, q < j.pts.length → a[q]? ≠ some (off : Int)) : ExB j a off 0 a :=
  ⟨toB a, (valid_iff g hl he).1 hf, fun q hq => ⟨fun h => absurd h (hn q hq), fun _ => rfl⟩, fun q hq => absurd hq (by omega)⟩
theorem lead_none {j : Jur} (g : Good j) {a : List Int} {off : Nat} (hm : j.pts.length ≤ 5) (hl : a.length = j.pts.length) (he : ∀ k (hk : k < a.length), Ent j k a[k]) (hf : FitL j a) (hn : ¬ ExB j a off 0 a) :
    leadL (cplB j off) j off (List.range j.pts.length) a (opnA a off j.pts.length) = none ∧ ∃ q, q < j.pts.length ∧ a[q]? = some (off : Int) := by
  have hex : ∃ q, q < j.pts.length ∧ a[q]? = some (off : Int) := by
    by_cases h : ∃ q, q < j.pts.length ∧ a[q]? = some (off : Int)
    · exact h
    · exact absurd (ex_self g hl he hf fun q hq e => h ⟨q, hq, e⟩) hn
  refine ⟨?_, hex⟩
  rw [List.range_eq_range']
  rcases (lead_spec g hm j.pts.length 0 a _ (by omega) (opnA_lt a off _ (Nat.le_refl _)) (LInv.init hl he)).2 hn with h | ⟨h, _⟩
  · exact h
  · obtain ⟨q, h1, h2⟩ := hex
    exact absurd h2 (h q (Nat.zero_le _) h1)
theorem lead_some {j : Jur} (g : Good j) {a : List Int} {off : Nat} (hm : j.pts.length ≤ 5) (hl : a.length = j.pts.length) (he : ∀ k (hk : k < a.length), Ent j k a[k]) (hE : ExB j a off 0 a) :
    ∃ r opn, leadL (cplB j off) j off (List.range j.pts.length) a (opnA a off j.pts.length) = some r ∧ LInv j a off j.pts.length r opn ∧ appE j r = 0 := by
  obtain ⟨r, opn, h1, h2, ⟨B, hB, _, hag⟩, _⟩ := (lead_spec g hm j.pts.length 0 a _ (by omega) (opnA_lt a off _ (Nat.le_refl _)) (LInv.init hl he)).1 hE
  rw [← List.range_eq_range'] at h1
  refine ⟨r, opn, h1, h2, appE_zero.2 ⟨h2.len, h2.ent, (valid_iff g h2.len h2.ent).2 (hB.sub fun q hq i hi => ?_)⟩⟩
  rw [hag q hq]; exact hi
theorem LInv.stay {j : Jur} {a r : List Int} {off opn : Nat} (h : LInv j a off j.pts.length r opn) (hl : a.length = j.pts.length) : ∀ i (h1 : i < a.length) (h2 : i < r.length), stayB off a[i] r[i] = true := by
  intro i h1 h2
  obtain ⟨d1, d2⟩ := h.done i (by omega)
  rw [List.getElem?_eq_getElem h1, List.getElem?_eq_getElem h2] at d1 d2
  unfold stayB
  by_cases e : a[i] = (off : Int)
  · obtain ⟨k, k1, k2⟩ := d1 (by rw [e])
    have k1 : r[i] = (k : Int) := by simpa using k1
    have : ¬ (k : Int) = off := by omega
    have : ¬ (k : Int) < 0 := by omega
    simp [e, k1, *]
  · have := d2 (by simpa using e)
    have : r[i] = a[i] := by simpa using this
    simp [e, this]
theorem LInv.soft {j : Jur} {a r : List Int} {off opn : Nat} (h : LInv j a off j.pts.length r opn) (hl : a.length = j.pts.length) : hardB j off a (List.range j.pts.length) = false := by
  unfold hardB
  rw [List.any_eq_false]
  intro i hi
  have hi := List.mem_range.1 hi
  simp only [Bool.and_eq_true, decide_eq_true_eq, Bool.not_eq_true', not_and, Bool.not_eq_false]
  intro ha
  obtain ⟨k, k1, k2⟩ := (h.done i hi).1 ha
  have hir : i < r.length := by rw [h.len]; exact hi
  have k1' : r[i] = (k : Int) := by rw [List.getElem?_eq_getElem hir] at k1; simpa using k1
  have he := h.ent i hir
  rw [k1'] at he
  rcases he with e | ⟨_, e2, e3⟩
  · omega
  · unfold othB
    rw [List.any_eq_true]
    refine ⟨k, List.mem_range.2 (by omega), ?_⟩
    rw [Bool.and_eq_true, decide_eq_true_eq]
    exact ⟨by omega, e3⟩
set_option maxHeartbeats 8000000 in
theorem S11 (h14 : fn P 14 [] = some (.bool true)) (T : Tabs9 P) (j : Jur) (hj : j.ok) (a : List Int) (ha : (a.length : Int) < 9223372036854775) (off : Int) : fn P 11 [j.enc, .slice (a.map ci), ci off] = some (.bool true) := by
  have e39 := S39 (P := P) j hj
  have e47 := S47 (P := P) j hj 4 5
  have e45 := S45 (P := P) j hj a ha
  simp only [Jur.enc] at e39 e47 e45
  cases hfew : fewB j 4 5
  · rw [hfew] at e47
    rw [u11]
    simp [c11, Jur.enc, e39, h14, e47]
  rw [hfew] at e47
  obtain ⟨hn4, hm5, h0⟩ := few_iff hfew
  have hm : j.pts.length ≤ 5 := by omega
  have hn : j.ofs.length ≤ 4 := by omega
  by_cases hA : ¬ appE j a = 0
  · rw [u11]
    simp [c11, Jur.enc, e39, h14, e47, e45, hA]
  have hA : appE j a = 0 := Decidable.not_not.1 hA
  rw [hA] at e45
  by_cases h1 : off < 0
  · rw [u11]
    simp [c11, Jur.enc, e39, h14, e47, e45, h1]
  by_cases h2 : (j.ofs.length : Int) ≤ off
  · rw [u11]
    simp [c11, Jur.enc, e39, h14, e47, e45, h1, h2]
  obtain ⟨o, rfl⟩ : ∃ o : Nat, off = o := ⟨off.toNat, by omega⟩
  have g := good_of h0
  obtain ⟨hl, he, hf⟩ := appE_zero.1 hA
  have hRE : replE j a o = 0 := by
    unfold replE appJ ofcE
    rw [h0, hA]
    have : outside (o : Int) 0 ((j.ofs.length : Int) - 1) = false := by unfold outside; simp; omega
    have h12 : decide ((12 : Int) < j.pts.length) = false := by simp; omega
    rw [this, h12]
    rfl
  have e48 := S48 (P := P) T j hj a o hRE (by omega) hm hl (ent_lt he) ⟨by omega, by omega⟩ (fun o ho => by have := (g.rl o ho).1; omega) (fun q hq => by have := name_len (g.pn q hq).1; omega) (fun o ho => (g.ld o ho).1)
  have kb := fun r e => L11b (P := P) j hj a o r e hl (by omega) (by omega) a.length 0 false false (by omega)
  rw [← List.range_eq_range', hl] at kb
  simp [T11b, JB, hl] at kb
  simp only [Jur.enc] at e48
  have h2' : ¬ j.ofs.length ≤ o := by omega
  by_cases hE : ExB j a o 0 a
  · obtain ⟨r, opn, l1, l2, l3⟩ := lead_some g hm hl he hE
    have hrl : r.length = a.length := by rw [l2.len, hl]
    have e45r := S45 (P := P) j hj r (by omega)
    rw [l3] at e45r
    have hsoft := l2.soft hl
    have kc := L11c (P := P) j a r o hrl (by omega) (l2.stay hl) a.length 0 (by omega)
    rw [hl] at kc
    rw [l1] at e48
    rw [hsoft] at kb
    simp only [replV, Jur.enc] at e48 e45r
    simp [JB] at kc
    rw [u11]
    simp [c11, Jur.enc, e39, h14, e47, e45, h2', e48, hl, kb, e45r, kc]
  · obtain ⟨l1, q, q1, q2⟩ := lead_none g hm hl he hf hE
    have hbusy : busyB o a (List.range j.pts.length) = true := by
      unfold busyB
      rw [List.any_eq_true]
      exact ⟨q, List.mem_range.2 q1, by simpa using q2⟩
    rw [l1] at e48
    rw [hbusy] at kb
    simp only [replV] at e48
    rw [u11]
    simp [c11, Jur.enc, e39, h14, e47, e45, h2', e48, hl, kb]
end LM.G9
namespace LM.G9
open Go LM
def isM1 : LV → Bool
  | .c (.int .i64 v) => v == -1
  | _ => false
def chkRep (m : Nat) : Option (LV × List LB) → Bool
  | some (.slice 1 1 0 n none (some c), [.cells 1 [] 0, .cells 1 l 0]) => n == m && c == m && l.length == m && l.all isM1
  | _ => false
theorem isM1_eq {x : LV} (h : isM1 x = true) : x = .c (ci (-1)) := by
  unfold isM1 at h
  split at h
  · simp only [beq_iff_eq] at h; rw [h]
  · cases h
theorem chkRep_eq {m : Nat} {r : Option (LV × List LB)} (h : chkRep m r = true) : r = some (.slice 1 1 0 m none (some m), [.cells 1 [] 0, .cells 1 (repM m) 0]) := by
  unfold chkRep at h
  split at h
  · rename_i n c l
    simp only [Bool.and_eq_true, beq_iff_eq] at h
    obtain ⟨⟨⟨rfl, rfl⟩, h3⟩, h4⟩ := h
    have : l = repM c := by
      rw [List.all_eq_true] at h4
      unfold repM
      rw [List.eq_replicate_iff]
      exact ⟨h3, fun b hb => isM1_eq (h4 b hb)⟩
    rw [this]
  · cases h
theorem all_range {p : Nat → Bool} {n : Nat} (h : (List.range n).all p = true) : ∀ k, k < n → p k = true := by
  intro k hk
  rw [List.all_eq_true] at h
  exact h k (List.mem_range.2 hk)
def chkI (r : Option CV) (x : Int) : Bool := match r with
  | some (.int .i64 v) => v == x
  | _ => false
theorem chkI_eq {r : Option CV} {x : Int} (h : chkI r x = true) : r = some (ci x) := by
  unfold chkI at h
  split at h
  · simp only [beq_iff_eq] at h; rw [h]
  · cases h
theorem ev131 : (List.range 6).all (fun m => chkRep m (freshS (runS prog 1000) [.tmp 0] c131 [.slice [ci (-1)], ci (m : Nat)])) = true := by kernel_rfl
theorem ev144 : (List.range 32).all (fun k => chkI (pcallS prog 1000 144 [.int .u64 (k : Nat)]) (popN 5 k)) = true := by kernel_rfl
theorem tabs9 : Tabs9 prog where
  rep m hm := by
    have h := chkRep_eq (all_range ev131 m (by omega))
    have e : ffn prog 131 [.slice [ci (-1)], ci m] = freshS (limS prog) [.tmp 0] c131 [.slice [ci (-1)], ci m] := by
      simp only [ffn, p131]
      rfl
    rw [e]
    exact (scottS_fresh (limS_chain (prog := prog)) _ _ _).mono _ _ _ (fun c s x h => limS_iff.2 ⟨1000, h⟩) h
  pop x hx := pcallS_fn (chkI_eq (all_range ev144 x hx))
end LM.G9
