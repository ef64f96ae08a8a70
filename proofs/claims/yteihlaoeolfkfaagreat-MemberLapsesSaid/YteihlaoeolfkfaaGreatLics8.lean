/- Part 11 of what YteihlaoeolfkfaaGreatLics leans on. -/
import Derived.Test.YteihlaoeolfkfaaGreatLib1
import Derived.Test.YteihlaoeolfkfaaGreatLib2
import Derived.Test.YteihlaoeolfkfaaGreatLib3
import Derived.Test.YteihlaoeolfkfaaGreatLics1
import Derived.Test.YteihlaoeolfkfaaGreatLics2
import Derived.Test.YteihlaoeolfkfaaGreatLics3
import Derived.Test.YteihlaoeolfkfaaGreatLics4
import Derived.Test.YteihlaoeolfkfaaGreatLics5
import Derived.Test.YteihlaoeolfkfaaGreatLics6
import Derived.Test.YteihlaoeolfkfaaGreatLics7
set_option linter.all false
namespace LM.G9
open Go LM
variable {P : Nat → Option SFunc} [Has P] [HasP P]

theorem L8a (name : Str) (day d : Int) : ∀ (q p : List Lic), (q.length + p.length) * 32 ≤ 2 ^ 47 →
    execS P (limS P) c8_l0 ⟨[.c (.slice ((q.reverse ++ p).map Lic.enc)), .c (.str name), .c (ci day), .c (ci d), .slice 0 (1 + p.length) 0 p.length (some 3) none, .c (ci (q.length + p.length)), .c (ci p.length)], [.cells (1 + p.length) (cellsOf (p.reverse.map Lic.enc)) 0]⟩ =
      some (.exit 0, ⟨[.c (.slice ((q.reverse ++ p).map Lic.enc)), .c (.str name), .c (ci day), .c (ci d), .slice 0 (1 + (q.length + p.length)) 0 (q.length + p.length) (some 3) none], [.cells (1 + (q.length + p.length)) (cellsOf ((p.reverse ++ q).map Lic.enc)) 0]⟩) := by
  intro q
  induction q with
  | nil =>
    intro p h
    rw [r8_l0]
    simp [c8_l0b]
  | cons x q ih =>
    intro p h
    have ih := ih (x :: p) (by simp at h ⊢; omega)
    simp at h
    have ha := append_own (b := 0) (g := 1 + p.length) (bytes := 32) (e := some 3) (ys := p.reverse.map Lic.enc) (xs := [x.enc]) (h := [.cells (1 + p.length) (cellsOf (p.reverse.map Lic.enc)) 0]) (len := p.length) (fz := 0) rfl (Lic.elems _) (by simpa using x.elem) (by simp) (Nat.zero_le _) (by simp) (by simp; omega) (by simp; omega)
    have e1 : (q.length : Int) + (p.length + 1) = q.length + 1 + p.length := by omega
    have e2 : q.length + (p.length + 1) = q.length + 1 + p.length := by omega
    have e3 : 1 + (p.length + 1) = 1 + p.length + 1 := by omega
    simp [Lic.enc, e1, e2, e3] at ih ha
    have hw : IntKind.i64.wrap (↑p.length + 1) = ↑p.length + 1 := wrap64 (by omega) (by omega)
    have hw1 : IntKind.i64.wrap (↑q.length + (↑p.length + 1) - 1) = ↑q.length + ↑p.length := by
      rw [show (q.length : Int) + (p.length + 1) - 1 = q.length + p.length from by omega]; exact wrap64 (by omega) (by omega)
    have hw2 : IntKind.i64.wrap (↑q.length + ↑p.length - ↑p.length) = ↑q.length := by
      rw [Int.add_sub_cancel]; exact wrap64 (by omega) (by omega)
    have hw3 : IntKind.i64.wrap (↑q.length) = ↑q.length := wrap64 (by omega) (by omega)
    have hlt : (p.length : Int) < q.length + 1 + p.length := by omega
    have hlt2 : (q.length : Int) < q.length + (p.length + 1) := by omega
    rw [r8_l0]
    simp [c8_l0b, Lic.enc, hlt, hlt2, hw, hw1, hw2, hw3, ha, ih]


theorem eachE_zero (l pre : List Lic) : eachE (fun _ => checkLic) pre l = 0 ↔ ∀ x ∈ l, checkLic x = 0 := by
  induction l generalizing pre with
  | nil => simp [eachE]
  | cons c r ih =>
    rw [eachE]
    by_cases h : checkLic c = 0
    · simp [h, ih]
    · simp [h]

theorem checkLics_zero (l : List Lic) : checkLics l = 0 ↔ l.length ≤ 256 ∧ ∀ x ∈ l, checkLic x = 0 := by
  unfold checkLics
  by_cases h : (l.length : Int) > 256
  · have : ¬ l.length ≤ 256 := by omega
    simp [h, this]
  · have : l.length ≤ 256 := by omega
    simp [h, this, eachE_zero]

theorem lapseN_congr {l l' : List Lic} {name : Str} (h : ∀ d, covers l name d = covers l' name d) : ∀ (n : Nat) (d : Int), lapseN l name n d = lapseN l' name n d
  | 0, _ => rfl
  | n + 1, d => by rw [lapseN, lapseN, h d, lapseN_congr h n]
theorem lapse_congr {l l' : List Lic} {name : Str} (h : ∀ d, covers l name d = covers l' name d) (d : Int) : lapse l name d = lapse l' name d := lapseN_congr h _ d
theorem lapseN_mono {l l' : List Lic} {name : Str} (h : ∀ d, covers l name d = true → covers l' name d = true) : ∀ (n : Nat) (d : Int), lapseN l name n d ≤ lapseN l' name n d
  | 0, d => Int.le_refl d
  | n + 1, d => by
    rw [lapseN, lapseN]
    cases hc : covers l name d with
    | true => rw [h d hc]; exact lapseN_mono h n (d + 1)
    | false =>
      simp only [Bool.false_eq_true, if_false]
      split
      · have := lapseN_ge l' name n (d + 1); omega
      · exact Int.le_refl d

theorem holds_eq (name : Str) (n : Int) (c : Lic) : holds name n c = (decide (c.name = name) && decide (c.frm ≤ n) && decide (n ≤ c.to)) := by
  unfold holds outside
  by_cases h1 : c.name = name <;> by_cases h2 : c.frm ≤ n <;> by_cases h3 : n ≤ c.to <;> simp [h1, h2, h3] <;> omega

theorem L8b (name : Str) (day d n : Int) (H : Heap) (hU : underB H.length H = true) : ∀ (l pre : List Lic) (h : Bool), ((pre ++ l).length : Int) < 9223372036854775807 →
    execS P (limS P) c8_l1 ⟨[.c (.slice ((pre ++ l).map Lic.enc)), .c (.str name), .c (ci day), .c (ci d), .c (ci n), .c (.bool h), .c (.slice ((pre ++ l).map Lic.enc)), .c (ci (pre ++ l).length), .c (ci pre.length)], H⟩ =
      some (.exit 4, ⟨[.c (.slice ((pre ++ l).map Lic.enc)), .c (.str name), .c (ci day), .c (ci d), .c (ci n), .c (.bool (h || covers l name n))], H⟩) := by
  intro l
  induction l with
  | nil =>
    intro pre h _
    rw [r8_l1]
    simp [c8_l1b, covers]
  | cons c r ih =>
    intro pre h hs
    have ih := fun h => ih (pre ++ [c]) h (by simpa using hs)
    simp [Lic.enc] at ih hs
    have hw : IntKind.i64.wrap (↑pre.length + 1) = ↑pre.length + 1 := wrap64 (by omega) (by omega)
    have hlt : (pre.length : Int) < pre.length + (r.length + 1) := by omega
    have e : covers (c :: r) name n = (holds name n c || covers r name n) := rfl
    rw [e, holds_eq, ← Bool.or_assoc]
    rw [r8_l1]
    cases h
    · by_cases h1 : c.name = name
      · subst h1
        by_cases h2 : c.frm ≤ n
        · by_cases h3 : n ≤ c.to <;> simp [c8_l1b, hw, hlt, Lic.enc, hU, h2, h3, ih]
        · simp [c8_l1b, hw, hlt, Lic.enc, hU, h2, ih]
      · simp [c8_l1b, hw, hlt, Lic.enc, hU, h1, ih]
    · simp [c8_l1b, hw, hlt, Lic.enc, hU, ih]

theorem L8c (l : List Lic) (name : Str) (day d : Int) (H : Heap) (hU : underB H.length H = true) (hs : (l.length : Int) < 9223372036854775807) (h0 : 0 ≤ day) (hd : d ≤ 100000) (hcov : ∀ n, day ≤ n → n ≤ d → covers l name n = decide (n < d)) : ∀ (m : Nat) (n : Int), (d + 1 - n).toNat = m → day ≤ n → n ≤ d + 1 →
    execS P (limS P) c8_l2 ⟨[.c (.slice (l.map Lic.enc)), .c (.str name), .c (ci day), .c (ci d), .c (ci n)], H⟩ =
      some (.exit 2, ⟨[.c (.slice (l.map Lic.enc)), .c (.str name), .c (ci day), .c (ci d)], H⟩) := by
  intro m
  induction m with
  | zero =>
    intro n hm h1 h2
    have h3 : ¬ n ≤ d := by omega
    rw [r8_l2]
    simp [c8_l2b, h3]
  | succ m ih =>
    intro n hm h1 h2
    have h3 : n ≤ d := by omega
    have hb := L8b (P := P) name day d n H hU l [] false (by simpa using hs)
    rw [hcov n h1 h3] at hb
    simp at hb
    have hw : IntKind.i64.wrap (n + 1) = n + 1 := wrap64 (by omega) (by omega)
    have hw2 : IntKind.i64.wrap (day + 300) = day + 300 := wrap64 (by omega) (by omega)
    have ih := ih (n + 1) (by omega) (by omega) (by omega)
    rw [r8_l2]
    by_cases h4 : n ≤ day + 300
    · simp [c8_l2b, h3, h4, hw, hw2, hb, hU, ih]
    · simp [c8_l2b, h3, h4, hw2]

/-- The rest of the law, behind the licences in other orders. -/
theorem T8 (l : List Lic) (name : Str) (day more : Int) (g6 : 0 ≤ day) (g7 : day ≤ 90000) (hs : (l.length : Int) < 9223372036854775807) (hname : named name = 0)
    (H18 : ∀ a b, fn P 18 [.slice (l.map Lic.enc), .str name, ci a, ci b] = some (.tuple [.bool (decide (licensedE l name a b = 0) && decide (b < lapse l name a)), ci (licensedE l name a b)]))
    (g3 : checkLics l = 0) (hcov : ∀ n, day ≤ n → n ≤ lapse l name day → covers l name n = decide (n < lapse l name day)) (hm : lapse l name day ≤ more) (H : Heap) (hU : underB H.length H = true) :
    ∃ H', execS P (limS P) c8_n35 ⟨[.c (.slice (l.map Lic.enc)), .c (.str name), .c (ci day), .c (ci (lapse l name day)), .c (ci (lapse l name day)), .c (ci 0), .c (ci more), .c (ci 0)], H⟩ = some (.ret, ⟨[.c (.bool true)], H'⟩) := by
  have ge := lapse_ge l name day
  have le : lapse l name day ≤ 100000 := lapse_le (by omega)
  have hc := L8c (P := P) l name day (lapse l name day) H hU hs g6 le hcov _ day rfl (by omega) (by omega)
  have hm' : ¬ more < lapse l name day := by omega
  have w0 : IntKind.i64.wrap 0 = 0 := wrap64 (by omega) (by omega)
  have wd : IntKind.i64.wrap (lapse l name day - 1) = lapse l name day - 1 := wrap64 (by omega) (by omega)
  have hday : dated day = 0 := by rw [dated_zero]; omega
  refine ⟨H, ?_⟩
  by_cases h1 : day < lapse l name day
  · have a1 := H18 day (lapse l name day - 1)
    have z1 : licensedE l name day (lapse l name day - 1) = 0 := by
      unfold licensedE
      have h2 : dated (lapse l name day - 1) = 0 := by rw [dated_zero]; omega
      have h3 : ¬ day > lapse l name day - 1 := by omega
      simp [firstE, g3, hname, hday, h2, whenE]
      omega
    have h4 : lapse l name day - 1 < lapse l name day := by omega
    simp [z1, h4] at a1
    by_cases h5 : 99999 < lapse l name day
    · simp [c8_n35, hm', w0, wd, hc, h1, a1, h5]
    · have a2 := H18 day (lapse l name day)
      have z2 : licensedE l name day (lapse l name day) = 0 := by
        unfold licensedE
        have h2 : dated (lapse l name day) = 0 := by rw [dated_zero]; omega
        simp [firstE, g3, hname, hday, h2, whenE]
        omega
      simp [z2] at a2
      simp [c8_n35, hm', w0, wd, hc, h1, a1, a2, h5]
  · by_cases h5 : 99999 < lapse l name day
    · simp [c8_n35, hm', w0, wd, hc, h1, h5]
    · have a2 := H18 day (lapse l name day)
      have z2 : licensedE l name day (lapse l name day) = 0 := by
        unfold licensedE
        have h2 : dated (lapse l name day) = 0 := by rw [dated_zero]; omega
        simp [firstE, g3, hname, hday, h2, whenE]
        omega
      simp [z2] at a2
      simp [c8_n35, hm', w0, wd, hc, h1, a2, h5]

theorem S8 (h14 : fn P 14 [] = some (.bool true)) (l : List Lic) (name : Str) (day : Int) (hl : ∀ x ∈ l, x.ok) (sl : l.length * 32 ≤ 2 ^ 47) (hn : name.length < 9223372036854775807)
    (H18 : ∀ a b, fn P 18 [.slice (l.map Lic.enc), .str name, ci a, ci b] = some (.tuple [.bool (decide (licensedE l name a b = 0) && decide (b < lapse l name a)), ci (licensedE l name a b)]))
    (H19 : ∀ l' : List Lic, (∀ x ∈ l', x.ok) → (l'.length : Int) < 9223372036854775807 → ∀ a, fn P 19 [.slice (l'.map Lic.enc), .str name, ci a] = some (.tuple [ci (if lapseE l' name a = 0 then lapse l' name a else 0), ci (lapseE l' name a)]))
    (g1 : l.length ≤ 12) (g2 : shortLics l = true) (g3 : checkLics l = 0) (g4 : name.length ≤ 40) (g5 : isName name = true) (g6 : 0 ≤ day) (g7 : day ≤ 90000) : fn P 8 [.slice (l.map Lic.enc), .str name, ci day] = some (.bool true) := by
  have e13 := S13 (P := P) l sl
  have e15 := S15 (P := P) l hl (by omega)
  have e16 := S16 (P := P) l hl (by omega)
  rw [g2] at e15
  rw [g3] at e16
  have g1' : ¬ (12 : Int) < l.length := by omega
  have g4' : ¬ (40 : Int) < name.length := by omega
  have g67 : outside day 0 90000 = false := by unfold outside; simp; omega
  have hname : named name = 0 := by unfold named whenE; simp [g5]
  have hday : dated day = 0 := by rw [dated_zero]; omega
  have hE : lapseE l name day = 0 := by unfold lapseE; simp [firstE, g3, hname, hday]
  have a1 := H19 l hl (by omega) day
  rw [hE] at a1
  simp at a1
  have ge := lapse_ge l name day
  have le : lapse l name day ≤ 100000 := lapse_le (by omega)
  have c1 : ¬ lapse l name day < day := by omega
  have c2 : ¬ 100000 < lapse l name day := by omega
  have hL := L8a (P := P) name day (lapse l name day) l.reverse [] (by simpa using sl)
  have hf := frz_own (b := 0) (g := 1 + l.length) (fz := 0) (e := some 3) (ys := (l.map Lic.enc).reverse) (h := [.cells (1 + l.length) (cellsOf (l.map Lic.enc).reverse) 0]) (len := l.length) rfl (by rw [← List.map_reverse]; exact Lic.elems _) (by simp) none
  have hz := (checkLics_zero l).1 g3
  have a2 := H19 l.reverse (by simpa using hl) (by simp; omega) day
  have hE2 : lapseE l.reverse name day = 0 := by
    have : checkLics l.reverse = 0 := by rw [checkLics_zero]; simpa using hz
    unfold lapseE; simp [firstE, this, hname, hday]
  rw [hE2, lapse_congr (l' := l) (fun d => by unfold covers; exact List.any_reverse)] at a2
  simp at a2
  let x : Lic := ⟨name, day + 3, day + 9⟩
  have a3 := H19 (l ++ [x]) (by intro y hy; rcases List.mem_append.1 hy with hy | hy; exact hl y hy; simp at hy; subst hy; exact hn) (by simp; omega) day
  have hx : checkLic x = 0 := by
    unfold checkLic
    simp only [x, firstE_zero, dated_zero, hname]
    have : ¬ day + 3 > day + 9 := by omega
    simp [firstE, whenE]
    omega
  have hE3 : lapseE (l ++ [x]) name day = 0 := by
    have : checkLics (l ++ [x]) = 0 := by
      rw [checkLics_zero]
      refine ⟨by simp; omega, fun y hy => ?_⟩
      rcases List.mem_append.1 hy with hy | hy
      · exact hz.2 y hy
      · simp at hy; subst hy; exact hx
    unfold lapseE; simp [firstE, this, hname, hday]
  rw [hE3] at a3
  have hm : lapse l name day ≤ lapse (l ++ [x]) name day := lapseN_mono (fun d hd => by unfold covers at hd ⊢; rw [List.any_append, hd]; rfl) _ day
  have hm' : ¬ lapse (l ++ [x]) name day < lapse l name day := by omega
  simp [Lic.enc, x] at a3
  have w3 : IntKind.i64.wrap (day + 3) = day + 3 := wrap64 (by omega) (by omega)
  have w9 : IntKind.i64.wrap (day + 9) = day + 9 := wrap64 (by omega) (by omega)
  simp at hL
  rw [u8]
  have hds := checkLics_days g3
  have hcov : ∀ n, day ≤ n → n ≤ lapse l name day → covers l name n = decide (n < lapse l name day) := by
    intro n h1 h2
    by_cases h3 : n < lapse l name day
    · rw [decide_eq_true h3]
      exact lapse_covers h1 h3
    · have : n = lapse l name day := by omega
      subst this
      rw [decide_eq_false h3]
      by_cases h4 : lapse l name day ≤ 99999
      · exact lapse_gap (by omega)
      · unfold covers
        rw [List.any_eq_false]
        intro y hy hh
        rw [holds_eq] at hh
        simp at hh
        have := hds y hy
        omega
  have T := fun H hU => T8 (P := P) l name day (lapse (l ++ [x]) name day) g6 g7 (by omega) hname H18 g3 hcov hm H hU
  have hl32 : l.length * 32 ≤ 2 ^ 47 := sl
  have hxe : ∀ z ∈ (l.map Lic.enc ++ [x.enc]), Elem (some 3) z := by
    have := Lic.elems (l ++ [x])
    simpa using this
  by_cases h0 : l = []
  · have ha1 : appendOp none (some 3) 32 (.slice 1 1 0 0 (some 3) (some 0)) (.c (.slice (l.map Lic.enc))) [.cells (1 + l.length) (cellsOf (l.map Lic.enc).reverse) 0, .cells 1 [] 0] = some (.slice 1 1 0 0 (some 3) (some 0), [.cells (1 + l.length) (cellsOf (l.map Lic.enc).reverse) 0, .cells 1 [] 0]) := by
      subst h0
      rfl
    have ha2 : appendOp none (some 3) 32 (.slice 1 1 0 0 (some 3) (some 0)) (.c (.slice [x.enc])) [.cells (1 + l.length) (cellsOf (l.map Lic.enc).reverse) 0, .cells 1 [] 0] = some (.slice 2 1 0 (l.length + 1) (some 3) none, [.cells (1 + l.length) (cellsOf (l.map Lic.enc).reverse) 0, .cells 1 [] 0, .cells 1 (cellsOf (l.map Lic.enc ++ [x.enc])) 0]) := by
      subst h0
      rfl
    have hf2 := frz_own (b := 2) (g := 1) (fz := 0) (e := some 3) (ys := l.map Lic.enc ++ [x.enc]) (h := [.cells (1 + l.length) (cellsOf (l.map Lic.enc).reverse) 0, .cells 1 [] 0, .cells 1 (cellsOf (l.map Lic.enc ++ [x.enc])) 0]) (len := l.length + 1) rfl hxe (by simp) none
    obtain ⟨H', hT⟩ := T [.cells (1 + l.length) (cellsOf (l.map Lic.enc).reverse) 0, .cells 1 [] 0, .cells 1 (cellsOf (l.map Lic.enc ++ [x.enc])) 0] (by simp)
    simp [Lic.enc, x, -frz_slice] at ha2 hf2 hT
    simp [c8, e13, h14, e15, e16, g1', g4', g5, g67, a1, a2, a3, c1, c2, hL, hf, w3, w9, ha1, ha2, hf2, hT, -frz_slice]
  · have hlen : l.length ≠ 0 := fun e => h0 (List.eq_nil_of_length_eq_zero e)
    have ha1 : appendOp none (some 3) 32 (.slice 1 1 0 0 (some 3) (some 0)) (.c (.slice (l.map Lic.enc))) [.cells (1 + l.length) (cellsOf (l.map Lic.enc).reverse) 0, .cells 1 [] 0] = some (.slice 2 1 0 l.length (some 3) none, [.cells (1 + l.length) (cellsOf (l.map Lic.enc).reverse) 0, .cells 1 [] 0, .cells 1 (cellsOf (l.map Lic.enc)) 0]) := by
      have q1 : sliceCells (some 3) [.cells (1 + l.length) (cellsOf (l.map Lic.enc).reverse) 0, .cells 1 [] 0] (.c (.slice (l.map Lic.enc))) = some ((l.map Lic.enc).length, cellsOf (l.map Lic.enc)) := rfl
      have q2 := cellsOf_length (Lic.elems l)
      have q3 := flatAll_cellsOf (Lic.elems l)
      have q4 : ¬ l.length * 32 > 140737488355328 := by omega
      have q5 : ¬ l.length > 9223372036854775807 := by omega
      simp [szOf] at q2
      simp [appendOp, q1, q2, q3, q4, q5, hlen, szOf]
    have ha2 := append_own (b := 2) (g := 1) (bytes := 32) (e := some 3) (ys := l.map Lic.enc) (xs := [x.enc]) (h := [.cells (1 + l.length) (cellsOf (l.map Lic.enc).reverse) 0, .cells 1 [] 0, .cells 1 (cellsOf (l.map Lic.enc)) 0]) (len := l.length) (fz := 0) rfl (Lic.elems _) (by simpa using x.elem) (by simp) (Nat.zero_le _) (by simp) (by simp; omega) (by simp; omega)
    have hf2 := frz_own (b := 2) (g := 2) (fz := 0) (e := some 3) (ys := l.map Lic.enc ++ [x.enc]) (h := [.cells (1 + l.length) (cellsOf (l.map Lic.enc).reverse) 0, .cells 1 [] 0, .cells 2 (cellsOf (l.map Lic.enc ++ [x.enc])) 0]) (len := l.length + 1) rfl hxe (by simp) none
    obtain ⟨H', hT⟩ := T [.cells (1 + l.length) (cellsOf (l.map Lic.enc).reverse) 0, .cells 1 [] 0, .cells 2 (cellsOf (l.map Lic.enc ++ [x.enc])) 0] (by simp)
    simp [Lic.enc, x, -frz_slice] at ha2 hf2 hT
    simp [c8, e13, h14, e15, e16, g1', g4', g5, g67, a1, a2, a3, c1, c2, hL, hf, w3, w9, ha1, ha2, hf2, hT, -frz_slice]


theorem S8' (h14 : fn P 14 [] = some (.bool true)) (l : List Lic) (name : Str) (day : Int) (hl : ∀ x ∈ l, x.ok) (sl : l.length * 32 ≤ 2 ^ 47) (hn : name.length < 9223372036854775807)
    (H18 : ∀ a b, fn P 18 [.slice (l.map Lic.enc), .str name, ci a, ci b] = some (.tuple [.bool (decide (licensedE l name a b = 0) && decide (b < lapse l name a)), ci (licensedE l name a b)]))
    (H19 : ∀ l' : List Lic, (∀ x ∈ l', x.ok) → (l'.length : Int) < 9223372036854775807 → ∀ a, fn P 19 [.slice (l'.map Lic.enc), .str name, ci a] = some (.tuple [ci (if lapseE l' name a = 0 then lapse l' name a else 0), ci (lapseE l' name a)])) :
    fn P 8 [.slice (l.map Lic.enc), .str name, ci day] = some (.bool true) := by
  have e13 := S13 (P := P) l sl
  have e15 := S15 (P := P) l hl (by omega)
  have e16 := S16 (P := P) l hl (by omega)
  by_cases g1 : l.length ≤ 12
  · have g1' : ¬ (12 : Int) < l.length := by omega
    cases g2 : shortLics l
    · rw [g2] at e15
      rw [u8]
      simp [c8, e13, h14, e15, g1']
    · by_cases g3 : checkLics l = 0
      · by_cases g4 : name.length ≤ 40
        · have g4' : ¬ (40 : Int) < name.length := by omega
          cases g5 : isName name
          · rw [g2] at e15
            rw [g3] at e16
            rw [u8]
            simp [c8, e13, h14, e15, e16, g1', g4', g5]
          · cases g67 : outside day 0 90000
            · have q := g67
              unfold outside at q
              simp at q
              exact S8 h14 l name day hl sl hn H18 H19 g1 g2 g3 g4 g5 (by omega) (by omega)
            · rw [g2] at e15
              rw [g3] at e16
              rw [u8]
              simp [c8, e13, h14, e15, e16, g1', g4', g5, g67]
        · have g4' : (40 : Int) < name.length := by omega
          rw [g2] at e15
          rw [g3] at e16
          rw [u8]
          simp [c8, e13, h14, e15, e16, g1', g4']
      · rw [g2] at e15
        rw [u8]
        simp [c8, e13, h14, e15, e16, g1', g3]
  · have g1' : (12 : Int) < l.length := by omega
    rw [u8]
    simp [c8, e13, h14, g1']

end LM.G9

