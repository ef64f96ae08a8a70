/- MemberReplaces returns true for every input, and each argument reads afterwards as it read before; no condition beyond the statement's own. -/
import Derived.Test.YteihlaoeolfkfaaGreatReplL1
import Derived.Test.YteihlaoeolfkfaaGreatReplL2
import Derived.Test.YteihlaoeolfkfaaGreatReplL3
import Derived.Test.YteihlaoeolfkfaaGreatRepl1
import Derived.Test.YteihlaoeolfkfaaGreatRepl2
import Derived.Test.YteihlaoeolfkfaaGreatRepl3
import Derived.Test.YteihlaoeolfkfaaGreatRepl4
import Derived.Test.YteihlaoeolfkfaaGreatRepl5
import Derived.Test.YteihlaoeolfkfaaGreatRepl6
import Derived.Test.YteihlaoeolfkfaaGreatRepl7
import Derived.Test.YteihlaoeolfkfaaGreatRepl8
import Derived.Test.YteihlaoeolfkfaaGreatRepl9
set_option linter.all false
namespace Go.Proofs.YteihlaoeolfkfaaGreat
open Go.ChangeShapes Go.WideShapes Go.ChangeAt Go.RowKit
theorem typed_strs (x : LM.CV) (h : LM.Typed (.slice 16 .str) x) : ∃ l : List LM.Str, x = .slice (l.map LM.CV.str) ∧ (l.length : Int) < 9223372036854775807 ∧ ∀ y ∈ l, y.length < 9223372036854775807 := by
 obtain ⟨l, rfl, hl, hs⟩ := typed_slice (p := fun y : LM.Str => y.length < 9223372036854775807) (fun x hx => typed_str hx) h
 exact ⟨l, rfl, by omega, hl⟩
theorem typed_ofc (x : LM.CV) (h : LM.Typed (.agg [.str, .str, .slice 16 .str, .int .i64]) x) : ∃ a : LM.G9.Ofc, x = a.enc ∧ a.ok := by
 simp only [LM.Typed] at h
 obtain ⟨c, rfl, h⟩ := h
 rcases c with _ | ⟨a, _ | ⟨b, _ | ⟨d, _ | ⟨e, _ | ⟨_, _⟩⟩⟩⟩⟩ <;> simp only [LM.TypedL, and_true, and_false] at h
 obtain ⟨h1, h2, h3, h4⟩ := h
 obtain ⟨a, rfl, ha⟩ := typed_str h1
 obtain ⟨b, rfl, hb⟩ := typed_str h2
 obtain ⟨d, rfl, hd, hd2⟩ := typed_strs _ h3
 obtain ⟨e, rfl, _⟩ := typed_int h4
 exact ⟨⟨a, b, d, e⟩, rfl, ha, hb, hd, hd2⟩
theorem typed_pst (x : LM.CV) (h : LM.Typed (.agg [.str, .str, .int .i64, .slice 16 .str]) x) : ∃ a : LM.G9.Pst, x = a.enc ∧ a.ok := by
 simp only [LM.Typed] at h
 obtain ⟨c, rfl, h⟩ := h
 rcases c with _ | ⟨a, _ | ⟨b, _ | ⟨d, _ | ⟨e, _ | ⟨_, _⟩⟩⟩⟩⟩ <;> simp only [LM.TypedL, and_true, and_false] at h
 obtain ⟨h1, h2, h3, h4⟩ := h
 obtain ⟨a, rfl, ha⟩ := typed_str h1
 obtain ⟨b, rfl, hb⟩ := typed_str h2
 obtain ⟨d, rfl, _⟩ := typed_int h3
 obtain ⟨e, rfl, he, he2⟩ := typed_strs _ h4
 exact ⟨⟨a, b, d, e⟩, rfl, ha, hb, he, he2⟩
theorem typed_jur (x : LM.CV) (h : LM.Typed (.agg [.slice 64 (.agg [.str, .str, .slice 16 .str, .int .i64]), .slice 64 (.agg [.str, .str, .int .i64, .slice 16 .str])]) x) : ∃ a : LM.G9.Jur, x = a.enc ∧ a.ok := by
 simp only [LM.Typed] at h
 obtain ⟨c, rfl, h⟩ := h
 rcases c with _ | ⟨a, _ | ⟨b, _ | ⟨_, _⟩⟩⟩ <;> simp only [LM.TypedL, and_true, and_false] at h
 obtain ⟨h1, h2⟩ := h
 have h1' : LM.Typed (.slice 64 (.agg [.str, .str, .slice 16 .str, .int .i64])) a := by simp only [LM.Typed]; exact h1
 have h2' : LM.Typed (.slice 64 (.agg [.str, .str, .int .i64, .slice 16 .str])) b := by simp only [LM.Typed]; exact h2
 obtain ⟨o, rfl, ho, so⟩ := typed_slice typed_ofc h1'
 obtain ⟨p, rfl, hp, sp⟩ := typed_slice typed_pst h2'
 exact ⟨⟨o, p⟩, rfl, ⟨ho, hp, so, sp⟩⟩
theorem typed_ints (x : LM.CV) (h : LM.Typed (.slice 8 (.int .i64)) x) : ∃ l : List Int, x = .slice (l.map LM.ci) ∧ (l.length : Int) * 8 ≤ 140737488355328 := by
 obtain ⟨l, rfl, _, hs⟩ := typed_slice (enc := LM.ci) (p := fun _ : Int => True) (fun x hx => by obtain ⟨n, hn, _⟩ := typed_int hx; exact ⟨n, hn, trivial⟩) h
 exact ⟨l, rfl, by omega⟩
theorem replaces_law (vs : List LM.CV) (h : LM.TypedL [.agg [.slice 64 (.agg [.str, .str, .slice 16 .str, .int .i64]), .slice 64 (.agg [.str, .str, .int .i64, .slice 16 .str])], .slice 8 (.int .i64), .int .i64] vs) : ∃ n, LM.pcall (LM.progL LM.G9.prog) n 6 vs = some (.bool true) := by
 rcases vs with _ | ⟨v1, _ | ⟨v2, _ | ⟨v3, _ | ⟨_, _⟩⟩⟩⟩ <;> simp only [LM.TypedL, and_true, and_false] at h
 obtain ⟨h1, h2, h3⟩ := h
 obtain ⟨j, rfl, hj⟩ := typed_jur _ h1
 obtain ⟨a, rfl, ha⟩ := typed_ints _ h2
 obtain ⟨n, rfl, _⟩ := typed_int h3
 exact LM.fn_pcall LM.G9.readable (LM.G9.S6 LM.G9.S14 LM.G9.tabs9 j hj a (by omega) n)
set_option maxRecDepth 100000 in
theorem replaces_lifted (os : Os) (started : os.Started) (H : Type) (enc : TypeId × Value → H) :
  ReturnsInHanded {} Tryz.checked os 6 .any (Rows.memberReplacesSpec.pre6 enc Tryz.prog Tryz.f6 Rows.memberReplacesRow.domain false) (Rows.memberReplacesSpec.post enc Tryz.prog Tryz.f6 false true false false) := by
 refine returnsInHanded_of_change_sized (C := Tryz.checked) own_knob started (by kernel_rfl) Tryz.func6
  (ChangeSpec.witness6 (enc := enc) (C := Tryz.checked) false ⟨#[], #[.agg #[.slice none 0 0, .slice none 0 0], .slice none 0 0, .int .i64 0], []⟩ 8 (by kernel_rfl) (by kernel_rfl) (by kernel_rfl) (by kernel_rfl)) ?_
 intro W base args ds gs before hval hW _ hsz _
 exact LM.law_contract LM.G9.ok laid_out maps_rowed slices_full (by decide +kernel) (cs := [.agg [.slice 64 (.agg [.str, .str, .slice 16 .str, .int .i64]), .slice 64 (.agg [.str, .str, .int .i64, .slice 16 .str])], .slice 8 (.int .i64), .int .i64]) (by kernel_rfl) (tb := 4) (by kernel_rfl) (by kernel_rfl) rfl (fun ds hd => by
  have hd3 : ds.length = 3 := hd.trans (by kernel_rfl)
  rcases ds with _ | ⟨d1, _ | ⟨d2, _ | ⟨d3, _ | ⟨_, _⟩⟩⟩⟩ <;> first | rfl | simp at hd3) replaces_law base args ds gs before hval hW hsz
theorem memberReplaces : Rows.MemberReplacesSaid :=
 OpenClaim.holds_of_wide (p := Tryz.pinned) (s := Rows.memberReplacesSpec) (c := Rows.memberReplacesRow) 6 Tryz.f6 rfl rfl rfl rfl rfl rfl rfl ⟨rfl, rfl, rfl, rfl, rfl⟩ rfl rfl rfl rfl rfl (by kernel_rfl) Tryz.func6 (by kernel_rfl)
  (of_decide_eq_true (by kernel_rfl)) (by unfold Func.isWrapper; first | (rw [if_pos (by decide +kernel)]; kernel_rfl) | (rw [if_neg (by decide +kernel)]; exact ⟨rfl, rfl⟩))
  (fun os started H enc _ => replaces_lifted os started H enc)
end Go.Proofs.YteihlaoeolfkfaaGreat
