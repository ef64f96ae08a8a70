/- TopFlakeOutcomes returns true for every input, and each argument reads afterwards as it read before; no condition beyond the statement's own. -/
import Derived.Test.YtlnejpgfiopjjaaGreatOutcomesL1
import Derived.Test.YtlnejpgfiopjjaaGreatOutcomesL2
import Derived.Test.YtlnejpgfiopjjaaGreatOutcomesL3
import Derived.Test.YtlnejpgfiopjjaaGreatOutcomes1
import Derived.Test.YtlnejpgfiopjjaaGreatOutcomes2
import Derived.Test.YtlnejpgfiopjjaaGreatOutcomes3
import Derived.Test.YtlnejpgfiopjjaaGreatOutcomes4
import Derived.Test.YtlnejpgfiopjjaaGreatOutcomes5
import Derived.Test.YtlnejpgfiopjjaaGreatOutcomes6
set_option linter.all false
namespace Go.Proofs.YtlnejpgfiopjjaaGreat
open Go.ChangeShapes Go.WideShapes Go.ChangeAt Go.RowKit
theorem typed_name (x : LM.CV) (h : LM.Typed .str x) : ∃ a : LM.Str, x = LM.CV.str a ∧ a.length < 9223372036854775807 := typed_str h
theorem typed_num (x : LM.CV) (h : LM.Typed (.int .i64) x) : ∃ a : Int, x = LM.ci a ∧ True := by
  obtain ⟨a, e, _⟩ := typed_int h
  exact ⟨a, e, trivial⟩
theorem typed_duel (x : LM.CV) (h : LM.Typed (.agg [.int .i64, .int .i64]) x) : ∃ a : Int × Int, x = LM.GZ.encI a ∧ True := by
  simp only [LM.Typed] at h
  obtain ⟨c, rfl, h⟩ := h
  rcases c with _ | ⟨a, _ | ⟨b, _ | ⟨_, _⟩⟩⟩ <;> simp only [LM.TypedL, and_true, and_false] at h
  obtain ⟨h1, h2⟩ := h
  obtain ⟨a, rfl, _⟩ := typed_int h1
  obtain ⟨b, rfl, _⟩ := typed_int h2
  exact ⟨(a, b), rfl, trivial⟩
theorem outcomes_law (vs : List LM.CV) (h : LM.TypedL [.agg [.slice 16 .str, .slice 8 (.int .i64), .slice 16 (.agg [.int .i64, .int .i64])], .int .i64] vs) : ∃ n, LM.pcall (LM.progL LM.GZ.prog) n 7 vs = some (.bool true) := by
  rcases vs with _ | ⟨v1, _ | ⟨v2, _ | ⟨_, _⟩⟩⟩ <;> simp only [LM.TypedL, and_true, and_false] at h
  obtain ⟨h1, h2⟩ := h
  simp only [LM.Typed] at h1
  obtain ⟨cs, rfl, h1⟩ := h1
  rcases cs with _ | ⟨a, _ | ⟨b, _ | ⟨d, _ | ⟨_, _⟩⟩⟩⟩ <;> simp only [LM.TypedL, and_true, and_false] at h1
  obtain ⟨q1, q2, q3⟩ := h1
  obtain ⟨N, rfl, hN, _⟩ := typed_slice typed_name q1
  obtain ⟨Q, rfl, _, _⟩ := typed_slice typed_num q2
  obtain ⟨D, rfl, _, _⟩ := typed_slice typed_duel q3
  obtain ⟨c, rfl, _⟩ := typed_int h2
  exact LM.fn_pcall LM.GZ.readable (LM.GZ.S7 LM.GZ.S38 ⟨N, Q, D⟩ c hN)
set_option maxRecDepth 100000 in
theorem outcomes_lifted (os : Os) (started : os.Started) (H : Type) (enc : TypeId × Value → H) :
    ReturnsInHanded {} Tryz.checked os 7 .any (Rows.topFlakeOutcomesSpec.pre6 enc Tryz.prog Tryz.f7 Rows.topFlakeOutcomesRow.domain false) (Rows.topFlakeOutcomesSpec.post enc Tryz.prog Tryz.f7 false true false false) := by
  refine returnsInHanded_of_change_sized (C := Tryz.checked) own_knob started (by kernel_rfl) Tryz.func7
    (ChangeSpec.witness6 (enc := enc) (C := Tryz.checked) false ⟨#[], #[.agg #[.slice none 0 0, .slice none 0 0, .slice none 0 0], .int .i64 0], []⟩ 8 (by kernel_rfl) (by kernel_rfl) (by kernel_rfl) (by kernel_rfl)) ?_
  intro W base args ds gs before hval hW _ hsz _
  exact LM.law_contract LM.GZ.ok laid_out maps_rowed slices_full (by decide +kernel) (cs := [.agg [.slice 16 .str, .slice 8 (.int .i64), .slice 16 (.agg [.int .i64, .int .i64])], .int .i64]) (by kernel_rfl) (tb := 4) (by kernel_rfl) (by kernel_rfl) rfl (fun ds hd => by
    have hd3 : ds.length = 2 := hd.trans (by kernel_rfl)
    rcases ds with _ | ⟨d1, _ | ⟨d2, _ | ⟨_, _⟩⟩⟩ <;> first | rfl | simp at hd3) outcomes_law base args ds gs before hval hW hsz
theorem topFlakeOutcomes : Rows.TopFlakeOutcomesSaid :=
  OpenClaim.holds_of_wide (p := Tryz.pinned) (s := Rows.topFlakeOutcomesSpec) (c := Rows.topFlakeOutcomesRow) 7 Tryz.f7 rfl rfl rfl rfl rfl rfl rfl ⟨rfl, rfl, rfl, rfl, rfl⟩ rfl rfl rfl rfl rfl (by kernel_rfl) Tryz.func7 (by kernel_rfl)
    (of_decide_eq_true (by kernel_rfl)) (by unfold Func.isWrapper; first | (rw [if_pos (by decide +kernel)]; kernel_rfl) | (rw [if_neg (by decide +kernel)]; exact ⟨rfl, rfl⟩))
    (fun os started H enc _ => outcomes_lifted os started H enc)
end Go.Proofs.YtlnejpgfiopjjaaGreat
