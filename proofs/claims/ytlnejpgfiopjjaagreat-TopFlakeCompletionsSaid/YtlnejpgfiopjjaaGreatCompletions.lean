/- TopFlakeCompletions returns true for every input, and each argument reads afterwards as it read before; no condition beyond the statement's own. -/
import Derived.Test.YtlnejpgfiopjjaaGreatCompletionsL1
import Derived.Test.YtlnejpgfiopjjaaGreatCompletionsL2
import Derived.Test.YtlnejpgfiopjjaaGreatCompletionsL3
import Derived.Test.YtlnejpgfiopjjaaGreatCompletions1
import Derived.Test.YtlnejpgfiopjjaaGreatCompletions2
import Derived.Test.YtlnejpgfiopjjaaGreatCompletions3
import Derived.Test.YtlnejpgfiopjjaaGreatCompletions4
import Derived.Test.YtlnejpgfiopjjaaGreatCompletions5
import Derived.Test.YtlnejpgfiopjjaaGreatCompletions6
set_option linter.all false
namespace Go.Proofs.YtlnejpgfiopjjaaGreat
open Go.ChangeShapes Go.WideShapes Go.ChangeAt Go.RowKit
theorem typed_op (x : LM.CV) (h : LM.Typed (.agg [.str, .int .i64, .int .i64]) x) : ∃ a : LM.GZ.Op, x = a.enc ∧ a.ok := by
  simp only [LM.Typed] at h
  obtain ⟨c, rfl, h⟩ := h
  rcases c with _ | ⟨a, _ | ⟨b, _ | ⟨d, _ | ⟨_, _⟩⟩⟩⟩ <;> simp only [LM.TypedL, and_true, and_false] at h
  obtain ⟨h1, h2, h3⟩ := h
  obtain ⟨a, rfl, ha⟩ := typed_str h1
  obtain ⟨b, rfl, _⟩ := typed_int h2
  obtain ⟨d, rfl, _⟩ := typed_int h3
  exact ⟨⟨a, b, d⟩, rfl, ha⟩
theorem completions_law (vs : List LM.CV) (h : LM.TypedL [.slice 32 (.agg [.str, .int .i64, .int .i64]), .int .i64] vs) : ∃ n, LM.pcall (LM.progL LM.GZ.prog) n 6 vs = some (.bool true) := by
  rcases vs with _ | ⟨v1, _ | ⟨v2, _ | ⟨_, _⟩⟩⟩ <;> simp only [LM.TypedL, and_true, and_false] at h
  obtain ⟨h1, h2⟩ := h
  obtain ⟨l, rfl, hl, sl⟩ := typed_slice typed_op h1
  obtain ⟨b, rfl, _⟩ := typed_int h2
  exact LM.fn_pcall LM.GZ.readable (LM.GZ.S6 LM.GZ.S38 l b hl (by omega))
set_option maxRecDepth 100000 in
theorem completions_lifted (os : Os) (started : os.Started) (H : Type) (enc : TypeId × Value → H) :
    ReturnsInHanded {} Tryz.checked os 6 .any (Rows.topFlakeCompletionsSpec.pre6 enc Tryz.prog Tryz.f6 Rows.topFlakeCompletionsRow.domain false) (Rows.topFlakeCompletionsSpec.post enc Tryz.prog Tryz.f6 false true false false) := by
  refine returnsInHanded_of_change_sized (C := Tryz.checked) own_knob started (by kernel_rfl) Tryz.func6
    (ChangeSpec.witness6 (enc := enc) (C := Tryz.checked) false ⟨#[], #[.slice none 0 0, .int .i64 0], []⟩ 8 (by kernel_rfl) (by kernel_rfl) (by kernel_rfl) (by kernel_rfl)) ?_
  intro W base args ds gs before hval hW _ hsz _
  exact LM.law_contract LM.GZ.ok laid_out maps_rowed slices_full (by decide +kernel) (cs := [.slice 32 (.agg [.str, .int .i64, .int .i64]), .int .i64]) (by kernel_rfl) (tb := 4) (by kernel_rfl) (by kernel_rfl) rfl (fun ds hd => by
    have hd3 : ds.length = 2 := hd.trans (by kernel_rfl)
    rcases ds with _ | ⟨d1, _ | ⟨d2, _ | ⟨_, _⟩⟩⟩ <;> first | rfl | simp at hd3) completions_law base args ds gs before hval hW hsz
theorem topFlakeCompletions : Rows.TopFlakeCompletionsSaid :=
  OpenClaim.holds_of_wide (p := Tryz.pinned) (s := Rows.topFlakeCompletionsSpec) (c := Rows.topFlakeCompletionsRow) 6 Tryz.f6 rfl rfl rfl rfl rfl rfl rfl ⟨rfl, rfl, rfl, rfl, rfl⟩ rfl rfl rfl rfl rfl (by kernel_rfl) Tryz.func6 (by kernel_rfl)
    (of_decide_eq_true (by kernel_rfl)) (by unfold Func.isWrapper; first | (rw [if_pos (by decide +kernel)]; kernel_rfl) | (rw [if_neg (by decide +kernel)]; exact ⟨rfl, rfl⟩))
    (fun os started H enc _ => completions_lifted os started H enc)
end Go.Proofs.YtlnejpgfiopjjaaGreat
