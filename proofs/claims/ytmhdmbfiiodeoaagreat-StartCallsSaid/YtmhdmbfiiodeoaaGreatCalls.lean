/- StartCalls returns true for every input, and each argument reads afterwards as it read before; no condition beyond the statement's own. -/
import Derived.Test.YtmhdmbfiiodeoaaGreatLib1
import Derived.Test.YtmhdmbfiiodeoaaGreatLib2
import Derived.Test.YtmhdmbfiiodeoaaGreatLib3
import Derived.Test.YtmhdmbfiiodeoaaGreatCalls1
import Derived.Test.YtmhdmbfiiodeoaaGreatCalls2
import Derived.Test.YtmhdmbfiiodeoaaGreatCalls3
import Derived.Test.YtmhdmbfiiodeoaaGreatCalls4
import Derived.Test.YtmhdmbfiiodeoaaGreatCalls5
import Derived.Test.YtmhdmbfiiodeoaaGreatCalls6
set_option linter.all false
namespace Go.Proofs.YtmhdmbfiiodeoaaGreat
open Go.ChangeShapes Go.WideShapes Go.ChangeAt Go.RowKit


theorem calls_law (vs : List LM.CV) (h : LM.TypedL [.int .i64, .agg [.int .i64, .int .i64, .int .i64, .int .i64]] vs) : ∃ n, LM.pcall (LM.progL LM.G6.prog) n 5 vs = some (.bool true) := by
  rcases vs with _ | ⟨v1, _ | ⟨v2, _ | ⟨_, _⟩⟩⟩ <;> simp only [LM.TypedL, and_true, and_false] at h
  obtain ⟨h1, h2⟩ := h
  obtain ⟨n, rfl, _⟩ := typed_int h1
  simp only [LM.Typed] at h2
  obtain ⟨cs, rfl, h2⟩ := h2
  rcases cs with _ | ⟨a, _ | ⟨b, _ | ⟨d, _ | ⟨e, _ | ⟨_, _⟩⟩⟩⟩⟩ <;> simp only [LM.TypedL, and_true, and_false] at h2
  obtain ⟨q1, q2, q3, q4⟩ := h2
  obtain ⟨a, rfl, _⟩ := typed_int q1
  obtain ⟨b, rfl, _⟩ := typed_int q2
  obtain ⟨d, rfl, _⟩ := typed_int q3
  obtain ⟨e, rfl, _⟩ := typed_int q4
  exact LM.fn_pcall LM.G6.readable (LM.G6.S5 LM.G6.S16 n a b d e)

set_option maxRecDepth 100000 in
theorem calls_lifted (os : Os) (started : os.Started) (H : Type) (enc : TypeId × Value → H) :
    ReturnsInHanded {} Tryz.checked os 5 .any (Rows.startCallsSpec.pre6 enc Tryz.prog Tryz.f5 Rows.startCallsRow.domain false) (Rows.startCallsSpec.post enc Tryz.prog Tryz.f5 false true false false) := by
  refine returnsInHanded_of_change_sized (C := Tryz.checked) own_knob started (by kernel_rfl) Tryz.func5
    (ChangeSpec.witness6 (enc := enc) (C := Tryz.checked) false ⟨#[], #[.int .i64 0, .agg #[.int .i64 0, .int .i64 0, .int .i64 0, .int .i64 0]], []⟩ 8 (by kernel_rfl) (by kernel_rfl) (by kernel_rfl) (by kernel_rfl)) ?_
  intro W base args ds gs before hval hW _ hsz _
  exact LM.law_contract LM.G6.ok laid_out maps_rowed slices_full (by decide +kernel) (cs := [.int .i64, .agg [.int .i64, .int .i64, .int .i64, .int .i64]]) (by kernel_rfl) (tb := 4) (by kernel_rfl) (by kernel_rfl) rfl (fun ds hd => by
    have hd3 : ds.length = 2 := hd.trans (by kernel_rfl)
    rcases ds with _ | ⟨d1, _ | ⟨d2, _ | ⟨_, _⟩⟩⟩ <;> first | rfl | simp at hd3) calls_law base args ds gs before hval hW hsz

theorem startCalls : Rows.StartCallsSaid :=
  OpenClaim.holds_of_wide (p := Tryz.pinned) (s := Rows.startCallsSpec) (c := Rows.startCallsRow) 5 Tryz.f5 rfl rfl rfl rfl rfl rfl rfl ⟨rfl, rfl, rfl, rfl, rfl⟩ rfl rfl rfl rfl rfl (by kernel_rfl) Tryz.func5 (by kernel_rfl)
    (of_decide_eq_true (by kernel_rfl)) (by unfold Func.isWrapper; first | (rw [if_pos (by decide +kernel)]; kernel_rfl) | (rw [if_neg (by decide +kernel)]; exact ⟨rfl, rfl⟩))
    (fun os started H enc _ => calls_lifted os started H enc)

end Go.Proofs.YtmhdmbfiiodeoaaGreat

