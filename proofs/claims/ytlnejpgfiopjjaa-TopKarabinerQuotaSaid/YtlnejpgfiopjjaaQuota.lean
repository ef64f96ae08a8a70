/- TopKarabinerQuota returns true for every input, and each argument reads afterwards as it read before; no condition beyond the statement's own. -/
import Derived.Test.YtlnejpgfiopjjaaQuotaL1
import Derived.Test.YtlnejpgfiopjjaaQuotaL2
import Derived.Test.YtlnejpgfiopjjaaQuotaL3
import Derived.Test.YtlnejpgfiopjjaaQuota1
import Derived.Test.YtlnejpgfiopjjaaQuota2
import Derived.Test.YtlnejpgfiopjjaaQuota3
import Derived.Test.YtlnejpgfiopjjaaQuota4
import Derived.Test.YtlnejpgfiopjjaaQuota5
set_option linter.all false
namespace Go.Proofs.Ytlnejpgfiopjjaa
open Go.ChangeShapes Go.WideShapes Go.ChangeAt Go.RowKit
theorem typed_strs (x : LM.CV) (h : LM.Typed (.slice 16 .str) x) : ∃ l : List LM.Str, x = .slice (l.map LM.CV.str) ∧ (l.length : Int) < 9223372036854775807 ∧ ∀ y ∈ l, y.length < 9223372036854775807 := by
  obtain ⟨l, rfl, hl, hs⟩ := typed_slice (p := fun y : LM.Str => y.length < 9223372036854775807) (fun x hx => typed_str hx) h
  exact ⟨l, rfl, by omega, hl⟩
theorem typed_ints (x : LM.CV) (h : LM.Typed (.slice 8 (.int .i64)) x) : ∃ l : List Int, x = .slice (l.map LM.ci) ∧ (l.length : Int) < 9223372036854775807 := by
  obtain ⟨l, rfl, _, hs⟩ := typed_slice (enc := LM.ci) (p := fun _ : Int => True) (fun x hx => by obtain ⟨n, rfl, _⟩ := typed_int hx; exact ⟨n, rfl, trivial⟩) h
  exact ⟨l, rfl, by omega⟩
theorem typed_rs1 (x : LM.CV) (h : LM.Typed (.agg [.str, .str, .slice 8 (.int .i64)]) x) : ∃ r : LM.GK.Rs, x = r.enc ∧ r.ok := by
  simp only [LM.Typed] at h
  obtain ⟨cs, rfl, h⟩ := h
  rcases cs with _ | ⟨a, _ | ⟨b, _ | ⟨c, _ | ⟨_, _⟩⟩⟩⟩ <;> simp only [LM.TypedL, and_true, and_false] at h
  obtain ⟨q1, q2, q3⟩ := h
  obtain ⟨a, rfl, ha⟩ := typed_str q1
  obtain ⟨b, rfl, hb⟩ := typed_str q2
  obtain ⟨w, rfl, hw⟩ := typed_ints _ q3
  exact ⟨⟨a, b, w⟩, rfl, ha, hb, hw⟩
theorem typed_rss (x : LM.CV) (h : LM.Typed (.slice 56 (.agg [.str, .str, .slice 8 (.int .i64)])) x) : ∃ l : List LM.GK.Rs, x = .slice (l.map LM.GK.Rs.enc) ∧ (l.length : Int) < 9223372036854775807 ∧ ∀ y ∈ l, y.ok := by
  obtain ⟨l, rfl, hl, hs⟩ := typed_slice (p := LM.GK.Rs.ok) typed_rs1 h
  exact ⟨l, rfl, by omega, hl⟩
theorem quota_law (vs : List LM.CV) (h : LM.TypedL [.slice 56 (.agg [.str, .str, .slice 8 (.int .i64)]), .int .i64, .slice 16 .str] vs) : ∃ n, LM.pcall (LM.progL LM.GK.prog) n 4 vs = some (.bool true) := by
  rcases vs with _ | ⟨v1, _ | ⟨v2, _ | ⟨v3, _ | ⟨_, _⟩⟩⟩⟩ <;> simp only [LM.TypedL, and_true, and_false] at h
  obtain ⟨h1, h2, h3⟩ := h
  obtain ⟨l, rfl, hl, hx⟩ := typed_rss _ h1
  obtain ⟨q, rfl, _⟩ := typed_int h2
  obtain ⟨o, rfl, ho, _⟩ := typed_strs _ h3
  exact LM.fn_pcall LM.GK.readable (LM.GK.S4 LM.GK.S7 l q o hx hl ho)
set_option maxRecDepth 100000 in
theorem quota_lifted (os : Os) (started : os.Started) (H : Type) (enc : TypeId × Value → H) :
    ReturnsInHanded {} Try.checked os 4 .any (Rows.topKarabinerQuotaSpec.pre6 enc Try.prog Try.f4 Rows.topKarabinerQuotaRow.domain false) (Rows.topKarabinerQuotaSpec.post enc Try.prog Try.f4 false true false false) := by
  refine returnsInHanded_of_change_sized (C := Try.checked) own_knob started (by kernel_rfl) Try.func4
    (ChangeSpec.witness6 (enc := enc) (C := Try.checked) false ⟨#[], #[.slice none 0 0, .int .i64 0, .slice none 0 0], []⟩ 8 (by kernel_rfl) (by kernel_rfl) (by kernel_rfl) (by kernel_rfl)) ?_
  intro W base args ds gs before hval hW _ hsz _
  exact LM.law_contract LM.GK.ok laid_out maps_rowed slices_full (by decide +kernel) (cs := [.slice 56 (.agg [.str, .str, .slice 8 (.int .i64)]), .int .i64, .slice 16 .str]) (by kernel_rfl) (tb := 4) (by kernel_rfl) (by kernel_rfl) rfl (fun ds hd => by
    have hd3 : ds.length = 3 := hd.trans (by kernel_rfl)
    rcases ds with _ | ⟨d1, _ | ⟨d2, _ | ⟨d3, _ | ⟨_, _⟩⟩⟩⟩ <;> first | rfl | simp at hd3) quota_law base args ds gs before hval hW hsz
theorem topKarabinerQuota : Rows.TopKarabinerQuotaSaid :=
  OpenClaim.holds_of_wide (p := Try.pinned) (s := Rows.topKarabinerQuotaSpec) (c := Rows.topKarabinerQuotaRow) 4 Try.f4 rfl rfl rfl rfl rfl rfl rfl ⟨rfl, rfl, rfl, rfl, rfl⟩ rfl rfl rfl rfl rfl (by kernel_rfl) Try.func4 (by kernel_rfl)
    (of_decide_eq_true (by kernel_rfl)) (by unfold Func.isWrapper; first | (rw [if_pos (by decide +kernel)]; kernel_rfl) | (rw [if_neg (by decide +kernel)]; exact ⟨rfl, rfl⟩))
    (fun os started H enc _ => quota_lifted os started H enc)
end Go.Proofs.Ytlnejpgfiopjjaa
