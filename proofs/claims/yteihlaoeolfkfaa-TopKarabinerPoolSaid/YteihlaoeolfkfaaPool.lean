/- TopKarabinerPool returns true for every input, and each argument reads afterwards as it read before; no condition beyond the statement's own. -/
import Derived.Test.YteihlaoeolfkfaaLib1
import Derived.Test.YteihlaoeolfkfaaLib2
import Derived.Test.YteihlaoeolfkfaaLib3
import Derived.Test.YteihlaoeolfkfaaPoo1
import Derived.Test.YteihlaoeolfkfaaPoo2
import Derived.Test.YteihlaoeolfkfaaPoo3
import Derived.Test.YteihlaoeolfkfaaPoo4
set_option linter.all false
namespace Go.Proofs.Yteihlaoeolfkfaa
open Go.ChangeShapes Go.WideShapes Go.ChangeAt Go.RowKit

theorem typed_strs (x : LM.CV) (h : LM.Typed (.slice 16 .str) x) : ∃ l : List LM.Str, x = .slice (l.map LM.CV.str) ∧ (l.length : Int) < 9223372036854775807 ∧ ∀ y ∈ l, y.length < 9223372036854775807 := by
  obtain ⟨l, rfl, hl, hs⟩ := typed_slice (p := fun y : LM.Str => y.length < 9223372036854775807) (fun x hx => typed_str hx) h
  exact ⟨l, rfl, by omega, hl⟩

theorem typed_tst (x : LM.CV) (h : LM.Typed (.agg [.str, .int .i64]) x) : ∃ a : LM.GT.Tst, x = a.enc ∧ a.ok := by
  simp only [LM.Typed] at h
  obtain ⟨c, rfl, h⟩ := h
  rcases c with _ | ⟨a, _ | ⟨b, _ | ⟨_, _⟩⟩⟩ <;> simp only [LM.TypedL, and_true, and_false] at h
  obtain ⟨h1, h2⟩ := h
  obtain ⟨a, rfl, ha⟩ := typed_str h1
  obtain ⟨b, rfl, _⟩ := typed_int h2
  exact ⟨⟨a, b⟩, rfl, ha⟩

theorem pool_law (vs : List LM.CV) (h : LM.TypedL [.slice 16 .str, .slice 24 (.agg [.str, .int .i64]), .agg [.int .i64, .int .i64, .int .i64]] vs) : ∃ n, LM.pcall (LM.progL LM.GT.prog) n 3 vs = some (.bool true) := by
  rcases vs with _ | ⟨v1, _ | ⟨v2, _ | ⟨v3, _ | ⟨_, _⟩⟩⟩⟩ <;> simp only [LM.TypedL, and_true, and_false] at h
  obtain ⟨h1, h2, h3⟩ := h
  obtain ⟨c, rfl, hc, hcl⟩ := typed_strs _ h1
  obtain ⟨l, rfl, hlo, hl⟩ := typed_slice typed_tst h2
  simp only [LM.Typed] at h3
  obtain ⟨cs, rfl, h3⟩ := h3
  rcases cs with _ | ⟨a, _ | ⟨b, _ | ⟨d, _ | ⟨_, _⟩⟩⟩⟩ <;> simp only [LM.TypedL, and_true, and_false] at h3
  obtain ⟨q1, q2, q3⟩ := h3
  obtain ⟨a, rfl, _⟩ := typed_int q1
  obtain ⟨b, rfl, _⟩ := typed_int q2
  obtain ⟨d, rfl, _⟩ := typed_int q3
  exact LM.fn_pcall LM.GT.readable (LM.GT.S3 LM.GT.S9 c l ⟨a, b, d⟩ hc hcl (by omega) hlo)

set_option maxRecDepth 100000 in
theorem pool_lifted (os : Os) (started : os.Started) (H : Type) (enc : TypeId × Value → H) :
    ReturnsInHanded {} Try.checked os 3 .any (Rows.topKarabinerPoolSpec.pre6 enc Try.prog Try.f3 Rows.topKarabinerPoolRow.domain false) (Rows.topKarabinerPoolSpec.post enc Try.prog Try.f3 false true false false) := by
  refine returnsInHanded_of_change_sized (C := Try.checked) own_knob started (by kernel_rfl) Try.func3
    (ChangeSpec.witness6 (enc := enc) (C := Try.checked) false ⟨#[], #[.slice none 0 0, .slice none 0 0, .agg #[.int .i64 0, .int .i64 0, .int .i64 0]], []⟩ 8 (by kernel_rfl) (by kernel_rfl) (by kernel_rfl) (by kernel_rfl)) ?_
  intro W base args ds gs before hval hW _ hsz _
  exact LM.law_contract LM.GT.ok laid_out maps_rowed slices_full (by decide +kernel) (cs := [.slice 16 .str, .slice 24 (.agg [.str, .int .i64]), .agg [.int .i64, .int .i64, .int .i64]]) (by kernel_rfl) (tb := 4) (by kernel_rfl) (by kernel_rfl) rfl (fun ds hd => by
    have hd3 : ds.length = 3 := hd.trans (by kernel_rfl)
    rcases ds with _ | ⟨d1, _ | ⟨d2, _ | ⟨d3, _ | ⟨_, _⟩⟩⟩⟩ <;> first | rfl | simp at hd3) pool_law base args ds gs before hval hW hsz

theorem topKarabinerPool : Rows.TopKarabinerPoolSaid :=
  OpenClaim.holds_of_wide (p := Try.pinned) (s := Rows.topKarabinerPoolSpec) (c := Rows.topKarabinerPoolRow) 3 Try.f3 rfl rfl rfl rfl rfl rfl rfl ⟨rfl, rfl, rfl, rfl, rfl⟩ rfl rfl rfl rfl rfl (by kernel_rfl) Try.func3 (by kernel_rfl)
    (of_decide_eq_true (by kernel_rfl)) (by unfold Func.isWrapper; first | (rw [if_pos (by decide +kernel)]; kernel_rfl) | (rw [if_neg (by decide +kernel)]; exact ⟨rfl, rfl⟩))
    (fun os started H enc _ => pool_lifted os started H enc)

end Go.Proofs.Yteihlaoeolfkfaa

