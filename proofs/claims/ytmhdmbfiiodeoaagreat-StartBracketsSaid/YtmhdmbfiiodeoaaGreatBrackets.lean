/- StartBrackets returns true for every input, and each argument reads afterwards as it read before; no condition beyond the statement's own. -/
import Derived.Test.YtmhdmbfiiodeoaaGreatLib1
import Derived.Test.YtmhdmbfiiodeoaaGreatLib2
import Derived.Test.YtmhdmbfiiodeoaaGreatLib3
import Derived.Test.YtmhdmbfiiodeoaaGreatBrackets1
import Derived.Test.YtmhdmbfiiodeoaaGreatBrackets2
import Derived.Test.YtmhdmbfiiodeoaaGreatBrackets3
import Derived.Test.YtmhdmbfiiodeoaaGreatBrackets4
import Derived.Test.YtmhdmbfiiodeoaaGreatBrackets5
import Derived.Test.YtmhdmbfiiodeoaaGreatBrackets6
set_option linter.all false
namespace Go.Proofs.YtmhdmbfiiodeoaaGreat
open Go.ChangeShapes Go.WideShapes Go.ChangeAt Go.RowKit

theorem typed_strs (x : LM.CV) (h : LM.Typed (.slice 16 .str) x) : ∃ l : List LM.Str, x = .slice (l.map LM.CV.str) ∧ (l.length : Int) < 9223372036854775807 ∧ ∀ y ∈ l, y.length < 9223372036854775807 := by
  obtain ⟨l, rfl, hl, hs⟩ := typed_slice (p := fun y : LM.Str => y.length < 9223372036854775807) (fun x hx => typed_str hx) h
  exact ⟨l, rfl, by omega, hl⟩

theorem brackets_law (vs : List LM.CV) (h : LM.TypedL [.int .i64, .agg [.int .i64, .int .i64], .slice 16 .str] vs) : ∃ n, LM.pcall (LM.progL LM.G6.prog) n 6 vs = some (.bool true) := by
  rcases vs with _ | ⟨v1, _ | ⟨v2, _ | ⟨v3, _ | ⟨_, _⟩⟩⟩⟩ <;> simp only [LM.TypedL, and_true, and_false] at h
  obtain ⟨h1, h2, h3⟩ := h
  obtain ⟨n, rfl, _⟩ := typed_int h1
  simp only [LM.Typed] at h2
  obtain ⟨cs, rfl, h2⟩ := h2
  rcases cs with _ | ⟨a, _ | ⟨b, _ | ⟨_, _⟩⟩⟩ <;> simp only [LM.TypedL, and_true, and_false] at h2
  obtain ⟨q1, q2⟩ := h2
  obtain ⟨a, rfl, _⟩ := typed_int q1
  obtain ⟨b, rfl, _⟩ := typed_int q2
  obtain ⟨l, rfl, hl, hx⟩ := typed_strs _ h3
  exact LM.fn_pcall LM.G6.readable (LM.G6.S6 LM.G6.S16 LM.G6.tabs n a b l hl hx)

set_option maxRecDepth 100000 in
theorem brackets_lifted (os : Os) (started : os.Started) (H : Type) (enc : TypeId × Value → H) :
    ReturnsInHanded {} Tryz.checked os 6 .any (Rows.startBracketsSpec.pre6 enc Tryz.prog Tryz.f6 Rows.startBracketsRow.domain false) (Rows.startBracketsSpec.post enc Tryz.prog Tryz.f6 false true false false) := by
  refine returnsInHanded_of_change_sized (C := Tryz.checked) own_knob started (by kernel_rfl) Tryz.func6
    (ChangeSpec.witness6 (enc := enc) (C := Tryz.checked) false ⟨#[], #[.int .i64 0, .agg #[.int .i64 0, .int .i64 0], .slice none 0 0], []⟩ 8 (by kernel_rfl) (by kernel_rfl) (by kernel_rfl) (by kernel_rfl)) ?_
  intro W base args ds gs before hval hW _ hsz _
  exact LM.law_contract LM.G6.ok laid_out maps_rowed slices_full (by decide +kernel) (cs := [.int .i64, .agg [.int .i64, .int .i64], .slice 16 .str]) (by kernel_rfl) (tb := 4) (by kernel_rfl) (by kernel_rfl) rfl (fun ds hd => by
    have hd3 : ds.length = 3 := hd.trans (by kernel_rfl)
    rcases ds with _ | ⟨d1, _ | ⟨d2, _ | ⟨d3, _ | ⟨_, _⟩⟩⟩⟩ <;> first | rfl | simp at hd3) brackets_law base args ds gs before hval hW hsz

theorem startBrackets : Rows.StartBracketsSaid :=
  OpenClaim.holds_of_wide (p := Tryz.pinned) (s := Rows.startBracketsSpec) (c := Rows.startBracketsRow) 6 Tryz.f6 rfl rfl rfl rfl rfl rfl rfl ⟨rfl, rfl, rfl, rfl, rfl⟩ rfl rfl rfl rfl rfl (by kernel_rfl) Tryz.func6 (by kernel_rfl)
    (of_decide_eq_true (by kernel_rfl)) (by unfold Func.isWrapper; first | (rw [if_pos (by decide +kernel)]; kernel_rfl) | (rw [if_neg (by decide +kernel)]; exact ⟨rfl, rfl⟩))
    (fun os started H enc _ => brackets_lifted os started H enc)

end Go.Proofs.YtmhdmbfiiodeoaaGreat

