/- MemberPools returns true for every input, and each argument reads afterwards as it read before; no condition beyond the statement's own. -/
import Derived.Test.YteihlaoeolfkfaaGreatPoolsL1
import Derived.Test.YteihlaoeolfkfaaGreatPoolsL2
import Derived.Test.YteihlaoeolfkfaaGreatPoolsL3
import Derived.Test.YteihlaoeolfkfaaGreatPools1
import Derived.Test.YteihlaoeolfkfaaGreatPools2
import Derived.Test.YteihlaoeolfkfaaGreatPools3
import Derived.Test.YteihlaoeolfkfaaGreatPools4
import Derived.Test.YteihlaoeolfkfaaGreatPools5
import Derived.Test.YteihlaoeolfkfaaGreatPools6
import Derived.Test.YteihlaoeolfkfaaGreatPools7
set_option linter.all false
namespace Go.Proofs.YteihlaoeolfkfaaGreat
open Go.ChangeShapes Go.WideShapes Go.ChangeAt Go.RowKit
theorem typed_strs (x : LM.CV) (h : LM.Typed (.slice 16 .str) x) : ∃ l : List LM.Str, x = .slice (l.map LM.CV.str) ∧ l.length * 16 ≤ 2 ^ 47 ∧ ∀ y ∈ l, y.length < 9223372036854775807 := by
  obtain ⟨l, rfl, hl, hs⟩ := typed_slice (p := fun y : LM.Str => y.length < 9223372036854775807) (fun x hx => typed_str hx) h
  exact ⟨l, rfl, hs, hl⟩
theorem typed_tst (x : LM.CV) (h : LM.Typed (.agg [.str, .int .i64]) x) : ∃ a : LM.G9.Tst, x = a.enc ∧ a.ok := by
  simp only [LM.Typed] at h
  obtain ⟨c, rfl, h⟩ := h
  rcases c with _ | ⟨a, _ | ⟨b, _ | ⟨_, _⟩⟩⟩ <;> simp only [LM.TypedL, and_true, and_false] at h
  obtain ⟨h1, h2⟩ := h
  obtain ⟨a, rfl, ha⟩ := typed_str h1
  obtain ⟨b, rfl, _⟩ := typed_int h2
  exact ⟨⟨a, b⟩, rfl, ha⟩
theorem pools_law (vs : List LM.CV) (h : LM.TypedL [.slice 16 .str, .slice 24 (.agg [.str, .int .i64]), .agg [.int .i64, .int .i64, .int .i64, .int .i64, .int .i64]] vs) : ∃ n, LM.pcall (LM.progL LM.G9.prog) n 4 vs = some (.bool true) := by
  rcases vs with _ | ⟨v1, _ | ⟨v2, _ | ⟨v3, _ | ⟨_, _⟩⟩⟩⟩ <;> simp only [LM.TypedL, and_true, and_false] at h
  obtain ⟨h1, h2, h3⟩ := h
  obtain ⟨c, rfl, hc, hcl⟩ := typed_strs _ h1
  obtain ⟨l, rfl, hlo, hl⟩ := typed_slice typed_tst h2
  simp only [LM.Typed] at h3
  obtain ⟨cs, rfl, h3⟩ := h3
  rcases cs with _ | ⟨a, _ | ⟨b, _ | ⟨d, _ | ⟨e, _ | ⟨f, _ | ⟨_, _⟩⟩⟩⟩⟩⟩ <;> simp only [LM.TypedL, and_true, and_false] at h3
  obtain ⟨q1, q2, q3, q4, q5⟩ := h3
  obtain ⟨a, rfl, _⟩ := typed_int q1
  obtain ⟨b, rfl, _⟩ := typed_int q2
  obtain ⟨d, rfl, _⟩ := typed_int q3
  obtain ⟨e, rfl, _⟩ := typed_int q4
  obtain ⟨f, rfl, _⟩ := typed_int q5
  exact LM.fn_pcall LM.G9.readable (LM.G9.S4 LM.G9.S14 c l ⟨⟨a, b, d⟩, e, f⟩ hc hcl (by omega) hlo)
set_option maxRecDepth 100000 in
theorem pools_lifted (os : Os) (started : os.Started) (H : Type) (enc : TypeId × Value → H) :
    ReturnsInHanded {} Tryz.checked os 4 .any (Rows.memberPoolsSpec.pre6 enc Tryz.prog Tryz.f4 Rows.memberPoolsRow.domain false) (Rows.memberPoolsSpec.post enc Tryz.prog Tryz.f4 false true false false) := by
  refine returnsInHanded_of_change_sized (C := Tryz.checked) own_knob started (by kernel_rfl) Tryz.func4
    (ChangeSpec.witness6 (enc := enc) (C := Tryz.checked) false ⟨#[], #[.slice none 0 0, .slice none 0 0, .agg #[.int .i64 0, .int .i64 0, .int .i64 0, .int .i64 0, .int .i64 0]], []⟩ 8 (by kernel_rfl) (by kernel_rfl) (by kernel_rfl) (by kernel_rfl)) ?_
  intro W base args ds gs before hval hW _ hsz _
  exact LM.law_contract LM.G9.ok laid_out maps_rowed slices_full (by decide +kernel) (cs := [.slice 16 .str, .slice 24 (.agg [.str, .int .i64]), .agg [.int .i64, .int .i64, .int .i64, .int .i64, .int .i64]]) (by kernel_rfl) (tb := 4) (by kernel_rfl) (by kernel_rfl) rfl (fun ds hd => by
    have hd3 : ds.length = 3 := hd.trans (by kernel_rfl)
    rcases ds with _ | ⟨d1, _ | ⟨d2, _ | ⟨d3, _ | ⟨_, _⟩⟩⟩⟩ <;> first | rfl | simp at hd3) pools_law base args ds gs before hval hW hsz
theorem memberPools : Rows.MemberPoolsSaid :=
  OpenClaim.holds_of_wide (p := Tryz.pinned) (s := Rows.memberPoolsSpec) (c := Rows.memberPoolsRow) 4 Tryz.f4 rfl rfl rfl rfl rfl rfl rfl ⟨rfl, rfl, rfl, rfl, rfl⟩ rfl rfl rfl rfl rfl (by kernel_rfl) Tryz.func4 (by kernel_rfl)
    (of_decide_eq_true (by kernel_rfl)) (by unfold Func.isWrapper; first | (rw [if_pos (by decide +kernel)]; kernel_rfl) | (rw [if_neg (by decide +kernel)]; exact ⟨rfl, rfl⟩))
    (fun os started H enc _ => pools_lifted os started H enc)
end Go.Proofs.YteihlaoeolfkfaaGreat
