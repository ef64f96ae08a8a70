/- MemberLicences returns true for every input, and each argument reads afterwards as it read before; no condition beyond the statement's own. -/
import Derived.Test.YteihlaoeolfkfaaGreatLib1
import Derived.Test.YteihlaoeolfkfaaGreatLib2
import Derived.Test.YteihlaoeolfkfaaGreatLib3
import Derived.Test.YteihlaoeolfkfaaGreatLics1
import Derived.Test.YteihlaoeolfkfaaGreatLics2
import Derived.Test.YteihlaoeolfkfaaGreatLics3
import Derived.Test.YteihlaoeolfkfaaGreatLics4
import Derived.Test.YteihlaoeolfkfaaGreatLics5
import Derived.Test.YteihlaoeolfkfaaGreatLics6
import Derived.Test.YteihlaoeolfkfaaGreatLics7
set_option linter.all false
namespace Go.Proofs.YteihlaoeolfkfaaGreat
open Go.ChangeShapes Go.WideShapes Go.ChangeAt Go.RowKit

theorem typed_lic (x : LM.CV) (h : LM.Typed (.agg [.str, .int .i64, .int .i64]) x) : ∃ a : LM.G9.Lic, x = a.enc ∧ a.ok := by
  simp only [LM.Typed] at h
  obtain ⟨c, rfl, h⟩ := h
  rcases c with _ | ⟨a, _ | ⟨b, _ | ⟨d, _ | ⟨_, _⟩⟩⟩⟩ <;> simp only [LM.TypedL, and_true, and_false] at h
  obtain ⟨h1, h2, h3⟩ := h
  obtain ⟨a, rfl, ha⟩ := typed_str h1
  obtain ⟨b, rfl, _⟩ := typed_int h2
  obtain ⟨d, rfl, _⟩ := typed_int h3
  exact ⟨⟨a, b, d⟩, rfl, ha⟩

theorem over_Q : LM.G9.Over (LM.lookupPrim · LM.G9.tableA) LM.G9.progQ := fun _ _ _ h => LM.G9.fn_Q h

theorem lics_law (vs : List LM.CV) (h : LM.TypedL [.slice 32 (.agg [.str, .int .i64, .int .i64]), .str, .agg [.int .i64, .int .i64]] vs) : ∃ n, LM.pcall (LM.progL LM.G9.prog) n 3 vs = some (.bool true) := by
  rcases vs with _ | ⟨v1, _ | ⟨v2, _ | ⟨v3, _ | ⟨_, _⟩⟩⟩⟩ <;> simp only [LM.TypedL, and_true, and_false] at h
  obtain ⟨h1, h2, h3⟩ := h
  obtain ⟨l, rfl, hl, sl⟩ := typed_slice typed_lic h1
  obtain ⟨s, rfl, hs⟩ := typed_str h2
  simp only [LM.Typed] at h3
  obtain ⟨c, rfl, h3⟩ := h3
  rcases c with _ | ⟨a, _ | ⟨b, _ | ⟨_, _⟩⟩⟩ <;> simp only [LM.TypedL, and_true, and_false] at h3
  obtain ⟨a, rfl, _⟩ := typed_int h3.1
  obtain ⟨b, rfl, _⟩ := typed_int h3.2
  obtain ⟨n1, q1⟩ := LM.G9.E18 over_Q rfl rfl l s a b hl (by omega) hs
  obtain ⟨n2, q2⟩ := LM.G9.E19 over_Q rfl rfl l s a hl (by omega) hs
  exact LM.fn_pcall LM.G9.readable (LM.G9.S3 LM.G9.S14 l s a b hl sl hs (LM.G9.g18_of q1) (LM.G9.g19_of q2))

set_option maxRecDepth 100000 in
theorem lics_lifted (os : Os) (started : os.Started) (H : Type) (enc : TypeId × Value → H) :
    ReturnsInHanded {} Tryz.checked os 3 .any (Rows.memberLicencesSpec.pre6 enc Tryz.prog Tryz.f3 Rows.memberLicencesRow.domain false) (Rows.memberLicencesSpec.post enc Tryz.prog Tryz.f3 false true false false) := by
  refine returnsInHanded_of_change_sized (C := Tryz.checked) own_knob started (by kernel_rfl) Tryz.func3
    (ChangeSpec.witness6 (enc := enc) (C := Tryz.checked) false ⟨#[], #[.slice none 0 0, .string ⟨#[]⟩, .agg #[.int .i64 0, .int .i64 0]], []⟩ 8 (by kernel_rfl) (by kernel_rfl) (by kernel_rfl) (by kernel_rfl)) ?_
  intro W base args ds gs before hval hW _ hsz _
  exact LM.law_contract LM.G9.ok laid_out maps_rowed slices_full (by decide +kernel) (cs := [.slice 32 (.agg [.str, .int .i64, .int .i64]), .str, .agg [.int .i64, .int .i64]]) (by kernel_rfl) (tb := 4) (by kernel_rfl) (by kernel_rfl) rfl (fun ds hd => by
    have hd3 : ds.length = 3 := hd.trans (by kernel_rfl)
    rcases ds with _ | ⟨d1, _ | ⟨d2, _ | ⟨d3, _ | ⟨_, _⟩⟩⟩⟩ <;> first | rfl | simp at hd3) lics_law base args ds gs before hval hW hsz

theorem memberLicences : Rows.MemberLicencesSaid :=
  OpenClaim.holds_of_wide (p := Tryz.pinned) (s := Rows.memberLicencesSpec) (c := Rows.memberLicencesRow) 3 Tryz.f3 rfl rfl rfl rfl rfl rfl rfl ⟨rfl, rfl, rfl, rfl, rfl⟩ rfl rfl rfl rfl rfl (by kernel_rfl) Tryz.func3 (by kernel_rfl)
    (of_decide_eq_true (by kernel_rfl)) (by unfold Func.isWrapper; first | (rw [if_pos (by decide +kernel)]; kernel_rfl) | (rw [if_neg (by decide +kernel)]; exact ⟨rfl, rfl⟩))
    (fun os started H enc _ => lics_lifted os started H enc)

end Go.Proofs.YteihlaoeolfkfaaGreat

