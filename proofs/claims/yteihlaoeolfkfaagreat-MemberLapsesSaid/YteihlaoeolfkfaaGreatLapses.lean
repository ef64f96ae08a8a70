/- MemberLapses returns true for every input, and each argument reads afterwards as it read before; no condition beyond the statement's own. -/
import Derived.Test.YteihlaoeolfkfaaGreatLib1
import Derived.Test.YteihlaoeolfkfaaGreatLib2
import Derived.Test.YteihlaoeolfkfaaGreatLib3
import Derived.Test.YteihlaoeolfkfaaGreatLics1
import Derived.Test.YteihlaoeolfkfaaGreatLics2
import Derived.Test.YteihlaoeolfkfaaGreatLics3
import Derived.Test.YteihlaoeolfkfaaGreatLics4
import Derived.Test.YteihlaoeolfkfaaGreatLics5
import Derived.Test.YteihlaoeolfkfaaGreatLics6
import Derived.Test.YteihlaoeolfkfaaGreatLics7
import Derived.Test.YteihlaoeolfkfaaGreatLics8
set_option linter.all false
namespace Go.Proofs.YteihlaoeolfkfaaGreat
open Go.ChangeShapes Go.WideShapes Go.ChangeAt Go.RowKit

theorem typed_lic2 (x : LM.CV) (h : LM.Typed (.agg [.str, .int .i64, .int .i64]) x) : ∃ a : LM.G9.Lic, x = a.enc ∧ a.ok := by
  simp only [LM.Typed] at h
  obtain ⟨c, rfl, h⟩ := h
  rcases c with _ | ⟨a, _ | ⟨b, _ | ⟨d, _ | ⟨_, _⟩⟩⟩⟩ <;> simp only [LM.TypedL, and_true, and_false] at h
  obtain ⟨h1, h2, h3⟩ := h
  obtain ⟨a, rfl, ha⟩ := typed_str h1
  obtain ⟨b, rfl, _⟩ := typed_int h2
  obtain ⟨d, rfl, _⟩ := typed_int h3
  exact ⟨⟨a, b, d⟩, rfl, ha⟩

theorem over_Q2 : LM.G9.Over (LM.lookupPrim · LM.G9.tableA) LM.G9.progQ := fun _ _ _ h => LM.G9.fn_Q h

theorem laps_law (vs : List LM.CV) (h : LM.TypedL [.slice 32 (.agg [.str, .int .i64, .int .i64]), .str, .int .i64] vs) : ∃ n, LM.pcall (LM.progL LM.G9.prog) n 8 vs = some (.bool true) := by
  rcases vs with _ | ⟨v1, _ | ⟨v2, _ | ⟨v3, _ | ⟨_, _⟩⟩⟩⟩ <;> simp only [LM.TypedL, and_true, and_false] at h
  obtain ⟨h1, h2, h3⟩ := h
  obtain ⟨l, rfl, hl, sl⟩ := typed_slice typed_lic2 h1
  obtain ⟨s, rfl, hs⟩ := typed_str h2
  obtain ⟨d, rfl, _⟩ := typed_int h3
  exact LM.fn_pcall LM.G9.readable (LM.G9.S8' LM.G9.S14 l s d hl sl hs
    (fun a b => by obtain ⟨n, q⟩ := LM.G9.E18 over_Q2 rfl rfl l s a b hl (by omega) hs; exact LM.G9.g18_of q)
    (fun l' hl' hs' a => by obtain ⟨n, q⟩ := LM.G9.E19 over_Q2 rfl rfl l' s a hl' hs' hs; exact LM.G9.g19_of q))

set_option maxRecDepth 100000 in
theorem laps_lifted (os : Os) (started : os.Started) (H : Type) (enc : TypeId × Value → H) :
    ReturnsInHanded {} Tryz.checked os 8 .any (Rows.memberLapsesSpec.pre6 enc Tryz.prog Tryz.f8 Rows.memberLapsesRow.domain false) (Rows.memberLapsesSpec.post enc Tryz.prog Tryz.f8 false true false false) := by
  refine returnsInHanded_of_change_sized (C := Tryz.checked) own_knob started (by kernel_rfl) Tryz.func8
    (ChangeSpec.witness6 (enc := enc) (C := Tryz.checked) false ⟨#[], #[.slice none 0 0, .string ⟨#[]⟩, .int .i64 0], []⟩ 8 (by kernel_rfl) (by kernel_rfl) (by kernel_rfl) (by kernel_rfl)) ?_
  intro W base args ds gs before hval hW _ hsz _
  exact LM.law_contract LM.G9.ok laid_out maps_rowed slices_full (by decide +kernel) (cs := [.slice 32 (.agg [.str, .int .i64, .int .i64]), .str, .int .i64]) (by kernel_rfl) (tb := 4) (by kernel_rfl) (by kernel_rfl) rfl (fun ds hd => by
    have hd3 : ds.length = 3 := hd.trans (by kernel_rfl)
    rcases ds with _ | ⟨d1, _ | ⟨d2, _ | ⟨d3, _ | ⟨_, _⟩⟩⟩⟩ <;> first | rfl | simp at hd3) laps_law base args ds gs before hval hW hsz

theorem memberLapses : Rows.MemberLapsesSaid :=
  OpenClaim.holds_of_wide (p := Tryz.pinned) (s := Rows.memberLapsesSpec) (c := Rows.memberLapsesRow) 8 Tryz.f8 rfl rfl rfl rfl rfl rfl rfl ⟨rfl, rfl, rfl, rfl, rfl⟩ rfl rfl rfl rfl rfl (by kernel_rfl) Tryz.func8 (by kernel_rfl)
    (of_decide_eq_true (by kernel_rfl)) (by unfold Func.isWrapper; first | (rw [if_pos (by decide +kernel)]; kernel_rfl) | (rw [if_neg (by decide +kernel)]; exact ⟨rfl, rfl⟩))
    (fun os started H enc _ => laps_lifted os started H enc)

end Go.Proofs.YteihlaoeolfkfaaGreat

