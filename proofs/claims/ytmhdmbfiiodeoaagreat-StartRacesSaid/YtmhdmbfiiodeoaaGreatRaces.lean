/- StartRaces returns true for every input, and each argument reads afterwards as it read before; no condition beyond the statement's own. -/
import Derived.Test.YtmhdmbfiiodeoaaGreatLib1
import Derived.Test.YtmhdmbfiiodeoaaGreatLib2
import Derived.Test.YtmhdmbfiiodeoaaGreatLib3
import Derived.Test.YtmhdmbfiiodeoaaGreatRaces1
import Derived.Test.YtmhdmbfiiodeoaaGreatRaces2
import Derived.Test.YtmhdmbfiiodeoaaGreatRaces3
import Derived.Test.YtmhdmbfiiodeoaaGreatRaces4
import Derived.Test.YtmhdmbfiiodeoaaGreatRaces5
import Derived.Test.YtmhdmbfiiodeoaaGreatRaces6
set_option linter.all false
namespace Go.Proofs.YtmhdmbfiiodeoaaGreat
open Go.ChangeShapes Go.WideShapes Go.ChangeAt Go.RowKit

theorem typed_rc (x : LM.CV) (h : LM.Typed (.agg [.str, .str, .int .i64]) x) : ∃ r : LM.G6.Rc, x = r.enc ∧ (r.a.length < 9223372036854775807 ∧ r.b.length < 9223372036854775807) := by
  simp only [LM.Typed] at h
  obtain ⟨cs, rfl, h⟩ := h
  rcases cs with _ | ⟨a, _ | ⟨b, _ | ⟨c, _ | ⟨_, _⟩⟩⟩⟩ <;> simp only [LM.TypedL, and_true, and_false] at h
  obtain ⟨q1, q2, q3⟩ := h
  obtain ⟨a, rfl, ha⟩ := typed_str q1
  obtain ⟨b, rfl, hb⟩ := typed_str q2
  obtain ⟨w, rfl, _⟩ := typed_int q3
  exact ⟨⟨a, b, w⟩, rfl, ha, hb⟩
theorem typed_rcs (x : LM.CV) (h : LM.Typed (.slice 40 (.agg [.str, .str, .int .i64])) x) : ∃ l : List LM.G6.Rc, x = .slice (l.map LM.G6.Rc.enc) ∧ l.length * 40 ≤ 2 ^ 47 ∧ ∀ y ∈ l, y.a.length < 9223372036854775807 ∧ y.b.length < 9223372036854775807 := by
  obtain ⟨l, rfl, hl, hs⟩ := typed_slice (p := fun r : LM.G6.Rc => r.a.length < 9223372036854775807 ∧ r.b.length < 9223372036854775807) typed_rc h
  exact ⟨l, rfl, hs, hl⟩

theorem races_law (vs : List LM.CV) (h : LM.TypedL [.slice 40 (.agg [.str, .str, .int .i64])] vs) : ∃ n, LM.pcall (LM.progL LM.G6.prog) n 7 vs = some (.bool true) := by
  rcases vs with _ | ⟨v1, _ | ⟨_, _⟩⟩ <;> simp only [LM.TypedL, and_true, and_false] at h
  have h1 := h
  obtain ⟨l, rfl, hl, hx⟩ := typed_rcs _ h1
  exact LM.fn_pcall LM.G6.readable (LM.G6.S7 LM.G6.S16 LM.G6.tabs l hl hx)

set_option maxRecDepth 100000 in
theorem races_lifted (os : Os) (started : os.Started) (H : Type) (enc : TypeId × Value → H) :
    ReturnsInHanded {} Tryz.checked os 7 .any (Rows.startRacesSpec.pre6 enc Tryz.prog Tryz.f7 Rows.startRacesRow.domain false) (Rows.startRacesSpec.post enc Tryz.prog Tryz.f7 false true false false) := by
  refine returnsInHanded_of_change_sized (C := Tryz.checked) own_knob started (by kernel_rfl) Tryz.func7
    (ChangeSpec.witness6 (enc := enc) (C := Tryz.checked) false ⟨#[], #[.slice none 0 0], []⟩ 8 (by kernel_rfl) (by kernel_rfl) (by kernel_rfl) (by kernel_rfl)) ?_
  intro W base args ds gs before hval hW _ hsz _
  exact LM.law_contract LM.G6.ok laid_out maps_rowed slices_full (by decide +kernel) (cs := [.slice 40 (.agg [.str, .str, .int .i64])]) (by kernel_rfl) (tb := 4) (by kernel_rfl) (by kernel_rfl) rfl (fun ds hd => by
    have hd3 : ds.length = 1 := hd.trans (by kernel_rfl)
    rcases ds with _ | ⟨d1, _ | ⟨_, _⟩⟩ <;> first | rfl | simp at hd3) races_law base args ds gs before hval hW hsz

theorem startRaces : Rows.StartRacesSaid :=
  OpenClaim.holds_of_wide (p := Tryz.pinned) (s := Rows.startRacesSpec) (c := Rows.startRacesRow) 7 Tryz.f7 rfl rfl rfl rfl rfl rfl rfl ⟨rfl, rfl, rfl, rfl, rfl⟩ rfl rfl rfl rfl rfl (by kernel_rfl) Tryz.func7 (by kernel_rfl)
    (of_decide_eq_true (by kernel_rfl)) (by unfold Func.isWrapper; first | (rw [if_pos (by decide +kernel)]; kernel_rfl) | (rw [if_neg (by decide +kernel)]; exact ⟨rfl, rfl⟩))
    (fun os started H enc _ => races_lifted os started H enc)

end Go.Proofs.YtmhdmbfiiodeoaaGreat

