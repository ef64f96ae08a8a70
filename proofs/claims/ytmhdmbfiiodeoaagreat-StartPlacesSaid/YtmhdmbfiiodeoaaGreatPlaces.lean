/- StartPlaces returns true for every input, and each argument reads afterwards as it read before; no condition beyond the statement's own. -/
import Derived.Test.YtmhdmbfiiodeoaaGreatPlacesL1
import Derived.Test.YtmhdmbfiiodeoaaGreatPlacesL2
import Derived.Test.YtmhdmbfiiodeoaaGreatPlacesL3
import Derived.Test.YtmhdmbfiiodeoaaGreatPlaces1
import Derived.Test.YtmhdmbfiiodeoaaGreatPlaces2
import Derived.Test.YtmhdmbfiiodeoaaGreatPlaces3
import Derived.Test.YtmhdmbfiiodeoaaGreatPlaces4
import Derived.Test.YtmhdmbfiiodeoaaGreatPlaces5
import Derived.Test.YtmhdmbfiiodeoaaGreatPlaces6
set_option linter.all false
namespace Go.Proofs.YtmhdmbfiiodeoaaGreat
open Go.ChangeShapes Go.WideShapes Go.ChangeAt Go.RowKit
theorem typed_rc (x : LM.CV) (h : LM.Typed (.agg [.str, .str, .int .i64]) x) : ∃ r : LM.G6.Rc, x = r.enc ∧ (r.a.length < 9223372036854775807 ∧ r.b.length < 9223372036854775807) := by
  simp only [LM.Typed] at h
  obtain ⟨cs, rfl, h⟩ := h
  rcases cs with _ | ⟨a, _ | ⟨b, _ | ⟨c, _ | ⟨_, _⟩⟩⟩⟩ <;> simp only [LM.TypedL, and_true, and_false] at h
  obtain ⟨q1, q2, q3⟩ := h
  obtain ⟨a, rfl, ha⟩ := typed_str q1
  obtain ⟨b, rfl, hb⟩ := typed_str q2
  obtain ⟨w, rfl, _⟩ := typed_int q3
  exact ⟨⟨a, b, w⟩, rfl, ha, hb⟩
theorem typed_rcs (x : LM.CV) (h : LM.Typed (.slice 40 (.agg [.str, .str, .int .i64])) x) : ∃ l : List LM.G6.Rc, x = .slice (l.map LM.G6.Rc.enc) ∧ l.length * 40 ≤ 2 ^ 47 ∧ ∀ y ∈ l, y.a.length < 9223372036854775807 ∧ y.b.length < 9223372036854775807 := by
  obtain ⟨l, rfl, hl, hs⟩ := typed_slice (p := fun r : LM.G6.Rc => r.a.length < 9223372036854775807 ∧ r.b.length < 9223372036854775807) typed_rc h
  exact ⟨l, rfl, hs, hl⟩
theorem typed_rounds (x : LM.CV) (h : LM.Typed (.slice 24 (.slice 40 (.agg [.str, .str, .int .i64]))) x) : ∃ L : List (List LM.G6.Rc), x = .slice (L.map LM.G6.encR) ∧ (L.length : Int) < 9223372036854775807 ∧ ∀ r ∈ L, r.length * 40 ≤ 2 ^ 47 ∧ ∀ y ∈ r, y.a.length < 9223372036854775807 ∧ y.b.length < 9223372036854775807 := by
  obtain ⟨L, rfl, hl, hs⟩ := typed_slice (enc := LM.G6.encR) (p := fun r : List LM.G6.Rc => r.length * 40 ≤ 2 ^ 47 ∧ ∀ y ∈ r, y.a.length < 9223372036854775807 ∧ y.b.length < 9223372036854775807) typed_rcs h
  exact ⟨L, rfl, by omega, hl⟩
theorem over_Q : LM.G6.Over (LM.lookupPrim · LM.G6.tableA) LM.G6.progQ := fun _ _ _ h => LM.G6.fn_Q h
theorem ev111A : (List.range 64).all (fun k => LM.G6.chkI (LM.pcallS (LM.lookupPrim · LM.G6.tableA) 1000 111 [.int .u64 (k : Nat)]) (LM.G6.blen 7 k)) = true := by kernel_rfl
theorem ev117A : (List.range 65).all (fun k => LM.G6.chkI (LM.pcallS (LM.lookupPrim · LM.G6.tableA) 1000 117 [.int .u64 (k : Nat)]) (LM.G6.pops 7 k)) = true := by kernel_rfl
theorem tabsA : LM.G6.Tabs (LM.lookupPrim · LM.G6.tableA) where
  len x hx := LM.pcallS_fn (LM.G6.chkI_eq (LM.G6.all_range ev111A x hx))
  pop x hx := LM.pcallS_fn (LM.G6.chkI_eq (LM.G6.all_range ev117A x (by omega)))
theorem places_law (vs : List LM.CV) (h : LM.TypedL [.slice 24 (.slice 40 (.agg [.str, .str, .int .i64])), .agg [.int .i64, .int .i64], .agg [.int .i64, .int .i64]] vs) : ∃ n, LM.pcall (LM.progL LM.G6.prog) n 8 vs = some (.bool true) := by
  rcases vs with _ | ⟨v1, _ | ⟨v2, _ | ⟨v3, _ | ⟨_, _⟩⟩⟩⟩ <;> simp only [LM.TypedL, and_true, and_false] at h
  obtain ⟨h1, h2, h3⟩ := h
  obtain ⟨L, rfl, hl, hx⟩ := typed_rounds _ h1
  simp only [LM.Typed] at h2 h3
  obtain ⟨cs, rfl, h2⟩ := h2
  rcases cs with _ | ⟨a, _ | ⟨b, _ | ⟨_, _⟩⟩⟩ <;> simp only [LM.TypedL, and_true, and_false] at h2
  obtain ⟨q1, q2⟩ := h2
  obtain ⟨a, rfl, _⟩ := typed_int q1
  obtain ⟨b, rfl, _⟩ := typed_int q2
  obtain ⟨cs, rfl, h3⟩ := h3
  rcases cs with _ | ⟨d, _ | ⟨e, _ | ⟨_, _⟩⟩⟩ <;> simp only [LM.TypedL, and_true, and_false] at h3
  obtain ⟨q3, q4⟩ := h3
  obtain ⟨d, rfl, _⟩ := typed_int q3
  obtain ⟨e, rfl, _⟩ := typed_int q4
  refine LM.fn_pcall LM.G6.readable (LM.G6.S8 LM.G6.S16 L a b d e hl (fun r hr => (hx r hr).1) ?_)
  intro h8 hlen x hl0
  obtain ⟨n, q⟩ := LM.G6.E66 over_Q rfl rfl rfl L (LM.G6.roundsE L) (LM.G6.S125 tabsA L (fun r hr => by have := hlen r hr; omega) (by omega) (fun r hr => (hx r hr).2)) (fun x => LM.G6.S126 x) (LM.G6.S127 L) (fun r => LM.G6.S128 r) x (fun h => ⟨by omega, fun r hr => by have := hlen r hr; omega, (hl0 h).2, (hl0 h).1⟩)
  exact LM.G6.g66_of q
set_option maxRecDepth 100000 in
theorem places_lifted (os : Os) (started : os.Started) (H : Type) (enc : TypeId × Value → H) :
    ReturnsInHanded {} Tryz.checked os 8 .any (Rows.startPlacesSpec.pre6 enc Tryz.prog Tryz.f8 Rows.startPlacesRow.domain false) (Rows.startPlacesSpec.post enc Tryz.prog Tryz.f8 false true false false) := by
  refine returnsInHanded_of_change_sized (C := Tryz.checked) own_knob started (by kernel_rfl) Tryz.func8
    (ChangeSpec.witness6 (enc := enc) (C := Tryz.checked) false ⟨#[], #[.slice none 0 0, .agg #[.int .i64 0, .int .i64 0], .agg #[.int .i64 0, .int .i64 0]], []⟩ 8 (by kernel_rfl) (by kernel_rfl) (by kernel_rfl) (by kernel_rfl)) ?_
  intro W base args ds gs before hval hW _ hsz _
  exact LM.law_contract LM.G6.ok laid_out maps_rowed slices_full (by decide +kernel) (cs := [.slice 24 (.slice 40 (.agg [.str, .str, .int .i64])), .agg [.int .i64, .int .i64], .agg [.int .i64, .int .i64]]) (by kernel_rfl) (tb := 4) (by kernel_rfl) (by kernel_rfl) rfl (fun ds hd => by
    have hd3 : ds.length = 3 := hd.trans (by kernel_rfl)
    rcases ds with _ | ⟨d1, _ | ⟨d2, _ | ⟨d3, _ | ⟨_, _⟩⟩⟩⟩ <;> first | rfl | simp at hd3) places_law base args ds gs before hval hW hsz
theorem startPlaces : Rows.StartPlacesSaid :=
  OpenClaim.holds_of_wide (p := Tryz.pinned) (s := Rows.startPlacesSpec) (c := Rows.startPlacesRow) 8 Tryz.f8 rfl rfl rfl rfl rfl rfl rfl ⟨rfl, rfl, rfl, rfl, rfl⟩ rfl rfl rfl rfl rfl (by kernel_rfl) Tryz.func8 (by kernel_rfl)
    (of_decide_eq_true (by kernel_rfl)) (by unfold Func.isWrapper; first | (rw [if_pos (by decide +kernel)]; kernel_rfl) | (rw [if_neg (by decide +kernel)]; exact ⟨rfl, rfl⟩))
    (fun os started H enc _ => places_lifted os started H enc)
end Go.Proofs.YtmhdmbfiiodeoaaGreat
