/- StartGoes returns true for every input, and each argument reads afterwards as it read before; no condition beyond the statement's own. -/
import Derived.Test.YtmhdmbfiiodeoaaGreatGoesL1
import Derived.Test.YtmhdmbfiiodeoaaGreatGoesL2
import Derived.Test.YtmhdmbfiiodeoaaGreatGoesL3
import Derived.Test.YtmhdmbfiiodeoaaGreatGoes1
import Derived.Test.YtmhdmbfiiodeoaaGreatGoes2
import Derived.Test.YtmhdmbfiiodeoaaGreatGoes3
import Derived.Test.YtmhdmbfiiodeoaaGreatGoes4
import Derived.Test.YtmhdmbfiiodeoaaGreatGoes5
import Derived.Test.YtmhdmbfiiodeoaaGreatGoes6
set_option linter.all false
namespace Go.Proofs.YtmhdmbfiiodeoaaGreat
open Go.ChangeShapes Go.WideShapes Go.ChangeAt Go.RowKit
theorem typed_ints (x : LM.CV) (h : LM.Typed (.slice 8 (.int .i64)) x) : ∃ l : List Int, x = .slice (l.map LM.ci) ∧ (l.length : Int) < 9223372036854775807 := by
  obtain ⟨l, rfl, _, hs⟩ := typed_slice (enc := LM.ci) (p := fun _ : Int => True) (fun x hx => by obtain ⟨n, rfl, _⟩ := typed_int hx; exact ⟨n, rfl, trivial⟩) h
  exact ⟨l, rfl, by omega⟩
theorem typed_rs1 (x : LM.CV) (h : LM.Typed (.agg [.str, .str, .slice 8 (.int .i64)]) x) : ∃ r : LM.G6.Rs, x = r.enc ∧ r.ok := by
  simp only [LM.Typed] at h
  obtain ⟨cs, rfl, h⟩ := h
  rcases cs with _ | ⟨a, _ | ⟨b, _ | ⟨c, _ | ⟨_, _⟩⟩⟩⟩ <;> simp only [LM.TypedL, and_true, and_false] at h
  obtain ⟨q1, q2, q3⟩ := h
  obtain ⟨a, rfl, ha⟩ := typed_str q1
  obtain ⟨b, rfl, hb⟩ := typed_str q2
  obtain ⟨w, rfl, hw⟩ := typed_ints _ q3
  exact ⟨⟨a, b, w⟩, rfl, ha, hb, hw⟩
theorem typed_rss (x : LM.CV) (h : LM.Typed (.slice 56 (.agg [.str, .str, .slice 8 (.int .i64)])) x) : ∃ l : List LM.G6.Rs, x = .slice (l.map LM.G6.Rs.enc) ∧ (l.length : Int) < 9223372036854775807 ∧ ∀ y ∈ l, y.ok := by
  obtain ⟨l, rfl, hl, hs⟩ := typed_slice (p := LM.G6.Rs.ok) typed_rs1 h
  exact ⟨l, rfl, by omega, hl⟩
theorem typed_u8 {v : LM.CV} (hv : LM.Typed (.int .u8) v) : ∃ n : Nat, v = .int .u8 n ∧ n < 256 := by
  simp only [LM.Typed] at hv
  obtain ⟨n, rfl, h⟩ := hv
  simp [Lit.wf, IntKind.min, IntKind.max, IntKind.bits, IntKind.signed] at h
  exact ⟨n.toNat, by congr 1; omega, by omega⟩
theorem goes_law (vs : List LM.CV) (h : LM.TypedL [.slice 56 (.agg [.str, .str, .slice 8 (.int .i64)]), .int .i64, .agg [.int .u8, .int .u8]] vs) : ∃ n, LM.pcall (LM.progL LM.G6.prog) n 14 vs = some (.bool true) := by
  rcases vs with _ | ⟨v1, _ | ⟨v2, _ | ⟨v3, _ | ⟨_, _⟩⟩⟩⟩ <;> simp only [LM.TypedL, and_true, and_false] at h
  obtain ⟨h1, h2, h3⟩ := h
  obtain ⟨l, rfl, hl, hx⟩ := typed_rss _ h1
  obtain ⟨q, rfl, _⟩ := typed_int h2
  simp only [LM.Typed] at h3
  obtain ⟨cs, rfl, h3⟩ := h3
  rcases cs with _ | ⟨a, _ | ⟨b, _ | ⟨_, _⟩⟩⟩ <;> simp only [LM.TypedL, and_true, and_false] at h3
  obtain ⟨q1, q2⟩ := h3
  obtain ⟨a, rfl, ha⟩ := typed_u8 q1
  obtain ⟨b, rfl, hb⟩ := typed_u8 q2
  exact LM.fn_pcall LM.G6.readable (LM.G6.S14 LM.G6.S16 l q a b ha hb hx hl)
set_option maxRecDepth 100000 in
theorem goes_lifted (os : Os) (started : os.Started) (H : Type) (enc : TypeId × Value → H) :
    ReturnsInHanded {} Tryz.checked os 14 .any (Rows.startGoesSpec.pre6 enc Tryz.prog Tryz.f14 Rows.startGoesRow.domain false) (Rows.startGoesSpec.post enc Tryz.prog Tryz.f14 false true false false) := by
  refine returnsInHanded_of_change_sized (C := Tryz.checked) own_knob started (by kernel_rfl) Tryz.func14
    (ChangeSpec.witness6 (enc := enc) (C := Tryz.checked) false ⟨#[], #[.slice none 0 0, .int .i64 0, .agg #[.int .u8 0, .int .u8 0]], []⟩ 8 (by kernel_rfl) (by kernel_rfl) (by kernel_rfl) (by kernel_rfl)) ?_
  intro W base args ds gs before hval hW _ hsz _
  exact LM.law_contract LM.G6.ok laid_out maps_rowed slices_full (by decide +kernel) (cs := [.slice 56 (.agg [.str, .str, .slice 8 (.int .i64)]), .int .i64, .agg [.int .u8, .int .u8]]) (by kernel_rfl) (tb := 4) (by kernel_rfl) (by kernel_rfl) rfl (fun ds hd => by
    have hd3 : ds.length = 3 := hd.trans (by kernel_rfl)
    rcases ds with _ | ⟨d1, _ | ⟨d2, _ | ⟨d3, _ | ⟨_, _⟩⟩⟩⟩ <;> first | rfl | simp at hd3) goes_law base args ds gs before hval hW hsz
theorem startGoes : Rows.StartGoesSaid :=
  OpenClaim.holds_of_wide (p := Tryz.pinned) (s := Rows.startGoesSpec) (c := Rows.startGoesRow) 14 Tryz.f14 rfl rfl rfl rfl rfl rfl rfl ⟨rfl, rfl, rfl, rfl, rfl⟩ rfl rfl rfl rfl rfl (by kernel_rfl) Tryz.func14 (by kernel_rfl)
    (of_decide_eq_true (by kernel_rfl)) (by unfold Func.isWrapper; first | (rw [if_pos (by decide +kernel)]; kernel_rfl) | (rw [if_neg (by decide +kernel)]; exact ⟨rfl, rfl⟩))
    (fun os started H enc _ => goes_lifted os started H enc)
end Go.Proofs.YtmhdmbfiiodeoaaGreat
