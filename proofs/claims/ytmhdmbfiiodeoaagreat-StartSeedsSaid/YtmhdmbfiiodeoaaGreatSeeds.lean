/- StartSeeds returns true for every input, and each argument reads afterwards as it read before; no condition beyond the statement's own. -/
import Derived.Test.YtmhdmbfiiodeoaaGreatLib1
import Derived.Test.YtmhdmbfiiodeoaaGreatLib2
import Derived.Test.YtmhdmbfiiodeoaaGreatLib3
import Derived.Test.YtmhdmbfiiodeoaaGreatSeeds1
import Derived.Test.YtmhdmbfiiodeoaaGreatSeeds2
import Derived.Test.YtmhdmbfiiodeoaaGreatSeeds3
import Derived.Test.YtmhdmbfiiodeoaaGreatSeeds4
import Derived.Test.YtmhdmbfiiodeoaaGreatSeeds5
import Derived.Test.YtmhdmbfiiodeoaaGreatSeeds6
set_option linter.all false
namespace Go.Proofs.YtmhdmbfiiodeoaaGreat
open Go.ChangeShapes Go.WideShapes Go.ChangeAt Go.RowKit

theorem typed_u8 {v : LM.CV} (hv : LM.Typed (.int .u8) v) : ∃ n : Nat, v = .int .u8 n ∧ n < 256 := by
  simp only [LM.Typed] at hv
  obtain ⟨n, rfl, h⟩ := hv
  simp [Lit.wf, IntKind.min, IntKind.max, IntKind.bits, IntKind.signed] at h
  exact ⟨n.toNat, by congr 1; omega, by omega⟩

theorem seeds_law (vs : List LM.CV) (h : LM.TypedL [.int .i64, .agg [.int .u8, .int .u8]] vs) : ∃ n, LM.pcall (LM.progL LM.G6.prog) n 11 vs = some (.bool true) := by
  rcases vs with _ | ⟨v1, _ | ⟨v2, _ | ⟨_, _⟩⟩⟩ <;> simp only [LM.TypedL, and_true, and_false] at h
  obtain ⟨h1, h2⟩ := h
  obtain ⟨n, rfl, _⟩ := typed_int h1
  simp only [LM.Typed] at h2
  obtain ⟨cs, rfl, h2⟩ := h2
  rcases cs with _ | ⟨a, _ | ⟨b, _ | ⟨_, _⟩⟩⟩ <;> simp only [LM.TypedL, and_true, and_false] at h2
  obtain ⟨q1, q2⟩ := h2
  obtain ⟨a, rfl, ha⟩ := typed_u8 q1
  obtain ⟨b, rfl, hb⟩ := typed_u8 q2
  exact LM.fn_pcall LM.G6.readable (LM.G6.S11 LM.G6.S16 LM.G6.tabs n a b ha hb)

set_option maxRecDepth 100000 in
theorem seeds_lifted (os : Os) (started : os.Started) (H : Type) (enc : TypeId × Value → H) :
    ReturnsInHanded {} Tryz.checked os 11 .any (Rows.startSeedsSpec.pre6 enc Tryz.prog Tryz.f11 Rows.startSeedsRow.domain false) (Rows.startSeedsSpec.post enc Tryz.prog Tryz.f11 false true false false) := by
  refine returnsInHanded_of_change_sized (C := Tryz.checked) own_knob started (by kernel_rfl) Tryz.func11
    (ChangeSpec.witness6 (enc := enc) (C := Tryz.checked) false ⟨#[], #[.int .i64 0, .agg #[.int .u8 0, .int .u8 0]], []⟩ 8 (by kernel_rfl) (by kernel_rfl) (by kernel_rfl) (by kernel_rfl)) ?_
  intro W base args ds gs before hval hW _ hsz _
  exact LM.law_contract LM.G6.ok laid_out maps_rowed slices_full (by decide +kernel) (cs := [.int .i64, .agg [.int .u8, .int .u8]]) (by kernel_rfl) (tb := 4) (by kernel_rfl) (by kernel_rfl) rfl (fun ds hd => by
    have hd3 : ds.length = 2 := hd.trans (by kernel_rfl)
    rcases ds with _ | ⟨d1, _ | ⟨d2, _ | ⟨_, _⟩⟩⟩ <;> first | rfl | simp at hd3) seeds_law base args ds gs before hval hW hsz

theorem startSeeds : Rows.StartSeedsSaid :=
  OpenClaim.holds_of_wide (p := Tryz.pinned) (s := Rows.startSeedsSpec) (c := Rows.startSeedsRow) 11 Tryz.f11 rfl rfl rfl rfl rfl rfl rfl ⟨rfl, rfl, rfl, rfl, rfl⟩ rfl rfl rfl rfl rfl (by kernel_rfl) Tryz.func11 (by kernel_rfl)
    (of_decide_eq_true (by kernel_rfl)) (by unfold Func.isWrapper; first | (rw [if_pos (by decide +kernel)]; kernel_rfl) | (rw [if_neg (by decide +kernel)]; exact ⟨rfl, rfl⟩))
    (fun os started H enc _ => seeds_lifted os started H enc)

end Go.Proofs.YtmhdmbfiiodeoaaGreat

