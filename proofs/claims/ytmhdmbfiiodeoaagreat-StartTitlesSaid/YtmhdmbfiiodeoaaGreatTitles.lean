/- StartTitles returns true for every input, and each argument reads afterwards as it read before; no condition beyond the statement's own. -/
import Derived.Test.YtmhdmbfiiodeoaaGreatTitlesL1
import Derived.Test.YtmhdmbfiiodeoaaGreatTitlesL2
import Derived.Test.YtmhdmbfiiodeoaaGreatTitlesL3
import Derived.Test.YtmhdmbfiiodeoaaGreatTitles1
import Derived.Test.YtmhdmbfiiodeoaaGreatTitles2
import Derived.Test.YtmhdmbfiiodeoaaGreatTitles3
import Derived.Test.YtmhdmbfiiodeoaaGreatTitles4
import Derived.Test.YtmhdmbfiiodeoaaGreatTitles5
import Derived.Test.YtmhdmbfiiodeoaaGreatTitles6
set_option linter.all false
namespace Go.Proofs.YtmhdmbfiiodeoaaGreat
open Go.ChangeShapes Go.WideShapes Go.ChangeAt Go.RowKit
theorem typed_strs (x : LM.CV) (h : LM.Typed (.slice 16 .str) x) : ∃ l : List LM.Str, x = .slice (l.map LM.CV.str) ∧ (l.length : Int) < 9223372036854775807 ∧ ∀ y ∈ l, y.length < 9223372036854775807 := by
  obtain ⟨l, rfl, hl, hs⟩ := typed_slice (p := fun y : LM.Str => y.length < 9223372036854775807) (fun x hx => typed_str hx) h
  exact ⟨l, rfl, by omega, hl⟩
theorem typed_u8 (v : LM.CV) (hv : LM.Typed (.int .u8) v) : ∃ n : Nat, v = LM.G6.u8C n ∧ n < 256 := by
  simp only [LM.Typed] at hv
  obtain ⟨n, rfl, h⟩ := hv
  simp [Lit.wf, IntKind.min, IntKind.max, IntKind.bits, IntKind.signed] at h
  exact ⟨n.toNat, by congr 1; omega, by omega⟩
theorem typed_u8s (x : LM.CV) (h : LM.Typed (.slice 1 (.int .u8)) x) : ∃ l : List Nat, x = .slice (l.map LM.G6.u8C) ∧ (l.length : Int) < 9223372036854775807 := by
  obtain ⟨l, rfl, hl, hs⟩ := typed_slice (p := fun y : Nat => y < 256) typed_u8 h
  exact ⟨l, rfl, by omega⟩
theorem over_Q : LM.G6.Over (LM.lookupPrim · LM.G6.tableA) LM.G6.progQ := fun _ _ _ h => LM.G6.fn_Q h
theorem ev111A : (List.range 64).all (fun k => LM.G6.chkI (LM.pcallS (LM.lookupPrim · LM.G6.tableA) 1000 111 [.int .u64 (k : Nat)]) (LM.G6.blen 7 k)) = true := by kernel_rfl
theorem ev117A : (List.range 65).all (fun k => LM.G6.chkI (LM.pcallS (LM.lookupPrim · LM.G6.tableA) 1000 117 [.int .u64 (k : Nat)]) (LM.G6.pops 7 k)) = true := by kernel_rfl
theorem tabsA : LM.G6.Tabs (LM.lookupPrim · LM.G6.tableA) where
  len x hx := LM.pcallS_fn (LM.G6.chkI_eq (LM.G6.all_range ev111A x hx))
  pop x hx := LM.pcallS_fn (LM.G6.chkI_eq (LM.G6.all_range ev117A x (by omega)))
theorem titles_law (vs : List LM.CV) (h : LM.TypedL [.slice 16 .str, .slice 1 (.int .u8)] vs) : ∃ n, LM.pcall (LM.progL LM.G6.prog) n 12 vs = some (.bool true) := by
  rcases vs with _ | ⟨v1, _ | ⟨v2, _ | ⟨_, _⟩⟩⟩ <;> simp only [LM.TypedL, and_true, and_false] at h
  obtain ⟨h1, h2⟩ := h
  obtain ⟨names, rfl, hN, hx⟩ := typed_strs _ h1
  obtain ⟨dec, rfl, hD⟩ := typed_u8s _ h2
  refine LM.fn_pcall LM.G6.readable (LM.G6.S12 LM.G6.S16 LM.G6.tabs names dec hN hx hD ?_)
  intro L x hR hlast hgood hs
  obtain ⟨h0, h6, _, _⟩ := LM.G6.rounds_ok hR
  have hlen : ∀ r ∈ L, r.length < 500 := fun r hr => by have := LM.G6.good_pos (hgood r hr); omega
  obtain ⟨n, q⟩ := LM.G6.E66 over_Q rfl rfl rfl L (LM.G6.roundsE L) (LM.G6.S125 tabsA L hlen (by omega) hs) (fun x => LM.G6.S126 x) (LM.G6.S127 L) (fun r => LM.G6.S128 r) x (fun h => ⟨by omega, fun r hr => by have := hlen r hr; omega, by rw [← List.getLast?_eq_getElem?]; exact hlast, h0⟩)
  rw [if_pos hR] at q
  exact LM.G6.g66_of q
set_option maxRecDepth 100000 in
theorem titles_lifted (os : Os) (started : os.Started) (H : Type) (enc : TypeId × Value → H) :
    ReturnsInHanded {} Tryz.checked os 12 .any (Rows.startTitlesSpec.pre6 enc Tryz.prog Tryz.f12 Rows.startTitlesRow.domain false) (Rows.startTitlesSpec.post enc Tryz.prog Tryz.f12 false true false false) := by
  refine returnsInHanded_of_change_sized (C := Tryz.checked) own_knob started (by kernel_rfl) Tryz.func12
    (ChangeSpec.witness6 (enc := enc) (C := Tryz.checked) false ⟨#[], #[.slice none 0 0, .slice none 0 0], []⟩ 8 (by kernel_rfl) (by kernel_rfl) (by kernel_rfl) (by kernel_rfl)) ?_
  intro W base args ds gs before hval hW _ hsz _
  exact LM.law_contract LM.G6.ok laid_out maps_rowed slices_full (by decide +kernel) (cs := [.slice 16 .str, .slice 1 (.int .u8)]) (by kernel_rfl) (tb := 4) (by kernel_rfl) (by kernel_rfl) rfl (fun ds hd => by
    have hd3 : ds.length = 2 := hd.trans (by kernel_rfl)
    rcases ds with _ | ⟨d1, _ | ⟨d2, _ | ⟨_, _⟩⟩⟩ <;> first | rfl | simp at hd3) titles_law base args ds gs before hval hW hsz
theorem startTitles : Rows.StartTitlesSaid :=
  OpenClaim.holds_of_wide (p := Tryz.pinned) (s := Rows.startTitlesSpec) (c := Rows.startTitlesRow) 12 Tryz.f12 rfl rfl rfl rfl rfl rfl rfl ⟨rfl, rfl, rfl, rfl, rfl⟩ rfl rfl rfl rfl rfl (by kernel_rfl) Tryz.func12 (by kernel_rfl)
    (of_decide_eq_true (by kernel_rfl)) (by unfold Func.isWrapper; first | (rw [if_pos (by decide +kernel)]; kernel_rfl) | (rw [if_neg (by decide +kernel)]; exact ⟨rfl, rfl⟩))
    (fun os started H enc _ => titles_lifted os started H enc)
end Go.Proofs.YtmhdmbfiiodeoaaGreat
