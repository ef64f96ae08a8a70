/- Part 7 of what YtmhdmbfiiodeoaaGreatTitles leans on. -/
import Derived.Test.YtmhdmbfiiodeoaaGreatTitlesL1
import Derived.Test.YtmhdmbfiiodeoaaGreatTitlesL2
import Derived.Test.YtmhdmbfiiodeoaaGreatTitlesL3
import Derived.Test.YtmhdmbfiiodeoaaGreatTitles1
import Derived.Test.YtmhdmbfiiodeoaaGreatTitles2
import Derived.Test.YtmhdmbfiiodeoaaGreatTitles3
set_option linter.all false
namespace LM.G6
open Go LM Go.Proofs Go.RowKit
def primsG : List (Nat × (List CV → Option CV)) := [(66, (fun args => pcall progQ 3000 66 args))]
def HG : Hints := { HA with prims := primsG }
theorem prG : ∀ f g, lookupPrim f HG.prims = some g → PrimOk Tryz.prog f g := by
  intro f g h
  simp only [HG, primsG, lookupPrim] at h
  by_cases e : 66 = f
  · rw [if_pos e] at h; subst e; simp only [Option.some.injEq] at h; subst h; exact primOk_of_pcall okA en66
  rw [if_neg e] at h; clear e
  cases h
def tableG : List (Nat × SFunc) := [(66, .prim (fun args => pcall progQ 3000 66 args))] ++ tableA.filter (fun x => !([] : List Nat).contains x.1)
set_option maxRecDepth 100000 in
theorem tabG : TabOk Tryz.prog HG tableG := TabOk.append ⟨⟨rfl, rfl⟩, trivial⟩ ((tabA.filter (fun x => !([] : List Nat).contains x.1)).prims rfl (by kernel_rfl))
def progG : Nat → Option SFunc := fun f => lookupPrim f tableG
theorem okG : ProgOk Tryz.prog HG (progL progG) := tab_ok tabG prG fpA mixed
theorem readG : Readable progG := tab_readable tabG
noncomputable def prims0 : List (Nat × (List CV → Option CV)) := [(16, (limP (progL progG) 16)), (66, (limP progQ 66))]
noncomputable def H0 : Hints := { HA with prims := prims0 }
theorem pr0 : ∀ f g, lookupPrim f H0.prims = some g → PrimOk Tryz.prog f g := by
  intro f g h
  simp only [H0, prims0, lookupPrim] at h
  by_cases e : 16 = f
  · rw [if_pos e] at h; subst e; simp only [Option.some.injEq] at h; subst h; exact primOk_lim okG en16
  rw [if_neg e] at h; clear e
  by_cases e : 66 = f
  · rw [if_pos e] at h; subst e; simp only [Option.some.injEq] at h; subst h; exact primOk_lim okA en66
  rw [if_neg e] at h; clear e
  cases h
set_option maxRecDepth 100000 in
theorem tab0 : TabOk Tryz.prog H0 table0 := TabOk.prims (H := HA) rfl (l := table0) ⟨a8, a12, a19, a20, a21, a22, a23, a28, a29, a32, a33, a34, a35, a39, a40, a45, a46, a50, a51, a54, a55, a56, a57, a58, a59, a60, a61, a63, a64, a65, a67, a68, a69, a70, a73, a74, a75, a80, a81, a82, a83, a84, a85, a86, a87, a88, a89, a90, a91, a92, a93, a94, a95, a96, a100, a101, a102, a103, a104, a105, a106, a107, a108, a109, a110, a111, a112, a113, a114, a115, a116, a117, a118, a119, a120, a121, a122, a124, a125, a126, a127, a128, a129, a131, a132, a133, a134, a135, a136, a137, a138, a140, a141, a142, a143, a144, a145, a146, a147, a148, a149, a150, a151, a152, a153, a154, a157, a158, a159, a160, a161, a162, a163, a164, a165, a166, a167, a168, a169, a170, a171, a172, a173, a174, a175, a176, a177, trivial⟩ (by kernel_rfl)
theorem c16k : cFunc Tryz.prog H0 16 = decF (.prim (limP (progL progG) 16)) ∧ (decF (.prim (limP (progL progG) 16))).isSome = true := ⟨rfl, rfl⟩
theorem c66k : cFunc Tryz.prog H0 66 = decF (.prim (limP progQ 66)) ∧ (decF (.prim (limP progQ 66))).isSome = true := ⟨rfl, rfl⟩
noncomputable def tabP : List (Nat × SFunc) := [(16, .prim (limP (progL progG) 16)), (66, .prim (limP progQ 66))]
noncomputable def table : List (Nat × SFunc) := table0 ++ tabP
/-- The program. -/
noncomputable def prog : Nat → Option SFunc := fun f => lookupPrim f table
theorem tabAll : TabOk Tryz.prog H0 table := tab0.append ⟨c16k, c66k, trivial⟩
theorem ok : ProgOk Tryz.prog H0 (progL prog) := tab_ok tabAll pr0 fpA mixed
theorem readable : Readable prog := tab_readable tabAll
instance : Has prog := ⟨fun _ _ h => lookup_append h⟩
set_option maxRecDepth 100000 in
theorem mem_prims : ∀ f, f ∈ [16, 66] → ∃ g, prog f = some (.prim g) := by
  intro f h
  simp only [List.mem_cons, List.not_mem_nil, or_false] at h
  rcases h with rfl | rfl <;> exact ⟨_, rfl⟩
instance : HasP prog := ⟨mem_prims⟩
theorem g16_of {n : Nat} {args : List CV} {v : CV} (h : pcall (progL progG) n 16 args = some v) : fn prog 16 args = some v := limP_of h
theorem g66_of {n : Nat} {args : List CV} {v : CV} (h : pcall progQ n 66 args = some v) : fn prog 66 args = some v := limP_of h
end LM.G6
