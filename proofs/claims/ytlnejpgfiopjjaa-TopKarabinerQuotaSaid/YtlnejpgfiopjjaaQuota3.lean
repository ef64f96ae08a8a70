/- Part 6 of what YtlnejpgfiopjjaaQuota leans on. -/
import Derived.Test.YtlnejpgfiopjjaaQuotaL1
import Derived.Test.YtlnejpgfiopjjaaQuotaL2
import Derived.Test.YtlnejpgfiopjjaaQuotaL3
import Derived.Test.YtlnejpgfiopjjaaQuota1
import Derived.Test.YtlnejpgfiopjjaaQuota2
set_option linter.all false
namespace LM.GK
open Go LM Go.Proofs Go.RowKit
def primsG : List (Nat × (List CV → Option CV)) := []
def HG : Hints := { HA with prims := primsG }
theorem prG : ∀ f g, lookupPrim f HG.prims = some g → PrimOk Try.prog f g := by
  intro f g h
  simp only [HG, primsG, lookupPrim] at h
  cases h
def tableG : List (Nat × SFunc) := [] ++ tableA.filter (fun x => !([] : List Nat).contains x.1)
set_option maxRecDepth 100000 in
theorem tabG : TabOk Try.prog HG tableG := TabOk.append trivial ((tabA.filter (fun x => !([] : List Nat).contains x.1)).prims rfl (by kernel_rfl))
def progG : Nat → Option SFunc := fun f => lookupPrim f tableG
theorem okG : ProgOk Try.prog HG (progL progG) := tab_ok tabG prG fpA mixed
theorem readG : Readable progG := tab_readable tabG
noncomputable def prims0 : List (Nat × (List CV → Option CV)) := [(7, (limP (progL progG) 7))]
noncomputable def H0 : Hints := { HA with prims := prims0 }
theorem pr0 : ∀ f g, lookupPrim f H0.prims = some g → PrimOk Try.prog f g := by
  intro f g h
  simp only [H0, prims0, lookupPrim] at h
  by_cases e : 7 = f
  · rw [if_pos e] at h; subst e; simp only [Option.some.injEq] at h; subst h; exact primOk_lim okG en7
  rw [if_neg e] at h; clear e
  cases h
set_option maxRecDepth 100000 in
theorem tab0 : TabOk Try.prog H0 table0 := TabOk.prims (H := HA) rfl (l := table0) ⟨a4, a5, a6, a8, a9, a10, a12, a13, a14, a15, a16, a17, a18, a19, a20, a21, a22, a23, a24, a25, a26, a27, a28, a29, a30, a31, a32, a33, a34, a35, a36, a37, a38, a39, a40, a41, a42, a43, a44, a45, a46, a47, a48, a49, a50, a51, a52, a53, a54, a55, a56, a57, a58, a59, a60, a61, a62, a63, a64, a65, a66, a67, a68, a69, a70, a71, a72, a73, a74, a75, a76, a77, a78, a79, a80, a81, a82, a83, a84, a85, a86, a87, trivial⟩ (by kernel_rfl)
theorem c7k : cFunc Try.prog H0 7 = decF (.prim (limP (progL progG) 7)) ∧ (decF (.prim (limP (progL progG) 7))).isSome = true := ⟨rfl, rfl⟩
noncomputable def tabP : List (Nat × SFunc) := [(7, .prim (limP (progL progG) 7))]
noncomputable def table : List (Nat × SFunc) := table0 ++ tabP
noncomputable def prog : Nat → Option SFunc := fun f => lookupPrim f table
theorem tabAll : TabOk Try.prog H0 table := tab0.append ⟨c7k, trivial⟩
theorem ok : ProgOk Try.prog H0 (progL prog) := tab_ok tabAll pr0 fpA mixed
theorem readable : Readable prog := tab_readable tabAll
instance : Has prog := ⟨fun _ _ h => lookup_append h⟩
set_option maxRecDepth 100000 in
theorem mem_prims : ∀ f, f ∈ [7] → ∃ g, prog f = some (.prim g) := by
  intro f h
  simp only [List.mem_cons, List.not_mem_nil, or_false] at h
  rcases h with rfl <;> exact ⟨_, rfl⟩
instance : HasP prog := ⟨mem_prims⟩
theorem g7_of {n : Nat} {args : List CV} {v : CV} (h : pcall (progL progG) n 7 args = some v) : fn prog 7 args = some v := limP_of h
end LM.GK
