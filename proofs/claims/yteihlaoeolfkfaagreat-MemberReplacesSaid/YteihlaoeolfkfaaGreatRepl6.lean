/- Part 9 of what YteihlaoeolfkfaaGreatRepl leans on. -/
import Derived.Test.YteihlaoeolfkfaaGreatReplL1
import Derived.Test.YteihlaoeolfkfaaGreatReplL2
import Derived.Test.YteihlaoeolfkfaaGreatReplL3
import Derived.Test.YteihlaoeolfkfaaGreatRepl1
import Derived.Test.YteihlaoeolfkfaaGreatRepl2
import Derived.Test.YteihlaoeolfkfaaGreatRepl3
import Derived.Test.YteihlaoeolfkfaaGreatRepl4
import Derived.Test.YteihlaoeolfkfaaGreatRepl5
set_option linter.all false
namespace LM.G9
open Go LM Go.Proofs Go.RowKit
def memoL48 : List (List CV × CV) := [([juryV 2 [], .slice [ni 1, ni 0, ni 1], ni 1], .tuple [.slice [], ni 23]), ([juryV 2 [.agg [.str [119], .str [67], .slice [.str [106,117,100,103,101], .str [115,101,116,116,101,114]], ni 2]], .slice [ni 1, ni 0, ni 1], ni 1], .tuple [.slice [ni 2, ni 0, ni 2], ni 0])]
theorem memoOk48 : MemoOk progF 48 memoL48 := ⟨⟨_, pcallS_ok readF memo4⟩, ⟨_, pcallS_ok readF memo5⟩, trivial⟩
theorem en48 : Enters Tryz.prog 48 := tab_enters a48 rfl rfl
def memoL59 : List (List CV × CV) := [([juryV 1 []], .tuple [ni 2, ni 0])]
theorem memoOk59 : MemoOk progF 59 memoL59 := ⟨⟨_, pcallS_ok readF memo0⟩, trivial⟩
theorem en59 : Enters Tryz.prog 59 := tab_enters a59 rfl rfl
def memoL60 : List (List CV × CV) := [([juryV 2 []], .tuple [ni 2, ni 0])]
theorem memoOk60 : MemoOk progF 60 memoL60 := ⟨⟨_, pcallS_ok readF memo3⟩, trivial⟩
theorem en60 : Enters Tryz.prog 60 := tab_enters a60 rfl rfl
def memoL73 : List (List CV × CV) := [([juryV 1 []], .tuple [.slice [ni 0, ni 2], ni 0])]
theorem memoOk73 : MemoOk progF 73 memoL73 := ⟨⟨_, pcallS_ok readF memo1⟩, trivial⟩
theorem en73 : Enters Tryz.prog 73 := tab_enters a73 rfl rfl
def memoL74 : List (List CV × CV) := [([juryV 2 []], .tuple [.slice [ni 1, ni 0, ni 1], ni 0])]
theorem memoOk74 : MemoOk progF 74 memoL74 := ⟨⟨_, pcallS_ok readF memo2⟩, trivial⟩
theorem en74 : Enters Tryz.prog 74 := tab_enters a74 rfl rfl
def memoL75 : List (List CV × CV) := [([juryV 2 []], .tuple [.slice [ni 1, ni 0, ni 1], ni 0])]
theorem memoOk75 : MemoOk progF 75 memoL75 := ⟨⟨_, pcallS_ok readF memo6⟩, trivial⟩
theorem en75 : Enters Tryz.prog 75 := tab_enters a75 rfl rfl
def primsG : List (Nat × (List CV → Option CV)) := [(18, (fun args => pcall progQ 3000 18 args)), (19, (fun args => pcall progQ 3000 19 args)), (48, (memoP memoL48)), (59, (memoP memoL59)), (60, (memoP memoL60)), (73, (memoP memoL73)), (74, (memoP memoL74)), (75, (memoP memoL75))]
def HG : Hints := { HA with prims := primsG }
theorem prG : ∀ f g, lookupPrim f HG.prims = some g → PrimOk Tryz.prog f g := by
 intro f g h
 simp only [HG, primsG, lookupPrim] at h
 by_cases e : 18 = f
 ·rw [if_pos e] at h; subst e; simp only [Option.some.injEq] at h; subst h; exact primOk_of_pcall okA en18
 rw [if_neg e] at h; clear e
 by_cases e : 19 = f
 ·rw [if_pos e] at h; subst e; simp only [Option.some.injEq] at h; subst h; exact primOk_of_pcall okA en19
 rw [if_neg e] at h; clear e
 by_cases e : 48 = f
 ·rw [if_pos e] at h; subst e; simp only [Option.some.injEq] at h; subst h; exact primOk_memo okF en48 memoOk48
 rw [if_neg e] at h; clear e
 by_cases e : 59 = f
 ·rw [if_pos e] at h; subst e; simp only [Option.some.injEq] at h; subst h; exact primOk_memo okF en59 memoOk59
 rw [if_neg e] at h; clear e
 by_cases e : 60 = f
 ·rw [if_pos e] at h; subst e; simp only [Option.some.injEq] at h; subst h; exact primOk_memo okF en60 memoOk60
 rw [if_neg e] at h; clear e
 by_cases e : 73 = f
 ·rw [if_pos e] at h; subst e; simp only [Option.some.injEq] at h; subst h; exact primOk_memo okF en73 memoOk73
 rw [if_neg e] at h; clear e
 by_cases e : 74 = f
 ·rw [if_pos e] at h; subst e; simp only [Option.some.injEq] at h; subst h; exact primOk_memo okF en74 memoOk74
 rw [if_neg e] at h; clear e
 by_cases e : 75 = f
 ·rw [if_pos e] at h; subst e; simp only [Option.some.injEq] at h; subst h; exact primOk_memo okF en75 memoOk75
 rw [if_neg e] at h; clear e
 cases h
def tableG : List (Nat × SFunc) := [(18, .prim (fun args => pcall progQ 3000 18 args)), (19, .prim (fun args => pcall progQ 3000 19 args)), (48, .prim (memoP memoL48)), (59, .prim (memoP memoL59)), (60, .prim (memoP memoL60)), (73, .prim (memoP memoL73)), (74, .prim (memoP memoL74)), (75, .prim (memoP memoL75))] ++ tableA.filter (fun x => !([48, 59, 60, 73, 74, 75] : List Nat).contains x.1)
set_option maxRecDepth 100000 in
theorem tabG : TabOk Tryz.prog HG tableG := TabOk.append ⟨⟨rfl, rfl⟩, ⟨rfl, rfl⟩, ⟨rfl, rfl⟩, ⟨rfl, rfl⟩, ⟨rfl, rfl⟩, ⟨rfl, rfl⟩, ⟨rfl, rfl⟩, ⟨rfl, rfl⟩, trivial⟩ ((tabA.filter (fun x => !([48, 59, 60, 73, 74, 75] : List Nat).contains x.1)).prims rfl (by kernel_rfl))
def progG : Nat → Option SFunc := fun f => lookupPrim f tableG
theorem okG : ProgOk Tryz.prog HG (progL progG) := tab_ok tabG prG fpA mixed
theorem readG : Readable progG := tab_readable tabG
noncomputable def prims0 : List (Nat × (List CV → Option CV)) := [(14, (limP (progL progG) 14)), (18, (limP progQ 18)), (19, (limP progQ 19))]
noncomputable def H0 : Hints := { HA with prims := prims0 }
theorem pr0 : ∀ f g, lookupPrim f H0.prims = some g → PrimOk Tryz.prog f g := by
 intro f g h
 simp only [H0, prims0, lookupPrim] at h
 by_cases e : 14 = f
 ·rw [if_pos e] at h; subst e; simp only [Option.some.injEq] at h; subst h; exact primOk_lim okG en14
 rw [if_neg e] at h; clear e
 by_cases e : 18 = f
 ·rw [if_pos e] at h; subst e; simp only [Option.some.injEq] at h; subst h; exact primOk_lim okA en18
 rw [if_neg e] at h; clear e
 by_cases e : 19 = f
 ·rw [if_pos e] at h; subst e; simp only [Option.some.injEq] at h; subst h; exact primOk_lim okA en19
 rw [if_neg e] at h; clear e
 cases h
set_option maxRecDepth 100000 in
theorem tab0 : TabOk Tryz.prog H0 table0 := TabOk.prims (H := HA) rfl (l := table0) ⟨a6, a17, a20, a21, a22, a30, a33, a34, a39, a40, a41, a42, a43, a44, a45, a46, a47, a48, a49, a50, a54, a55, a56, a57, a58, a59, a60, a64, a65, a66, a71, a72, a73, a74, a75, a76, a77, a78, a79, a80, a81, a82, a83, a84, a85, a86, a87, a88, a89, a90, a91, a92, a93, a94, a95, a99, a100, a101, a102, a103, a104, a105, a106, a107, a108, a109, a110, a111, a112, a113, a114, a115, a116, a117, a118, a119, a120, a121, a123, a124, a125, a126, a127, a128, a129, a130, a131, a132, a134, a135, a136, a137, a138, a139, a140, a141, a142, a143, a144, a145, a146, a147, a148, a149, a150, a151, a152, a153, a154, a155, a156, a157, a158, a159, a160, a161, a162, a163, a164, a165, a166, a167, a168, trivial⟩ (by kernel_rfl)
theorem c14k : cFunc Tryz.prog H0 14 = decF (.prim (limP (progL progG) 14)) ∧ (decF (.prim (limP (progL progG) 14))).isSome = true := ⟨rfl, rfl⟩
theorem c18k : cFunc Tryz.prog H0 18 = decF (.prim (limP progQ 18)) ∧ (decF (.prim (limP progQ 18))).isSome = true := ⟨rfl, rfl⟩
theorem c19k : cFunc Tryz.prog H0 19 = decF (.prim (limP progQ 19)) ∧ (decF (.prim (limP progQ 19))).isSome = true := ⟨rfl, rfl⟩
noncomputable def tabP : List (Nat × SFunc) := [(14, .prim (limP (progL progG) 14)), (18, .prim (limP progQ 18)), (19, .prim (limP progQ 19))]
noncomputable def table : List (Nat × SFunc) := table0 ++ tabP
noncomputable def prog : Nat → Option SFunc := fun f => lookupPrim f table
theorem tabAll : TabOk Tryz.prog H0 table := tab0.append ⟨c14k, c18k, c19k, trivial⟩
theorem ok : ProgOk Tryz.prog H0 (progL prog) := tab_ok tabAll pr0 fpA mixed
theorem readable : Readable prog := tab_readable tabAll
instance : Has prog := ⟨fun _ _ h => lookup_append h⟩
set_option maxRecDepth 100000 in
theorem mem_prims : ∀ f, f ∈ [14, 18, 19] → ∃ g, prog f = some (.prim g) := by
 intro f h
 simp only [List.mem_cons, List.not_mem_nil, or_false] at h
 rcases h with rfl | rfl | rfl <;> exact ⟨_, rfl⟩
instance : HasP prog := ⟨mem_prims⟩
theorem g14_of {n : Nat} {args : List CV} {v : CV} (h : pcall (progL progG) n 14 args = some v) : fn prog 14 args = some v := limP_of h
theorem g18_of {n : Nat} {args : List CV} {v : CV} (h : pcall progQ n 18 args = some v) : fn prog 18 args = some v := limP_of h
theorem g19_of {n : Nat} {args : List CV} {v : CV} (h : pcall progQ n 19 args = some v) : fn prog 19 args = some v := limP_of h
end LM.G9
