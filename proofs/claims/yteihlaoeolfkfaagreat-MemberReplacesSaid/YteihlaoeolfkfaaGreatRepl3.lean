/- Part 6 of what YteihlaoeolfkfaaGreatRepl leans on. -/
import Derived.Test.YteihlaoeolfkfaaGreatChecked
import Derived.KernelRfl
import Derived.WalkKit
import Derived.WalkSpells
import Derived.WalkLawsBesides
import Derived.Test.YteihlaoeolfkfaaGreatReplL1
import Derived.Test.YteihlaoeolfkfaaGreatReplL2
import Derived.Test.YteihlaoeolfkfaaGreatReplL3
import Derived.Test.YteihlaoeolfkfaaGreatRepl1
import Derived.Test.YteihlaoeolfkfaaGreatRepl2
set_option linter.all false
namespace LM.G9
open Go LM Go.Proofs Go.RowKit
def HC : Hints := { fresh := [(141, 1), (155, 1), (156, 1), (157, 1)] }
def progC : List (Nat × LFunc) := [(141, cloneF none 8 [(.c (.int .i64 0))]), (155, cloneF (some 4) 64 [(.c (.str [])), (.c (.str [])), .nil, (.c (.int .i64 0))]), (156, cloneF (some 4) 64 [(.c (.str [])), (.c (.str [])), (.c (.int .i64 0)), .nil]), (157, cloneF none 16 [(.c (.str []))])]
theorem mixed : Tryz.prog.follows .mixedOrders = true := by kernel_rfl
theorem k141 : cFunc Tryz.prog HC 141 = some (cloneF none 8 [(.c (.int .i64 0))]) := by kernel_rfl
theorem k155 : cFunc Tryz.prog HC 155 = some (cloneF (some 4) 64 [(.c (.str [])), (.c (.str [])), .nil, (.c (.int .i64 0))]) := by kernel_rfl
theorem k156 : cFunc Tryz.prog HC 156 = some (cloneF (some 4) 64 [(.c (.str [])), (.c (.str [])), (.c (.int .i64 0)), .nil]) := by kernel_rfl
theorem k157 : cFunc Tryz.prog HC 157 = some (cloneF none 16 [(.c (.str []))]) := by kernel_rfl
theorem okC : ProgOk Tryz.prog HC (mixL progC []) := mix_ok (L := progC) (S := []) ⟨k141, k155, k156, k157, trivial⟩ trivial (fun _ _ h => by simp [HC, lookupPrim] at h) (fun _ _ _ h => by simp [HC, lookupPrim] at h) mixed
set_option maxRecDepth 100000 in
set_option maxHeartbeats 4000000 in
theorem nil141 (c : Nat) (w : World) : Calls Tryz.prog 141 #[.slice none 0 c] w fun e w' => e = .returned (.slice none 0 0) ∧ w' = w := by
 go_enter Tryz.func141, Tryz.ntmps141
 go_wp2
 simp only [binOp, Sem.run_bind, LM.equal_nil Tryz.underlying69, Result.andThen_ok, Sem.run_pure, Option.isNone]
 go_wp2
 all_goals go_ret
 all_goals exact ⟨rfl, rfl⟩
set_option maxRecDepth 100000 in
set_option maxHeartbeats 4000000 in
theorem emp141 (a : Addr) (c : Nat) (w : World) : Calls Tryz.prog 141 #[.slice (some a) 0 c] w fun e w' => ∃ a', e = .returned (.slice a' 0 0) ∧ ∃ o, w' = w.alloc o := by
 go_enter Tryz.func141, Tryz.ntmps141
 go_wp2
 simp only [binOp, Sem.run_bind, LM.equal_nil Tryz.underlying69, Result.andThen_ok, Sem.run_pure, Option.isNone]
 go_wp2
 go_ret
 exact ⟨_, rfl, _, rfl⟩
theorem fok141 : FprimOk Tryz.prog 141 (cloneP none 8) := clone_fprim (cFunc_enters k141) okC (f := 141) (prog := mixL progC []) rfl nil141 emp141
set_option maxRecDepth 100000 in
set_option maxHeartbeats 4000000 in
theorem nil155 (c : Nat) (w : World) : Calls Tryz.prog 155 #[.slice none 0 c] w fun e w' => e = .returned (.slice none 0 0) ∧ w' = w := by
 go_enter Tryz.func155, Tryz.ntmps155
 go_wp2
 simp only [binOp, Sem.run_bind, LM.equal_nil Tryz.underlying65, Result.andThen_ok, Sem.run_pure, Option.isNone]
 go_wp2
 all_goals go_ret
 all_goals exact ⟨rfl, rfl⟩
set_option maxRecDepth 100000 in
set_option maxHeartbeats 4000000 in
theorem emp155 (a : Addr) (c : Nat) (w : World) : Calls Tryz.prog 155 #[.slice (some a) 0 c] w fun e w' => ∃ a', e = .returned (.slice a' 0 0) ∧ ∃ o, w' = w.alloc o := by
 go_enter Tryz.func155, Tryz.ntmps155
 go_wp2
 simp only [binOp, Sem.run_bind, LM.equal_nil Tryz.underlying65, Result.andThen_ok, Sem.run_pure, Option.isNone]
 go_wp2
 go_ret
 exact ⟨_, rfl, _, rfl⟩
theorem fok155 : FprimOk Tryz.prog 155 (cloneP (some 4) 64) := clone_fprim (cFunc_enters k155) okC (f := 155) (prog := mixL progC []) rfl nil155 emp155
set_option maxRecDepth 100000 in
set_option maxHeartbeats 4000000 in
theorem nil156 (c : Nat) (w : World) : Calls Tryz.prog 156 #[.slice none 0 c] w fun e w' => e = .returned (.slice none 0 0) ∧ w' = w := by
 go_enter Tryz.func156, Tryz.ntmps156
 go_wp2
 simp only [binOp, Sem.run_bind, LM.equal_nil Tryz.underlying66, Result.andThen_ok, Sem.run_pure, Option.isNone]
 go_wp2
 all_goals go_ret
 all_goals exact ⟨rfl, rfl⟩
set_option maxRecDepth 100000 in
set_option maxHeartbeats 4000000 in
theorem emp156 (a : Addr) (c : Nat) (w : World) : Calls Tryz.prog 156 #[.slice (some a) 0 c] w fun e w' => ∃ a', e = .returned (.slice a' 0 0) ∧ ∃ o, w' = w.alloc o := by
 go_enter Tryz.func156, Tryz.ntmps156
 go_wp2
 simp only [binOp, Sem.run_bind, LM.equal_nil Tryz.underlying66, Result.andThen_ok, Sem.run_pure, Option.isNone]
 go_wp2
 go_ret
 exact ⟨_, rfl, _, rfl⟩
theorem fok156 : FprimOk Tryz.prog 156 (cloneP (some 4) 64) := clone_fprim (cFunc_enters k156) okC (f := 156) (prog := mixL progC []) rfl nil156 emp156
set_option maxRecDepth 100000 in
set_option maxHeartbeats 4000000 in
theorem nil157 (c : Nat) (w : World) : Calls Tryz.prog 157 #[.slice none 0 c] w fun e w' => e = .returned (.slice none 0 0) ∧ w' = w := by
 go_enter Tryz.func157, Tryz.ntmps157
 go_wp2
 simp only [binOp, Sem.run_bind, LM.equal_nil Tryz.underlying44, Result.andThen_ok, Sem.run_pure, Option.isNone]
 go_wp2
 all_goals go_ret
 all_goals exact ⟨rfl, rfl⟩
set_option maxRecDepth 100000 in
set_option maxHeartbeats 4000000 in
theorem emp157 (a : Addr) (c : Nat) (w : World) : Calls Tryz.prog 157 #[.slice (some a) 0 c] w fun e w' => ∃ a', e = .returned (.slice a' 0 0) ∧ ∃ o, w' = w.alloc o := by
 go_enter Tryz.func157, Tryz.ntmps157
 go_wp2
 simp only [binOp, Sem.run_bind, LM.equal_nil Tryz.underlying44, Result.andThen_ok, Sem.run_pure, Option.isNone]
 go_wp2
 go_ret
 exact ⟨_, rfl, _, rfl⟩
theorem fok157 : FprimOk Tryz.prog 157 (cloneP none 16) := clone_fprim (cFunc_enters k157) okC (f := 157) (prog := mixL progC []) rfl nil157 emp157
def HA : Hints := { shared := [93, 136, 143, 152, 153, 158, 159, 167, 168, 133], fresh := [(90, 2), (72, 30), (131, 4), (120, 4)], noGc := [(133, 1), (37, 5), (114, 10), (142, 4), (142, 9)], oneLit := [(114, 46), (114, 75)], openLit := [(37, 64), (37, 77), (114, 27), (114, 43), (114, 71)], fprims := [(141, 1, cloneP none 8), (155, 1, cloneP (some 4) 64), (156, 1, cloneP (some 4) 64), (157, 1, cloneP none 16)] }
theorem fpA : ∀ f k g, lookupPrim f HA.fprims = some (k, g) → FprimOk Tryz.prog f g := by
 intro f k g h
 simp only [HA, lookupPrim] at h
 by_cases e : 141 = f
 ·rw [if_pos e] at h; subst e; simp only [Option.some.injEq, Prod.mk.injEq] at h; obtain ⟨rfl, rfl⟩ := h; exact fok141
 rw [if_neg e] at h; clear e
 by_cases e : 155 = f
 ·rw [if_pos e] at h; subst e; simp only [Option.some.injEq, Prod.mk.injEq] at h; obtain ⟨rfl, rfl⟩ := h; exact fok155
 rw [if_neg e] at h; clear e
 by_cases e : 156 = f
 ·rw [if_pos e] at h; subst e; simp only [Option.some.injEq, Prod.mk.injEq] at h; obtain ⟨rfl, rfl⟩ := h; exact fok156
 rw [if_neg e] at h; clear e
 by_cases e : 157 = f
 ·rw [if_pos e] at h; subst e; simp only [Option.some.injEq, Prod.mk.injEq] at h; obtain ⟨rfl, rfl⟩ := h; exact fok157
 rw [if_neg e] at h; clear e
 cases h
theorem l18 : cFunc Tryz.prog HA 18 = some lf18 := by kernel_rfl
theorem l19 : cFunc Tryz.prog HA 19 = some lf19 := by kernel_rfl
theorem l133 : cFunc Tryz.prog HA 133 = some lf133 := by kernel_rfl
theorem a6 : cFunc Tryz.prog HA 6 = decF F6 ∧ (decF F6).isSome = true := ⟨by kernel_rfl, by kernel_rfl⟩
theorem a17 : cFunc Tryz.prog HA 17 = decF F17 ∧ (decF F17).isSome = true := ⟨by kernel_rfl, by kernel_rfl⟩
theorem a20 : cFunc Tryz.prog HA 20 = decF F20 ∧ (decF F20).isSome = true := ⟨by kernel_rfl, by kernel_rfl⟩
theorem a21 : cFunc Tryz.prog HA 21 = decF F21 ∧ (decF F21).isSome = true := ⟨by kernel_rfl, by kernel_rfl⟩
theorem a22 : cFunc Tryz.prog HA 22 = decF F22 ∧ (decF F22).isSome = true := ⟨by kernel_rfl, by kernel_rfl⟩
theorem a30 : cFunc Tryz.prog HA 30 = decF F30 ∧ (decF F30).isSome = true := ⟨by kernel_rfl, by kernel_rfl⟩
theorem a33 : cFunc Tryz.prog HA 33 = decF F33 ∧ (decF F33).isSome = true := ⟨by kernel_rfl, by kernel_rfl⟩
theorem a34 : cFunc Tryz.prog HA 34 = decF F34 ∧ (decF F34).isSome = true := ⟨by kernel_rfl, by kernel_rfl⟩
theorem a39 : cFunc Tryz.prog HA 39 = decF F39 ∧ (decF F39).isSome = true := ⟨by kernel_rfl, by kernel_rfl⟩
theorem a40 : cFunc Tryz.prog HA 40 = decF F40 ∧ (decF F40).isSome = true := ⟨by kernel_rfl, by kernel_rfl⟩
theorem a41 : cFunc Tryz.prog HA 41 = decF F41 ∧ (decF F41).isSome = true := ⟨by kernel_rfl, by kernel_rfl⟩
theorem a42 : cFunc Tryz.prog HA 42 = decF F42 ∧ (decF F42).isSome = true := ⟨by kernel_rfl, by kernel_rfl⟩
theorem a43 : cFunc Tryz.prog HA 43 = decF F43 ∧ (decF F43).isSome = true := ⟨by kernel_rfl, by kernel_rfl⟩
theorem a44 : cFunc Tryz.prog HA 44 = decF F44 ∧ (decF F44).isSome = true := ⟨by kernel_rfl, by kernel_rfl⟩
theorem a45 : cFunc Tryz.prog HA 45 = decF F45 ∧ (decF F45).isSome = true := ⟨by kernel_rfl, by kernel_rfl⟩
theorem a46 : cFunc Tryz.prog HA 46 = decF F46 ∧ (decF F46).isSome = true := ⟨by kernel_rfl, by kernel_rfl⟩
theorem a47 : cFunc Tryz.prog HA 47 = decF F47 ∧ (decF F47).isSome = true := ⟨by kernel_rfl, by kernel_rfl⟩
theorem a48 : cFunc Tryz.prog HA 48 = decF F48 ∧ (decF F48).isSome = true := ⟨by kernel_rfl, by kernel_rfl⟩
theorem a49 : cFunc Tryz.prog HA 49 = decF F49 ∧ (decF F49).isSome = true := ⟨by kernel_rfl, by kernel_rfl⟩
theorem a50 : cFunc Tryz.prog HA 50 = decF F50 ∧ (decF F50).isSome = true := ⟨by kernel_rfl, by kernel_rfl⟩
theorem a54 : cFunc Tryz.prog HA 54 = decF F54 ∧ (decF F54).isSome = true := ⟨by kernel_rfl, by kernel_rfl⟩
theorem a55 : cFunc Tryz.prog HA 55 = decF F55 ∧ (decF F55).isSome = true := ⟨by kernel_rfl, by kernel_rfl⟩
theorem a56 : cFunc Tryz.prog HA 56 = decF F56 ∧ (decF F56).isSome = true := ⟨by kernel_rfl, by kernel_rfl⟩
theorem a57 : cFunc Tryz.prog HA 57 = decF F57 ∧ (decF F57).isSome = true := ⟨by kernel_rfl, by kernel_rfl⟩
theorem a58 : cFunc Tryz.prog HA 58 = decF F58 ∧ (decF F58).isSome = true := ⟨by kernel_rfl, by kernel_rfl⟩
theorem a59 : cFunc Tryz.prog HA 59 = decF F59 ∧ (decF F59).isSome = true := ⟨by kernel_rfl, by kernel_rfl⟩
theorem a60 : cFunc Tryz.prog HA 60 = decF F60 ∧ (decF F60).isSome = true := ⟨by kernel_rfl, by kernel_rfl⟩
theorem a64 : cFunc Tryz.prog HA 64 = decF F64 ∧ (decF F64).isSome = true := ⟨by kernel_rfl, by kernel_rfl⟩
theorem a65 : cFunc Tryz.prog HA 65 = decF F65 ∧ (decF F65).isSome = true := ⟨by kernel_rfl, by kernel_rfl⟩
theorem a66 : cFunc Tryz.prog HA 66 = decF F66 ∧ (decF F66).isSome = true := ⟨by kernel_rfl, by kernel_rfl⟩
theorem a71 : cFunc Tryz.prog HA 71 = decF F71 ∧ (decF F71).isSome = true := ⟨by kernel_rfl, by kernel_rfl⟩
theorem a72 : cFunc Tryz.prog HA 72 = decF F72 ∧ (decF F72).isSome = true := ⟨by kernel_rfl, by kernel_rfl⟩
theorem a73 : cFunc Tryz.prog HA 73 = decF F73 ∧ (decF F73).isSome = true := ⟨by kernel_rfl, by kernel_rfl⟩
theorem a74 : cFunc Tryz.prog HA 74 = decF F74 ∧ (decF F74).isSome = true := ⟨by kernel_rfl, by kernel_rfl⟩
theorem a75 : cFunc Tryz.prog HA 75 = decF F75 ∧ (decF F75).isSome = true := ⟨by kernel_rfl, by kernel_rfl⟩
theorem a76 : cFunc Tryz.prog HA 76 = decF F76 ∧ (decF F76).isSome = true := ⟨by kernel_rfl, by kernel_rfl⟩
theorem a77 : cFunc Tryz.prog HA 77 = decF F77 ∧ (decF F77).isSome = true := ⟨by kernel_rfl, by kernel_rfl⟩
theorem a78 : cFunc Tryz.prog HA 78 = decF F78 ∧ (decF F78).isSome = true := ⟨by kernel_rfl, by kernel_rfl⟩
theorem a79 : cFunc Tryz.prog HA 79 = decF F79 ∧ (decF F79).isSome = true := ⟨by kernel_rfl, by kernel_rfl⟩
theorem a80 : cFunc Tryz.prog HA 80 = decF F80 ∧ (decF F80).isSome = true := ⟨by kernel_rfl, by kernel_rfl⟩
theorem a81 : cFunc Tryz.prog HA 81 = decF F81 ∧ (decF F81).isSome = true := ⟨by kernel_rfl, by kernel_rfl⟩
theorem a82 : cFunc Tryz.prog HA 82 = decF F82 ∧ (decF F82).isSome = true := ⟨by kernel_rfl, by kernel_rfl⟩
theorem a83 : cFunc Tryz.prog HA 83 = decF F83 ∧ (decF F83).isSome = true := ⟨by kernel_rfl, by kernel_rfl⟩
theorem a84 : cFunc Tryz.prog HA 84 = decF F84 ∧ (decF F84).isSome = true := ⟨by kernel_rfl, by kernel_rfl⟩
theorem a85 : cFunc Tryz.prog HA 85 = decF F85 ∧ (decF F85).isSome = true := ⟨by kernel_rfl, by kernel_rfl⟩
theorem a86 : cFunc Tryz.prog HA 86 = decF F86 ∧ (decF F86).isSome = true := ⟨by kernel_rfl, by kernel_rfl⟩
theorem a87 : cFunc Tryz.prog HA 87 = decF F87 ∧ (decF F87).isSome = true := ⟨by kernel_rfl, by kernel_rfl⟩
theorem a88 : cFunc Tryz.prog HA 88 = decF F88 ∧ (decF F88).isSome = true := ⟨by kernel_rfl, by kernel_rfl⟩
theorem a89 : cFunc Tryz.prog HA 89 = decF F89 ∧ (decF F89).isSome = true := ⟨by kernel_rfl, by kernel_rfl⟩
theorem a90 : cFunc Tryz.prog HA 90 = decF F90 ∧ (decF F90).isSome = true := ⟨by kernel_rfl, by kernel_rfl⟩
theorem a91 : cFunc Tryz.prog HA 91 = decF F91 ∧ (decF F91).isSome = true := ⟨by kernel_rfl, by kernel_rfl⟩
theorem a92 : cFunc Tryz.prog HA 92 = decF F92 ∧ (decF F92).isSome = true := ⟨by kernel_rfl, by kernel_rfl⟩
theorem a93 : cFunc Tryz.prog HA 93 = decF F93 ∧ (decF F93).isSome = true := ⟨by kernel_rfl, by kernel_rfl⟩
theorem a94 : cFunc Tryz.prog HA 94 = decF F94 ∧ (decF F94).isSome = true := ⟨by kernel_rfl, by kernel_rfl⟩
theorem a95 : cFunc Tryz.prog HA 95 = decF F95 ∧ (decF F95).isSome = true := ⟨by kernel_rfl, by kernel_rfl⟩
theorem a99 : cFunc Tryz.prog HA 99 = decF F99 ∧ (decF F99).isSome = true := ⟨by kernel_rfl, by kernel_rfl⟩
theorem a100 : cFunc Tryz.prog HA 100 = decF F100 ∧ (decF F100).isSome = true := ⟨by kernel_rfl, by kernel_rfl⟩
theorem a101 : cFunc Tryz.prog HA 101 = decF F101 ∧ (decF F101).isSome = true := ⟨by kernel_rfl, by kernel_rfl⟩
theorem a102 : cFunc Tryz.prog HA 102 = decF F102 ∧ (decF F102).isSome = true := ⟨by kernel_rfl, by kernel_rfl⟩
theorem a103 : cFunc Tryz.prog HA 103 = decF F103 ∧ (decF F103).isSome = true := ⟨by kernel_rfl, by kernel_rfl⟩
theorem a104 : cFunc Tryz.prog HA 104 = decF F104 ∧ (decF F104).isSome = true := ⟨by kernel_rfl, by kernel_rfl⟩
theorem a105 : cFunc Tryz.prog HA 105 = decF F105 ∧ (decF F105).isSome = true := ⟨by kernel_rfl, by kernel_rfl⟩
theorem a106 : cFunc Tryz.prog HA 106 = decF F106 ∧ (decF F106).isSome = true := ⟨by kernel_rfl, by kernel_rfl⟩
theorem a107 : cFunc Tryz.prog HA 107 = decF F107 ∧ (decF F107).isSome = true := ⟨by kernel_rfl, by kernel_rfl⟩
theorem a108 : cFunc Tryz.prog HA 108 = decF F108 ∧ (decF F108).isSome = true := ⟨by kernel_rfl, by kernel_rfl⟩
theorem a109 : cFunc Tryz.prog HA 109 = decF F109 ∧ (decF F109).isSome = true := ⟨by kernel_rfl, by kernel_rfl⟩
theorem a110 : cFunc Tryz.prog HA 110 = decF F110 ∧ (decF F110).isSome = true := ⟨by kernel_rfl, by kernel_rfl⟩
theorem a111 : cFunc Tryz.prog HA 111 = decF F111 ∧ (decF F111).isSome = true := ⟨by kernel_rfl, by kernel_rfl⟩
theorem a112 : cFunc Tryz.prog HA 112 = decF F112 ∧ (decF F112).isSome = true := ⟨by kernel_rfl, by kernel_rfl⟩
theorem a113 : cFunc Tryz.prog HA 113 = decF F113 ∧ (decF F113).isSome = true := ⟨by kernel_rfl, by kernel_rfl⟩
theorem a114 : cFunc Tryz.prog HA 114 = decF F114 ∧ (decF F114).isSome = true := ⟨by kernel_rfl, by kernel_rfl⟩
theorem a115 : cFunc Tryz.prog HA 115 = decF F115 ∧ (decF F115).isSome = true := ⟨by kernel_rfl, by kernel_rfl⟩
theorem a116 : cFunc Tryz.prog HA 116 = decF F116 ∧ (decF F116).isSome = true := ⟨by kernel_rfl, by kernel_rfl⟩
theorem a117 : cFunc Tryz.prog HA 117 = decF F117 ∧ (decF F117).isSome = true := ⟨by kernel_rfl, by kernel_rfl⟩
theorem a118 : cFunc Tryz.prog HA 118 = decF F118 ∧ (decF F118).isSome = true := ⟨by kernel_rfl, by kernel_rfl⟩
theorem a119 : cFunc Tryz.prog HA 119 = decF F119 ∧ (decF F119).isSome = true := ⟨by kernel_rfl, by kernel_rfl⟩
theorem a120 : cFunc Tryz.prog HA 120 = decF F120 ∧ (decF F120).isSome = true := ⟨by kernel_rfl, by kernel_rfl⟩
theorem a121 : cFunc Tryz.prog HA 121 = decF F121 ∧ (decF F121).isSome = true := ⟨by kernel_rfl, by kernel_rfl⟩
theorem a123 : cFunc Tryz.prog HA 123 = decF F123 ∧ (decF F123).isSome = true := ⟨by kernel_rfl, by kernel_rfl⟩
theorem a124 : cFunc Tryz.prog HA 124 = decF F124 ∧ (decF F124).isSome = true := ⟨by kernel_rfl, by kernel_rfl⟩
theorem a125 : cFunc Tryz.prog HA 125 = decF F125 ∧ (decF F125).isSome = true := ⟨by kernel_rfl, by kernel_rfl⟩
theorem a126 : cFunc Tryz.prog HA 126 = decF F126 ∧ (decF F126).isSome = true := ⟨by kernel_rfl, by kernel_rfl⟩
theorem a127 : cFunc Tryz.prog HA 127 = decF F127 ∧ (decF F127).isSome = true := ⟨by kernel_rfl, by kernel_rfl⟩
theorem a128 : cFunc Tryz.prog HA 128 = decF F128 ∧ (decF F128).isSome = true := ⟨by kernel_rfl, by kernel_rfl⟩
theorem a129 : cFunc Tryz.prog HA 129 = decF F129 ∧ (decF F129).isSome = true := ⟨by kernel_rfl, by kernel_rfl⟩
theorem a130 : cFunc Tryz.prog HA 130 = decF F130 ∧ (decF F130).isSome = true := ⟨by kernel_rfl, by kernel_rfl⟩
theorem a131 : cFunc Tryz.prog HA 131 = decF F131 ∧ (decF F131).isSome = true := ⟨by kernel_rfl, by kernel_rfl⟩
theorem a132 : cFunc Tryz.prog HA 132 = decF F132 ∧ (decF F132).isSome = true := ⟨by kernel_rfl, by kernel_rfl⟩
theorem a134 : cFunc Tryz.prog HA 134 = decF F134 ∧ (decF F134).isSome = true := ⟨by kernel_rfl, by kernel_rfl⟩
theorem a135 : cFunc Tryz.prog HA 135 = decF F135 ∧ (decF F135).isSome = true := ⟨by kernel_rfl, by kernel_rfl⟩
theorem a136 : cFunc Tryz.prog HA 136 = decF F136 ∧ (decF F136).isSome = true := ⟨by kernel_rfl, by kernel_rfl⟩
theorem a137 : cFunc Tryz.prog HA 137 = decF F137 ∧ (decF F137).isSome = true := ⟨by kernel_rfl, by kernel_rfl⟩
theorem a138 : cFunc Tryz.prog HA 138 = decF F138 ∧ (decF F138).isSome = true := ⟨by kernel_rfl, by kernel_rfl⟩
theorem a139 : cFunc Tryz.prog HA 139 = decF F139 ∧ (decF F139).isSome = true := ⟨by kernel_rfl, by kernel_rfl⟩
theorem a140 : cFunc Tryz.prog HA 140 = decF F140 ∧ (decF F140).isSome = true := ⟨by kernel_rfl, by kernel_rfl⟩
theorem a142 : cFunc Tryz.prog HA 142 = decF F142 ∧ (decF F142).isSome = true := ⟨by kernel_rfl, by kernel_rfl⟩
theorem a143 : cFunc Tryz.prog HA 143 = decF F143 ∧ (decF F143).isSome = true := ⟨by kernel_rfl, by kernel_rfl⟩
theorem a144 : cFunc Tryz.prog HA 144 = decF F144 ∧ (decF F144).isSome = true := ⟨by kernel_rfl, by kernel_rfl⟩
theorem a145 : cFunc Tryz.prog HA 145 = decF F145 ∧ (decF F145).isSome = true := ⟨by kernel_rfl, by kernel_rfl⟩
theorem a146 : cFunc Tryz.prog HA 146 = decF F146 ∧ (decF F146).isSome = true := ⟨by kernel_rfl, by kernel_rfl⟩
theorem a147 : cFunc Tryz.prog HA 147 = decF F147 ∧ (decF F147).isSome = true := ⟨by kernel_rfl, by kernel_rfl⟩
theorem a148 : cFunc Tryz.prog HA 148 = decF F148 ∧ (decF F148).isSome = true := ⟨by kernel_rfl, by kernel_rfl⟩
theorem a149 : cFunc Tryz.prog HA 149 = decF F149 ∧ (decF F149).isSome = true := ⟨by kernel_rfl, by kernel_rfl⟩
theorem a150 : cFunc Tryz.prog HA 150 = decF F150 ∧ (decF F150).isSome = true := ⟨by kernel_rfl, by kernel_rfl⟩
theorem a151 : cFunc Tryz.prog HA 151 = decF F151 ∧ (decF F151).isSome = true := ⟨by kernel_rfl, by kernel_rfl⟩
theorem a152 : cFunc Tryz.prog HA 152 = decF F152 ∧ (decF F152).isSome = true := ⟨by kernel_rfl, by kernel_rfl⟩
theorem a153 : cFunc Tryz.prog HA 153 = decF F153 ∧ (decF F153).isSome = true := ⟨by kernel_rfl, by kernel_rfl⟩
theorem a154 : cFunc Tryz.prog HA 154 = decF F154 ∧ (decF F154).isSome = true := ⟨by kernel_rfl, by kernel_rfl⟩
theorem a158 : cFunc Tryz.prog HA 158 = decF F158 ∧ (decF F158).isSome = true := ⟨by kernel_rfl, by kernel_rfl⟩
theorem a159 : cFunc Tryz.prog HA 159 = decF F159 ∧ (decF F159).isSome = true := ⟨by kernel_rfl, by kernel_rfl⟩
theorem a160 : cFunc Tryz.prog HA 160 = decF F160 ∧ (decF F160).isSome = true := ⟨by kernel_rfl, by kernel_rfl⟩
theorem a161 : cFunc Tryz.prog HA 161 = decF F161 ∧ (decF F161).isSome = true := ⟨by kernel_rfl, by kernel_rfl⟩
theorem a162 : cFunc Tryz.prog HA 162 = decF F162 ∧ (decF F162).isSome = true := ⟨by kernel_rfl, by kernel_rfl⟩
theorem a163 : cFunc Tryz.prog HA 163 = decF F163 ∧ (decF F163).isSome = true := ⟨by kernel_rfl, by kernel_rfl⟩
theorem a164 : cFunc Tryz.prog HA 164 = decF F164 ∧ (decF F164).isSome = true := ⟨by kernel_rfl, by kernel_rfl⟩
theorem a165 : cFunc Tryz.prog HA 165 = decF F165 ∧ (decF F165).isSome = true := ⟨by kernel_rfl, by kernel_rfl⟩
theorem a166 : cFunc Tryz.prog HA 166 = decF F166 ∧ (decF F166).isSome = true := ⟨by kernel_rfl, by kernel_rfl⟩
theorem a167 : cFunc Tryz.prog HA 167 = decF F167 ∧ (decF F167).isSome = true := ⟨by kernel_rfl, by kernel_rfl⟩
theorem a168 : cFunc Tryz.prog HA 168 = decF F168 ∧ (decF F168).isSome = true := ⟨by kernel_rfl, by kernel_rfl⟩
theorem a14 : cFunc Tryz.prog HA 14 = decF F14 ∧ (decF F14).isSome = true := ⟨by kernel_rfl, by kernel_rfl⟩
theorem a141 : cFunc Tryz.prog HA 141 = decF (.fprim 1 (cloneP none 8)) ∧ (decF (.fprim 1 (cloneP none 8))).isSome = true := ⟨rfl, rfl⟩
theorem a155 : cFunc Tryz.prog HA 155 = decF (.fprim 1 (cloneP (some 4) 64)) ∧ (decF (.fprim 1 (cloneP (some 4) 64))).isSome = true := ⟨rfl, rfl⟩
theorem a156 : cFunc Tryz.prog HA 156 = decF (.fprim 1 (cloneP (some 4) 64)) ∧ (decF (.fprim 1 (cloneP (some 4) 64))).isSome = true := ⟨rfl, rfl⟩
theorem a157 : cFunc Tryz.prog HA 157 = decF (.fprim 1 (cloneP none 16)) ∧ (decF (.fprim 1 (cloneP none 16))).isSome = true := ⟨rfl, rfl⟩
def tableA : List (Nat × SFunc) := table0 ++ [(14, F14)]
set_option maxRecDepth 100000 in
theorem tabA : TabOk Tryz.prog HA tableA := TabOk.append (l := table0) ⟨a6, a17, a20, a21, a22, a30, a33, a34, a39, a40, a41, a42, a43, a44, a45, a46, a47, a48, a49, a50, a54, a55, a56, a57, a58, a59, a60, a64, a65, a66, a71, a72, a73, a74, a75, a76, a77, a78, a79, a80, a81, a82, a83, a84, a85, a86, a87, a88, a89, a90, a91, a92, a93, a94, a95, a99, a100, a101, a102, a103, a104, a105, a106, a107, a108, a109, a110, a111, a112, a113, a114, a115, a116, a117, a118, a119, a120, a121, a123, a124, a125, a126, a127, a128, a129, a130, a131, a132, a134, a135, a136, a137, a138, a139, a140, a141, a142, a143, a144, a145, a146, a147, a148, a149, a150, a151, a152, a153, a154, a155, a156, a157, a158, a159, a160, a161, a162, a163, a164, a165, a166, a167, a168, trivial⟩ ⟨a14, trivial⟩
def progQ : Nat → Option LFunc := mixL lprog tableA
theorem okA : ProgOk Tryz.prog HA progQ := mix_ok ⟨l18, l19, l133, trivial⟩ tabA (fun _ _ h => by simp [HA, lookupPrim] at h) fpA mixed
theorem readA : Readable (lookupPrim · tableA) := tab_readable tabA
instance : Has (lookupPrim · tableA) := ⟨fun _ _ h => lookup_append h⟩
set_option maxRecDepth 100000 in
theorem fn_Q {f : Nat} {args : List CV} {v : CV} (h : fn (lookupPrim · tableA) f args = some v) : ∃ n, pcall progQ n f args = some v := fn_mix readA (by
 intro f x hx
 simp only [lprog, lookupPrim] at hx
 by_cases e : 18 = f
 ·subst e; rfl
 rw [if_neg e] at hx; clear e
 by_cases e : 19 = f
 ·subst e; rfl
 rw [if_neg e] at hx; clear e
 by_cases e : 133 = f
 ·subst e; rfl
 rw [if_neg e] at hx; clear e
 cases hx) h
theorem en14 : Enters Tryz.prog 14 := tab_enters a14 rfl rfl
theorem en18 : Enters Tryz.prog 18 := cFunc_enters l18
theorem en19 : Enters Tryz.prog 19 := cFunc_enters l19
def primsF : List (Nat × (List CV → Option CV)) := [(18, (fun args => pcall progQ 3000 18 args)), (19, (fun args => pcall progQ 3000 19 args))]
def HF : Hints := { HA with prims := primsF }
theorem prF : ∀ f g, lookupPrim f HF.prims = some g → PrimOk Tryz.prog f g := by
 intro f g h
 simp only [HF, primsF, lookupPrim] at h
 by_cases e : 18 = f
 ·rw [if_pos e] at h; subst e; simp only [Option.some.injEq] at h; subst h; exact primOk_of_pcall okA en18
 rw [if_neg e] at h; clear e
 by_cases e : 19 = f
 ·rw [if_pos e] at h; subst e; simp only [Option.some.injEq] at h; subst h; exact primOk_of_pcall okA en19
 rw [if_neg e] at h; clear e
 cases h
def tableF : List (Nat × SFunc) := tableA ++ [(18, .prim (fun args => pcall progQ 3000 18 args)), (19, .prim (fun args => pcall progQ 3000 19 args))]
set_option maxRecDepth 100000 in
theorem tabF : TabOk Tryz.prog HF tableF := TabOk.append (l := tableA) (tabA.prims rfl (by kernel_rfl)) ⟨⟨rfl, rfl⟩, ⟨rfl, rfl⟩, trivial⟩
def progS : Nat → Option SFunc := fun f => lookupPrim f tableF
def progF : Nat → Option LFunc := progL progS
theorem okF : ProgOk Tryz.prog HF progF := tab_ok tabF prF fpA mixed
theorem readF : Readable progS := tab_readable tabF
end LM.G9
namespace LM.G9
open Go LM
abbrev ni (n : Int) : CV := .int .i64 n
def juryV (v : Int) (w : List CV) : CV := .agg [.slice ([.agg [.str [117], .str [65], .slice [.str [106,117,100,103,101]], ni 2], .agg [.str [118], .str [66], .slice [.str [106,117,100,103,101], .str [115,101,116,116,101,114]], ni v]] ++ w), .slice [.agg [.str [112], .str [106,117,100,103,101], ni 9, .slice [.str [65]]], .agg [.str [113], .str [106,117,100,103,101], ni 9, .slice [.str [66]]], .agg [.str [114], .str [115,101,116,116,101,114], ni 10, .slice []]]]
end LM.G9
