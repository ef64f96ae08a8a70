/- Part 5 of what YtlnejpgfiopjjaaQuota leans on. -/
import Derived.Test.YtlnejpgfiopjjaaChecked
import Derived.KernelRfl
import Derived.WalkKit
import Derived.WalkSpells
import Derived.WalkLawsBesides
import Derived.Test.YtlnejpgfiopjjaaQuotaL1
import Derived.Test.YtlnejpgfiopjjaaQuotaL2
import Derived.Test.YtlnejpgfiopjjaaQuotaL3
import Derived.Test.YtlnejpgfiopjjaaQuota1
set_option linter.all false
namespace LM.GK
open Go LM Go.Proofs Go.RowKit
def HC : Hints := { fresh := [(35, 1)] }
def progC : List (Nat × LFunc) := [(35, cloneF (some 3) 56 [(.c (.str [])), (.c (.str [])), .nil])]
theorem mixed : Try.prog.follows .mixedOrders = true := by kernel_rfl
theorem k35 : cFunc Try.prog HC 35 = some (cloneF (some 3) 56 [(.c (.str [])), (.c (.str [])), .nil]) := by kernel_rfl
theorem okC : ProgOk Try.prog HC (mixL progC []) := mix_ok (L := progC) (S := []) ⟨k35, trivial⟩ trivial (fun _ _ h => by simp [HC, lookupPrim] at h) (fun _ _ _ h => by simp [HC, lookupPrim] at h) mixed
set_option maxRecDepth 100000 in
set_option maxHeartbeats 4000000 in
theorem nil35 (c : Nat) (w : World) : Calls Try.prog 35 #[.slice none 0 c] w fun e w' => e = .returned (.slice none 0 0) ∧ w' = w := by
  go_enter Try.func35, Try.ntmps35
  go_wp2
  simp only [binOp, Sem.run_bind, LM.equal_nil Try.underlying22, Result.andThen_ok, Sem.run_pure, Option.isNone]
  go_wp2
  all_goals go_ret
  all_goals exact ⟨rfl, rfl⟩
set_option maxRecDepth 100000 in
set_option maxHeartbeats 4000000 in
theorem emp35 (a : Addr) (c : Nat) (w : World) : Calls Try.prog 35 #[.slice (some a) 0 c] w fun e w' => ∃ a', e = .returned (.slice a' 0 0) ∧ ∃ o, w' = w.alloc o := by
  go_enter Try.func35, Try.ntmps35
  go_wp2
  simp only [binOp, Sem.run_bind, LM.equal_nil Try.underlying22, Result.andThen_ok, Sem.run_pure, Option.isNone]
  go_wp2
  go_ret
  exact ⟨_, rfl, _, rfl⟩
theorem fok35 : FprimOk Try.prog 35 (cloneP (some 3) 56) := clone_fprim (cFunc_enters k35) okC (f := 35) (prog := mixL progC []) rfl nil35 emp35
def HA : Hints := { shared := [46, 70, 79, 80, 84, 86, 55, 73, 81, 82, 85, 87, 34, 57, 62, 38], fresh := [], fprims := [(35, 1, cloneP (some 3) 56)] }
theorem fpA : ∀ f k g, lookupPrim f HA.fprims = some (k, g) → FprimOk Try.prog f g := by
  intro f k g h
  simp only [HA, lookupPrim] at h
  by_cases e : 35 = f
  · rw [if_pos e] at h; subst e; simp only [Option.some.injEq, Prod.mk.injEq] at h; obtain ⟨rfl, rfl⟩ := h; exact fok35
  rw [if_neg e] at h; clear e
  cases h
theorem a4 : cFunc Try.prog HA 4 = decF F4 ∧ (decF F4).isSome = true := ⟨by kernel_rfl, by kernel_rfl⟩
theorem a5 : cFunc Try.prog HA 5 = decF F5 ∧ (decF F5).isSome = true := ⟨by kernel_rfl, by kernel_rfl⟩
theorem a6 : cFunc Try.prog HA 6 = decF F6 ∧ (decF F6).isSome = true := ⟨by kernel_rfl, by kernel_rfl⟩
theorem a8 : cFunc Try.prog HA 8 = decF F8 ∧ (decF F8).isSome = true := ⟨by kernel_rfl, by kernel_rfl⟩
theorem a9 : cFunc Try.prog HA 9 = decF F9 ∧ (decF F9).isSome = true := ⟨by kernel_rfl, by kernel_rfl⟩
theorem a10 : cFunc Try.prog HA 10 = decF F10 ∧ (decF F10).isSome = true := ⟨by kernel_rfl, by kernel_rfl⟩
theorem a12 : cFunc Try.prog HA 12 = decF F12 ∧ (decF F12).isSome = true := ⟨by kernel_rfl, by kernel_rfl⟩
theorem a13 : cFunc Try.prog HA 13 = decF F13 ∧ (decF F13).isSome = true := ⟨by kernel_rfl, by kernel_rfl⟩
theorem a14 : cFunc Try.prog HA 14 = decF F14 ∧ (decF F14).isSome = true := ⟨by kernel_rfl, by kernel_rfl⟩
theorem a15 : cFunc Try.prog HA 15 = decF F15 ∧ (decF F15).isSome = true := ⟨by kernel_rfl, by kernel_rfl⟩
theorem a16 : cFunc Try.prog HA 16 = decF F16 ∧ (decF F16).isSome = true := ⟨by kernel_rfl, by kernel_rfl⟩
theorem a17 : cFunc Try.prog HA 17 = decF F17 ∧ (decF F17).isSome = true := ⟨by kernel_rfl, by kernel_rfl⟩
theorem a18 : cFunc Try.prog HA 18 = decF F18 ∧ (decF F18).isSome = true := ⟨by kernel_rfl, by kernel_rfl⟩
theorem a19 : cFunc Try.prog HA 19 = decF F19 ∧ (decF F19).isSome = true := ⟨by kernel_rfl, by kernel_rfl⟩
theorem a20 : cFunc Try.prog HA 20 = decF F20 ∧ (decF F20).isSome = true := ⟨by kernel_rfl, by kernel_rfl⟩
theorem a21 : cFunc Try.prog HA 21 = decF F21 ∧ (decF F21).isSome = true := ⟨by kernel_rfl, by kernel_rfl⟩
theorem a22 : cFunc Try.prog HA 22 = decF F22 ∧ (decF F22).isSome = true := ⟨by kernel_rfl, by kernel_rfl⟩
theorem a23 : cFunc Try.prog HA 23 = decF F23 ∧ (decF F23).isSome = true := ⟨by kernel_rfl, by kernel_rfl⟩
theorem a24 : cFunc Try.prog HA 24 = decF F24 ∧ (decF F24).isSome = true := ⟨by kernel_rfl, by kernel_rfl⟩
theorem a25 : cFunc Try.prog HA 25 = decF F25 ∧ (decF F25).isSome = true := ⟨by kernel_rfl, by kernel_rfl⟩
theorem a26 : cFunc Try.prog HA 26 = decF F26 ∧ (decF F26).isSome = true := ⟨by kernel_rfl, by kernel_rfl⟩
theorem a27 : cFunc Try.prog HA 27 = decF F27 ∧ (decF F27).isSome = true := ⟨by kernel_rfl, by kernel_rfl⟩
theorem a28 : cFunc Try.prog HA 28 = decF F28 ∧ (decF F28).isSome = true := ⟨by kernel_rfl, by kernel_rfl⟩
theorem a29 : cFunc Try.prog HA 29 = decF F29 ∧ (decF F29).isSome = true := ⟨by kernel_rfl, by kernel_rfl⟩
theorem a30 : cFunc Try.prog HA 30 = decF F30 ∧ (decF F30).isSome = true := ⟨by kernel_rfl, by kernel_rfl⟩
theorem a31 : cFunc Try.prog HA 31 = decF F31 ∧ (decF F31).isSome = true := ⟨by kernel_rfl, by kernel_rfl⟩
theorem a32 : cFunc Try.prog HA 32 = decF F32 ∧ (decF F32).isSome = true := ⟨by kernel_rfl, by kernel_rfl⟩
theorem a33 : cFunc Try.prog HA 33 = decF F33 ∧ (decF F33).isSome = true := ⟨by kernel_rfl, by kernel_rfl⟩
theorem a34 : cFunc Try.prog HA 34 = decF F34 ∧ (decF F34).isSome = true := ⟨by kernel_rfl, by kernel_rfl⟩
theorem a36 : cFunc Try.prog HA 36 = decF F36 ∧ (decF F36).isSome = true := ⟨by kernel_rfl, by kernel_rfl⟩
theorem a37 : cFunc Try.prog HA 37 = decF F37 ∧ (decF F37).isSome = true := ⟨by kernel_rfl, by kernel_rfl⟩
theorem a38 : cFunc Try.prog HA 38 = decF F38 ∧ (decF F38).isSome = true := ⟨by kernel_rfl, by kernel_rfl⟩
theorem a39 : cFunc Try.prog HA 39 = decF F39 ∧ (decF F39).isSome = true := ⟨by kernel_rfl, by kernel_rfl⟩
theorem a40 : cFunc Try.prog HA 40 = decF F40 ∧ (decF F40).isSome = true := ⟨by kernel_rfl, by kernel_rfl⟩
theorem a41 : cFunc Try.prog HA 41 = decF F41 ∧ (decF F41).isSome = true := ⟨by kernel_rfl, by kernel_rfl⟩
theorem a42 : cFunc Try.prog HA 42 = decF F42 ∧ (decF F42).isSome = true := ⟨by kernel_rfl, by kernel_rfl⟩
theorem a43 : cFunc Try.prog HA 43 = decF F43 ∧ (decF F43).isSome = true := ⟨by kernel_rfl, by kernel_rfl⟩
theorem a44 : cFunc Try.prog HA 44 = decF F44 ∧ (decF F44).isSome = true := ⟨by kernel_rfl, by kernel_rfl⟩
theorem a45 : cFunc Try.prog HA 45 = decF F45 ∧ (decF F45).isSome = true := ⟨by kernel_rfl, by kernel_rfl⟩
theorem a46 : cFunc Try.prog HA 46 = decF F46 ∧ (decF F46).isSome = true := ⟨by kernel_rfl, by kernel_rfl⟩
theorem a47 : cFunc Try.prog HA 47 = decF F47 ∧ (decF F47).isSome = true := ⟨by kernel_rfl, by kernel_rfl⟩
theorem a48 : cFunc Try.prog HA 48 = decF F48 ∧ (decF F48).isSome = true := ⟨by kernel_rfl, by kernel_rfl⟩
theorem a49 : cFunc Try.prog HA 49 = decF F49 ∧ (decF F49).isSome = true := ⟨by kernel_rfl, by kernel_rfl⟩
theorem a50 : cFunc Try.prog HA 50 = decF F50 ∧ (decF F50).isSome = true := ⟨by kernel_rfl, by kernel_rfl⟩
theorem a51 : cFunc Try.prog HA 51 = decF F51 ∧ (decF F51).isSome = true := ⟨by kernel_rfl, by kernel_rfl⟩
theorem a52 : cFunc Try.prog HA 52 = decF F52 ∧ (decF F52).isSome = true := ⟨by kernel_rfl, by kernel_rfl⟩
theorem a53 : cFunc Try.prog HA 53 = decF F53 ∧ (decF F53).isSome = true := ⟨by kernel_rfl, by kernel_rfl⟩
theorem a54 : cFunc Try.prog HA 54 = decF F54 ∧ (decF F54).isSome = true := ⟨by kernel_rfl, by kernel_rfl⟩
theorem a55 : cFunc Try.prog HA 55 = decF F55 ∧ (decF F55).isSome = true := ⟨by kernel_rfl, by kernel_rfl⟩
theorem a56 : cFunc Try.prog HA 56 = decF F56 ∧ (decF F56).isSome = true := ⟨by kernel_rfl, by kernel_rfl⟩
theorem a57 : cFunc Try.prog HA 57 = decF F57 ∧ (decF F57).isSome = true := ⟨by kernel_rfl, by kernel_rfl⟩
theorem a58 : cFunc Try.prog HA 58 = decF F58 ∧ (decF F58).isSome = true := ⟨by kernel_rfl, by kernel_rfl⟩
theorem a59 : cFunc Try.prog HA 59 = decF F59 ∧ (decF F59).isSome = true := ⟨by kernel_rfl, by kernel_rfl⟩
theorem a60 : cFunc Try.prog HA 60 = decF F60 ∧ (decF F60).isSome = true := ⟨by kernel_rfl, by kernel_rfl⟩
theorem a61 : cFunc Try.prog HA 61 = decF F61 ∧ (decF F61).isSome = true := ⟨by kernel_rfl, by kernel_rfl⟩
theorem a62 : cFunc Try.prog HA 62 = decF F62 ∧ (decF F62).isSome = true := ⟨by kernel_rfl, by kernel_rfl⟩
theorem a63 : cFunc Try.prog HA 63 = decF F63 ∧ (decF F63).isSome = true := ⟨by kernel_rfl, by kernel_rfl⟩
theorem a64 : cFunc Try.prog HA 64 = decF F64 ∧ (decF F64).isSome = true := ⟨by kernel_rfl, by kernel_rfl⟩
theorem a65 : cFunc Try.prog HA 65 = decF F65 ∧ (decF F65).isSome = true := ⟨by kernel_rfl, by kernel_rfl⟩
theorem a66 : cFunc Try.prog HA 66 = decF F66 ∧ (decF F66).isSome = true := ⟨by kernel_rfl, by kernel_rfl⟩
theorem a67 : cFunc Try.prog HA 67 = decF F67 ∧ (decF F67).isSome = true := ⟨by kernel_rfl, by kernel_rfl⟩
theorem a68 : cFunc Try.prog HA 68 = decF F68 ∧ (decF F68).isSome = true := ⟨by kernel_rfl, by kernel_rfl⟩
theorem a69 : cFunc Try.prog HA 69 = decF F69 ∧ (decF F69).isSome = true := ⟨by kernel_rfl, by kernel_rfl⟩
theorem a70 : cFunc Try.prog HA 70 = decF F70 ∧ (decF F70).isSome = true := ⟨by kernel_rfl, by kernel_rfl⟩
theorem a71 : cFunc Try.prog HA 71 = decF F71 ∧ (decF F71).isSome = true := ⟨by kernel_rfl, by kernel_rfl⟩
theorem a72 : cFunc Try.prog HA 72 = decF F72 ∧ (decF F72).isSome = true := ⟨by kernel_rfl, by kernel_rfl⟩
theorem a73 : cFunc Try.prog HA 73 = decF F73 ∧ (decF F73).isSome = true := ⟨by kernel_rfl, by kernel_rfl⟩
theorem a74 : cFunc Try.prog HA 74 = decF F74 ∧ (decF F74).isSome = true := ⟨by kernel_rfl, by kernel_rfl⟩
theorem a75 : cFunc Try.prog HA 75 = decF F75 ∧ (decF F75).isSome = true := ⟨by kernel_rfl, by kernel_rfl⟩
theorem a76 : cFunc Try.prog HA 76 = decF F76 ∧ (decF F76).isSome = true := ⟨by kernel_rfl, by kernel_rfl⟩
theorem a77 : cFunc Try.prog HA 77 = decF F77 ∧ (decF F77).isSome = true := ⟨by kernel_rfl, by kernel_rfl⟩
theorem a78 : cFunc Try.prog HA 78 = decF F78 ∧ (decF F78).isSome = true := ⟨by kernel_rfl, by kernel_rfl⟩
theorem a79 : cFunc Try.prog HA 79 = decF F79 ∧ (decF F79).isSome = true := ⟨by kernel_rfl, by kernel_rfl⟩
theorem a80 : cFunc Try.prog HA 80 = decF F80 ∧ (decF F80).isSome = true := ⟨by kernel_rfl, by kernel_rfl⟩
theorem a81 : cFunc Try.prog HA 81 = decF F81 ∧ (decF F81).isSome = true := ⟨by kernel_rfl, by kernel_rfl⟩
theorem a82 : cFunc Try.prog HA 82 = decF F82 ∧ (decF F82).isSome = true := ⟨by kernel_rfl, by kernel_rfl⟩
theorem a83 : cFunc Try.prog HA 83 = decF F83 ∧ (decF F83).isSome = true := ⟨by kernel_rfl, by kernel_rfl⟩
theorem a84 : cFunc Try.prog HA 84 = decF F84 ∧ (decF F84).isSome = true := ⟨by kernel_rfl, by kernel_rfl⟩
theorem a85 : cFunc Try.prog HA 85 = decF F85 ∧ (decF F85).isSome = true := ⟨by kernel_rfl, by kernel_rfl⟩
theorem a86 : cFunc Try.prog HA 86 = decF F86 ∧ (decF F86).isSome = true := ⟨by kernel_rfl, by kernel_rfl⟩
theorem a87 : cFunc Try.prog HA 87 = decF F87 ∧ (decF F87).isSome = true := ⟨by kernel_rfl, by kernel_rfl⟩
theorem a7 : cFunc Try.prog HA 7 = decF F7 ∧ (decF F7).isSome = true := ⟨by kernel_rfl, by kernel_rfl⟩
theorem a35 : cFunc Try.prog HA 35 = decF (.fprim 1 (cloneP (some 3) 56)) ∧ (decF (.fprim 1 (cloneP (some 3) 56))).isSome = true := ⟨rfl, rfl⟩
def tableA : List (Nat × SFunc) := table0 ++ [(7, F7)]
set_option maxRecDepth 100000 in
theorem tabA : TabOk Try.prog HA tableA := TabOk.append (l := table0) ⟨a4, a5, a6, a8, a9, a10, a12, a13, a14, a15, a16, a17, a18, a19, a20, a21, a22, a23, a24, a25, a26, a27, a28, a29, a30, a31, a32, a33, a34, a35, a36, a37, a38, a39, a40, a41, a42, a43, a44, a45, a46, a47, a48, a49, a50, a51, a52, a53, a54, a55, a56, a57, a58, a59, a60, a61, a62, a63, a64, a65, a66, a67, a68, a69, a70, a71, a72, a73, a74, a75, a76, a77, a78, a79, a80, a81, a82, a83, a84, a85, a86, a87, trivial⟩ ⟨a7, trivial⟩
def progQ : Nat → Option LFunc := mixL lprog tableA
theorem okA : ProgOk Try.prog HA progQ := mix_ok trivial tabA (fun _ _ h => by simp [HA, lookupPrim] at h) fpA mixed
theorem readA : Readable (lookupPrim · tableA) := tab_readable tabA
instance : Has (lookupPrim · tableA) := ⟨fun _ _ h => lookup_append h⟩
set_option maxRecDepth 100000 in
theorem fn_Q {f : Nat} {args : List CV} {v : CV} (h : fn (lookupPrim · tableA) f args = some v) : ∃ n, pcall progQ n f args = some v := fn_mix readA (by
  intro f x hx
  simp only [lprog, lookupPrim] at hx
  cases hx) h
theorem en7 : Enters Try.prog 7 := tab_enters a7 rfl rfl
def primsF : List (Nat × (List CV → Option CV)) := []
def HF : Hints := { HA with prims := primsF }
theorem prF : ∀ f g, lookupPrim f HF.prims = some g → PrimOk Try.prog f g := by
  intro f g h
  simp only [HF, primsF, lookupPrim] at h
  cases h
def tableF : List (Nat × SFunc) := tableA ++ []
set_option maxRecDepth 100000 in
theorem tabF : TabOk Try.prog HF tableF := TabOk.append (l := tableA) (tabA.prims rfl (by kernel_rfl)) trivial
def progS : Nat → Option SFunc := fun f => lookupPrim f tableF
def progF : Nat → Option LFunc := progL progS
theorem okF : ProgOk Try.prog HF progF := tab_ok tabF prF fpA mixed
theorem readF : Readable progS := tab_readable tabF
end LM.GK
