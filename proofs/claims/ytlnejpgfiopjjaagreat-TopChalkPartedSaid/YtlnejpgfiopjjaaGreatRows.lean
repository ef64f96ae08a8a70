/-
  No cell of these rows narrows 'for every input' (looked for: loops, veiled, ifaces, maps, wideKeys, modest, calm, conditions, laid).
  DERIVED. THE GIVEN ROWS OF THIS SEAT. 6 by the template 'for every input the law returns true; each argument reads behind the call as it read before'; 0 by the template 'total and deterministic' (their statements: YtlnejpgfiopjjaaGreatTotals.lean).
  GIVEN WITH THE SEED: the statements are not yours to turn. If you find one false, say at which input.
  Laid BY PROGRAM, IN A SANDBOX (cutbox-rows.mjs): the forced cells as the released guide's own fill.sh prints them over the translation d9ce0eaa3c5ba3fc… (all of the seat's roots in one cut). By AI agents, Wed Nov 11 2026. No macro, syntax, notation, axiom, sorry.
-/
import Derived.Test.YtlnejpgfiopjjaaGreatChecked
import GoSem.Claim
import GoSem.ClaimJoined
import GoSem.ClaimMapViews
import Derived.JoinedTies
import Derived.KernelRfl
namespace Go.Proofs.YtlnejpgfiopjjaaGreat
/- THE CELL 'sum', in the pinned program and in every row, IS THE sha256 OF THE DUMP (.gsa) THAT YtlnejpgfiopjjaaGreatProg.lean LOADS. Nothing in Lean hashes anything: it is a label: what it is worth is what the hold of that sum in a sandbox is worth. -/
noncomputable def Tryz.pinned : Pinned := { name := "ytlnejpgfiopjjaagreat", sum := "d9ce0eaa3c5ba3fc3e6574d784a9f1ca157b1b15a0007d618c5d5bf0a8930d72", checked := Tryz.checked }
namespace Rows
def none {H : Type} : Left H := { results := [], args := [] }

/-- 'cruxtop.TopChalkDuels': WHATEVER THE INPUT: true; the input reads as it did. -/
def topChalkDuelsSpec : ChangeSpec := { name := "topChalkDuels", fn := fun _ => fun
  | [d1, d2] => { results := [.lit (.bool true)], args := [d1, d2] }
  | _ => none }
def topChalkDuelsRow : OpenClaim := { program := "ytlnejpgfiopjjaagreat", sum := "d9ce0eaa3c5ba3fc3e6574d784a9f1ca157b1b15a0007d618c5d5bf0a8930d72", func := "crux/cruxtop.TopChalkDuels", spec := "topChalkDuels", unfollowed := true, recurses := true, apart := false }
def TopChalkDuelsSaid : Prop := topChalkDuelsRow.holds Tryz.pinned (OpenSpec.ofChange topChalkDuelsSpec)

/-- ITS FALSE NEIGHBOUR: 'it returns false'. Refute it at one input. -/
def topChalkDuelsWrong : ChangeSpec := { name := "topChalkDuels", fn := fun _ => fun
  | [d1, d2] => { results := [.lit (.bool false)], args := [d1, d2] }
  | _ => none }
def TopChalkDuelsWrongFalsely : Prop := topChalkDuelsRow.holds Tryz.pinned (OpenSpec.ofChange topChalkDuelsWrong)

/-- 'cruxtop.TopChalkParted': WHATEVER THE INPUT: true; the input reads as it did. -/
def topChalkPartedSpec : ChangeSpec := { name := "topChalkParted", fn := fun _ => fun
  | [d] => { results := [.lit (.bool true)], args := [d] }
  | _ => none }
def topChalkPartedRow : OpenClaim := { program := "ytlnejpgfiopjjaagreat", sum := "d9ce0eaa3c5ba3fc3e6574d784a9f1ca157b1b15a0007d618c5d5bf0a8930d72", func := "crux/cruxtop.TopChalkParted", spec := "topChalkParted", unfollowed := true, recurses := true, apart := false }
def TopChalkPartedSaid : Prop := topChalkPartedRow.holds Tryz.pinned (OpenSpec.ofChange topChalkPartedSpec)

/-- ITS FALSE NEIGHBOUR: 'it returns false'. Refute it at one input. -/
def topChalkPartedWrong : ChangeSpec := { name := "topChalkParted", fn := fun _ => fun
  | [d] => { results := [.lit (.bool false)], args := [d] }
  | _ => none }
def TopChalkPartedWrongFalsely : Prop := topChalkPartedRow.holds Tryz.pinned (OpenSpec.ofChange topChalkPartedWrong)

/-- 'cruxtop.TopChalkQualified': WHATEVER THE INPUT: true; the input reads as it did. -/
def topChalkQualifiedSpec : ChangeSpec := { name := "topChalkQualified", fn := fun _ => fun
  | [d1, d2, d3] => { results := [.lit (.bool true)], args := [d1, d2, d3] }
  | _ => none }
def topChalkQualifiedRow : OpenClaim := { program := "ytlnejpgfiopjjaagreat", sum := "d9ce0eaa3c5ba3fc3e6574d784a9f1ca157b1b15a0007d618c5d5bf0a8930d72", func := "crux/cruxtop.TopChalkQualified", spec := "topChalkQualified", unfollowed := true, recurses := true, apart := false }
def TopChalkQualifiedSaid : Prop := topChalkQualifiedRow.holds Tryz.pinned (OpenSpec.ofChange topChalkQualifiedSpec)

/-- ITS FALSE NEIGHBOUR: 'it returns false'. Refute it at one input. -/
def topChalkQualifiedWrong : ChangeSpec := { name := "topChalkQualified", fn := fun _ => fun
  | [d1, d2, d3] => { results := [.lit (.bool false)], args := [d1, d2, d3] }
  | _ => none }
def TopChalkQualifiedWrongFalsely : Prop := topChalkQualifiedRow.holds Tryz.pinned (OpenSpec.ofChange topChalkQualifiedWrong)

/-- 'cruxtop.TopFlakeCompletions': WHATEVER THE INPUT: true; the input reads as it did. -/
def topFlakeCompletionsSpec : ChangeSpec := { name := "topFlakeCompletions", fn := fun _ => fun
  | [d1, d2] => { results := [.lit (.bool true)], args := [d1, d2] }
  | _ => none }
def topFlakeCompletionsRow : OpenClaim := { program := "ytlnejpgfiopjjaagreat", sum := "d9ce0eaa3c5ba3fc3e6574d784a9f1ca157b1b15a0007d618c5d5bf0a8930d72", func := "crux/cruxtop.TopFlakeCompletions", spec := "topFlakeCompletions", unfollowed := true, recurses := true, apart := false }
def TopFlakeCompletionsSaid : Prop := topFlakeCompletionsRow.holds Tryz.pinned (OpenSpec.ofChange topFlakeCompletionsSpec)

/-- ITS FALSE NEIGHBOUR: 'it returns false'. Refute it at one input. -/
def topFlakeCompletionsWrong : ChangeSpec := { name := "topFlakeCompletions", fn := fun _ => fun
  | [d1, d2] => { results := [.lit (.bool false)], args := [d1, d2] }
  | _ => none }
def TopFlakeCompletionsWrongFalsely : Prop := topFlakeCompletionsRow.holds Tryz.pinned (OpenSpec.ofChange topFlakeCompletionsWrong)

/-- 'cruxtop.TopFlakeOutcomes': WHATEVER THE INPUT: true; the input reads as it did. -/
def topFlakeOutcomesSpec : ChangeSpec := { name := "topFlakeOutcomes", fn := fun _ => fun
  | [d1, d2] => { results := [.lit (.bool true)], args := [d1, d2] }
  | _ => none }
def topFlakeOutcomesRow : OpenClaim := { program := "ytlnejpgfiopjjaagreat", sum := "d9ce0eaa3c5ba3fc3e6574d784a9f1ca157b1b15a0007d618c5d5bf0a8930d72", func := "crux/cruxtop.TopFlakeOutcomes", spec := "topFlakeOutcomes", unfollowed := true, recurses := true, apart := false }
def TopFlakeOutcomesSaid : Prop := topFlakeOutcomesRow.holds Tryz.pinned (OpenSpec.ofChange topFlakeOutcomesSpec)

/-- ITS FALSE NEIGHBOUR: 'it returns false'. Refute it at one input. -/
def topFlakeOutcomesWrong : ChangeSpec := { name := "topFlakeOutcomes", fn := fun _ => fun
  | [d1, d2] => { results := [.lit (.bool false)], args := [d1, d2] }
  | _ => none }
def TopFlakeOutcomesWrongFalsely : Prop := topFlakeOutcomesRow.holds Tryz.pinned (OpenSpec.ofChange topFlakeOutcomesWrong)

/-- 'cruxtop.TopFlakeRanks': WHATEVER THE INPUT: true; the input reads as it did. -/
def topFlakeRanksSpec : ChangeSpec := { name := "topFlakeRanks", fn := fun _ => fun
  | [d1, d2] => { results := [.lit (.bool true)], args := [d1, d2] }
  | _ => none }
def topFlakeRanksRow : OpenClaim := { program := "ytlnejpgfiopjjaagreat", sum := "d9ce0eaa3c5ba3fc3e6574d784a9f1ca157b1b15a0007d618c5d5bf0a8930d72", func := "crux/cruxtop.TopFlakeRanks", spec := "topFlakeRanks", unfollowed := true, recurses := true, apart := false }
def TopFlakeRanksSaid : Prop := topFlakeRanksRow.holds Tryz.pinned (OpenSpec.ofChange topFlakeRanksSpec)

/-- ITS FALSE NEIGHBOUR: 'it returns false'. Refute it at one input. -/
def topFlakeRanksWrong : ChangeSpec := { name := "topFlakeRanks", fn := fun _ => fun
  | [d1, d2] => { results := [.lit (.bool false)], args := [d1, d2] }
  | _ => none }
def TopFlakeRanksWrongFalsely : Prop := topFlakeRanksRow.holds Tryz.pinned (OpenSpec.ofChange topFlakeRanksWrong)

/- THE SECOND FORM. 'bulk': how many values and letters a reading holds, each counted each time it is reached (what is shared counts as often as it is met; a slice's spare places count too). A statement '..UptoSaid' is the law's where the arguments, and the package variables that the reading takes, are together of bulk at most 1048576: NARROWER than '..Said'. Prove '..Said' where nothing that the law and all that it calls make is longer than what came in: it says more and counts as full. Else prove '..UptoSaid'. A law counts once. -/
mutual
def uptoBulk {H : Type} : DataW H → Nat
  | .lit (.string bytes) => bytes.length + 1
  | .lit _ => 1
  | .nil => 1
  | .ptr d => uptoBulk d + 1
  | .slice elems spare => uptoBulkAll elems + uptoBulkAll spare + 1
  | .agg parts => uptoBulkAll parts + 1
  | .iface _ d => uptoBulk d + 1
  | .map entries => uptoBulkEntries entries + 1
  | .held _ => 1
def uptoBulkAll {H : Type} : List (DataW H) → Nat
  | [] => 0
  | d :: r => uptoBulk d + uptoBulkAll r
def uptoBulkEntries {H : Type} : List (Lit × DataW H) → Nat
  | [] => 0
  | x :: r => uptoBulkEntry x + uptoBulkEntries r
def uptoBulkEntry {H : Type} : Lit × DataW H → Nat
  | (.string bytes, d) => bytes.length + uptoBulk d + 1
  | (_, d) => uptoBulk d + 1
 end
def uptoSmall : (H : Type) → List (DataW H) → Bool := fun _ ds => decide (uptoBulkAll ds ≤ 1048576)
def OpenSpec.upto (s : _root_.Go.ChangeSpec) : _root_.Go.OpenSpec := { _root_.Go.OpenSpec.ofChange s with cond := some uptoSmall }

/-- 'cruxtop.TopChalkDuels', WHERE WHAT IT READS IS OF BULK AT MOST 1048576: true; the input reads as it did. -/
def topChalkDuelsUptoRow : OpenClaim := { program := "ytlnejpgfiopjjaagreat", sum := "d9ce0eaa3c5ba3fc3e6574d784a9f1ca157b1b15a0007d618c5d5bf0a8930d72", func := "crux/cruxtop.TopChalkDuels", spec := "topChalkDuels", unfollowed := true, recurses := true, apart := false, narrowed := true }
def TopChalkDuelsUptoSaid : Prop := topChalkDuelsUptoRow.holds Tryz.pinned (OpenSpec.upto topChalkDuelsSpec)

/-- 'cruxtop.TopChalkParted', WHERE WHAT IT READS IS OF BULK AT MOST 1048576: true; the input reads as it did. -/
def topChalkPartedUptoRow : OpenClaim := { program := "ytlnejpgfiopjjaagreat", sum := "d9ce0eaa3c5ba3fc3e6574d784a9f1ca157b1b15a0007d618c5d5bf0a8930d72", func := "crux/cruxtop.TopChalkParted", spec := "topChalkParted", unfollowed := true, recurses := true, apart := false, narrowed := true }
def TopChalkPartedUptoSaid : Prop := topChalkPartedUptoRow.holds Tryz.pinned (OpenSpec.upto topChalkPartedSpec)

/-- 'cruxtop.TopChalkQualified', WHERE WHAT IT READS IS OF BULK AT MOST 1048576: true; the input reads as it did. -/
def topChalkQualifiedUptoRow : OpenClaim := { program := "ytlnejpgfiopjjaagreat", sum := "d9ce0eaa3c5ba3fc3e6574d784a9f1ca157b1b15a0007d618c5d5bf0a8930d72", func := "crux/cruxtop.TopChalkQualified", spec := "topChalkQualified", unfollowed := true, recurses := true, apart := false, narrowed := true }
def TopChalkQualifiedUptoSaid : Prop := topChalkQualifiedUptoRow.holds Tryz.pinned (OpenSpec.upto topChalkQualifiedSpec)

/-- 'cruxtop.TopFlakeCompletions', WHERE WHAT IT READS IS OF BULK AT MOST 1048576: true; the input reads as it did. -/
def topFlakeCompletionsUptoRow : OpenClaim := { program := "ytlnejpgfiopjjaagreat", sum := "d9ce0eaa3c5ba3fc3e6574d784a9f1ca157b1b15a0007d618c5d5bf0a8930d72", func := "crux/cruxtop.TopFlakeCompletions", spec := "topFlakeCompletions", unfollowed := true, recurses := true, apart := false, narrowed := true }
def TopFlakeCompletionsUptoSaid : Prop := topFlakeCompletionsUptoRow.holds Tryz.pinned (OpenSpec.upto topFlakeCompletionsSpec)

/-- 'cruxtop.TopFlakeOutcomes', WHERE WHAT IT READS IS OF BULK AT MOST 1048576: true; the input reads as it did. -/
def topFlakeOutcomesUptoRow : OpenClaim := { program := "ytlnejpgfiopjjaagreat", sum := "d9ce0eaa3c5ba3fc3e6574d784a9f1ca157b1b15a0007d618c5d5bf0a8930d72", func := "crux/cruxtop.TopFlakeOutcomes", spec := "topFlakeOutcomes", unfollowed := true, recurses := true, apart := false, narrowed := true }
def TopFlakeOutcomesUptoSaid : Prop := topFlakeOutcomesUptoRow.holds Tryz.pinned (OpenSpec.upto topFlakeOutcomesSpec)

/-- 'cruxtop.TopFlakeRanks', WHERE WHAT IT READS IS OF BULK AT MOST 1048576: true; the input reads as it did. -/
def topFlakeRanksUptoRow : OpenClaim := { program := "ytlnejpgfiopjjaagreat", sum := "d9ce0eaa3c5ba3fc3e6574d784a9f1ca157b1b15a0007d618c5d5bf0a8930d72", func := "crux/cruxtop.TopFlakeRanks", spec := "topFlakeRanks", unfollowed := true, recurses := true, apart := false, narrowed := true }
def TopFlakeRanksUptoSaid : Prop := topFlakeRanksUptoRow.holds Tryz.pinned (OpenSpec.upto topFlakeRanksSpec)

end Rows
end Go.Proofs.YtlnejpgfiopjjaaGreat
