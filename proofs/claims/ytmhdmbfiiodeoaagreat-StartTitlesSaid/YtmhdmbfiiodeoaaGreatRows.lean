/-
  No cell of these rows narrows 'for every input' (looked for: loops, veiled, ifaces, maps, wideKeys, modest, calm, conditions, laid).
  DERIVED. THE GIVEN ROWS OF THIS SEAT. 12 by the template 'for every input the law returns true; each argument reads behind the call as it read before'; 0 by the template 'total and deterministic' (their statements: YtmhdmbfiiodeoaaGreatTotals.lean).
  GIVEN WITH THE SEED: the statements are not yours to turn. If you find one false, say at which input.
  Laid BY PROGRAM, IN A SANDBOX (cutbox-rows.mjs): the forced cells as the released guide's own fill.sh prints them over the translation 0a4bcae1b6697f0d… (all of the seat's roots in one cut). By AI agents, Wed Nov 11 2026. No macro, syntax, notation, axiom, sorry.
-/
import Derived.Test.YtmhdmbfiiodeoaaGreatChecked
import GoSem.Claim
import GoSem.ClaimJoined
import GoSem.ClaimMapViews
import Derived.JoinedTies
import Derived.KernelRfl
namespace Go.Proofs.YtmhdmbfiiodeoaaGreat
/- THE CELL 'sum', in the pinned program and in every row, IS THE sha256 OF THE DUMP (.gsa) THAT YtmhdmbfiiodeoaaGreatProg.lean LOADS. Nothing in Lean hashes anything: it is a label: what it is worth is what the hold of that sum in a sandbox is worth. -/
noncomputable def Tryz.pinned : Pinned := { name := "ytmhdmbfiiodeoaagreat", sum := "0a4bcae1b6697f0d21b576342750c4cf9fe2148bae55d0f63a1818674d45ae6d", checked := Tryz.checked }
namespace Rows
def none {H : Type} : Left H := { results := [], args := [] }

/-- 'cruxlaw06.StartLists': WHATEVER THE INPUT: true; the input reads as it did. -/
def startListsSpec : ChangeSpec := { name := "startLists", fn := fun _ => fun
  | [d1, d2, d3] => { results := [.lit (.bool true)], args := [d1, d2, d3] }
  | _ => none }
def startListsRow : OpenClaim := { program := "ytmhdmbfiiodeoaagreat", sum := "0a4bcae1b6697f0d21b576342750c4cf9fe2148bae55d0f63a1818674d45ae6d", func := "crux/cruxlaw06.StartLists", spec := "startLists", unfollowed := true, recurses := true, apart := false }
def StartListsSaid : Prop := startListsRow.holds Tryz.pinned (OpenSpec.ofChange startListsSpec)

/-- ITS FALSE NEIGHBOUR: 'it returns false'. Refute it at one input. -/
def startListsWrong : ChangeSpec := { name := "startLists", fn := fun _ => fun
  | [d1, d2, d3] => { results := [.lit (.bool false)], args := [d1, d2, d3] }
  | _ => none }
def StartListsWrongFalsely : Prop := startListsRow.holds Tryz.pinned (OpenSpec.ofChange startListsWrong)

/-- 'cruxlaw06.StartNations': WHATEVER THE INPUT: true; the input reads as it did. -/
def startNationsSpec : ChangeSpec := { name := "startNations", fn := fun _ => fun
  | [d1, d2] => { results := [.lit (.bool true)], args := [d1, d2] }
  | _ => none }
def startNationsRow : OpenClaim := { program := "ytmhdmbfiiodeoaagreat", sum := "0a4bcae1b6697f0d21b576342750c4cf9fe2148bae55d0f63a1818674d45ae6d", func := "crux/cruxlaw06.StartNations", spec := "startNations", unfollowed := true, recurses := true, apart := false }
def StartNationsSaid : Prop := startNationsRow.holds Tryz.pinned (OpenSpec.ofChange startNationsSpec)

/-- ITS FALSE NEIGHBOUR: 'it returns false'. Refute it at one input. -/
def startNationsWrong : ChangeSpec := { name := "startNations", fn := fun _ => fun
  | [d1, d2] => { results := [.lit (.bool false)], args := [d1, d2] }
  | _ => none }
def StartNationsWrongFalsely : Prop := startNationsRow.holds Tryz.pinned (OpenSpec.ofChange startNationsWrong)

/-- 'cruxlaw06.StartCalls': WHATEVER THE INPUT: true; the input reads as it did. -/
def startCallsSpec : ChangeSpec := { name := "startCalls", fn := fun _ => fun
  | [d1, d2] => { results := [.lit (.bool true)], args := [d1, d2] }
  | _ => none }
def startCallsRow : OpenClaim := { program := "ytmhdmbfiiodeoaagreat", sum := "0a4bcae1b6697f0d21b576342750c4cf9fe2148bae55d0f63a1818674d45ae6d", func := "crux/cruxlaw06.StartCalls", spec := "startCalls", unfollowed := true, recurses := true, apart := false }
def StartCallsSaid : Prop := startCallsRow.holds Tryz.pinned (OpenSpec.ofChange startCallsSpec)

/-- ITS FALSE NEIGHBOUR: 'it returns false'. Refute it at one input. -/
def startCallsWrong : ChangeSpec := { name := "startCalls", fn := fun _ => fun
  | [d1, d2] => { results := [.lit (.bool false)], args := [d1, d2] }
  | _ => none }
def StartCallsWrongFalsely : Prop := startCallsRow.holds Tryz.pinned (OpenSpec.ofChange startCallsWrong)

/-- 'cruxlaw06.StartBrackets': WHATEVER THE INPUT: true; the input reads as it did. -/
def startBracketsSpec : ChangeSpec := { name := "startBrackets", fn := fun _ => fun
  | [d1, d2, d3] => { results := [.lit (.bool true)], args := [d1, d2, d3] }
  | _ => none }
def startBracketsRow : OpenClaim := { program := "ytmhdmbfiiodeoaagreat", sum := "0a4bcae1b6697f0d21b576342750c4cf9fe2148bae55d0f63a1818674d45ae6d", func := "crux/cruxlaw06.StartBrackets", spec := "startBrackets", unfollowed := true, recurses := true, apart := false }
def StartBracketsSaid : Prop := startBracketsRow.holds Tryz.pinned (OpenSpec.ofChange startBracketsSpec)

/-- ITS FALSE NEIGHBOUR: 'it returns false'. Refute it at one input. -/
def startBracketsWrong : ChangeSpec := { name := "startBrackets", fn := fun _ => fun
  | [d1, d2, d3] => { results := [.lit (.bool false)], args := [d1, d2, d3] }
  | _ => none }
def StartBracketsWrongFalsely : Prop := startBracketsRow.holds Tryz.pinned (OpenSpec.ofChange startBracketsWrong)

/-- 'cruxlaw06.StartRaces': WHATEVER THE INPUT: true; the input reads as it did. -/
def startRacesSpec : ChangeSpec := { name := "startRaces", fn := fun _ => fun
  | [d] => { results := [.lit (.bool true)], args := [d] }
  | _ => none }
def startRacesRow : OpenClaim := { program := "ytmhdmbfiiodeoaagreat", sum := "0a4bcae1b6697f0d21b576342750c4cf9fe2148bae55d0f63a1818674d45ae6d", func := "crux/cruxlaw06.StartRaces", spec := "startRaces", unfollowed := true, recurses := true, apart := false }
def StartRacesSaid : Prop := startRacesRow.holds Tryz.pinned (OpenSpec.ofChange startRacesSpec)

/-- ITS FALSE NEIGHBOUR: 'it returns false'. Refute it at one input. -/
def startRacesWrong : ChangeSpec := { name := "startRaces", fn := fun _ => fun
  | [d] => { results := [.lit (.bool false)], args := [d] }
  | _ => none }
def StartRacesWrongFalsely : Prop := startRacesRow.holds Tryz.pinned (OpenSpec.ofChange startRacesWrong)

/-- 'cruxlaw06.StartPlaces': WHATEVER THE INPUT: true; the input reads as it did. -/
def startPlacesSpec : ChangeSpec := { name := "startPlaces", fn := fun _ => fun
  | [d1, d2, d3] => { results := [.lit (.bool true)], args := [d1, d2, d3] }
  | _ => none }
def startPlacesRow : OpenClaim := { program := "ytmhdmbfiiodeoaagreat", sum := "0a4bcae1b6697f0d21b576342750c4cf9fe2148bae55d0f63a1818674d45ae6d", func := "crux/cruxlaw06.StartPlaces", spec := "startPlaces", unfollowed := true, recurses := true, apart := false }
def StartPlacesSaid : Prop := startPlacesRow.holds Tryz.pinned (OpenSpec.ofChange startPlacesSpec)

/-- ITS FALSE NEIGHBOUR: 'it returns false'. Refute it at one input. -/
def startPlacesWrong : ChangeSpec := { name := "startPlaces", fn := fun _ => fun
  | [d1, d2, d3] => { results := [.lit (.bool false)], args := [d1, d2, d3] }
  | _ => none }
def StartPlacesWrongFalsely : Prop := startPlacesRow.holds Tryz.pinned (OpenSpec.ofChange startPlacesWrong)

/-- 'cruxlaw06.StartForwards': WHATEVER THE INPUT: true; the input reads as it did. -/
def startForwardsSpec : ChangeSpec := { name := "startForwards", fn := fun _ => fun
  | [d1, d2, d3] => { results := [.lit (.bool true)], args := [d1, d2, d3] }
  | _ => none }
def startForwardsRow : OpenClaim := { program := "ytmhdmbfiiodeoaagreat", sum := "0a4bcae1b6697f0d21b576342750c4cf9fe2148bae55d0f63a1818674d45ae6d", func := "crux/cruxlaw06.StartForwards", spec := "startForwards", unfollowed := true, recurses := true, apart := false }
def StartForwardsSaid : Prop := startForwardsRow.holds Tryz.pinned (OpenSpec.ofChange startForwardsSpec)

/-- ITS FALSE NEIGHBOUR: 'it returns false'. Refute it at one input. -/
def startForwardsWrong : ChangeSpec := { name := "startForwards", fn := fun _ => fun
  | [d1, d2, d3] => { results := [.lit (.bool false)], args := [d1, d2, d3] }
  | _ => none }
def StartForwardsWrongFalsely : Prop := startForwardsRow.holds Tryz.pinned (OpenSpec.ofChange startForwardsWrong)

/-- 'cruxlaw06.StartSpreads': WHATEVER THE INPUT: true; the input reads as it did. -/
def startSpreadsSpec : ChangeSpec := { name := "startSpreads", fn := fun _ => fun
  | [d1, d2, d3] => { results := [.lit (.bool true)], args := [d1, d2, d3] }
  | _ => none }
def startSpreadsRow : OpenClaim := { program := "ytmhdmbfiiodeoaagreat", sum := "0a4bcae1b6697f0d21b576342750c4cf9fe2148bae55d0f63a1818674d45ae6d", func := "crux/cruxlaw06.StartSpreads", spec := "startSpreads", unfollowed := true, recurses := true, apart := false }
def StartSpreadsSaid : Prop := startSpreadsRow.holds Tryz.pinned (OpenSpec.ofChange startSpreadsSpec)

/-- ITS FALSE NEIGHBOUR: 'it returns false'. Refute it at one input. -/
def startSpreadsWrong : ChangeSpec := { name := "startSpreads", fn := fun _ => fun
  | [d1, d2, d3] => { results := [.lit (.bool false)], args := [d1, d2, d3] }
  | _ => none }
def StartSpreadsWrongFalsely : Prop := startSpreadsRow.holds Tryz.pinned (OpenSpec.ofChange startSpreadsWrong)

/-- 'cruxlaw06.StartSeeds': WHATEVER THE INPUT: true; the input reads as it did. -/
def startSeedsSpec : ChangeSpec := { name := "startSeeds", fn := fun _ => fun
  | [d1, d2] => { results := [.lit (.bool true)], args := [d1, d2] }
  | _ => none }
def startSeedsRow : OpenClaim := { program := "ytmhdmbfiiodeoaagreat", sum := "0a4bcae1b6697f0d21b576342750c4cf9fe2148bae55d0f63a1818674d45ae6d", func := "crux/cruxlaw06.StartSeeds", spec := "startSeeds", unfollowed := true, recurses := true, apart := false }
def StartSeedsSaid : Prop := startSeedsRow.holds Tryz.pinned (OpenSpec.ofChange startSeedsSpec)

/-- ITS FALSE NEIGHBOUR: 'it returns false'. Refute it at one input. -/
def startSeedsWrong : ChangeSpec := { name := "startSeeds", fn := fun _ => fun
  | [d1, d2] => { results := [.lit (.bool false)], args := [d1, d2] }
  | _ => none }
def StartSeedsWrongFalsely : Prop := startSeedsRow.holds Tryz.pinned (OpenSpec.ofChange startSeedsWrong)

/-- 'cruxlaw06.StartTitles': WHATEVER THE INPUT: true; the input reads as it did. -/
def startTitlesSpec : ChangeSpec := { name := "startTitles", fn := fun _ => fun
  | [d1, d2] => { results := [.lit (.bool true)], args := [d1, d2] }
  | _ => none }
def startTitlesRow : OpenClaim := { program := "ytmhdmbfiiodeoaagreat", sum := "0a4bcae1b6697f0d21b576342750c4cf9fe2148bae55d0f63a1818674d45ae6d", func := "crux/cruxlaw06.StartTitles", spec := "startTitles", unfollowed := true, recurses := true, apart := false }
def StartTitlesSaid : Prop := startTitlesRow.holds Tryz.pinned (OpenSpec.ofChange startTitlesSpec)

/-- ITS FALSE NEIGHBOUR: 'it returns false'. Refute it at one input. -/
def startTitlesWrong : ChangeSpec := { name := "startTitles", fn := fun _ => fun
  | [d1, d2] => { results := [.lit (.bool false)], args := [d1, d2] }
  | _ => none }
def StartTitlesWrongFalsely : Prop := startTitlesRow.holds Tryz.pinned (OpenSpec.ofChange startTitlesWrong)

/-- 'cruxlaw06.StartDuels': WHATEVER THE INPUT: true; the input reads as it did. -/
def startDuelsSpec : ChangeSpec := { name := "startDuels", fn := fun _ => fun
  | [d1, d2, d3] => { results := [.lit (.bool true)], args := [d1, d2, d3] }
  | _ => none }
def startDuelsRow : OpenClaim := { program := "ytmhdmbfiiodeoaagreat", sum := "0a4bcae1b6697f0d21b576342750c4cf9fe2148bae55d0f63a1818674d45ae6d", func := "crux/cruxlaw06.StartDuels", spec := "startDuels", unfollowed := true, recurses := true, apart := false }
def StartDuelsSaid : Prop := startDuelsRow.holds Tryz.pinned (OpenSpec.ofChange startDuelsSpec)

/-- ITS FALSE NEIGHBOUR: 'it returns false'. Refute it at one input. -/
def startDuelsWrong : ChangeSpec := { name := "startDuels", fn := fun _ => fun
  | [d1, d2, d3] => { results := [.lit (.bool false)], args := [d1, d2, d3] }
  | _ => none }
def StartDuelsWrongFalsely : Prop := startDuelsRow.holds Tryz.pinned (OpenSpec.ofChange startDuelsWrong)

/-- 'cruxlaw06.StartGoes': WHATEVER THE INPUT: true; the input reads as it did. -/
def startGoesSpec : ChangeSpec := { name := "startGoes", fn := fun _ => fun
  | [d1, d2, d3] => { results := [.lit (.bool true)], args := [d1, d2, d3] }
  | _ => none }
def startGoesRow : OpenClaim := { program := "ytmhdmbfiiodeoaagreat", sum := "0a4bcae1b6697f0d21b576342750c4cf9fe2148bae55d0f63a1818674d45ae6d", func := "crux/cruxlaw06.StartGoes", spec := "startGoes", unfollowed := true, recurses := true, apart := false }
def StartGoesSaid : Prop := startGoesRow.holds Tryz.pinned (OpenSpec.ofChange startGoesSpec)

/-- ITS FALSE NEIGHBOUR: 'it returns false'. Refute it at one input. -/
def startGoesWrong : ChangeSpec := { name := "startGoes", fn := fun _ => fun
  | [d1, d2, d3] => { results := [.lit (.bool false)], args := [d1, d2, d3] }
  | _ => none }
def StartGoesWrongFalsely : Prop := startGoesRow.holds Tryz.pinned (OpenSpec.ofChange startGoesWrong)

/- THE SECOND FORM. 'bulk': how many values and letters a reading holds, each counted each time it is reached (what is shared counts as often as it is met; a slice's spare places count too). A statement '..UptoSaid' is the law's where the arguments, and the package variables that the reading takes, are together of bulk at most 1048576: NARROWER than '..Said'. Prove '..Said' where nothing that the law and all that it calls make is longer than what came in: it says more and counts as full. Else prove '..UptoSaid'. A law counts once. -/
mutual
def uptoBulk {H : Type} : DataW H → Nat
  | .lit (.string bytes) => bytes.length + 1
  | .lit _ => 1
  | .nil => 1
  | .ptr d => uptoBulk d + 1
  | .slice elems spare => uptoBulkAll elems + uptoBulkAll spare + 1
  | .agg parts => uptoBulkAll parts + 1
  | .iface _ d => uptoBulk d + 1
  | .map entries => uptoBulkEntries entries + 1
  | .held _ => 1
def uptoBulkAll {H : Type} : List (DataW H) → Nat
  | [] => 0
  | d :: r => uptoBulk d + uptoBulkAll r
def uptoBulkEntries {H : Type} : List (Lit × DataW H) → Nat
  | [] => 0
  | x :: r => uptoBulkEntry x + uptoBulkEntries r
def uptoBulkEntry {H : Type} : Lit × DataW H → Nat
  | (.string bytes, d) => bytes.length + uptoBulk d + 1
  | (_, d) => uptoBulk d + 1
 end
def uptoSmall : (H : Type) → List (DataW H) → Bool := fun _ ds => decide (uptoBulkAll ds ≤ 1048576)
def OpenSpec.upto (s : _root_.Go.ChangeSpec) : _root_.Go.OpenSpec := { _root_.Go.OpenSpec.ofChange s with cond := some uptoSmall }

/-- 'cruxlaw06.StartLists', WHERE WHAT IT READS IS OF BULK AT MOST 1048576: true; the input reads as it did. -/
def startListsUptoRow : OpenClaim := { program := "ytmhdmbfiiodeoaagreat", sum := "0a4bcae1b6697f0d21b576342750c4cf9fe2148bae55d0f63a1818674d45ae6d", func := "crux/cruxlaw06.StartLists", spec := "startLists", unfollowed := true, recurses := true, apart := false, narrowed := true }
def StartListsUptoSaid : Prop := startListsUptoRow.holds Tryz.pinned (OpenSpec.upto startListsSpec)

/-- 'cruxlaw06.StartNations', WHERE WHAT IT READS IS OF BULK AT MOST 1048576: true; the input reads as it did. -/
def startNationsUptoRow : OpenClaim := { program := "ytmhdmbfiiodeoaagreat", sum := "0a4bcae1b6697f0d21b576342750c4cf9fe2148bae55d0f63a1818674d45ae6d", func := "crux/cruxlaw06.StartNations", spec := "startNations", unfollowed := true, recurses := true, apart := false, narrowed := true }
def StartNationsUptoSaid : Prop := startNationsUptoRow.holds Tryz.pinned (OpenSpec.upto startNationsSpec)

/-- 'cruxlaw06.StartCalls', WHERE WHAT IT READS IS OF BULK AT MOST 1048576: true; the input reads as it did. -/
def startCallsUptoRow : OpenClaim := { program := "ytmhdmbfiiodeoaagreat", sum := "0a4bcae1b6697f0d21b576342750c4cf9fe2148bae55d0f63a1818674d45ae6d", func := "crux/cruxlaw06.StartCalls", spec := "startCalls", unfollowed := true, recurses := true, apart := false, narrowed := true }
def StartCallsUptoSaid : Prop := startCallsUptoRow.holds Tryz.pinned (OpenSpec.upto startCallsSpec)

/-- 'cruxlaw06.StartBrackets', WHERE WHAT IT READS IS OF BULK AT MOST 1048576: true; the input reads as it did. -/
def startBracketsUptoRow : OpenClaim := { program := "ytmhdmbfiiodeoaagreat", sum := "0a4bcae1b6697f0d21b576342750c4cf9fe2148bae55d0f63a1818674d45ae6d", func := "crux/cruxlaw06.StartBrackets", spec := "startBrackets", unfollowed := true, recurses := true, apart := false, narrowed := true }
def StartBracketsUptoSaid : Prop := startBracketsUptoRow.holds Tryz.pinned (OpenSpec.upto startBracketsSpec)

/-- 'cruxlaw06.StartRaces', WHERE WHAT IT READS IS OF BULK AT MOST 1048576: true; the input reads as it did. -/
def startRacesUptoRow : OpenClaim := { program := "ytmhdmbfiiodeoaagreat", sum := "0a4bcae1b6697f0d21b576342750c4cf9fe2148bae55d0f63a1818674d45ae6d", func := "crux/cruxlaw06.StartRaces", spec := "startRaces", unfollowed := true, recurses := true, apart := false, narrowed := true }
def StartRacesUptoSaid : Prop := startRacesUptoRow.holds Tryz.pinned (OpenSpec.upto startRacesSpec)

/-- 'cruxlaw06.StartPlaces', WHERE WHAT IT READS IS OF BULK AT MOST 1048576: true; the input reads as it did. -/
def startPlacesUptoRow : OpenClaim := { program := "ytmhdmbfiiodeoaagreat", sum := "0a4bcae1b6697f0d21b576342750c4cf9fe2148bae55d0f63a1818674d45ae6d", func := "crux/cruxlaw06.StartPlaces", spec := "startPlaces", unfollowed := true, recurses := true, apart := false, narrowed := true }
def StartPlacesUptoSaid : Prop := startPlacesUptoRow.holds Tryz.pinned (OpenSpec.upto startPlacesSpec)

/-- 'cruxlaw06.StartForwards', WHERE WHAT IT READS IS OF BULK AT MOST 1048576: true; the input reads as it did. -/
def startForwardsUptoRow : OpenClaim := { program := "ytmhdmbfiiodeoaagreat", sum := "0a4bcae1b6697f0d21b576342750c4cf9fe2148bae55d0f63a1818674d45ae6d", func := "crux/cruxlaw06.StartForwards", spec := "startForwards", unfollowed := true, recurses := true, apart := false, narrowed := true }
def StartForwardsUptoSaid : Prop := startForwardsUptoRow.holds Tryz.pinned (OpenSpec.upto startForwardsSpec)

/-- 'cruxlaw06.StartSpreads', WHERE WHAT IT READS IS OF BULK AT MOST 1048576: true; the input reads as it did. -/
def startSpreadsUptoRow : OpenClaim := { program := "ytmhdmbfiiodeoaagreat", sum := "0a4bcae1b6697f0d21b576342750c4cf9fe2148bae55d0f63a1818674d45ae6d", func := "crux/cruxlaw06.StartSpreads", spec := "startSpreads", unfollowed := true, recurses := true, apart := false, narrowed := true }
def StartSpreadsUptoSaid : Prop := startSpreadsUptoRow.holds Tryz.pinned (OpenSpec.upto startSpreadsSpec)

/-- 'cruxlaw06.StartSeeds', WHERE WHAT IT READS IS OF BULK AT MOST 1048576: true; the input reads as it did. -/
def startSeedsUptoRow : OpenClaim := { program := "ytmhdmbfiiodeoaagreat", sum := "0a4bcae1b6697f0d21b576342750c4cf9fe2148bae55d0f63a1818674d45ae6d", func := "crux/cruxlaw06.StartSeeds", spec := "startSeeds", unfollowed := true, recurses := true, apart := false, narrowed := true }
def StartSeedsUptoSaid : Prop := startSeedsUptoRow.holds Tryz.pinned (OpenSpec.upto startSeedsSpec)

/-- 'cruxlaw06.StartTitles', WHERE WHAT IT READS IS OF BULK AT MOST 1048576: true; the input reads as it did. -/
def startTitlesUptoRow : OpenClaim := { program := "ytmhdmbfiiodeoaagreat", sum := "0a4bcae1b6697f0d21b576342750c4cf9fe2148bae55d0f63a1818674d45ae6d", func := "crux/cruxlaw06.StartTitles", spec := "startTitles", unfollowed := true, recurses := true, apart := false, narrowed := true }
def StartTitlesUptoSaid : Prop := startTitlesUptoRow.holds Tryz.pinned (OpenSpec.upto startTitlesSpec)

/-- 'cruxlaw06.StartDuels', WHERE WHAT IT READS IS OF BULK AT MOST 1048576: true; the input reads as it did. -/
def startDuelsUptoRow : OpenClaim := { program := "ytmhdmbfiiodeoaagreat", sum := "0a4bcae1b6697f0d21b576342750c4cf9fe2148bae55d0f63a1818674d45ae6d", func := "crux/cruxlaw06.StartDuels", spec := "startDuels", unfollowed := true, recurses := true, apart := false, narrowed := true }
def StartDuelsUptoSaid : Prop := startDuelsUptoRow.holds Tryz.pinned (OpenSpec.upto startDuelsSpec)

/-- 'cruxlaw06.StartGoes', WHERE WHAT IT READS IS OF BULK AT MOST 1048576: true; the input reads as it did. -/
def startGoesUptoRow : OpenClaim := { program := "ytmhdmbfiiodeoaagreat", sum := "0a4bcae1b6697f0d21b576342750c4cf9fe2148bae55d0f63a1818674d45ae6d", func := "crux/cruxlaw06.StartGoes", spec := "startGoes", unfollowed := true, recurses := true, apart := false, narrowed := true }
def StartGoesUptoSaid : Prop := startGoesUptoRow.holds Tryz.pinned (OpenSpec.upto startGoesSpec)

end Rows
end Go.Proofs.YtmhdmbfiiodeoaaGreat
