/-
  No cell of these rows narrows 'for every input' (looked for: loops, veiled, ifaces, maps, wideKeys, modest, calm, conditions, laid).
  DERIVED. THE GIVEN ROWS OF THIS SEAT. 10 by the template 'for every input the law returns true; each argument reads behind the call as it read before'; 0 by the template 'total and deterministic' (their statements: YteihlaoeolfkfaaGreatTotals.lean).
  GIVEN WITH THE SEED: the statements are not yours to turn. If you find one false, say at which input.
  Laid BY PROGRAM, IN A SANDBOX (cutbox-rows.mjs): the forced cells as the released guide's own fill.sh prints them over the translation 6edd9e4eb95fd989… (all of the seat's roots in one cut). By AI agents, Wed Nov 11 2026. No macro, syntax, notation, axiom, sorry.
-/
import Derived.Test.YteihlaoeolfkfaaGreatChecked
import GoSem.Claim
import GoSem.ClaimJoined
import GoSem.ClaimMapViews
import Derived.JoinedTies
import Derived.KernelRfl
namespace Go.Proofs.YteihlaoeolfkfaaGreat
/- THE CELL 'sum', in the pinned program and in every row, IS THE sha256 OF THE DUMP (.gsa) THAT YteihlaoeolfkfaaGreatProg.lean LOADS. Nothing in Lean hashes anything: it is a label: what it is worth is what the hold of that sum in a sandbox is worth. -/
noncomputable def Tryz.pinned : Pinned := { name := "yteihlaoeolfkfaagreat", sum := "6edd9e4eb95fd9897ca2558c96413b6c5bb4dd333aefe924bdf6c61f7c1b90e0", checked := Tryz.checked }
namespace Rows
def none {H : Type} : Left H := { results := [], args := [] }

/-- 'cruxlaw09.MemberLicences': WHATEVER THE INPUT: true; the input reads as it did. -/
def memberLicencesSpec : ChangeSpec := { name := "memberLicences", fn := fun _ => fun
  | [d1, d2, d3] => { results := [.lit (.bool true)], args := [d1, d2, d3] }
  | _ => none }
def memberLicencesRow : OpenClaim := { program := "yteihlaoeolfkfaagreat", sum := "6edd9e4eb95fd9897ca2558c96413b6c5bb4dd333aefe924bdf6c61f7c1b90e0", func := "crux/cruxlaw09.MemberLicences", spec := "memberLicences", unfollowed := true, recurses := true, plainKeys := false, apart := false }
def MemberLicencesSaid : Prop := memberLicencesRow.holds Tryz.pinned (OpenSpec.ofChange memberLicencesSpec)

/-- ITS FALSE NEIGHBOUR: 'it returns false'. Refute it at one input. -/
def memberLicencesWrong : ChangeSpec := { name := "memberLicences", fn := fun _ => fun
  | [d1, d2, d3] => { results := [.lit (.bool false)], args := [d1, d2, d3] }
  | _ => none }
def MemberLicencesWrongFalsely : Prop := memberLicencesRow.holds Tryz.pinned (OpenSpec.ofChange memberLicencesWrong)

/-- 'cruxlaw09.MemberPools': WHATEVER THE INPUT: true; the input reads as it did. -/
def memberPoolsSpec : ChangeSpec := { name := "memberPools", fn := fun _ => fun
  | [d1, d2, d3] => { results := [.lit (.bool true)], args := [d1, d2, d3] }
  | _ => none }
def memberPoolsRow : OpenClaim := { program := "yteihlaoeolfkfaagreat", sum := "6edd9e4eb95fd9897ca2558c96413b6c5bb4dd333aefe924bdf6c61f7c1b90e0", func := "crux/cruxlaw09.MemberPools", spec := "memberPools", unfollowed := true, recurses := true, plainKeys := false, apart := false }
def MemberPoolsSaid : Prop := memberPoolsRow.holds Tryz.pinned (OpenSpec.ofChange memberPoolsSpec)

/-- ITS FALSE NEIGHBOUR: 'it returns false'. Refute it at one input. -/
def memberPoolsWrong : ChangeSpec := { name := "memberPools", fn := fun _ => fun
  | [d1, d2, d3] => { results := [.lit (.bool false)], args := [d1, d2, d3] }
  | _ => none }
def MemberPoolsWrongFalsely : Prop := memberPoolsRow.holds Tryz.pinned (OpenSpec.ofChange memberPoolsWrong)

/-- 'cruxlaw09.MemberJuries': WHATEVER THE INPUT: true; the input reads as it did. -/
def memberJuriesSpec : ChangeSpec := { name := "memberJuries", fn := fun _ => fun
  | [d1, d2, d3] => { results := [.lit (.bool true)], args := [d1, d2, d3] }
  | _ => none }
def memberJuriesRow : OpenClaim := { program := "yteihlaoeolfkfaagreat", sum := "6edd9e4eb95fd9897ca2558c96413b6c5bb4dd333aefe924bdf6c61f7c1b90e0", func := "crux/cruxlaw09.MemberJuries", spec := "memberJuries", unfollowed := true, recurses := true, plainKeys := false, apart := false }
def MemberJuriesSaid : Prop := memberJuriesRow.holds Tryz.pinned (OpenSpec.ofChange memberJuriesSpec)

/-- ITS FALSE NEIGHBOUR: 'it returns false'. Refute it at one input. -/
def memberJuriesWrong : ChangeSpec := { name := "memberJuries", fn := fun _ => fun
  | [d1, d2, d3] => { results := [.lit (.bool false)], args := [d1, d2, d3] }
  | _ => none }
def MemberJuriesWrongFalsely : Prop := memberJuriesRow.holds Tryz.pinned (OpenSpec.ofChange memberJuriesWrong)

/-- 'cruxlaw09.MemberReplaces': WHATEVER THE INPUT: true; the input reads as it did. -/
def memberReplacesSpec : ChangeSpec := { name := "memberReplaces", fn := fun _ => fun
  | [d1, d2, d3] => { results := [.lit (.bool true)], args := [d1, d2, d3] }
  | _ => none }
def memberReplacesRow : OpenClaim := { program := "yteihlaoeolfkfaagreat", sum := "6edd9e4eb95fd9897ca2558c96413b6c5bb4dd333aefe924bdf6c61f7c1b90e0", func := "crux/cruxlaw09.MemberReplaces", spec := "memberReplaces", unfollowed := true, recurses := true, plainKeys := false, apart := false }
def MemberReplacesSaid : Prop := memberReplacesRow.holds Tryz.pinned (OpenSpec.ofChange memberReplacesSpec)

/-- ITS FALSE NEIGHBOUR: 'it returns false'. Refute it at one input. -/
def memberReplacesWrong : ChangeSpec := { name := "memberReplaces", fn := fun _ => fun
  | [d1, d2, d3] => { results := [.lit (.bool false)], args := [d1, d2, d3] }
  | _ => none }
def MemberReplacesWrongFalsely : Prop := memberReplacesRow.holds Tryz.pinned (OpenSpec.ofChange memberReplacesWrong)

/-- 'cruxlaw09.MemberGaps': WHATEVER THE INPUT: true; the input reads as it did. -/
def memberGapsSpec : ChangeSpec := { name := "memberGaps", fn := fun _ => fun
  | [d1, d2, d3] => { results := [.lit (.bool true)], args := [d1, d2, d3] }
  | _ => none }
def memberGapsRow : OpenClaim := { program := "yteihlaoeolfkfaagreat", sum := "6edd9e4eb95fd9897ca2558c96413b6c5bb4dd333aefe924bdf6c61f7c1b90e0", func := "crux/cruxlaw09.MemberGaps", spec := "memberGaps", unfollowed := true, recurses := true, plainKeys := false, apart := false }
def MemberGapsSaid : Prop := memberGapsRow.holds Tryz.pinned (OpenSpec.ofChange memberGapsSpec)

/-- ITS FALSE NEIGHBOUR: 'it returns false'. Refute it at one input. -/
def memberGapsWrong : ChangeSpec := { name := "memberGaps", fn := fun _ => fun
  | [d1, d2, d3] => { results := [.lit (.bool false)], args := [d1, d2, d3] }
  | _ => none }
def MemberGapsWrongFalsely : Prop := memberGapsRow.holds Tryz.pinned (OpenSpec.ofChange memberGapsWrong)

/-- 'cruxlaw09.MemberLapses': WHATEVER THE INPUT: true; the input reads as it did. -/
def memberLapsesSpec : ChangeSpec := { name := "memberLapses", fn := fun _ => fun
  | [d1, d2, d3] => { results := [.lit (.bool true)], args := [d1, d2, d3] }
  | _ => none }
def memberLapsesRow : OpenClaim := { program := "yteihlaoeolfkfaagreat", sum := "6edd9e4eb95fd9897ca2558c96413b6c5bb4dd333aefe924bdf6c61f7c1b90e0", func := "crux/cruxlaw09.MemberLapses", spec := "memberLapses", unfollowed := true, recurses := true, plainKeys := false, apart := false }
def MemberLapsesSaid : Prop := memberLapsesRow.holds Tryz.pinned (OpenSpec.ofChange memberLapsesSpec)

/-- ITS FALSE NEIGHBOUR: 'it returns false'. Refute it at one input. -/
def memberLapsesWrong : ChangeSpec := { name := "memberLapses", fn := fun _ => fun
  | [d1, d2, d3] => { results := [.lit (.bool false)], args := [d1, d2, d3] }
  | _ => none }
def MemberLapsesWrongFalsely : Prop := memberLapsesRow.holds Tryz.pinned (OpenSpec.ofChange memberLapsesWrong)

/-- 'cruxlaw09.MemberSpares': WHATEVER THE INPUT: true; the input reads as it did. -/
def memberSparesSpec : ChangeSpec := { name := "memberSpares", fn := fun _ => fun
  | [d1, d2, d3] => { results := [.lit (.bool true)], args := [d1, d2, d3] }
  | _ => none }
def memberSparesRow : OpenClaim := { program := "yteihlaoeolfkfaagreat", sum := "6edd9e4eb95fd9897ca2558c96413b6c5bb4dd333aefe924bdf6c61f7c1b90e0", func := "crux/cruxlaw09.MemberSpares", spec := "memberSpares", unfollowed := true, recurses := true, plainKeys := false, apart := false }
def MemberSparesSaid : Prop := memberSparesRow.holds Tryz.pinned (OpenSpec.ofChange memberSparesSpec)

/-- ITS FALSE NEIGHBOUR: 'it returns false'. Refute it at one input. -/
def memberSparesWrong : ChangeSpec := { name := "memberSpares", fn := fun _ => fun
  | [d1, d2, d3] => { results := [.lit (.bool false)], args := [d1, d2, d3] }
  | _ => none }
def MemberSparesWrongFalsely : Prop := memberSparesRow.holds Tryz.pinned (OpenSpec.ofChange memberSparesWrong)

/-- 'cruxlaw09.MemberOfficials': WHATEVER THE INPUT: true; the input reads as it did. -/
def memberOfficialsSpec : ChangeSpec := { name := "memberOfficials", fn := fun _ => fun
  | [d1, d2] => { results := [.lit (.bool true)], args := [d1, d2] }
  | _ => none }
def memberOfficialsRow : OpenClaim := { program := "yteihlaoeolfkfaagreat", sum := "6edd9e4eb95fd9897ca2558c96413b6c5bb4dd333aefe924bdf6c61f7c1b90e0", func := "crux/cruxlaw09.MemberOfficials", spec := "memberOfficials", unfollowed := true, recurses := true, plainKeys := false, apart := false }
def MemberOfficialsSaid : Prop := memberOfficialsRow.holds Tryz.pinned (OpenSpec.ofChange memberOfficialsSpec)

/-- ITS FALSE NEIGHBOUR: 'it returns false'. Refute it at one input. -/
def memberOfficialsWrong : ChangeSpec := { name := "memberOfficials", fn := fun _ => fun
  | [d1, d2] => { results := [.lit (.bool false)], args := [d1, d2] }
  | _ => none }
def MemberOfficialsWrongFalsely : Prop := memberOfficialsRow.holds Tryz.pinned (OpenSpec.ofChange memberOfficialsWrong)

/-- 'cruxlaw09.MemberStands': WHATEVER THE INPUT: true; the input reads as it did. -/
def memberStandsSpec : ChangeSpec := { name := "memberStands", fn := fun _ => fun
  | [d1, d2, d3] => { results := [.lit (.bool true)], args := [d1, d2, d3] }
  | _ => none }
def memberStandsRow : OpenClaim := { program := "yteihlaoeolfkfaagreat", sum := "6edd9e4eb95fd9897ca2558c96413b6c5bb4dd333aefe924bdf6c61f7c1b90e0", func := "crux/cruxlaw09.MemberStands", spec := "memberStands", unfollowed := true, recurses := true, plainKeys := false, apart := false }
def MemberStandsSaid : Prop := memberStandsRow.holds Tryz.pinned (OpenSpec.ofChange memberStandsSpec)

/-- ITS FALSE NEIGHBOUR: 'it returns false'. Refute it at one input. -/
def memberStandsWrong : ChangeSpec := { name := "memberStands", fn := fun _ => fun
  | [d1, d2, d3] => { results := [.lit (.bool false)], args := [d1, d2, d3] }
  | _ => none }
def MemberStandsWrongFalsely : Prop := memberStandsRow.holds Tryz.pinned (OpenSpec.ofChange memberStandsWrong)

/-- 'cruxlaw09.MemberAges': WHATEVER THE INPUT: true; the input reads as it did. -/
def memberAgesSpec : ChangeSpec := { name := "memberAges", fn := fun _ => fun
  | [d1, d2, d3] => { results := [.lit (.bool true)], args := [d1, d2, d3] }
  | _ => none }
def memberAgesRow : OpenClaim := { program := "yteihlaoeolfkfaagreat", sum := "6edd9e4eb95fd9897ca2558c96413b6c5bb4dd333aefe924bdf6c61f7c1b90e0", func := "crux/cruxlaw09.MemberAges", spec := "memberAges", unfollowed := true, recurses := true, plainKeys := false, apart := false }
def MemberAgesSaid : Prop := memberAgesRow.holds Tryz.pinned (OpenSpec.ofChange memberAgesSpec)

/-- ITS FALSE NEIGHBOUR: 'it returns false'. Refute it at one input. -/
def memberAgesWrong : ChangeSpec := { name := "memberAges", fn := fun _ => fun
  | [d1, d2, d3] => { results := [.lit (.bool false)], args := [d1, d2, d3] }
  | _ => none }
def MemberAgesWrongFalsely : Prop := memberAgesRow.holds Tryz.pinned (OpenSpec.ofChange memberAgesWrong)

/- THE SECOND FORM. 'bulk': how many values and letters a reading holds, each counted each time it is reached (what is shared counts as often as it is met; a slice's spare places count too). A statement '..UptoSaid' is the law's where the arguments, and the package variables that the reading takes, are together of bulk at most 1048576: NARROWER than '..Said'. Prove '..Said' where nothing that the law and all that it calls make is longer than what came in: it says more and counts as full. Else prove '..UptoSaid'. A law counts once. -/
mutual
def uptoBulk {H : Type} : DataW H → Nat
  | .lit (.string bytes) => bytes.length + 1
  | .lit _ => 1
  | .nil => 1
  | .ptr d => uptoBulk d + 1
  | .slice elems spare => uptoBulkAll elems + uptoBulkAll spare + 1
  | .agg parts => uptoBulkAll parts + 1
  | .iface _ d => uptoBulk d + 1
  | .map entries => uptoBulkEntries entries + 1
  | .held _ => 1
def uptoBulkAll {H : Type} : List (DataW H) → Nat
  | [] => 0
  | d :: r => uptoBulk d + uptoBulkAll r
def uptoBulkEntries {H : Type} : List (Lit × DataW H) → Nat
  | [] => 0
  | x :: r => uptoBulkEntry x + uptoBulkEntries r
def uptoBulkEntry {H : Type} : Lit × DataW H → Nat
  | (.string bytes, d) => bytes.length + uptoBulk d + 1
  | (_, d) => uptoBulk d + 1
 end
def uptoSmall : (H : Type) → List (DataW H) → Bool := fun _ ds => decide (uptoBulkAll ds ≤ 1048576)
def OpenSpec.upto (s : _root_.Go.ChangeSpec) : _root_.Go.OpenSpec := { _root_.Go.OpenSpec.ofChange s with cond := some uptoSmall }

/-- 'cruxlaw09.MemberLicences', WHERE WHAT IT READS IS OF BULK AT MOST 1048576: true; the input reads as it did. -/
def memberLicencesUptoRow : OpenClaim := { program := "yteihlaoeolfkfaagreat", sum := "6edd9e4eb95fd9897ca2558c96413b6c5bb4dd333aefe924bdf6c61f7c1b90e0", func := "crux/cruxlaw09.MemberLicences", spec := "memberLicences", unfollowed := true, recurses := true, plainKeys := false, apart := false, narrowed := true }
def MemberLicencesUptoSaid : Prop := memberLicencesUptoRow.holds Tryz.pinned (OpenSpec.upto memberLicencesSpec)

/-- 'cruxlaw09.MemberPools', WHERE WHAT IT READS IS OF BULK AT MOST 1048576: true; the input reads as it did. -/
def memberPoolsUptoRow : OpenClaim := { program := "yteihlaoeolfkfaagreat", sum := "6edd9e4eb95fd9897ca2558c96413b6c5bb4dd333aefe924bdf6c61f7c1b90e0", func := "crux/cruxlaw09.MemberPools", spec := "memberPools", unfollowed := true, recurses := true, plainKeys := false, apart := false, narrowed := true }
def MemberPoolsUptoSaid : Prop := memberPoolsUptoRow.holds Tryz.pinned (OpenSpec.upto memberPoolsSpec)

/-- 'cruxlaw09.MemberJuries', WHERE WHAT IT READS IS OF BULK AT MOST 1048576: true; the input reads as it did. -/
def memberJuriesUptoRow : OpenClaim := { program := "yteihlaoeolfkfaagreat", sum := "6edd9e4eb95fd9897ca2558c96413b6c5bb4dd333aefe924bdf6c61f7c1b90e0", func := "crux/cruxlaw09.MemberJuries", spec := "memberJuries", unfollowed := true, recurses := true, plainKeys := false, apart := false, narrowed := true }
def MemberJuriesUptoSaid : Prop := memberJuriesUptoRow.holds Tryz.pinned (OpenSpec.upto memberJuriesSpec)

/-- 'cruxlaw09.MemberReplaces', WHERE WHAT IT READS IS OF BULK AT MOST 1048576: true; the input reads as it did. -/
def memberReplacesUptoRow : OpenClaim := { program := "yteihlaoeolfkfaagreat", sum := "6edd9e4eb95fd9897ca2558c96413b6c5bb4dd333aefe924bdf6c61f7c1b90e0", func := "crux/cruxlaw09.MemberReplaces", spec := "memberReplaces", unfollowed := true, recurses := true, plainKeys := false, apart := false, narrowed := true }
def MemberReplacesUptoSaid : Prop := memberReplacesUptoRow.holds Tryz.pinned (OpenSpec.upto memberReplacesSpec)

/-- 'cruxlaw09.MemberGaps', WHERE WHAT IT READS IS OF BULK AT MOST 1048576: true; the input reads as it did. -/
def memberGapsUptoRow : OpenClaim := { program := "yteihlaoeolfkfaagreat", sum := "6edd9e4eb95fd9897ca2558c96413b6c5bb4dd333aefe924bdf6c61f7c1b90e0", func := "crux/cruxlaw09.MemberGaps", spec := "memberGaps", unfollowed := true, recurses := true, plainKeys := false, apart := false, narrowed := true }
def MemberGapsUptoSaid : Prop := memberGapsUptoRow.holds Tryz.pinned (OpenSpec.upto memberGapsSpec)

/-- 'cruxlaw09.MemberLapses', WHERE WHAT IT READS IS OF BULK AT MOST 1048576: true; the input reads as it did. -/
def memberLapsesUptoRow : OpenClaim := { program := "yteihlaoeolfkfaagreat", sum := "6edd9e4eb95fd9897ca2558c96413b6c5bb4dd333aefe924bdf6c61f7c1b90e0", func := "crux/cruxlaw09.MemberLapses", spec := "memberLapses", unfollowed := true, recurses := true, plainKeys := false, apart := false, narrowed := true }
def MemberLapsesUptoSaid : Prop := memberLapsesUptoRow.holds Tryz.pinned (OpenSpec.upto memberLapsesSpec)

/-- 'cruxlaw09.MemberSpares', WHERE WHAT IT READS IS OF BULK AT MOST 1048576: true; the input reads as it did. -/
def memberSparesUptoRow : OpenClaim := { program := "yteihlaoeolfkfaagreat", sum := "6edd9e4eb95fd9897ca2558c96413b6c5bb4dd333aefe924bdf6c61f7c1b90e0", func := "crux/cruxlaw09.MemberSpares", spec := "memberSpares", unfollowed := true, recurses := true, plainKeys := false, apart := false, narrowed := true }
def MemberSparesUptoSaid : Prop := memberSparesUptoRow.holds Tryz.pinned (OpenSpec.upto memberSparesSpec)

/-- 'cruxlaw09.MemberOfficials', WHERE WHAT IT READS IS OF BULK AT MOST 1048576: true; the input reads as it did. -/
def memberOfficialsUptoRow : OpenClaim := { program := "yteihlaoeolfkfaagreat", sum := "6edd9e4eb95fd9897ca2558c96413b6c5bb4dd333aefe924bdf6c61f7c1b90e0", func := "crux/cruxlaw09.MemberOfficials", spec := "memberOfficials", unfollowed := true, recurses := true, plainKeys := false, apart := false, narrowed := true }
def MemberOfficialsUptoSaid : Prop := memberOfficialsUptoRow.holds Tryz.pinned (OpenSpec.upto memberOfficialsSpec)

/-- 'cruxlaw09.MemberStands', WHERE WHAT IT READS IS OF BULK AT MOST 1048576: true; the input reads as it did. -/
def memberStandsUptoRow : OpenClaim := { program := "yteihlaoeolfkfaagreat", sum := "6edd9e4eb95fd9897ca2558c96413b6c5bb4dd333aefe924bdf6c61f7c1b90e0", func := "crux/cruxlaw09.MemberStands", spec := "memberStands", unfollowed := true, recurses := true, plainKeys := false, apart := false, narrowed := true }
def MemberStandsUptoSaid : Prop := memberStandsUptoRow.holds Tryz.pinned (OpenSpec.upto memberStandsSpec)

/-- 'cruxlaw09.MemberAges', WHERE WHAT IT READS IS OF BULK AT MOST 1048576: true; the input reads as it did. -/
def memberAgesUptoRow : OpenClaim := { program := "yteihlaoeolfkfaagreat", sum := "6edd9e4eb95fd9897ca2558c96413b6c5bb4dd333aefe924bdf6c61f7c1b90e0", func := "crux/cruxlaw09.MemberAges", spec := "memberAges", unfollowed := true, recurses := true, plainKeys := false, apart := false, narrowed := true }
def MemberAgesUptoSaid : Prop := memberAgesUptoRow.holds Tryz.pinned (OpenSpec.upto memberAgesSpec)

end Rows
end Go.Proofs.YteihlaoeolfkfaaGreat
