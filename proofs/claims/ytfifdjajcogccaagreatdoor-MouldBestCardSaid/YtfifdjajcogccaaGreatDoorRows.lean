/-
  NARROWER THAN 'FOR EVERY INPUT', by the rows' own cells (each row's printed sentence says how): MouldBoats: laid · MouldBest: laid · MouldSurely: laid · MouldFewest: laid · MouldLeast: laid · MouldKnots: laid · MouldEasier: laid · MouldClashes: laid · MouldAsked: laid · MouldTurned: laid · MouldAnyOrder: laid · MouldCuts: laid · MouldReal: laid · MouldNeeded: laid · MouldReached: laid · MouldLearnt: laid · MouldNews: laid.
  DERIVED. THE GIVEN ROWS OF THIS SEAT. 17 by the template 'for every input the law returns true; each argument reads behind the call as it read before'; 0 by the template 'total and deterministic' (their statements: YtfifdjajcogccaaGreatDoorTotals.lean).
  GIVEN WITH THE SEED: the statements are not yours to turn. If you find one false, say at which input.
  Laid BY PROGRAM, IN A SANDBOX (cutbox-rows.mjs): the forced cells as the released guide's own fill.sh prints them over the translation bcfcb3a4f73062e5… (all of the seat's roots in one cut). By AI agents, Wed Nov 11 2026. No macro, syntax, notation, axiom, sorry.
-/
import Derived.Test.YtfifdjajcogccaaGreatDoorChecked
import GoSem.Claim
import GoSem.ClaimJoined
import GoSem.ClaimMapViews
import Derived.JoinedTies
import Derived.KernelRfl
namespace Go.Proofs.YtfifdjajcogccaaGreatDoor
/- THE CELL 'sum', in the pinned program and in every row, IS THE sha256 OF THE DUMP (.gsa) THAT YtfifdjajcogccaaGreatDoorProg.lean LOADS. Nothing in Lean hashes anything: it is a label: what it is worth is what the hold of that sum in a sandbox is worth. -/
noncomputable def Tryz.pinned : Pinned := { name := "ytfifdjajcogccaagreatdoor", sum := "bcfcb3a4f73062e5a517151e334c61bc97294a6befd9c63d465e5f763ad3847d", checked := Tryz.checked }
namespace Rows
def none {H : Type} : Left H := { results := [], args := [] }

/- WHAT THE LISTED PACKAGE-LEVEL VARIABLES READ AS WHEN THE CALL BEGINS. Each datum BY PROGRAM (the guide's laid-datum.mjs) off the statement by which the dump's own 'gosem.cut.vars' lays the variable. In a bare row this is a premise. The card (YtfifdjajcogccaaGreatDoorCards.lean) ties it to the program's text. -/
def laid_ribband_mould_measures {H : Type} : DataW H := .iface "func table" (.agg [.agg [.iface "func" (.lit (.string [114, 105, 98, 98, 97, 110, 100, 47, 109, 111, 117, 108, 100, 46, 109, 101, 97, 115, 117, 114, 101, 115, 36, 49]))], .agg [.iface "func" (.lit (.string [114, 105, 98, 98, 97, 110, 100, 47, 109, 111, 117, 108, 100, 46, 109, 101, 97, 115, 117, 114, 101, 115, 36, 50]))]])

/-- 'ribbandlaw04.MouldBoats': WHATEVER THE INPUT: true; the input reads as it did. -/
def mouldBoatsSpec : ChangeSpec := { name := "mouldBoats", fn := fun _ => fun
  | [d1, d2, d3] => { results := [.lit (.bool true)], args := [d1, d2, d3] }
  | _ => none }
def mouldBoatsRow : OpenClaim := { program := "ytfifdjajcogccaagreatdoor", sum := "bcfcb3a4f73062e5a517151e334c61bc97294a6befd9c63d465e5f763ad3847d", func := "ribband/ribbandlaw04.MouldBoats", spec := "mouldBoats", unfollowed := true, recurses := true, named := ["ribband/mould.measures"], plainKeys := false, leaving := true, apart := false, laid := [("ribband/mould.measures", laid_ribband_mould_measures)] }
def MouldBoatsSaid : Prop := mouldBoatsRow.holds Tryz.pinned (OpenSpec.ofChange mouldBoatsSpec)

/-- ITS FALSE NEIGHBOUR: 'it returns false'. Refute it at one input. -/
def mouldBoatsWrong : ChangeSpec := { name := "mouldBoats", fn := fun _ => fun
  | [d1, d2, d3] => { results := [.lit (.bool false)], args := [d1, d2, d3] }
  | _ => none }
def MouldBoatsWrongFalsely : Prop := mouldBoatsRow.holds Tryz.pinned (OpenSpec.ofChange mouldBoatsWrong)

/-- 'ribbandlaw04.MouldBest': WHATEVER THE INPUT: true; the input reads as it did. -/
def mouldBestSpec : ChangeSpec := { name := "mouldBest", fn := fun _ => fun
  | [d] => { results := [.lit (.bool true)], args := [d] }
  | _ => none }
def mouldBestRow : OpenClaim := { program := "ytfifdjajcogccaagreatdoor", sum := "bcfcb3a4f73062e5a517151e334c61bc97294a6befd9c63d465e5f763ad3847d", func := "ribband/ribbandlaw04.MouldBest", spec := "mouldBest", unfollowed := true, recurses := true, named := ["ribband/mould.measures"], plainKeys := false, leaving := true, apart := false, laid := [("ribband/mould.measures", laid_ribband_mould_measures)] }
def MouldBestSaid : Prop := mouldBestRow.holds Tryz.pinned (OpenSpec.ofChange mouldBestSpec)

/-- ITS FALSE NEIGHBOUR: 'it returns false'. Refute it at one input. -/
def mouldBestWrong : ChangeSpec := { name := "mouldBest", fn := fun _ => fun
  | [d] => { results := [.lit (.bool false)], args := [d] }
  | _ => none }
def MouldBestWrongFalsely : Prop := mouldBestRow.holds Tryz.pinned (OpenSpec.ofChange mouldBestWrong)

/-- 'ribbandlaw04.MouldSurely': WHATEVER THE INPUT: true; the input reads as it did. -/
def mouldSurelySpec : ChangeSpec := { name := "mouldSurely", fn := fun _ => fun
  | [d1, d2] => { results := [.lit (.bool true)], args := [d1, d2] }
  | _ => none }
def mouldSurelyRow : OpenClaim := { program := "ytfifdjajcogccaagreatdoor", sum := "bcfcb3a4f73062e5a517151e334c61bc97294a6befd9c63d465e5f763ad3847d", func := "ribband/ribbandlaw04.MouldSurely", spec := "mouldSurely", unfollowed := true, recurses := true, named := ["ribband/mould.measures"], plainKeys := false, leaving := true, apart := false, laid := [("ribband/mould.measures", laid_ribband_mould_measures)] }
def MouldSurelySaid : Prop := mouldSurelyRow.holds Tryz.pinned (OpenSpec.ofChange mouldSurelySpec)

/-- ITS FALSE NEIGHBOUR: 'it returns false'. Refute it at one input. -/
def mouldSurelyWrong : ChangeSpec := { name := "mouldSurely", fn := fun _ => fun
  | [d1, d2] => { results := [.lit (.bool false)], args := [d1, d2] }
  | _ => none }
def MouldSurelyWrongFalsely : Prop := mouldSurelyRow.holds Tryz.pinned (OpenSpec.ofChange mouldSurelyWrong)

/-- 'ribbandlaw04.MouldFewest': WHATEVER THE INPUT: true; the input reads as it did. -/
def mouldFewestSpec : ChangeSpec := { name := "mouldFewest", fn := fun _ => fun
  | [d1, d2] => { results := [.lit (.bool true)], args := [d1, d2] }
  | _ => none }
def mouldFewestRow : OpenClaim := { program := "ytfifdjajcogccaagreatdoor", sum := "bcfcb3a4f73062e5a517151e334c61bc97294a6befd9c63d465e5f763ad3847d", func := "ribband/ribbandlaw04.MouldFewest", spec := "mouldFewest", unfollowed := true, recurses := true, named := ["ribband/mould.measures"], plainKeys := false, leaving := true, apart := false, laid := [("ribband/mould.measures", laid_ribband_mould_measures)] }
def MouldFewestSaid : Prop := mouldFewestRow.holds Tryz.pinned (OpenSpec.ofChange mouldFewestSpec)

/-- ITS FALSE NEIGHBOUR: 'it returns false'. Refute it at one input. -/
def mouldFewestWrong : ChangeSpec := { name := "mouldFewest", fn := fun _ => fun
  | [d1, d2] => { results := [.lit (.bool false)], args := [d1, d2] }
  | _ => none }
def MouldFewestWrongFalsely : Prop := mouldFewestRow.holds Tryz.pinned (OpenSpec.ofChange mouldFewestWrong)

/-- 'ribbandlaw04.MouldLeast': WHATEVER THE INPUT: true; the input reads as it did. -/
def mouldLeastSpec : ChangeSpec := { name := "mouldLeast", fn := fun _ => fun
  | [d1, d2, d3] => { results := [.lit (.bool true)], args := [d1, d2, d3] }
  | _ => none }
def mouldLeastRow : OpenClaim := { program := "ytfifdjajcogccaagreatdoor", sum := "bcfcb3a4f73062e5a517151e334c61bc97294a6befd9c63d465e5f763ad3847d", func := "ribband/ribbandlaw04.MouldLeast", spec := "mouldLeast", unfollowed := true, recurses := true, named := ["ribband/mould.measures"], plainKeys := false, leaving := true, apart := false, laid := [("ribband/mould.measures", laid_ribband_mould_measures)] }
def MouldLeastSaid : Prop := mouldLeastRow.holds Tryz.pinned (OpenSpec.ofChange mouldLeastSpec)

/-- ITS FALSE NEIGHBOUR: 'it returns false'. Refute it at one input. -/
def mouldLeastWrong : ChangeSpec := { name := "mouldLeast", fn := fun _ => fun
  | [d1, d2, d3] => { results := [.lit (.bool false)], args := [d1, d2, d3] }
  | _ => none }
def MouldLeastWrongFalsely : Prop := mouldLeastRow.holds Tryz.pinned (OpenSpec.ofChange mouldLeastWrong)

/-- 'ribbandlaw04.MouldKnots': WHATEVER THE INPUT: true; the input reads as it did. -/
def mouldKnotsSpec : ChangeSpec := { name := "mouldKnots", fn := fun _ => fun
  | [d1, d2, d3] => { results := [.lit (.bool true)], args := [d1, d2, d3] }
  | _ => none }
def mouldKnotsRow : OpenClaim := { program := "ytfifdjajcogccaagreatdoor", sum := "bcfcb3a4f73062e5a517151e334c61bc97294a6befd9c63d465e5f763ad3847d", func := "ribband/ribbandlaw04.MouldKnots", spec := "mouldKnots", unfollowed := true, recurses := true, named := ["ribband/mould.measures"], plainKeys := false, leaving := true, apart := false, laid := [("ribband/mould.measures", laid_ribband_mould_measures)] }
def MouldKnotsSaid : Prop := mouldKnotsRow.holds Tryz.pinned (OpenSpec.ofChange mouldKnotsSpec)

/-- ITS FALSE NEIGHBOUR: 'it returns false'. Refute it at one input. -/
def mouldKnotsWrong : ChangeSpec := { name := "mouldKnots", fn := fun _ => fun
  | [d1, d2, d3] => { results := [.lit (.bool false)], args := [d1, d2, d3] }
  | _ => none }
def MouldKnotsWrongFalsely : Prop := mouldKnotsRow.holds Tryz.pinned (OpenSpec.ofChange mouldKnotsWrong)

/-- 'ribbandlaw04.MouldEasier': WHATEVER THE INPUT: true; the input reads as it did. -/
def mouldEasierSpec : ChangeSpec := { name := "mouldEasier", fn := fun _ => fun
  | [d1, d2, d3, d4, d5] => { results := [.lit (.bool true)], args := [d1, d2, d3, d4, d5] }
  | _ => none }
def mouldEasierRow : OpenClaim := { program := "ytfifdjajcogccaagreatdoor", sum := "bcfcb3a4f73062e5a517151e334c61bc97294a6befd9c63d465e5f763ad3847d", func := "ribband/ribbandlaw04.MouldEasier", spec := "mouldEasier", unfollowed := true, recurses := true, named := ["ribband/mould.measures"], plainKeys := false, leaving := true, apart := false, laid := [("ribband/mould.measures", laid_ribband_mould_measures)] }
def MouldEasierSaid : Prop := mouldEasierRow.holds Tryz.pinned (OpenSpec.ofChange mouldEasierSpec)

/-- ITS FALSE NEIGHBOUR: 'it returns false'. Refute it at one input. -/
def mouldEasierWrong : ChangeSpec := { name := "mouldEasier", fn := fun _ => fun
  | [d1, d2, d3, d4, d5] => { results := [.lit (.bool false)], args := [d1, d2, d3, d4, d5] }
  | _ => none }
def MouldEasierWrongFalsely : Prop := mouldEasierRow.holds Tryz.pinned (OpenSpec.ofChange mouldEasierWrong)

/-- 'ribbandlaw04.MouldClashes': WHATEVER THE INPUT: true; the input reads as it did. -/
def mouldClashesSpec : ChangeSpec := { name := "mouldClashes", fn := fun _ => fun
  | [d1, d2] => { results := [.lit (.bool true)], args := [d1, d2] }
  | _ => none }
def mouldClashesRow : OpenClaim := { program := "ytfifdjajcogccaagreatdoor", sum := "bcfcb3a4f73062e5a517151e334c61bc97294a6befd9c63d465e5f763ad3847d", func := "ribband/ribbandlaw04.MouldClashes", spec := "mouldClashes", unfollowed := true, recurses := true, named := ["ribband/mould.measures"], plainKeys := false, leaving := true, apart := false, laid := [("ribband/mould.measures", laid_ribband_mould_measures)] }
def MouldClashesSaid : Prop := mouldClashesRow.holds Tryz.pinned (OpenSpec.ofChange mouldClashesSpec)

/-- ITS FALSE NEIGHBOUR: 'it returns false'. Refute it at one input. -/
def mouldClashesWrong : ChangeSpec := { name := "mouldClashes", fn := fun _ => fun
  | [d1, d2] => { results := [.lit (.bool false)], args := [d1, d2] }
  | _ => none }
def MouldClashesWrongFalsely : Prop := mouldClashesRow.holds Tryz.pinned (OpenSpec.ofChange mouldClashesWrong)

/-- 'ribbandlaw04.MouldAsked': WHATEVER THE INPUT: true; the input reads as it did. -/
def mouldAskedSpec : ChangeSpec := { name := "mouldAsked", fn := fun _ => fun
  | [d1, d2] => { results := [.lit (.bool true)], args := [d1, d2] }
  | _ => none }
def mouldAskedRow : OpenClaim := { program := "ytfifdjajcogccaagreatdoor", sum := "bcfcb3a4f73062e5a517151e334c61bc97294a6befd9c63d465e5f763ad3847d", func := "ribband/ribbandlaw04.MouldAsked", spec := "mouldAsked", unfollowed := true, recurses := true, named := ["ribband/mould.measures"], plainKeys := false, leaving := true, apart := false, laid := [("ribband/mould.measures", laid_ribband_mould_measures)] }
def MouldAskedSaid : Prop := mouldAskedRow.holds Tryz.pinned (OpenSpec.ofChange mouldAskedSpec)

/-- ITS FALSE NEIGHBOUR: 'it returns false'. Refute it at one input. -/
def mouldAskedWrong : ChangeSpec := { name := "mouldAsked", fn := fun _ => fun
  | [d1, d2] => { results := [.lit (.bool false)], args := [d1, d2] }
  | _ => none }
def MouldAskedWrongFalsely : Prop := mouldAskedRow.holds Tryz.pinned (OpenSpec.ofChange mouldAskedWrong)

/-- 'ribbandlaw04.MouldTurned': WHATEVER THE INPUT: true; the input reads as it did. -/
def mouldTurnedSpec : ChangeSpec := { name := "mouldTurned", fn := fun _ => fun
  | [d1, d2, d3] => { results := [.lit (.bool true)], args := [d1, d2, d3] }
  | _ => none }
def mouldTurnedRow : OpenClaim := { program := "ytfifdjajcogccaagreatdoor", sum := "bcfcb3a4f73062e5a517151e334c61bc97294a6befd9c63d465e5f763ad3847d", func := "ribband/ribbandlaw04.MouldTurned", spec := "mouldTurned", unfollowed := true, recurses := true, named := ["ribband/mould.measures"], plainKeys := false, leaving := true, apart := false, laid := [("ribband/mould.measures", laid_ribband_mould_measures)] }
def MouldTurnedSaid : Prop := mouldTurnedRow.holds Tryz.pinned (OpenSpec.ofChange mouldTurnedSpec)

/-- ITS FALSE NEIGHBOUR: 'it returns false'. Refute it at one input. -/
def mouldTurnedWrong : ChangeSpec := { name := "mouldTurned", fn := fun _ => fun
  | [d1, d2, d3] => { results := [.lit (.bool false)], args := [d1, d2, d3] }
  | _ => none }
def MouldTurnedWrongFalsely : Prop := mouldTurnedRow.holds Tryz.pinned (OpenSpec.ofChange mouldTurnedWrong)

/-- 'ribbandlaw04.MouldAnyOrder': WHATEVER THE INPUT: true; the input reads as it did. -/
def mouldAnyOrderSpec : ChangeSpec := { name := "mouldAnyOrder", fn := fun _ => fun
  | [d1, d2, d3] => { results := [.lit (.bool true)], args := [d1, d2, d3] }
  | _ => none }
def mouldAnyOrderRow : OpenClaim := { program := "ytfifdjajcogccaagreatdoor", sum := "bcfcb3a4f73062e5a517151e334c61bc97294a6befd9c63d465e5f763ad3847d", func := "ribband/ribbandlaw04.MouldAnyOrder", spec := "mouldAnyOrder", unfollowed := true, recurses := true, named := ["ribband/mould.measures"], plainKeys := false, leaving := true, apart := false, laid := [("ribband/mould.measures", laid_ribband_mould_measures)] }
def MouldAnyOrderSaid : Prop := mouldAnyOrderRow.holds Tryz.pinned (OpenSpec.ofChange mouldAnyOrderSpec)

/-- ITS FALSE NEIGHBOUR: 'it returns false'. Refute it at one input. -/
def mouldAnyOrderWrong : ChangeSpec := { name := "mouldAnyOrder", fn := fun _ => fun
  | [d1, d2, d3] => { results := [.lit (.bool false)], args := [d1, d2, d3] }
  | _ => none }
def MouldAnyOrderWrongFalsely : Prop := mouldAnyOrderRow.holds Tryz.pinned (OpenSpec.ofChange mouldAnyOrderWrong)

/-- 'ribbandlaw04.MouldCuts': WHATEVER THE INPUT: true; the input reads as it did. -/
def mouldCutsSpec : ChangeSpec := { name := "mouldCuts", fn := fun _ => fun
  | [d1, d2, d3, d4, d5] => { results := [.lit (.bool true)], args := [d1, d2, d3, d4, d5] }
  | _ => none }
def mouldCutsRow : OpenClaim := { program := "ytfifdjajcogccaagreatdoor", sum := "bcfcb3a4f73062e5a517151e334c61bc97294a6befd9c63d465e5f763ad3847d", func := "ribband/ribbandlaw04.MouldCuts", spec := "mouldCuts", unfollowed := true, recurses := true, named := ["ribband/mould.measures"], plainKeys := false, leaving := true, apart := false, laid := [("ribband/mould.measures", laid_ribband_mould_measures)] }
def MouldCutsSaid : Prop := mouldCutsRow.holds Tryz.pinned (OpenSpec.ofChange mouldCutsSpec)

/-- ITS FALSE NEIGHBOUR: 'it returns false'. Refute it at one input. -/
def mouldCutsWrong : ChangeSpec := { name := "mouldCuts", fn := fun _ => fun
  | [d1, d2, d3, d4, d5] => { results := [.lit (.bool false)], args := [d1, d2, d3, d4, d5] }
  | _ => none }
def MouldCutsWrongFalsely : Prop := mouldCutsRow.holds Tryz.pinned (OpenSpec.ofChange mouldCutsWrong)

/-- 'ribbandlaw04.MouldReal': WHATEVER THE INPUT: true; the input reads as it did. -/
def mouldRealSpec : ChangeSpec := { name := "mouldReal", fn := fun _ => fun
  | [d1, d2, d3] => { results := [.lit (.bool true)], args := [d1, d2, d3] }
  | _ => none }
def mouldRealRow : OpenClaim := { program := "ytfifdjajcogccaagreatdoor", sum := "bcfcb3a4f73062e5a517151e334c61bc97294a6befd9c63d465e5f763ad3847d", func := "ribband/ribbandlaw04.MouldReal", spec := "mouldReal", unfollowed := true, recurses := true, named := ["ribband/mould.measures"], plainKeys := false, leaving := true, apart := false, laid := [("ribband/mould.measures", laid_ribband_mould_measures)] }
def MouldRealSaid : Prop := mouldRealRow.holds Tryz.pinned (OpenSpec.ofChange mouldRealSpec)

/-- ITS FALSE NEIGHBOUR: 'it returns false'. Refute it at one input. -/
def mouldRealWrong : ChangeSpec := { name := "mouldReal", fn := fun _ => fun
  | [d1, d2, d3] => { results := [.lit (.bool false)], args := [d1, d2, d3] }
  | _ => none }
def MouldRealWrongFalsely : Prop := mouldRealRow.holds Tryz.pinned (OpenSpec.ofChange mouldRealWrong)

/-- 'ribbandlaw04.MouldNeeded': WHATEVER THE INPUT: true; the input reads as it did. -/
def mouldNeededSpec : ChangeSpec := { name := "mouldNeeded", fn := fun _ => fun
  | [d1, d2] => { results := [.lit (.bool true)], args := [d1, d2] }
  | _ => none }
def mouldNeededRow : OpenClaim := { program := "ytfifdjajcogccaagreatdoor", sum := "bcfcb3a4f73062e5a517151e334c61bc97294a6befd9c63d465e5f763ad3847d", func := "ribband/ribbandlaw04.MouldNeeded", spec := "mouldNeeded", unfollowed := true, recurses := true, named := ["ribband/mould.measures"], plainKeys := false, leaving := true, apart := false, laid := [("ribband/mould.measures", laid_ribband_mould_measures)] }
def MouldNeededSaid : Prop := mouldNeededRow.holds Tryz.pinned (OpenSpec.ofChange mouldNeededSpec)

/-- ITS FALSE NEIGHBOUR: 'it returns false'. Refute it at one input. -/
def mouldNeededWrong : ChangeSpec := { name := "mouldNeeded", fn := fun _ => fun
  | [d1, d2] => { results := [.lit (.bool false)], args := [d1, d2] }
  | _ => none }
def MouldNeededWrongFalsely : Prop := mouldNeededRow.holds Tryz.pinned (OpenSpec.ofChange mouldNeededWrong)

/-- 'ribbandlaw04.MouldReached': WHATEVER THE INPUT: true; the input reads as it did. -/
def mouldReachedSpec : ChangeSpec := { name := "mouldReached", fn := fun _ => fun
  | [d1, d2, d3] => { results := [.lit (.bool true)], args := [d1, d2, d3] }
  | _ => none }
def mouldReachedRow : OpenClaim := { program := "ytfifdjajcogccaagreatdoor", sum := "bcfcb3a4f73062e5a517151e334c61bc97294a6befd9c63d465e5f763ad3847d", func := "ribband/ribbandlaw04.MouldReached", spec := "mouldReached", unfollowed := true, recurses := true, named := ["ribband/mould.measures"], plainKeys := false, leaving := true, apart := false, laid := [("ribband/mould.measures", laid_ribband_mould_measures)] }
def MouldReachedSaid : Prop := mouldReachedRow.holds Tryz.pinned (OpenSpec.ofChange mouldReachedSpec)

/-- ITS FALSE NEIGHBOUR: 'it returns false'. Refute it at one input. -/
def mouldReachedWrong : ChangeSpec := { name := "mouldReached", fn := fun _ => fun
  | [d1, d2, d3] => { results := [.lit (.bool false)], args := [d1, d2, d3] }
  | _ => none }
def MouldReachedWrongFalsely : Prop := mouldReachedRow.holds Tryz.pinned (OpenSpec.ofChange mouldReachedWrong)

/-- 'ribbandlaw04.MouldLearnt': WHATEVER THE INPUT: true; the input reads as it did. -/
def mouldLearntSpec : ChangeSpec := { name := "mouldLearnt", fn := fun _ => fun
  | [d1, d2, d3, d4, d5, d6] => { results := [.lit (.bool true)], args := [d1, d2, d3, d4, d5, d6] }
  | _ => none }
def mouldLearntRow : OpenClaim := { program := "ytfifdjajcogccaagreatdoor", sum := "bcfcb3a4f73062e5a517151e334c61bc97294a6befd9c63d465e5f763ad3847d", func := "ribband/ribbandlaw04.MouldLearnt", spec := "mouldLearnt", unfollowed := true, recurses := true, named := ["ribband/mould.measures"], plainKeys := false, leaving := true, apart := false, laid := [("ribband/mould.measures", laid_ribband_mould_measures)] }
def MouldLearntSaid : Prop := mouldLearntRow.holds Tryz.pinned (OpenSpec.ofChange mouldLearntSpec)

/-- ITS FALSE NEIGHBOUR: 'it returns false'. Refute it at one input. -/
def mouldLearntWrong : ChangeSpec := { name := "mouldLearnt", fn := fun _ => fun
  | [d1, d2, d3, d4, d5, d6] => { results := [.lit (.bool false)], args := [d1, d2, d3, d4, d5, d6] }
  | _ => none }
def MouldLearntWrongFalsely : Prop := mouldLearntRow.holds Tryz.pinned (OpenSpec.ofChange mouldLearntWrong)

/-- 'ribbandlaw04.MouldNews': WHATEVER THE INPUT: true; the input reads as it did. -/
def mouldNewsSpec : ChangeSpec := { name := "mouldNews", fn := fun _ => fun
  | [d1, d2, d3, d4, d5, d6] => { results := [.lit (.bool true)], args := [d1, d2, d3, d4, d5, d6] }
  | _ => none }
def mouldNewsRow : OpenClaim := { program := "ytfifdjajcogccaagreatdoor", sum := "bcfcb3a4f73062e5a517151e334c61bc97294a6befd9c63d465e5f763ad3847d", func := "ribband/ribbandlaw04.MouldNews", spec := "mouldNews", unfollowed := true, recurses := true, named := ["ribband/mould.measures"], plainKeys := false, leaving := true, apart := false, laid := [("ribband/mould.measures", laid_ribband_mould_measures)] }
def MouldNewsSaid : Prop := mouldNewsRow.holds Tryz.pinned (OpenSpec.ofChange mouldNewsSpec)

/-- ITS FALSE NEIGHBOUR: 'it returns false'. Refute it at one input. -/
def mouldNewsWrong : ChangeSpec := { name := "mouldNews", fn := fun _ => fun
  | [d1, d2, d3, d4, d5, d6] => { results := [.lit (.bool false)], args := [d1, d2, d3, d4, d5, d6] }
  | _ => none }
def MouldNewsWrongFalsely : Prop := mouldNewsRow.holds Tryz.pinned (OpenSpec.ofChange mouldNewsWrong)

/- THE SECOND FORM. 'bulk': how many values and letters a reading holds, each counted each time it is reached (what is shared counts as often as it is met; a slice's spare places count too). A statement '..UptoSaid' is the law's where the arguments, and the package variables that the reading takes, are together of bulk at most 1048576: NARROWER than '..Said'. Prove '..Said' where nothing that the law and all that it calls make is longer than what came in: it says more and counts as full. Else prove '..UptoSaid'. A law counts once. -/
mutual
def uptoBulk {H : Type} : DataW H → Nat
  | .lit (.string bytes) => bytes.length + 1
  | .lit _ => 1
  | .nil => 1
  | .ptr d => uptoBulk d + 1
  | .slice elems spare => uptoBulkAll elems + uptoBulkAll spare + 1
  | .agg parts => uptoBulkAll parts + 1
  | .iface _ d => uptoBulk d + 1
  | .map entries => uptoBulkEntries entries + 1
  | .held _ => 1
def uptoBulkAll {H : Type} : List (DataW H) → Nat
  | [] => 0
  | d :: r => uptoBulk d + uptoBulkAll r
def uptoBulkEntries {H : Type} : List (Lit × DataW H) → Nat
  | [] => 0
  | x :: r => uptoBulkEntry x + uptoBulkEntries r
def uptoBulkEntry {H : Type} : Lit × DataW H → Nat
  | (.string bytes, d) => bytes.length + uptoBulk d + 1
  | (_, d) => uptoBulk d + 1
 end
def uptoSmall : (H : Type) → List (DataW H) → Bool := fun _ ds => decide (uptoBulkAll ds ≤ 1048576)
def OpenSpec.upto (s : _root_.Go.ChangeSpec) : _root_.Go.OpenSpec := { _root_.Go.OpenSpec.ofChange s with cond := some uptoSmall }

/-- 'ribbandlaw04.MouldBoats', WHERE WHAT IT READS IS OF BULK AT MOST 1048576: true; the input reads as it did. -/
def mouldBoatsUptoRow : OpenClaim := { program := "ytfifdjajcogccaagreatdoor", sum := "bcfcb3a4f73062e5a517151e334c61bc97294a6befd9c63d465e5f763ad3847d", func := "ribband/ribbandlaw04.MouldBoats", spec := "mouldBoats", unfollowed := true, recurses := true, named := ["ribband/mould.measures"], plainKeys := false, leaving := true, apart := false, laid := [("ribband/mould.measures", laid_ribband_mould_measures)], narrowed := true }
def MouldBoatsUptoSaid : Prop := mouldBoatsUptoRow.holds Tryz.pinned (OpenSpec.upto mouldBoatsSpec)

/-- 'ribbandlaw04.MouldBest', WHERE WHAT IT READS IS OF BULK AT MOST 1048576: true; the input reads as it did. -/
def mouldBestUptoRow : OpenClaim := { program := "ytfifdjajcogccaagreatdoor", sum := "bcfcb3a4f73062e5a517151e334c61bc97294a6befd9c63d465e5f763ad3847d", func := "ribband/ribbandlaw04.MouldBest", spec := "mouldBest", unfollowed := true, recurses := true, named := ["ribband/mould.measures"], plainKeys := false, leaving := true, apart := false, laid := [("ribband/mould.measures", laid_ribband_mould_measures)], narrowed := true }
def MouldBestUptoSaid : Prop := mouldBestUptoRow.holds Tryz.pinned (OpenSpec.upto mouldBestSpec)

/-- 'ribbandlaw04.MouldSurely', WHERE WHAT IT READS IS OF BULK AT MOST 1048576: true; the input reads as it did. -/
def mouldSurelyUptoRow : OpenClaim := { program := "ytfifdjajcogccaagreatdoor", sum := "bcfcb3a4f73062e5a517151e334c61bc97294a6befd9c63d465e5f763ad3847d", func := "ribband/ribbandlaw04.MouldSurely", spec := "mouldSurely", unfollowed := true, recurses := true, named := ["ribband/mould.measures"], plainKeys := false, leaving := true, apart := false, laid := [("ribband/mould.measures", laid_ribband_mould_measures)], narrowed := true }
def MouldSurelyUptoSaid : Prop := mouldSurelyUptoRow.holds Tryz.pinned (OpenSpec.upto mouldSurelySpec)

/-- 'ribbandlaw04.MouldFewest', WHERE WHAT IT READS IS OF BULK AT MOST 1048576: true; the input reads as it did. -/
def mouldFewestUptoRow : OpenClaim := { program := "ytfifdjajcogccaagreatdoor", sum := "bcfcb3a4f73062e5a517151e334c61bc97294a6befd9c63d465e5f763ad3847d", func := "ribband/ribbandlaw04.MouldFewest", spec := "mouldFewest", unfollowed := true, recurses := true, named := ["ribband/mould.measures"], plainKeys := false, leaving := true, apart := false, laid := [("ribband/mould.measures", laid_ribband_mould_measures)], narrowed := true }
def MouldFewestUptoSaid : Prop := mouldFewestUptoRow.holds Tryz.pinned (OpenSpec.upto mouldFewestSpec)

/-- 'ribbandlaw04.MouldLeast', WHERE WHAT IT READS IS OF BULK AT MOST 1048576: true; the input reads as it did. -/
def mouldLeastUptoRow : OpenClaim := { program := "ytfifdjajcogccaagreatdoor", sum := "bcfcb3a4f73062e5a517151e334c61bc97294a6befd9c63d465e5f763ad3847d", func := "ribband/ribbandlaw04.MouldLeast", spec := "mouldLeast", unfollowed := true, recurses := true, named := ["ribband/mould.measures"], plainKeys := false, leaving := true, apart := false, laid := [("ribband/mould.measures", laid_ribband_mould_measures)], narrowed := true }
def MouldLeastUptoSaid : Prop := mouldLeastUptoRow.holds Tryz.pinned (OpenSpec.upto mouldLeastSpec)

/-- 'ribbandlaw04.MouldKnots', WHERE WHAT IT READS IS OF BULK AT MOST 1048576: true; the input reads as it did. -/
def mouldKnotsUptoRow : OpenClaim := { program := "ytfifdjajcogccaagreatdoor", sum := "bcfcb3a4f73062e5a517151e334c61bc97294a6befd9c63d465e5f763ad3847d", func := "ribband/ribbandlaw04.MouldKnots", spec := "mouldKnots", unfollowed := true, recurses := true, named := ["ribband/mould.measures"], plainKeys := false, leaving := true, apart := false, laid := [("ribband/mould.measures", laid_ribband_mould_measures)], narrowed := true }
def MouldKnotsUptoSaid : Prop := mouldKnotsUptoRow.holds Tryz.pinned (OpenSpec.upto mouldKnotsSpec)

/-- 'ribbandlaw04.MouldEasier', WHERE WHAT IT READS IS OF BULK AT MOST 1048576: true; the input reads as it did. -/
def mouldEasierUptoRow : OpenClaim := { program := "ytfifdjajcogccaagreatdoor", sum := "bcfcb3a4f73062e5a517151e334c61bc97294a6befd9c63d465e5f763ad3847d", func := "ribband/ribbandlaw04.MouldEasier", spec := "mouldEasier", unfollowed := true, recurses := true, named := ["ribband/mould.measures"], plainKeys := false, leaving := true, apart := false, laid := [("ribband/mould.measures", laid_ribband_mould_measures)], narrowed := true }
def MouldEasierUptoSaid : Prop := mouldEasierUptoRow.holds Tryz.pinned (OpenSpec.upto mouldEasierSpec)

/-- 'ribbandlaw04.MouldClashes', WHERE WHAT IT READS IS OF BULK AT MOST 1048576: true; the input reads as it did. -/
def mouldClashesUptoRow : OpenClaim := { program := "ytfifdjajcogccaagreatdoor", sum := "bcfcb3a4f73062e5a517151e334c61bc97294a6befd9c63d465e5f763ad3847d", func := "ribband/ribbandlaw04.MouldClashes", spec := "mouldClashes", unfollowed := true, recurses := true, named := ["ribband/mould.measures"], plainKeys := false, leaving := true, apart := false, laid := [("ribband/mould.measures", laid_ribband_mould_measures)], narrowed := true }
def MouldClashesUptoSaid : Prop := mouldClashesUptoRow.holds Tryz.pinned (OpenSpec.upto mouldClashesSpec)

/-- 'ribbandlaw04.MouldAsked', WHERE WHAT IT READS IS OF BULK AT MOST 1048576: true; the input reads as it did. -/
def mouldAskedUptoRow : OpenClaim := { program := "ytfifdjajcogccaagreatdoor", sum := "bcfcb3a4f73062e5a517151e334c61bc97294a6befd9c63d465e5f763ad3847d", func := "ribband/ribbandlaw04.MouldAsked", spec := "mouldAsked", unfollowed := true, recurses := true, named := ["ribband/mould.measures"], plainKeys := false, leaving := true, apart := false, laid := [("ribband/mould.measures", laid_ribband_mould_measures)], narrowed := true }
def MouldAskedUptoSaid : Prop := mouldAskedUptoRow.holds Tryz.pinned (OpenSpec.upto mouldAskedSpec)

/-- 'ribbandlaw04.MouldTurned', WHERE WHAT IT READS IS OF BULK AT MOST 1048576: true; the input reads as it did. -/
def mouldTurnedUptoRow : OpenClaim := { program := "ytfifdjajcogccaagreatdoor", sum := "bcfcb3a4f73062e5a517151e334c61bc97294a6befd9c63d465e5f763ad3847d", func := "ribband/ribbandlaw04.MouldTurned", spec := "mouldTurned", unfollowed := true, recurses := true, named := ["ribband/mould.measures"], plainKeys := false, leaving := true, apart := false, laid := [("ribband/mould.measures", laid_ribband_mould_measures)], narrowed := true }
def MouldTurnedUptoSaid : Prop := mouldTurnedUptoRow.holds Tryz.pinned (OpenSpec.upto mouldTurnedSpec)

/-- 'ribbandlaw04.MouldAnyOrder', WHERE WHAT IT READS IS OF BULK AT MOST 1048576: true; the input reads as it did. -/
def mouldAnyOrderUptoRow : OpenClaim := { program := "ytfifdjajcogccaagreatdoor", sum := "bcfcb3a4f73062e5a517151e334c61bc97294a6befd9c63d465e5f763ad3847d", func := "ribband/ribbandlaw04.MouldAnyOrder", spec := "mouldAnyOrder", unfollowed := true, recurses := true, named := ["ribband/mould.measures"], plainKeys := false, leaving := true, apart := false, laid := [("ribband/mould.measures", laid_ribband_mould_measures)], narrowed := true }
def MouldAnyOrderUptoSaid : Prop := mouldAnyOrderUptoRow.holds Tryz.pinned (OpenSpec.upto mouldAnyOrderSpec)

/-- 'ribbandlaw04.MouldCuts', WHERE WHAT IT READS IS OF BULK AT MOST 1048576: true; the input reads as it did. -/
def mouldCutsUptoRow : OpenClaim := { program := "ytfifdjajcogccaagreatdoor", sum := "bcfcb3a4f73062e5a517151e334c61bc97294a6befd9c63d465e5f763ad3847d", func := "ribband/ribbandlaw04.MouldCuts", spec := "mouldCuts", unfollowed := true, recurses := true, named := ["ribband/mould.measures"], plainKeys := false, leaving := true, apart := false, laid := [("ribband/mould.measures", laid_ribband_mould_measures)], narrowed := true }
def MouldCutsUptoSaid : Prop := mouldCutsUptoRow.holds Tryz.pinned (OpenSpec.upto mouldCutsSpec)

/-- 'ribbandlaw04.MouldReal', WHERE WHAT IT READS IS OF BULK AT MOST 1048576: true; the input reads as it did. -/
def mouldRealUptoRow : OpenClaim := { program := "ytfifdjajcogccaagreatdoor", sum := "bcfcb3a4f73062e5a517151e334c61bc97294a6befd9c63d465e5f763ad3847d", func := "ribband/ribbandlaw04.MouldReal", spec := "mouldReal", unfollowed := true, recurses := true, named := ["ribband/mould.measures"], plainKeys := false, leaving := true, apart := false, laid := [("ribband/mould.measures", laid_ribband_mould_measures)], narrowed := true }
def MouldRealUptoSaid : Prop := mouldRealUptoRow.holds Tryz.pinned (OpenSpec.upto mouldRealSpec)

/-- 'ribbandlaw04.MouldNeeded', WHERE WHAT IT READS IS OF BULK AT MOST 1048576: true; the input reads as it did. -/
def mouldNeededUptoRow : OpenClaim := { program := "ytfifdjajcogccaagreatdoor", sum := "bcfcb3a4f73062e5a517151e334c61bc97294a6befd9c63d465e5f763ad3847d", func := "ribband/ribbandlaw04.MouldNeeded", spec := "mouldNeeded", unfollowed := true, recurses := true, named := ["ribband/mould.measures"], plainKeys := false, leaving := true, apart := false, laid := [("ribband/mould.measures", laid_ribband_mould_measures)], narrowed := true }
def MouldNeededUptoSaid : Prop := mouldNeededUptoRow.holds Tryz.pinned (OpenSpec.upto mouldNeededSpec)

/-- 'ribbandlaw04.MouldReached', WHERE WHAT IT READS IS OF BULK AT MOST 1048576: true; the input reads as it did. -/
def mouldReachedUptoRow : OpenClaim := { program := "ytfifdjajcogccaagreatdoor", sum := "bcfcb3a4f73062e5a517151e334c61bc97294a6befd9c63d465e5f763ad3847d", func := "ribband/ribbandlaw04.MouldReached", spec := "mouldReached", unfollowed := true, recurses := true, named := ["ribband/mould.measures"], plainKeys := false, leaving := true, apart := false, laid := [("ribband/mould.measures", laid_ribband_mould_measures)], narrowed := true }
def MouldReachedUptoSaid : Prop := mouldReachedUptoRow.holds Tryz.pinned (OpenSpec.upto mouldReachedSpec)

/-- 'ribbandlaw04.MouldLearnt', WHERE WHAT IT READS IS OF BULK AT MOST 1048576: true; the input reads as it did. -/
def mouldLearntUptoRow : OpenClaim := { program := "ytfifdjajcogccaagreatdoor", sum := "bcfcb3a4f73062e5a517151e334c61bc97294a6befd9c63d465e5f763ad3847d", func := "ribband/ribbandlaw04.MouldLearnt", spec := "mouldLearnt", unfollowed := true, recurses := true, named := ["ribband/mould.measures"], plainKeys := false, leaving := true, apart := false, laid := [("ribband/mould.measures", laid_ribband_mould_measures)], narrowed := true }
def MouldLearntUptoSaid : Prop := mouldLearntUptoRow.holds Tryz.pinned (OpenSpec.upto mouldLearntSpec)

/-- 'ribbandlaw04.MouldNews', WHERE WHAT IT READS IS OF BULK AT MOST 1048576: true; the input reads as it did. -/
def mouldNewsUptoRow : OpenClaim := { program := "ytfifdjajcogccaagreatdoor", sum := "bcfcb3a4f73062e5a517151e334c61bc97294a6befd9c63d465e5f763ad3847d", func := "ribband/ribbandlaw04.MouldNews", spec := "mouldNews", unfollowed := true, recurses := true, named := ["ribband/mould.measures"], plainKeys := false, leaving := true, apart := false, laid := [("ribband/mould.measures", laid_ribband_mould_measures)], narrowed := true }
def MouldNewsUptoSaid : Prop := mouldNewsUptoRow.holds Tryz.pinned (OpenSpec.upto mouldNewsSpec)

end Rows
end Go.Proofs.YtfifdjajcogccaaGreatDoor
