/-
  DERIVED. GIVEN WITH THE SEED: THE CARDS: each row of YtfifdjajcogccaaGreatDoorRows.lean that lists a variable, with what it lists TIED to the program's text (the seventh form; the later family's looks); each row that meets fmt, with fmt's text TOLD by the authors' own Lean function (tested against real Go, not proved from fmt's source: count such statements apart). THE CARD IS WHAT COUNTS. Prove the row's statement (the work); the ties are given (YtfifdjajcogccaaGreatDoorTie.lean); close each card by the builder's one call (the guide's Derived/Test/ToyasCard.lean, 'card_holds'). Laid BY PROGRAM, IN A SANDBOX (cutbox-door.mjs). By AI agents, Wed Nov 11 2026. No macro, syntax, notation, axiom, sorry.
-/
import Derived.Test.YtfifdjajcogccaaGreatDoorRows
import GoSem.ClaimSeven
namespace Go.Proofs.YtfifdjajcogccaaGreatDoor
namespace Rows

/-- THE TIED CARD OF 'ribbandlaw04.MouldBoats'. -/
def mouldBoatsCard : Claim7 := { stood := { row := mouldBoatsRow, standIns := [], harness := (true, "8b4c60804a89a2dc1775d2d899c432f4b3d9a7cd22d2b16114beb87ecc832d7f"), looks := false }, kinds := [], alts := [], goes := true, laidByText := true, laidKinds := [.funcs], laidTests := true, laidLooks := .later }
def MouldBoatsCardSaid : Prop := Claim7.holds Tryz.pinned (.plain (OpenSpec.ofChange mouldBoatsSpec)) mouldBoatsCard

/-- THE TIED CARD OF 'ribbandlaw04.MouldBest'. -/
def mouldBestCard : Claim7 := { stood := { row := mouldBestRow, standIns := [], harness := (true, "8b4c60804a89a2dc1775d2d899c432f4b3d9a7cd22d2b16114beb87ecc832d7f"), looks := false }, kinds := [], alts := [], goes := true, laidByText := true, laidKinds := [.funcs], laidTests := true, laidLooks := .later }
def MouldBestCardSaid : Prop := Claim7.holds Tryz.pinned (.plain (OpenSpec.ofChange mouldBestSpec)) mouldBestCard

/-- THE TIED CARD OF 'ribbandlaw04.MouldSurely'. -/
def mouldSurelyCard : Claim7 := { stood := { row := mouldSurelyRow, standIns := [], harness := (true, "8b4c60804a89a2dc1775d2d899c432f4b3d9a7cd22d2b16114beb87ecc832d7f"), looks := false }, kinds := [], alts := [], goes := true, laidByText := true, laidKinds := [.funcs], laidTests := true, laidLooks := .later }
def MouldSurelyCardSaid : Prop := Claim7.holds Tryz.pinned (.plain (OpenSpec.ofChange mouldSurelySpec)) mouldSurelyCard

/-- THE TIED CARD OF 'ribbandlaw04.MouldFewest'. -/
def mouldFewestCard : Claim7 := { stood := { row := mouldFewestRow, standIns := [], harness := (true, "8b4c60804a89a2dc1775d2d899c432f4b3d9a7cd22d2b16114beb87ecc832d7f"), looks := false }, kinds := [], alts := [], goes := true, laidByText := true, laidKinds := [.funcs], laidTests := true, laidLooks := .later }
def MouldFewestCardSaid : Prop := Claim7.holds Tryz.pinned (.plain (OpenSpec.ofChange mouldFewestSpec)) mouldFewestCard

/-- THE TIED CARD OF 'ribbandlaw04.MouldLeast'. -/
def mouldLeastCard : Claim7 := { stood := { row := mouldLeastRow, standIns := [], harness := (true, "8b4c60804a89a2dc1775d2d899c432f4b3d9a7cd22d2b16114beb87ecc832d7f"), looks := false }, kinds := [], alts := [], goes := true, laidByText := true, laidKinds := [.funcs], laidTests := true, laidLooks := .later }
def MouldLeastCardSaid : Prop := Claim7.holds Tryz.pinned (.plain (OpenSpec.ofChange mouldLeastSpec)) mouldLeastCard

/-- THE TIED CARD OF 'ribbandlaw04.MouldKnots'. -/
def mouldKnotsCard : Claim7 := { stood := { row := mouldKnotsRow, standIns := [], harness := (true, "8b4c60804a89a2dc1775d2d899c432f4b3d9a7cd22d2b16114beb87ecc832d7f"), looks := false }, kinds := [], alts := [], goes := true, laidByText := true, laidKinds := [.funcs], laidTests := true, laidLooks := .later }
def MouldKnotsCardSaid : Prop := Claim7.holds Tryz.pinned (.plain (OpenSpec.ofChange mouldKnotsSpec)) mouldKnotsCard

/-- THE TIED CARD OF 'ribbandlaw04.MouldEasier'. -/
def mouldEasierCard : Claim7 := { stood := { row := mouldEasierRow, standIns := [], harness := (true, "8b4c60804a89a2dc1775d2d899c432f4b3d9a7cd22d2b16114beb87ecc832d7f"), looks := false }, kinds := [], alts := [], goes := true, laidByText := true, laidKinds := [.funcs], laidTests := true, laidLooks := .later }
def MouldEasierCardSaid : Prop := Claim7.holds Tryz.pinned (.plain (OpenSpec.ofChange mouldEasierSpec)) mouldEasierCard

/-- THE TIED CARD OF 'ribbandlaw04.MouldClashes'. -/
def mouldClashesCard : Claim7 := { stood := { row := mouldClashesRow, standIns := [], harness := (true, "8b4c60804a89a2dc1775d2d899c432f4b3d9a7cd22d2b16114beb87ecc832d7f"), looks := false }, kinds := [], alts := [], goes := true, laidByText := true, laidKinds := [.funcs], laidTests := true, laidLooks := .later }
def MouldClashesCardSaid : Prop := Claim7.holds Tryz.pinned (.plain (OpenSpec.ofChange mouldClashesSpec)) mouldClashesCard

/-- THE TIED CARD OF 'ribbandlaw04.MouldAsked'. -/
def mouldAskedCard : Claim7 := { stood := { row := mouldAskedRow, standIns := [], harness := (true, "8b4c60804a89a2dc1775d2d899c432f4b3d9a7cd22d2b16114beb87ecc832d7f"), looks := false }, kinds := [], alts := [], goes := true, laidByText := true, laidKinds := [.funcs], laidTests := true, laidLooks := .later }
def MouldAskedCardSaid : Prop := Claim7.holds Tryz.pinned (.plain (OpenSpec.ofChange mouldAskedSpec)) mouldAskedCard

/-- THE TIED CARD OF 'ribbandlaw04.MouldTurned'. -/
def mouldTurnedCard : Claim7 := { stood := { row := mouldTurnedRow, standIns := [], harness := (true, "8b4c60804a89a2dc1775d2d899c432f4b3d9a7cd22d2b16114beb87ecc832d7f"), looks := false }, kinds := [], alts := [], goes := true, laidByText := true, laidKinds := [.funcs], laidTests := true, laidLooks := .later }
def MouldTurnedCardSaid : Prop := Claim7.holds Tryz.pinned (.plain (OpenSpec.ofChange mouldTurnedSpec)) mouldTurnedCard

/-- THE TIED CARD OF 'ribbandlaw04.MouldAnyOrder'. -/
def mouldAnyOrderCard : Claim7 := { stood := { row := mouldAnyOrderRow, standIns := [], harness := (true, "8b4c60804a89a2dc1775d2d899c432f4b3d9a7cd22d2b16114beb87ecc832d7f"), looks := false }, kinds := [], alts := [], goes := true, laidByText := true, laidKinds := [.funcs], laidTests := true, laidLooks := .later }
def MouldAnyOrderCardSaid : Prop := Claim7.holds Tryz.pinned (.plain (OpenSpec.ofChange mouldAnyOrderSpec)) mouldAnyOrderCard

/-- THE TIED CARD OF 'ribbandlaw04.MouldCuts'. -/
def mouldCutsCard : Claim7 := { stood := { row := mouldCutsRow, standIns := [], harness := (true, "8b4c60804a89a2dc1775d2d899c432f4b3d9a7cd22d2b16114beb87ecc832d7f"), looks := false }, kinds := [], alts := [], goes := true, laidByText := true, laidKinds := [.funcs], laidTests := true, laidLooks := .later }
def MouldCutsCardSaid : Prop := Claim7.holds Tryz.pinned (.plain (OpenSpec.ofChange mouldCutsSpec)) mouldCutsCard

/-- THE TIED CARD OF 'ribbandlaw04.MouldReal'. -/
def mouldRealCard : Claim7 := { stood := { row := mouldRealRow, standIns := [], harness := (true, "8b4c60804a89a2dc1775d2d899c432f4b3d9a7cd22d2b16114beb87ecc832d7f"), looks := false }, kinds := [], alts := [], goes := true, laidByText := true, laidKinds := [.funcs], laidTests := true, laidLooks := .later }
def MouldRealCardSaid : Prop := Claim7.holds Tryz.pinned (.plain (OpenSpec.ofChange mouldRealSpec)) mouldRealCard

/-- THE TIED CARD OF 'ribbandlaw04.MouldNeeded'. -/
def mouldNeededCard : Claim7 := { stood := { row := mouldNeededRow, standIns := [], harness := (true, "8b4c60804a89a2dc1775d2d899c432f4b3d9a7cd22d2b16114beb87ecc832d7f"), looks := false }, kinds := [], alts := [], goes := true, laidByText := true, laidKinds := [.funcs], laidTests := true, laidLooks := .later }
def MouldNeededCardSaid : Prop := Claim7.holds Tryz.pinned (.plain (OpenSpec.ofChange mouldNeededSpec)) mouldNeededCard

/-- THE TIED CARD OF 'ribbandlaw04.MouldReached'. -/
def mouldReachedCard : Claim7 := { stood := { row := mouldReachedRow, standIns := [], harness := (true, "8b4c60804a89a2dc1775d2d899c432f4b3d9a7cd22d2b16114beb87ecc832d7f"), looks := false }, kinds := [], alts := [], goes := true, laidByText := true, laidKinds := [.funcs], laidTests := true, laidLooks := .later }
def MouldReachedCardSaid : Prop := Claim7.holds Tryz.pinned (.plain (OpenSpec.ofChange mouldReachedSpec)) mouldReachedCard

/-- THE TIED CARD OF 'ribbandlaw04.MouldLearnt'. -/
def mouldLearntCard : Claim7 := { stood := { row := mouldLearntRow, standIns := [], harness := (true, "8b4c60804a89a2dc1775d2d899c432f4b3d9a7cd22d2b16114beb87ecc832d7f"), looks := false }, kinds := [], alts := [], goes := true, laidByText := true, laidKinds := [.funcs], laidTests := true, laidLooks := .later }
def MouldLearntCardSaid : Prop := Claim7.holds Tryz.pinned (.plain (OpenSpec.ofChange mouldLearntSpec)) mouldLearntCard

/-- THE TIED CARD OF 'ribbandlaw04.MouldNews'. -/
def mouldNewsCard : Claim7 := { stood := { row := mouldNewsRow, standIns := [], harness := (true, "8b4c60804a89a2dc1775d2d899c432f4b3d9a7cd22d2b16114beb87ecc832d7f"), looks := false }, kinds := [], alts := [], goes := true, laidByText := true, laidKinds := [.funcs], laidTests := true, laidLooks := .later }
def MouldNewsCardSaid : Prop := Claim7.holds Tryz.pinned (.plain (OpenSpec.ofChange mouldNewsSpec)) mouldNewsCard

/-- THE SECOND FORM's CARD OF 'ribbandlaw04.MouldBoats'. -/
def mouldBoatsUptoCard : Claim7 := { stood := { row := mouldBoatsUptoRow, standIns := [], harness := (true, "8b4c60804a89a2dc1775d2d899c432f4b3d9a7cd22d2b16114beb87ecc832d7f"), looks := false }, kinds := [], alts := [], goes := true, laidByText := true, laidKinds := [.funcs], laidTests := true, laidLooks := .later }
def MouldBoatsUptoCardSaid : Prop := Claim7.holds Tryz.pinned (.plain (OpenSpec.upto mouldBoatsSpec)) mouldBoatsUptoCard

/-- THE SECOND FORM's CARD OF 'ribbandlaw04.MouldBest'. -/
def mouldBestUptoCard : Claim7 := { stood := { row := mouldBestUptoRow, standIns := [], harness := (true, "8b4c60804a89a2dc1775d2d899c432f4b3d9a7cd22d2b16114beb87ecc832d7f"), looks := false }, kinds := [], alts := [], goes := true, laidByText := true, laidKinds := [.funcs], laidTests := true, laidLooks := .later }
def MouldBestUptoCardSaid : Prop := Claim7.holds Tryz.pinned (.plain (OpenSpec.upto mouldBestSpec)) mouldBestUptoCard

/-- THE SECOND FORM's CARD OF 'ribbandlaw04.MouldSurely'. -/
def mouldSurelyUptoCard : Claim7 := { stood := { row := mouldSurelyUptoRow, standIns := [], harness := (true, "8b4c60804a89a2dc1775d2d899c432f4b3d9a7cd22d2b16114beb87ecc832d7f"), looks := false }, kinds := [], alts := [], goes := true, laidByText := true, laidKinds := [.funcs], laidTests := true, laidLooks := .later }
def MouldSurelyUptoCardSaid : Prop := Claim7.holds Tryz.pinned (.plain (OpenSpec.upto mouldSurelySpec)) mouldSurelyUptoCard

/-- THE SECOND FORM's CARD OF 'ribbandlaw04.MouldFewest'. -/
def mouldFewestUptoCard : Claim7 := { stood := { row := mouldFewestUptoRow, standIns := [], harness := (true, "8b4c60804a89a2dc1775d2d899c432f4b3d9a7cd22d2b16114beb87ecc832d7f"), looks := false }, kinds := [], alts := [], goes := true, laidByText := true, laidKinds := [.funcs], laidTests := true, laidLooks := .later }
def MouldFewestUptoCardSaid : Prop := Claim7.holds Tryz.pinned (.plain (OpenSpec.upto mouldFewestSpec)) mouldFewestUptoCard

/-- THE SECOND FORM's CARD OF 'ribbandlaw04.MouldLeast'. -/
def mouldLeastUptoCard : Claim7 := { stood := { row := mouldLeastUptoRow, standIns := [], harness := (true, "8b4c60804a89a2dc1775d2d899c432f4b3d9a7cd22d2b16114beb87ecc832d7f"), looks := false }, kinds := [], alts := [], goes := true, laidByText := true, laidKinds := [.funcs], laidTests := true, laidLooks := .later }
def MouldLeastUptoCardSaid : Prop := Claim7.holds Tryz.pinned (.plain (OpenSpec.upto mouldLeastSpec)) mouldLeastUptoCard

/-- THE SECOND FORM's CARD OF 'ribbandlaw04.MouldKnots'. -/
def mouldKnotsUptoCard : Claim7 := { stood := { row := mouldKnotsUptoRow, standIns := [], harness := (true, "8b4c60804a89a2dc1775d2d899c432f4b3d9a7cd22d2b16114beb87ecc832d7f"), looks := false }, kinds := [], alts := [], goes := true, laidByText := true, laidKinds := [.funcs], laidTests := true, laidLooks := .later }
def MouldKnotsUptoCardSaid : Prop := Claim7.holds Tryz.pinned (.plain (OpenSpec.upto mouldKnotsSpec)) mouldKnotsUptoCard

/-- THE SECOND FORM's CARD OF 'ribbandlaw04.MouldEasier'. -/
def mouldEasierUptoCard : Claim7 := { stood := { row := mouldEasierUptoRow, standIns := [], harness := (true, "8b4c60804a89a2dc1775d2d899c432f4b3d9a7cd22d2b16114beb87ecc832d7f"), looks := false }, kinds := [], alts := [], goes := true, laidByText := true, laidKinds := [.funcs], laidTests := true, laidLooks := .later }
def MouldEasierUptoCardSaid : Prop := Claim7.holds Tryz.pinned (.plain (OpenSpec.upto mouldEasierSpec)) mouldEasierUptoCard

/-- THE SECOND FORM's CARD OF 'ribbandlaw04.MouldClashes'. -/
def mouldClashesUptoCard : Claim7 := { stood := { row := mouldClashesUptoRow, standIns := [], harness := (true, "8b4c60804a89a2dc1775d2d899c432f4b3d9a7cd22d2b16114beb87ecc832d7f"), looks := false }, kinds := [], alts := [], goes := true, laidByText := true, laidKinds := [.funcs], laidTests := true, laidLooks := .later }
def MouldClashesUptoCardSaid : Prop := Claim7.holds Tryz.pinned (.plain (OpenSpec.upto mouldClashesSpec)) mouldClashesUptoCard

/-- THE SECOND FORM's CARD OF 'ribbandlaw04.MouldAsked'. -/
def mouldAskedUptoCard : Claim7 := { stood := { row := mouldAskedUptoRow, standIns := [], harness := (true, "8b4c60804a89a2dc1775d2d899c432f4b3d9a7cd22d2b16114beb87ecc832d7f"), looks := false }, kinds := [], alts := [], goes := true, laidByText := true, laidKinds := [.funcs], laidTests := true, laidLooks := .later }
def MouldAskedUptoCardSaid : Prop := Claim7.holds Tryz.pinned (.plain (OpenSpec.upto mouldAskedSpec)) mouldAskedUptoCard

/-- THE SECOND FORM's CARD OF 'ribbandlaw04.MouldTurned'. -/
def mouldTurnedUptoCard : Claim7 := { stood := { row := mouldTurnedUptoRow, standIns := [], harness := (true, "8b4c60804a89a2dc1775d2d899c432f4b3d9a7cd22d2b16114beb87ecc832d7f"), looks := false }, kinds := [], alts := [], goes := true, laidByText := true, laidKinds := [.funcs], laidTests := true, laidLooks := .later }
def MouldTurnedUptoCardSaid : Prop := Claim7.holds Tryz.pinned (.plain (OpenSpec.upto mouldTurnedSpec)) mouldTurnedUptoCard

/-- THE SECOND FORM's CARD OF 'ribbandlaw04.MouldAnyOrder'. -/
def mouldAnyOrderUptoCard : Claim7 := { stood := { row := mouldAnyOrderUptoRow, standIns := [], harness := (true, "8b4c60804a89a2dc1775d2d899c432f4b3d9a7cd22d2b16114beb87ecc832d7f"), looks := false }, kinds := [], alts := [], goes := true, laidByText := true, laidKinds := [.funcs], laidTests := true, laidLooks := .later }
def MouldAnyOrderUptoCardSaid : Prop := Claim7.holds Tryz.pinned (.plain (OpenSpec.upto mouldAnyOrderSpec)) mouldAnyOrderUptoCard

/-- THE SECOND FORM's CARD OF 'ribbandlaw04.MouldCuts'. -/
def mouldCutsUptoCard : Claim7 := { stood := { row := mouldCutsUptoRow, standIns := [], harness := (true, "8b4c60804a89a2dc1775d2d899c432f4b3d9a7cd22d2b16114beb87ecc832d7f"), looks := false }, kinds := [], alts := [], goes := true, laidByText := true, laidKinds := [.funcs], laidTests := true, laidLooks := .later }
def MouldCutsUptoCardSaid : Prop := Claim7.holds Tryz.pinned (.plain (OpenSpec.upto mouldCutsSpec)) mouldCutsUptoCard

/-- THE SECOND FORM's CARD OF 'ribbandlaw04.MouldReal'. -/
def mouldRealUptoCard : Claim7 := { stood := { row := mouldRealUptoRow, standIns := [], harness := (true, "8b4c60804a89a2dc1775d2d899c432f4b3d9a7cd22d2b16114beb87ecc832d7f"), looks := false }, kinds := [], alts := [], goes := true, laidByText := true, laidKinds := [.funcs], laidTests := true, laidLooks := .later }
def MouldRealUptoCardSaid : Prop := Claim7.holds Tryz.pinned (.plain (OpenSpec.upto mouldRealSpec)) mouldRealUptoCard

/-- THE SECOND FORM's CARD OF 'ribbandlaw04.MouldNeeded'. -/
def mouldNeededUptoCard : Claim7 := { stood := { row := mouldNeededUptoRow, standIns := [], harness := (true, "8b4c60804a89a2dc1775d2d899c432f4b3d9a7cd22d2b16114beb87ecc832d7f"), looks := false }, kinds := [], alts := [], goes := true, laidByText := true, laidKinds := [.funcs], laidTests := true, laidLooks := .later }
def MouldNeededUptoCardSaid : Prop := Claim7.holds Tryz.pinned (.plain (OpenSpec.upto mouldNeededSpec)) mouldNeededUptoCard

/-- THE SECOND FORM's CARD OF 'ribbandlaw04.MouldReached'. -/
def mouldReachedUptoCard : Claim7 := { stood := { row := mouldReachedUptoRow, standIns := [], harness := (true, "8b4c60804a89a2dc1775d2d899c432f4b3d9a7cd22d2b16114beb87ecc832d7f"), looks := false }, kinds := [], alts := [], goes := true, laidByText := true, laidKinds := [.funcs], laidTests := true, laidLooks := .later }
def MouldReachedUptoCardSaid : Prop := Claim7.holds Tryz.pinned (.plain (OpenSpec.upto mouldReachedSpec)) mouldReachedUptoCard

/-- THE SECOND FORM's CARD OF 'ribbandlaw04.MouldLearnt'. -/
def mouldLearntUptoCard : Claim7 := { stood := { row := mouldLearntUptoRow, standIns := [], harness := (true, "8b4c60804a89a2dc1775d2d899c432f4b3d9a7cd22d2b16114beb87ecc832d7f"), looks := false }, kinds := [], alts := [], goes := true, laidByText := true, laidKinds := [.funcs], laidTests := true, laidLooks := .later }
def MouldLearntUptoCardSaid : Prop := Claim7.holds Tryz.pinned (.plain (OpenSpec.upto mouldLearntSpec)) mouldLearntUptoCard

/-- THE SECOND FORM's CARD OF 'ribbandlaw04.MouldNews'. -/
def mouldNewsUptoCard : Claim7 := { stood := { row := mouldNewsUptoRow, standIns := [], harness := (true, "8b4c60804a89a2dc1775d2d899c432f4b3d9a7cd22d2b16114beb87ecc832d7f"), looks := false }, kinds := [], alts := [], goes := true, laidByText := true, laidKinds := [.funcs], laidTests := true, laidLooks := .later }
def MouldNewsUptoCardSaid : Prop := Claim7.holds Tryz.pinned (.plain (OpenSpec.upto mouldNewsSpec)) mouldNewsUptoCard
end Rows
end Go.Proofs.YtfifdjajcogccaaGreatDoor
