/-
  DERIVED. GIVEN WITH THE SEED: THE CARDS: each row of YtmpofjiokpeegaaGreatDoorRows.lean that lists a variable, with what it lists TIED to the program's text (the seventh form; the later family's looks); each row that meets fmt, with fmt's text TOLD by the authors' own Lean function (tested against real Go, not proved from fmt's source: count such statements apart). THE CARD IS WHAT COUNTS. Prove the row's statement (the work); the ties are given (YtmpofjiokpeegaaGreatDoorTie.lean); close each card by the builder's one call (the guide's Derived/Test/ToyasCard.lean, 'card_holds'). Laid BY PROGRAM, IN A SANDBOX (cutbox-door.mjs). By AI agents, Wed Nov 11 2026. No macro, syntax, notation, axiom, sorry.
-/
import Derived.Test.YtmpofjiokpeegaaGreatDoorRows
import GoSem.ClaimSeven
namespace Go.Proofs.YtmpofjiokpeegaaGreatDoor
namespace Rows

/-- THE TIED CARD OF 'pagodalaw27.SafeLifted'. -/
def safeLiftedCard : Claim7 := { stood := { row := safeLiftedRow, standIns := [], harness := (true, "276281381aeeddcbf331b1d3fd2842c84a196ad6d3eeb788474b70cc62e3ca80"), looks := true }, kinds := [], alts := [], laidByText := true, laidKinds := [.data, .mapped], laidTests := true, laidLooks := .later }
def SafeLiftedCardSaid : Prop := Claim7.holds Tryz.pinned (.plain (OpenSpec.ofChange safeLiftedSpec)) safeLiftedCard

/-- THE TIED CARD OF 'pagodalaw25.MultiChecks'. -/
def multiChecksCard : Claim7 := { stood := { row := multiChecksRow, standIns := [], harness := (true, "276281381aeeddcbf331b1d3fd2842c84a196ad6d3eeb788474b70cc62e3ca80"), looks := true }, kinds := [], alts := [], laidByText := true, laidKinds := [.data, .data, .data, .sentinel, .sentinel, .data, .mapped], laidTests := true, laidLooks := .later }
def MultiChecksCardSaid : Prop := Claim7.holds Tryz.pinned (.plain (OpenSpec.ofChange multiChecksSpec)) multiChecksCard

/-- THE TIED CARD OF 'pagodalaw27.SafeFinds'. -/
def safeFindsCard : Claim7 := { stood := { row := safeFindsRow, standIns := [], harness := (true, "276281381aeeddcbf331b1d3fd2842c84a196ad6d3eeb788474b70cc62e3ca80"), looks := true }, kinds := [], alts := [], laidByText := true, laidKinds := [.data, .mapped], laidTests := true, laidLooks := .later }
def SafeFindsCardSaid : Prop := Claim7.holds Tryz.pinned (.plain (OpenSpec.ofChange safeFindsSpec)) safeFindsCard

/-- THE TIED CARD OF 'pagodalaw25.MultiLevels'. -/
def multiLevelsCard : Claim7 := { stood := { row := multiLevelsRow, standIns := [], harness := (true, "276281381aeeddcbf331b1d3fd2842c84a196ad6d3eeb788474b70cc62e3ca80"), looks := true }, kinds := [], alts := [], laidByText := true, laidKinds := [.data, .data, .data, .sentinel, .sentinel, .data, .mapped], laidTests := true, laidLooks := .later }
def MultiLevelsCardSaid : Prop := Claim7.holds Tryz.pinned (.plain (OpenSpec.ofChange multiLevelsSpec)) multiLevelsCard

/-- THE TIED CARD OF 'pagodalaw25.MultiPlains'. -/
def multiPlainsCard : Claim7 := { stood := { row := multiPlainsRow, standIns := [], harness := (true, "276281381aeeddcbf331b1d3fd2842c84a196ad6d3eeb788474b70cc62e3ca80"), looks := true }, kinds := [], alts := [], laidByText := true, laidKinds := [.data, .data, .data, .sentinel, .sentinel, .data, .mapped], laidTests := true, laidLooks := .later }
def MultiPlainsCardSaid : Prop := Claim7.holds Tryz.pinned (.plain (OpenSpec.ofChange multiPlainsSpec)) multiPlainsCard

/-- THE TIED CARD OF 'pagodalaw25.MultiPlain'. -/
def multiPlainCard : Claim7 := { stood := { row := multiPlainRow, standIns := [], harness := (true, "276281381aeeddcbf331b1d3fd2842c84a196ad6d3eeb788474b70cc62e3ca80"), looks := true }, kinds := [], alts := [], laidByText := true, laidKinds := [.data, .data, .data, .sentinel, .sentinel, .data, .mapped], laidTests := true, laidLooks := .later }
def MultiPlainCardSaid : Prop := Claim7.holds Tryz.pinned (.plain (OpenSpec.ofChange multiPlainSpec)) multiPlainCard

/-- THE TIED CARD OF 'pagodalaw25.MultiMakes'. -/
def multiMakesCard : Claim7 := { stood := { row := multiMakesRow, standIns := [], harness := (true, "276281381aeeddcbf331b1d3fd2842c84a196ad6d3eeb788474b70cc62e3ca80"), looks := true }, kinds := [], alts := [], laidByText := true, laidKinds := [.data, .data, .data, .sentinel, .sentinel, .data, .mapped], laidTests := true, laidLooks := .later }
def MultiMakesCardSaid : Prop := Claim7.holds Tryz.pinned (.plain (OpenSpec.ofChange multiMakesSpec)) multiMakesCard

/-- THE SECOND FORM's CARD OF 'pagodalaw27.SafeLifted'. -/
def safeLiftedUptoCard : Claim7 := { stood := { row := safeLiftedUptoRow, standIns := [], harness := (true, "276281381aeeddcbf331b1d3fd2842c84a196ad6d3eeb788474b70cc62e3ca80"), looks := true }, kinds := [], alts := [], laidByText := true, laidKinds := [.data, .mapped], laidTests := true, laidLooks := .later }
def SafeLiftedUptoCardSaid : Prop := Claim7.holds Tryz.pinned (.plain (OpenSpec.upto safeLiftedSpec)) safeLiftedUptoCard

/-- THE SECOND FORM's CARD OF 'pagodalaw25.MultiChecks'. -/
def multiChecksUptoCard : Claim7 := { stood := { row := multiChecksUptoRow, standIns := [], harness := (true, "276281381aeeddcbf331b1d3fd2842c84a196ad6d3eeb788474b70cc62e3ca80"), looks := true }, kinds := [], alts := [], laidByText := true, laidKinds := [.data, .data, .data, .sentinel, .sentinel, .data, .mapped], laidTests := true, laidLooks := .later }
def MultiChecksUptoCardSaid : Prop := Claim7.holds Tryz.pinned (.plain (OpenSpec.upto multiChecksSpec)) multiChecksUptoCard

/-- THE SECOND FORM's CARD OF 'pagodalaw27.SafeFinds'. -/
def safeFindsUptoCard : Claim7 := { stood := { row := safeFindsUptoRow, standIns := [], harness := (true, "276281381aeeddcbf331b1d3fd2842c84a196ad6d3eeb788474b70cc62e3ca80"), looks := true }, kinds := [], alts := [], laidByText := true, laidKinds := [.data, .mapped], laidTests := true, laidLooks := .later }
def SafeFindsUptoCardSaid : Prop := Claim7.holds Tryz.pinned (.plain (OpenSpec.upto safeFindsSpec)) safeFindsUptoCard

/-- THE SECOND FORM's CARD OF 'pagodalaw25.MultiLevels'. -/
def multiLevelsUptoCard : Claim7 := { stood := { row := multiLevelsUptoRow, standIns := [], harness := (true, "276281381aeeddcbf331b1d3fd2842c84a196ad6d3eeb788474b70cc62e3ca80"), looks := true }, kinds := [], alts := [], laidByText := true, laidKinds := [.data, .data, .data, .sentinel, .sentinel, .data, .mapped], laidTests := true, laidLooks := .later }
def MultiLevelsUptoCardSaid : Prop := Claim7.holds Tryz.pinned (.plain (OpenSpec.upto multiLevelsSpec)) multiLevelsUptoCard

/-- THE SECOND FORM's CARD OF 'pagodalaw25.MultiPlains'. -/
def multiPlainsUptoCard : Claim7 := { stood := { row := multiPlainsUptoRow, standIns := [], harness := (true, "276281381aeeddcbf331b1d3fd2842c84a196ad6d3eeb788474b70cc62e3ca80"), looks := true }, kinds := [], alts := [], laidByText := true, laidKinds := [.data, .data, .data, .sentinel, .sentinel, .data, .mapped], laidTests := true, laidLooks := .later }
def MultiPlainsUptoCardSaid : Prop := Claim7.holds Tryz.pinned (.plain (OpenSpec.upto multiPlainsSpec)) multiPlainsUptoCard

/-- THE SECOND FORM's CARD OF 'pagodalaw25.MultiPlain'. -/
def multiPlainUptoCard : Claim7 := { stood := { row := multiPlainUptoRow, standIns := [], harness := (true, "276281381aeeddcbf331b1d3fd2842c84a196ad6d3eeb788474b70cc62e3ca80"), looks := true }, kinds := [], alts := [], laidByText := true, laidKinds := [.data, .data, .data, .sentinel, .sentinel, .data, .mapped], laidTests := true, laidLooks := .later }
def MultiPlainUptoCardSaid : Prop := Claim7.holds Tryz.pinned (.plain (OpenSpec.upto multiPlainSpec)) multiPlainUptoCard

/-- THE SECOND FORM's CARD OF 'pagodalaw25.MultiMakes'. -/
def multiMakesUptoCard : Claim7 := { stood := { row := multiMakesUptoRow, standIns := [], harness := (true, "276281381aeeddcbf331b1d3fd2842c84a196ad6d3eeb788474b70cc62e3ca80"), looks := true }, kinds := [], alts := [], laidByText := true, laidKinds := [.data, .data, .data, .sentinel, .sentinel, .data, .mapped], laidTests := true, laidLooks := .later }
def MultiMakesUptoCardSaid : Prop := Claim7.holds Tryz.pinned (.plain (OpenSpec.upto multiMakesSpec)) multiMakesUptoCard
end Rows
end Go.Proofs.YtmpofjiokpeegaaGreatDoor
