/-
  DERIVED. GIVEN WITH THE SEED: THE CARDS: each row of YtienmmfjjffjaaaGreatDoorRows.lean that lists a variable, with what it lists TIED to the program's text (the seventh form; the later family's looks); each row that meets fmt, with fmt's text TOLD by the authors' own Lean function (tested against real Go, not proved from fmt's source: count such statements apart). THE CARD IS WHAT COUNTS. Prove the row's statement (the work); the ties are given (YtienmmfjjffjaaaGreatDoorTie.lean); close each card by the builder's one call (the guide's Derived/Test/ToyasCard.lean, 'card_holds'). Laid BY PROGRAM, IN A SANDBOX (cutbox-door.mjs). By AI agents, Wed Nov 11 2026. No macro, syntax, notation, axiom, sorry.
-/
import Derived.Test.YtienmmfjjffjaaaGreatDoorRows
import GoSem.ClaimSeven
namespace Go.Proofs.YtienmmfjjffjaaaGreatDoor
namespace Rows

/-- THE TIED CARD OF 'pagodalaw17.FlatChecks'. -/
def flatChecksCard : Claim7 := { stood := { row := flatChecksRow, standIns := [], harness := (true, "90130382fac7d9d0ed5a2357e0a309ea32f779a7967c3879cd180699234b33dc"), looks := false }, kinds := [], alts := [], laidByText := true, laidKinds := [.data, .data, .data, .mapped, .data], laidTests := true, laidLooks := .later }
def FlatChecksCardSaid : Prop := Claim7.holds Tryz.pinned (.plain (OpenSpec.ofChange flatChecksSpec)) flatChecksCard

/-- THE TIED CARD OF 'pagodalaw17.FlatCanons'. -/
def flatCanonsCard : Claim7 := { stood := { row := flatCanonsRow, standIns := [], harness := (true, "90130382fac7d9d0ed5a2357e0a309ea32f779a7967c3879cd180699234b33dc"), looks := false }, kinds := [], alts := [], laidByText := true, laidKinds := [.data, .data, .data, .mapped, .data], laidTests := true, laidLooks := .later }
def FlatCanonsCardSaid : Prop := Claim7.holds Tryz.pinned (.plain (OpenSpec.ofChange flatCanonsSpec)) flatCanonsCard

/-- THE TIED CARD OF 'pagodalaw17.FlatCanon'. -/
def flatCanonCard : Claim7 := { stood := { row := flatCanonRow, standIns := [], harness := (true, "90130382fac7d9d0ed5a2357e0a309ea32f779a7967c3879cd180699234b33dc"), looks := false }, kinds := [], alts := [], laidByText := true, laidKinds := [.data, .data, .data, .mapped, .data], laidTests := true, laidLooks := .later }
def FlatCanonCardSaid : Prop := Claim7.holds Tryz.pinned (.plain (OpenSpec.ofChange flatCanonSpec)) flatCanonCard

/-- THE TIED CARD OF 'pagodalaw17.FlatExprs'. -/
def flatExprsCard : Claim7 := { stood := { row := flatExprsRow, standIns := [], harness := (true, "90130382fac7d9d0ed5a2357e0a309ea32f779a7967c3879cd180699234b33dc"), looks := false }, kinds := [], alts := [], laidByText := true, laidKinds := [.data, .data, .data, .mapped, .data], laidTests := true, laidLooks := .later }
def FlatExprsCardSaid : Prop := Claim7.holds Tryz.pinned (.plain (OpenSpec.ofChange flatExprsSpec)) flatExprsCard

/-- THE TIED CARD OF 'pagodalaw17.FlatJoins'. -/
def flatJoinsCard : Claim7 := { stood := { row := flatJoinsRow, standIns := [], harness := (true, "90130382fac7d9d0ed5a2357e0a309ea32f779a7967c3879cd180699234b33dc"), looks := false }, kinds := [], alts := [], laidByText := true, laidKinds := [.data, .data, .data, .mapped, .data], laidTests := true, laidLooks := .later }
def FlatJoinsCardSaid : Prop := Claim7.holds Tryz.pinned (.plain (OpenSpec.ofChange flatJoinsSpec)) flatJoinsCard

/-- THE TIED CARD OF 'pagodalaw17.FlatDefs'. -/
def flatDefsCard : Claim7 := { stood := { row := flatDefsRow, standIns := [], harness := (true, "90130382fac7d9d0ed5a2357e0a309ea32f779a7967c3879cd180699234b33dc"), looks := false }, kinds := [], alts := [], laidByText := true, laidKinds := [.data, .data, .data, .mapped, .data], laidTests := true, laidLooks := .later }
def FlatDefsCardSaid : Prop := Claim7.holds Tryz.pinned (.plain (OpenSpec.ofChange flatDefsSpec)) flatDefsCard

/-- THE SECOND FORM's CARD OF 'pagodalaw17.FlatChecks'. -/
def flatChecksUptoCard : Claim7 := { stood := { row := flatChecksUptoRow, standIns := [], harness := (true, "90130382fac7d9d0ed5a2357e0a309ea32f779a7967c3879cd180699234b33dc"), looks := false }, kinds := [], alts := [], laidByText := true, laidKinds := [.data, .data, .data, .mapped, .data], laidTests := true, laidLooks := .later }
def FlatChecksUptoCardSaid : Prop := Claim7.holds Tryz.pinned (.plain (OpenSpec.upto flatChecksSpec)) flatChecksUptoCard

/-- THE SECOND FORM's CARD OF 'pagodalaw17.FlatCanons'. -/
def flatCanonsUptoCard : Claim7 := { stood := { row := flatCanonsUptoRow, standIns := [], harness := (true, "90130382fac7d9d0ed5a2357e0a309ea32f779a7967c3879cd180699234b33dc"), looks := false }, kinds := [], alts := [], laidByText := true, laidKinds := [.data, .data, .data, .mapped, .data], laidTests := true, laidLooks := .later }
def FlatCanonsUptoCardSaid : Prop := Claim7.holds Tryz.pinned (.plain (OpenSpec.upto flatCanonsSpec)) flatCanonsUptoCard

/-- THE SECOND FORM's CARD OF 'pagodalaw17.FlatCanon'. -/
def flatCanonUptoCard : Claim7 := { stood := { row := flatCanonUptoRow, standIns := [], harness := (true, "90130382fac7d9d0ed5a2357e0a309ea32f779a7967c3879cd180699234b33dc"), looks := false }, kinds := [], alts := [], laidByText := true, laidKinds := [.data, .data, .data, .mapped, .data], laidTests := true, laidLooks := .later }
def FlatCanonUptoCardSaid : Prop := Claim7.holds Tryz.pinned (.plain (OpenSpec.upto flatCanonSpec)) flatCanonUptoCard

/-- THE SECOND FORM's CARD OF 'pagodalaw17.FlatExprs'. -/
def flatExprsUptoCard : Claim7 := { stood := { row := flatExprsUptoRow, standIns := [], harness := (true, "90130382fac7d9d0ed5a2357e0a309ea32f779a7967c3879cd180699234b33dc"), looks := false }, kinds := [], alts := [], laidByText := true, laidKinds := [.data, .data, .data, .mapped, .data], laidTests := true, laidLooks := .later }
def FlatExprsUptoCardSaid : Prop := Claim7.holds Tryz.pinned (.plain (OpenSpec.upto flatExprsSpec)) flatExprsUptoCard

/-- THE SECOND FORM's CARD OF 'pagodalaw17.FlatJoins'. -/
def flatJoinsUptoCard : Claim7 := { stood := { row := flatJoinsUptoRow, standIns := [], harness := (true, "90130382fac7d9d0ed5a2357e0a309ea32f779a7967c3879cd180699234b33dc"), looks := false }, kinds := [], alts := [], laidByText := true, laidKinds := [.data, .data, .data, .mapped, .data], laidTests := true, laidLooks := .later }
def FlatJoinsUptoCardSaid : Prop := Claim7.holds Tryz.pinned (.plain (OpenSpec.upto flatJoinsSpec)) flatJoinsUptoCard

/-- THE SECOND FORM's CARD OF 'pagodalaw17.FlatDefs'. -/
def flatDefsUptoCard : Claim7 := { stood := { row := flatDefsUptoRow, standIns := [], harness := (true, "90130382fac7d9d0ed5a2357e0a309ea32f779a7967c3879cd180699234b33dc"), looks := false }, kinds := [], alts := [], laidByText := true, laidKinds := [.data, .data, .data, .mapped, .data], laidTests := true, laidLooks := .later }
def FlatDefsUptoCardSaid : Prop := Claim7.holds Tryz.pinned (.plain (OpenSpec.upto flatDefsSpec)) flatDefsUptoCard
end Rows
end Go.Proofs.YtienmmfjjffjaaaGreatDoor
