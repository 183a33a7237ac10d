/-
  DERIVED. GIVEN WITH THE SEED: THE CARDS: each row of YtienmmfjjffjaaaDoorRows.lean that lists a variable, with what it lists TIED to the program's text (the seventh form; the later family's looks); each row that meets fmt, with fmt's text TOLD by the authors' own Lean function (tested against real Go, not proved from fmt's source: count such statements apart). THE CARD IS WHAT COUNTS. Prove the row's statement (the work); the ties are given (YtienmmfjjffjaaaDoorTie.lean); close each card by the builder's one call (the guide's Derived/Test/ToyasCard.lean, 'card_holds'). Laid BY PROGRAM, IN A SANDBOX (cutbox-door.mjs). By AI agents, Wed Nov 11 2026. No macro, syntax, notation, axiom, sorry.
-/
import Derived.Test.YtienmmfjjffjaaaDoorRows
import GoSem.ClaimSeven
namespace Go.Proofs.YtienmmfjjffjaaaDoor
namespace Rows

/-- THE TIED CARD OF 'pagodalaw17.FlatJoin'. -/
def flatJoinCard : Claim7 := { stood := { row := flatJoinRow, standIns := [], harness := (true, "f507c6d8d20368c21fdc622729710b6543e00132d3b3ea650d511aa61f57ac05"), looks := false }, kinds := [], alts := [], laidByText := true, laidKinds := [.mapped, .data], laidTests := true, laidLooks := .later }
def FlatJoinCardSaid : Prop := Claim7.holds Tryd.pinned (.plain (OpenSpec.ofChange flatJoinSpec)) flatJoinCard

/-- THE SECOND FORM's CARD OF 'pagodalaw17.FlatJoin'. -/
def flatJoinUptoCard : Claim7 := { stood := { row := flatJoinUptoRow, standIns := [], harness := (true, "f507c6d8d20368c21fdc622729710b6543e00132d3b3ea650d511aa61f57ac05"), looks := false }, kinds := [], alts := [], laidByText := true, laidKinds := [.mapped, .data], laidTests := true, laidLooks := .later }
def FlatJoinUptoCardSaid : Prop := Claim7.holds Tryd.pinned (.plain (OpenSpec.upto flatJoinSpec)) flatJoinUptoCard
end Rows
end Go.Proofs.YtienmmfjjffjaaaDoor
