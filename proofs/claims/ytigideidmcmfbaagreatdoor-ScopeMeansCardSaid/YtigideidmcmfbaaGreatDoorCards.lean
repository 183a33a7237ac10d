/-
  DERIVED. GIVEN WITH THE SEED: THE CARDS: each row of YtigideidmcmfbaaGreatDoorRows.lean that lists a variable, with what it lists TIED to the program's text (the seventh form; the later family's looks); each row that meets fmt, with fmt's text TOLD by the authors' own Lean function (tested against real Go, not proved from fmt's source: count such statements apart). THE CARD IS WHAT COUNTS. Prove the row's statement (the work); the ties are given (YtigideidmcmfbaaGreatDoorTie.lean); close each card by the builder's one call (the guide's Derived/Test/ToyasCard.lean, 'card_holds'). Laid BY PROGRAM, IN A SANDBOX (cutbox-door.mjs). By AI agents, Wed Nov 11 2026. No macro, syntax, notation, axiom, sorry.
-/
import Derived.Test.YtigideidmcmfbaaGreatDoorRows
import GoSem.ClaimSeven
namespace Go.Proofs.YtigideidmcmfbaaGreatDoor
namespace Rows

/-- THE TIED CARD OF 'pagodalaw06.ScopeFree'. -/
def scopeFreeCard : Claim7 := { stood := { row := scopeFreeRow, standIns := [], harness := (true, "5840acd6a9c41cc48ca146710c815c1ac9039654964f322dfef91e7ed1637ff4"), looks := false }, kinds := [], alts := [], laidByText := true, laidKinds := [.data, .data, .data, .mapped], laidTests := true, laidLooks := .later }
def ScopeFreeCardSaid : Prop := Claim7.holds Tryz.pinned (.plain (OpenSpec.ofChange scopeFreeSpec)) scopeFreeCard

/-- THE TIED CARD OF 'pagodalaw06.ScopeFresh'. -/
def scopeFreshCard : Claim7 := { stood := { row := scopeFreshRow, standIns := [], harness := (true, "5840acd6a9c41cc48ca146710c815c1ac9039654964f322dfef91e7ed1637ff4"), looks := false }, kinds := [], alts := [], laidByText := true, laidKinds := [.data, .data, .data, .mapped], laidTests := true, laidLooks := .later }
def ScopeFreshCardSaid : Prop := Claim7.holds Tryz.pinned (.plain (OpenSpec.ofChange scopeFreshSpec)) scopeFreshCard

/-- THE TIED CARD OF 'pagodalaw06.ScopeMeans'. -/
def scopeMeansCard : Claim7 := { stood := { row := scopeMeansRow, standIns := [], harness := (true, "5840acd6a9c41cc48ca146710c815c1ac9039654964f322dfef91e7ed1637ff4"), looks := false }, kinds := [], alts := [], laidByText := true, laidKinds := [.data, .data, .data, .mapped], laidTests := true, laidLooks := .later }
def ScopeMeansCardSaid : Prop := Claim7.holds Tryz.pinned (.plain (OpenSpec.ofChange scopeMeansSpec)) scopeMeansCard

/-- THE TIED CARD OF 'pagodalaw06.ScopeBinds'. -/
def scopeBindsCard : Claim7 := { stood := { row := scopeBindsRow, standIns := [], harness := (true, "5840acd6a9c41cc48ca146710c815c1ac9039654964f322dfef91e7ed1637ff4"), looks := false }, kinds := [], alts := [], laidByText := true, laidKinds := [.data, .data, .data, .mapped], laidTests := true, laidLooks := .later }
def ScopeBindsCardSaid : Prop := Claim7.holds Tryz.pinned (.plain (OpenSpec.ofChange scopeBindsSpec)) scopeBindsCard

/-- THE TIED CARD OF 'pagodalaw06.ScopeCanons'. -/
def scopeCanonsCard : Claim7 := { stood := { row := scopeCanonsRow, standIns := [], harness := (true, "5840acd6a9c41cc48ca146710c815c1ac9039654964f322dfef91e7ed1637ff4"), looks := false }, kinds := [], alts := [], laidByText := true, laidKinds := [.data, .data, .data, .mapped], laidTests := true, laidLooks := .later }
def ScopeCanonsCardSaid : Prop := Claim7.holds Tryz.pinned (.plain (OpenSpec.ofChange scopeCanonsSpec)) scopeCanonsCard

/-- THE TIED CARD OF 'pagodalaw06.ScopeSubsts'. -/
def scopeSubstsCard : Claim7 := { stood := { row := scopeSubstsRow, standIns := [], harness := (true, "5840acd6a9c41cc48ca146710c815c1ac9039654964f322dfef91e7ed1637ff4"), looks := false }, kinds := [], alts := [], laidByText := true, laidKinds := [.data, .data, .data, .mapped], laidTests := true, laidLooks := .later }
def ScopeSubstsCardSaid : Prop := Claim7.holds Tryz.pinned (.plain (OpenSpec.ofChange scopeSubstsSpec)) scopeSubstsCard

/-- THE TIED CARD OF 'pagodalaw06.ScopeCanonical'. -/
def scopeCanonicalCard : Claim7 := { stood := { row := scopeCanonicalRow, standIns := [], harness := (true, "5840acd6a9c41cc48ca146710c815c1ac9039654964f322dfef91e7ed1637ff4"), looks := false }, kinds := [], alts := [], laidByText := true, laidKinds := [.data, .data, .data, .mapped], laidTests := true, laidLooks := .later }
def ScopeCanonicalCardSaid : Prop := Claim7.holds Tryz.pinned (.plain (OpenSpec.ofChange scopeCanonicalSpec)) scopeCanonicalCard

/-- THE TIED CARD OF 'pagodalaw06.ScopeFreeOf'. -/
def scopeFreeOfCard : Claim7 := { stood := { row := scopeFreeOfRow, standIns := [], harness := (true, "5840acd6a9c41cc48ca146710c815c1ac9039654964f322dfef91e7ed1637ff4"), looks := false }, kinds := [], alts := [], laidByText := true, laidKinds := [.data, .data, .data, .mapped], laidTests := true, laidLooks := .later }
def ScopeFreeOfCardSaid : Prop := Claim7.holds Tryz.pinned (.plain (OpenSpec.ofChange scopeFreeOfSpec)) scopeFreeOfCard

/-- THE TIED CARD OF 'pagodalaw06.ScopeSelf'. -/
def scopeSelfCard : Claim7 := { stood := { row := scopeSelfRow, standIns := [], harness := (true, "5840acd6a9c41cc48ca146710c815c1ac9039654964f322dfef91e7ed1637ff4"), looks := false }, kinds := [], alts := [], laidByText := true, laidKinds := [.data, .data, .data, .mapped], laidTests := true, laidLooks := .later }
def ScopeSelfCardSaid : Prop := Claim7.holds Tryz.pinned (.plain (OpenSpec.ofChange scopeSelfSpec)) scopeSelfCard

/-- THE SECOND FORM's CARD OF 'pagodalaw06.ScopeFree'. -/
def scopeFreeUptoCard : Claim7 := { stood := { row := scopeFreeUptoRow, standIns := [], harness := (true, "5840acd6a9c41cc48ca146710c815c1ac9039654964f322dfef91e7ed1637ff4"), looks := false }, kinds := [], alts := [], laidByText := true, laidKinds := [.data, .data, .data, .mapped], laidTests := true, laidLooks := .later }
def ScopeFreeUptoCardSaid : Prop := Claim7.holds Tryz.pinned (.plain (OpenSpec.upto scopeFreeSpec)) scopeFreeUptoCard

/-- THE SECOND FORM's CARD OF 'pagodalaw06.ScopeFresh'. -/
def scopeFreshUptoCard : Claim7 := { stood := { row := scopeFreshUptoRow, standIns := [], harness := (true, "5840acd6a9c41cc48ca146710c815c1ac9039654964f322dfef91e7ed1637ff4"), looks := false }, kinds := [], alts := [], laidByText := true, laidKinds := [.data, .data, .data, .mapped], laidTests := true, laidLooks := .later }
def ScopeFreshUptoCardSaid : Prop := Claim7.holds Tryz.pinned (.plain (OpenSpec.upto scopeFreshSpec)) scopeFreshUptoCard

/-- THE SECOND FORM's CARD OF 'pagodalaw06.ScopeMeans'. -/
def scopeMeansUptoCard : Claim7 := { stood := { row := scopeMeansUptoRow, standIns := [], harness := (true, "5840acd6a9c41cc48ca146710c815c1ac9039654964f322dfef91e7ed1637ff4"), looks := false }, kinds := [], alts := [], laidByText := true, laidKinds := [.data, .data, .data, .mapped], laidTests := true, laidLooks := .later }
def ScopeMeansUptoCardSaid : Prop := Claim7.holds Tryz.pinned (.plain (OpenSpec.upto scopeMeansSpec)) scopeMeansUptoCard

/-- THE SECOND FORM's CARD OF 'pagodalaw06.ScopeBinds'. -/
def scopeBindsUptoCard : Claim7 := { stood := { row := scopeBindsUptoRow, standIns := [], harness := (true, "5840acd6a9c41cc48ca146710c815c1ac9039654964f322dfef91e7ed1637ff4"), looks := false }, kinds := [], alts := [], laidByText := true, laidKinds := [.data, .data, .data, .mapped], laidTests := true, laidLooks := .later }
def ScopeBindsUptoCardSaid : Prop := Claim7.holds Tryz.pinned (.plain (OpenSpec.upto scopeBindsSpec)) scopeBindsUptoCard

/-- THE SECOND FORM's CARD OF 'pagodalaw06.ScopeCanons'. -/
def scopeCanonsUptoCard : Claim7 := { stood := { row := scopeCanonsUptoRow, standIns := [], harness := (true, "5840acd6a9c41cc48ca146710c815c1ac9039654964f322dfef91e7ed1637ff4"), looks := false }, kinds := [], alts := [], laidByText := true, laidKinds := [.data, .data, .data, .mapped], laidTests := true, laidLooks := .later }
def ScopeCanonsUptoCardSaid : Prop := Claim7.holds Tryz.pinned (.plain (OpenSpec.upto scopeCanonsSpec)) scopeCanonsUptoCard

/-- THE SECOND FORM's CARD OF 'pagodalaw06.ScopeSubsts'. -/
def scopeSubstsUptoCard : Claim7 := { stood := { row := scopeSubstsUptoRow, standIns := [], harness := (true, "5840acd6a9c41cc48ca146710c815c1ac9039654964f322dfef91e7ed1637ff4"), looks := false }, kinds := [], alts := [], laidByText := true, laidKinds := [.data, .data, .data, .mapped], laidTests := true, laidLooks := .later }
def ScopeSubstsUptoCardSaid : Prop := Claim7.holds Tryz.pinned (.plain (OpenSpec.upto scopeSubstsSpec)) scopeSubstsUptoCard

/-- THE SECOND FORM's CARD OF 'pagodalaw06.ScopeCanonical'. -/
def scopeCanonicalUptoCard : Claim7 := { stood := { row := scopeCanonicalUptoRow, standIns := [], harness := (true, "5840acd6a9c41cc48ca146710c815c1ac9039654964f322dfef91e7ed1637ff4"), looks := false }, kinds := [], alts := [], laidByText := true, laidKinds := [.data, .data, .data, .mapped], laidTests := true, laidLooks := .later }
def ScopeCanonicalUptoCardSaid : Prop := Claim7.holds Tryz.pinned (.plain (OpenSpec.upto scopeCanonicalSpec)) scopeCanonicalUptoCard

/-- THE SECOND FORM's CARD OF 'pagodalaw06.ScopeFreeOf'. -/
def scopeFreeOfUptoCard : Claim7 := { stood := { row := scopeFreeOfUptoRow, standIns := [], harness := (true, "5840acd6a9c41cc48ca146710c815c1ac9039654964f322dfef91e7ed1637ff4"), looks := false }, kinds := [], alts := [], laidByText := true, laidKinds := [.data, .data, .data, .mapped], laidTests := true, laidLooks := .later }
def ScopeFreeOfUptoCardSaid : Prop := Claim7.holds Tryz.pinned (.plain (OpenSpec.upto scopeFreeOfSpec)) scopeFreeOfUptoCard

/-- THE SECOND FORM's CARD OF 'pagodalaw06.ScopeSelf'. -/
def scopeSelfUptoCard : Claim7 := { stood := { row := scopeSelfUptoRow, standIns := [], harness := (true, "5840acd6a9c41cc48ca146710c815c1ac9039654964f322dfef91e7ed1637ff4"), looks := false }, kinds := [], alts := [], laidByText := true, laidKinds := [.data, .data, .data, .mapped], laidTests := true, laidLooks := .later }
def ScopeSelfUptoCardSaid : Prop := Claim7.holds Tryz.pinned (.plain (OpenSpec.upto scopeSelfSpec)) scopeSelfUptoCard
end Rows
end Go.Proofs.YtigideidmcmfbaaGreatDoor
