/-
  NARROWER THAN 'FOR EVERY INPUT', by the rows' own cells (each row's printed sentence says how): FlatJoin: loops, laid.
  DERIVED. THE GIVEN ROWS OF THIS SEAT. 1 by the template 'for every input the law returns true; each argument reads behind the call as it read before'; 0 by the template 'total and deterministic' (their statements: YtienmmfjjffjaaaDoorTotals.lean).
  GIVEN WITH THE SEED: the statements are not yours to turn. If you find one false, say at which input.
  Laid BY PROGRAM, IN A SANDBOX (cutbox-rows.mjs): the forced cells as the released guide's own fill.sh prints them over the translation 395c2475b26bc7ce… (all of the seat's roots in one cut). By AI agents, Wed Nov 11 2026. No macro, syntax, notation, axiom, sorry.
-/
import Derived.Test.YtienmmfjjffjaaaDoorChecked
import GoSem.Claim
import GoSem.ClaimJoined
import GoSem.ClaimMapViews
import Derived.JoinedTies
import Derived.KernelRfl
namespace Go.Proofs.YtienmmfjjffjaaaDoor
/- THE CELL 'sum', in the pinned program and in every row, IS THE sha256 OF THE DUMP (.gsa) THAT YtienmmfjjffjaaaDoorProg.lean LOADS. Nothing in Lean hashes anything: it is a label: what it is worth is what the hold of that sum in a sandbox is worth. -/
noncomputable def Tryd.pinned : Pinned := { name := "ytienmmfjjffjaaadoor", sum := "395c2475b26bc7ce58a51218a391fad72db8a548b50c0a244c2325b734de77ee", checked := Tryd.checked }
namespace Rows
def none {H : Type} : Left H := { results := [], args := [] }

/- WHAT THE LISTED PACKAGE-LEVEL VARIABLES READ AS WHEN THE CALL BEGINS. Each datum BY PROGRAM (the guide's laid-datum.mjs) off the statement by which the dump's own 'gosem.cut.vars' lays the variable. In a bare row this is a premise. The card (YtienmmfjjffjaaaDoorCards.lean) ties it to the program's text. -/
def laid_pagoda_node_reserved {H : Type} : DataW H := .map [(.string [99, 97, 108, 108], .lit (.bool true)), (.string [102, 110], .lit (.bool true)), (.string [105, 102], .lit (.bool true)), (.string [108, 101, 116], .lit (.bool true)), (.string [113, 117, 111, 116, 101], .lit (.bool true)), (.string [114, 101, 99], .lit (.bool true)), (.string [115, 101, 113], .lit (.bool true)), (.string [117, 112], .lit (.bool true))]
def laid_pagoda_prim_names {H : Type} : DataW H := .slice [.agg [.lit (.string [43]), .lit (.int .i64 2)], .agg [.lit (.string [45]), .lit (.int .i64 2)], .agg [.lit (.string [42]), .lit (.int .i64 2)], .agg [.lit (.string [113, 117, 111, 116]), .lit (.int .i64 2)], .agg [.lit (.string [114, 101, 109]), .lit (.int .i64 2)], .agg [.lit (.string [60]), .lit (.int .i64 2)], .agg [.lit (.string [61]), .lit (.int .i64 2)], .agg [.lit (.string [99, 111, 110, 115]), .lit (.int .i64 2)], .agg [.lit (.string [102, 105, 114, 115, 116]), .lit (.int .i64 1)], .agg [.lit (.string [114, 101, 115, 116]), .lit (.int .i64 1)], .agg [.lit (.string [99, 111, 117, 110, 116]), .lit (.int .i64 1)], .agg [.lit (.string [108, 105, 115, 116, 63]), .lit (.int .i64 1)], .agg [.lit (.string [110, 117, 109, 63]), .lit (.int .i64 1)], .agg [.lit (.string [115, 121, 109, 63]), .lit (.int .i64 1)], .agg [.lit (.string [109, 97, 114, 107]), .lit (.int .i64 2)], .agg [.lit (.string [115, 116, 111, 112]), .lit (.int .i64 1)]] []

/-- 'pagodalaw17.FlatJoin': WHATEVER THE INPUT: true; the input reads as it did. -/
def flatJoinSpec : ChangeSpec := { name := "flatJoin", fn := fun _ => fun
  | [d1, d2] => { results := [.lit (.bool true)], args := [d1, d2] }
  | _ => none }
def flatJoinRow : OpenClaim := { program := "ytienmmfjjffjaaadoor", sum := "395c2475b26bc7ce58a51218a391fad72db8a548b50c0a244c2325b734de77ee", func := "pagoda/pagodalaw17.FlatJoin", spec := "flatJoin", inPlace := ["internal/bytealg.IndexByteString"], unfollowed := true, recurses := true, named := ["pagoda/node.reserved", "pagoda/prim.names"], loops := true, plainKeys := false, apart := false, laid := [("pagoda/node.reserved", laid_pagoda_node_reserved), ("pagoda/prim.names", laid_pagoda_prim_names)] }
def FlatJoinSaid : Prop := flatJoinRow.holds Tryd.pinned (OpenSpec.ofChange flatJoinSpec)

/-- ITS FALSE NEIGHBOUR: 'it returns false'. Refute it at one input. -/
def flatJoinWrong : ChangeSpec := { name := "flatJoin", fn := fun _ => fun
  | [d1, d2] => { results := [.lit (.bool false)], args := [d1, d2] }
  | _ => none }
def FlatJoinWrongFalsely : Prop := flatJoinRow.holds Tryd.pinned (OpenSpec.ofChange flatJoinWrong)

/- THE SECOND FORM. 'bulk': how many values and letters a reading holds, each counted each time it is reached (what is shared counts as often as it is met; a slice's spare places count too). A statement '..UptoSaid' is the law's where the arguments, and the package variables that the reading takes, are together of bulk at most 1048576: NARROWER than '..Said'. Prove '..Said' where nothing that the law and all that it calls make is longer than what came in: it says more and counts as full. Else prove '..UptoSaid'. A law counts once. -/
mutual
def uptoBulk {H : Type} : DataW H → Nat
  | .lit (.string bytes) => bytes.length + 1
  | .lit _ => 1
  | .nil => 1
  | .ptr d => uptoBulk d + 1
  | .slice elems spare => uptoBulkAll elems + uptoBulkAll spare + 1
  | .agg parts => uptoBulkAll parts + 1
  | .iface _ d => uptoBulk d + 1
  | .map entries => uptoBulkEntries entries + 1
  | .held _ => 1
def uptoBulkAll {H : Type} : List (DataW H) → Nat
  | [] => 0
  | d :: r => uptoBulk d + uptoBulkAll r
def uptoBulkEntries {H : Type} : List (Lit × DataW H) → Nat
  | [] => 0
  | x :: r => uptoBulkEntry x + uptoBulkEntries r
def uptoBulkEntry {H : Type} : Lit × DataW H → Nat
  | (.string bytes, d) => bytes.length + uptoBulk d + 1
  | (_, d) => uptoBulk d + 1
 end
def uptoSmall : (H : Type) → List (DataW H) → Bool := fun _ ds => decide (uptoBulkAll ds ≤ 1048576)
def OpenSpec.upto (s : _root_.Go.ChangeSpec) : _root_.Go.OpenSpec := { _root_.Go.OpenSpec.ofChange s with cond := some uptoSmall }

/-- 'pagodalaw17.FlatJoin', WHERE WHAT IT READS IS OF BULK AT MOST 1048576: true; the input reads as it did. -/
def flatJoinUptoRow : OpenClaim := { program := "ytienmmfjjffjaaadoor", sum := "395c2475b26bc7ce58a51218a391fad72db8a548b50c0a244c2325b734de77ee", func := "pagoda/pagodalaw17.FlatJoin", spec := "flatJoin", inPlace := ["internal/bytealg.IndexByteString"], unfollowed := true, recurses := true, named := ["pagoda/node.reserved", "pagoda/prim.names"], loops := true, plainKeys := false, apart := false, laid := [("pagoda/node.reserved", laid_pagoda_node_reserved), ("pagoda/prim.names", laid_pagoda_prim_names)], narrowed := true }
def FlatJoinUptoSaid : Prop := flatJoinUptoRow.holds Tryd.pinned (OpenSpec.upto flatJoinSpec)

end Rows
end Go.Proofs.YtienmmfjjffjaaaDoor
