/-
  NARROWER THAN 'FOR EVERY INPUT', by the rows' own cells (each row's printed sentence says how): SafeLifted: loops, laid · MultiChecks: loops, laid · SafeFinds: loops, laid · MultiLevels: loops, laid · MultiPlains: loops, laid · MultiPlain: loops, laid · MultiMakes: loops, laid.
  DERIVED. THE GIVEN ROWS OF THIS SEAT. 7 by the template 'for every input the law returns true; each argument reads behind the call as it read before'; 0 by the template 'total and deterministic' (their statements: YtmpofjiokpeegaaGreatDoorTotals.lean).
  GIVEN WITH THE SEED: the statements are not yours to turn. If you find one false, say at which input.
  Laid BY PROGRAM, IN A SANDBOX (cutbox-rows.mjs): the forced cells as the released guide's own fill.sh prints them over the translation 1028ed1259a8f245… (all of the seat's roots in one cut). By AI agents, Wed Nov 11 2026. No macro, syntax, notation, axiom, sorry.
-/
import Derived.Test.YtmpofjiokpeegaaGreatDoorChecked
import GoSem.Claim
import GoSem.ClaimJoined
import GoSem.ClaimMapViews
import Derived.JoinedTies
import Derived.KernelRfl
namespace Go.Proofs.YtmpofjiokpeegaaGreatDoor
/- THE CELL 'sum', in the pinned program and in every row, IS THE sha256 OF THE DUMP (.gsa) THAT YtmpofjiokpeegaaGreatDoorProg.lean LOADS. Nothing in Lean hashes anything: it is a label: what it is worth is what the hold of that sum in a sandbox is worth. -/
noncomputable def Tryz.pinned : Pinned := { name := "ytmpofjiokpeegaagreatdoor", sum := "1028ed1259a8f245e3aa65b243762c600616c881b7ff8f0304fa0342dbb8852c", checked := Tryz.checked }
namespace Rows
def none {H : Type} : Left H := { results := [], args := [] }

/- WHAT THE LISTED PACKAGE-LEVEL VARIABLES READ AS WHEN THE CALL BEGINS. Each datum BY PROGRAM (the guide's laid-datum.mjs) off the statement by which the dump's own 'gosem.cut.vars' lays the variable. In a bare row this is a premise. The card (YtmpofjiokpeegaaGreatDoorCards.lean) ties it to the program's text. -/
def laid_pagoda_prim_names {H : Type} : DataW H := .slice [.agg [.lit (.string [43]), .lit (.int .i64 2)], .agg [.lit (.string [45]), .lit (.int .i64 2)], .agg [.lit (.string [42]), .lit (.int .i64 2)], .agg [.lit (.string [113, 117, 111, 116]), .lit (.int .i64 2)], .agg [.lit (.string [114, 101, 109]), .lit (.int .i64 2)], .agg [.lit (.string [60]), .lit (.int .i64 2)], .agg [.lit (.string [61]), .lit (.int .i64 2)], .agg [.lit (.string [99, 111, 110, 115]), .lit (.int .i64 2)], .agg [.lit (.string [102, 105, 114, 115, 116]), .lit (.int .i64 1)], .agg [.lit (.string [114, 101, 115, 116]), .lit (.int .i64 1)], .agg [.lit (.string [99, 111, 117, 110, 116]), .lit (.int .i64 1)], .agg [.lit (.string [108, 105, 115, 116, 63]), .lit (.int .i64 1)], .agg [.lit (.string [110, 117, 109, 63]), .lit (.int .i64 1)], .agg [.lit (.string [115, 121, 109, 63]), .lit (.int .i64 1)], .agg [.lit (.string [109, 97, 114, 107]), .lit (.int .i64 2)], .agg [.lit (.string [115, 116, 111, 112]), .lit (.int .i64 1)]] []
def laid_pagoda_multi_shapes {H : Type} : DataW H := .map [(.string [97, 112, 112], .agg [.lit (.int .i64 0), .lit (.int .i64 3)]), (.string [102, 110], .agg [.lit (.int .i64 2), .lit (.int .i64 4)]), (.string [105, 102], .agg [.lit (.int .i64 0), .lit (.int .i64 4)]), (.string [108, 101, 116], .agg [.lit (.int .i64 1), .lit (.int .i64 4)]), (.string [108, 105, 102, 116], .agg [.lit (.int .i64 0), .lit (.int .i64 2)]), (.string [113, 117, 111, 116, 101], .agg [.lit (.int .i64 0), .lit (.int .i64 2)]), (.string [114, 117, 110], .agg [.lit (.int .i64 0), .lit (.int .i64 3)]), (.string [115, 97, 121], .agg [.lit (.int .i64 0), .lit (.int .i64 2)])]
def laid_math_bits_deBruijn32tab {H : Type} : DataW H := .agg [.lit (.int .u8 0), .lit (.int .u8 1), .lit (.int .u8 28), .lit (.int .u8 2), .lit (.int .u8 29), .lit (.int .u8 14), .lit (.int .u8 24), .lit (.int .u8 3), .lit (.int .u8 30), .lit (.int .u8 22), .lit (.int .u8 20), .lit (.int .u8 15), .lit (.int .u8 25), .lit (.int .u8 17), .lit (.int .u8 4), .lit (.int .u8 8), .lit (.int .u8 31), .lit (.int .u8 27), .lit (.int .u8 13), .lit (.int .u8 23), .lit (.int .u8 21), .lit (.int .u8 19), .lit (.int .u8 16), .lit (.int .u8 7), .lit (.int .u8 26), .lit (.int .u8 12), .lit (.int .u8 18), .lit (.int .u8 6), .lit (.int .u8 11), .lit (.int .u8 5), .lit (.int .u8 10), .lit (.int .u8 9)]
def laid_math_bits_deBruijn64tab {H : Type} : DataW H := .agg [.lit (.int .u8 0), .lit (.int .u8 1), .lit (.int .u8 56), .lit (.int .u8 2), .lit (.int .u8 57), .lit (.int .u8 49), .lit (.int .u8 28), .lit (.int .u8 3), .lit (.int .u8 61), .lit (.int .u8 58), .lit (.int .u8 42), .lit (.int .u8 50), .lit (.int .u8 38), .lit (.int .u8 29), .lit (.int .u8 17), .lit (.int .u8 4), .lit (.int .u8 62), .lit (.int .u8 47), .lit (.int .u8 59), .lit (.int .u8 36), .lit (.int .u8 45), .lit (.int .u8 43), .lit (.int .u8 51), .lit (.int .u8 22), .lit (.int .u8 53), .lit (.int .u8 39), .lit (.int .u8 33), .lit (.int .u8 30), .lit (.int .u8 24), .lit (.int .u8 18), .lit (.int .u8 12), .lit (.int .u8 5), .lit (.int .u8 63), .lit (.int .u8 55), .lit (.int .u8 48), .lit (.int .u8 27), .lit (.int .u8 60), .lit (.int .u8 41), .lit (.int .u8 37), .lit (.int .u8 16), .lit (.int .u8 46), .lit (.int .u8 35), .lit (.int .u8 44), .lit (.int .u8 21), .lit (.int .u8 52), .lit (.int .u8 32), .lit (.int .u8 23), .lit (.int .u8 11), .lit (.int .u8 54), .lit (.int .u8 26), .lit (.int .u8 40), .lit (.int .u8 15), .lit (.int .u8 34), .lit (.int .u8 20), .lit (.int .u8 31), .lit (.int .u8 10), .lit (.int .u8 25), .lit (.int .u8 14), .lit (.int .u8 19), .lit (.int .u8 9), .lit (.int .u8 13), .lit (.int .u8 8), .lit (.int .u8 7), .lit (.int .u8 6)]
def laid_internal_strconv_uint64pow10 {H : Type} : DataW H := .agg [.lit (.int .u64 1), .lit (.int .u64 10), .lit (.int .u64 100), .lit (.int .u64 1000), .lit (.int .u64 10000), .lit (.int .u64 100000), .lit (.int .u64 1000000), .lit (.int .u64 10000000), .lit (.int .u64 100000000), .lit (.int .u64 1000000000), .lit (.int .u64 10000000000), .lit (.int .u64 100000000000), .lit (.int .u64 1000000000000), .lit (.int .u64 10000000000000), .lit (.int .u64 100000000000000), .lit (.int .u64 1000000000000000), .lit (.int .u64 10000000000000000), .lit (.int .u64 100000000000000000), .lit (.int .u64 1000000000000000000), .lit (.int .u64 10000000000000000000)]
def laid_strconv_ErrRange {H : Type} : DataW H := .iface "*errors.errorString" (.ptr (.agg [.lit (.string [118, 97, 108, 117, 101, 32, 111, 117, 116, 32, 111, 102, 32, 114, 97, 110, 103, 101])]))
def laid_strconv_ErrSyntax {H : Type} : DataW H := .iface "*errors.errorString" (.ptr (.agg [.lit (.string [105, 110, 118, 97, 108, 105, 100, 32, 115, 121, 110, 116, 97, 120])]))

/-- 'pagodalaw27.SafeLifted': WHATEVER THE INPUT: true; the input reads as it did. -/
def safeLiftedSpec : ChangeSpec := { name := "safeLifted", fn := fun _ => fun
  | [d] => { results := [.lit (.bool true)], args := [d] }
  | _ => none }
def safeLiftedRow : OpenClaim := { program := "ytmpofjiokpeegaagreatdoor", sum := "1028ed1259a8f245e3aa65b243762c600616c881b7ff8f0304fa0342dbb8852c", func := "pagoda/pagodalaw27.SafeLifted", spec := "safeLifted", inPlace := ["internal/bytealg.IndexByteString"], unfollowed := true, recurses := true, named := ["pagoda/multi.shapes", "pagoda/prim.names"], loops := true, apart := false, laid := [("pagoda/prim.names", laid_pagoda_prim_names), ("pagoda/multi.shapes", laid_pagoda_multi_shapes)] }
def SafeLiftedSaid : Prop := safeLiftedRow.holds Tryz.pinned (OpenSpec.ofChange safeLiftedSpec)

/-- ITS FALSE NEIGHBOUR: 'it returns false'. Refute it at one input. -/
def safeLiftedWrong : ChangeSpec := { name := "safeLifted", fn := fun _ => fun
  | [d] => { results := [.lit (.bool false)], args := [d] }
  | _ => none }
def SafeLiftedWrongFalsely : Prop := safeLiftedRow.holds Tryz.pinned (OpenSpec.ofChange safeLiftedWrong)

/-- 'pagodalaw25.MultiChecks': WHATEVER THE INPUT: true; the input reads as it did. -/
def multiChecksSpec : ChangeSpec := { name := "multiChecks", fn := fun _ => fun
  | [d] => { results := [.lit (.bool true)], args := [d] }
  | _ => none }
def multiChecksRow : OpenClaim := { program := "ytmpofjiokpeegaagreatdoor", sum := "1028ed1259a8f245e3aa65b243762c600616c881b7ff8f0304fa0342dbb8852c", func := "pagoda/pagodalaw25.MultiChecks", spec := "multiChecks", inPlace := ["internal/bytealg.IndexByteString"], unfollowed := true, recurses := true, named := ["pagoda/multi.shapes", "pagoda/prim.names", "internal/strconv.uint64pow10", "math/bits.deBruijn32tab", "math/bits.deBruijn64tab", "strconv.ErrSyntax", "strconv.ErrRange"], loops := true, apart := false, laid := [("math/bits.deBruijn32tab", laid_math_bits_deBruijn32tab), ("math/bits.deBruijn64tab", laid_math_bits_deBruijn64tab), ("internal/strconv.uint64pow10", laid_internal_strconv_uint64pow10), ("strconv.ErrRange", laid_strconv_ErrRange), ("strconv.ErrSyntax", laid_strconv_ErrSyntax), ("pagoda/prim.names", laid_pagoda_prim_names), ("pagoda/multi.shapes", laid_pagoda_multi_shapes)] }
def MultiChecksSaid : Prop := multiChecksRow.holds Tryz.pinned (OpenSpec.ofChange multiChecksSpec)

/-- ITS FALSE NEIGHBOUR: 'it returns false'. Refute it at one input. -/
def multiChecksWrong : ChangeSpec := { name := "multiChecks", fn := fun _ => fun
  | [d] => { results := [.lit (.bool false)], args := [d] }
  | _ => none }
def MultiChecksWrongFalsely : Prop := multiChecksRow.holds Tryz.pinned (OpenSpec.ofChange multiChecksWrong)

/-- 'pagodalaw27.SafeFinds': WHATEVER THE INPUT: true; the input reads as it did. -/
def safeFindsSpec : ChangeSpec := { name := "safeFinds", fn := fun _ => fun
  | [d] => { results := [.lit (.bool true)], args := [d] }
  | _ => none }
def safeFindsRow : OpenClaim := { program := "ytmpofjiokpeegaagreatdoor", sum := "1028ed1259a8f245e3aa65b243762c600616c881b7ff8f0304fa0342dbb8852c", func := "pagoda/pagodalaw27.SafeFinds", spec := "safeFinds", inPlace := ["internal/bytealg.IndexByteString"], unfollowed := true, recurses := true, named := ["pagoda/multi.shapes", "pagoda/prim.names"], loops := true, apart := false, laid := [("pagoda/prim.names", laid_pagoda_prim_names), ("pagoda/multi.shapes", laid_pagoda_multi_shapes)] }
def SafeFindsSaid : Prop := safeFindsRow.holds Tryz.pinned (OpenSpec.ofChange safeFindsSpec)

/-- ITS FALSE NEIGHBOUR: 'it returns false'. Refute it at one input. -/
def safeFindsWrong : ChangeSpec := { name := "safeFinds", fn := fun _ => fun
  | [d] => { results := [.lit (.bool false)], args := [d] }
  | _ => none }
def SafeFindsWrongFalsely : Prop := safeFindsRow.holds Tryz.pinned (OpenSpec.ofChange safeFindsWrong)

/-- 'pagodalaw25.MultiLevels': WHATEVER THE INPUT: true; the input reads as it did. -/
def multiLevelsSpec : ChangeSpec := { name := "multiLevels", fn := fun _ => fun
  | [d] => { results := [.lit (.bool true)], args := [d] }
  | _ => none }
def multiLevelsRow : OpenClaim := { program := "ytmpofjiokpeegaagreatdoor", sum := "1028ed1259a8f245e3aa65b243762c600616c881b7ff8f0304fa0342dbb8852c", func := "pagoda/pagodalaw25.MultiLevels", spec := "multiLevels", inPlace := ["internal/bytealg.IndexByteString"], unfollowed := true, recurses := true, named := ["pagoda/multi.shapes", "pagoda/prim.names", "internal/strconv.uint64pow10", "math/bits.deBruijn32tab", "math/bits.deBruijn64tab", "strconv.ErrSyntax", "strconv.ErrRange"], loops := true, apart := false, laid := [("math/bits.deBruijn32tab", laid_math_bits_deBruijn32tab), ("math/bits.deBruijn64tab", laid_math_bits_deBruijn64tab), ("internal/strconv.uint64pow10", laid_internal_strconv_uint64pow10), ("strconv.ErrRange", laid_strconv_ErrRange), ("strconv.ErrSyntax", laid_strconv_ErrSyntax), ("pagoda/prim.names", laid_pagoda_prim_names), ("pagoda/multi.shapes", laid_pagoda_multi_shapes)] }
def MultiLevelsSaid : Prop := multiLevelsRow.holds Tryz.pinned (OpenSpec.ofChange multiLevelsSpec)

/-- ITS FALSE NEIGHBOUR: 'it returns false'. Refute it at one input. -/
def multiLevelsWrong : ChangeSpec := { name := "multiLevels", fn := fun _ => fun
  | [d] => { results := [.lit (.bool false)], args := [d] }
  | _ => none }
def MultiLevelsWrongFalsely : Prop := multiLevelsRow.holds Tryz.pinned (OpenSpec.ofChange multiLevelsWrong)

/-- 'pagodalaw25.MultiPlains': WHATEVER THE INPUT: true; the input reads as it did. -/
def multiPlainsSpec : ChangeSpec := { name := "multiPlains", fn := fun _ => fun
  | [d1, d2] => { results := [.lit (.bool true)], args := [d1, d2] }
  | _ => none }
def multiPlainsRow : OpenClaim := { program := "ytmpofjiokpeegaagreatdoor", sum := "1028ed1259a8f245e3aa65b243762c600616c881b7ff8f0304fa0342dbb8852c", func := "pagoda/pagodalaw25.MultiPlains", spec := "multiPlains", inPlace := ["internal/bytealg.IndexByteString"], unfollowed := true, recurses := true, named := ["pagoda/multi.shapes", "pagoda/prim.names", "internal/strconv.uint64pow10", "math/bits.deBruijn32tab", "math/bits.deBruijn64tab", "strconv.ErrSyntax", "strconv.ErrRange"], loops := true, apart := false, laid := [("math/bits.deBruijn32tab", laid_math_bits_deBruijn32tab), ("math/bits.deBruijn64tab", laid_math_bits_deBruijn64tab), ("internal/strconv.uint64pow10", laid_internal_strconv_uint64pow10), ("strconv.ErrRange", laid_strconv_ErrRange), ("strconv.ErrSyntax", laid_strconv_ErrSyntax), ("pagoda/prim.names", laid_pagoda_prim_names), ("pagoda/multi.shapes", laid_pagoda_multi_shapes)] }
def MultiPlainsSaid : Prop := multiPlainsRow.holds Tryz.pinned (OpenSpec.ofChange multiPlainsSpec)

/-- ITS FALSE NEIGHBOUR: 'it returns false'. Refute it at one input. -/
def multiPlainsWrong : ChangeSpec := { name := "multiPlains", fn := fun _ => fun
  | [d1, d2] => { results := [.lit (.bool false)], args := [d1, d2] }
  | _ => none }
def MultiPlainsWrongFalsely : Prop := multiPlainsRow.holds Tryz.pinned (OpenSpec.ofChange multiPlainsWrong)

/-- 'pagodalaw25.MultiPlain': WHATEVER THE INPUT: true; the input reads as it did. -/
def multiPlainSpec : ChangeSpec := { name := "multiPlain", fn := fun _ => fun
  | [d1, d2, d3] => { results := [.lit (.bool true)], args := [d1, d2, d3] }
  | _ => none }
def multiPlainRow : OpenClaim := { program := "ytmpofjiokpeegaagreatdoor", sum := "1028ed1259a8f245e3aa65b243762c600616c881b7ff8f0304fa0342dbb8852c", func := "pagoda/pagodalaw25.MultiPlain", spec := "multiPlain", inPlace := ["internal/bytealg.IndexByteString"], unfollowed := true, recurses := true, named := ["pagoda/multi.shapes", "pagoda/prim.names", "internal/strconv.uint64pow10", "math/bits.deBruijn32tab", "math/bits.deBruijn64tab", "strconv.ErrSyntax", "strconv.ErrRange"], loops := true, apart := false, laid := [("math/bits.deBruijn32tab", laid_math_bits_deBruijn32tab), ("math/bits.deBruijn64tab", laid_math_bits_deBruijn64tab), ("internal/strconv.uint64pow10", laid_internal_strconv_uint64pow10), ("strconv.ErrRange", laid_strconv_ErrRange), ("strconv.ErrSyntax", laid_strconv_ErrSyntax), ("pagoda/prim.names", laid_pagoda_prim_names), ("pagoda/multi.shapes", laid_pagoda_multi_shapes)] }
def MultiPlainSaid : Prop := multiPlainRow.holds Tryz.pinned (OpenSpec.ofChange multiPlainSpec)

/-- ITS FALSE NEIGHBOUR: 'it returns false'. Refute it at one input. -/
def multiPlainWrong : ChangeSpec := { name := "multiPlain", fn := fun _ => fun
  | [d1, d2, d3] => { results := [.lit (.bool false)], args := [d1, d2, d3] }
  | _ => none }
def MultiPlainWrongFalsely : Prop := multiPlainRow.holds Tryz.pinned (OpenSpec.ofChange multiPlainWrong)

/-- 'pagodalaw25.MultiMakes': WHATEVER THE INPUT: true; the input reads as it did. -/
def multiMakesSpec : ChangeSpec := { name := "multiMakes", fn := fun _ => fun
  | [d] => { results := [.lit (.bool true)], args := [d] }
  | _ => none }
def multiMakesRow : OpenClaim := { program := "ytmpofjiokpeegaagreatdoor", sum := "1028ed1259a8f245e3aa65b243762c600616c881b7ff8f0304fa0342dbb8852c", func := "pagoda/pagodalaw25.MultiMakes", spec := "multiMakes", inPlace := ["internal/bytealg.IndexByteString"], unfollowed := true, recurses := true, named := ["pagoda/multi.shapes", "pagoda/prim.names", "internal/strconv.uint64pow10", "math/bits.deBruijn32tab", "math/bits.deBruijn64tab", "strconv.ErrSyntax", "strconv.ErrRange"], loops := true, apart := false, laid := [("math/bits.deBruijn32tab", laid_math_bits_deBruijn32tab), ("math/bits.deBruijn64tab", laid_math_bits_deBruijn64tab), ("internal/strconv.uint64pow10", laid_internal_strconv_uint64pow10), ("strconv.ErrRange", laid_strconv_ErrRange), ("strconv.ErrSyntax", laid_strconv_ErrSyntax), ("pagoda/prim.names", laid_pagoda_prim_names), ("pagoda/multi.shapes", laid_pagoda_multi_shapes)] }
def MultiMakesSaid : Prop := multiMakesRow.holds Tryz.pinned (OpenSpec.ofChange multiMakesSpec)

/-- ITS FALSE NEIGHBOUR: 'it returns false'. Refute it at one input. -/
def multiMakesWrong : ChangeSpec := { name := "multiMakes", fn := fun _ => fun
  | [d] => { results := [.lit (.bool false)], args := [d] }
  | _ => none }
def MultiMakesWrongFalsely : Prop := multiMakesRow.holds Tryz.pinned (OpenSpec.ofChange multiMakesWrong)

/- THE SECOND FORM. 'bulk': how many values and letters a reading holds, each counted each time it is reached (what is shared counts as often as it is met; a slice's spare places count too). A statement '..UptoSaid' is the law's where the arguments, and the package variables that the reading takes, are together of bulk at most 1048576: NARROWER than '..Said'. Prove '..Said' where nothing that the law and all that it calls make is longer than what came in: it says more and counts as full. Else prove '..UptoSaid'. A law counts once. -/
mutual
def uptoBulk {H : Type} : DataW H → Nat
  | .lit (.string bytes) => bytes.length + 1
  | .lit _ => 1
  | .nil => 1
  | .ptr d => uptoBulk d + 1
  | .slice elems spare => uptoBulkAll elems + uptoBulkAll spare + 1
  | .agg parts => uptoBulkAll parts + 1
  | .iface _ d => uptoBulk d + 1
  | .map entries => uptoBulkEntries entries + 1
  | .held _ => 1
def uptoBulkAll {H : Type} : List (DataW H) → Nat
  | [] => 0
  | d :: r => uptoBulk d + uptoBulkAll r
def uptoBulkEntries {H : Type} : List (Lit × DataW H) → Nat
  | [] => 0
  | x :: r => uptoBulkEntry x + uptoBulkEntries r
def uptoBulkEntry {H : Type} : Lit × DataW H → Nat
  | (.string bytes, d) => bytes.length + uptoBulk d + 1
  | (_, d) => uptoBulk d + 1
 end
def uptoSmall : (H : Type) → List (DataW H) → Bool := fun _ ds => decide (uptoBulkAll ds ≤ 1048576)
def OpenSpec.upto (s : _root_.Go.ChangeSpec) : _root_.Go.OpenSpec := { _root_.Go.OpenSpec.ofChange s with cond := some uptoSmall }

/-- 'pagodalaw27.SafeLifted', WHERE WHAT IT READS IS OF BULK AT MOST 1048576: true; the input reads as it did. -/
def safeLiftedUptoRow : OpenClaim := { program := "ytmpofjiokpeegaagreatdoor", sum := "1028ed1259a8f245e3aa65b243762c600616c881b7ff8f0304fa0342dbb8852c", func := "pagoda/pagodalaw27.SafeLifted", spec := "safeLifted", inPlace := ["internal/bytealg.IndexByteString"], unfollowed := true, recurses := true, named := ["pagoda/multi.shapes", "pagoda/prim.names"], loops := true, apart := false, laid := [("pagoda/prim.names", laid_pagoda_prim_names), ("pagoda/multi.shapes", laid_pagoda_multi_shapes)], narrowed := true }
def SafeLiftedUptoSaid : Prop := safeLiftedUptoRow.holds Tryz.pinned (OpenSpec.upto safeLiftedSpec)

/-- 'pagodalaw25.MultiChecks', WHERE WHAT IT READS IS OF BULK AT MOST 1048576: true; the input reads as it did. -/
def multiChecksUptoRow : OpenClaim := { program := "ytmpofjiokpeegaagreatdoor", sum := "1028ed1259a8f245e3aa65b243762c600616c881b7ff8f0304fa0342dbb8852c", func := "pagoda/pagodalaw25.MultiChecks", spec := "multiChecks", inPlace := ["internal/bytealg.IndexByteString"], unfollowed := true, recurses := true, named := ["pagoda/multi.shapes", "pagoda/prim.names", "internal/strconv.uint64pow10", "math/bits.deBruijn32tab", "math/bits.deBruijn64tab", "strconv.ErrSyntax", "strconv.ErrRange"], loops := true, apart := false, laid := [("math/bits.deBruijn32tab", laid_math_bits_deBruijn32tab), ("math/bits.deBruijn64tab", laid_math_bits_deBruijn64tab), ("internal/strconv.uint64pow10", laid_internal_strconv_uint64pow10), ("strconv.ErrRange", laid_strconv_ErrRange), ("strconv.ErrSyntax", laid_strconv_ErrSyntax), ("pagoda/prim.names", laid_pagoda_prim_names), ("pagoda/multi.shapes", laid_pagoda_multi_shapes)], narrowed := true }
def MultiChecksUptoSaid : Prop := multiChecksUptoRow.holds Tryz.pinned (OpenSpec.upto multiChecksSpec)

/-- 'pagodalaw27.SafeFinds', WHERE WHAT IT READS IS OF BULK AT MOST 1048576: true; the input reads as it did. -/
def safeFindsUptoRow : OpenClaim := { program := "ytmpofjiokpeegaagreatdoor", sum := "1028ed1259a8f245e3aa65b243762c600616c881b7ff8f0304fa0342dbb8852c", func := "pagoda/pagodalaw27.SafeFinds", spec := "safeFinds", inPlace := ["internal/bytealg.IndexByteString"], unfollowed := true, recurses := true, named := ["pagoda/multi.shapes", "pagoda/prim.names"], loops := true, apart := false, laid := [("pagoda/prim.names", laid_pagoda_prim_names), ("pagoda/multi.shapes", laid_pagoda_multi_shapes)], narrowed := true }
def SafeFindsUptoSaid : Prop := safeFindsUptoRow.holds Tryz.pinned (OpenSpec.upto safeFindsSpec)

/-- 'pagodalaw25.MultiLevels', WHERE WHAT IT READS IS OF BULK AT MOST 1048576: true; the input reads as it did. -/
def multiLevelsUptoRow : OpenClaim := { program := "ytmpofjiokpeegaagreatdoor", sum := "1028ed1259a8f245e3aa65b243762c600616c881b7ff8f0304fa0342dbb8852c", func := "pagoda/pagodalaw25.MultiLevels", spec := "multiLevels", inPlace := ["internal/bytealg.IndexByteString"], unfollowed := true, recurses := true, named := ["pagoda/multi.shapes", "pagoda/prim.names", "internal/strconv.uint64pow10", "math/bits.deBruijn32tab", "math/bits.deBruijn64tab", "strconv.ErrSyntax", "strconv.ErrRange"], loops := true, apart := false, laid := [("math/bits.deBruijn32tab", laid_math_bits_deBruijn32tab), ("math/bits.deBruijn64tab", laid_math_bits_deBruijn64tab), ("internal/strconv.uint64pow10", laid_internal_strconv_uint64pow10), ("strconv.ErrRange", laid_strconv_ErrRange), ("strconv.ErrSyntax", laid_strconv_ErrSyntax), ("pagoda/prim.names", laid_pagoda_prim_names), ("pagoda/multi.shapes", laid_pagoda_multi_shapes)], narrowed := true }
def MultiLevelsUptoSaid : Prop := multiLevelsUptoRow.holds Tryz.pinned (OpenSpec.upto multiLevelsSpec)

/-- 'pagodalaw25.MultiPlains', WHERE WHAT IT READS IS OF BULK AT MOST 1048576: true; the input reads as it did. -/
def multiPlainsUptoRow : OpenClaim := { program := "ytmpofjiokpeegaagreatdoor", sum := "1028ed1259a8f245e3aa65b243762c600616c881b7ff8f0304fa0342dbb8852c", func := "pagoda/pagodalaw25.MultiPlains", spec := "multiPlains", inPlace := ["internal/bytealg.IndexByteString"], unfollowed := true, recurses := true, named := ["pagoda/multi.shapes", "pagoda/prim.names", "internal/strconv.uint64pow10", "math/bits.deBruijn32tab", "math/bits.deBruijn64tab", "strconv.ErrSyntax", "strconv.ErrRange"], loops := true, apart := false, laid := [("math/bits.deBruijn32tab", laid_math_bits_deBruijn32tab), ("math/bits.deBruijn64tab", laid_math_bits_deBruijn64tab), ("internal/strconv.uint64pow10", laid_internal_strconv_uint64pow10), ("strconv.ErrRange", laid_strconv_ErrRange), ("strconv.ErrSyntax", laid_strconv_ErrSyntax), ("pagoda/prim.names", laid_pagoda_prim_names), ("pagoda/multi.shapes", laid_pagoda_multi_shapes)], narrowed := true }
def MultiPlainsUptoSaid : Prop := multiPlainsUptoRow.holds Tryz.pinned (OpenSpec.upto multiPlainsSpec)

/-- 'pagodalaw25.MultiPlain', WHERE WHAT IT READS IS OF BULK AT MOST 1048576: true; the input reads as it did. -/
def multiPlainUptoRow : OpenClaim := { program := "ytmpofjiokpeegaagreatdoor", sum := "1028ed1259a8f245e3aa65b243762c600616c881b7ff8f0304fa0342dbb8852c", func := "pagoda/pagodalaw25.MultiPlain", spec := "multiPlain", inPlace := ["internal/bytealg.IndexByteString"], unfollowed := true, recurses := true, named := ["pagoda/multi.shapes", "pagoda/prim.names", "internal/strconv.uint64pow10", "math/bits.deBruijn32tab", "math/bits.deBruijn64tab", "strconv.ErrSyntax", "strconv.ErrRange"], loops := true, apart := false, laid := [("math/bits.deBruijn32tab", laid_math_bits_deBruijn32tab), ("math/bits.deBruijn64tab", laid_math_bits_deBruijn64tab), ("internal/strconv.uint64pow10", laid_internal_strconv_uint64pow10), ("strconv.ErrRange", laid_strconv_ErrRange), ("strconv.ErrSyntax", laid_strconv_ErrSyntax), ("pagoda/prim.names", laid_pagoda_prim_names), ("pagoda/multi.shapes", laid_pagoda_multi_shapes)], narrowed := true }
def MultiPlainUptoSaid : Prop := multiPlainUptoRow.holds Tryz.pinned (OpenSpec.upto multiPlainSpec)

/-- 'pagodalaw25.MultiMakes', WHERE WHAT IT READS IS OF BULK AT MOST 1048576: true; the input reads as it did. -/
def multiMakesUptoRow : OpenClaim := { program := "ytmpofjiokpeegaagreatdoor", sum := "1028ed1259a8f245e3aa65b243762c600616c881b7ff8f0304fa0342dbb8852c", func := "pagoda/pagodalaw25.MultiMakes", spec := "multiMakes", inPlace := ["internal/bytealg.IndexByteString"], unfollowed := true, recurses := true, named := ["pagoda/multi.shapes", "pagoda/prim.names", "internal/strconv.uint64pow10", "math/bits.deBruijn32tab", "math/bits.deBruijn64tab", "strconv.ErrSyntax", "strconv.ErrRange"], loops := true, apart := false, laid := [("math/bits.deBruijn32tab", laid_math_bits_deBruijn32tab), ("math/bits.deBruijn64tab", laid_math_bits_deBruijn64tab), ("internal/strconv.uint64pow10", laid_internal_strconv_uint64pow10), ("strconv.ErrRange", laid_strconv_ErrRange), ("strconv.ErrSyntax", laid_strconv_ErrSyntax), ("pagoda/prim.names", laid_pagoda_prim_names), ("pagoda/multi.shapes", laid_pagoda_multi_shapes)], narrowed := true }
def MultiMakesUptoSaid : Prop := multiMakesUptoRow.holds Tryz.pinned (OpenSpec.upto multiMakesSpec)

end Rows
end Go.Proofs.YtmpofjiokpeegaaGreatDoor
