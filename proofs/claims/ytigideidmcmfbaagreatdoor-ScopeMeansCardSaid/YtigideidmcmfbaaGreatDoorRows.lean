/-
  NARROWER THAN 'FOR EVERY INPUT', by the rows' own cells (each row's printed sentence says how): ScopeFree: loops, laid · ScopeFresh: loops, laid · ScopeMeans: loops, laid · ScopeBinds: loops, laid · ScopeCanons: loops, laid · ScopeSubsts: loops, laid · ScopeCanonical: loops, laid · ScopeFreeOf: loops, laid · ScopeSelf: loops, laid.
  DERIVED. THE GIVEN ROWS OF THIS SEAT. 9 by the template 'for every input the law returns true; each argument reads behind the call as it read before'; 0 by the template 'total and deterministic' (their statements: YtigideidmcmfbaaGreatDoorTotals.lean).
  GIVEN WITH THE SEED: the statements are not yours to turn. If you find one false, say at which input.
  Laid BY PROGRAM, IN A SANDBOX (cutbox-rows.mjs): the forced cells as the released guide's own fill.sh prints them over the translation c4f4afeac70bb091… (all of the seat's roots in one cut). By AI agents, Wed Nov 11 2026. No macro, syntax, notation, axiom, sorry.
-/
import Derived.Test.YtigideidmcmfbaaGreatDoorChecked
import GoSem.Claim
import GoSem.ClaimJoined
import GoSem.ClaimMapViews
import Derived.JoinedTies
import Derived.KernelRfl
namespace Go.Proofs.YtigideidmcmfbaaGreatDoor
/- THE CELL 'sum', in the pinned program and in every row, IS THE sha256 OF THE DUMP (.gsa) THAT YtigideidmcmfbaaGreatDoorProg.lean LOADS. Nothing in Lean hashes anything: it is a label: what it is worth is what the hold of that sum in a sandbox is worth. -/
noncomputable def Tryz.pinned : Pinned := { name := "ytigideidmcmfbaagreatdoor", sum := "c4f4afeac70bb0919521c096b96200e44ce11071d3cdf137a5580012751ae5d1", checked := Tryz.checked }
namespace Rows
def none {H : Type} : Left H := { results := [], args := [] }

/- WHAT THE LISTED PACKAGE-LEVEL VARIABLES READ AS WHEN THE CALL BEGINS. Each datum BY PROGRAM (the guide's laid-datum.mjs) off the statement by which the dump's own 'gosem.cut.vars' lays the variable. In a bare row this is a premise. The card (YtigideidmcmfbaaGreatDoorCards.lean) ties it to the program's text. -/
def laid_math_bits_deBruijn32tab {H : Type} : DataW H := .agg [.lit (.int .u8 0), .lit (.int .u8 1), .lit (.int .u8 28), .lit (.int .u8 2), .lit (.int .u8 29), .lit (.int .u8 14), .lit (.int .u8 24), .lit (.int .u8 3), .lit (.int .u8 30), .lit (.int .u8 22), .lit (.int .u8 20), .lit (.int .u8 15), .lit (.int .u8 25), .lit (.int .u8 17), .lit (.int .u8 4), .lit (.int .u8 8), .lit (.int .u8 31), .lit (.int .u8 27), .lit (.int .u8 13), .lit (.int .u8 23), .lit (.int .u8 21), .lit (.int .u8 19), .lit (.int .u8 16), .lit (.int .u8 7), .lit (.int .u8 26), .lit (.int .u8 12), .lit (.int .u8 18), .lit (.int .u8 6), .lit (.int .u8 11), .lit (.int .u8 5), .lit (.int .u8 10), .lit (.int .u8 9)]
def laid_math_bits_deBruijn64tab {H : Type} : DataW H := .agg [.lit (.int .u8 0), .lit (.int .u8 1), .lit (.int .u8 56), .lit (.int .u8 2), .lit (.int .u8 57), .lit (.int .u8 49), .lit (.int .u8 28), .lit (.int .u8 3), .lit (.int .u8 61), .lit (.int .u8 58), .lit (.int .u8 42), .lit (.int .u8 50), .lit (.int .u8 38), .lit (.int .u8 29), .lit (.int .u8 17), .lit (.int .u8 4), .lit (.int .u8 62), .lit (.int .u8 47), .lit (.int .u8 59), .lit (.int .u8 36), .lit (.int .u8 45), .lit (.int .u8 43), .lit (.int .u8 51), .lit (.int .u8 22), .lit (.int .u8 53), .lit (.int .u8 39), .lit (.int .u8 33), .lit (.int .u8 30), .lit (.int .u8 24), .lit (.int .u8 18), .lit (.int .u8 12), .lit (.int .u8 5), .lit (.int .u8 63), .lit (.int .u8 55), .lit (.int .u8 48), .lit (.int .u8 27), .lit (.int .u8 60), .lit (.int .u8 41), .lit (.int .u8 37), .lit (.int .u8 16), .lit (.int .u8 46), .lit (.int .u8 35), .lit (.int .u8 44), .lit (.int .u8 21), .lit (.int .u8 52), .lit (.int .u8 32), .lit (.int .u8 23), .lit (.int .u8 11), .lit (.int .u8 54), .lit (.int .u8 26), .lit (.int .u8 40), .lit (.int .u8 15), .lit (.int .u8 34), .lit (.int .u8 20), .lit (.int .u8 31), .lit (.int .u8 10), .lit (.int .u8 25), .lit (.int .u8 14), .lit (.int .u8 19), .lit (.int .u8 9), .lit (.int .u8 13), .lit (.int .u8 8), .lit (.int .u8 7), .lit (.int .u8 6)]
def laid_internal_strconv_uint64pow10 {H : Type} : DataW H := .agg [.lit (.int .u64 1), .lit (.int .u64 10), .lit (.int .u64 100), .lit (.int .u64 1000), .lit (.int .u64 10000), .lit (.int .u64 100000), .lit (.int .u64 1000000), .lit (.int .u64 10000000), .lit (.int .u64 100000000), .lit (.int .u64 1000000000), .lit (.int .u64 10000000000), .lit (.int .u64 100000000000), .lit (.int .u64 1000000000000), .lit (.int .u64 10000000000000), .lit (.int .u64 100000000000000), .lit (.int .u64 1000000000000000), .lit (.int .u64 10000000000000000), .lit (.int .u64 100000000000000000), .lit (.int .u64 1000000000000000000), .lit (.int .u64 10000000000000000000)]
def laid_pagoda_syntax_words {H : Type} : DataW H := .map [(.string [102, 110], .lit (.int .i64 5)), (.string [105, 102], .lit (.int .i64 4)), (.string [108, 101, 116], .lit (.int .i64 6)), (.string [113, 117, 111, 116, 101], .lit (.int .i64 3)), (.string [114, 101, 99], .lit (.int .i64 7)), (.string [115, 101, 113], .lit (.int .i64 8)), (.string [117, 112], .lit (.int .i64 9))]

/-- 'pagodalaw06.ScopeFree': WHATEVER THE INPUT: true; the input reads as it did. -/
def scopeFreeSpec : ChangeSpec := { name := "scopeFree", fn := fun _ => fun
  | [d1, d2] => { results := [.lit (.bool true)], args := [d1, d2] }
  | _ => none }
def scopeFreeRow : OpenClaim := { program := "ytigideidmcmfbaagreatdoor", sum := "c4f4afeac70bb0919521c096b96200e44ce11071d3cdf137a5580012751ae5d1", func := "pagoda/pagodalaw06.ScopeFree", spec := "scopeFree", inPlace := ["internal/bytealg.IndexByteString"], unfollowed := true, recurses := true, named := ["pagoda/syntax.words", "internal/strconv.uint64pow10", "math/bits.deBruijn32tab", "math/bits.deBruijn64tab"], loops := true, apart := false, laid := [("math/bits.deBruijn32tab", laid_math_bits_deBruijn32tab), ("math/bits.deBruijn64tab", laid_math_bits_deBruijn64tab), ("internal/strconv.uint64pow10", laid_internal_strconv_uint64pow10), ("pagoda/syntax.words", laid_pagoda_syntax_words)] }
def ScopeFreeSaid : Prop := scopeFreeRow.holds Tryz.pinned (OpenSpec.ofChange scopeFreeSpec)

/-- ITS FALSE NEIGHBOUR: 'it returns false'. Refute it at one input. -/
def scopeFreeWrong : ChangeSpec := { name := "scopeFree", fn := fun _ => fun
  | [d1, d2] => { results := [.lit (.bool false)], args := [d1, d2] }
  | _ => none }
def ScopeFreeWrongFalsely : Prop := scopeFreeRow.holds Tryz.pinned (OpenSpec.ofChange scopeFreeWrong)

/-- 'pagodalaw06.ScopeFresh': WHATEVER THE INPUT: true; the input reads as it did. -/
def scopeFreshSpec : ChangeSpec := { name := "scopeFresh", fn := fun _ => fun
  | [d1, d2] => { results := [.lit (.bool true)], args := [d1, d2] }
  | _ => none }
def scopeFreshRow : OpenClaim := { program := "ytigideidmcmfbaagreatdoor", sum := "c4f4afeac70bb0919521c096b96200e44ce11071d3cdf137a5580012751ae5d1", func := "pagoda/pagodalaw06.ScopeFresh", spec := "scopeFresh", inPlace := ["internal/bytealg.IndexByteString"], unfollowed := true, recurses := true, named := ["internal/strconv.uint64pow10", "math/bits.deBruijn32tab", "math/bits.deBruijn64tab", "pagoda/syntax.words"], loops := true, apart := false, laid := [("math/bits.deBruijn32tab", laid_math_bits_deBruijn32tab), ("math/bits.deBruijn64tab", laid_math_bits_deBruijn64tab), ("internal/strconv.uint64pow10", laid_internal_strconv_uint64pow10), ("pagoda/syntax.words", laid_pagoda_syntax_words)] }
def ScopeFreshSaid : Prop := scopeFreshRow.holds Tryz.pinned (OpenSpec.ofChange scopeFreshSpec)

/-- ITS FALSE NEIGHBOUR: 'it returns false'. Refute it at one input. -/
def scopeFreshWrong : ChangeSpec := { name := "scopeFresh", fn := fun _ => fun
  | [d1, d2] => { results := [.lit (.bool false)], args := [d1, d2] }
  | _ => none }
def ScopeFreshWrongFalsely : Prop := scopeFreshRow.holds Tryz.pinned (OpenSpec.ofChange scopeFreshWrong)

/-- 'pagodalaw06.ScopeMeans': WHATEVER THE INPUT: true; the input reads as it did. -/
def scopeMeansSpec : ChangeSpec := { name := "scopeMeans", fn := fun _ => fun
  | [d1, d2] => { results := [.lit (.bool true)], args := [d1, d2] }
  | _ => none }
def scopeMeansRow : OpenClaim := { program := "ytigideidmcmfbaagreatdoor", sum := "c4f4afeac70bb0919521c096b96200e44ce11071d3cdf137a5580012751ae5d1", func := "pagoda/pagodalaw06.ScopeMeans", spec := "scopeMeans", inPlace := ["internal/bytealg.IndexByteString"], unfollowed := true, recurses := true, named := ["pagoda/syntax.words", "internal/strconv.uint64pow10", "math/bits.deBruijn32tab", "math/bits.deBruijn64tab"], loops := true, apart := false, laid := [("math/bits.deBruijn32tab", laid_math_bits_deBruijn32tab), ("math/bits.deBruijn64tab", laid_math_bits_deBruijn64tab), ("internal/strconv.uint64pow10", laid_internal_strconv_uint64pow10), ("pagoda/syntax.words", laid_pagoda_syntax_words)] }
def ScopeMeansSaid : Prop := scopeMeansRow.holds Tryz.pinned (OpenSpec.ofChange scopeMeansSpec)

/-- ITS FALSE NEIGHBOUR: 'it returns false'. Refute it at one input. -/
def scopeMeansWrong : ChangeSpec := { name := "scopeMeans", fn := fun _ => fun
  | [d1, d2] => { results := [.lit (.bool false)], args := [d1, d2] }
  | _ => none }
def ScopeMeansWrongFalsely : Prop := scopeMeansRow.holds Tryz.pinned (OpenSpec.ofChange scopeMeansWrong)

/-- 'pagodalaw06.ScopeBinds': WHATEVER THE INPUT: true; the input reads as it did. -/
def scopeBindsSpec : ChangeSpec := { name := "scopeBinds", fn := fun _ => fun
  | [d] => { results := [.lit (.bool true)], args := [d] }
  | _ => none }
def scopeBindsRow : OpenClaim := { program := "ytigideidmcmfbaagreatdoor", sum := "c4f4afeac70bb0919521c096b96200e44ce11071d3cdf137a5580012751ae5d1", func := "pagoda/pagodalaw06.ScopeBinds", spec := "scopeBinds", inPlace := ["internal/bytealg.IndexByteString"], unfollowed := true, recurses := true, named := ["pagoda/syntax.words", "internal/strconv.uint64pow10", "math/bits.deBruijn32tab", "math/bits.deBruijn64tab"], loops := true, apart := false, laid := [("math/bits.deBruijn32tab", laid_math_bits_deBruijn32tab), ("math/bits.deBruijn64tab", laid_math_bits_deBruijn64tab), ("internal/strconv.uint64pow10", laid_internal_strconv_uint64pow10), ("pagoda/syntax.words", laid_pagoda_syntax_words)] }
def ScopeBindsSaid : Prop := scopeBindsRow.holds Tryz.pinned (OpenSpec.ofChange scopeBindsSpec)

/-- ITS FALSE NEIGHBOUR: 'it returns false'. Refute it at one input. -/
def scopeBindsWrong : ChangeSpec := { name := "scopeBinds", fn := fun _ => fun
  | [d] => { results := [.lit (.bool false)], args := [d] }
  | _ => none }
def ScopeBindsWrongFalsely : Prop := scopeBindsRow.holds Tryz.pinned (OpenSpec.ofChange scopeBindsWrong)

/-- 'pagodalaw06.ScopeCanons': WHATEVER THE INPUT: true; the input reads as it did. -/
def scopeCanonsSpec : ChangeSpec := { name := "scopeCanons", fn := fun _ => fun
  | [d1, d2] => { results := [.lit (.bool true)], args := [d1, d2] }
  | _ => none }
def scopeCanonsRow : OpenClaim := { program := "ytigideidmcmfbaagreatdoor", sum := "c4f4afeac70bb0919521c096b96200e44ce11071d3cdf137a5580012751ae5d1", func := "pagoda/pagodalaw06.ScopeCanons", spec := "scopeCanons", inPlace := ["internal/bytealg.IndexByteString"], unfollowed := true, recurses := true, named := ["pagoda/syntax.words", "internal/strconv.uint64pow10", "math/bits.deBruijn32tab", "math/bits.deBruijn64tab"], loops := true, apart := false, laid := [("math/bits.deBruijn32tab", laid_math_bits_deBruijn32tab), ("math/bits.deBruijn64tab", laid_math_bits_deBruijn64tab), ("internal/strconv.uint64pow10", laid_internal_strconv_uint64pow10), ("pagoda/syntax.words", laid_pagoda_syntax_words)] }
def ScopeCanonsSaid : Prop := scopeCanonsRow.holds Tryz.pinned (OpenSpec.ofChange scopeCanonsSpec)

/-- ITS FALSE NEIGHBOUR: 'it returns false'. Refute it at one input. -/
def scopeCanonsWrong : ChangeSpec := { name := "scopeCanons", fn := fun _ => fun
  | [d1, d2] => { results := [.lit (.bool false)], args := [d1, d2] }
  | _ => none }
def ScopeCanonsWrongFalsely : Prop := scopeCanonsRow.holds Tryz.pinned (OpenSpec.ofChange scopeCanonsWrong)

/-- 'pagodalaw06.ScopeSubsts': WHATEVER THE INPUT: true; the input reads as it did. -/
def scopeSubstsSpec : ChangeSpec := { name := "scopeSubsts", fn := fun _ => fun
  | [d1, d2, d3] => { results := [.lit (.bool true)], args := [d1, d2, d3] }
  | _ => none }
def scopeSubstsRow : OpenClaim := { program := "ytigideidmcmfbaagreatdoor", sum := "c4f4afeac70bb0919521c096b96200e44ce11071d3cdf137a5580012751ae5d1", func := "pagoda/pagodalaw06.ScopeSubsts", spec := "scopeSubsts", inPlace := ["internal/bytealg.IndexByteString"], unfollowed := true, recurses := true, named := ["pagoda/syntax.words", "internal/strconv.uint64pow10", "math/bits.deBruijn32tab", "math/bits.deBruijn64tab"], loops := true, apart := false, laid := [("math/bits.deBruijn32tab", laid_math_bits_deBruijn32tab), ("math/bits.deBruijn64tab", laid_math_bits_deBruijn64tab), ("internal/strconv.uint64pow10", laid_internal_strconv_uint64pow10), ("pagoda/syntax.words", laid_pagoda_syntax_words)] }
def ScopeSubstsSaid : Prop := scopeSubstsRow.holds Tryz.pinned (OpenSpec.ofChange scopeSubstsSpec)

/-- ITS FALSE NEIGHBOUR: 'it returns false'. Refute it at one input. -/
def scopeSubstsWrong : ChangeSpec := { name := "scopeSubsts", fn := fun _ => fun
  | [d1, d2, d3] => { results := [.lit (.bool false)], args := [d1, d2, d3] }
  | _ => none }
def ScopeSubstsWrongFalsely : Prop := scopeSubstsRow.holds Tryz.pinned (OpenSpec.ofChange scopeSubstsWrong)

/-- 'pagodalaw06.ScopeCanonical': WHATEVER THE INPUT: true; the input reads as it did. -/
def scopeCanonicalSpec : ChangeSpec := { name := "scopeCanonical", fn := fun _ => fun
  | [d1, d2] => { results := [.lit (.bool true)], args := [d1, d2] }
  | _ => none }
def scopeCanonicalRow : OpenClaim := { program := "ytigideidmcmfbaagreatdoor", sum := "c4f4afeac70bb0919521c096b96200e44ce11071d3cdf137a5580012751ae5d1", func := "pagoda/pagodalaw06.ScopeCanonical", spec := "scopeCanonical", inPlace := ["internal/bytealg.IndexByteString"], unfollowed := true, recurses := true, named := ["pagoda/syntax.words", "internal/strconv.uint64pow10", "math/bits.deBruijn32tab", "math/bits.deBruijn64tab"], loops := true, apart := false, laid := [("math/bits.deBruijn32tab", laid_math_bits_deBruijn32tab), ("math/bits.deBruijn64tab", laid_math_bits_deBruijn64tab), ("internal/strconv.uint64pow10", laid_internal_strconv_uint64pow10), ("pagoda/syntax.words", laid_pagoda_syntax_words)] }
def ScopeCanonicalSaid : Prop := scopeCanonicalRow.holds Tryz.pinned (OpenSpec.ofChange scopeCanonicalSpec)

/-- ITS FALSE NEIGHBOUR: 'it returns false'. Refute it at one input. -/
def scopeCanonicalWrong : ChangeSpec := { name := "scopeCanonical", fn := fun _ => fun
  | [d1, d2] => { results := [.lit (.bool false)], args := [d1, d2] }
  | _ => none }
def ScopeCanonicalWrongFalsely : Prop := scopeCanonicalRow.holds Tryz.pinned (OpenSpec.ofChange scopeCanonicalWrong)

/-- 'pagodalaw06.ScopeFreeOf': WHATEVER THE INPUT: true; the input reads as it did. -/
def scopeFreeOfSpec : ChangeSpec := { name := "scopeFreeOf", fn := fun _ => fun
  | [d1, d2, d3] => { results := [.lit (.bool true)], args := [d1, d2, d3] }
  | _ => none }
def scopeFreeOfRow : OpenClaim := { program := "ytigideidmcmfbaagreatdoor", sum := "c4f4afeac70bb0919521c096b96200e44ce11071d3cdf137a5580012751ae5d1", func := "pagoda/pagodalaw06.ScopeFreeOf", spec := "scopeFreeOf", inPlace := ["internal/bytealg.IndexByteString"], unfollowed := true, recurses := true, named := ["pagoda/syntax.words", "internal/strconv.uint64pow10", "math/bits.deBruijn32tab", "math/bits.deBruijn64tab"], loops := true, apart := false, laid := [("math/bits.deBruijn32tab", laid_math_bits_deBruijn32tab), ("math/bits.deBruijn64tab", laid_math_bits_deBruijn64tab), ("internal/strconv.uint64pow10", laid_internal_strconv_uint64pow10), ("pagoda/syntax.words", laid_pagoda_syntax_words)] }
def ScopeFreeOfSaid : Prop := scopeFreeOfRow.holds Tryz.pinned (OpenSpec.ofChange scopeFreeOfSpec)

/-- ITS FALSE NEIGHBOUR: 'it returns false'. Refute it at one input. -/
def scopeFreeOfWrong : ChangeSpec := { name := "scopeFreeOf", fn := fun _ => fun
  | [d1, d2, d3] => { results := [.lit (.bool false)], args := [d1, d2, d3] }
  | _ => none }
def ScopeFreeOfWrongFalsely : Prop := scopeFreeOfRow.holds Tryz.pinned (OpenSpec.ofChange scopeFreeOfWrong)

/-- 'pagodalaw06.ScopeSelf': WHATEVER THE INPUT: true; the input reads as it did. -/
def scopeSelfSpec : ChangeSpec := { name := "scopeSelf", fn := fun _ => fun
  | [d1, d2, d3] => { results := [.lit (.bool true)], args := [d1, d2, d3] }
  | _ => none }
def scopeSelfRow : OpenClaim := { program := "ytigideidmcmfbaagreatdoor", sum := "c4f4afeac70bb0919521c096b96200e44ce11071d3cdf137a5580012751ae5d1", func := "pagoda/pagodalaw06.ScopeSelf", spec := "scopeSelf", inPlace := ["internal/bytealg.IndexByteString"], unfollowed := true, recurses := true, named := ["pagoda/syntax.words", "internal/strconv.uint64pow10", "math/bits.deBruijn32tab", "math/bits.deBruijn64tab"], loops := true, apart := false, laid := [("math/bits.deBruijn32tab", laid_math_bits_deBruijn32tab), ("math/bits.deBruijn64tab", laid_math_bits_deBruijn64tab), ("internal/strconv.uint64pow10", laid_internal_strconv_uint64pow10), ("pagoda/syntax.words", laid_pagoda_syntax_words)] }
def ScopeSelfSaid : Prop := scopeSelfRow.holds Tryz.pinned (OpenSpec.ofChange scopeSelfSpec)

/-- ITS FALSE NEIGHBOUR: 'it returns false'. Refute it at one input. -/
def scopeSelfWrong : ChangeSpec := { name := "scopeSelf", fn := fun _ => fun
  | [d1, d2, d3] => { results := [.lit (.bool false)], args := [d1, d2, d3] }
  | _ => none }
def ScopeSelfWrongFalsely : Prop := scopeSelfRow.holds Tryz.pinned (OpenSpec.ofChange scopeSelfWrong)

/- THE SECOND FORM. 'bulk': how many values and letters a reading holds, each counted each time it is reached (what is shared counts as often as it is met; a slice's spare places count too). A statement '..UptoSaid' is the law's where the arguments, and the package variables that the reading takes, are together of bulk at most 1048576: NARROWER than '..Said'. Prove '..Said' where nothing that the law and all that it calls make is longer than what came in: it says more and counts as full. Else prove '..UptoSaid'. A law counts once. -/
mutual
def uptoBulk {H : Type} : DataW H → Nat
  | .lit (.string bytes) => bytes.length + 1
  | .lit _ => 1
  | .nil => 1
  | .ptr d => uptoBulk d + 1
  | .slice elems spare => uptoBulkAll elems + uptoBulkAll spare + 1
  | .agg parts => uptoBulkAll parts + 1
  | .iface _ d => uptoBulk d + 1
  | .map entries => uptoBulkEntries entries + 1
  | .held _ => 1
def uptoBulkAll {H : Type} : List (DataW H) → Nat
  | [] => 0
  | d :: r => uptoBulk d + uptoBulkAll r
def uptoBulkEntries {H : Type} : List (Lit × DataW H) → Nat
  | [] => 0
  | x :: r => uptoBulkEntry x + uptoBulkEntries r
def uptoBulkEntry {H : Type} : Lit × DataW H → Nat
  | (.string bytes, d) => bytes.length + uptoBulk d + 1
  | (_, d) => uptoBulk d + 1
 end
def uptoSmall : (H : Type) → List (DataW H) → Bool := fun _ ds => decide (uptoBulkAll ds ≤ 1048576)
def OpenSpec.upto (s : _root_.Go.ChangeSpec) : _root_.Go.OpenSpec := { _root_.Go.OpenSpec.ofChange s with cond := some uptoSmall }

/-- 'pagodalaw06.ScopeFree', WHERE WHAT IT READS IS OF BULK AT MOST 1048576: true; the input reads as it did. -/
def scopeFreeUptoRow : OpenClaim := { program := "ytigideidmcmfbaagreatdoor", sum := "c4f4afeac70bb0919521c096b96200e44ce11071d3cdf137a5580012751ae5d1", func := "pagoda/pagodalaw06.ScopeFree", spec := "scopeFree", inPlace := ["internal/bytealg.IndexByteString"], unfollowed := true, recurses := true, named := ["pagoda/syntax.words", "internal/strconv.uint64pow10", "math/bits.deBruijn32tab", "math/bits.deBruijn64tab"], loops := true, apart := false, laid := [("math/bits.deBruijn32tab", laid_math_bits_deBruijn32tab), ("math/bits.deBruijn64tab", laid_math_bits_deBruijn64tab), ("internal/strconv.uint64pow10", laid_internal_strconv_uint64pow10), ("pagoda/syntax.words", laid_pagoda_syntax_words)], narrowed := true }
def ScopeFreeUptoSaid : Prop := scopeFreeUptoRow.holds Tryz.pinned (OpenSpec.upto scopeFreeSpec)

/-- 'pagodalaw06.ScopeFresh', WHERE WHAT IT READS IS OF BULK AT MOST 1048576: true; the input reads as it did. -/
def scopeFreshUptoRow : OpenClaim := { program := "ytigideidmcmfbaagreatdoor", sum := "c4f4afeac70bb0919521c096b96200e44ce11071d3cdf137a5580012751ae5d1", func := "pagoda/pagodalaw06.ScopeFresh", spec := "scopeFresh", inPlace := ["internal/bytealg.IndexByteString"], unfollowed := true, recurses := true, named := ["internal/strconv.uint64pow10", "math/bits.deBruijn32tab", "math/bits.deBruijn64tab", "pagoda/syntax.words"], loops := true, apart := false, laid := [("math/bits.deBruijn32tab", laid_math_bits_deBruijn32tab), ("math/bits.deBruijn64tab", laid_math_bits_deBruijn64tab), ("internal/strconv.uint64pow10", laid_internal_strconv_uint64pow10), ("pagoda/syntax.words", laid_pagoda_syntax_words)], narrowed := true }
def ScopeFreshUptoSaid : Prop := scopeFreshUptoRow.holds Tryz.pinned (OpenSpec.upto scopeFreshSpec)

/-- 'pagodalaw06.ScopeMeans', WHERE WHAT IT READS IS OF BULK AT MOST 1048576: true; the input reads as it did. -/
def scopeMeansUptoRow : OpenClaim := { program := "ytigideidmcmfbaagreatdoor", sum := "c4f4afeac70bb0919521c096b96200e44ce11071d3cdf137a5580012751ae5d1", func := "pagoda/pagodalaw06.ScopeMeans", spec := "scopeMeans", inPlace := ["internal/bytealg.IndexByteString"], unfollowed := true, recurses := true, named := ["pagoda/syntax.words", "internal/strconv.uint64pow10", "math/bits.deBruijn32tab", "math/bits.deBruijn64tab"], loops := true, apart := false, laid := [("math/bits.deBruijn32tab", laid_math_bits_deBruijn32tab), ("math/bits.deBruijn64tab", laid_math_bits_deBruijn64tab), ("internal/strconv.uint64pow10", laid_internal_strconv_uint64pow10), ("pagoda/syntax.words", laid_pagoda_syntax_words)], narrowed := true }
def ScopeMeansUptoSaid : Prop := scopeMeansUptoRow.holds Tryz.pinned (OpenSpec.upto scopeMeansSpec)

/-- 'pagodalaw06.ScopeBinds', WHERE WHAT IT READS IS OF BULK AT MOST 1048576: true; the input reads as it did. -/
def scopeBindsUptoRow : OpenClaim := { program := "ytigideidmcmfbaagreatdoor", sum := "c4f4afeac70bb0919521c096b96200e44ce11071d3cdf137a5580012751ae5d1", func := "pagoda/pagodalaw06.ScopeBinds", spec := "scopeBinds", inPlace := ["internal/bytealg.IndexByteString"], unfollowed := true, recurses := true, named := ["pagoda/syntax.words", "internal/strconv.uint64pow10", "math/bits.deBruijn32tab", "math/bits.deBruijn64tab"], loops := true, apart := false, laid := [("math/bits.deBruijn32tab", laid_math_bits_deBruijn32tab), ("math/bits.deBruijn64tab", laid_math_bits_deBruijn64tab), ("internal/strconv.uint64pow10", laid_internal_strconv_uint64pow10), ("pagoda/syntax.words", laid_pagoda_syntax_words)], narrowed := true }
def ScopeBindsUptoSaid : Prop := scopeBindsUptoRow.holds Tryz.pinned (OpenSpec.upto scopeBindsSpec)

/-- 'pagodalaw06.ScopeCanons', WHERE WHAT IT READS IS OF BULK AT MOST 1048576: true; the input reads as it did. -/
def scopeCanonsUptoRow : OpenClaim := { program := "ytigideidmcmfbaagreatdoor", sum := "c4f4afeac70bb0919521c096b96200e44ce11071d3cdf137a5580012751ae5d1", func := "pagoda/pagodalaw06.ScopeCanons", spec := "scopeCanons", inPlace := ["internal/bytealg.IndexByteString"], unfollowed := true, recurses := true, named := ["pagoda/syntax.words", "internal/strconv.uint64pow10", "math/bits.deBruijn32tab", "math/bits.deBruijn64tab"], loops := true, apart := false, laid := [("math/bits.deBruijn32tab", laid_math_bits_deBruijn32tab), ("math/bits.deBruijn64tab", laid_math_bits_deBruijn64tab), ("internal/strconv.uint64pow10", laid_internal_strconv_uint64pow10), ("pagoda/syntax.words", laid_pagoda_syntax_words)], narrowed := true }
def ScopeCanonsUptoSaid : Prop := scopeCanonsUptoRow.holds Tryz.pinned (OpenSpec.upto scopeCanonsSpec)

/-- 'pagodalaw06.ScopeSubsts', WHERE WHAT IT READS IS OF BULK AT MOST 1048576: true; the input reads as it did. -/
def scopeSubstsUptoRow : OpenClaim := { program := "ytigideidmcmfbaagreatdoor", sum := "c4f4afeac70bb0919521c096b96200e44ce11071d3cdf137a5580012751ae5d1", func := "pagoda/pagodalaw06.ScopeSubsts", spec := "scopeSubsts", inPlace := ["internal/bytealg.IndexByteString"], unfollowed := true, recurses := true, named := ["pagoda/syntax.words", "internal/strconv.uint64pow10", "math/bits.deBruijn32tab", "math/bits.deBruijn64tab"], loops := true, apart := false, laid := [("math/bits.deBruijn32tab", laid_math_bits_deBruijn32tab), ("math/bits.deBruijn64tab", laid_math_bits_deBruijn64tab), ("internal/strconv.uint64pow10", laid_internal_strconv_uint64pow10), ("pagoda/syntax.words", laid_pagoda_syntax_words)], narrowed := true }
def ScopeSubstsUptoSaid : Prop := scopeSubstsUptoRow.holds Tryz.pinned (OpenSpec.upto scopeSubstsSpec)

/-- 'pagodalaw06.ScopeCanonical', WHERE WHAT IT READS IS OF BULK AT MOST 1048576: true; the input reads as it did. -/
def scopeCanonicalUptoRow : OpenClaim := { program := "ytigideidmcmfbaagreatdoor", sum := "c4f4afeac70bb0919521c096b96200e44ce11071d3cdf137a5580012751ae5d1", func := "pagoda/pagodalaw06.ScopeCanonical", spec := "scopeCanonical", inPlace := ["internal/bytealg.IndexByteString"], unfollowed := true, recurses := true, named := ["pagoda/syntax.words", "internal/strconv.uint64pow10", "math/bits.deBruijn32tab", "math/bits.deBruijn64tab"], loops := true, apart := false, laid := [("math/bits.deBruijn32tab", laid_math_bits_deBruijn32tab), ("math/bits.deBruijn64tab", laid_math_bits_deBruijn64tab), ("internal/strconv.uint64pow10", laid_internal_strconv_uint64pow10), ("pagoda/syntax.words", laid_pagoda_syntax_words)], narrowed := true }
def ScopeCanonicalUptoSaid : Prop := scopeCanonicalUptoRow.holds Tryz.pinned (OpenSpec.upto scopeCanonicalSpec)

/-- 'pagodalaw06.ScopeFreeOf', WHERE WHAT IT READS IS OF BULK AT MOST 1048576: true; the input reads as it did. -/
def scopeFreeOfUptoRow : OpenClaim := { program := "ytigideidmcmfbaagreatdoor", sum := "c4f4afeac70bb0919521c096b96200e44ce11071d3cdf137a5580012751ae5d1", func := "pagoda/pagodalaw06.ScopeFreeOf", spec := "scopeFreeOf", inPlace := ["internal/bytealg.IndexByteString"], unfollowed := true, recurses := true, named := ["pagoda/syntax.words", "internal/strconv.uint64pow10", "math/bits.deBruijn32tab", "math/bits.deBruijn64tab"], loops := true, apart := false, laid := [("math/bits.deBruijn32tab", laid_math_bits_deBruijn32tab), ("math/bits.deBruijn64tab", laid_math_bits_deBruijn64tab), ("internal/strconv.uint64pow10", laid_internal_strconv_uint64pow10), ("pagoda/syntax.words", laid_pagoda_syntax_words)], narrowed := true }
def ScopeFreeOfUptoSaid : Prop := scopeFreeOfUptoRow.holds Tryz.pinned (OpenSpec.upto scopeFreeOfSpec)

/-- 'pagodalaw06.ScopeSelf', WHERE WHAT IT READS IS OF BULK AT MOST 1048576: true; the input reads as it did. -/
def scopeSelfUptoRow : OpenClaim := { program := "ytigideidmcmfbaagreatdoor", sum := "c4f4afeac70bb0919521c096b96200e44ce11071d3cdf137a5580012751ae5d1", func := "pagoda/pagodalaw06.ScopeSelf", spec := "scopeSelf", inPlace := ["internal/bytealg.IndexByteString"], unfollowed := true, recurses := true, named := ["pagoda/syntax.words", "internal/strconv.uint64pow10", "math/bits.deBruijn32tab", "math/bits.deBruijn64tab"], loops := true, apart := false, laid := [("math/bits.deBruijn32tab", laid_math_bits_deBruijn32tab), ("math/bits.deBruijn64tab", laid_math_bits_deBruijn64tab), ("internal/strconv.uint64pow10", laid_internal_strconv_uint64pow10), ("pagoda/syntax.words", laid_pagoda_syntax_words)], narrowed := true }
def ScopeSelfUptoSaid : Prop := scopeSelfUptoRow.holds Tryz.pinned (OpenSpec.upto scopeSelfSpec)

end Rows
end Go.Proofs.YtigideidmcmfbaaGreatDoor
