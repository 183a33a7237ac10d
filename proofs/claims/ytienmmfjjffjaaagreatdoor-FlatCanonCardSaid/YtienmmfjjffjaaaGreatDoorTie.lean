/-
  DERIVED. GIVEN WITH THE SEED: THE PROGRAM's TIES (one call each: nine closed facts by the kernel) AND EACH ROW's TIE, after the 31st guide's Derived/Test/Toyas{Tie, Card}.lean. No idea stands in it: it is a product of the set-up. Laid BY PROGRAM, IN A SANDBOX (cutbox-door.mjs). By AI agents, Wed Nov 11 2026. No macro, syntax, notation, axiom, sorry.
-/
import Derived.Test.YtienmmfjjffjaaaGreatDoorRows
import Derived.LaidByTextLater
import Derived.SevenTiedAt
import Derived.LaidSub
import Derived.LaidOnce
namespace Go.Proofs.YtienmmfjjffjaaaGreatDoor
open Go
set_option maxRecDepth 100000
theorem seatTie1 : Tryz.prog.laidByTextLater [("math/bits.deBruijn32tab", Rows.laid_math_bits_deBruijn32tab), ("math/bits.deBruijn64tab", Rows.laid_math_bits_deBruijn64tab), ("internal/strconv.uint64pow10", Rows.laid_internal_strconv_uint64pow10), ("pagoda/node.reserved", Rows.laid_pagoda_node_reserved), ("pagoda/prim.names", Rows.laid_pagoda_prim_names)] [.data, .data, .data, .mapped, .data] true :=
  Program.laidByTextLater_by_one 90 8 65 (by kernel_rfl) (by kernel_rfl) (by kernel_rfl) (by kernel_rfl) (by kernel_rfl) (by kernel_rfl) (fun _ _ => by kernel_rfl)
theorem noOwnUnsafe : Tryz.pinned.checked.prog.headLifts.contains "ownunsafe" = false := by kernel_rfl
theorem tie : Tryz.prog.laidByTextLater [("math/bits.deBruijn32tab", Rows.laid_math_bits_deBruijn32tab), ("math/bits.deBruijn64tab", Rows.laid_math_bits_deBruijn64tab), ("internal/strconv.uint64pow10", Rows.laid_internal_strconv_uint64pow10), ("pagoda/node.reserved", Rows.laid_pagoda_node_reserved), ("pagoda/prim.names", Rows.laid_pagoda_prim_names)] [.data, .data, .data, .mapped, .data] true :=
  Program.laidByTextLater.sub seatTie1 ["math/bits.deBruijn32tab", "math/bits.deBruijn64tab", "internal/strconv.uint64pow10", "pagoda/node.reserved", "pagoda/prim.names"] (by kernel_rfl) (by kernel_rfl)
theorem flatChecks_row_tie : Rows.flatChecksRow.laidByTextAt .later Tryz.pinned [.data, .data, .data, .mapped, .data] true :=
  OpenClaim.laidByTextAt_later rfl rfl tie noOwnUnsafe
theorem flatCanons_row_tie : Rows.flatCanonsRow.laidByTextAt .later Tryz.pinned [.data, .data, .data, .mapped, .data] true :=
  OpenClaim.laidByTextAt_later rfl rfl tie noOwnUnsafe
theorem flatCanon_row_tie : Rows.flatCanonRow.laidByTextAt .later Tryz.pinned [.data, .data, .data, .mapped, .data] true :=
  OpenClaim.laidByTextAt_later rfl rfl tie noOwnUnsafe
theorem flatExprs_row_tie : Rows.flatExprsRow.laidByTextAt .later Tryz.pinned [.data, .data, .data, .mapped, .data] true :=
  OpenClaim.laidByTextAt_later rfl rfl tie noOwnUnsafe
theorem flatJoins_row_tie : Rows.flatJoinsRow.laidByTextAt .later Tryz.pinned [.data, .data, .data, .mapped, .data] true :=
  OpenClaim.laidByTextAt_later rfl rfl tie noOwnUnsafe
theorem flatDefs_row_tie : Rows.flatDefsRow.laidByTextAt .later Tryz.pinned [.data, .data, .data, .mapped, .data] true :=
  OpenClaim.laidByTextAt_later rfl rfl tie noOwnUnsafe
theorem flatChecksUpto_row_tie : Rows.flatChecksUptoRow.laidByTextAt .later Tryz.pinned [.data, .data, .data, .mapped, .data] true :=
  OpenClaim.laidByTextAt_later rfl rfl tie noOwnUnsafe
theorem flatCanonsUpto_row_tie : Rows.flatCanonsUptoRow.laidByTextAt .later Tryz.pinned [.data, .data, .data, .mapped, .data] true :=
  OpenClaim.laidByTextAt_later rfl rfl tie noOwnUnsafe
theorem flatCanonUpto_row_tie : Rows.flatCanonUptoRow.laidByTextAt .later Tryz.pinned [.data, .data, .data, .mapped, .data] true :=
  OpenClaim.laidByTextAt_later rfl rfl tie noOwnUnsafe
theorem flatExprsUpto_row_tie : Rows.flatExprsUptoRow.laidByTextAt .later Tryz.pinned [.data, .data, .data, .mapped, .data] true :=
  OpenClaim.laidByTextAt_later rfl rfl tie noOwnUnsafe
theorem flatJoinsUpto_row_tie : Rows.flatJoinsUptoRow.laidByTextAt .later Tryz.pinned [.data, .data, .data, .mapped, .data] true :=
  OpenClaim.laidByTextAt_later rfl rfl tie noOwnUnsafe
theorem flatDefsUpto_row_tie : Rows.flatDefsUptoRow.laidByTextAt .later Tryz.pinned [.data, .data, .data, .mapped, .data] true :=
  OpenClaim.laidByTextAt_later rfl rfl tie noOwnUnsafe
end Go.Proofs.YtienmmfjjffjaaaGreatDoor
