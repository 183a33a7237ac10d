/- Part of the proof that the statement holds for every input that its row lets in: the contracts of the program's functions, printed by a program out of annotations; the statement itself stands at the end of the last part. -/
import Derived.Test.YtienmmfjjffjaaaGreatDoorProg
import Derived.Test.YtienmmfjjffjaaaGreatDoorZA2
import Derived.Shelf.LaysM
import Derived.Shelf.Small.Strs
import Derived.Shelf.Strconv.Itoa4
set_option linter.unusedSimpArgs false
set_option linter.unusedVariables false
/- The types of this program that the proofs speak of, as a table, and that the table is right. -/
namespace Go.Proofs.YtienmmfjjffjaaaGreatDoor
open Go Go.Aw
def tyL : List (Nat × TyI) :=
  [(1, ⟨1, 8, .func, [], [.nilfn], none⟩),
   (2, ⟨1, 8, .int .i64, [], [.int .i64 0], none⟩),
   (3, ⟨1, 8, .int .i64, [], [.int .i64 0], none⟩),
   (4, ⟨1, 1, .bool, [], [.bool false], none⟩),
   (5, ⟨1, 1, .int .u8, [], [.int .u8 0], none⟩),
   (6, ⟨1, 1, .int .u8, [], [.int .u8 0], none⟩),
   (7, ⟨4, 24, .struct, [(0, 1), (1, 1), (2, 1), (3, 1)], [.int .i64 0, .int .i64 0, .bool false, .int .u8 0], none⟩),
   (8, ⟨4, 24, .struct, [(0, 1), (1, 1), (2, 1), (3, 1)], [.int .i64 0, .int .i64 0, .bool false, .int .u8 0], none⟩),
   (9, ⟨1, 16, .str, [], [.str ⟨#[]⟩], some (.one (.str))⟩),
   (10, ⟨1, 16, .str, [], [.str ⟨#[]⟩], none⟩),
   (11, ⟨1, 16, .str, [], [.str ⟨#[]⟩], none⟩),
   (12, ⟨1, 8, .int .u64, [], [.int .u64 0], none⟩),
   (13, ⟨2, 24, .struct, [(0, 1), (1, 1)], [.str ⟨#[]⟩, .int .u64 0], none⟩),
   (14, ⟨2, 24, .struct, [(0, 1), (1, 1)], [.str ⟨#[]⟩, .int .u64 0], none⟩),
   (15, ⟨1, 8, .ptr 169, [], [.nilp], none⟩),
   (16, ⟨1, 8, .ptr 172, [], [.nilp], none⟩),
   (17, ⟨1, 8, .ptr 181, [], [.nilp], none⟩),
   (18, ⟨1, 8, .struct, [(0, 1)], [.nilp], none⟩),
   (19, ⟨1, 8, .struct, [(0, 1)], [.nilp], none⟩),
   (20, ⟨1, 16, .iface, [], [.nilif], none⟩),
   (21, ⟨1, 4, .int .i32, [], [.int .i32 0], none⟩),
   (22, ⟨1, 24, .slice 24, [], [.nils], none⟩),
   (23, ⟨4, 56, .struct, [(0, 1), (1, 1), (2, 1), (3, 1)], [.int .i64 0, .int .i64 0, .str ⟨#[]⟩, .nils], none⟩),
   (24, ⟨4, 56, .struct, [(0, 1), (1, 1), (2, 1), (3, 1)], [.int .i64 0, .int .i64 0, .str ⟨#[]⟩, .nils], none⟩),
   (25, ⟨1, 8, .func, [], [.nilfn], none⟩),
   (26, ⟨1, 24, .slice 41, [], [.nils], none⟩),
   (27, ⟨1, 8, .int .i64, [], [.int .i64 0], none⟩),
   (29, ⟨1, 8, .func, [], [.nilfn], none⟩),
   (30, ⟨1, 8, .func, [], [.nilfn], none⟩),
   (31, ⟨1, 24, .slice 9, [], [.nils], none⟩),
   (33, ⟨1, 8, .func, [], [.nilfn], none⟩),
   (35, ⟨1, 8, .func, [], [.nilfn], none⟩),
   (37, ⟨1, 8, .func, [], [.nilfn], none⟩),
   (38, ⟨1, 8, .func, [], [.nilfn], none⟩),
   (39, ⟨1, 8, .func, [], [.nilfn], none⟩),
   (40, ⟨9, 136, .struct, [(0, 4), (4, 1), (5, 4)], [.int .i64 0, .int .i64 0, .str ⟨#[]⟩, .nils, .nils, .int .i64 0, .int .i64 0, .str ⟨#[]⟩, .nils], none⟩),
   (41, ⟨9, 136, .struct, [(0, 4), (4, 1), (5, 4)], [.int .i64 0, .int .i64 0, .str ⟨#[]⟩, .nils, .nils, .int .i64 0, .int .i64 0, .str ⟨#[]⟩, .nils], none⟩),
   (42, ⟨1, 8, .func, [], [.nilfn], none⟩),
   (43, ⟨1, 8, .func, [], [.nilfn], none⟩),
   (44, ⟨1, 8, .func, [], [.nilfn], none⟩),
   (45, ⟨1, 8, .func, [], [.nilfn], none⟩),
   (46, ⟨1, 8, .func, [], [.nilfn], none⟩),
   (48, ⟨1, 8, .func, [], [.nilfn], none⟩),
   (50, ⟨1, 8, .func, [], [.nilfn], none⟩),
   (51, ⟨1, 8, .func, [], [.nilfn], none⟩),
   (52, ⟨1, 8, .func, [], [.nilfn], none⟩),
   (53, ⟨1, 2, .int .u16, [], [.int .u16 0], none⟩),
   (54, ⟨1, 8, .func, [], [.nilfn], none⟩),
   (55, ⟨1, 8, .func, [], [.nilfn], none⟩),
   (56, ⟨1, 8, .func, [], [.nilfn], none⟩),
   (57, ⟨1, 8, .func, [], [.nilfn], none⟩),
   (58, ⟨1, 8, .func, [], [.nilfn], none⟩),
   (59, ⟨1, 8, .func, [], [.nilfn], none⟩),
   (60, ⟨1, 8, .func, [], [.nilfn], none⟩),
   (61, ⟨1, 8, .func, [], [.nilfn], none⟩),
   (62, ⟨1, 8, .func, [], [.nilfn], none⟩),
   (63, ⟨1, 8, .func, [], [.nilfn], none⟩),
   (64, ⟨1, 8, .func, [], [.nilfn], none⟩),
   (66, ⟨1, 8, .func, [], [.nilfn], none⟩),
   (67, ⟨1, 8, .func, [], [.nilfn], none⟩),
   (68, ⟨1, 8, .func, [], [.nilfn], none⟩),
   (69, ⟨1, 8, .func, [], [.nilfn], none⟩),
   (70, ⟨1, 8, .map 9 4, [], [.nilmap], none⟩),
   (71, ⟨1, 8, .func, [], [.nilfn], none⟩),
   (73, ⟨1, 8, .func, [], [.nilfn], none⟩),
   (74, ⟨1, 8, .func, [], [.nilfn], none⟩),
   (75, ⟨1, 8, .ptr 108, [], [.nilp], none⟩),
   (77, ⟨1, 8, .func, [], [.nilfn], none⟩),
   (78, ⟨1, 8, .func, [], [.nilfn], none⟩),
   (79, ⟨1, 8, .func, [], [.nilfn], none⟩),
   (80, ⟨1, 8, .func, [], [.nilfn], none⟩),
   (81, ⟨1, 8, .func, [], [.nilfn], none⟩),
   (82, ⟨1, 8, .func, [], [.nilfn], none⟩),
   (83, ⟨1, 8, .func, [], [.nilfn], none⟩),
   (84, ⟨1, 8, .func, [], [.nilfn], none⟩),
   (85, ⟨1, 8, .func, [], [.nilfn], none⟩),
   (86, ⟨1, 8, .func, [], [.nilfn], none⟩),
   (87, ⟨1, 8, .func, [], [.nilfn], none⟩),
   (88, ⟨1, 8, .func, [], [.nilfn], none⟩),
   (89, ⟨1, 8, .func, [], [.nilfn], none⟩),
   (90, ⟨1, 8, .func, [], [.nilfn], none⟩),
   (91, ⟨1, 8, .func, [], [.nilfn], none⟩),
   (92, ⟨8, 112, .array 2 24, [], [.int .i64 0, .int .i64 0, .str ⟨#[]⟩, .nils, .int .i64 0, .int .i64 0, .str ⟨#[]⟩, .nils], none⟩),
   (94, ⟨1, 8, .func, [], [.nilfn], none⟩),
   (95, ⟨1, 8, .ptr 97, [], [.nilp], none⟩),
   (96, ⟨1, 8, .struct, [(0, 1)], [.int .i64 0], none⟩),
   (97, ⟨1, 8, .struct, [(0, 1)], [.int .i64 0], none⟩),
   (98, ⟨1, 8, .func, [], [.nilfn], none⟩),
   (99, ⟨1, 8, .map 114 4, [], [.nilmap], none⟩),
   (100, ⟨1, 8, .func, [], [.nilfn], none⟩),
   (101, ⟨1, 8, .func, [], [.nilfn], none⟩),
   (102, ⟨1, 8, .func, [], [.nilfn], none⟩),
   (103, ⟨1, 8, .func, [], [.nilfn], none⟩),
   (105, ⟨1, 8, .func, [], [.nilfn], none⟩),
   (106, ⟨1, 8, .map 114 3, [], [.nilmap], none⟩),
   (107, ⟨1, 8, .struct, [(0, 1)], [.nilmap], none⟩),
   (108, ⟨1, 8, .struct, [(0, 1)], [.nilmap], none⟩),
   (109, ⟨1, 8, .func, [], [.nilfn], none⟩),
   (110, ⟨1, 8, .func, [], [.nilfn], none⟩),
   (112, ⟨1, 8, .func, [], [.nilfn], none⟩),
   (113, ⟨2, 24, .struct, [(0, 1), (1, 1)], [.int .i64 0, .str ⟨#[]⟩], none⟩),
   (114, ⟨2, 24, .struct, [(0, 1), (1, 1)], [.int .i64 0, .str ⟨#[]⟩], some (.many [.int .i64, .str])⟩),
   (115, ⟨1, 8, .func, [], [.nilfn], none⟩),
   (116, ⟨1, 8, .ptr 118, [], [.nilp], none⟩),
   (117, ⟨3, 24, .struct, [(0, 1), (1, 1), (2, 1)], [.nilfn, .nilfn, .bool false], none⟩),
   (118, ⟨3, 24, .struct, [(0, 1), (1, 1), (2, 1)], [.nilfn, .nilfn, .bool false], none⟩),
   (119, ⟨1, 8, .func, [], [.nilfn], none⟩),
   (120, ⟨1, 8, .map 114 24, [], [.nilmap], none⟩),
   (121, ⟨1, 8, .func, [], [.nilfn], none⟩),
   (122, ⟨1, 8, .func, [], [.nilfn], none⟩),
   (123, ⟨1, 8, .func, [], [.nilfn], none⟩),
   (124, ⟨1, 8, .func, [], [.nilfn], none⟩),
   (125, ⟨1, 8, .func, [], [.nilfn], none⟩),
   (126, ⟨1, 24, .slice 127, [], [.nils], none⟩),
   (127, ⟨2, 24, .struct, [(0, 1), (1, 1)], [.str ⟨#[]⟩, .int .i64 0], none⟩),
   (128, ⟨1, 24, .slice 130, [], [.nils], none⟩),
   (129, ⟨5, 64, .struct, [(0, 1), (1, 1), (2, 1), (3, 1), (4, 1)], [.int .i64 0, .int .i64 0, .str ⟨#[]⟩, .nils, .int .i64 0], none⟩),
   (130, ⟨5, 64, .struct, [(0, 1), (1, 1), (2, 1), (3, 1), (4, 1)], [.int .i64 0, .int .i64 0, .str ⟨#[]⟩, .nils, .int .i64 0], none⟩),
   (132, ⟨1, 8, .func, [], [.nilfn], none⟩),
   (133, ⟨1, 8, .func, [], [.nilfn], none⟩),
   (134, ⟨1, 8, .func, [], [.nilfn], none⟩),
   (135, ⟨1, 8, .func, [], [.nilfn], none⟩),
   (136, ⟨1, 24, .slice 3, [], [.nils], none⟩),
   (137, ⟨1, 8, .func, [], [.nilfn], none⟩),
   (138, ⟨1, 8, .func, [], [.nilfn], none⟩),
   (139, ⟨24, 24, .array 24 5, [], [.int .u8 0, .int .u8 0, .int .u8 0, .int .u8 0, .int .u8 0, .int .u8 0, .int .u8 0, .int .u8 0, .int .u8 0, .int .u8 0, .int .u8 0, .int .u8 0, .int .u8 0, .int .u8 0, .int .u8 0, .int .u8 0, .int .u8 0, .int .u8 0, .int .u8 0, .int .u8 0, .int .u8 0, .int .u8 0, .int .u8 0, .int .u8 0], none⟩),
   (140, ⟨1, 8, .int .u64, [], [.int .u64 0], none⟩),
   (141, ⟨1, 8, .func, [], [.nilfn], none⟩),
   (142, ⟨1, 8, .func, [], [.nilfn], none⟩),
   (143, ⟨1, 24, .slice 5, [], [.nils], none⟩),
   (145, ⟨1, 8, .func, [], [.nilfn], none⟩),
   (146, ⟨1, 8, .ptr 148, [], [.nilp], none⟩),
   (147, ⟨4, 40, .struct, [(0, 1), (1, 1), (2, 1), (3, 1)], [.str ⟨#[]⟩, .int .i64 0, .int .i64 0, .int .i64 0], none⟩),
   (148, ⟨4, 40, .struct, [(0, 1), (1, 1), (2, 1), (3, 1)], [.str ⟨#[]⟩, .int .i64 0, .int .i64 0, .int .i64 0], none⟩),
   (149, ⟨1, 8, .func, [], [.nilfn], none⟩),
   (150, ⟨1, 8, .func, [], [.nilfn], none⟩),
   (151, ⟨1, 8, .func, [], [.nilfn], none⟩),
   (152, ⟨1, 8, .func, [], [.nilfn], none⟩),
   (153, ⟨1, 8, .func, [], [.nilfn], none⟩),
   (154, ⟨20, 160, .array 20 140, [], [.int .u64 0, .int .u64 0, .int .u64 0, .int .u64 0, .int .u64 0, .int .u64 0, .int .u64 0, .int .u64 0, .int .u64 0, .int .u64 0, .int .u64 0, .int .u64 0, .int .u64 0, .int .u64 0, .int .u64 0, .int .u64 0, .int .u64 0, .int .u64 0, .int .u64 0, .int .u64 0], none⟩),
   (155, ⟨1, 4, .int .u32, [], [.int .u32 0], none⟩),
   (156, ⟨65, 65, .array 65 5, [], [.int .u8 0, .int .u8 0, .int .u8 0, .int .u8 0, .int .u8 0, .int .u8 0, .int .u8 0, .int .u8 0, .int .u8 0, .int .u8 0, .int .u8 0, .int .u8 0, .int .u8 0, .int .u8 0, .int .u8 0, .int .u8 0, .int .u8 0, .int .u8 0, .int .u8 0, .int .u8 0, .int .u8 0, .int .u8 0, .int .u8 0, .int .u8 0, .int .u8 0, .int .u8 0, .int .u8 0, .int .u8 0, .int .u8 0, .int .u8 0, .int .u8 0, .int .u8 0, .int .u8 0, .int .u8 0, .int .u8 0, .int .u8 0, .int .u8 0, .int .u8 0, .int .u8 0, .int .u8 0, .int .u8 0, .int .u8 0, .int .u8 0, .int .u8 0, .int .u8 0, .int .u8 0, .int .u8 0, .int .u8 0, .int .u8 0, .int .u8 0, .int .u8 0, .int .u8 0, .int .u8 0, .int .u8 0, .int .u8 0, .int .u8 0, .int .u8 0, .int .u8 0, .int .u8 0, .int .u8 0, .int .u8 0, .int .u8 0, .int .u8 0, .int .u8 0, .int .u8 0], none⟩),
   (157, ⟨1, 8, .func, [], [.nilfn], none⟩),
   (158, ⟨1, 8, .int .u64, [], [.int .u64 0], none⟩),
   (159, ⟨1, 8, .func, [], [.nilfn], none⟩),
   (160, ⟨1, 8, .func, [], [.nilfn], none⟩),
   (161, ⟨1, 8, .func, [], [.nilfn], none⟩),
   (162, ⟨1, 8, .func, [], [.nilfn], none⟩),
   (164, ⟨1, 8, .func, [], [.nilfn], none⟩),
   (165, ⟨32, 32, .array 32 5, [], [.int .u8 0, .int .u8 0, .int .u8 0, .int .u8 0, .int .u8 0, .int .u8 0, .int .u8 0, .int .u8 0, .int .u8 0, .int .u8 0, .int .u8 0, .int .u8 0, .int .u8 0, .int .u8 0, .int .u8 0, .int .u8 0, .int .u8 0, .int .u8 0, .int .u8 0, .int .u8 0, .int .u8 0, .int .u8 0, .int .u8 0, .int .u8 0, .int .u8 0, .int .u8 0, .int .u8 0, .int .u8 0, .int .u8 0, .int .u8 0, .int .u8 0, .int .u8 0], none⟩),
   (166, ⟨64, 64, .array 64 5, [], [.int .u8 0, .int .u8 0, .int .u8 0, .int .u8 0, .int .u8 0, .int .u8 0, .int .u8 0, .int .u8 0, .int .u8 0, .int .u8 0, .int .u8 0, .int .u8 0, .int .u8 0, .int .u8 0, .int .u8 0, .int .u8 0, .int .u8 0, .int .u8 0, .int .u8 0, .int .u8 0, .int .u8 0, .int .u8 0, .int .u8 0, .int .u8 0, .int .u8 0, .int .u8 0, .int .u8 0, .int .u8 0, .int .u8 0, .int .u8 0, .int .u8 0, .int .u8 0, .int .u8 0, .int .u8 0, .int .u8 0, .int .u8 0, .int .u8 0, .int .u8 0, .int .u8 0, .int .u8 0, .int .u8 0, .int .u8 0, .int .u8 0, .int .u8 0, .int .u8 0, .int .u8 0, .int .u8 0, .int .u8 0, .int .u8 0, .int .u8 0, .int .u8 0, .int .u8 0, .int .u8 0, .int .u8 0, .int .u8 0, .int .u8 0, .int .u8 0, .int .u8 0, .int .u8 0, .int .u8 0, .int .u8 0, .int .u8 0, .int .u8 0, .int .u8 0], none⟩),
   (167, ⟨1, 8, .func, [], [.nilfn], none⟩),
   (168, ⟨4, 40, .struct, [(0, 1), (1, 1), (2, 1), (3, 1)], [.nilp, .nilp, .nilp, .str ⟨#[]⟩], none⟩),
   (169, ⟨4, 40, .struct, [(0, 1), (1, 1), (2, 1), (3, 1)], [.nilp, .nilp, .nilp, .str ⟨#[]⟩], none⟩),
   (173, ⟨1, 8, .func, [], [.nilfn], none⟩),
   (174, ⟨1, 1, .int .u8, [], [.int .u8 0], none⟩),
   (175, ⟨1, 1, .int .u8, [], [.int .u8 0], none⟩),
   (176, ⟨1, 8, .func, [], [.nilfn], none⟩),
   (177, ⟨1, 8, .ptr 5, [], [.nilp], none⟩),
   (178, ⟨1, 4, .int .i32, [], [.int .i32 0], none⟩),
   (179, ⟨1, 4, .int .i32, [], [.int .i32 0], none⟩),
   (180, ⟨11, 48, .struct, [(0, 1), (1, 1), (2, 1), (3, 1), (4, 1), (5, 1), (6, 1), (7, 1), (8, 1), (9, 1), (10, 1)], [.int .u64 0, .int .u64 0, .int .u32 0, .int .u8 0, .int .u8 0, .int .u8 0, .int .u8 0, .nilfn, .nilp, .int .i32 0, .int .i32 0], none⟩),
   (181, ⟨11, 48, .struct, [(0, 1), (1, 1), (2, 1), (3, 1), (4, 1), (5, 1), (6, 1), (7, 1), (8, 1), (9, 1), (10, 1)], [.int .u64 0, .int .u64 0, .int .u32 0, .int .u8 0, .int .u8 0, .int .u8 0, .int .u8 0, .nilfn, .nilp, .int .i32 0, .int .i32 0], none⟩)]
def ty : TyT := fun t => (tyL.find? fun p => p.1 == t).map (·.2)
set_option maxRecDepth 100000
theorem tyL_ok : (tyL.all fun p => tyChk Tryz.prog p.1 p.2) = true := by kernel_rfl
theorem tyOk : TyOk Tryz.prog ty := by
  intro t ti h
  obtain ⟨p, hp, rfl⟩ := Option.map_eq_some_iff.1 h
  have h1 := List.find?_some hp
  have h2 := List.mem_of_find?_eq_some hp
  have h3 := List.all_eq_true.1 tyL_ok p h2
  simp only [beq_iff_eq] at h1
  rw [← h1]
  exact tyF_of h3
theorem tySz : ∀ t ti, ty t = some ti → ti.size ≠ 0 := by
  intro t ti h
  obtain ⟨p, hp, rfl⟩ := Option.map_eq_some_iff.1 h
  have h2 := List.mem_of_find?_eq_some hp
  have h3 : (tyL.all fun p => p.2.size != 0) = true := by kernel_rfl
  simpa using List.all_eq_true.1 h3 p h2
@[go_sem] theorem ty1 : ty 1 = some ⟨1, 8, .func, [], [.nilfn], none⟩ := rfl
@[go_sem] theorem ty2 : ty 2 = some ⟨1, 8, .int .i64, [], [.int .i64 0], none⟩ := rfl
@[go_sem] theorem ty3 : ty 3 = some ⟨1, 8, .int .i64, [], [.int .i64 0], none⟩ := rfl
@[go_sem] theorem ty4 : ty 4 = some ⟨1, 1, .bool, [], [.bool false], none⟩ := rfl
@[go_sem] theorem ty5 : ty 5 = some ⟨1, 1, .int .u8, [], [.int .u8 0], none⟩ := rfl
@[go_sem] theorem ty6 : ty 6 = some ⟨1, 1, .int .u8, [], [.int .u8 0], none⟩ := rfl
@[go_sem] theorem ty7 : ty 7 = some ⟨4, 24, .struct, [(0, 1), (1, 1), (2, 1), (3, 1)], [.int .i64 0, .int .i64 0, .bool false, .int .u8 0], none⟩ := rfl
@[go_sem] theorem ty8 : ty 8 = some ⟨4, 24, .struct, [(0, 1), (1, 1), (2, 1), (3, 1)], [.int .i64 0, .int .i64 0, .bool false, .int .u8 0], none⟩ := rfl
@[go_sem] theorem ty9 : ty 9 = some ⟨1, 16, .str, [], [.str ⟨#[]⟩], some (.one (.str))⟩ := rfl
@[go_sem] theorem ty10 : ty 10 = some ⟨1, 16, .str, [], [.str ⟨#[]⟩], none⟩ := rfl
@[go_sem] theorem ty11 : ty 11 = some ⟨1, 16, .str, [], [.str ⟨#[]⟩], none⟩ := rfl
@[go_sem] theorem ty12 : ty 12 = some ⟨1, 8, .int .u64, [], [.int .u64 0], none⟩ := rfl
@[go_sem] theorem ty13 : ty 13 = some ⟨2, 24, .struct, [(0, 1), (1, 1)], [.str ⟨#[]⟩, .int .u64 0], none⟩ := rfl
@[go_sem] theorem ty14 : ty 14 = some ⟨2, 24, .struct, [(0, 1), (1, 1)], [.str ⟨#[]⟩, .int .u64 0], none⟩ := rfl
@[go_sem] theorem ty15 : ty 15 = some ⟨1, 8, .ptr 169, [], [.nilp], none⟩ := rfl
@[go_sem] theorem ty16 : ty 16 = some ⟨1, 8, .ptr 172, [], [.nilp], none⟩ := rfl
@[go_sem] theorem ty17 : ty 17 = some ⟨1, 8, .ptr 181, [], [.nilp], none⟩ := rfl
@[go_sem] theorem ty18 : ty 18 = some ⟨1, 8, .struct, [(0, 1)], [.nilp], none⟩ := rfl
@[go_sem] theorem ty19 : ty 19 = some ⟨1, 8, .struct, [(0, 1)], [.nilp], none⟩ := rfl
@[go_sem] theorem ty20 : ty 20 = some ⟨1, 16, .iface, [], [.nilif], none⟩ := rfl
@[go_sem] theorem ty21 : ty 21 = some ⟨1, 4, .int .i32, [], [.int .i32 0], none⟩ := rfl
@[go_sem] theorem ty22 : ty 22 = some ⟨1, 24, .slice 24, [], [.nils], none⟩ := rfl
@[go_sem] theorem ty23 : ty 23 = some ⟨4, 56, .struct, [(0, 1), (1, 1), (2, 1), (3, 1)], [.int .i64 0, .int .i64 0, .str ⟨#[]⟩, .nils], none⟩ := rfl
@[go_sem] theorem ty24 : ty 24 = some ⟨4, 56, .struct, [(0, 1), (1, 1), (2, 1), (3, 1)], [.int .i64 0, .int .i64 0, .str ⟨#[]⟩, .nils], none⟩ := rfl
@[go_sem] theorem ty25 : ty 25 = some ⟨1, 8, .func, [], [.nilfn], none⟩ := rfl
@[go_sem] theorem ty26 : ty 26 = some ⟨1, 24, .slice 41, [], [.nils], none⟩ := rfl
@[go_sem] theorem ty27 : ty 27 = some ⟨1, 8, .int .i64, [], [.int .i64 0], none⟩ := rfl
@[go_sem] theorem ty29 : ty 29 = some ⟨1, 8, .func, [], [.nilfn], none⟩ := rfl
@[go_sem] theorem ty30 : ty 30 = some ⟨1, 8, .func, [], [.nilfn], none⟩ := rfl
@[go_sem] theorem ty31 : ty 31 = some ⟨1, 24, .slice 9, [], [.nils], none⟩ := rfl
@[go_sem] theorem ty33 : ty 33 = some ⟨1, 8, .func, [], [.nilfn], none⟩ := rfl
@[go_sem] theorem ty35 : ty 35 = some ⟨1, 8, .func, [], [.nilfn], none⟩ := rfl
@[go_sem] theorem ty37 : ty 37 = some ⟨1, 8, .func, [], [.nilfn], none⟩ := rfl
@[go_sem] theorem ty38 : ty 38 = some ⟨1, 8, .func, [], [.nilfn], none⟩ := rfl
@[go_sem] theorem ty39 : ty 39 = some ⟨1, 8, .func, [], [.nilfn], none⟩ := rfl
@[go_sem] theorem ty40 : ty 40 = some ⟨9, 136, .struct, [(0, 4), (4, 1), (5, 4)], [.int .i64 0, .int .i64 0, .str ⟨#[]⟩, .nils, .nils, .int .i64 0, .int .i64 0, .str ⟨#[]⟩, .nils], none⟩ := rfl
@[go_sem] theorem ty41 : ty 41 = some ⟨9, 136, .struct, [(0, 4), (4, 1), (5, 4)], [.int .i64 0, .int .i64 0, .str ⟨#[]⟩, .nils, .nils, .int .i64 0, .int .i64 0, .str ⟨#[]⟩, .nils], none⟩ := rfl
@[go_sem] theorem ty42 : ty 42 = some ⟨1, 8, .func, [], [.nilfn], none⟩ := rfl
@[go_sem] theorem ty43 : ty 43 = some ⟨1, 8, .func, [], [.nilfn], none⟩ := rfl
@[go_sem] theorem ty44 : ty 44 = some ⟨1, 8, .func, [], [.nilfn], none⟩ := rfl
@[go_sem] theorem ty45 : ty 45 = some ⟨1, 8, .func, [], [.nilfn], none⟩ := rfl
@[go_sem] theorem ty46 : ty 46 = some ⟨1, 8, .func, [], [.nilfn], none⟩ := rfl
@[go_sem] theorem ty48 : ty 48 = some ⟨1, 8, .func, [], [.nilfn], none⟩ := rfl
@[go_sem] theorem ty50 : ty 50 = some ⟨1, 8, .func, [], [.nilfn], none⟩ := rfl
@[go_sem] theorem ty51 : ty 51 = some ⟨1, 8, .func, [], [.nilfn], none⟩ := rfl
@[go_sem] theorem ty52 : ty 52 = some ⟨1, 8, .func, [], [.nilfn], none⟩ := rfl
@[go_sem] theorem ty53 : ty 53 = some ⟨1, 2, .int .u16, [], [.int .u16 0], none⟩ := rfl
@[go_sem] theorem ty54 : ty 54 = some ⟨1, 8, .func, [], [.nilfn], none⟩ := rfl
@[go_sem] theorem ty55 : ty 55 = some ⟨1, 8, .func, [], [.nilfn], none⟩ := rfl
@[go_sem] theorem ty56 : ty 56 = some ⟨1, 8, .func, [], [.nilfn], none⟩ := rfl
@[go_sem] theorem ty57 : ty 57 = some ⟨1, 8, .func, [], [.nilfn], none⟩ := rfl
@[go_sem] theorem ty58 : ty 58 = some ⟨1, 8, .func, [], [.nilfn], none⟩ := rfl
@[go_sem] theorem ty59 : ty 59 = some ⟨1, 8, .func, [], [.nilfn], none⟩ := rfl
@[go_sem] theorem ty60 : ty 60 = some ⟨1, 8, .func, [], [.nilfn], none⟩ := rfl
@[go_sem] theorem ty61 : ty 61 = some ⟨1, 8, .func, [], [.nilfn], none⟩ := rfl
@[go_sem] theorem ty62 : ty 62 = some ⟨1, 8, .func, [], [.nilfn], none⟩ := rfl
@[go_sem] theorem ty63 : ty 63 = some ⟨1, 8, .func, [], [.nilfn], none⟩ := rfl
@[go_sem] theorem ty64 : ty 64 = some ⟨1, 8, .func, [], [.nilfn], none⟩ := rfl
@[go_sem] theorem ty66 : ty 66 = some ⟨1, 8, .func, [], [.nilfn], none⟩ := rfl
@[go_sem] theorem ty67 : ty 67 = some ⟨1, 8, .func, [], [.nilfn], none⟩ := rfl
@[go_sem] theorem ty68 : ty 68 = some ⟨1, 8, .func, [], [.nilfn], none⟩ := rfl
@[go_sem] theorem ty69 : ty 69 = some ⟨1, 8, .func, [], [.nilfn], none⟩ := rfl
@[go_sem] theorem ty70 : ty 70 = some ⟨1, 8, .map 9 4, [], [.nilmap], none⟩ := rfl
@[go_sem] theorem ty71 : ty 71 = some ⟨1, 8, .func, [], [.nilfn], none⟩ := rfl
@[go_sem] theorem ty73 : ty 73 = some ⟨1, 8, .func, [], [.nilfn], none⟩ := rfl
@[go_sem] theorem ty74 : ty 74 = some ⟨1, 8, .func, [], [.nilfn], none⟩ := rfl
@[go_sem] theorem ty75 : ty 75 = some ⟨1, 8, .ptr 108, [], [.nilp], none⟩ := rfl
@[go_sem] theorem ty77 : ty 77 = some ⟨1, 8, .func, [], [.nilfn], none⟩ := rfl
@[go_sem] theorem ty78 : ty 78 = some ⟨1, 8, .func, [], [.nilfn], none⟩ := rfl
@[go_sem] theorem ty79 : ty 79 = some ⟨1, 8, .func, [], [.nilfn], none⟩ := rfl
@[go_sem] theorem ty80 : ty 80 = some ⟨1, 8, .func, [], [.nilfn], none⟩ := rfl
@[go_sem] theorem ty81 : ty 81 = some ⟨1, 8, .func, [], [.nilfn], none⟩ := rfl
@[go_sem] theorem ty82 : ty 82 = some ⟨1, 8, .func, [], [.nilfn], none⟩ := rfl
@[go_sem] theorem ty83 : ty 83 = some ⟨1, 8, .func, [], [.nilfn], none⟩ := rfl
@[go_sem] theorem ty84 : ty 84 = some ⟨1, 8, .func, [], [.nilfn], none⟩ := rfl
@[go_sem] theorem ty85 : ty 85 = some ⟨1, 8, .func, [], [.nilfn], none⟩ := rfl
@[go_sem] theorem ty86 : ty 86 = some ⟨1, 8, .func, [], [.nilfn], none⟩ := rfl
@[go_sem] theorem ty87 : ty 87 = some ⟨1, 8, .func, [], [.nilfn], none⟩ := rfl
@[go_sem] theorem ty88 : ty 88 = some ⟨1, 8, .func, [], [.nilfn], none⟩ := rfl
@[go_sem] theorem ty89 : ty 89 = some ⟨1, 8, .func, [], [.nilfn], none⟩ := rfl
@[go_sem] theorem ty90 : ty 90 = some ⟨1, 8, .func, [], [.nilfn], none⟩ := rfl
@[go_sem] theorem ty91 : ty 91 = some ⟨1, 8, .func, [], [.nilfn], none⟩ := rfl
@[go_sem] theorem ty92 : ty 92 = some ⟨8, 112, .array 2 24, [], [.int .i64 0, .int .i64 0, .str ⟨#[]⟩, .nils, .int .i64 0, .int .i64 0, .str ⟨#[]⟩, .nils], none⟩ := rfl
@[go_sem] theorem ty94 : ty 94 = some ⟨1, 8, .func, [], [.nilfn], none⟩ := rfl
@[go_sem] theorem ty95 : ty 95 = some ⟨1, 8, .ptr 97, [], [.nilp], none⟩ := rfl
@[go_sem] theorem ty96 : ty 96 = some ⟨1, 8, .struct, [(0, 1)], [.int .i64 0], none⟩ := rfl
@[go_sem] theorem ty97 : ty 97 = some ⟨1, 8, .struct, [(0, 1)], [.int .i64 0], none⟩ := rfl
@[go_sem] theorem ty98 : ty 98 = some ⟨1, 8, .func, [], [.nilfn], none⟩ := rfl
@[go_sem] theorem ty99 : ty 99 = some ⟨1, 8, .map 114 4, [], [.nilmap], none⟩ := rfl
@[go_sem] theorem ty100 : ty 100 = some ⟨1, 8, .func, [], [.nilfn], none⟩ := rfl
@[go_sem] theorem ty101 : ty 101 = some ⟨1, 8, .func, [], [.nilfn], none⟩ := rfl
@[go_sem] theorem ty102 : ty 102 = some ⟨1, 8, .func, [], [.nilfn], none⟩ := rfl
@[go_sem] theorem ty103 : ty 103 = some ⟨1, 8, .func, [], [.nilfn], none⟩ := rfl
@[go_sem] theorem ty105 : ty 105 = some ⟨1, 8, .func, [], [.nilfn], none⟩ := rfl
@[go_sem] theorem ty106 : ty 106 = some ⟨1, 8, .map 114 3, [], [.nilmap], none⟩ := rfl
@[go_sem] theorem ty107 : ty 107 = some ⟨1, 8, .struct, [(0, 1)], [.nilmap], none⟩ := rfl
@[go_sem] theorem ty108 : ty 108 = some ⟨1, 8, .struct, [(0, 1)], [.nilmap], none⟩ := rfl
@[go_sem] theorem ty109 : ty 109 = some ⟨1, 8, .func, [], [.nilfn], none⟩ := rfl
@[go_sem] theorem ty110 : ty 110 = some ⟨1, 8, .func, [], [.nilfn], none⟩ := rfl
@[go_sem] theorem ty112 : ty 112 = some ⟨1, 8, .func, [], [.nilfn], none⟩ := rfl
@[go_sem] theorem ty113 : ty 113 = some ⟨2, 24, .struct, [(0, 1), (1, 1)], [.int .i64 0, .str ⟨#[]⟩], none⟩ := rfl
@[go_sem] theorem ty114 : ty 114 = some ⟨2, 24, .struct, [(0, 1), (1, 1)], [.int .i64 0, .str ⟨#[]⟩], some (.many [.int .i64, .str])⟩ := rfl
@[go_sem] theorem ty115 : ty 115 = some ⟨1, 8, .func, [], [.nilfn], none⟩ := rfl
@[go_sem] theorem ty116 : ty 116 = some ⟨1, 8, .ptr 118, [], [.nilp], none⟩ := rfl
@[go_sem] theorem ty117 : ty 117 = some ⟨3, 24, .struct, [(0, 1), (1, 1), (2, 1)], [.nilfn, .nilfn, .bool false], none⟩ := rfl
@[go_sem] theorem ty118 : ty 118 = some ⟨3, 24, .struct, [(0, 1), (1, 1), (2, 1)], [.nilfn, .nilfn, .bool false], none⟩ := rfl
@[go_sem] theorem ty119 : ty 119 = some ⟨1, 8, .func, [], [.nilfn], none⟩ := rfl
@[go_sem] theorem ty120 : ty 120 = some ⟨1, 8, .map 114 24, [], [.nilmap], none⟩ := rfl
@[go_sem] theorem ty121 : ty 121 = some ⟨1, 8, .func, [], [.nilfn], none⟩ := rfl
@[go_sem] theorem ty122 : ty 122 = some ⟨1, 8, .func, [], [.nilfn], none⟩ := rfl
@[go_sem] theorem ty123 : ty 123 = some ⟨1, 8, .func, [], [.nilfn], none⟩ := rfl
@[go_sem] theorem ty124 : ty 124 = some ⟨1, 8, .func, [], [.nilfn], none⟩ := rfl
@[go_sem] theorem ty125 : ty 125 = some ⟨1, 8, .func, [], [.nilfn], none⟩ := rfl
@[go_sem] theorem ty126 : ty 126 = some ⟨1, 24, .slice 127, [], [.nils], none⟩ := rfl
@[go_sem] theorem ty127 : ty 127 = some ⟨2, 24, .struct, [(0, 1), (1, 1)], [.str ⟨#[]⟩, .int .i64 0], none⟩ := rfl
@[go_sem] theorem ty128 : ty 128 = some ⟨1, 24, .slice 130, [], [.nils], none⟩ := rfl
@[go_sem] theorem ty129 : ty 129 = some ⟨5, 64, .struct, [(0, 1), (1, 1), (2, 1), (3, 1), (4, 1)], [.int .i64 0, .int .i64 0, .str ⟨#[]⟩, .nils, .int .i64 0], none⟩ := rfl
@[go_sem] theorem ty130 : ty 130 = some ⟨5, 64, .struct, [(0, 1), (1, 1), (2, 1), (3, 1), (4, 1)], [.int .i64 0, .int .i64 0, .str ⟨#[]⟩, .nils, .int .i64 0], none⟩ := rfl
@[go_sem] theorem ty132 : ty 132 = some ⟨1, 8, .func, [], [.nilfn], none⟩ := rfl
@[go_sem] theorem ty133 : ty 133 = some ⟨1, 8, .func, [], [.nilfn], none⟩ := rfl
@[go_sem] theorem ty134 : ty 134 = some ⟨1, 8, .func, [], [.nilfn], none⟩ := rfl
@[go_sem] theorem ty135 : ty 135 = some ⟨1, 8, .func, [], [.nilfn], none⟩ := rfl
@[go_sem] theorem ty136 : ty 136 = some ⟨1, 24, .slice 3, [], [.nils], none⟩ := rfl
@[go_sem] theorem ty137 : ty 137 = some ⟨1, 8, .func, [], [.nilfn], none⟩ := rfl
@[go_sem] theorem ty138 : ty 138 = some ⟨1, 8, .func, [], [.nilfn], none⟩ := rfl
@[go_sem] theorem ty139 : ty 139 = some ⟨24, 24, .array 24 5, [], [.int .u8 0, .int .u8 0, .int .u8 0, .int .u8 0, .int .u8 0, .int .u8 0, .int .u8 0, .int .u8 0, .int .u8 0, .int .u8 0, .int .u8 0, .int .u8 0, .int .u8 0, .int .u8 0, .int .u8 0, .int .u8 0, .int .u8 0, .int .u8 0, .int .u8 0, .int .u8 0, .int .u8 0, .int .u8 0, .int .u8 0, .int .u8 0], none⟩ := rfl
@[go_sem] theorem ty140 : ty 140 = some ⟨1, 8, .int .u64, [], [.int .u64 0], none⟩ := rfl
@[go_sem] theorem ty141 : ty 141 = some ⟨1, 8, .func, [], [.nilfn], none⟩ := rfl
@[go_sem] theorem ty142 : ty 142 = some ⟨1, 8, .func, [], [.nilfn], none⟩ := rfl
@[go_sem] theorem ty143 : ty 143 = some ⟨1, 24, .slice 5, [], [.nils], none⟩ := rfl
@[go_sem] theorem ty145 : ty 145 = some ⟨1, 8, .func, [], [.nilfn], none⟩ := rfl
@[go_sem] theorem ty146 : ty 146 = some ⟨1, 8, .ptr 148, [], [.nilp], none⟩ := rfl
@[go_sem] theorem ty147 : ty 147 = some ⟨4, 40, .struct, [(0, 1), (1, 1), (2, 1), (3, 1)], [.str ⟨#[]⟩, .int .i64 0, .int .i64 0, .int .i64 0], none⟩ := rfl
@[go_sem] theorem ty148 : ty 148 = some ⟨4, 40, .struct, [(0, 1), (1, 1), (2, 1), (3, 1)], [.str ⟨#[]⟩, .int .i64 0, .int .i64 0, .int .i64 0], none⟩ := rfl
@[go_sem] theorem ty149 : ty 149 = some ⟨1, 8, .func, [], [.nilfn], none⟩ := rfl
@[go_sem] theorem ty150 : ty 150 = some ⟨1, 8, .func, [], [.nilfn], none⟩ := rfl
@[go_sem] theorem ty151 : ty 151 = some ⟨1, 8, .func, [], [.nilfn], none⟩ := rfl
@[go_sem] theorem ty152 : ty 152 = some ⟨1, 8, .func, [], [.nilfn], none⟩ := rfl
@[go_sem] theorem ty153 : ty 153 = some ⟨1, 8, .func, [], [.nilfn], none⟩ := rfl
@[go_sem] theorem ty154 : ty 154 = some ⟨20, 160, .array 20 140, [], [.int .u64 0, .int .u64 0, .int .u64 0, .int .u64 0, .int .u64 0, .int .u64 0, .int .u64 0, .int .u64 0, .int .u64 0, .int .u64 0, .int .u64 0, .int .u64 0, .int .u64 0, .int .u64 0, .int .u64 0, .int .u64 0, .int .u64 0, .int .u64 0, .int .u64 0, .int .u64 0], none⟩ := rfl
@[go_sem] theorem ty155 : ty 155 = some ⟨1, 4, .int .u32, [], [.int .u32 0], none⟩ := rfl
@[go_sem] theorem ty156 : ty 156 = some ⟨65, 65, .array 65 5, [], [.int .u8 0, .int .u8 0, .int .u8 0, .int .u8 0, .int .u8 0, .int .u8 0, .int .u8 0, .int .u8 0, .int .u8 0, .int .u8 0, .int .u8 0, .int .u8 0, .int .u8 0, .int .u8 0, .int .u8 0, .int .u8 0, .int .u8 0, .int .u8 0, .int .u8 0, .int .u8 0, .int .u8 0, .int .u8 0, .int .u8 0, .int .u8 0, .int .u8 0, .int .u8 0, .int .u8 0, .int .u8 0, .int .u8 0, .int .u8 0, .int .u8 0, .int .u8 0, .int .u8 0, .int .u8 0, .int .u8 0, .int .u8 0, .int .u8 0, .int .u8 0, .int .u8 0, .int .u8 0, .int .u8 0, .int .u8 0, .int .u8 0, .int .u8 0, .int .u8 0, .int .u8 0, .int .u8 0, .int .u8 0, .int .u8 0, .int .u8 0, .int .u8 0, .int .u8 0, .int .u8 0, .int .u8 0, .int .u8 0, .int .u8 0, .int .u8 0, .int .u8 0, .int .u8 0, .int .u8 0, .int .u8 0, .int .u8 0, .int .u8 0, .int .u8 0, .int .u8 0], none⟩ := rfl
@[go_sem] theorem ty157 : ty 157 = some ⟨1, 8, .func, [], [.nilfn], none⟩ := rfl
@[go_sem] theorem ty158 : ty 158 = some ⟨1, 8, .int .u64, [], [.int .u64 0], none⟩ := rfl
@[go_sem] theorem ty159 : ty 159 = some ⟨1, 8, .func, [], [.nilfn], none⟩ := rfl
@[go_sem] theorem ty160 : ty 160 = some ⟨1, 8, .func, [], [.nilfn], none⟩ := rfl
@[go_sem] theorem ty161 : ty 161 = some ⟨1, 8, .func, [], [.nilfn], none⟩ := rfl
@[go_sem] theorem ty162 : ty 162 = some ⟨1, 8, .func, [], [.nilfn], none⟩ := rfl
@[go_sem] theorem ty164 : ty 164 = some ⟨1, 8, .func, [], [.nilfn], none⟩ := rfl
@[go_sem] theorem ty165 : ty 165 = some ⟨32, 32, .array 32 5, [], [.int .u8 0, .int .u8 0, .int .u8 0, .int .u8 0, .int .u8 0, .int .u8 0, .int .u8 0, .int .u8 0, .int .u8 0, .int .u8 0, .int .u8 0, .int .u8 0, .int .u8 0, .int .u8 0, .int .u8 0, .int .u8 0, .int .u8 0, .int .u8 0, .int .u8 0, .int .u8 0, .int .u8 0, .int .u8 0, .int .u8 0, .int .u8 0, .int .u8 0, .int .u8 0, .int .u8 0, .int .u8 0, .int .u8 0, .int .u8 0, .int .u8 0, .int .u8 0], none⟩ := rfl
@[go_sem] theorem ty166 : ty 166 = some ⟨64, 64, .array 64 5, [], [.int .u8 0, .int .u8 0, .int .u8 0, .int .u8 0, .int .u8 0, .int .u8 0, .int .u8 0, .int .u8 0, .int .u8 0, .int .u8 0, .int .u8 0, .int .u8 0, .int .u8 0, .int .u8 0, .int .u8 0, .int .u8 0, .int .u8 0, .int .u8 0, .int .u8 0, .int .u8 0, .int .u8 0, .int .u8 0, .int .u8 0, .int .u8 0, .int .u8 0, .int .u8 0, .int .u8 0, .int .u8 0, .int .u8 0, .int .u8 0, .int .u8 0, .int .u8 0, .int .u8 0, .int .u8 0, .int .u8 0, .int .u8 0, .int .u8 0, .int .u8 0, .int .u8 0, .int .u8 0, .int .u8 0, .int .u8 0, .int .u8 0, .int .u8 0, .int .u8 0, .int .u8 0, .int .u8 0, .int .u8 0, .int .u8 0, .int .u8 0, .int .u8 0, .int .u8 0, .int .u8 0, .int .u8 0, .int .u8 0, .int .u8 0, .int .u8 0, .int .u8 0, .int .u8 0, .int .u8 0, .int .u8 0, .int .u8 0, .int .u8 0, .int .u8 0], none⟩ := rfl
@[go_sem] theorem ty167 : ty 167 = some ⟨1, 8, .func, [], [.nilfn], none⟩ := rfl
@[go_sem] theorem ty168 : ty 168 = some ⟨4, 40, .struct, [(0, 1), (1, 1), (2, 1), (3, 1)], [.nilp, .nilp, .nilp, .str ⟨#[]⟩], none⟩ := rfl
@[go_sem] theorem ty169 : ty 169 = some ⟨4, 40, .struct, [(0, 1), (1, 1), (2, 1), (3, 1)], [.nilp, .nilp, .nilp, .str ⟨#[]⟩], none⟩ := rfl
@[go_sem] theorem ty173 : ty 173 = some ⟨1, 8, .func, [], [.nilfn], none⟩ := rfl
@[go_sem] theorem ty174 : ty 174 = some ⟨1, 1, .int .u8, [], [.int .u8 0], none⟩ := rfl
@[go_sem] theorem ty175 : ty 175 = some ⟨1, 1, .int .u8, [], [.int .u8 0], none⟩ := rfl
@[go_sem] theorem ty176 : ty 176 = some ⟨1, 8, .func, [], [.nilfn], none⟩ := rfl
@[go_sem] theorem ty177 : ty 177 = some ⟨1, 8, .ptr 5, [], [.nilp], none⟩ := rfl
@[go_sem] theorem ty178 : ty 178 = some ⟨1, 4, .int .i32, [], [.int .i32 0], none⟩ := rfl
@[go_sem] theorem ty179 : ty 179 = some ⟨1, 4, .int .i32, [], [.int .i32 0], none⟩ := rfl
@[go_sem] theorem ty180 : ty 180 = some ⟨11, 48, .struct, [(0, 1), (1, 1), (2, 1), (3, 1), (4, 1), (5, 1), (6, 1), (7, 1), (8, 1), (9, 1), (10, 1)], [.int .u64 0, .int .u64 0, .int .u32 0, .int .u8 0, .int .u8 0, .int .u8 0, .int .u8 0, .nilfn, .nilp, .int .i32 0, .int .i32 0], none⟩ := rfl
@[go_sem] theorem ty181 : ty 181 = some ⟨11, 48, .struct, [(0, 1), (1, 1), (2, 1), (3, 1), (4, 1), (5, 1), (6, 1), (7, 1), (8, 1), (9, 1), (10, 1)], [.int .u64 0, .int .u64 0, .int .u32 0, .int .u8 0, .int .u8 0, .int .u8 0, .int .u8 0, .nilfn, .nilp, .int .i32 0, .int .i32 0], none⟩ := rfl
end Go.Proofs.YtienmmfjjffjaaaGreatDoor

/- The functions that can be called. -/
namespace Go.Proofs.YtienmmfjjffjaaaGreatDoor
open Go Go.Aw
section
variable {sh : List Tmp} {σ0 : Store} {N : Nat} {s s' : St} {ops : Array Oper} {os : List Oper} {K : St → Prop}
theorem aR {id : Nat} {Q : Exit → St → Prop} (h : runOps ty [] N ops.toList s = some s') (k : Q .normal s') : AWp Tryz.prog σ0 N (.region id ops false) Q s := awp_region_run tyOk h k
theorem aL (n : Nat) (h : runOps ty [] N (os.take n) s = some s') (k : AOpsL Tryz.prog σ0 N ops (os.drop n) K s') : AOpsL Tryz.prog σ0 N ops os K s := al_run n tyOk h k
theorem aLG (n : Nat) (d : Tmp) (w : Bool) (h : runG ty [] (os.take n) s = some s') (k : AOpsL Tryz.prog σ0 N ops (os.drop n) K s') (hb : get s.T d = .pv (.bool w) := by simp [go_sem])
    (hg : gatedBy ops d w (os.take n) = true := by simp [go_sem]) (hd : dstsOk N (os.take n) = true := by rfl) (hne : (os.take n).all (fun o => o.dst != some d) = true := by rfl) : AOpsL Tryz.prog σ0 N ops os K s := al_runG n d w w tyOk hb rfl hg hd hne h k
theorem aK (n : Nat) (d : Tmp) (w : Bool) (k : AOpsL Tryz.prog σ0 N ops (os.drop n) K (junkAll (os.take n) s)) (hb : off (get s.T d) w = true := by simp [go_sem])
    (hg : gatedBy ops d w (os.take n) = true := by simp [go_sem]) (hd : dstsOk N (os.take n) = true := by rfl) (hne : (os.take n).all (fun o => o.dst != some d) = true := by rfl) : AOpsL Tryz.prog σ0 N ops os K s := al_skip n d w hb hg hd hne k
theorem aF {dst : Option Tmp} {ars : Array Operand} {ats : Array TypeId} {t : TypeId} {pos : String} {af : Array Edge} {f : FuncId} {xs args : List AV} {r : AV} (hca : Callable Tryz.prog f) (h : PurAt Tryz.prog s.σ f args r) (hargs : ars.toList.map (ev s) ++ [] = xs) (hw : WAs xs args)
    (k : AOpsL Tryz.prog σ0 N ops os K (s.put dst r)) (hnl : AV.noLs xs = true := by rfl) (hd : dstOk N dst = true := by rfl) : AOpsL Tryz.prog σ0 N ops (⟨dst, .call ⟨.value (.func f), ars, ats⟩, t, pos, af, none⟩ :: os) K s := al_fn rfl rfl rfl rfl hca h hargs hw hnl hd k
end
theorem bA (b : Bool) : (true || b) = true := rfl
theorem bB (b : Bool) : (b || true) = true := Bool.or_true b
theorem bC (b : Bool) : (false || b) = b := rfl
theorem bD (b : Bool) : (b || false) = b := Bool.or_false b
theorem bE (b : Bool) : (true && b) = b := rfl
theorem bF (b : Bool) : (b && true) = b := Bool.and_true b
theorem bG (b : Bool) : (false && b) = false := rfl
theorem bH (b : Bool) : (b && false) = false := Bool.and_false b
theorem bI : (!true) = false := rfl
theorem bJ : (!false) = true := rfl
theorem call2 : Callable Tryz.prog 2 := ⟨_, Tryz.func2, rfl, by decide⟩
theorem call3 : Callable Tryz.prog 3 := ⟨_, Tryz.func3, rfl, by decide⟩
theorem call4 : Callable Tryz.prog 4 := ⟨_, Tryz.func4, rfl, by decide⟩
theorem call5 : Callable Tryz.prog 5 := ⟨_, Tryz.func5, rfl, by decide⟩
theorem call6 : Callable Tryz.prog 6 := ⟨_, Tryz.func6, rfl, by decide⟩
theorem call7 : Callable Tryz.prog 7 := ⟨_, Tryz.func7, rfl, by decide⟩
theorem call8 : Callable Tryz.prog 8 := ⟨_, Tryz.func8, rfl, by decide⟩
theorem call9 : Callable Tryz.prog 9 := ⟨_, Tryz.func9, rfl, by decide⟩
theorem call10 : Callable Tryz.prog 10 := ⟨_, Tryz.func10, rfl, by decide⟩
theorem call11 : Callable Tryz.prog 11 := ⟨_, Tryz.func11, rfl, by decide⟩
theorem call12 : Callable Tryz.prog 12 := ⟨_, Tryz.func12, rfl, by decide⟩
theorem call13 : Callable Tryz.prog 13 := ⟨_, Tryz.func13, rfl, by decide⟩
theorem call14 : Callable Tryz.prog 14 := ⟨_, Tryz.func14, rfl, by decide⟩
theorem call15 : Callable Tryz.prog 15 := ⟨_, Tryz.func15, rfl, by decide⟩
theorem call16 : Callable Tryz.prog 16 := ⟨_, Tryz.func16, rfl, by decide⟩
theorem call17 : Callable Tryz.prog 17 := ⟨_, Tryz.func17, rfl, by decide⟩
theorem call18 : Callable Tryz.prog 18 := ⟨_, Tryz.func18, rfl, by decide⟩
theorem call19 : Callable Tryz.prog 19 := ⟨_, Tryz.func19, rfl, by decide⟩
theorem call20 : Callable Tryz.prog 20 := ⟨_, Tryz.func20, rfl, by decide⟩
theorem call21 : Callable Tryz.prog 21 := ⟨_, Tryz.func21, rfl, by decide⟩
theorem call22 : Callable Tryz.prog 22 := ⟨_, Tryz.func22, rfl, by decide⟩
theorem call23 : Callable Tryz.prog 23 := ⟨_, Tryz.func23, rfl, by decide⟩
theorem call24 : Callable Tryz.prog 24 := ⟨_, Tryz.func24, rfl, by decide⟩
theorem call25 : Callable Tryz.prog 25 := ⟨_, Tryz.func25, rfl, by decide⟩
theorem call26 : Callable Tryz.prog 26 := ⟨_, Tryz.func26, rfl, by decide⟩
theorem call27 : Callable Tryz.prog 27 := ⟨_, Tryz.func27, rfl, by decide⟩
theorem call28 : Callable Tryz.prog 28 := ⟨_, Tryz.func28, rfl, by decide⟩
theorem call29 : Callable Tryz.prog 29 := ⟨_, Tryz.func29, rfl, by decide⟩
theorem call30 : Callable Tryz.prog 30 := ⟨_, Tryz.func30, rfl, by decide⟩
theorem call31 : Callable Tryz.prog 31 := ⟨_, Tryz.func31, rfl, by decide⟩
theorem call32 : Callable Tryz.prog 32 := ⟨_, Tryz.func32, rfl, by decide⟩
theorem call33 : Callable Tryz.prog 33 := ⟨_, Tryz.func33, rfl, by decide⟩
theorem call34 : Callable Tryz.prog 34 := ⟨_, Tryz.func34, rfl, by decide⟩
theorem call35 : Callable Tryz.prog 35 := ⟨_, Tryz.func35, rfl, by decide⟩
theorem call36 : Callable Tryz.prog 36 := ⟨_, Tryz.func36, rfl, by decide⟩
theorem call37 : Callable Tryz.prog 37 := ⟨_, Tryz.func37, rfl, by decide⟩
theorem call38 : Callable Tryz.prog 38 := ⟨_, Tryz.func38, rfl, by decide⟩
theorem call39 : Callable Tryz.prog 39 := ⟨_, Tryz.func39, rfl, by decide⟩
theorem call40 : Callable Tryz.prog 40 := ⟨_, Tryz.func40, rfl, by decide⟩
theorem call41 : Callable Tryz.prog 41 := ⟨_, Tryz.func41, rfl, by decide⟩
theorem call42 : Callable Tryz.prog 42 := ⟨_, Tryz.func42, rfl, by decide⟩
theorem call43 : Callable Tryz.prog 43 := ⟨_, Tryz.func43, rfl, by decide⟩
theorem call44 : Callable Tryz.prog 44 := ⟨_, Tryz.func44, rfl, by decide⟩
theorem call45 : Callable Tryz.prog 45 := ⟨_, Tryz.func45, rfl, by decide⟩
theorem call46 : Callable Tryz.prog 46 := ⟨_, Tryz.func46, rfl, by decide⟩
theorem call47 : Callable Tryz.prog 47 := ⟨_, Tryz.func47, rfl, by decide⟩
theorem call48 : Callable Tryz.prog 48 := ⟨_, Tryz.func48, rfl, by decide⟩
theorem call49 : Callable Tryz.prog 49 := ⟨_, Tryz.func49, rfl, by decide⟩
theorem call50 : Callable Tryz.prog 50 := ⟨_, Tryz.func50, rfl, by decide⟩
theorem call51 : Callable Tryz.prog 51 := ⟨_, Tryz.func51, rfl, by decide⟩
theorem call52 : Callable Tryz.prog 52 := ⟨_, Tryz.func52, rfl, by decide⟩
theorem call53 : Callable Tryz.prog 53 := ⟨_, Tryz.func53, rfl, by decide⟩
theorem call54 : Callable Tryz.prog 54 := ⟨_, Tryz.func54, rfl, by decide⟩
theorem call55 : Callable Tryz.prog 55 := ⟨_, Tryz.func55, rfl, by decide⟩
theorem call56 : Callable Tryz.prog 56 := ⟨_, Tryz.func56, rfl, by decide⟩
theorem call57 : Callable Tryz.prog 57 := ⟨_, Tryz.func57, rfl, by decide⟩
theorem call58 : Callable Tryz.prog 58 := ⟨_, Tryz.func58, rfl, by decide⟩
theorem call59 : Callable Tryz.prog 59 := ⟨_, Tryz.func59, rfl, by decide⟩
theorem call60 : Callable Tryz.prog 60 := ⟨_, Tryz.func60, rfl, by decide⟩
theorem call61 : Callable Tryz.prog 61 := ⟨_, Tryz.func61, rfl, by decide⟩
theorem call62 : Callable Tryz.prog 62 := ⟨_, Tryz.func62, rfl, by decide⟩
theorem call63 : Callable Tryz.prog 63 := ⟨_, Tryz.func63, rfl, by decide⟩
theorem call64 : Callable Tryz.prog 64 := ⟨_, Tryz.func64, rfl, by decide⟩
theorem call65 : Callable Tryz.prog 65 := ⟨_, Tryz.func65, rfl, by decide⟩
theorem call66 : Callable Tryz.prog 66 := ⟨_, Tryz.func66, rfl, by decide⟩
theorem call67 : Callable Tryz.prog 67 := ⟨_, Tryz.func67, rfl, by decide⟩
theorem call68 : Callable Tryz.prog 68 := ⟨_, Tryz.func68, rfl, by decide⟩
theorem call69 : Callable Tryz.prog 69 := ⟨_, Tryz.func69, rfl, by decide⟩
theorem call70 : Callable Tryz.prog 70 := ⟨_, Tryz.func70, rfl, by decide⟩
theorem call71 : Callable Tryz.prog 71 := ⟨_, Tryz.func71, rfl, by decide⟩
theorem call72 : Callable Tryz.prog 72 := ⟨_, Tryz.func72, rfl, by decide⟩
theorem call73 : Callable Tryz.prog 73 := ⟨_, Tryz.func73, rfl, by decide⟩
theorem call74 : Callable Tryz.prog 74 := ⟨_, Tryz.func74, rfl, by decide⟩
theorem call75 : Callable Tryz.prog 75 := ⟨_, Tryz.func75, rfl, by decide⟩
theorem call76 : Callable Tryz.prog 76 := ⟨_, Tryz.func76, rfl, by decide⟩
theorem call77 : Callable Tryz.prog 77 := ⟨_, Tryz.func77, rfl, by decide⟩
theorem call78 : Callable Tryz.prog 78 := ⟨_, Tryz.func78, rfl, by decide⟩
theorem call79 : Callable Tryz.prog 79 := ⟨_, Tryz.func79, rfl, by decide⟩
theorem call80 : Callable Tryz.prog 80 := ⟨_, Tryz.func80, rfl, by decide⟩
theorem call81 : Callable Tryz.prog 81 := ⟨_, Tryz.func81, rfl, by decide⟩
theorem call82 : Callable Tryz.prog 82 := ⟨_, Tryz.func82, rfl, by decide⟩
theorem call83 : Callable Tryz.prog 83 := ⟨_, Tryz.func83, rfl, by decide⟩
theorem call84 : Callable Tryz.prog 84 := ⟨_, Tryz.func84, rfl, by decide⟩
theorem call85 : Callable Tryz.prog 85 := ⟨_, Tryz.func85, rfl, by decide⟩
theorem call86 : Callable Tryz.prog 86 := ⟨_, Tryz.func86, rfl, by decide⟩
theorem call87 : Callable Tryz.prog 87 := ⟨_, Tryz.func87, rfl, by decide⟩
theorem call88 : Callable Tryz.prog 88 := ⟨_, Tryz.func88, rfl, by decide⟩
theorem call89 : Callable Tryz.prog 89 := ⟨_, Tryz.func89, rfl, by decide⟩
theorem call90 : Callable Tryz.prog 90 := ⟨_, Tryz.func90, rfl, by decide⟩
theorem call91 : Callable Tryz.prog 91 := ⟨_, Tryz.func91, rfl, by decide⟩
theorem call92 : Callable Tryz.prog 92 := ⟨_, Tryz.func92, rfl, by decide⟩
theorem call93 : Callable Tryz.prog 93 := ⟨_, Tryz.func93, rfl, by decide⟩
theorem call94 : Callable Tryz.prog 94 := ⟨_, Tryz.func94, rfl, by decide⟩
theorem call95 : Callable Tryz.prog 95 := ⟨_, Tryz.func95, rfl, by decide⟩
theorem call96 : Callable Tryz.prog 96 := ⟨_, Tryz.func96, rfl, by decide⟩
theorem call97 : Callable Tryz.prog 97 := ⟨_, Tryz.func97, rfl, by decide⟩
theorem call98 : Callable Tryz.prog 98 := ⟨_, Tryz.func98, rfl, by decide⟩
theorem call99 : Callable Tryz.prog 99 := ⟨_, Tryz.func99, rfl, by decide⟩
theorem call100 : Callable Tryz.prog 100 := ⟨_, Tryz.func100, rfl, by decide⟩
theorem call101 : Callable Tryz.prog 101 := ⟨_, Tryz.func101, rfl, by decide⟩
theorem call102 : Callable Tryz.prog 102 := ⟨_, Tryz.func102, rfl, by decide⟩
theorem call103 : Callable Tryz.prog 103 := ⟨_, Tryz.func103, rfl, by decide⟩
theorem call104 : Callable Tryz.prog 104 := ⟨_, Tryz.func104, rfl, by decide⟩
theorem call105 : Callable Tryz.prog 105 := ⟨_, Tryz.func105, rfl, by decide⟩
theorem call106 : Callable Tryz.prog 106 := ⟨_, Tryz.func106, rfl, by decide⟩
theorem call107 : Callable Tryz.prog 107 := ⟨_, Tryz.func107, rfl, by decide⟩
theorem call108 : Callable Tryz.prog 108 := ⟨_, Tryz.func108, rfl, by decide⟩
theorem call109 : Callable Tryz.prog 109 := ⟨_, Tryz.func109, rfl, by decide⟩
theorem call110 : Callable Tryz.prog 110 := ⟨_, Tryz.func110, rfl, by decide⟩
theorem call111 : Callable Tryz.prog 111 := ⟨_, Tryz.func111, rfl, by decide⟩
theorem call112 : Callable Tryz.prog 112 := ⟨_, Tryz.func112, rfl, by decide⟩
theorem call113 : Callable Tryz.prog 113 := ⟨_, Tryz.func113, rfl, by decide⟩
theorem call114 : Callable Tryz.prog 114 := ⟨_, Tryz.func114, rfl, by decide⟩
theorem call115 : Callable Tryz.prog 115 := ⟨_, Tryz.func115, rfl, by decide⟩
theorem call116 : Callable Tryz.prog 116 := ⟨_, Tryz.func116, rfl, by decide⟩
theorem call117 : Callable Tryz.prog 117 := ⟨_, Tryz.func117, rfl, by decide⟩
theorem call118 : Callable Tryz.prog 118 := ⟨_, Tryz.func118, rfl, by decide⟩
theorem call119 : Callable Tryz.prog 119 := ⟨_, Tryz.func119, rfl, by decide⟩
theorem call120 : Callable Tryz.prog 120 := ⟨_, Tryz.func120, rfl, by decide⟩
theorem call121 : Callable Tryz.prog 121 := ⟨_, Tryz.func121, rfl, by decide⟩
theorem call122 : Callable Tryz.prog 122 := ⟨_, Tryz.func122, rfl, by decide⟩
theorem call123 : Callable Tryz.prog 123 := ⟨_, Tryz.func123, rfl, by decide⟩
theorem call124 : Callable Tryz.prog 124 := ⟨_, Tryz.func124, rfl, by decide⟩
theorem call125 : Callable Tryz.prog 125 := ⟨_, Tryz.func125, rfl, by decide⟩
theorem call126 : Callable Tryz.prog 126 := ⟨_, Tryz.func126, rfl, by decide⟩
theorem call127 : Callable Tryz.prog 127 := ⟨_, Tryz.func127, rfl, by decide⟩
theorem call128 : Callable Tryz.prog 128 := ⟨_, Tryz.func128, rfl, by decide⟩
theorem call129 : Callable Tryz.prog 129 := ⟨_, Tryz.func129, rfl, by decide⟩
theorem call130 : Callable Tryz.prog 130 := ⟨_, Tryz.func130, rfl, by decide⟩
theorem call131 : Callable Tryz.prog 131 := ⟨_, Tryz.func131, rfl, by decide⟩
theorem call132 : Callable Tryz.prog 132 := ⟨_, Tryz.func132, rfl, by decide⟩
theorem call133 : Callable Tryz.prog 133 := ⟨_, Tryz.func133, rfl, by decide⟩
theorem call134 : Callable Tryz.prog 134 := ⟨_, Tryz.func134, rfl, by decide⟩
theorem call135 : Callable Tryz.prog 135 := ⟨_, Tryz.func135, rfl, by decide⟩
theorem call136 : Callable Tryz.prog 136 := ⟨_, Tryz.func136, rfl, by decide⟩
theorem call137 : Callable Tryz.prog 137 := ⟨_, Tryz.func137, rfl, by decide⟩
theorem call138 : Callable Tryz.prog 138 := ⟨_, Tryz.func138, rfl, by decide⟩
theorem call139 : Callable Tryz.prog 139 := ⟨_, Tryz.func139, rfl, by decide⟩
theorem call140 : Callable Tryz.prog 140 := ⟨_, Tryz.func140, rfl, by decide⟩
theorem call141 : Callable Tryz.prog 141 := ⟨_, Tryz.func141, rfl, by decide⟩
theorem call142 : Callable Tryz.prog 142 := ⟨_, Tryz.func142, rfl, by decide⟩
theorem call143 : Callable Tryz.prog 143 := ⟨_, Tryz.func143, rfl, by decide⟩
theorem call144 : Callable Tryz.prog 144 := ⟨_, Tryz.func144, rfl, by decide⟩
theorem call145 : Callable Tryz.prog 145 := ⟨_, Tryz.func145, rfl, by decide⟩
theorem call146 : Callable Tryz.prog 146 := ⟨_, Tryz.func146, rfl, by decide⟩
theorem call147 : Callable Tryz.prog 147 := ⟨_, Tryz.func147, rfl, by decide⟩
theorem call148 : Callable Tryz.prog 148 := ⟨_, Tryz.func148, rfl, by decide⟩
theorem call149 : Callable Tryz.prog 149 := ⟨_, Tryz.func149, rfl, by decide⟩
theorem call150 : Callable Tryz.prog 150 := ⟨_, Tryz.func150, rfl, by decide⟩
theorem call151 : Callable Tryz.prog 151 := ⟨_, Tryz.func151, rfl, by decide⟩
theorem call152 : Callable Tryz.prog 152 := ⟨_, Tryz.func152, rfl, by decide⟩
theorem call153 : Callable Tryz.prog 153 := ⟨_, Tryz.func153, rfl, by decide⟩
end Go.Proofs.YtienmmfjjffjaaaGreatDoor

/- Contracts of small functions. -/
namespace Go.Proofs.YtienmmfjjffjaaaGreatDoor
open Go Go.Aw
variable {kr : ResO}
def GL (kr : ResO) : List (Nat × PV) := flatG kr 0 1 ++ [(2, .tab .u64 Lib.pow10Tab)]
set_option maxHeartbeats 1000000 in
theorem c_flat_Num (n : Int) : Pur Tryz.prog (GL kr) 56 [.pv (.int .i64 n)] (.pv (enc (dnum n))) := by
 refine pur_of fun σ hgl => ?_
 refine acalls_of tyOk Tryz.func56 rfl (by simp [Tryz.f56]) ?_
 refine awp_seq (aR (by simp [go_sem] <;> rfl) ?_)
 refine awp_seq (aR (by simp [go_sem] <;> rfl) ?_)
 refine awp_ret ?_
 refine ends_ret (by simp [go_sem] <;> rfl) (by simp [go_sem]) ?_
 exact ⟨by simp [go_sem, enc_num], by simp [go_sem]⟩

set_option maxHeartbeats 1000000 in
theorem c_pagodaref01_Num (n : Int) : Pur Tryz.prog (GL kr) 26 [.pv (.int .i64 n)] (.pv (enc (dnum n))) := by
 refine pur_of fun σ hgl => ?_
 refine acalls_of tyOk Tryz.func26 rfl (by simp [Tryz.f26]) ?_
 refine awp_seq (aR (by simp [go_sem] <;> rfl) ?_)
 refine awp_seq (aR (by simp [go_sem] <;> rfl) ?_)
 refine awp_ret ?_
 refine ends_ret (by simp [go_sem] <;> rfl) (by simp [go_sem]) ?_
 exact ⟨by simp [go_sem, enc_num], by simp [go_sem]⟩

set_option maxHeartbeats 1000000 in
theorem c_flat_List (l : List D) : Pur Tryz.prog (GL kr) 53 [.pv (.slice (l.map enc))] (.pv (enc (dlist l))) := by
 refine pur_of fun σ hgl => ?_
 refine acalls_of tyOk Tryz.func53 rfl (by simp [Tryz.f53]) ?_
 refine awp_seq (aR (by simp [go_sem] <;> rfl) ?_)
 refine awp_seq (aR (by simp [go_sem] <;> rfl) ?_)
 refine awp_ret ?_
 refine ends_ret (by simp [go_sem] <;> rfl) (by simp [go_sem]) ?_
 exact ⟨by simp [go_sem, enc_list], by simp [go_sem]⟩

set_option maxHeartbeats 1000000 in
theorem c_flat_Canon_1 (n : Int) : Pur Tryz.prog (GL kr) 55 [.pv (.int .i64 n)] (.pv (enc (dnum n))) := by
 refine pur_of fun σ hgl => ?_
 refine acalls_of tyOk Tryz.func55 rfl (by simp [Tryz.f55]) ?_
 refine awp_seq (aR (by simp [go_sem] <;> rfl) ?_)
 refine awp_seq (awp_reg ?_)
 refine aL 1 (by simp [go_sem] <;> rfl) ?_
 refine aF call56 ((c_flat_Num n) _ (by exact hgl)) (by simp [go_sem] <;> rfl) (by simp [go_sem]) ?_
 refine aL 1 (by simp [go_sem] <;> rfl) ?_
 refine al_nil ?_
 refine awp_ret ?_
 refine ends_ret (by simp [go_sem] <;> rfl) (by simp [go_sem]) ?_
 exact ⟨by simp [go_sem], by simp [go_sem]⟩

set_option maxHeartbeats 1000000 in
theorem c_flat_Canon_2 (d : D) : Pur Tryz.prog (GL kr) 57 [.pv (enc d)] (.pv (enc d)) := by
 refine pur_of fun σ hgl => ?_
 refine acalls_of tyOk Tryz.func57 rfl (by simp [Tryz.f57]) ?_
 refine awp_seq (aR (by simp [go_sem] <;> rfl) ?_)
 refine awp_seq (aR (by simp [go_sem] <;> rfl) ?_)
 refine awp_ret ?_
 refine ends_ret (by simp [go_sem] <;> rfl) (by simp [go_sem]) ?_
 exact ⟨by simp [go_sem], by simp [go_sem]⟩

set_option maxHeartbeats 1000000 in
theorem c_flat_keyOf (d : D) : Pur Tryz.prog (GL kr) 98 [.pv (enc d)] (.pv (keyPV d)) := by
 refine pur_of fun σ hgl => ?_
 refine acalls_of tyOk Tryz.func98 rfl (by simp [Tryz.f98]) ?_
 refine awp_seq (aR (by simp [go_sem] <;> rfl) ?_)
 refine awp_seq (aR (by simp [go_sem] <;> rfl) ?_)
 refine awp_ret ?_
 refine ends_ret (by simp [go_sem] <;> rfl) (by simp [go_sem]) ?_
 exact ⟨by simp [go_sem, keyPV], by simp [go_sem]⟩

set_option maxHeartbeats 1000000 in
theorem c_datum_IsDigit (c : Int) : Pur Tryz.prog (GL kr) 140 [.pv (.int .u8 c)] (.pv (.bool (isDigit c))) := by
 refine pur_of fun σ hgl => ?_
 refine acalls_of tyOk Tryz.func140 rfl (by simp [Tryz.f140]) ?_
 refine awp_seq (aR (by simp [go_sem] <;> rfl) ?_)
 refine awp_seq (awp_reg ?_)
 refine aL 3 (by simp [go_sem] <;> rfl) ?_
 refine al_splitT 5 (by first | rfl | (simp [go_sem] <;> rfl)) (fun h0 => ?_) (fun h0 => ?_)
 ·refine aLG 2 5 true (by simp [go_sem] <;> rfl) ?_
  refine aL 2 (by simp [go_sem] <;> rfl) ?_
  refine al_nil ?_
  refine awp_ret ?_
  refine ends_ret (by simp [go_sem] <;> rfl) (by simp [go_sem]) ?_
  exact ⟨by simp [go_sem, h0, isDigit], by simp [go_sem]⟩
 ·refine aK 2 5 true ?_
  refine aL 2 (by simp [go_sem] <;> rfl) ?_
  refine al_nil ?_
  refine awp_ret ?_
  refine ends_ret (by simp [go_sem] <;> rfl) (by simp [go_sem]) ?_
  exact ⟨by simp [go_sem, h0, isDigit], by simp [go_sem]⟩

set_option maxHeartbeats 1000000 in
theorem c_pagodaref01_digit (c : Int) : Pur Tryz.prog (GL kr) 123 [.pv (.int .u8 c)] (.pv (.bool (isDigit c))) := by
 refine pur_of fun σ hgl => ?_
 refine acalls_of tyOk Tryz.func123 rfl (by simp [Tryz.f123]) ?_
 refine awp_seq (aR (by simp [go_sem] <;> rfl) ?_)
 refine awp_seq (awp_reg ?_)
 refine aL 3 (by simp [go_sem] <;> rfl) ?_
 refine al_splitT 5 (by first | rfl | (simp [go_sem] <;> rfl)) (fun h0 => ?_) (fun h0 => ?_)
 ·refine aLG 2 5 true (by simp [go_sem] <;> rfl) ?_
  refine aL 2 (by simp [go_sem] <;> rfl) ?_
  refine al_nil ?_
  refine awp_ret ?_
  refine ends_ret (by simp [go_sem] <;> rfl) (by simp [go_sem]) ?_
  exact ⟨by simp [go_sem, h0, isDigit], by simp [go_sem]⟩
 ·refine aK 2 5 true ?_
  refine aL 2 (by simp [go_sem] <;> rfl) ?_
  refine al_nil ?_
  refine awp_ret ?_
  refine ends_ret (by simp [go_sem] <;> rfl) (by simp [go_sem]) ?_
  exact ⟨by simp [go_sem, h0, isDigit], by simp [go_sem]⟩

set_option maxHeartbeats 1000000 in
theorem c_flat_IsCall (d : D) (h : d.kind = 3 → d.kids ≠ []) : Pur Tryz.prog (GL kr) 114 [.pv (enc d)] (.pv (.bool (isCall d))) := by
 refine pur_of fun σ hgl => ?_
 refine acalls_of tyOk Tryz.func114 rfl (by simp [Tryz.f114]) ?_
 refine awp_seq (aR (by simp [go_sem] <;> rfl) ?_)
 refine awp_seq (awp_reg ?_)
 refine aL 4 (by simp [go_sem] <;> rfl) ?_
 refine al_splitT 6 (by first | rfl | (simp [go_sem] <;> rfl)) (fun h0 => ?_) (fun h0 => ?_)
 ·obtain ⟨x, r, hx⟩ := kids_cons (h (by simpa using h0))
  refine aLG 6 6 true (by simp [go_sem, hx] <;> rfl) ?_
  refine aL 2 (by simp [go_sem, hx] <;> rfl) ?_
  refine al_nil ?_
  refine awp_ret ?_
  refine ends_ret (by simp [go_sem, hx] <;> rfl) (by simp [go_sem]) ?_
  exact ⟨by simp [go_sem, hx, h0, isCall, D.head, sCall], by simp [go_sem]⟩
 ·refine aK 6 6 true ?_
  refine aL 2 (by simp [go_sem] <;> rfl) ?_
  refine al_nil ?_
  refine awp_ret ?_
  refine ends_ret (by simp [go_sem] <;> rfl) (by simp [go_sem]) ?_
  exact ⟨by simp [go_sem, h0, isCall, D.head, sCall], by simp [go_sem]⟩

def ren137 : Go.Shelf.Ren := ⟨fun x => match x with | 137 => 149 | 217 => 153 | 266 => 154 | n => n, fun x => match x with | 3 => 3 | 5 => 5 | 9 => 9 | n => n, fun x => x⟩
theorem lays137 : Go.Proofs.Lays.n137 Tryz.prog ren137 :=
  { mixed := Eq.refl true,
    f137 := Eq.trans Tryz.func149 (congrArg some (by kernel_rfl)),
    f217 := Eq.trans Tryz.func153 (congrArg some (by kernel_rfl)),
    f266 := Eq.trans Tryz.func154 (congrArg some (by kernel_rfl)),
    t3 := Tryz.underlying3, a3 := Tryz.isAgg3, z3 := Tryz.sizeOf3,
    v3 := Tryz.zeroValue3, t5 := Tryz.underlying5, a5 := Tryz.isAgg5,
    z5 := Tryz.sizeOf5, v5 := Tryz.zeroValue5, t9 := Tryz.underlying9,
    a9 := Tryz.isAgg9, z9 := Tryz.sizeOf9, v9 := Tryz.zeroValue9 }
theorem c_IndexByte (s : ByteArray) (c : Int) : Pur Tryz.prog (GL kr) 149 [.pv (.str s), .pv (.int .u8 c)] (.pv (.int .i64 (Lib.indexByte s.data.toList c.toNat.toUInt8))) :=
  pur_of_calls (ps := [.str s, .int .u8 c]) [.str, .int .u8] rfl (.int .i64) rfl fun w => Go.Proofs.Any.strings_IndexByte lays137 s c w

set_option maxHeartbeats 1000000 in
theorem c_datum_IsAtom (c : Int) : Pur Tryz.prog (GL kr) 141 [.pv (.int .u8 c)] (.pv (.bool (isAtom c))) := by
 refine pur_of fun σ hgl => ?_
 refine acalls_of tyOk Tryz.func141 rfl (by simp [Tryz.f141]) ?_
 refine awp_seq (aR (by simp [go_sem] <;> rfl) ?_)
 refine awp_seq (awp_reg ?_)
 refine aL 3 (by simp [go_sem] <;> rfl) ?_
 refine al_splitT 5 (by first | rfl | (simp [go_sem] <;> rfl)) (fun h0 => ?_) (fun h0 => ?_)
 ·refine aLG 2 5 true (by simp [go_sem] <;> rfl) ?_
  refine aL 2 (by simp [go_sem] <;> rfl) ?_
  refine al_splitT 9 (by first | rfl | (simp [go_sem] <;> rfl)) (fun h1 => ?_) (fun h1 => ?_)
  ·refine aK 2 9 false ?_
   refine aL 2 (by simp [go_sem] <;> rfl) ?_
   refine aK 3 13 false ?_
   refine aL 2 (by simp [go_sem] <;> rfl) ?_
   refine al_nil ?_
   refine awp_ret ?_
   refine ends_ret (by simp [go_sem] <;> rfl) (by simp [go_sem]) ?_
   exact ⟨by simp [go_sem, h0, h1, isAtom, isLower], by simp [go_sem]⟩
  ·refine aLG 1 9 false (by simp [go_sem] <;> rfl) ?_
   refine al_fnG 9 false false (by simp [go_sem]) rfl (by simp [go_sem]) rfl rfl (by simp [go_sem] <;> rfl) call140 ((c_datum_IsDigit c) _ (by exact hgl)) (by simp [go_sem] <;> rfl) (by simp [go_sem]) rfl rfl ?_
   refine aL 2 (by simp [go_sem] <;> rfl) ?_
   refine al_splitT 13 (by first | rfl | (simp [go_sem] <;> rfl)) (fun h2 => ?_) (fun h2 => ?_)
   ·refine aK 3 13 false ?_
    refine aL 2 (by simp [go_sem] <;> rfl) ?_
    refine al_nil ?_
    refine awp_ret ?_
    refine ends_ret (by simp [go_sem] <;> rfl) (by simp [go_sem]) ?_
    exact ⟨by simp [go_sem, h0, h1, h2, isAtom, isLower], by simp [go_sem]⟩
   ·refine aLG 1 13 false (by simp [go_sem] <;> rfl) ?_
    refine al_fnG 13 false false (by simp [go_sem]) rfl (by simp [go_sem]) rfl rfl (by simp [go_sem] <;> rfl) call149 ((c_IndexByte ⟨#[43, 45, 42, 47, 60, 61, 62, 63, 33, 95, 46]⟩ c) _ (by exact hgl)) (by simp [go_sem] <;> rfl) (by simp [go_sem]) rfl rfl ?_
    refine aLG 1 13 false (by simp [go_sem] <;> rfl) ?_
    refine aL 2 (by simp [go_sem] <;> rfl) ?_
    refine al_nil ?_
    refine awp_ret ?_
    refine ends_ret (by simp [go_sem] <;> rfl) (by simp [go_sem]) ?_
    exact ⟨by simp [go_sem, h0, h1, h2, isAtom, isLower], by simp [go_sem]⟩
 ·refine aK 2 5 true ?_
  refine aL 2 (by simp [go_sem] <;> rfl) ?_
  refine aLG 1 9 false (by simp [go_sem] <;> rfl) ?_
  refine al_fnG 9 false false (by simp [go_sem]) rfl (by simp [go_sem]) rfl rfl (by simp [go_sem] <;> rfl) call140 ((c_datum_IsDigit c) _ (by exact hgl)) (by simp [go_sem] <;> rfl) (by simp [go_sem]) rfl rfl ?_
  refine aL 2 (by simp [go_sem] <;> rfl) ?_
  refine al_splitT 13 (by first | rfl | (simp [go_sem] <;> rfl)) (fun h3 => ?_) (fun h3 => ?_)
  ·refine aK 3 13 false ?_
   refine aL 2 (by simp [go_sem] <;> rfl) ?_
   refine al_nil ?_
   refine awp_ret ?_
   refine ends_ret (by simp [go_sem] <;> rfl) (by simp [go_sem]) ?_
   exact ⟨by simp [go_sem, h0, h3, isAtom, isLower], by simp [go_sem]⟩
  ·refine aLG 1 13 false (by simp [go_sem] <;> rfl) ?_
   refine al_fnG 13 false false (by simp [go_sem]) rfl (by simp [go_sem]) rfl rfl (by simp [go_sem] <;> rfl) call149 ((c_IndexByte ⟨#[43, 45, 42, 47, 60, 61, 62, 63, 33, 95, 46]⟩ c) _ (by exact hgl)) (by simp [go_sem] <;> rfl) (by simp [go_sem]) rfl rfl ?_
   refine aLG 1 13 false (by simp [go_sem] <;> rfl) ?_
   refine aL 2 (by simp [go_sem] <;> rfl) ?_
   refine al_nil ?_
   refine awp_ret ?_
   refine ends_ret (by simp [go_sem] <;> rfl) (by simp [go_sem]) ?_
   exact ⟨by simp [go_sem, h0, h3, isAtom, isLower], by simp [go_sem]⟩

set_option maxHeartbeats 1000000 in
theorem c_pagodaref01_Letter (c : Int) : Pur Tryz.prog (GL kr) 124 [.pv (.int .u8 c)] (.pv (.bool (letter c))) := by
 refine pur_of fun σ hgl => ?_
 refine acalls_of tyOk Tryz.func124 rfl (by simp [Tryz.f124]) ?_
 refine awp_seq (aR (by simp [go_sem] <;> rfl) ?_)
 refine awp_seq (awp_seq (aR (by simp [go_sem] <;> rfl) ?_))
 refine awp_block ?_
 refine awp_loop_headK σ.objs.length σ.toks.length 0 [0, 2] (fun k : Nat => [(3, .pv (.int .i64 ↑k))]) (fun k => σ) (fun k => k ≤ 11 ∧ NotYet (fun k : Nat => c == byteAt atomS k) (List.range 11) k) (fun k => 11 - k) 0 (⟨Nat.zero_le _, .zero⟩) ⟨by simp [go_sem], rfl, by simp, by simp, by simp [go_sem], fun ob h => .inl (by simpa [go_sem] using h), by simp [go_sem]⟩ ?_
 rintro k ⟨hk, hn⟩
 refine awp_seq (awp_seq (aR (by simp [go_sem] <;> rfl) ?_))
 refine awp_cond (by first | rfl | (simp [go_sem] <;> rfl)) (fun h0 => ?_) (fun h0 => ?_)
 ·have hlt : k < 11 := by simp at h0; omega
  have hw : IntKind.i64.wrap (↑k + 1) = (k : Int) + 1 := wrap_succ (by omega)
  have hr : (List.range 11)[k]? = some k := by simp [hlt]
  have hz : (↑k : Int) < 11 := by omega
  have hat : byteAt ⟨#[43, 45, 42, 47, 60, 61, 62, 63, 33, 95, 46]⟩ ↑k = byteAt atomS ↑k := rfl
  refine awp_skip ?_
  refine awp_seq (awp_block ?_)
  refine awp_seq (aR (by simp [go_sem, hz, hat] <;> rfl) ?_)
  refine awp_cond (by first | rfl | (simp [go_sem, hz, hat] <;> rfl)) (fun h1 => ?_) (fun h1 => ?_)
  ·refine awp_seq ?_
   refine aR (by simp [go_sem, hz, hat] <;> rfl) ?_
   refine awp_ret ?_
   refine inBlock_ret ?_
   refine then_ret ?_
   refine then_ret ?_
   refine inBlock_ret ?_
   refine then_ret ?_
   refine ends_ret (by simp [go_sem] <;> rfl) (by simp [go_sem]) ?_
   have hany : inAtoms c = true := any_found (p := fun k : Nat => c == byteAt atomS k) hr h1
   exact ⟨by simp [go_sem, letter, hany], by simp [go_sem]⟩
  ·refine awp_skip ?_
   refine aR (by simp [go_sem, hz, hat] <;> rfl) ?_
   exact next_intro (k + 1) σ.objs.length σ.toks.length 0 (⟨hlt, hn.succ hr (by simpa using h1)⟩) (by omega) ⟨by simp [go_sem, hz, hat, hw], rfl, by simp, by simp, by simp [go_sem, hz, hat, hw], fun ob h => .inl (by simpa [go_sem, hz, hat, hw] using h), by simp [go_sem]⟩
 ·have hke : k = 11 := by simp at h0; omega
  subst hke
  have hany : inAtoms c = false := hn.any (l := List.range 11)
  refine awp_exit ?_
  refine then_exit ?_
  refine then_exit ?_
  refine inBlock_hit ?_
  refine awp_seq (awp_reg ?_)
  refine aL 1 (by simp [go_sem, hany] <;> rfl) ?_
  refine aF call123 ((c_pagodaref01_digit c) _ (by exact hgl)) (by simp [go_sem, hany] <;> rfl) (by simp [go_sem, hany]) ?_
  refine aL 1 (by simp [go_sem, hany] <;> rfl) ?_
  refine al_splitT 14 (by first | rfl | (simp [go_sem, hany] <;> rfl)) (fun h2 => ?_) (fun h2 => ?_)
  ·refine aK 3 14 false ?_
   refine aK 2 17 true ?_
   refine aK 1 14 false ?_
   refine aL 2 (by simp [go_sem, hany] <;> rfl) ?_
   refine al_nil ?_
   refine awp_ret ?_
   refine ends_ret (by simp [go_sem, hany] <;> rfl) (by simp [go_sem]) ?_
   exact ⟨by simp [go_sem, hany, h2, letter, isLower], by simp [go_sem]⟩
  ·refine aLG 3 14 false (by simp [go_sem, hany] <;> rfl) ?_
   refine al_splitT 17 (by first | rfl | (simp [go_sem, hany] <;> rfl)) (fun h3 => ?_) (fun h3 => ?_)
   ·refine aLG 2 17 true (by simp [go_sem, hany] <;> rfl) ?_
    refine aLG 1 14 false (by simp [go_sem, hany] <;> rfl) ?_
    refine aL 2 (by simp [go_sem, hany] <;> rfl) ?_
    refine al_nil ?_
    refine awp_ret ?_
    refine ends_ret (by simp [go_sem, hany] <;> rfl) (by simp [go_sem]) ?_
    exact ⟨by simp [go_sem, hany, h2, h3, letter, isLower], by simp [go_sem]⟩
   ·refine aK 2 17 true ?_
    refine aLG 1 14 false (by simp [go_sem, hany] <;> rfl) ?_
    refine aL 2 (by simp [go_sem, hany] <;> rfl) ?_
    refine al_nil ?_
    refine awp_ret ?_
    refine ends_ret (by simp [go_sem, hany] <;> rfl) (by simp [go_sem]) ?_
    exact ⟨by simp [go_sem, hany, h2, h3, letter, isLower], by simp [go_sem]⟩

end Go.Proofs.YtienmmfjjffjaaaGreatDoor

/- Contracts of small functions, two. -/
namespace Go.Proofs.YtienmmfjjffjaaaGreatDoor
open Go Go.Aw
variable {kr : ResO}
set_option maxHeartbeats 1000000 in
theorem c_datum_IsSymbol (s : ByteArray) : Pur Tryz.prog (GL kr) 127 [.pv (.str s)] (.pv (.bool (isSym isAtom s))) := by
 refine pur_of fun σ hgl => ?_
 refine acalls_of tyOk Tryz.func127 rfl (by simp [Tryz.f127]) ?_
 refine awp_seq (aR (by simp [go_sem, bt0, bt1] <;> rfl) ?_)
 refine awp_seq (awp_seq (awp_reg ?_))
 refine aL 4 (by simp [go_sem, bt0, bt1] <;> rfl) ?_
 refine al_splitT 7 (by first | rfl | (simp [go_sem, bt0, bt1] <;> rfl)) (fun h0 => ?_) (fun h0 => ?_)
 ·refine aK 3 7 false ?_
  refine aL 2 (by simp [go_sem, bt0, bt1] <;> rfl) ?_
  refine aK 3 12 false ?_
  refine aL 2 (by simp [go_sem, bt0, bt1] <;> rfl) ?_
  refine aK 4 17 false ?_
  refine aK 3 21 true ?_
  refine aK 2 17 false ?_
  refine aK 3 26 true ?_
  refine aK 1 17 false ?_
  refine aL 1 (by simp [go_sem, bt0, bt1] <;> rfl) ?_
  refine al_nil ?_
  refine awp_cond (b := true) (by simp [go_sem, bt0, bt1, h0]) (fun h => ?_) (fun h => ?_)
  rotate_left
  ·cases h
  refine awp_seq (aR (by simp [go_sem, bt0, bt1] <;> rfl) ?_)
  refine awp_ret ?_
  refine then_ret ?_
  refine ends_ret (by simp [go_sem, bt0, bt1] <;> rfl) (by simp [go_sem]) ?_
  exact ⟨by simp only [isSym, bt0, bt1, h0, bA, bB, bC, bD, bE, bF, bG, bH, bI, bJ, Bool.false_eq_true, if_true, if_false]; simp [go_sem], by simp [go_sem]⟩
 ·have hp : 0 < s.size := by have := h0; simp only [beq_eq_false_iff_ne, decide_eq_false_iff_not] at this; omega
  refine aLG 3 7 false (by simp [go_sem, bt0, bt1, hp] <;> rfl) ?_
  refine aL 2 (by simp [go_sem, bt0, bt1, hp] <;> rfl) ?_
  refine al_splitT 12 (by first | rfl | (simp [go_sem, bt0, bt1, hp] <;> rfl)) (fun h1 => ?_) (fun h1 => ?_)
  ·refine aK 3 12 false ?_
   refine aL 2 (by simp [go_sem, bt0, bt1, hp] <;> rfl) ?_
   refine aK 4 17 false ?_
   refine aK 3 21 true ?_
   refine aK 2 17 false ?_
   refine aK 3 26 true ?_
   refine aK 1 17 false ?_
   refine aL 1 (by simp [go_sem, bt0, bt1, hp] <;> rfl) ?_
   refine al_nil ?_
   refine awp_cond (b := true) (by simp [go_sem, bt0, bt1, hp, h0, h1]) (fun h => ?_) (fun h => ?_)
   rotate_left
   ·cases h
   refine awp_seq (aR (by simp [go_sem, bt0, bt1, hp] <;> rfl) ?_)
   refine awp_ret ?_
   refine then_ret ?_
   refine ends_ret (by simp [go_sem, bt0, bt1, hp] <;> rfl) (by simp [go_sem]) ?_
   exact ⟨by simp only [isSym, bt0, bt1, hp, h0, h1, bA, bB, bC, bD, bE, bF, bG, bH, bI, bJ, Bool.false_eq_true, if_true, if_false]; simp [go_sem], by simp [go_sem]⟩
  ·have h40 : s.size ≤ 40 := by simp at h1; omega
   refine aLG 2 12 false (by simp [go_sem, bt0, bt1, hp] <;> rfl) ?_
   refine al_fnG 12 false false (by simp [go_sem]) rfl (by simp [go_sem]) rfl rfl (by simp [go_sem, bt0, bt1, hp] <;> rfl) call140 ((c_datum_IsDigit (bt s 0)) _ (by exact hgl)) (by simp [go_sem, bt0, bt1, hp] <;> rfl) (by simp [go_sem, bt0, bt1, hp]) rfl rfl ?_
   refine aL 2 (by simp [go_sem, bt0, bt1, hp] <;> rfl) ?_
   refine al_splitT 17 (by first | rfl | (simp [go_sem, bt0, bt1, hp] <;> rfl)) (fun h2 => ?_) (fun h2 => ?_)
   ·refine aK 4 17 false ?_
    refine aK 3 21 true ?_
    refine aK 2 17 false ?_
    refine aK 3 26 true ?_
    refine aK 1 17 false ?_
    refine aL 1 (by simp [go_sem, bt0, bt1, hp] <;> rfl) ?_
    refine al_nil ?_
    refine awp_cond (b := true) (by simp [go_sem, bt0, bt1, hp, h0, h1, h2]) (fun h => ?_) (fun h => ?_)
    rotate_left
    ·cases h
    refine awp_seq (aR (by simp [go_sem, bt0, bt1, hp] <;> rfl) ?_)
    refine awp_ret ?_
    refine then_ret ?_
    refine ends_ret (by simp [go_sem, bt0, bt1, hp] <;> rfl) (by simp [go_sem]) ?_
    exact ⟨by simp only [isSym, bt0, bt1, hp, h0, h1, h2, bA, bB, bC, bD, bE, bF, bG, bH, bI, bJ, Bool.false_eq_true, if_true, if_false]; simp [go_sem], by simp [go_sem]⟩
   ·refine aLG 4 17 false (by simp [go_sem, bt0, bt1, hp] <;> rfl) ?_
    refine al_splitT 21 (by first | rfl | (simp [go_sem, bt0, bt1, hp] <;> rfl)) (fun h3 => ?_) (fun h3 => ?_)
    ·refine aLG 3 21 true (by simp [go_sem, bt0, bt1, hp] <;> rfl) ?_
     refine aLG 2 17 false (by simp [go_sem, bt0, bt1, hp] <;> rfl) ?_
     refine al_splitT 26 (by first | rfl | (simp [go_sem, bt0, bt1, hp] <;> rfl)) (fun h4 => ?_) (fun h4 => ?_)
     ·have hp1 : (1 : Int) < s.size := by simpa using h4
      refine aLG 2 26 true (by simp [go_sem, bt0, bt1, hp, hp1] <;> rfl) ?_
      refine al_fnG 26 true true (by simp [go_sem]) rfl (by simp [go_sem]) rfl rfl (by simp [go_sem, bt0, bt1, hp, hp1] <;> rfl) call140 ((c_datum_IsDigit (bt s 1)) _ (by exact hgl)) (by simp [go_sem, bt0, bt1, hp, hp1] <;> rfl) (by simp [go_sem, bt0, bt1, hp, hp1]) rfl rfl ?_
      refine aLG 1 17 false (by simp [go_sem, bt0, bt1, hp, hp1] <;> rfl) ?_
      refine aL 1 (by simp [go_sem, bt0, bt1, hp, hp1] <;> rfl) ?_
      refine al_nil ?_
      refine awp_cond (by first | rfl | (simp [go_sem, bt0, bt1, hp, hp1] <;> rfl)) (fun h5 => ?_) (fun h5 => ?_)
      ·refine awp_seq ?_
       refine aR (by simp [go_sem, bt0, bt1, hp, hp1] <;> rfl) ?_
       refine awp_ret ?_
       refine then_ret ?_
       refine ends_ret (by simp [go_sem, bt0, bt1, hp, hp1] <;> rfl) (by simp [go_sem]) ?_
       exact ⟨by simp only [isSym, bt0, bt1, hp, hp1, h0, h1, h2, h3, h4, h5, bA, bB, bC, bD, bE, bF, bG, bH, bI, bJ, Bool.false_eq_true, if_true, if_false]; simp [go_sem], by simp [go_sem]⟩
      ·refine awp_skip ?_
       refine awp_seq (awp_seq (aR (by simp [go_sem, bt0, bt1, hp, hp1] <;> rfl) ?_))
       refine awp_block ?_
       refine awp_loop_headK σ.objs.length σ.toks.length 0 [0, 2, 33] (fun k : Nat => [(34, .pv (.int .i64 ↑k))]) (fun k => σ) (fun k => k ≤ s.size ∧ NotYet (fun i => !isAtom (bt s i)) (List.range s.size) k) (fun k => s.size - k) 0 (⟨Nat.zero_le _, .zero⟩) ⟨by simp [go_sem, bt0, bt1, hp, hp1], rfl, by simp, by simp, by simp [go_sem, bt0, bt1, hp, hp1], fun ob h => .inl (by simpa [go_sem, bt0, bt1, hp, hp1] using h), by simp [go_sem]⟩ ?_
       rintro k ⟨hk, hn⟩
       refine awp_seq (aR (by simp [go_sem, bt0, bt1, hp, hp1] <;> rfl) ?_)
       refine awp_seq (awp_cond (by first | rfl | (simp [go_sem, bt0, bt1, hp, hp1] <;> rfl)) (fun h6 => ?_) (fun h6 => ?_))
       ·have hlt : k < s.size := by simp at h6; omega
        have hw : IntKind.i64.wrap (↑k + 1) = (k : Int) + 1 := wrap_succ (by omega)
        have hr : (List.range s.size)[k]? = some k := by simp [hlt]
        have hz : (k : Int) < s.size := by omega
        refine awp_skip ?_
        refine awp_seq (awp_block ?_)
        refine awp_seq (aR (by simp [go_sem, bt0, bt1, hp, hp1, hz, bt_eq] <;> rfl) ?_)
        refine awp_seq (awp_reg ?_)
        refine aL 3 (by simp [go_sem, bt0, bt1, hp, hp1, hz, bt_eq] <;> rfl) ?_
        refine aF call141 ((c_datum_IsAtom (bt s k)) _ (by exact hgl)) (by simp [go_sem, bt0, bt1, hp, hp1, hz, bt_eq] <;> rfl) (by simp [go_sem, bt0, bt1, hp, hp1, hz, bt_eq]) ?_
        refine aL 1 (by simp [go_sem, bt0, bt1, hp, hp1, hz, bt_eq] <;> rfl) ?_
        refine al_nil ?_
        refine awp_cond (by first | rfl | (simp [go_sem, bt0, bt1, hp, hp1, hz, bt_eq] <;> rfl)) (fun h7 => ?_) (fun h7 => ?_)
        ·refine awp_seq ?_
         refine aR (by simp [go_sem, bt0, bt1, hp, hp1, hz, bt_eq] <;> rfl) ?_
         refine awp_ret ?_
         refine inBlock_ret ?_
         refine then_ret ?_
         refine then_ret ?_
         refine inBlock_ret ?_
         refine then_ret ?_
         refine ends_ret (by simp [go_sem] <;> rfl) (by simp [go_sem]) ?_
         have hall : (List.range s.size).all (fun i => isAtom (bt s i)) = false := all_found hlt (by simpa [bt_eq] using h7)
         exact ⟨by simp only [isSym, hall, bA, bB, bC, bD, bE, bF, bG, bH, bI, bJ, Bool.false_eq_true, if_true, if_false]; simp [go_sem], by simp [go_sem]⟩
        ·refine awp_skip ?_
         refine aR (by simp [go_sem, bt0, bt1, hp, hp1, hz, bt_eq] <;> rfl) ?_
         exact next_intro (k + 1) σ.objs.length σ.toks.length 0 (⟨hlt, hn.succ hr (by simpa [bt_eq] using h7)⟩) (by omega) ⟨by simp [go_sem, bt0, bt1, hp, hp1, hz, bt_eq, hw], rfl, by simp, by simp, by simp [go_sem, bt0, bt1, hp, hp1, hz, bt_eq, hw], fun ob h => .inl (by simpa [go_sem, bt0, bt1, hp, hp1, hz, bt_eq, hw] using h), by simp [go_sem]⟩
       ·have hke : k = s.size := by simp at h6; omega
        subst hke
        have hall : (List.range s.size).all (fun i => isAtom (bt s i)) = true := all_of_notYet hn
        refine awp_exit ?_
        refine then_exit ?_
        refine then_exit ?_
        refine inBlock_hit ?_
        refine awp_seq (aR (by simp [go_sem, bt0, bt1, hp, hp1, hall] <;> rfl) ?_)
        refine awp_ret ?_
        refine ends_ret (by simp [go_sem, bt0, bt1, hp, hp1, hall] <;> rfl) (by simp [go_sem]) ?_
        exact ⟨by simp only [isSym, bt0, bt1, hp, hp1, hall, h0, h1, h2, h3, h4, h5, bA, bB, bC, bD, bE, bF, bG, bH, bI, bJ, Bool.false_eq_true, if_true, if_false]; simp [go_sem], by simp [go_sem]⟩
     ·refine aK 3 26 true ?_
      refine aLG 1 17 false (by simp [go_sem, bt0, bt1, hp] <;> rfl) ?_
      refine aL 1 (by simp [go_sem, bt0, bt1, hp] <;> rfl) ?_
      refine al_nil ?_
      refine awp_cond (b := false) (by simp [go_sem, bt0, bt1, hp, h0, h1, h2, h3, h4]) (fun h => ?_) (fun h => ?_)
      ·cases h
      refine awp_skip ?_
      refine awp_seq (awp_seq (aR (by simp [go_sem, bt0, bt1, hp] <;> rfl) ?_))
      refine awp_block ?_
      refine awp_loop_headK σ.objs.length σ.toks.length 0 [0, 2, 33] (fun k : Nat => [(34, .pv (.int .i64 ↑k))]) (fun k => σ) (fun k => k ≤ s.size ∧ NotYet (fun i => !isAtom (bt s i)) (List.range s.size) k) (fun k => s.size - k) 0 (⟨Nat.zero_le _, .zero⟩) ⟨by simp [go_sem, bt0, bt1, hp], rfl, by simp, by simp, by simp [go_sem, bt0, bt1, hp], fun ob h => .inl (by simpa [go_sem, bt0, bt1, hp] using h), by simp [go_sem]⟩ ?_
      rintro k ⟨hk, hn⟩
      refine awp_seq (aR (by simp [go_sem, bt0, bt1, hp] <;> rfl) ?_)
      refine awp_seq (awp_cond (by first | rfl | (simp [go_sem, bt0, bt1, hp] <;> rfl)) (fun h8 => ?_) (fun h8 => ?_))
      ·have hlt : k < s.size := by simp at h8; omega
       have hw : IntKind.i64.wrap (↑k + 1) = (k : Int) + 1 := wrap_succ (by omega)
       have hr : (List.range s.size)[k]? = some k := by simp [hlt]
       have hz : (k : Int) < s.size := by omega
       refine awp_skip ?_
       refine awp_seq (awp_block ?_)
       refine awp_seq (aR (by simp [go_sem, bt0, bt1, hp, hz, bt_eq] <;> rfl) ?_)
       refine awp_seq (awp_reg ?_)
       refine aL 3 (by simp [go_sem, bt0, bt1, hp, hz, bt_eq] <;> rfl) ?_
       refine aF call141 ((c_datum_IsAtom (bt s k)) _ (by exact hgl)) (by simp [go_sem, bt0, bt1, hp, hz, bt_eq] <;> rfl) (by simp [go_sem, bt0, bt1, hp, hz, bt_eq]) ?_
       refine aL 1 (by simp [go_sem, bt0, bt1, hp, hz, bt_eq] <;> rfl) ?_
       refine al_nil ?_
       refine awp_cond (by first | rfl | (simp [go_sem, bt0, bt1, hp, hz, bt_eq] <;> rfl)) (fun h9 => ?_) (fun h9 => ?_)
       ·refine awp_seq ?_
        refine aR (by simp [go_sem, bt0, bt1, hp, hz, bt_eq] <;> rfl) ?_
        refine awp_ret ?_
        refine inBlock_ret ?_
        refine then_ret ?_
        refine then_ret ?_
        refine inBlock_ret ?_
        refine then_ret ?_
        refine ends_ret (by simp [go_sem] <;> rfl) (by simp [go_sem]) ?_
        have hall : (List.range s.size).all (fun i => isAtom (bt s i)) = false := all_found hlt (by simpa [bt_eq] using h9)
        exact ⟨by simp only [isSym, hall, bA, bB, bC, bD, bE, bF, bG, bH, bI, bJ, Bool.false_eq_true, if_true, if_false]; simp [go_sem], by simp [go_sem]⟩
       ·refine awp_skip ?_
        refine aR (by simp [go_sem, bt0, bt1, hp, hz, bt_eq] <;> rfl) ?_
        exact next_intro (k + 1) σ.objs.length σ.toks.length 0 (⟨hlt, hn.succ hr (by simpa [bt_eq] using h9)⟩) (by omega) ⟨by simp [go_sem, bt0, bt1, hp, hz, bt_eq, hw], rfl, by simp, by simp, by simp [go_sem, bt0, bt1, hp, hz, bt_eq, hw], fun ob h => .inl (by simpa [go_sem, bt0, bt1, hp, hz, bt_eq, hw] using h), by simp [go_sem]⟩
      ·have hke : k = s.size := by simp at h8; omega
       subst hke
       have hall : (List.range s.size).all (fun i => isAtom (bt s i)) = true := all_of_notYet hn
       refine awp_exit ?_
       refine then_exit ?_
       refine then_exit ?_
       refine inBlock_hit ?_
       refine awp_seq (aR (by simp [go_sem, bt0, bt1, hp, hall] <;> rfl) ?_)
       refine awp_ret ?_
       refine ends_ret (by simp [go_sem, bt0, bt1, hp, hall] <;> rfl) (by simp [go_sem]) ?_
       exact ⟨by simp only [isSym, bt0, bt1, hp, hall, h0, h1, h2, h3, h4, bA, bB, bC, bD, bE, bF, bG, bH, bI, bJ, Bool.false_eq_true, if_true, if_false]; simp [go_sem], by simp [go_sem]⟩
    ·refine aK 3 21 true ?_
     refine aLG 2 17 false (by simp [go_sem, bt0, bt1, hp] <;> rfl) ?_
     refine aK 3 26 true ?_
     refine aLG 1 17 false (by simp [go_sem, bt0, bt1, hp] <;> rfl) ?_
     refine aL 1 (by simp [go_sem, bt0, bt1, hp] <;> rfl) ?_
     refine al_nil ?_
     refine awp_cond (b := false) (by simp [go_sem, bt0, bt1, hp, h0, h1, h2, h3]) (fun h => ?_) (fun h => ?_)
     ·cases h
     refine awp_skip ?_
     refine awp_seq (awp_seq (aR (by simp [go_sem, bt0, bt1, hp] <;> rfl) ?_))
     refine awp_block ?_
     refine awp_loop_headK σ.objs.length σ.toks.length 0 [0, 2, 33] (fun k : Nat => [(34, .pv (.int .i64 ↑k))]) (fun k => σ) (fun k => k ≤ s.size ∧ NotYet (fun i => !isAtom (bt s i)) (List.range s.size) k) (fun k => s.size - k) 0 (⟨Nat.zero_le _, .zero⟩) ⟨by simp [go_sem, bt0, bt1, hp], rfl, by simp, by simp, by simp [go_sem, bt0, bt1, hp], fun ob h => .inl (by simpa [go_sem, bt0, bt1, hp] using h), by simp [go_sem]⟩ ?_
     rintro k ⟨hk, hn⟩
     refine awp_seq (aR (by simp [go_sem, bt0, bt1, hp] <;> rfl) ?_)
     refine awp_seq (awp_cond (by first | rfl | (simp [go_sem, bt0, bt1, hp] <;> rfl)) (fun h10 => ?_) (fun h10 => ?_))
     ·have hlt : k < s.size := by simp at h10; omega
      have hw : IntKind.i64.wrap (↑k + 1) = (k : Int) + 1 := wrap_succ (by omega)
      have hr : (List.range s.size)[k]? = some k := by simp [hlt]
      have hz : (k : Int) < s.size := by omega
      refine awp_skip ?_
      refine awp_seq (awp_block ?_)
      refine awp_seq (aR (by simp [go_sem, bt0, bt1, hp, hz, bt_eq] <;> rfl) ?_)
      refine awp_seq (awp_reg ?_)
      refine aL 3 (by simp [go_sem, bt0, bt1, hp, hz, bt_eq] <;> rfl) ?_
      refine aF call141 ((c_datum_IsAtom (bt s k)) _ (by exact hgl)) (by simp [go_sem, bt0, bt1, hp, hz, bt_eq] <;> rfl) (by simp [go_sem, bt0, bt1, hp, hz, bt_eq]) ?_
      refine aL 1 (by simp [go_sem, bt0, bt1, hp, hz, bt_eq] <;> rfl) ?_
      refine al_nil ?_
      refine awp_cond (by first | rfl | (simp [go_sem, bt0, bt1, hp, hz, bt_eq] <;> rfl)) (fun h11 => ?_) (fun h11 => ?_)
      ·refine awp_seq ?_
       refine aR (by simp [go_sem, bt0, bt1, hp, hz, bt_eq] <;> rfl) ?_
       refine awp_ret ?_
       refine inBlock_ret ?_
       refine then_ret ?_
       refine then_ret ?_
       refine inBlock_ret ?_
       refine then_ret ?_
       refine ends_ret (by simp [go_sem] <;> rfl) (by simp [go_sem]) ?_
       have hall : (List.range s.size).all (fun i => isAtom (bt s i)) = false := all_found hlt (by simpa [bt_eq] using h11)
       exact ⟨by simp only [isSym, hall, bA, bB, bC, bD, bE, bF, bG, bH, bI, bJ, Bool.false_eq_true, if_true, if_false]; simp [go_sem], by simp [go_sem]⟩
      ·refine awp_skip ?_
       refine aR (by simp [go_sem, bt0, bt1, hp, hz, bt_eq] <;> rfl) ?_
       exact next_intro (k + 1) σ.objs.length σ.toks.length 0 (⟨hlt, hn.succ hr (by simpa [bt_eq] using h11)⟩) (by omega) ⟨by simp [go_sem, bt0, bt1, hp, hz, bt_eq, hw], rfl, by simp, by simp, by simp [go_sem, bt0, bt1, hp, hz, bt_eq, hw], fun ob h => .inl (by simpa [go_sem, bt0, bt1, hp, hz, bt_eq, hw] using h), by simp [go_sem]⟩
     ·have hke : k = s.size := by simp at h10; omega
      subst hke
      have hall : (List.range s.size).all (fun i => isAtom (bt s i)) = true := all_of_notYet hn
      refine awp_exit ?_
      refine then_exit ?_
      refine then_exit ?_
      refine inBlock_hit ?_
      refine awp_seq (aR (by simp [go_sem, bt0, bt1, hp, hall] <;> rfl) ?_)
      refine awp_ret ?_
      refine ends_ret (by simp [go_sem, bt0, bt1, hp, hall] <;> rfl) (by simp [go_sem]) ?_
      exact ⟨by simp only [isSym, bt0, bt1, hp, hall, h0, h1, h2, h3, bA, bB, bC, bD, bE, bF, bG, bH, bI, bJ, Bool.false_eq_true, if_true, if_false]; simp [go_sem], by simp [go_sem]⟩

set_option maxHeartbeats 1000000 in
theorem c_pagodaref01_Symbol (s : ByteArray) : Pur Tryz.prog (GL kr) 105 [.pv (.str s)] (.pv (.bool (isSym letter s))) := by
 refine pur_of fun σ hgl => ?_
 refine acalls_of tyOk Tryz.func105 rfl (by simp [Tryz.f105]) ?_
 refine awp_seq (aR (by simp [go_sem, bt0, bt1] <;> rfl) ?_)
 refine awp_seq (awp_seq (awp_reg ?_))
 refine aL 4 (by simp [go_sem, bt0, bt1] <;> rfl) ?_
 refine al_splitT 7 (by first | rfl | (simp [go_sem, bt0, bt1] <;> rfl)) (fun h0 => ?_) (fun h0 => ?_)
 ·have g0 : ((s.size : Int) == 0) = true := by have := h0; simp only [decide_eq_true_eq] at this; rw [beq_iff_eq]; omega
  refine aK 3 7 false ?_
  refine aL 2 (by simp [go_sem, bt0, bt1] <;> rfl) ?_
  refine aK 3 12 false ?_
  refine aL 2 (by simp [go_sem, bt0, bt1] <;> rfl) ?_
  refine aK 4 17 false ?_
  refine aK 3 21 true ?_
  refine aK 2 17 false ?_
  refine aK 3 26 true ?_
  refine aK 1 17 false ?_
  refine aL 1 (by simp [go_sem, bt0, bt1] <;> rfl) ?_
  refine al_nil ?_
  refine awp_cond (b := true) (by simp [go_sem, bt0, bt1, h0, g0]) (fun h => ?_) (fun h => ?_)
  rotate_left
  ·cases h
  refine awp_seq (aR (by simp [go_sem, bt0, bt1] <;> rfl) ?_)
  refine awp_ret ?_
  refine then_ret ?_
  refine ends_ret (by simp [go_sem, bt0, bt1] <;> rfl) (by simp [go_sem]) ?_
  exact ⟨by simp only [isSym, bt0, bt1, h0, g0, bA, bB, bC, bD, bE, bF, bG, bH, bI, bJ, Bool.false_eq_true, if_true, if_false]; simp [go_sem], by simp [go_sem]⟩
 ·have g0 : ((s.size : Int) == 0) = false := by have := h0; simp only [decide_eq_false_iff_not] at this; rw [beq_eq_false_iff_ne]; omega
  have hp : 0 < s.size := by have := h0; simp only [beq_eq_false_iff_ne, decide_eq_false_iff_not] at this; omega
  refine aLG 3 7 false (by simp [go_sem, bt0, bt1, hp] <;> rfl) ?_
  refine aL 2 (by simp [go_sem, bt0, bt1, hp] <;> rfl) ?_
  refine al_splitT 12 (by first | rfl | (simp [go_sem, bt0, bt1, hp] <;> rfl)) (fun h1 => ?_) (fun h1 => ?_)
  ·refine aK 3 12 false ?_
   refine aL 2 (by simp [go_sem, bt0, bt1, hp] <;> rfl) ?_
   refine aK 4 17 false ?_
   refine aK 3 21 true ?_
   refine aK 2 17 false ?_
   refine aK 3 26 true ?_
   refine aK 1 17 false ?_
   refine aL 1 (by simp [go_sem, bt0, bt1, hp] <;> rfl) ?_
   refine al_nil ?_
   refine awp_cond (b := true) (by simp [go_sem, bt0, bt1, hp, h0, g0, h1]) (fun h => ?_) (fun h => ?_)
   rotate_left
   ·cases h
   refine awp_seq (aR (by simp [go_sem, bt0, bt1, hp] <;> rfl) ?_)
   refine awp_ret ?_
   refine then_ret ?_
   refine ends_ret (by simp [go_sem, bt0, bt1, hp] <;> rfl) (by simp [go_sem]) ?_
   exact ⟨by simp only [isSym, bt0, bt1, hp, h0, g0, h1, bA, bB, bC, bD, bE, bF, bG, bH, bI, bJ, Bool.false_eq_true, if_true, if_false]; simp [go_sem], by simp [go_sem]⟩
  ·have h40 : s.size ≤ 40 := by simp at h1; omega
   refine aLG 2 12 false (by simp [go_sem, bt0, bt1, hp] <;> rfl) ?_
   refine al_fnG 12 false false (by simp [go_sem]) rfl (by simp [go_sem]) rfl rfl (by simp [go_sem, bt0, bt1, hp] <;> rfl) call123 ((c_pagodaref01_digit (bt s 0)) _ (by exact hgl)) (by simp [go_sem, bt0, bt1, hp] <;> rfl) (by simp [go_sem, bt0, bt1, hp]) rfl rfl ?_
   refine aL 2 (by simp [go_sem, bt0, bt1, hp] <;> rfl) ?_
   refine al_splitT 17 (by first | rfl | (simp [go_sem, bt0, bt1, hp] <;> rfl)) (fun h2 => ?_) (fun h2 => ?_)
   ·refine aK 4 17 false ?_
    refine aK 3 21 true ?_
    refine aK 2 17 false ?_
    refine aK 3 26 true ?_
    refine aK 1 17 false ?_
    refine aL 1 (by simp [go_sem, bt0, bt1, hp] <;> rfl) ?_
    refine al_nil ?_
    refine awp_cond (b := true) (by simp [go_sem, bt0, bt1, hp, h0, g0, h1, h2]) (fun h => ?_) (fun h => ?_)
    rotate_left
    ·cases h
    refine awp_seq (aR (by simp [go_sem, bt0, bt1, hp] <;> rfl) ?_)
    refine awp_ret ?_
    refine then_ret ?_
    refine ends_ret (by simp [go_sem, bt0, bt1, hp] <;> rfl) (by simp [go_sem]) ?_
    exact ⟨by simp only [isSym, bt0, bt1, hp, h0, g0, h1, h2, bA, bB, bC, bD, bE, bF, bG, bH, bI, bJ, Bool.false_eq_true, if_true, if_false]; simp [go_sem], by simp [go_sem]⟩
   ·refine aLG 4 17 false (by simp [go_sem, bt0, bt1, hp] <;> rfl) ?_
    refine al_splitT 21 (by first | rfl | (simp [go_sem, bt0, bt1, hp] <;> rfl)) (fun h3 => ?_) (fun h3 => ?_)
    ·refine aLG 3 21 true (by simp [go_sem, bt0, bt1, hp] <;> rfl) ?_
     refine aLG 2 17 false (by simp [go_sem, bt0, bt1, hp] <;> rfl) ?_
     refine al_splitT 26 (by first | rfl | (simp [go_sem, bt0, bt1, hp] <;> rfl)) (fun h4 => ?_) (fun h4 => ?_)
     ·have hp1 : (1 : Int) < s.size := by simpa using h4
      refine aLG 2 26 true (by simp [go_sem, bt0, bt1, hp, hp1] <;> rfl) ?_
      refine al_fnG 26 true true (by simp [go_sem]) rfl (by simp [go_sem]) rfl rfl (by simp [go_sem, bt0, bt1, hp, hp1] <;> rfl) call123 ((c_pagodaref01_digit (bt s 1)) _ (by exact hgl)) (by simp [go_sem, bt0, bt1, hp, hp1] <;> rfl) (by simp [go_sem, bt0, bt1, hp, hp1]) rfl rfl ?_
      refine aLG 1 17 false (by simp [go_sem, bt0, bt1, hp, hp1] <;> rfl) ?_
      refine aL 1 (by simp [go_sem, bt0, bt1, hp, hp1] <;> rfl) ?_
      refine al_nil ?_
      refine awp_cond (by first | rfl | (simp [go_sem, bt0, bt1, hp, hp1] <;> rfl)) (fun h5 => ?_) (fun h5 => ?_)
      ·refine awp_seq ?_
       refine aR (by simp [go_sem, bt0, bt1, hp, hp1] <;> rfl) ?_
       refine awp_ret ?_
       refine then_ret ?_
       refine ends_ret (by simp [go_sem, bt0, bt1, hp, hp1] <;> rfl) (by simp [go_sem]) ?_
       exact ⟨by simp only [isSym, bt0, bt1, hp, hp1, h0, g0, h1, h2, h3, h4, h5, bA, bB, bC, bD, bE, bF, bG, bH, bI, bJ, Bool.false_eq_true, if_true, if_false]; simp [go_sem], by simp [go_sem]⟩
      ·refine awp_skip ?_
       refine awp_seq (awp_seq (aR (by simp [go_sem, bt0, bt1, hp, hp1] <;> rfl) ?_))
       refine awp_block ?_
       refine awp_loop_headK σ.objs.length σ.toks.length 0 [0, 2] (fun k : Nat => [(3, .pv (.int .i64 ↑k))]) (fun k => σ) (fun k => k ≤ s.size ∧ NotYet (fun i => !letter (bt s i)) (List.range s.size) k) (fun k => s.size - k) 0 (⟨Nat.zero_le _, .zero⟩) ⟨by simp [go_sem, bt0, bt1, hp, hp1], rfl, by simp, by simp, by simp [go_sem, bt0, bt1, hp, hp1], fun ob h => .inl (by simpa [go_sem, bt0, bt1, hp, hp1] using h), by simp [go_sem]⟩ ?_
       rintro k ⟨hk, hn⟩
       refine awp_seq (awp_seq (aR (by simp [go_sem, bt0, bt1, hp, hp1] <;> rfl) ?_))
       refine awp_cond (by first | rfl | (simp [go_sem, bt0, bt1, hp, hp1] <;> rfl)) (fun h6 => ?_) (fun h6 => ?_)
       ·have hlt : k < s.size := by simp at h6; omega
        have hw : IntKind.i64.wrap (↑k + 1) = (k : Int) + 1 := wrap_succ (by omega)
        have hr : (List.range s.size)[k]? = some k := by simp [hlt]
        have hz : (k : Int) < s.size := by omega
        refine awp_skip ?_
        refine awp_seq (awp_block ?_)
        refine awp_seq (awp_reg ?_)
        refine aL 3 (by simp [go_sem, bt0, bt1, hp, hp1, hz, bt_eq] <;> rfl) ?_
        refine aF call124 ((c_pagodaref01_Letter (bt s k)) _ (by exact hgl)) (by simp [go_sem, bt0, bt1, hp, hp1, hz, bt_eq] <;> rfl) (by simp [go_sem, bt0, bt1, hp, hp1, hz, bt_eq]) ?_
        refine aL 1 (by simp [go_sem, bt0, bt1, hp, hp1, hz, bt_eq] <;> rfl) ?_
        refine al_nil ?_
        refine awp_cond (by first | rfl | (simp [go_sem, bt0, bt1, hp, hp1, hz, bt_eq] <;> rfl)) (fun h7 => ?_) (fun h7 => ?_)
        ·refine awp_seq ?_
         refine aR (by simp [go_sem, bt0, bt1, hp, hp1, hz, bt_eq] <;> rfl) ?_
         refine awp_ret ?_
         refine inBlock_ret ?_
         refine then_ret ?_
         refine then_ret ?_
         refine inBlock_ret ?_
         refine then_ret ?_
         refine ends_ret (by simp [go_sem] <;> rfl) (by simp [go_sem]) ?_
         have hall : (List.range s.size).all (fun i => letter (bt s i)) = false := all_found hlt (by simpa [bt_eq] using h7)
         exact ⟨by simp only [isSym, hall, bA, bB, bC, bD, bE, bF, bG, bH, bI, bJ, Bool.false_eq_true, if_true, if_false]; simp [go_sem], by simp [go_sem]⟩
        ·refine awp_skip ?_
         refine aR (by simp [go_sem, bt0, bt1, hp, hp1, hz, bt_eq] <;> rfl) ?_
         exact next_intro (k + 1) σ.objs.length σ.toks.length 0 (⟨hlt, hn.succ hr (by simpa [bt_eq] using h7)⟩) (by omega) ⟨by simp [go_sem, bt0, bt1, hp, hp1, hz, bt_eq, hw], rfl, by simp, by simp, by simp [go_sem, bt0, bt1, hp, hp1, hz, bt_eq, hw], fun ob h => .inl (by simpa [go_sem, bt0, bt1, hp, hp1, hz, bt_eq, hw] using h), by simp [go_sem]⟩
       ·have hke : k = s.size := by simp at h6; omega
        subst hke
        have hall : (List.range s.size).all (fun i => letter (bt s i)) = true := all_of_notYet hn
        refine awp_exit ?_
        refine then_exit ?_
        refine then_exit ?_
        refine inBlock_hit ?_
        refine awp_seq (aR (by simp [go_sem, bt0, bt1, hp, hp1, hall] <;> rfl) ?_)
        refine awp_ret ?_
        refine ends_ret (by simp [go_sem, bt0, bt1, hp, hp1, hall] <;> rfl) (by simp [go_sem]) ?_
        exact ⟨by simp only [isSym, bt0, bt1, hp, hp1, hall, h0, g0, h1, h2, h3, h4, h5, bA, bB, bC, bD, bE, bF, bG, bH, bI, bJ, Bool.false_eq_true, if_true, if_false]; simp [go_sem], by simp [go_sem]⟩
     ·refine aK 3 26 true ?_
      refine aLG 1 17 false (by simp [go_sem, bt0, bt1, hp] <;> rfl) ?_
      refine aL 1 (by simp [go_sem, bt0, bt1, hp] <;> rfl) ?_
      refine al_nil ?_
      refine awp_cond (b := false) (by simp [go_sem, bt0, bt1, hp, h0, g0, h1, h2, h3, h4]) (fun h => ?_) (fun h => ?_)
      ·cases h
      refine awp_skip ?_
      refine awp_seq (awp_seq (aR (by simp [go_sem, bt0, bt1, hp] <;> rfl) ?_))
      refine awp_block ?_
      refine awp_loop_headK σ.objs.length σ.toks.length 0 [0, 2] (fun k : Nat => [(3, .pv (.int .i64 ↑k))]) (fun k => σ) (fun k => k ≤ s.size ∧ NotYet (fun i => !letter (bt s i)) (List.range s.size) k) (fun k => s.size - k) 0 (⟨Nat.zero_le _, .zero⟩) ⟨by simp [go_sem, bt0, bt1, hp], rfl, by simp, by simp, by simp [go_sem, bt0, bt1, hp], fun ob h => .inl (by simpa [go_sem, bt0, bt1, hp] using h), by simp [go_sem]⟩ ?_
      rintro k ⟨hk, hn⟩
      refine awp_seq (awp_seq (aR (by simp [go_sem, bt0, bt1, hp] <;> rfl) ?_))
      refine awp_cond (by first | rfl | (simp [go_sem, bt0, bt1, hp] <;> rfl)) (fun h8 => ?_) (fun h8 => ?_)
      ·have hlt : k < s.size := by simp at h8; omega
       have hw : IntKind.i64.wrap (↑k + 1) = (k : Int) + 1 := wrap_succ (by omega)
       have hr : (List.range s.size)[k]? = some k := by simp [hlt]
       have hz : (k : Int) < s.size := by omega
       refine awp_skip ?_
       refine awp_seq (awp_block ?_)
       refine awp_seq (awp_reg ?_)
       refine aL 3 (by simp [go_sem, bt0, bt1, hp, hz, bt_eq] <;> rfl) ?_
       refine aF call124 ((c_pagodaref01_Letter (bt s k)) _ (by exact hgl)) (by simp [go_sem, bt0, bt1, hp, hz, bt_eq] <;> rfl) (by simp [go_sem, bt0, bt1, hp, hz, bt_eq]) ?_
       refine aL 1 (by simp [go_sem, bt0, bt1, hp, hz, bt_eq] <;> rfl) ?_
       refine al_nil ?_
       refine awp_cond (by first | rfl | (simp [go_sem, bt0, bt1, hp, hz, bt_eq] <;> rfl)) (fun h9 => ?_) (fun h9 => ?_)
       ·refine awp_seq ?_
        refine aR (by simp [go_sem, bt0, bt1, hp, hz, bt_eq] <;> rfl) ?_
        refine awp_ret ?_
        refine inBlock_ret ?_
        refine then_ret ?_
        refine then_ret ?_
        refine inBlock_ret ?_
        refine then_ret ?_
        refine ends_ret (by simp [go_sem] <;> rfl) (by simp [go_sem]) ?_
        have hall : (List.range s.size).all (fun i => letter (bt s i)) = false := all_found hlt (by simpa [bt_eq] using h9)
        exact ⟨by simp only [isSym, hall, bA, bB, bC, bD, bE, bF, bG, bH, bI, bJ, Bool.false_eq_true, if_true, if_false]; simp [go_sem], by simp [go_sem]⟩
       ·refine awp_skip ?_
        refine aR (by simp [go_sem, bt0, bt1, hp, hz, bt_eq] <;> rfl) ?_
        exact next_intro (k + 1) σ.objs.length σ.toks.length 0 (⟨hlt, hn.succ hr (by simpa [bt_eq] using h9)⟩) (by omega) ⟨by simp [go_sem, bt0, bt1, hp, hz, bt_eq, hw], rfl, by simp, by simp, by simp [go_sem, bt0, bt1, hp, hz, bt_eq, hw], fun ob h => .inl (by simpa [go_sem, bt0, bt1, hp, hz, bt_eq, hw] using h), by simp [go_sem]⟩
      ·have hke : k = s.size := by simp at h8; omega
       subst hke
       have hall : (List.range s.size).all (fun i => letter (bt s i)) = true := all_of_notYet hn
       refine awp_exit ?_
       refine then_exit ?_
       refine then_exit ?_
       refine inBlock_hit ?_
       refine awp_seq (aR (by simp [go_sem, bt0, bt1, hp, hall] <;> rfl) ?_)
       refine awp_ret ?_
       refine ends_ret (by simp [go_sem, bt0, bt1, hp, hall] <;> rfl) (by simp [go_sem]) ?_
       exact ⟨by simp only [isSym, bt0, bt1, hp, hall, h0, g0, h1, h2, h3, h4, bA, bB, bC, bD, bE, bF, bG, bH, bI, bJ, Bool.false_eq_true, if_true, if_false]; simp [go_sem], by simp [go_sem]⟩
    ·refine aK 3 21 true ?_
     refine aLG 2 17 false (by simp [go_sem, bt0, bt1, hp] <;> rfl) ?_
     refine aK 3 26 true ?_
     refine aLG 1 17 false (by simp [go_sem, bt0, bt1, hp] <;> rfl) ?_
     refine aL 1 (by simp [go_sem, bt0, bt1, hp] <;> rfl) ?_
     refine al_nil ?_
     refine awp_cond (b := false) (by simp [go_sem, bt0, bt1, hp, h0, g0, h1, h2, h3]) (fun h => ?_) (fun h => ?_)
     ·cases h
     refine awp_skip ?_
     refine awp_seq (awp_seq (aR (by simp [go_sem, bt0, bt1, hp] <;> rfl) ?_))
     refine awp_block ?_
     refine awp_loop_headK σ.objs.length σ.toks.length 0 [0, 2] (fun k : Nat => [(3, .pv (.int .i64 ↑k))]) (fun k => σ) (fun k => k ≤ s.size ∧ NotYet (fun i => !letter (bt s i)) (List.range s.size) k) (fun k => s.size - k) 0 (⟨Nat.zero_le _, .zero⟩) ⟨by simp [go_sem, bt0, bt1, hp], rfl, by simp, by simp, by simp [go_sem, bt0, bt1, hp], fun ob h => .inl (by simpa [go_sem, bt0, bt1, hp] using h), by simp [go_sem]⟩ ?_
     rintro k ⟨hk, hn⟩
     refine awp_seq (awp_seq (aR (by simp [go_sem, bt0, bt1, hp] <;> rfl) ?_))
     refine awp_cond (by first | rfl | (simp [go_sem, bt0, bt1, hp] <;> rfl)) (fun h10 => ?_) (fun h10 => ?_)
     ·have hlt : k < s.size := by simp at h10; omega
      have hw : IntKind.i64.wrap (↑k + 1) = (k : Int) + 1 := wrap_succ (by omega)
      have hr : (List.range s.size)[k]? = some k := by simp [hlt]
      have hz : (k : Int) < s.size := by omega
      refine awp_skip ?_
      refine awp_seq (awp_block ?_)
      refine awp_seq (awp_reg ?_)
      refine aL 3 (by simp [go_sem, bt0, bt1, hp, hz, bt_eq] <;> rfl) ?_
      refine aF call124 ((c_pagodaref01_Letter (bt s k)) _ (by exact hgl)) (by simp [go_sem, bt0, bt1, hp, hz, bt_eq] <;> rfl) (by simp [go_sem, bt0, bt1, hp, hz, bt_eq]) ?_
      refine aL 1 (by simp [go_sem, bt0, bt1, hp, hz, bt_eq] <;> rfl) ?_
      refine al_nil ?_
      refine awp_cond (by first | rfl | (simp [go_sem, bt0, bt1, hp, hz, bt_eq] <;> rfl)) (fun h11 => ?_) (fun h11 => ?_)
      ·refine awp_seq ?_
       refine aR (by simp [go_sem, bt0, bt1, hp, hz, bt_eq] <;> rfl) ?_
       refine awp_ret ?_
       refine inBlock_ret ?_
       refine then_ret ?_
       refine then_ret ?_
       refine inBlock_ret ?_
       refine then_ret ?_
       refine ends_ret (by simp [go_sem] <;> rfl) (by simp [go_sem]) ?_
       have hall : (List.range s.size).all (fun i => letter (bt s i)) = false := all_found hlt (by simpa [bt_eq] using h11)
       exact ⟨by simp only [isSym, hall, bA, bB, bC, bD, bE, bF, bG, bH, bI, bJ, Bool.false_eq_true, if_true, if_false]; simp [go_sem], by simp [go_sem]⟩
      ·refine awp_skip ?_
       refine aR (by simp [go_sem, bt0, bt1, hp, hz, bt_eq] <;> rfl) ?_
       exact next_intro (k + 1) σ.objs.length σ.toks.length 0 (⟨hlt, hn.succ hr (by simpa [bt_eq] using h11)⟩) (by omega) ⟨by simp [go_sem, bt0, bt1, hp, hz, bt_eq, hw], rfl, by simp, by simp, by simp [go_sem, bt0, bt1, hp, hz, bt_eq, hw], fun ob h => .inl (by simpa [go_sem, bt0, bt1, hp, hz, bt_eq, hw] using h), by simp [go_sem]⟩
     ·have hke : k = s.size := by simp at h10; omega
      subst hke
      have hall : (List.range s.size).all (fun i => letter (bt s i)) = true := all_of_notYet hn
      refine awp_exit ?_
      refine then_exit ?_
      refine then_exit ?_
      refine inBlock_hit ?_
      refine awp_seq (aR (by simp [go_sem, bt0, bt1, hp, hall] <;> rfl) ?_)
      refine awp_ret ?_
      refine ends_ret (by simp [go_sem, bt0, bt1, hp, hall] <;> rfl) (by simp [go_sem]) ?_
      exact ⟨by simp only [isSym, bt0, bt1, hp, hall, h0, g0, h1, h2, h3, bA, bB, bC, bD, bE, bF, bG, bH, bI, bJ, Bool.false_eq_true, if_true, if_false]; simp [go_sem], by simp [go_sem]⟩

set_option maxHeartbeats 1000000 in
theorem c_IndexFunc (l : List D) (hl : l.length ≤ 1000000000) (σ : Store) (hgl : σ.gl = (GL kr)) (f : FuncId) (hc : Callable Tryz.prog f) (caps : List AV) (hcaps : AV.noLs caps = true) (p : D → Bool) (hp : ∀ x, x ∈ l → PurAt Tryz.prog σ f (.pv (enc x) :: caps) (.pv (.bool (p x)))) : PurAt Tryz.prog σ 112 [.pv (.slice (l.map enc)), .func (.func f) caps] (.pv (.int .i64 (idxOf p l))) := by
 refine purAt_of ?_
 refine acalls_ofC tyOk Tryz.func112 rfl (by simp [Tryz.f112]) (by simp [go_sem, hcaps]) fun hclo => ?_
 simp [go_sem] at hclo
 refine awp_seq (aR (by simp [go_sem, hcaps, hclo] <;> rfl) ?_)
 refine awp_seq (awp_seq (aR (by simp [go_sem, hcaps, hclo] <;> rfl) ?_))
 refine awp_block ?_
 refine awp_loop_headK σ.objs.length σ.toks.length 0 [0, 1, 4, 7] (fun k : Nat => [(8, .pv (.int .i64 ↑k))]) (fun k => σ) (fun k => k ≤ l.length ∧ NotYet (p) l k) (fun k => l.length - k) 0 (⟨Nat.zero_le _, .zero⟩) ⟨by simp [go_sem, hcaps, hclo, AV.clos], rfl, by simp, by simp, by simp [go_sem, hcaps, hclo, AV.clos], fun ob h => .inl (by simpa [go_sem, hcaps, hclo, AV.clos] using h), by simp [go_sem]⟩ ?_
 rintro k ⟨hk, hn⟩
 refine awp_seq (aR (by simp [go_sem, hcaps, hclo] <;> rfl) ?_)
 refine awp_seq (awp_cond (by first | rfl | (simp [go_sem, hcaps, hclo] <;> rfl)) (fun h0 => ?_) (fun h0 => ?_))
 ·have hlt : k < l.length := by simp at h0; omega
  have hw : IntKind.i64.wrap (↑k + 1) = (k : Int) + 1 := wrap_succ (by omega)
  obtain ⟨x, hx, hxm⟩ := get_lt hlt
  refine awp_skip ?_
  refine awp_seq (awp_block ?_)
  refine awp_seq (aR (by simp [go_sem, hcaps, hclo, hx] <;> rfl) ?_)
  refine awp_seq (awp_reg ?_)
  refine aL 5 (by simp [go_sem, hcaps, hclo, hx] <;> rfl) ?_
  refine al_fn rfl rfl rfl (by simp [go_sem, hcaps, hclo, hx] <;> rfl) hc (hp x hxm) (by simp [go_sem, hcaps, hclo, hx] <;> rfl) (by simp [go_sem, hcaps, hclo, hx]) (by simp [go_sem, hcaps]) rfl ?_
  refine al_nil ?_
  refine awp_cond (by first | rfl | (simp [go_sem, hcaps, hclo, hx] <;> rfl)) (fun h1 => ?_) (fun h1 => ?_)
  ·refine awp_seq ?_
   refine aR (by simp [go_sem, hcaps, hclo, hx] <;> rfl) ?_
   refine awp_ret ?_
   refine inBlock_ret ?_
   refine then_ret ?_
   refine then_ret ?_
   refine inBlock_ret ?_
   refine then_ret ?_
   refine ends_ret (by simp [go_sem] <;> rfl) (by simp [go_sem]) ?_
   exact ⟨by simp [go_sem, idxOf_found hn hx h1], by simp [go_sem]⟩
  ·refine awp_skip ?_
   refine aR (by simp [go_sem, hcaps, hclo, hx] <;> rfl) ?_
   exact next_intro (k + 1) σ.objs.length σ.toks.length 0 (⟨hlt, hn.succ hx h1⟩) (by omega) ⟨by simp [go_sem, hcaps, hclo, hx, hw], rfl, by simp, by simp, by simp [go_sem, hcaps, hclo, hx, hw], fun ob h => .inl (by simpa [go_sem, hcaps, hclo, hx, hw] using h), by simp [go_sem]⟩
 ·have hke : k = l.length := by simp at h0; omega
  subst hke
  have hno := idxOf_none hn
  refine awp_exit ?_
  refine then_exit ?_
  refine then_exit ?_
  refine inBlock_hit ?_
  refine awp_seq (aR (by simp [go_sem, hcaps, hclo] <;> rfl) ?_)
  refine awp_ret ?_
  refine ends_ret (by simp [go_sem] <;> rfl) (by simp [go_sem]) ?_
  exact ⟨by simp [go_sem, hno], by simp [go_sem]⟩

set_option maxHeartbeats 1000000 in
theorem c_ContainsFunc (l : List D) (hl : l.length ≤ 1000000000) (σ : Store) (hgl : σ.gl = (GL kr)) (f : FuncId) (hc : Callable Tryz.prog f) (caps : List AV) (hcaps : AV.noLs caps = true) (p : D → Bool) (hp : ∀ x, x ∈ l → PurAt Tryz.prog σ f (.pv (enc x) :: caps) (.pv (.bool (p x)))) : PurAt Tryz.prog σ 125 [.pv (.slice (l.map enc)), .func (.func f) caps] (.pv (.bool (l.any p))) := by
 refine purAt_of ?_
 refine acalls_of tyOk Tryz.func125 rfl (by simp [Tryz.f125]) ?_
 refine awp_seq (aR (by simp [go_sem] <;> rfl) ?_)
 refine awp_seq (awp_reg ?_)
 refine aL 2 (by simp [go_sem] <;> rfl) ?_
 refine al_fn rfl rfl rfl (by simp [go_sem] <;> rfl) call112 (c_IndexFunc l hl σ hgl f hc caps hcaps p hp) (by simp [go_sem] <;> rfl) (by simp [go_sem]) (by simp [go_sem, hcaps]) rfl ?_
 refine aL 2 (by simp [go_sem] <;> rfl) ?_
 refine al_nil ?_
 refine awp_ret ?_
 refine ends_ret (by simp [go_sem] <;> rfl) (by simp [go_sem]) ?_
 exact ⟨by simp [go_sem, ← idxOf_any], by simp [go_sem]⟩

set_option maxHeartbeats 1000000 in
theorem c_Index (l : List ByteArray) (hl : l.length ≤ 1000000000) (t : ByteArray) : Pur Tryz.prog (GL kr) 119 [.pv (.slice (l.map .str)), .pv (.str t)] (.pv (.int .i64 (idxOf (fun x => decide (t = x)) l))) := by
 refine pur_of fun σ hgl => ?_
 refine acalls_of tyOk Tryz.func119 rfl (by simp [Tryz.f119]) ?_
 refine awp_seq (aR (by simp [go_sem] <;> rfl) ?_)
 refine awp_seq (awp_seq (aR (by simp [go_sem] <;> rfl) ?_))
 refine awp_block ?_
 refine awp_loop_headK σ.objs.length σ.toks.length 0 [0, 1, 4, 7] (fun k : Nat => [(8, .pv (.int .i64 ↑k))]) (fun k => σ) (fun k => k ≤ l.length ∧ NotYet (fun x => decide (t = x)) l k) (fun k => l.length - k) 0 (⟨Nat.zero_le _, .zero⟩) ⟨by simp [go_sem], rfl, by simp, by simp, by simp [go_sem], fun ob h => .inl (by simpa [go_sem] using h), by simp [go_sem]⟩ ?_
 rintro k ⟨hk, hn⟩
 refine awp_seq (aR (by simp [go_sem] <;> rfl) ?_)
 refine awp_seq (awp_cond (by first | rfl | (simp [go_sem] <;> rfl)) (fun h0 => ?_) (fun h0 => ?_))
 ·have hlt : k < l.length := by simp at h0; omega
  have hw : IntKind.i64.wrap (↑k + 1) = (k : Int) + 1 := wrap_succ (by omega)
  obtain ⟨x, hx, hxm⟩ := get_lt hlt
  refine awp_skip ?_
  refine awp_seq (awp_block ?_)
  refine awp_seq (aR (by simp [go_sem, hx] <;> rfl) ?_)
  refine awp_seq (aR (by simp [go_sem, hx] <;> rfl) ?_)
  refine awp_cond (by first | rfl | (simp [go_sem, hx] <;> rfl)) (fun h1 => ?_) (fun h1 => ?_)
  ·refine awp_seq ?_
   refine aR (by simp [go_sem, hx] <;> rfl) ?_
   refine awp_ret ?_
   refine inBlock_ret ?_
   refine then_ret ?_
   refine then_ret ?_
   refine inBlock_ret ?_
   refine then_ret ?_
   refine ends_ret (by simp [go_sem] <;> rfl) (by simp [go_sem]) ?_
   exact ⟨by simp [go_sem, idxOf_found hn hx h1], by simp [go_sem]⟩
  ·refine awp_skip ?_
   refine aR (by simp [go_sem, hx] <;> rfl) ?_
   exact next_intro (k + 1) σ.objs.length σ.toks.length 0 (⟨hlt, hn.succ hx h1⟩) (by omega) ⟨by simp [go_sem, hx, hw], rfl, by simp, by simp, by simp [go_sem, hx, hw], fun ob h => .inl (by simpa [go_sem, hx, hw] using h), by simp [go_sem]⟩
 ·have hke : k = l.length := by simp at h0; omega
  subst hke
  have hno := idxOf_none hn
  refine awp_exit ?_
  refine then_exit ?_
  refine then_exit ?_
  refine inBlock_hit ?_
  refine awp_seq (aR (by simp [go_sem] <;> rfl) ?_)
  refine awp_ret ?_
  refine ends_ret (by simp [go_sem] <;> rfl) (by simp [go_sem]) ?_
  exact ⟨by simp [go_sem, hno], by simp [go_sem]⟩

set_option maxHeartbeats 1000000 in
theorem c_Contains (l : List ByteArray) (hl : l.length ≤ 1000000000) (t : ByteArray) : Pur Tryz.prog (GL kr) 91 [.pv (.slice (l.map .str)), .pv (.str t)] (.pv (.bool (l.any fun x => decide (t = x)))) := by
 refine pur_of fun σ hgl => ?_
 refine acalls_of tyOk Tryz.func91 rfl (by simp [Tryz.f91]) ?_
 refine awp_seq (aR (by simp [go_sem] <;> rfl) ?_)
 refine awp_seq (awp_reg ?_)
 refine aL 2 (by simp [go_sem] <;> rfl) ?_
 refine aF call119 ((c_Index l hl t) _ (by exact hgl)) (by simp [go_sem] <;> rfl) (by simp [go_sem]) ?_
 refine aL 2 (by simp [go_sem] <;> rfl) ?_
 refine al_nil ?_
 refine awp_ret ?_
 refine ends_ret (by simp [go_sem] <;> rfl) (by simp [go_sem]) ?_
 exact ⟨by simp [go_sem, ← idxOf_any], by simp [go_sem]⟩

theorem gl_res : lookupG (GL kr) 0 = some (.ptr [.map kr.l resV]) := by simp [GL, flatG, lookupG]
theorem gl_prim : lookupG (GL kr) 1 = some (.ptr [.slice (primL.map encPrim)]) := by simp [GL, flatG, lookupG]
theorem look_named {s : St} {x : ByteArray} : lookAV ty s 70 (.pv (.map kr.l resV)) (.pv (.str x)) false = some (.pv (.bool (isRes x))) := look_res rfl rfl rfl rfl rfl rfl rfl

end Go.Proofs.YtienmmfjjffjaaaGreatDoor

/- Contracts of functions on data. -/
namespace Go.Proofs.YtienmmfjjffjaaaGreatDoor
open Go Go.Aw
variable {kr : ResO}
set_option maxHeartbeats 1000000 in
theorem c_formed_1 (d : D) (h : Pur Tryz.prog (GL kr) 108 [.pv (enc d)] (.pv (.bool (formed d)))) : Pur Tryz.prog (GL kr) 128 [.pv (enc d)] (.pv (.bool (!formed d))) := by
 refine pur_of fun σ hgl => ?_
 refine acalls_of tyOk Tryz.func128 rfl (by simp [Tryz.f128]) ?_
 refine awp_seq (aR (by simp [go_sem] <;> rfl) ?_)
 refine awp_seq (awp_reg ?_)
 refine aL 1 (by simp [go_sem] <;> rfl) ?_
 refine aF call108 ((h) _ (by exact hgl)) (by simp [go_sem] <;> rfl) (by simp [go_sem]) ?_
 refine aL 2 (by simp [go_sem] <;> rfl) ?_
 refine al_nil ?_
 refine awp_ret ?_
 refine ends_ret (by simp [go_sem] <;> rfl) (by simp [go_sem]) ?_
 exact ⟨by simp [go_sem], by simp [go_sem]⟩

set_option maxHeartbeats 1000000 in
theorem c_datum_formed (d : D) (hd : d.size ≤ 1000000000) : Pur Tryz.prog (GL kr) 108 [.pv (enc d)] (.pv (.bool (formed d))) := by
 induction d using D.ind with
 | _ kind num text kids ih =>
 generalize hD : D.mk kind num text kids = d at *
 have hk : d.kids = kids := by rw [← hD]; rfl
 clear hD
 subst hk
 have hkl := D.kids_length_lt d
 refine pur_of fun σ hgl => ?_
 refine acalls_of tyOk Tryz.func108 rfl (by simp [Tryz.f108]) ?_
 refine awp_seq (aR (by simp [go_sem] <;> rfl) ?_)
 refine awp_seq (awp_seq (aR (by simp [go_sem] <;> rfl) ?_))
 refine awp_block ?_
 refine awp_seq (aR (by simp [go_sem] <;> rfl) ?_)
 refine awp_cond (by first | rfl | (simp [go_sem] <;> rfl)) (fun h0 => ?_) (fun h0 => ?_)
 ·refine awp_seq ?_
  refine awp_reg ?_
  refine aL 4 (by simp [go_sem] <;> rfl) ?_
  refine al_splitT 10 (by first | rfl | (simp [go_sem] <;> rfl)) (fun h1 => ?_) (fun h1 => ?_)
  ·refine aLG 4 10 true (by simp [go_sem] <;> rfl) ?_
   refine aL 2 (by simp [go_sem] <;> rfl) ?_
   refine al_nil ?_
   refine awp_ret ?_
   refine inBlock_ret ?_
   refine then_ret ?_
   refine ends_ret (by simp [go_sem] <;> rfl) (by simp [go_sem]) ?_
   have hs := formed_eq d
   simp only [Bool.not_true, h0, h1, bA, bB, bC, bD, bE, bF, bG, bH, bI, bJ, Bool.false_eq_true, if_true, if_false] at hs
   exact ⟨by simp [go_sem, hs], by simp [go_sem]⟩
  ·refine aK 4 10 true ?_
   refine aL 2 (by simp [go_sem] <;> rfl) ?_
   refine al_nil ?_
   refine awp_ret ?_
   refine inBlock_ret ?_
   refine then_ret ?_
   refine ends_ret (by simp [go_sem] <;> rfl) (by simp [go_sem]) ?_
   have hs := formed_eq d
   simp only [Bool.not_true, h0, h1, bA, bB, bC, bD, bE, bF, bG, bH, bI, bJ, Bool.false_eq_true, if_true, if_false] at hs
   exact ⟨by simp [go_sem, hs], by simp [go_sem]⟩
 ·refine awp_seq ?_
  refine aR (by simp [go_sem] <;> rfl) ?_
  refine awp_cond (by first | rfl | (simp [go_sem] <;> rfl)) (fun h2 => ?_) (fun h2 => ?_)
  ·refine awp_seq ?_
   refine awp_reg ?_
   refine aL 4 (by simp [go_sem] <;> rfl) ?_
   refine al_splitT 21 (by first | rfl | (simp [go_sem] <;> rfl)) (fun h3 => ?_) (fun h3 => ?_)
   ·refine aLG 4 21 true (by simp [go_sem] <;> rfl) ?_
    refine aL 2 (by simp [go_sem] <;> rfl) ?_
    refine al_splitT 27 (by first | rfl | (simp [go_sem] <;> rfl)) (fun h4 => ?_) (fun h4 => ?_)
    ·refine aLG 2 27 true (by simp [go_sem] <;> rfl) ?_
     refine al_fnG 27 true true (by simp [go_sem]) rfl (by simp [go_sem]) rfl rfl (by simp [go_sem] <;> rfl) call127 ((c_datum_IsSymbol d.text) _ (by exact hgl)) (by simp [go_sem] <;> rfl) (by simp [go_sem]) rfl rfl ?_
     refine aL 2 (by simp [go_sem] <;> rfl) ?_
     refine al_nil ?_
     refine awp_ret ?_
     refine inBlock_ret ?_
     refine then_ret ?_
     refine ends_ret (by simp [go_sem] <;> rfl) (by simp [go_sem]) ?_
     have hs := formed_eq d
     simp only [Bool.not_true, h0, h2, h3, h4, bA, bB, bC, bD, bE, bF, bG, bH, bI, bJ, Bool.false_eq_true, if_true, if_false] at hs
     exact ⟨by simp [go_sem, hs], by simp [go_sem]⟩
    ·refine aK 3 27 true ?_
     refine aL 2 (by simp [go_sem] <;> rfl) ?_
     refine al_nil ?_
     refine awp_ret ?_
     refine inBlock_ret ?_
     refine then_ret ?_
     refine ends_ret (by simp [go_sem] <;> rfl) (by simp [go_sem]) ?_
     have hs := formed_eq d
     simp only [Bool.not_true, h0, h2, h3, h4, bA, bB, bC, bD, bE, bF, bG, bH, bI, bJ, Bool.false_eq_true, if_true, if_false] at hs
     exact ⟨by simp [go_sem, hs], by simp [go_sem]⟩
   ·refine aK 4 21 true ?_
    refine aL 2 (by simp [go_sem] <;> rfl) ?_
    refine aK 3 27 true ?_
    refine aL 2 (by simp [go_sem] <;> rfl) ?_
    refine al_nil ?_
    refine awp_ret ?_
    refine inBlock_ret ?_
    refine then_ret ?_
    refine ends_ret (by simp [go_sem] <;> rfl) (by simp [go_sem]) ?_
    have hs := formed_eq d
    simp only [Bool.not_true, h0, h2, h3, bA, bB, bC, bD, bE, bF, bG, bH, bI, bJ, Bool.false_eq_true, if_true, if_false] at hs
    exact ⟨by simp [go_sem, hs], by simp [go_sem]⟩
  ·refine awp_seq ?_
   refine aR (by simp [go_sem] <;> rfl) ?_
   refine awp_cond (by first | rfl | (simp [go_sem] <;> rfl)) (fun h5 => ?_) (fun h5 => ?_)
   ·refine awp_seq ?_
    refine awp_reg ?_
    refine aL 4 (by simp [go_sem] <;> rfl) ?_
    refine al_splitT 37 (by first | rfl | (simp [go_sem] <;> rfl)) (fun h6 => ?_) (fun h6 => ?_)
    ·refine aLG 3 37 true (by simp [go_sem] <;> rfl) ?_
     refine aL 2 (by simp [go_sem] <;> rfl) ?_
     refine al_splitT 42 (by first | rfl | (simp [go_sem] <;> rfl)) (fun h7 => ?_) (fun h7 => ?_)
     ·refine aLG 2 42 true (by simp [go_sem] <;> rfl) ?_
      refine al_fnG 42 true true (by simp [go_sem]) rfl (by simp [go_sem]) rfl rfl (by simp [go_sem] <;> rfl) call125 (c_ContainsFunc d.kids (by omega) σ hgl 128 call128 [] rfl (fun x => !formed x) (fun x hx => c_formed_1 x (ih x hx (by have := D.size_kid_lt hx; omega)) σ hgl)) (by simp [go_sem] <;> rfl) (by simp [go_sem]) rfl rfl ?_
      refine aLG 1 42 true (by simp [go_sem] <;> rfl) ?_
      refine aL 2 (by simp [go_sem] <;> rfl) ?_
      refine al_nil ?_
      refine awp_ret ?_
      refine inBlock_ret ?_
      refine then_ret ?_
      refine ends_ret (by simp [go_sem] <;> rfl) (by simp [go_sem]) ?_
      have hs := formed_eq d
      simp only [Bool.not_true, h0, h2, h5, h6, h7, bA, bB, bC, bD, bE, bF, bG, bH, bI, bJ, Bool.false_eq_true, if_true, if_false] at hs
      exact ⟨by simp [go_sem, hs], by simp [go_sem]⟩
     ·refine aK 4 42 true ?_
      refine aL 2 (by simp [go_sem] <;> rfl) ?_
      refine al_nil ?_
      refine awp_ret ?_
      refine inBlock_ret ?_
      refine then_ret ?_
      refine ends_ret (by simp [go_sem] <;> rfl) (by simp [go_sem]) ?_
      have hs := formed_eq d
      simp only [Bool.not_true, h0, h2, h5, h6, h7, bA, bB, bC, bD, bE, bF, bG, bH, bI, bJ, Bool.false_eq_true, if_true, if_false] at hs
      exact ⟨by simp [go_sem, hs], by simp [go_sem]⟩
    ·refine aK 3 37 true ?_
     refine aL 2 (by simp [go_sem] <;> rfl) ?_
     refine aK 4 42 true ?_
     refine aL 2 (by simp [go_sem] <;> rfl) ?_
     refine al_nil ?_
     refine awp_ret ?_
     refine inBlock_ret ?_
     refine then_ret ?_
     refine ends_ret (by simp [go_sem] <;> rfl) (by simp [go_sem]) ?_
     have hs := formed_eq d
     simp only [Bool.not_true, h0, h2, h5, h6, bA, bB, bC, bD, bE, bF, bG, bH, bI, bJ, Bool.false_eq_true, if_true, if_false] at hs
     exact ⟨by simp [go_sem, hs], by simp [go_sem]⟩
   ·refine awp_skip ?_
    refine awp_seq (aR (by simp [go_sem] <;> rfl) ?_)
    refine awp_ret ?_
    refine ends_ret (by simp [go_sem] <;> rfl) (by simp [go_sem]) ?_
    have hs := formed_eq d
    simp only [Bool.not_true, h0, h2, h5, bA, bB, bC, bD, bE, bF, bG, bH, bI, bJ, Bool.false_eq_true, if_true, if_false] at hs
    exact ⟨by simp [go_sem, hs], by simp [go_sem]⟩

set_option maxHeartbeats 1000000 in
theorem c_flat_Kids (d : D) (n : Int) (more : Bool) : Pur Tryz.prog (GL kr) 117 [.pv (enc d), .pv (.int .i64 n), .pv (.bool more)] (.pv (encO (kidsOf d n more))) := by
 refine pur_of fun σ hgl => ?_
 refine acalls_of tyOk Tryz.func117 rfl (by simp [Tryz.f117]) ?_
 refine awp_seq (aR (by simp [go_sem] <;> rfl) ?_)
 refine awp_seq (awp_seq (awp_reg ?_))
 refine aL 4 (by simp [go_sem] <;> rfl) ?_
 refine al_splitT 10 (by first | rfl | (simp [go_sem] <;> rfl)) (fun h0 => ?_) (fun h0 => ?_)
 ·refine aK 5 10 false ?_
  refine aL 2 (by simp [go_sem] <;> rfl) ?_
  refine aK 3 17 false ?_
  refine aK 5 20 true ?_
  refine aK 1 17 false ?_
  refine aL 1 (by simp [go_sem] <;> rfl) ?_
  refine al_nil ?_
  refine awp_cond (b := true) (by simp [go_sem, h0]) (fun h => ?_) (fun h => ?_)
  rotate_left
  ·cases h
  refine awp_seq (aR (by simp [go_sem] <;> rfl) ?_)
  refine awp_ret ?_
  refine then_ret ?_
  refine ends_ret (by simp [go_sem] <;> rfl) (by simp [go_sem]) ?_
  have hs : kidsOf d n more = _ := rfl
  unfold kidsOf at hs
  simp only [Bool.not_true, h0, bA, bB, bC, bD, bE, bF, bG, bH, bI, bJ, Bool.false_eq_true, if_true, if_false] at hs
  exact ⟨by simp [go_sem, kidsOf, encO, h0], by simp [go_sem]⟩
 ·refine aLG 5 10 false (by simp [go_sem] <;> rfl) ?_
  refine aL 2 (by simp [go_sem] <;> rfl) ?_
  refine al_splitT 17 (by first | rfl | (simp [go_sem] <;> rfl)) (fun h1 => ?_) (fun h1 => ?_)
  ·refine aK 3 17 false ?_
   refine aK 5 20 true ?_
   refine aK 1 17 false ?_
   refine aL 1 (by simp [go_sem] <;> rfl) ?_
   refine al_nil ?_
   refine awp_cond (b := true) (by simp [go_sem, h0, h1]) (fun h => ?_) (fun h => ?_)
   rotate_left
   ·cases h
   refine awp_seq (aR (by simp [go_sem] <;> rfl) ?_)
   refine awp_ret ?_
   refine then_ret ?_
   refine ends_ret (by simp [go_sem] <;> rfl) (by simp [go_sem]) ?_
   have hs : kidsOf d n more = _ := rfl
   unfold kidsOf at hs
   simp only [Bool.not_true, h0, h1, bA, bB, bC, bD, bE, bF, bG, bH, bI, bJ, Bool.false_eq_true, if_true, if_false] at hs
   exact ⟨by simp [go_sem, kidsOf, encO, h0, h1], by simp [go_sem]⟩
  ·refine aLG 3 17 false (by simp [go_sem] <;> rfl) ?_
   refine al_splitT 20 (by first | rfl | (simp [go_sem] <;> rfl)) (fun h2 => ?_) (fun h2 => ?_)
   ·refine aLG 5 20 true (by simp [go_sem] <;> rfl) ?_
    refine aLG 1 17 false (by simp [go_sem] <;> rfl) ?_
    refine aL 1 (by simp [go_sem] <;> rfl) ?_
    refine al_nil ?_
    refine awp_cond (by first | rfl | (simp [go_sem] <;> rfl)) (fun h3 => ?_) (fun h3 => ?_)
    ·refine awp_seq ?_
     refine aR (by simp [go_sem] <;> rfl) ?_
     refine awp_ret ?_
     refine then_ret ?_
     refine ends_ret (by simp [go_sem] <;> rfl) (by simp [go_sem]) ?_
     have hs : kidsOf d n more = _ := rfl
     unfold kidsOf at hs
     simp only [Bool.not_true, h0, h1, h2, h3, bA, bB, bC, bD, bE, bF, bG, bH, bI, bJ, Bool.false_eq_true, if_true, if_false] at hs
     exact ⟨by simp [go_sem, kidsOf, encO, h0, h1, h2, h3], by simp [go_sem]⟩
    ·refine awp_skip ?_
     refine awp_seq (aR (by simp [go_sem] <;> rfl) ?_)
     refine awp_ret ?_
     refine ends_ret (by simp [go_sem] <;> rfl) (by simp [go_sem]) ?_
     have hs : kidsOf d n more = _ := rfl
     unfold kidsOf at hs
     simp only [Bool.not_true, h0, h1, h2, h3, bA, bB, bC, bD, bE, bF, bG, bH, bI, bJ, Bool.false_eq_true, if_true, if_false] at hs
     exact ⟨by simp [go_sem, kidsOf, encO, h0, h1, h2, h3], by simp [go_sem]⟩
   ·refine aK 5 20 true ?_
    refine aLG 1 17 false (by simp [go_sem] <;> rfl) ?_
    refine aL 1 (by simp [go_sem] <;> rfl) ?_
    refine al_nil ?_
    refine awp_cond (b := false) (by simp [go_sem, h0, h1, h2]) (fun h => ?_) (fun h => ?_)
    ·cases h
    refine awp_skip ?_
    refine awp_seq (aR (by simp [go_sem] <;> rfl) ?_)
    refine awp_ret ?_
    refine ends_ret (by simp [go_sem] <;> rfl) (by simp [go_sem]) ?_
    have hs : kidsOf d n more = _ := rfl
    unfold kidsOf at hs
    simp only [Bool.not_true, h0, h1, h2, bA, bB, bC, bD, bE, bF, bG, bH, bI, bJ, Bool.false_eq_true, if_true, if_false] at hs
    exact ⟨by simp [go_sem, kidsOf, encO, h0, h1, h2], by simp [go_sem]⟩

set_option maxHeartbeats 1000000 in
theorem c_node_IsName (d : D) : Pur Tryz.prog (GL kr) 90 [.pv (enc d)] (.pv (.bool (isName d))) := by
 refine pur_of fun σ hgl => ?_
 refine acalls_of tyOk Tryz.func90 rfl (by simp [Tryz.f90]) ?_
 refine awp_seq (aR (by simp [go_sem] <;> rfl) ?_)
 refine awp_seq ?_
 have hg0 : lookupG σ.gl 0 = some (.ptr [.map kr.l resV]) := by rw [hgl]; exact gl_res
 refine awp_reg ?_
 refine aL 4 (by simp [go_sem, hg0, look_named] <;> rfl) ?_
 refine al_splitT 6 (by first | rfl | (simp [go_sem, hg0, look_named] <;> rfl)) (fun h0 => ?_) (fun h0 => ?_)
 ·refine aLG 5 6 true (by simp [go_sem, hg0, look_named] <;> rfl) ?_
  refine aL 2 (by simp [go_sem, hg0, look_named] <;> rfl) ?_
  refine al_nil ?_
  refine awp_ret ?_
  refine ends_ret (by simp [go_sem, hg0, look_named] <;> rfl) (by simp [go_sem]) ?_
  exact ⟨by simp [go_sem, hg0, look_named, h0, isName], by simp [go_sem]⟩
 ·refine aK 5 6 true ?_
  refine aL 2 (by simp [go_sem, hg0, look_named] <;> rfl) ?_
  refine al_nil ?_
  refine awp_ret ?_
  refine ends_ret (by simp [go_sem, hg0, look_named] <;> rfl) (by simp [go_sem]) ?_
  exact ⟨by simp [go_sem, hg0, look_named, h0, isName], by simp [go_sem]⟩

set_option maxHeartbeats 1000000 in
theorem c_node_Label (d : D) : Pur Tryz.prog (GL kr) 118 [.pv (enc d)] (.pv (.bool (isLabel d))) := by
 refine pur_of fun σ hgl => ?_
 refine acalls_of tyOk Tryz.func118 rfl (by simp [Tryz.f118]) ?_
 refine awp_seq (aR (by simp [go_sem] <;> rfl) ?_)
 refine awp_seq (awp_seq (aR (by simp [go_sem] <;> rfl) ?_))
 refine awp_cond (by first | rfl | (simp [go_sem] <;> rfl)) (fun h0 => ?_) (fun h0 => ?_)
 ·refine awp_seq ?_
  refine awp_reg ?_
  refine aL 4 (by simp [go_sem] <;> rfl) ?_
  refine al_splitT 9 (by first | rfl | (simp [go_sem] <;> rfl)) (fun h1 => ?_) (fun h1 => ?_)
  ·refine aLG 3 9 true (by simp [go_sem] <;> rfl) ?_
   refine aL 2 (by simp [go_sem] <;> rfl) ?_
   refine al_nil ?_
   refine awp_ret ?_
   refine then_ret ?_
   refine ends_ret (by simp [go_sem] <;> rfl) (by simp [go_sem]) ?_
   exact ⟨by simp only [isLabel, h0, h1, bA, bB, bC, bD, bE, bF, bG, bH, bI, bJ, Bool.false_eq_true, if_true, if_false]; simp [go_sem], by simp [go_sem]⟩
  ·refine aK 3 9 true ?_
   refine aL 2 (by simp [go_sem] <;> rfl) ?_
   refine al_nil ?_
   refine awp_ret ?_
   refine then_ret ?_
   refine ends_ret (by simp [go_sem] <;> rfl) (by simp [go_sem]) ?_
   exact ⟨by simp only [isLabel, h0, h1, bA, bB, bC, bD, bE, bF, bG, bH, bI, bJ, Bool.false_eq_true, if_true, if_false]; simp [go_sem], by simp [go_sem]⟩
 ·refine awp_skip ?_
  refine awp_seq (awp_reg ?_)
  refine aL 1 (by simp [go_sem] <;> rfl) ?_
  refine aF call90 ((c_node_IsName d) _ (by exact hgl)) (by simp [go_sem] <;> rfl) (by simp [go_sem]) ?_
  refine aL 1 (by simp [go_sem] <;> rfl) ?_
  refine al_nil ?_
  refine awp_ret ?_
  refine ends_ret (by simp [go_sem] <;> rfl) (by simp [go_sem]) ?_
  exact ⟨by simp only [isLabel, h0, bA, bB, bC, bD, bE, bF, bG, bH, bI, bJ, Bool.false_eq_true, if_true, if_false]; simp [go_sem], by simp [go_sem]⟩

set_option maxHeartbeats 1000000 in
theorem c_flat_Parts (d : D) (h : d.kind = 3 → d.kids ≠ []) (hp2 : d.kind = 3 → d.head.text = sLet ∨ d.head.text = sCall → 2 ≤ d.kids.length) : Pur Tryz.prog (GL kr) 96 [.pv (enc d)] (.pv (.slice ((parts d).map enc))) := by
 refine pur_of fun σ hgl => ?_
 refine acalls_of tyOk Tryz.func96 rfl (by simp [Tryz.f96]) ?_
 refine awp_seq (aR (by simp [go_sem] <;> rfl) ?_)
 refine awp_seq (awp_seq (aR (by simp [go_sem] <;> rfl) ?_))
 refine awp_cond (by first | rfl | (simp [go_sem] <;> rfl)) (fun h0 => ?_) (fun h0 => ?_)
 ·refine awp_seq ?_
  refine aR (by simp [go_sem] <;> rfl) ?_
  refine awp_ret ?_
  refine then_ret ?_
  refine ends_ret (by simp [go_sem] <;> rfl) (by simp [go_sem]) ?_
  exact ⟨by simp only [parts, h0, bA, bB, bC, bD, bE, bF, bG, bH, bI, bJ, Bool.false_eq_true, if_true, if_false]; simp [go_sem], by simp [go_sem]⟩
 ·refine awp_skip ?_
  refine awp_seq ?_
  refine awp_seq ?_
  have hk3 : d.kind = 3 := by simpa using h0
  obtain ⟨x, r, hx⟩ := kids_cons (h hk3)
  have hh : d.head = x := by simp [D.head, hx]
  rw [hh] at hp2
  have hr0 : (0 : Int) ≤ r.length := by omega
  have hr1 : (1 : Int) ≤ (r.length : Int) + 1 := by omega
  refine aR (by simp [go_sem, hx, hr1] <;> rfl) ?_
  refine awp_block ?_
  refine awp_seq (aR (by simp [go_sem, hx, hr1] <;> rfl) ?_)
  refine awp_cond (by first | rfl | (simp [go_sem, hx, hr1] <;> rfl)) (fun h1 => ?_) (fun h1 => ?_)
  ·refine awp_seq ?_
   refine aR (by simp [go_sem, hx, hr1] <;> rfl) ?_
   refine awp_ret ?_
   refine inBlock_ret ?_
   refine then_ret ?_
   refine ends_ret (by simp [go_sem] <;> rfl) (by simp [go_sem]) ?_
   exact ⟨by simp only [parts, hh, sQuote, sLet, sCall, hx, hr1, h0, h1, bA, bB, bC, bD, bE, bF, bG, bH, bI, bJ, Bool.false_eq_true, if_true, if_false, hx, List.drop_succ_cons, List.drop_zero]; simp [go_sem], by simp [go_sem]⟩
  ·refine awp_seq ?_
   refine awp_seq (aR (by simp [go_sem, hx, hr1] <;> rfl) ?_)
   refine awp_cond (by first | rfl | (simp [go_sem, hx, hr1] <;> rfl)) (fun h2 => ?_) (fun h2 => ?_)
   ·refine awp_skip ?_
    refine awp_cond (b := true) (by simp [go_sem, hx, hr1, h0, h1, h2]) (fun h => ?_) (fun h => ?_)
    rotate_left
    ·cases h
    refine awp_seq ?_
    have hr2 : (2 : Int) ≤ (r.length : Int) + 1 := by have h3 := hp2 hk3 (by first | exact .inl (of_decide_eq_true h2) | exact .inr (of_decide_eq_true h2)); rw [hx] at h3; simp at h3; omega
    refine aR (by simp [go_sem, hx, hr1, hr2] <;> rfl) ?_
    refine awp_ret ?_
    refine inBlock_ret ?_
    refine then_ret ?_
    refine ends_ret (by simp [go_sem] <;> rfl) (by simp [go_sem]) ?_
    exact ⟨by simp only [parts, hh, sQuote, sLet, sCall, hx, hr1, hr2, h0, h1, h2, bA, bB, bC, bD, bE, bF, bG, bH, bI, bJ, Bool.false_eq_true, if_true, if_false, hx, List.drop_succ_cons, List.drop_zero]; simp [go_sem], by simp [go_sem]⟩
   ·refine aR (by simp [go_sem, hx, hr1] <;> rfl) ?_
    refine awp_cond (by first | rfl | (simp [go_sem, hx, hr1] <;> rfl)) (fun h3 => ?_) (fun h3 => ?_)
    ·refine awp_seq ?_
     have hr2 : (2 : Int) ≤ (r.length : Int) + 1 := by have h3 := hp2 hk3 (by first | exact .inl (of_decide_eq_true h3) | exact .inr (of_decide_eq_true h3)); rw [hx] at h3; simp at h3; omega
     refine aR (by simp [go_sem, hx, hr1, hr2] <;> rfl) ?_
     refine awp_ret ?_
     refine inBlock_ret ?_
     refine then_ret ?_
     refine ends_ret (by simp [go_sem] <;> rfl) (by simp [go_sem]) ?_
     exact ⟨by simp only [parts, hh, sQuote, sLet, sCall, hx, hr1, hr2, h0, h1, h2, h3, bA, bB, bC, bD, bE, bF, bG, bH, bI, bJ, Bool.false_eq_true, if_true, if_false, hx, List.drop_succ_cons, List.drop_zero]; simp [go_sem], by simp [go_sem]⟩
    ·refine awp_skip ?_
     refine awp_seq (aR (by simp [go_sem, hx, hr1] <;> rfl) ?_)
     refine awp_ret ?_
     refine ends_ret (by simp [go_sem] <;> rfl) (by simp [go_sem]) ?_
     exact ⟨by simp only [parts, hh, sQuote, sLet, sCall, hx, hr1, h0, h1, h2, h3, bA, bB, bC, bD, bE, bF, bG, bH, bI, bJ, Bool.false_eq_true, if_true, if_false, hx, List.drop_succ_cons, List.drop_zero]; simp [go_sem], by simp [go_sem]⟩

end Go.Proofs.YtienmmfjjffjaaaGreatDoor

/- Contracts of functions on data, two. -/
namespace Go.Proofs.YtienmmfjjffjaaaGreatDoor
open Go Go.Aw
variable {kr : ResO}
set_option maxHeartbeats 1000000 in
theorem c_own_acc (d : D) (hd : d.size ≤ 1000000000) : ∀ σ : Store, σ.gl = (GL kr) → ACalls Tryz.prog 48 [.pv (enc d)] σ (ownR 24 d σ) := by
 induction d using D.ind with
 | _ kind num text kids ih =>
 generalize hD : D.mk kind num text kids = d at *
 have hk : d.kids = kids := by rw [← hD]; rfl
 clear hD
 subst hk
 have hkl := D.kids_length_lt d
 intro σ hgl
 refine acalls_of tyOk Tryz.func48 rfl (by simp [Tryz.f48]) ?_
 refine awp_seq (aR (by simp [go_sem] <;> rfl) ?_)
 refine awp_seq (aR (by simp [go_sem] <;> rfl) ?_)
 refine awp_seq (awp_seq (aR (by simp [go_sem] <;> rfl) ?_))
 refine awp_adopt' 3 24 4 (by simp [go_sem] <;> rfl) ?_
 refine awp_block ?_
 refine awp_loop_headK σ.objs.length (σ.toks.length + 1) 2 [1, 2, 7, 8] (fun k : Nat => [(3, .acc ((d.kids.map enc).take k) σ.toks.length), (9, .pv (.int .i64 ↑k))]) (fun k => { σ with toks := σ.toks ++ [⟨k, 24, 4⟩] }) (fun k => k ≤ d.kids.length) (fun k => d.kids.length - k) 0 (Nat.zero_le _) ⟨by simp [go_sem], rfl, by simp, by simp, by simp [go_sem], fun ob h => .inl (by simpa [go_sem] using h), by simp [go_sem]⟩ ?_
 intro k hk
 refine awp_seq (aR (by simp [go_sem] <;> rfl) ?_)
 refine awp_seq (awp_cond (by first | rfl | (simp [go_sem] <;> rfl)) (fun h0 => ?_) (fun h0 => ?_))
 ·have hlt : k < d.kids.length := by simp at h0; omega
  have hw : IntKind.i64.wrap (↑k + 1) = (k : Int) + 1 := wrap_succ (by omega)
  obtain ⟨x, hx, hxm⟩ := get_lt hlt
  have hxs := D.size_kid_lt hxm
  have ht : (d.kids.map enc).take (k + 1) = (d.kids.map enc).take k ++ [enc x] := take_next (by simp [hx])
  have hm : min k d.kids.length = k := by omega
  have hb : (k + 1) * 56 ≤ 140737488355328 := by omega
  refine awp_skip ?_
  refine awp_seq (awp_block ?_)
  refine awp_seq (aR (by simp [go_sem, hx, hm, hb] <;> rfl) ?_)
  refine awp_reg ?_
  refine aL 2 (by simp [go_sem, hx, hm, hb] <;> rfl) ?_
  refine al_callW rfl rfl rfl (by simp [go_sem, hx, hm, hb] <;> rfl) call48 (ih x hxm (by omega) _ hgl) (by simp [go_sem, hx, hm, hb] <;> rfl) (by simp [go_sem, hx, hm, hb]) rfl rfl ?_
  rintro r σ' ⟨rfl, rfl⟩
  refine aL 3 (by simp [go_sem, hx, hm, hb] <;> rfl) ?_
  refine al_nil ?_
  refine aR (by simp [go_sem, hx, hm, hb] <;> rfl) ?_
  exact next_intro (k + 1) σ.objs.length (σ.toks.length + 1) 2 (hlt) (by omega) ⟨by simp [go_sem, hx, hm, hb, hw, ht], rfl, by simp, by simp, by simp [go_sem, hx, hm, hb, hw, ht], fun ob h => .inl (by simpa [go_sem, hx, hm, hb, hw, ht] using h), by simp [go_sem]⟩
 ·have hke : k = d.kids.length := by simp at h0; omega
  subst hke
  refine awp_exit ?_
  refine then_exit ?_
  refine then_exit ?_
  refine inBlock_hit ?_
  refine awp_seq (aR (by simp [go_sem] <;> rfl) ?_)
  refine awp_seq (aR (by simp [go_sem] <;> rfl) ?_)
  refine awp_ret ?_
  refine ends_ret (by simp [go_sem] <;> rfl) (by simp [go_sem]) ?_
  simp [ownR, go_sem, take_all]

theorem c_own (d : D) (hd : d.size ≤ 1000000000) : Pur Tryz.prog (GL kr) 48 [.pv (enc d)] (.pv (enc d)) := by
  intro σ hgl
  refine (c_own_acc d hd σ hgl).less ?_
  rintro r σ' ⟨rfl, rfl⟩
  exact ⟨σ.objs.length, σ.toks.length, _, by simp [go_sem], Nat.le_refl _, Nat.le_refl _, fun ob h => .inl (by simpa using h), rfl, by simp [Store.cut]⟩

set_option maxHeartbeats 1000000 in
theorem c_EqualFunc (a b : List D) (hl : a.length ≤ 1000000000) (σ : Store) (hgl : σ.gl = (GL kr)) (f : FuncId) (hc : Callable Tryz.prog f) (p : D → D → Bool) (hp : ∀ x y, x ∈ a → y ∈ b → PurAt Tryz.prog σ f [.pv (enc x), .pv (enc y)] (.pv (.bool (p x y)))) : PurAt Tryz.prog σ 101 [.pv (.slice (a.map enc)), .pv (.slice (b.map enc)), .func (.func f) []] (.pv (.bool (eqf p a b))) := by
 refine purAt_of ?_
 refine acalls_of tyOk Tryz.func101 rfl (by simp [Tryz.f101]) ?_
 refine awp_seq (aR (by simp [go_sem] <;> rfl) ?_)
 refine awp_seq (awp_seq (aR (by simp [go_sem] <;> rfl) ?_))
 refine awp_cond (by first | rfl | (simp [go_sem] <;> rfl)) (fun h0 => ?_) (fun h0 => ?_)
 ·refine awp_seq ?_
  refine aR (by simp [go_sem] <;> rfl) ?_
  refine awp_ret ?_
  refine then_ret ?_
  refine ends_ret (by simp [go_sem] <;> rfl) (by simp [go_sem]) ?_
  exact ⟨by simp only [eqf, h0, bA, bB, bC, bD, bE, bF, bG, bH, bI, bJ, Bool.false_eq_true, if_true, if_false]; simp [go_sem], by simp [go_sem]⟩
 ·have hlen : a.length = b.length := by have := h0; simp only [bne_eq_false_iff_eq] at this; omega
  have hzl : (a.zip b).length = a.length := by simp; omega
  refine awp_skip ?_
  refine awp_seq (awp_seq (aR (by simp [go_sem] <;> rfl) ?_))
  refine awp_block ?_
  refine awp_loop_headK σ.objs.length σ.toks.length 0 [1, 2, 6, 15, 16] (fun k : Nat => [(17, .pv (.int .i64 ↑k))]) (fun k => σ) (fun k => k ≤ a.length ∧ NotYet (fun x => !p x.1 x.2) (a.zip b) k) (fun k => a.length - k) 0 (⟨Nat.zero_le _, .zero⟩) ⟨by simp [go_sem], rfl, by simp, by simp, by simp [go_sem], fun ob h => .inl (by simpa [go_sem] using h), by simp [go_sem]⟩ ?_
  rintro k ⟨hk, hn⟩
  refine awp_seq (aR (by simp [go_sem] <;> rfl) ?_)
  refine awp_seq (awp_cond (by first | rfl | (simp [go_sem] <;> rfl)) (fun h1 => ?_) (fun h1 => ?_))
  ·have hlt : k < a.length := by simp at h1; omega
   have hw : IntKind.i64.wrap (↑k + 1) = (k : Int) + 1 := wrap_succ (by omega)
   obtain ⟨x, hx, hxm⟩ := get_lt hlt
   obtain ⟨y, hy, hym⟩ := get_lt (l := b) (k := k) (by omega)
   refine awp_skip ?_
   refine awp_seq (awp_block ?_)
   refine awp_seq (aR (by simp [go_sem, hx, hy] <;> rfl) ?_)
   refine awp_seq (aR (by simp [go_sem, hx, hy] <;> rfl) ?_)
   refine awp_seq (awp_reg ?_)
   refine aL 3 (by simp [go_sem, hx, hy] <;> rfl) ?_
   refine al_fn rfl rfl rfl (by simp [go_sem, hx, hy] <;> rfl) hc (hp x y hxm hym) (by simp [go_sem, hx, hy] <;> rfl) (by simp [go_sem, hx, hy]) rfl rfl ?_
   refine aL 1 (by simp [go_sem, hx, hy] <;> rfl) ?_
   refine al_nil ?_
   refine awp_cond (by first | rfl | (simp [go_sem, hx, hy] <;> rfl)) (fun h2 => ?_) (fun h2 => ?_)
   ·refine awp_seq ?_
    refine aR (by simp [go_sem, hx, hy] <;> rfl) ?_
    refine awp_ret ?_
    refine inBlock_ret ?_
    refine then_ret ?_
    refine then_ret ?_
    refine inBlock_ret ?_
    refine then_ret ?_
    refine ends_ret (by simp [go_sem] <;> rfl) (by simp [go_sem]) ?_
    have hall : (a.zip b).all (fun x => p x.1 x.2) = false := by rw [List.all_eq_false]; exact ⟨(x, y), List.mem_of_getElem? (zip_get hx hy), by simpa using h2⟩
    exact ⟨by simp only [eqf, hall, hx, hy, h0, h1, h2, bA, bB, bC, bD, bE, bF, bG, bH, bI, bJ, Bool.false_eq_true, if_true, if_false]; simp [go_sem], by simp [go_sem]⟩
   ·refine awp_skip ?_
    refine aR (by simp [go_sem, hx, hy] <;> rfl) ?_
    exact next_intro (k + 1) σ.objs.length σ.toks.length 0 (⟨hlt, hn.succ (zip_get hx hy) (by simpa using h2)⟩) (by omega) ⟨by simp [go_sem, hx, hy, hw], rfl, by simp, by simp, by simp [go_sem, hx, hy, hw], fun ob h => .inl (by simpa [go_sem, hx, hy, hw] using h), by simp [go_sem]⟩
  ·have hke : k = a.length := by simp at h1; omega
   subst hke
   have hall : (a.zip b).all (fun x => p x.1 x.2) = true := by have := (hzl ▸ hn : NotYet _ (a.zip b) (a.zip b).length).all; rw [List.all_eq_true]; intro z hz; simpa using this z hz
   refine awp_exit ?_
   refine then_exit ?_
   refine then_exit ?_
   refine inBlock_hit ?_
   refine awp_seq (aR (by simp [go_sem] <;> rfl) ?_)
   refine awp_ret ?_
   refine ends_ret (by simp [go_sem] <;> rfl) (by simp [go_sem]) ?_
   exact ⟨by simp only [eqf, hall, h0, bA, bB, bC, bD, bE, bF, bG, bH, bI, bJ, Bool.false_eq_true, if_true, if_false]; simp [go_sem], by simp [go_sem]⟩

set_option maxHeartbeats 1000000 in
theorem c_datum_Equal (d : D) (hd : d.size ≤ 1000000000) : ∀ e : D, Pur Tryz.prog (GL kr) 58 [.pv (enc d), .pv (enc e)] (.pv (.bool (deq d e))) := by
 induction d using D.ind with
 | _ kind num text kids ih =>
 generalize hD : D.mk kind num text kids = d at *
 have hk : d.kids = kids := by rw [← hD]; rfl
 clear hD
 subst hk
 have hkl := D.kids_length_lt d
 intro e
 refine pur_of fun σ hgl => ?_
 refine acalls_of tyOk Tryz.func58 rfl (by simp [Tryz.f58]) ?_
 refine awp_seq (aR (by simp [go_sem] <;> rfl) ?_)
 refine awp_seq (awp_reg ?_)
 refine aL 6 (by simp [go_sem] <;> rfl) ?_
 refine al_splitT 10 (by first | rfl | (simp [go_sem] <;> rfl)) (fun h0 => ?_) (fun h0 => ?_)
 ·refine aLG 5 10 true (by simp [go_sem] <;> rfl) ?_
  refine aL 2 (by simp [go_sem] <;> rfl) ?_
  refine al_splitT 17 (by first | rfl | (simp [go_sem] <;> rfl)) (fun h1 => ?_) (fun h1 => ?_)
  ·refine aLG 5 17 true (by simp [go_sem] <;> rfl) ?_
   refine aL 2 (by simp [go_sem] <;> rfl) ?_
   refine al_splitT 24 (by first | rfl | (simp [go_sem] <;> rfl)) (fun h2 => ?_) (fun h2 => ?_)
   ·refine aLG 4 24 true (by simp [go_sem] <;> rfl) ?_
    refine al_fnG 24 true true (by simp [go_sem]) rfl (by simp [go_sem]) rfl rfl (by simp [go_sem] <;> rfl) call101 (c_EqualFunc d.kids e.kids (by omega) σ hgl 58 call58 deq (fun x y hx _ => ih x hx (by have := D.size_kid_lt hx; omega) y σ hgl)) (by simp [go_sem] <;> rfl) (by simp [go_sem]) rfl rfl ?_
    refine aL 2 (by simp [go_sem] <;> rfl) ?_
    refine al_nil ?_
    refine awp_ret ?_
    refine ends_ret (by simp [go_sem] <;> rfl) (by simp [go_sem]) ?_
    have hs := deq_eq d e
    simp only [Bool.not_true, h0, h1, h2, bA, bB, bC, bD, bE, bF, bG, bH, bI, bJ, Bool.false_eq_true, if_true, if_false] at hs
    exact ⟨by simp [go_sem, hs], by simp [go_sem]⟩
   ·refine aK 5 24 true ?_
    refine aL 2 (by simp [go_sem] <;> rfl) ?_
    refine al_nil ?_
    refine awp_ret ?_
    refine ends_ret (by simp [go_sem] <;> rfl) (by simp [go_sem]) ?_
    have hs := deq_eq d e
    simp only [Bool.not_true, h0, h1, h2, bA, bB, bC, bD, bE, bF, bG, bH, bI, bJ, Bool.false_eq_true, if_true, if_false] at hs
    exact ⟨by simp [go_sem, hs], by simp [go_sem]⟩
  ·refine aK 5 17 true ?_
   refine aL 2 (by simp [go_sem] <;> rfl) ?_
   refine aK 5 24 true ?_
   refine aL 2 (by simp [go_sem] <;> rfl) ?_
   refine al_nil ?_
   refine awp_ret ?_
   refine ends_ret (by simp [go_sem] <;> rfl) (by simp [go_sem]) ?_
   have hs := deq_eq d e
   simp only [Bool.not_true, h0, h1, bA, bB, bC, bD, bE, bF, bG, bH, bI, bJ, Bool.false_eq_true, if_true, if_false] at hs
   exact ⟨by simp [go_sem, hs], by simp [go_sem]⟩
 ·refine aK 5 10 true ?_
  refine aL 2 (by simp [go_sem] <;> rfl) ?_
  refine aK 5 17 true ?_
  refine aL 2 (by simp [go_sem] <;> rfl) ?_
  refine aK 5 24 true ?_
  refine aL 2 (by simp [go_sem] <;> rfl) ?_
  refine al_nil ?_
  refine awp_ret ?_
  refine ends_ret (by simp [go_sem] <;> rfl) (by simp [go_sem]) ?_
  have hs := deq_eq d e
  simp only [Bool.not_true, h0, bA, bB, bC, bD, bE, bF, bG, bH, bI, bJ, Bool.false_eq_true, if_true, if_false] at hs
  exact ⟨by simp [go_sem, hs], by simp [go_sem]⟩

end Go.Proofs.YtienmmfjjffjaaaGreatDoor

/- Contracts of functions on data, three. -/
namespace Go.Proofs.YtienmmfjjffjaaaGreatDoor
open Go Go.Aw
variable {kr : ResO}
set_option maxHeartbeats 1000000 in
theorem c_Clip (l : List ByteArray) : Pur Tryz.prog (GL kr) 93 [.pv (.slice (l.map .str))] (.full (l.map .str)) := by
 refine pur_of fun σ hgl => ?_
 refine acalls_of tyOk Tryz.func93 rfl (by simp [Tryz.f93]) ?_
 refine awp_seq (aR (by simp [go_sem, allSz_str] <;> rfl) ?_)
 refine awp_seq (aR (by simp [go_sem, allSz_str] <;> rfl) ?_)
 refine awp_ret ?_
 refine ends_ret (by simp [go_sem, allSz_str] <;> rfl) (by simp [go_sem]) ?_
 exact ⟨by simp [go_sem, allSz_str], by simp [go_sem]⟩

set_option maxHeartbeats 1000000 in
theorem c_prim_Arity (s : ByteArray) : Pur Tryz.prog (GL kr) 95 [.pv (.str s)] (.tuple [.pv (.int .i64 (arity s).1), .pv (.bool (arity s).2)]) := by
 refine pur_of fun σ hgl => ?_
 refine acalls_of tyOk Tryz.func95 rfl (by simp [Tryz.f95]) ?_
 refine awp_seq (aR (by simp [go_sem] <;> rfl) ?_)
 refine awp_seq ?_
 refine awp_seq ?_
 have hg0 : lookupG σ.gl 1 = some (.ptr [.slice (primL.map encPrim)]) := by rw [hgl]; exact gl_prim
 refine aR (by simp [go_sem, hg0, encPrim_cells] <;> rfl) ?_
 refine awp_block ?_
 refine awp_loop_headK σ.objs.length σ.toks.length 0 [0, 2, 3, 6, 7] (fun k : Nat => [(8, .pv (.int .i64 ↑k))]) (fun k => σ) (fun k => k ≤ primL.length ∧ NotYet (fun p => decide (p.1 = s)) primL k) (fun k => primL.length - k) 0 (⟨Nat.zero_le _, .zero⟩) ⟨by simp [go_sem, hg0, encPrim_cells], rfl, by simp, by simp, by simp [go_sem, hg0, encPrim_cells], fun ob h => .inl (by simpa [go_sem, hg0, encPrim_cells] using h), by simp [go_sem]⟩ ?_
 rintro k ⟨hk, hn⟩
 have hpl := primL_length
 refine awp_seq (aR (by simp [go_sem, hg0, encPrim_cells] <;> rfl) ?_)
 refine awp_seq (awp_cond (by first | rfl | (simp [go_sem, hg0, encPrim_cells] <;> rfl)) (fun h0 => ?_) (fun h0 => ?_))
 ·have hlt : k < primL.length := by simp at h0; omega
  have hw : IntKind.i64.wrap (↑k + 1) = (k : Int) + 1 := wrap_succ (by omega)
  obtain ⟨x, hx, hxm⟩ := get_lt hlt
  refine awp_skip ?_
  refine awp_seq (awp_block ?_)
  refine awp_seq (aR (by simp [go_sem, hg0, encPrim_cells, hx] <;> rfl) ?_)
  refine awp_seq (aR (by simp [go_sem, hg0, encPrim_cells, hx] <;> rfl) ?_)
  refine awp_cond (by first | rfl | (simp [go_sem, hg0, encPrim_cells, hx] <;> rfl)) (fun h1 => ?_) (fun h1 => ?_)
  ·refine awp_seq ?_
   refine aR (by simp [go_sem, hg0, encPrim_cells, hx] <;> rfl) ?_
   refine awp_ret ?_
   refine inBlock_ret ?_
   refine then_ret ?_
   refine then_ret ?_
   refine inBlock_ret ?_
   refine then_ret ?_
   refine ends_ret (by simp [go_sem] <;> rfl) (by simp [go_sem]) ?_
   have hs := arity_found hn hx h1
   exact ⟨by simp [go_sem, hs], by simp [go_sem]⟩
  ·refine awp_skip ?_
   refine aR (by simp [go_sem, hg0, encPrim_cells, hx] <;> rfl) ?_
   exact next_intro (k + 1) σ.objs.length σ.toks.length 0 (⟨hlt, hn.succ hx h1⟩) (by omega) ⟨by simp [go_sem, hg0, encPrim_cells, hx, hw], rfl, by simp, by simp, by simp [go_sem, hg0, encPrim_cells, hx, hw], fun ob h => .inl (by simpa [go_sem, hg0, encPrim_cells, hx, hw] using h), by simp [go_sem]⟩
 ·have hke : k = primL.length := by simp at h0; omega
  subst hke
  refine awp_exit ?_
  refine then_exit ?_
  refine then_exit ?_
  refine inBlock_hit ?_
  refine awp_seq (aR (by simp [go_sem, hg0, encPrim_cells] <;> rfl) ?_)
  refine awp_ret ?_
  refine ends_ret (by simp [go_sem] <;> rfl) (by simp [go_sem]) ?_
  have hs := arity_none hn
  exact ⟨by simp [go_sem, hs], by simp [go_sem]⟩

set_option maxHeartbeats 1000000 in
theorem c_flat_Names (d : D) (hd : d.size ≤ 1000000000) : Pur Tryz.prog (GL kr) 46 [.pv (enc d)] (.tuple [.pv (encN (names d)), .pv (.bool (names d).isSome)]) := by
 have hkl := D.kids_length_lt d
 refine pur_of fun σ hgl => ?_
 refine acalls_of tyOk Tryz.func46 rfl (by simp [Tryz.f46]) ?_
 refine awp_seq (aR (by simp [go_sem] <;> rfl) ?_)
 refine awp_seq (awp_seq (aR (by simp [go_sem] <;> rfl) ?_))
 refine awp_cond (by first | rfl | (simp [go_sem] <;> rfl)) (fun h0 => ?_) (fun h0 => ?_)
 ·refine awp_seq ?_
  refine aR (by simp [go_sem] <;> rfl) ?_
  refine awp_ret ?_
  refine then_ret ?_
  refine ends_ret (by simp [go_sem] <;> rfl) (by simp [go_sem]) ?_
  exact ⟨by simp only [names, encN, h0, bA, bB, bC, bD, bE, bF, bG, bH, bI, bJ, Bool.false_eq_true, if_true, if_false]; simp [go_sem], by simp [go_sem]⟩
 ·refine awp_skip ?_
  refine awp_seq (aR (by simp [go_sem] <;> rfl) ?_)
  refine awp_seq (awp_seq (aR (by simp [go_sem] <;> rfl) ?_))
  refine awp_adopt' 4 9 1 (by simp [go_sem] <;> rfl) ?_
  refine awp_block ?_
  refine awp_loop_headK σ.objs.length (σ.toks.length + 1) 1 [2, 3, 12, 13] (fun k : Nat => [(4, .acc ((textsL (d.kids.take k)).map .str) σ.toks.length), (14, .pv (.int .i64 ↑k))]) (fun k => { σ with toks := σ.toks ++ [⟨k, 9, 1⟩] }) (fun k => k ≤ d.kids.length ∧ names d = namesGo (textsL (d.kids.take k)) (d.kids.drop k)) (fun k => d.kids.length - k) 0 (⟨Nat.zero_le _, by simp only [names, h0, Bool.false_eq_true, if_false]; rfl⟩) ⟨by simp [go_sem, textsL_nil], rfl, by simp, by simp, by simp [go_sem, textsL_nil], fun ob h => .inl (by simpa [go_sem, textsL_nil] using h), by simp [go_sem]⟩ ?_
  rintro k ⟨hk, hn⟩
  refine awp_seq (aR (by simp [go_sem] <;> rfl) ?_)
  refine awp_seq (awp_cond (by first | rfl | (simp [go_sem] <;> rfl)) (fun h1 => ?_) (fun h1 => ?_))
  ·have hlt : k < d.kids.length := by simp at h1; omega
   have hw : IntKind.i64.wrap (↑k + 1) = (k : Int) + 1 := wrap_succ (by omega)
   obtain ⟨x, hx, hxm⟩ := get_lt hlt
   have ht := textsL_next hx
   have htl : (textsL (d.kids.take k)).length = k := by rw [textsL_length, List.length_take]; omega
   have hb : (k + 1) * 16 ≤ 140737488355328 := by omega
   have hst := namesGo_step hx
   refine awp_skip ?_
   refine awp_seq (awp_block ?_)
   refine awp_seq (aR (by simp [go_sem, hx, htl, hb, allSz_str] <;> rfl) ?_)
   refine awp_seq (awp_seq (awp_reg ?_))
   refine aL 1 (by simp [go_sem, hx, htl, hb, allSz_str] <;> rfl) ?_
   refine aF call90 ((c_node_IsName x) _ (by exact hgl)) (by simp [go_sem, hx, htl, hb, allSz_str] <;> rfl) (by simp [go_sem, hx, htl, hb, allSz_str]) ?_
   refine aL 2 (by simp [go_sem, hx, htl, hb, allSz_str] <;> rfl) ?_
   refine al_splitT 21 (by first | rfl | (simp [go_sem, hx, htl, hb, allSz_str] <;> rfl)) (fun h2 => ?_) (fun h2 => ?_)
   ·refine aK 4 21 false ?_
    refine aL 1 (by simp [go_sem, hx, htl, hb, allSz_str] <;> rfl) ?_
    refine al_nil ?_
    refine awp_cond (b := true) (by simp [go_sem, hx, htl, hb, allSz_str, h0, h1, h2]) (fun h => ?_) (fun h => ?_)
    rotate_left
    ·cases h
    refine awp_seq (aR (by simp [go_sem, hx, htl, hb, allSz_str] <;> rfl) ?_)
    refine awp_ret ?_
    refine then_ret ?_
    refine inBlock_ret ?_
    refine then_ret ?_
    refine then_ret ?_
    refine inBlock_ret ?_
    refine then_ret ?_
    refine ends_ret (by simp [go_sem] <;> rfl) (by simp [go_sem]) ?_
    have hs : names d = none := by rw [hn, hst]; simp only [Bool.not_true, hx, htl, hb, allSz_str, h0, h1, h2, bA, bB, bC, bD, bE, bF, bG, bH, bI, bJ, Bool.false_eq_true, if_true, if_false]
    exact ⟨by simp [go_sem, hs, encN], by simp [go_sem]⟩
   ·refine aLG 3 21 false (by simp [go_sem, hx, htl, hb, allSz_str] <;> rfl) ?_
    refine al_fnG 21 false false (by simp [go_sem]) rfl (by simp [go_sem]) rfl rfl (by simp [go_sem, hx, htl, hb, allSz_str] <;> rfl) call91 ((c_Contains (textsL (d.kids.take k)) (by omega) x.text) _ (by exact hgl)) (by simp [go_sem, hx, htl, hb, allSz_str] <;> rfl) (by simp [go_sem, hx, htl, hb, allSz_str]) rfl rfl ?_
    refine aL 1 (by simp [go_sem, hx, htl, hb, allSz_str] <;> rfl) ?_
    refine al_nil ?_
    refine awp_cond (by first | rfl | (simp [go_sem, hx, htl, hb, allSz_str] <;> rfl)) (fun h3 => ?_) (fun h3 => ?_)
    ·refine awp_seq ?_
     refine aR (by simp [go_sem, hx, htl, hb, allSz_str] <;> rfl) ?_
     refine awp_ret ?_
     refine then_ret ?_
     refine inBlock_ret ?_
     refine then_ret ?_
     refine then_ret ?_
     refine inBlock_ret ?_
     refine then_ret ?_
     refine ends_ret (by simp [go_sem] <;> rfl) (by simp [go_sem]) ?_
     have hs : names d = none := by rw [hn, hst]; simp only [Bool.not_true, hx, htl, hb, allSz_str, h0, h1, h2, h3, bA, bB, bC, bD, bE, bF, bG, bH, bI, bJ, Bool.false_eq_true, if_true, if_false]
     exact ⟨by simp [go_sem, hs, encN], by simp [go_sem]⟩
    ·refine awp_skip ?_
     refine aR (by simp [go_sem, hx, htl, hb, allSz_str] <;> rfl) ?_
     refine aR (by simp [go_sem, hx, htl, hb, allSz_str] <;> rfl) ?_
     exact next_intro (k + 1) σ.objs.length (σ.toks.length + 1) 1 (⟨hlt, by rw [hn, hst]; simp only [h0, h1, h2, h3, bA, bB, bC, bD, bE, bF, bG, bH, bI, bJ, Bool.false_eq_true, if_true, if_false]⟩) (by omega) ⟨by simp [go_sem, hx, htl, hb, allSz_str, hw, ht], rfl, by simp, by simp, by simp [go_sem, hx, htl, hb, allSz_str, hw, ht], fun ob h => .inl (by simpa [go_sem, hx, htl, hb, allSz_str, hw, ht] using h), by simp [go_sem]⟩
  ·have hke : k = d.kids.length := by simp at h1; omega
   subst hke
   have htl : (textsL (d.kids.take d.kids.length)) = textsL d.kids := by rw [List.take_length]
   refine awp_exit ?_
   refine then_exit ?_
   refine then_exit ?_
   refine inBlock_hit ?_
   refine awp_seq (aR (by simp [go_sem] <;> rfl) ?_)
   refine awp_ret ?_
   refine ends_ret (by simp [go_sem] <;> rfl) (by simp [go_sem]) ?_
   have hs : names d = some (textsL d.kids) := by rw [hn, namesGo_end, htl]
   exact ⟨by simp [go_sem, hs, encN, htl], by simp [go_sem]⟩

end Go.Proofs.YtienmmfjjffjaaaGreatDoor

/- Going through data: each, Parts, Deep, Check. -/
namespace Go.Proofs.YtienmmfjjffjaaaGreatDoor
open Go Go.Aw
variable {kr : ResO}
set_option maxHeartbeats 1000000 in
theorem c_Parts_1 (d : D) (po n cap oc : Nat) (c : Int) (σ : Store) (hgl : σ.gl = (GL kr)) (hn : n ≤ 1000000000) (hoc : σ.objs[oc]? = some (.box [.pv (.int .i64 c)])) : ACalls Tryz.prog 130 [.pv (enc d), .scr po n cap, .ptr oc 0] σ (EachR oc (stParts c n) σ) := by
 refine acalls_of tyOk Tryz.func130 rfl (by simp [Tryz.f130]) ?_
 refine awp_seq (aR (by simp [go_sem, hoc] <;> rfl) ?_)
 refine awp_seq (aR (by simp [go_sem, hoc] <;> rfl) ?_)
 refine awp_seq (aR (by simp [go_sem, hoc] <;> rfl) ?_)
 refine awp_ret ?_
 refine ends_ret (by simp [go_sem] <;> rfl) (by simp [go_sem]) ?_
 exact ⟨by simp [go_sem], by simp [setC, stParts, stDeep, go_sem]⟩

set_option maxHeartbeats 1000000 in
theorem c_Deep_1 (d : D) (po n cap oc : Nat) (c : Int) (σ : Store) (hgl : σ.gl = (GL kr)) (hn : n ≤ 1000000000) (hoc : σ.objs[oc]? = some (.box [.pv (.int .i64 c)])) : ACalls Tryz.prog 131 [.pv (enc d), .scr po n cap, .ptr oc 0] σ (EachR oc (stDeep c n) σ) := by
 refine acalls_of tyOk Tryz.func131 rfl (by simp [Tryz.f131]) ?_
 refine awp_seq (aR (by simp [go_sem, hoc] <;> rfl) ?_)
 refine awp_seq (aR (by simp [go_sem, hoc] <;> rfl) ?_)
 refine awp_seq (aR (by simp [go_sem, hoc] <;> rfl) ?_)
 refine awp_ret ?_
 refine ends_ret (by simp [go_sem] <;> rfl) (by simp [go_sem]) ?_
 exact ⟨by simp [go_sem], by simp [setC, stParts, stDeep, go_sem]⟩

set_option maxHeartbeats 1000000 in
theorem c_each (fy : FuncId) (hcy : Callable Tryz.prog fy) (st : Int → Nat → Int) (hy : ∀ (d : D) (po n cap oc : Nat) (c : Int) (σ : Store) (hgl : σ.gl = (GL kr)) (hn : n ≤ 1000000000) (hoc : σ.objs[oc]? = some (.box [.pv (.int .i64 c)])), ACalls Tryz.prog fy [.pv (enc d), .scr po n cap, .ptr oc 0] σ (EachR oc (st c n) σ)) (d : D) : ∀ (po n cap oc : Nat) (c : Int) (σ : Store) (hgl : σ.gl = (GL kr)) (hn : n + d.size ≤ 1000000000) (hp : PathAt σ (.scr po n cap) n) (hoc : σ.objs[oc]? = some (.box [.pv (.int .i64 c)])), ACalls Tryz.prog 129 [.pv (enc d), .scr po n cap, .func (.func fy) [.ptr oc 0]] σ (EachR oc (eachF st c n d) σ) := by
 induction d using D.ind with
 | _ kind num text kids ih =>
 generalize hD : D.mk kind num text kids = d at *
 have hk : d.kids = kids := by rw [← hD]; rfl
 clear hD
 subst hk
 have hkl := D.kids_length_lt d
 intro po n cap oc c σ hgl hn hp hoc
 have hol := (List.getElem?_eq_some_iff.1 hoc).1
 refine acalls_ofC tyOk Tryz.func129 rfl (by simp [Tryz.f129]) (by simp [go_sem]) fun hclo => ?_
 simp [go_sem] at hclo
 refine awp_seq (aR (by simp [go_sem, hclo, hol] <;> rfl) ?_)
 refine awp_seq (awp_seq (awp_reg ?_))
 refine aL 3 (by simp [go_sem, hclo, hol] <;> rfl) ?_
 refine al_callW rfl rfl rfl (by simp [go_sem, hclo, hol] <;> rfl) hcy (hy d po n cap oc c σ hgl (by omega) hoc) (by simp [go_sem, hclo, hol] <;> rfl) (by simp [go_sem, hclo, hol]) rfl rfl ?_
 rintro r σ' ⟨rfl, rfl⟩
 refine aL 1 (by simp [go_sem, hclo, hol] <;> rfl) ?_
 refine al_nil ?_
 refine awp_cond (b := false) (by simp [go_sem, hclo, hol]) (fun h => ?_) (fun h => ?_)
 ·cases h
 refine awp_skip ?_
 refine awp_seq (awp_seq (aR (by simp [go_sem, hclo, hol] <;> rfl) ?_))
 refine awp_block ?_
 refine awp_loop_headK σ.objs.length σ.toks.length 1 [1, 2, 6, 15, 16] (fun k : Nat => [(17, .pv (.int .i64 ↑k))]) (fun k => setC σ oc (eachFs st (st c n) (n + 1) (d.kids.take k))) (fun k => k ≤ d.kids.length) (fun k => d.kids.length - k) 0 (Nat.zero_le _) ⟨by show setC σ oc _ = _; rw [List.take_zero, eachFs]; exact setC_cut.symm, rfl, by simp, by simp, by simp [go_sem, hclo, hol], fun ob h => setC_mem h _ _ _, by simp [go_sem]⟩ ?_
 intro k hk
 refine awp_seq (aR (by simp [go_sem, hclo, hol] <;> rfl) ?_)
 refine awp_seq (awp_cond (by first | rfl | (simp [go_sem, hclo, hol] <;> rfl)) (fun h0 => ?_) (fun h0 => ?_))
 ·have hlt : k < d.kids.length := by simp at h0; omega
  have hw : IntKind.i64.wrap (↑k + 1) = (k : Int) + 1 := wrap_succ (by omega)
  obtain ⟨x, hx, hxm⟩ := get_lt hlt
  have hxs := D.size_kid_lt hxm
  have ht : eachFs st (st c n) (n + 1) (d.kids.take (k + 1)) = eachF st (eachFs st (st c n) (n + 1) (d.kids.take k)) (n + 1) x := by rw [take_next hx, eachFs_snoc]
  have hbn : (n + 1) * 8 ≤ 140737488355328 := by omega
  refine awp_skip ?_
  refine awp_seq (awp_block ?_)
  refine awp_seq (aR (by simp [go_sem, hclo, hol, hx] <;> rfl) ?_)
  refine awp_seq (awp_regDP tyOk tySz 6 (by kernel_rfl) (by decide) ?_)
  refine ul_run 4 (by simp [go_sem, hclo, hol, hx] <;> rfl) ?_
  refine ul_path rfl (by simp [go_sem, hbn] <;> rfl) rfl (PathAt.setC hp hoc) ?_
  rintro x' objs' hobjs hpx
  obtain ⟨po', cap', rfl⟩ := hpx.scr
  refine ul_run 1 (by simp [go_sem, hclo, hol, hx] <;> rfl) ?_
  refine ul_nil ?_
  refine al_callW rfl rfl rfl (by simp [go_sem, hclo, hol, hx] <;> rfl) call129 (ih x hxm po' (n + 1) cap' oc _ _ (by exact hgl) (by omega) hpx (path_get hobjs (setC_get hoc))) (by simp [go_sem, hclo, hol, hx] <;> rfl) (by simp [go_sem, hclo, hol, hx]) rfl rfl ?_
  rintro r σ' ⟨rfl, rfl⟩
  refine aL 1 (by simp [go_sem, hclo, hol, hx] <;> rfl) ?_
  refine al_nil ?_
  refine awp_cond (b := false) (by simp [go_sem, hclo, hol, hx, h0]) (fun h => ?_) (fun h => ?_)
  ·cases h
  refine awp_skip ?_
  refine aR (by simp [go_sem, hclo, hol, hx] <;> rfl) ?_
  exact next_intro (k + 1) σ.objs.length σ.toks.length 1 (hlt) (by omega) ⟨by show setC σ oc _ = _; rw [ht]; exact (setC_path hol hobjs).symm, rfl, by simp, by simp, by simp [go_sem, hclo, hol, hx, hw], fun ob h => setC_mem h _ _ _, by simp [go_sem]⟩
 ·have hke : k = d.kids.length := by simp at h0; omega
  subst hke
  have hta : d.kids.take d.kids.length = d.kids := List.take_length
  refine awp_exit ?_
  refine then_exit ?_
  refine then_exit ?_
  refine inBlock_hit ?_
  refine awp_seq (aR (by simp [go_sem, hclo, hol] <;> rfl) ?_)
  refine awp_ret ?_
  refine ends_ret (by simp [go_sem] <;> rfl) (by simp [go_sem]) ?_
  exact ⟨by simp [go_sem], by simp [go_sem, eachF_eq, hta]⟩

set_option maxHeartbeats 1000000 in
theorem c_datum_Parts (d : D) (hd : d.size ≤ 1000000000) : Pur Tryz.prog (GL kr) 109 [.pv (enc d)] (.pv (.int .i64 d.size)) := by
 refine pur_of fun σ hgl => ?_
 refine acalls_of tyOk Tryz.func109 rfl (by simp [Tryz.f109]) ?_
 refine awp_seq (aR (by simp [go_sem] <;> rfl) ?_)
 refine awp_seq (awp_region_run (sh := [3]) tyOk (by simp [go_sem] <;> rfl) ?_)
 refine awp_seq (awp_reg ?_)
 refine aL 2 (by simp [go_sem] <;> rfl) ?_
 refine al_callW rfl rfl rfl (by simp [go_sem] <;> rfl) call129 (c_each 130 call130 stParts (fun d po n cap oc c σ hgl hn hoc => c_Parts_1 d po n cap oc c σ hgl hn hoc) d 0 0 0 σ.objs.length 0 _ (by exact hgl) (by omega) (.inl ⟨0, rfl, rfl⟩) (by simp [go_sem])) (by simp [go_sem] <;> rfl) (by simp [go_sem]) rfl rfl ?_
 rintro r σ' ⟨rfl, rfl⟩
 refine al_nil ?_
 refine awp_seq (aR (by simp [go_sem, setC_new_get, setC_new_cut] <;> rfl) ?_)
 refine awp_ret ?_
 have hv : eachF stParts 0 0 d = (d.size : Int) := by have := eachF_parts d 0 0 (by omega); simpa using this
 refine ends_ret (by simp [go_sem, setC_new_get] <;> rfl) (by simp [go_sem]) ?_
 exact ⟨by simp [go_sem]; exact hv, setC_new_cut⟩

set_option maxHeartbeats 1000000 in
theorem c_datum_Deep (d : D) (hd : d.size ≤ 1000000000) : Pur Tryz.prog (GL kr) 110 [.pv (enc d)] (.pv (.int .i64 d.deep)) := by
 have hdd := D.deep_le_size d
 refine pur_of fun σ hgl => ?_
 refine acalls_of tyOk Tryz.func110 rfl (by simp [Tryz.f110]) ?_
 refine awp_seq (aR (by simp [go_sem] <;> rfl) ?_)
 refine awp_seq (awp_region_run (sh := [3]) tyOk (by simp [go_sem] <;> rfl) ?_)
 refine awp_seq (awp_reg ?_)
 refine aL 2 (by simp [go_sem] <;> rfl) ?_
 refine al_callW rfl rfl rfl (by simp [go_sem] <;> rfl) call129 (c_each 131 call131 stDeep (fun d po n cap oc c σ hgl hn hoc => c_Deep_1 d po n cap oc c σ hgl hn hoc) d 0 0 0 σ.objs.length 0 _ (by exact hgl) (by omega) (.inl ⟨0, rfl, rfl⟩) (by simp [go_sem])) (by simp [go_sem] <;> rfl) (by simp [go_sem]) rfl rfl ?_
 rintro r σ' ⟨rfl, rfl⟩
 refine al_nil ?_
 refine awp_seq (aR (by simp [go_sem, setC_new_get, setC_new_cut] <;> rfl) ?_)
 refine awp_ret ?_
 have hv : eachF stDeep 0 0 d = (d.deep : Int) := by have := eachF_deep d 0 0 (by omega); simpa using this
 refine ends_ret (by simp [go_sem, setC_new_get] <;> rfl) (by simp [go_sem]) ?_
 exact ⟨by simp [go_sem]; exact hv, setC_new_cut⟩

set_option maxHeartbeats 1000000 in
theorem c_datum_Check (d : D) (hd : d.size ≤ 1000000000) : Pur Tryz.prog (GL kr) 72 [.pv (enc d)] (.pv (.int .i64 (dcheck d))) := by
 refine pur_of fun σ hgl => ?_
 refine acalls_of tyOk Tryz.func72 rfl (by simp [Tryz.f72]) ?_
 refine awp_seq (aR (by simp [go_sem] <;> rfl) ?_)
 refine awp_seq (awp_block ?_)
 refine awp_seq (awp_reg ?_)
 refine aL 1 (by simp [go_sem] <;> rfl) ?_
 refine aF call108 ((c_datum_formed d hd) _ (by exact hgl)) (by simp [go_sem] <;> rfl) (by simp [go_sem]) ?_
 refine aL 2 (by simp [go_sem] <;> rfl) ?_
 refine al_nil ?_
 refine awp_cond (by first | rfl | (simp [go_sem] <;> rfl)) (fun h0 => ?_) (fun h0 => ?_)
 ·refine awp_seq ?_
  refine aR (by simp [go_sem] <;> rfl) ?_
  refine awp_ret ?_
  refine inBlock_ret ?_
  refine then_ret ?_
  refine ends_ret (by simp [go_sem] <;> rfl) (by simp [go_sem]) ?_
  exact ⟨by simp only [dcheck, h0, bA, bB, bC, bD, bE, bF, bG, bH, bI, bJ, Bool.false_eq_true, if_true, if_false]; simp [go_sem], by simp [go_sem]⟩
 ·refine awp_seq ?_
  refine awp_reg ?_
  refine aL 1 (by simp [go_sem] <;> rfl) ?_
  refine aF call109 ((c_datum_Parts d hd) _ (by exact hgl)) (by simp [go_sem] <;> rfl) (by simp [go_sem]) ?_
  refine aL 2 (by simp [go_sem] <;> rfl) ?_
  refine al_splitT 11 (by first | rfl | (simp [go_sem] <;> rfl)) (fun h1 => ?_) (fun h1 => ?_)
  ·refine aK 3 11 false ?_
   refine aL 2 (by simp [go_sem] <;> rfl) ?_
   refine al_nil ?_
   refine awp_cond (b := true) (by simp [go_sem, h0, h1]) (fun h => ?_) (fun h => ?_)
   rotate_left
   ·cases h
   refine awp_seq (aR (by simp [go_sem] <;> rfl) ?_)
   refine awp_ret ?_
   refine inBlock_ret ?_
   refine then_ret ?_
   refine ends_ret (by simp [go_sem] <;> rfl) (by simp [go_sem]) ?_
   exact ⟨by simp only [dcheck, h0, h1, bA, bB, bC, bD, bE, bF, bG, bH, bI, bJ, Bool.false_eq_true, if_true, if_false]; simp [go_sem], by simp [go_sem]⟩
  ·refine aLG 1 11 false (by simp [go_sem] <;> rfl) ?_
   refine al_fnG 11 false false (by simp [go_sem]) rfl (by simp [go_sem]) rfl rfl (by simp [go_sem] <;> rfl) call110 ((c_datum_Deep d hd) _ (by exact hgl)) (by simp [go_sem] <;> rfl) (by simp [go_sem]) rfl rfl ?_
   refine aLG 1 11 false (by simp [go_sem] <;> rfl) ?_
   refine aL 2 (by simp [go_sem] <;> rfl) ?_
   refine al_nil ?_
   refine awp_cond (by first | rfl | (simp [go_sem] <;> rfl)) (fun h2 => ?_) (fun h2 => ?_)
   ·refine awp_seq ?_
    refine aR (by simp [go_sem] <;> rfl) ?_
    refine awp_ret ?_
    refine inBlock_ret ?_
    refine then_ret ?_
    refine ends_ret (by simp [go_sem] <;> rfl) (by simp [go_sem]) ?_
    exact ⟨by simp only [dcheck, h0, h1, h2, bA, bB, bC, bD, bE, bF, bG, bH, bI, bJ, Bool.false_eq_true, if_true, if_false]; simp [go_sem], by simp [go_sem]⟩
   ·refine awp_skip ?_
    refine awp_seq (aR (by simp [go_sem] <;> rfl) ?_)
    refine awp_ret ?_
    refine ends_ret (by simp [go_sem] <;> rfl) (by simp [go_sem]) ?_
    exact ⟨by simp only [dcheck, h0, h1, h2, bA, bB, bC, bD, bE, bF, bG, bH, bI, bJ, Bool.false_eq_true, if_true, if_false]; simp [go_sem], by simp [go_sem]⟩

end Go.Proofs.YtienmmfjjffjaaaGreatDoor

/- The checker. -/
namespace Go.Proofs.YtienmmfjjffjaaaGreatDoor
open Go Go.Aw
variable {kr : ResO}
theorem look_par {s : St} {om : Nat} {ps : List (D × Int)} (ho : s.σ.objs[om]? = some (.map (mapK ps) (mapV pint ps))) (d : D) :
    lookAV ty s 106 (.map om) (.pv (keyPV d)) true = some (.tuple [.pv (.int .i64 (kpar ps d).1), .pv (.bool (kpar ps d).2)]) := by
  rw [look_map (f := pint) rfl rfl rfl rfl rfl ho]
  unfold kpar
  cases kget ps d <;> rfl

theorem put_par {s : St} {om : Nat} {ps : List (D × Int)} (ho : s.σ.objs[om]? = some (.map (mapK ps) (mapV pint ps))) (d : D) (v : Int) :
    putAV ty s 106 (.map om) (.pv (keyPV d)) (.pv (.int .i64 v)) = some { s.σ with objs := s.σ.objs.set om (.map (mapK (kset ps d v)) (mapV pint (kset ps d v))) } :=
  put_map (f := pint) rfl rfl rfl rfl ho d v rfl

set_option maxHeartbeats 1000000 in
theorem c_all (σ : Store) (hgl : σ.gl = (GL kr)) (oc : Nat) (ps : List (D × Int)) (b : List ByteArray) (l : List D) (hl : l.length ≤ 1000000000) (hE : ∀ x, x ∈ l → PurAt Tryz.prog σ 47 [.ptr oc 0, .pv (enc x), .pv (.slice (b.map .str))] (.pv (.int .i64 (cexpr ps b x)))) : PurAt Tryz.prog σ 92 [.ptr oc 0, .pv (.slice (l.map enc)), .pv (.slice (b.map .str))] (.pv (.int .i64 (cll ps b l))) := by
 refine purAt_of ?_
 refine acalls_ofC tyOk Tryz.func92 rfl (by simp [Tryz.f92]) (by simp [go_sem]) fun hclo => ?_
 simp [go_sem] at hclo
 refine awp_seq (aR (by simp [go_sem, hclo] <;> rfl) ?_)
 refine awp_seq (awp_seq (aR (by simp [go_sem, hclo] <;> rfl) ?_))
 refine awp_block ?_
 refine awp_loop_headK σ.objs.length σ.toks.length 0 [0, 2, 6, 10, 11] (fun k : Nat => [(12, .pv (.int .i64 ↑k))]) (fun k => σ) (fun k => k ≤ l.length ∧ cll ps b l = cll ps b (l.drop k)) (fun k => l.length - k) 0 (⟨Nat.zero_le _, rfl⟩) ⟨by simp [go_sem, hclo], rfl, by simp, by simp, by simp [go_sem, hclo], fun ob h => .inl (by simpa [go_sem, hclo] using h), by simp [go_sem]⟩ ?_
 rintro k ⟨hk, hn⟩
 refine awp_seq (aR (by simp [go_sem, hclo] <;> rfl) ?_)
 refine awp_seq (awp_cond (by first | rfl | (simp [go_sem, hclo] <;> rfl)) (fun h0 => ?_) (fun h0 => ?_))
 ·have hlt : k < l.length := by simp at h0; omega
  have hw : IntKind.i64.wrap (↑k + 1) = (k : Int) + 1 := wrap_succ (by omega)
  obtain ⟨x, hx, hxm⟩ := get_lt hlt
  have hst : cll ps b l = if (cexpr ps b x != 0) = true then cexpr ps b x else cll ps b (l.drop (k + 1)) := by rw [hn, drop_cons hx, cll_cons]
  refine awp_skip ?_
  refine awp_seq (awp_block ?_)
  refine awp_seq (aR (by simp [go_sem, hclo, hx] <;> rfl) ?_)
  refine awp_seq (awp_reg ?_)
  refine aL 3 (by simp [go_sem, hclo, hx] <;> rfl) ?_
  refine aF call47 (hE x hxm) (by simp [go_sem, hclo, hx] <;> rfl) (by simp [go_sem, hclo, hx]) ?_
  refine aL 1 (by simp [go_sem, hclo, hx] <;> rfl) ?_
  refine al_nil ?_
  refine awp_seq (aR (by simp [go_sem, hclo, hx] <;> rfl) ?_)
  refine awp_cond (by first | rfl | (simp [go_sem, hclo, hx] <;> rfl)) (fun h1 => ?_) (fun h1 => ?_)
  ·refine awp_seq ?_
   refine aR (by simp [go_sem, hclo, hx] <;> rfl) ?_
   refine awp_ret ?_
   refine inBlock_ret ?_
   refine then_ret ?_
   refine then_ret ?_
   refine inBlock_ret ?_
   refine then_ret ?_
   refine ends_ret (by simp [go_sem] <;> rfl) (by simp [go_sem]) ?_
   have hs : cll ps b l = cexpr ps b x := by rw [hst]; simp only [Bool.not_true, hclo, hx, h0, h1, bA, bB, bC, bD, bE, bF, bG, bH, bI, bJ, Bool.false_eq_true, if_true, if_false]
   exact ⟨by simp [go_sem, hs], by simp [go_sem]⟩
  ·refine awp_skip ?_
   refine aR (by simp [go_sem, hclo, hx] <;> rfl) ?_
   exact next_intro (k + 1) σ.objs.length σ.toks.length 0 (⟨hlt, by rw [hst]; simp only [h0, h1, bA, bB, bC, bD, bE, bF, bG, bH, bI, bJ, Bool.false_eq_true, if_true, if_false]⟩) (by omega) ⟨by simp [go_sem, hclo, hx, hw], rfl, by simp, by simp, by simp [go_sem, hclo, hx, hw], fun ob h => .inl (by simpa [go_sem, hclo, hx, hw] using h), by simp [go_sem]⟩
 ·have hke : k = l.length := by simp at h0; omega
  subst hke
  have hz : cll ps b l = 0 := by rw [hn, List.drop_length]; rfl
  refine awp_exit ?_
  refine then_exit ?_
  refine then_exit ?_
  refine inBlock_hit ?_
  refine awp_seq (aR (by simp [go_sem, hclo] <;> rfl) ?_)
  refine awp_ret ?_
  refine ends_ret (by simp [go_sem] <;> rfl) (by simp [go_sem]) ?_
  exact ⟨by simp [go_sem, hz], by simp [go_sem]⟩

set_option maxHeartbeats 1000000 in
theorem c_call (σ : Store) (hgl : σ.gl = (GL kr)) (oc : Nat) (ps : List (D × Int)) (b : List ByteArray) (om : Nat) (hck : CkAt σ oc om ps) (l : List D) (hl : l.length ≤ 1000000000) (hE : ∀ x, x ∈ l → PurAt Tryz.prog σ 47 [.ptr oc 0, .pv (enc x), .pv (.slice (b.map .str))] (.pv (.int .i64 (cexpr ps b x)))) : PurAt Tryz.prog σ 94 [.ptr oc 0, .pv (.slice (l.map enc)), .pv (.slice (b.map .str))] (.pv (.int .i64 (ccall ps b l))) := by
 obtain ⟨hoc, hom⟩ := hck
 refine purAt_of ?_
 refine acalls_of tyOk Tryz.func94 rfl (by simp [Tryz.f94]) ?_
 refine awp_seq (aR (by simp [go_sem, hoc] <;> rfl) ?_)
 refine awp_seq (awp_seq (awp_reg ?_))
 refine aL 4 (by simp [go_sem, hoc] <;> rfl) ?_
 refine al_splitT 12 (by first | rfl | (simp [go_sem, hoc] <;> rfl)) (fun h0 => ?_) (fun h0 => ?_)
 ·refine aK 5 12 false ?_
  refine aL 1 (by simp [go_sem, hoc] <;> rfl) ?_
  refine al_nil ?_
  refine awp_cond (b := true) (by simp [go_sem, hoc, h0]) (fun h => ?_) (fun h => ?_)
  rotate_left
  ·cases h
  refine awp_seq (aR (by simp [go_sem, hoc] <;> rfl) ?_)
  refine awp_ret ?_
  refine then_ret ?_
  refine ends_ret (by simp [go_sem, hoc] <;> rfl) (by simp [go_sem]) ?_
  exact ⟨by simp only [ccall, hoc, h0, bA, bB, bC, bD, bE, bF, bG, bH, bI, bJ, Bool.false_eq_true, if_true, if_false]; simp [go_sem], by simp [go_sem]⟩
 ·have h2l : (2 : Int) ≤ l.length := by simp at h0; omega
  obtain ⟨x1, hx1, hx1m⟩ := get_lt (l := l) (k := 1) (by omega)
  have hg1 : l.getD 1 dnone = x1 := by simp [List.getD, hx1]
  have hwr : IntKind.i64.wrap ((l.length : Int) - 2) = l.length - 2 := wrap_id (by omega) (by omega)
  refine aLG 3 12 false (by simp [go_sem, hoc, h2l, hx1, hwr] <;> rfl) ?_
  refine al_fnG 12 false false (by simp [go_sem]) rfl (by simp [go_sem]) rfl rfl (by simp [go_sem, hoc, h2l, hx1, hwr] <;> rfl) call118 ((c_node_Label x1) _ (by exact hgl)) (by simp [go_sem, hoc, h2l, hx1, hwr] <;> rfl) (by simp [go_sem, hoc, h2l, hx1, hwr]) rfl rfl ?_
  refine aLG 1 12 false (by simp [go_sem, hoc, h2l, hx1, hwr] <;> rfl) ?_
  refine aL 1 (by simp [go_sem, hoc, h2l, hx1, hwr] <;> rfl) ?_
  refine al_nil ?_
  refine awp_cond (by first | rfl | (simp [go_sem, hoc, h2l, hx1, hwr] <;> rfl)) (fun h1 => ?_) (fun h1 => ?_)
  ·refine awp_seq ?_
   refine aR (by simp [go_sem, hoc, h2l, hx1, hwr] <;> rfl) ?_
   refine awp_ret ?_
   refine then_ret ?_
   refine ends_ret (by simp [go_sem, hoc, h2l, hx1, hwr] <;> rfl) (by simp [go_sem]) ?_
   exact ⟨by simp only [ccall, hoc, h2l, hx1, hwr, h0, hg1, h1, bA, bB, bC, bD, bE, bF, bG, bH, bI, bJ, Bool.false_eq_true, if_true, if_false]; simp [go_sem], by simp [go_sem]⟩
  ·refine awp_skip ?_
   refine awp_seq ?_
   have hlk := fun (s : St) (d : D) (ho : s.σ.objs[om]? = some (.map (mapK ps) (mapV pint ps))) => look_par ho d
   refine awp_regDP tyOk tySz 13 (by kernel_rfl) (by decide) ?_
   refine ul_run 7 (by simp [go_sem, hoc, h2l, hx1, hwr, hom, hlk] <;> rfl) ?_
   refine ul_fn (by first | (intro _ _ hh; exact hh) | simp [go_sem]) rfl rfl rfl rfl (by simp [go_sem, hoc, h2l, hx1, hwr, hom, hlk] <;> rfl) call98 ((c_flat_keyOf x1) _ (by exact hgl)) (by simp [go_sem, hoc, h2l, hx1, hwr, hom, hlk] <;> rfl) (by simp [go_sem, hoc, h2l, hx1, hwr, hom, hlk]) rfl rfl ?_
   refine ul_run 5 (by simp [go_sem, hoc, h2l, hx1, hwr, hom, hlk] <;> rfl) ?_
   refine ul_nil ?_
   refine aL 1 (by simp [go_sem, hoc, h2l, hx1, hwr, hom, hlk] <;> rfl) ?_
   refine al_nil ?_
   refine awp_seq (awp_block ?_)
   refine awp_seq (aR (by simp [go_sem, hoc, h2l, hx1, hwr, hom, hlk] <;> rfl) ?_)
   refine awp_cond (by first | rfl | (simp [go_sem, hoc, h2l, hx1, hwr, hom, hlk] <;> rfl)) (fun h2 => ?_) (fun h2 => ?_)
   ·refine awp_seq ?_
    refine aR (by simp [go_sem, hoc, h2l, hx1, hwr, hom, hlk] <;> rfl) ?_
    refine awp_ret ?_
    refine inBlock_ret ?_
    refine then_ret ?_
    refine ends_ret (by simp [go_sem, hoc, h2l, hx1, hwr, hom, hlk] <;> rfl) (by simp [go_sem]) ?_
    exact ⟨by simp only [ccall, hoc, h2l, hx1, hwr, hom, hlk, h0, hg1, h1, h2, bA, bB, bC, bD, bE, bF, bG, bH, bI, bJ, Bool.false_eq_true, if_true, if_false]; simp [go_sem], by simp [go_sem]⟩
   ·refine awp_seq ?_
    refine aR (by simp [go_sem, hoc, h2l, hx1, hwr, hom, hlk] <;> rfl) ?_
    refine awp_cond (by first | rfl | (simp [go_sem, hoc, h2l, hx1, hwr, hom, hlk] <;> rfl)) (fun h3 => ?_) (fun h3 => ?_)
    ·refine awp_seq ?_
     refine aR (by simp [go_sem, hoc, h2l, hx1, hwr, hom, hlk] <;> rfl) ?_
     refine awp_ret ?_
     refine inBlock_ret ?_
     refine then_ret ?_
     refine ends_ret (by simp [go_sem, hoc, h2l, hx1, hwr, hom, hlk] <;> rfl) (by simp [go_sem]) ?_
     exact ⟨by simp only [ccall, hoc, h2l, hx1, hwr, hom, hlk, h0, hg1, h1, h2, h3, bA, bB, bC, bD, bE, bF, bG, bH, bI, bJ, Bool.false_eq_true, if_true, if_false]; simp [go_sem], by simp [go_sem]⟩
    ·refine awp_skip ?_
     refine awp_seq (awp_reg ?_)
     refine aL 4 (by simp [go_sem, hoc, h2l, hx1, hwr, hom, hlk] <;> rfl) ?_
     refine aF call92 (c_all σ hgl oc ps b (l.drop 2) (by simp; omega) (fun x hx => hE x (List.mem_of_mem_drop hx))) (by simp [go_sem, hoc, h2l, hx1, hwr, hom, hlk] <;> rfl) (by simp [go_sem, hoc, h2l, hx1, hwr, hom, hlk, List.map_drop]) ?_
     refine aL 1 (by simp [go_sem, hoc, h2l, hx1, hwr, hom, hlk] <;> rfl) ?_
     refine al_nil ?_
     refine awp_ret ?_
     refine ends_ret (by simp [go_sem, hoc, h2l, hx1, hwr, hom, hlk] <;> rfl) (by simp [go_sem]) ?_
     exact ⟨by simp only [ccall, hoc, h2l, hx1, hwr, hom, hlk, h0, hg1, h1, h2, h3, bA, bB, bC, bD, bE, bF, bG, bH, bI, bJ, Bool.false_eq_true, if_true, if_false]; simp [go_sem], by simp [go_sem]⟩

set_option maxHeartbeats 1000000 in
theorem c_expr (oc om : Nat) (ps : List (D × Int)) (d : D) : ∀ (b : List ByteArray) (σ : Store) (hgl : σ.gl = (GL kr)) (hck : CkAt σ oc om ps) (hb : b.length + d.size ≤ 1000000000), PurAt Tryz.prog σ 47 [.ptr oc 0, .pv (enc d), .pv (.slice (b.map .str))] (.pv (.int .i64 (cexpr ps b d))) := by
 induction d using D.ind with
 | _ kind num text kids ih =>
 generalize hD : D.mk kind num text kids = d at *
 have hk : d.kids = kids := by rw [← hD]; rfl
 clear hD
 subst hk
 have hkl := D.kids_length_lt d
 intro b σ hgl hck hb
 refine purAt_of ?_
 refine acalls_of tyOk Tryz.func47 rfl (by simp [Tryz.f47]) ?_
 refine awp_seq (aR (by simp [go_sem] <;> rfl) ?_)
 refine awp_seq (awp_block ?_)
 refine awp_seq (aR (by simp [go_sem] <;> rfl) ?_)
 refine awp_cond (by first | rfl | (simp [go_sem] <;> rfl)) (fun h0 => ?_) (fun h0 => ?_)
 ·refine awp_seq ?_
  refine aR (by simp [go_sem] <;> rfl) ?_
  refine awp_ret ?_
  refine inBlock_ret ?_
  refine then_ret ?_
  refine ends_ret (by simp [go_sem] <;> rfl) (by simp [go_sem]) ?_
  exact ⟨by rw [cexpr_eq ps b d]; simp only [Bool.not_true, h0, bA, bB, bC, bD, bE, bF, bG, bH, bI, bJ, Bool.false_eq_true, if_true, if_false, sQuote, sIf, sLet, sCall, bne_self_eq_false]; simp [go_sem], by simp [go_sem]⟩
 ·refine awp_seq ?_
  refine awp_reg ?_
  refine aL 4 (by simp [go_sem] <;> rfl) ?_
  refine al_splitT 19 (by first | rfl | (simp [go_sem] <;> rfl)) (fun h1 => ?_) (fun h1 => ?_)
  ·refine aLG 1 19 true (by simp [go_sem] <;> rfl) ?_
   refine al_fnG 19 true true (by simp [go_sem]) rfl (by simp [go_sem]) rfl rfl (by simp [go_sem] <;> rfl) call90 ((c_node_IsName d) _ (by exact hgl)) (by simp [go_sem] <;> rfl) (by simp [go_sem]) rfl rfl ?_
   refine aLG 1 19 true (by simp [go_sem] <;> rfl) ?_
   refine aL 2 (by simp [go_sem] <;> rfl) ?_
   refine al_nil ?_
   refine awp_cond (by first | rfl | (simp [go_sem] <;> rfl)) (fun h2 => ?_) (fun h2 => ?_)
   ·refine awp_seq ?_
    refine aR (by simp [go_sem] <;> rfl) ?_
    refine awp_ret ?_
    refine inBlock_ret ?_
    refine then_ret ?_
    refine ends_ret (by simp [go_sem] <;> rfl) (by simp [go_sem]) ?_
    exact ⟨by rw [cexpr_eq ps b d]; simp only [Bool.not_true, h0, h1, h2, bA, bB, bC, bD, bE, bF, bG, bH, bI, bJ, Bool.false_eq_true, if_true, if_false, sQuote, sIf, sLet, sCall, bne_self_eq_false]; simp [go_sem], by simp [go_sem]⟩
   ·refine awp_seq ?_
    refine awp_reg ?_
    refine aL 4 (by simp [go_sem] <;> rfl) ?_
    refine al_splitT 28 (by first | rfl | (simp [go_sem] <;> rfl)) (fun h3 => ?_) (fun h3 => ?_)
    ·refine aLG 3 28 true (by simp [go_sem] <;> rfl) ?_
     refine al_fnG 28 true true (by simp [go_sem]) rfl (by simp [go_sem]) rfl rfl (by simp [go_sem] <;> rfl) call91 ((c_Contains b (by omega) d.text) _ (by exact hgl)) (by simp [go_sem] <;> rfl) (by simp [go_sem]) rfl rfl ?_
     refine aLG 1 28 true (by simp [go_sem] <;> rfl) ?_
     refine aL 2 (by simp [go_sem] <;> rfl) ?_
     refine al_nil ?_
     refine awp_cond (by first | rfl | (simp [go_sem] <;> rfl)) (fun h4 => ?_) (fun h4 => ?_)
     ·refine awp_seq ?_
      refine aR (by simp [go_sem] <;> rfl) ?_
      refine awp_ret ?_
      refine inBlock_ret ?_
      refine then_ret ?_
      refine ends_ret (by simp [go_sem] <;> rfl) (by simp [go_sem]) ?_
      exact ⟨by rw [cexpr_eq ps b d]; simp only [Bool.not_true, h0, h1, h2, h3, h4, bA, bB, bC, bD, bE, bF, bG, bH, bI, bJ, Bool.false_eq_true, if_true, if_false, sQuote, sIf, sLet, sCall, bne_self_eq_false]; simp [go_sem], by simp [go_sem]⟩
     ·refine awp_seq ?_
      refine aR (by simp [go_sem] <;> rfl) ?_
      refine awp_cond (by first | rfl | (simp [go_sem] <;> rfl)) (fun h5 => ?_) (fun h5 => ?_)
      ·refine awp_seq ?_
       refine aR (by simp [go_sem] <;> rfl) ?_
       refine awp_ret ?_
       refine inBlock_ret ?_
       refine then_ret ?_
       refine ends_ret (by simp [go_sem] <;> rfl) (by simp [go_sem]) ?_
       exact ⟨by rw [cexpr_eq ps b d]; simp only [Bool.not_true, h0, h1, h2, h3, h4, h5, bA, bB, bC, bD, bE, bF, bG, bH, bI, bJ, Bool.false_eq_true, if_true, if_false, sQuote, sIf, sLet, sCall, bne_self_eq_false]; simp [go_sem], by simp [go_sem]⟩
      ·exact nomatch h1.symm.trans h5
    ·exact nomatch h1.symm.trans h3
  ·refine aK 3 19 true ?_
   refine aL 2 (by simp [go_sem] <;> rfl) ?_
   refine al_nil ?_
   refine awp_cond (b := false) (by simp [go_sem, h0, h1]) (fun h => ?_) (fun h => ?_)
   ·cases h
   refine awp_seq (awp_reg ?_)
   refine aL 4 (by simp [go_sem] <;> rfl) ?_
   refine al_splitT 28 (by first | rfl | (simp [go_sem] <;> rfl)) (fun h6 => ?_) (fun h6 => ?_)
   ·exact nomatch h6.symm.trans h1
   ·refine aK 5 28 true ?_
    refine aL 2 (by simp [go_sem] <;> rfl) ?_
    refine al_nil ?_
    refine awp_cond (b := false) (by simp [go_sem, h0, h1, h6]) (fun h => ?_) (fun h => ?_)
    ·cases h
    refine awp_seq (aR (by simp [go_sem] <;> rfl) ?_)
    refine awp_cond (by first | rfl | (simp [go_sem] <;> rfl)) (fun h7 => ?_) (fun h7 => ?_)
    ·exact nomatch h7.symm.trans h1
    ·refine awp_seq ?_
     refine awp_reg ?_
     refine aL 5 (by simp [go_sem] <;> rfl) ?_
     refine al_splitT 44 (by first | rfl | (simp [go_sem] <;> rfl)) (fun h8 => ?_) (fun h8 => ?_)
     ·refine aK 6 44 false ?_
      refine aL 2 (by simp [go_sem] <;> rfl) ?_
      refine al_nil ?_
      refine awp_cond (b := true) (by simp [go_sem, h0, h1, h6, h7, h8]) (fun h => ?_) (fun h => ?_)
      rotate_left
      ·cases h
      refine awp_seq (aR (by simp [go_sem] <;> rfl) ?_)
      refine awp_ret ?_
      refine inBlock_ret ?_
      refine then_ret ?_
      refine ends_ret (by simp [go_sem] <;> rfl) (by simp [go_sem]) ?_
      exact ⟨by rw [cexpr_eq ps b d]; simp only [Bool.not_true, h0, h1, h6, h7, h8, bA, bB, bC, bD, bE, bF, bG, bH, bI, bJ, Bool.false_eq_true, if_true, if_false, sQuote, sIf, sLet, sCall, bne_self_eq_false]; simp [go_sem], by simp [go_sem]⟩
     ·have hl1 : (1 : Int) ≤ d.kids.length := by have := h8; simp only [beq_eq_false_iff_ne] at this; omega
      obtain ⟨x, hx0, hx0m⟩ := get_lt (l := d.kids) (k := 0) (by omega)
      have hh := D.head_of hx0
      have hwr : IntKind.i64.wrap ((d.kids.length : Int) - 1) = d.kids.length - 1 := wrap_id (by omega) (by omega)
      refine aLG 6 44 false (by simp [go_sem, hx0, hl1, hwr] <;> rfl) ?_
      refine aL 2 (by simp [go_sem, hx0, hl1, hwr] <;> rfl) ?_
      refine al_nil ?_
      refine awp_cond (by first | rfl | (simp [go_sem, hx0, hl1, hwr] <;> rfl)) (fun h9 => ?_) (fun h9 => ?_)
      ·refine awp_seq ?_
       refine aR (by simp [go_sem, hx0, hl1, hwr] <;> rfl) ?_
       refine awp_ret ?_
       refine inBlock_ret ?_
       refine then_ret ?_
       refine ends_ret (by simp [go_sem, hx0, hl1, hwr] <;> rfl) (by simp [go_sem]) ?_
       exact ⟨by rw [cexpr_eq ps b d]; simp only [Bool.not_true, hx0, hl1, hwr, h0, h1, h6, h7, h8, hh, h9, bA, bB, bC, bD, bE, bF, bG, bH, bI, bJ, Bool.false_eq_true, if_true, if_false, sQuote, sIf, sLet, sCall, bne_self_eq_false]; simp [go_sem], by simp [go_sem]⟩
      ·refine awp_skip ?_
       refine awp_seq (awp_seq (aR (by simp [go_sem, hx0, hl1, hwr] <;> rfl) ?_))
       refine awp_seq (aR (by simp [go_sem, hx0, hl1, hwr] <;> rfl) ?_)
       refine awp_block ?_
       refine awp_seq (aR (by simp [go_sem, hx0, hl1, hwr] <;> rfl) ?_)
       refine awp_cond (by first | rfl | (simp [go_sem, hx0, hl1, hwr] <;> rfl)) (fun h10 => ?_) (fun h10 => ?_)
       ·refine awp_seq ?_
        refine awp_seq (aR (by simp [go_sem, hx0, hl1, hwr] <;> rfl) ?_)
        refine awp_cond (by first | rfl | (simp [go_sem, hx0, hl1, hwr] <;> rfl)) (fun h11 => ?_) (fun h11 => ?_)
        ·refine awp_seq ?_
         refine aR (by simp [go_sem, hx0, hl1, hwr] <;> rfl) ?_
         refine awp_ret ?_
         refine then_ret ?_
         refine inBlock_ret ?_
         refine then_ret ?_
         refine ends_ret (by simp [go_sem, hx0, hl1, hwr] <;> rfl) (by simp [go_sem]) ?_
         exact ⟨by rw [cexpr_eq ps b d]; simp only [Bool.not_true, hx0, hl1, hwr, h0, h1, h6, h7, h8, hh, h9, h10, h11, bA, bB, bC, bD, bE, bF, bG, bH, bI, bJ, Bool.false_eq_true, if_true, if_false, sQuote, sIf, sLet, sCall, bne_self_eq_false]; simp [go_sem], by simp [go_sem]⟩
        ·refine awp_skip ?_
         refine awp_seq (aR (by simp [go_sem, hx0, hl1, hwr] <;> rfl) ?_)
         refine awp_ret ?_
         refine inBlock_ret ?_
         refine then_ret ?_
         refine ends_ret (by simp [go_sem, hx0, hl1, hwr] <;> rfl) (by simp [go_sem]) ?_
         exact ⟨by rw [cexpr_eq ps b d]; simp only [Bool.not_true, hx0, hl1, hwr, h0, h1, h6, h7, h8, hh, h9, h10, h11, bA, bB, bC, bD, bE, bF, bG, bH, bI, bJ, Bool.false_eq_true, if_true, if_false, sQuote, sIf, sLet, sCall, bne_self_eq_false]; simp [go_sem], by simp [go_sem]⟩
       ·refine awp_seq ?_
        refine aR (by simp [go_sem, hx0, hl1, hwr] <;> rfl) ?_
        refine awp_cond (by first | rfl | (simp [go_sem, hx0, hl1, hwr] <;> rfl)) (fun h12 => ?_) (fun h12 => ?_)
        ·refine awp_seq ?_
         refine awp_seq (aR (by simp [go_sem, hx0, hl1, hwr] <;> rfl) ?_)
         refine awp_cond (by first | rfl | (simp [go_sem, hx0, hl1, hwr] <;> rfl)) (fun h13 => ?_) (fun h13 => ?_)
         ·refine awp_seq ?_
          refine aR (by simp [go_sem, hx0, hl1, hwr] <;> rfl) ?_
          refine awp_ret ?_
          refine then_ret ?_
          refine inBlock_ret ?_
          refine then_ret ?_
          refine ends_ret (by simp [go_sem, hx0, hl1, hwr] <;> rfl) (by simp [go_sem]) ?_
          exact ⟨by rw [cexpr_eq ps b d]; simp only [Bool.not_true, hx0, hl1, hwr, h0, h1, h6, h7, h8, hh, h9, h10, h12, h13, bA, bB, bC, bD, bE, bF, bG, bH, bI, bJ, Bool.false_eq_true, if_true, if_false, sQuote, sIf, sLet, sCall, bne_self_eq_false]; simp [go_sem], by simp [go_sem]⟩
         ·refine awp_skip ?_
          refine awp_seq (awp_reg ?_)
          refine aL 4 (by simp [go_sem, hx0, hl1, hwr] <;> rfl) ?_
          refine aF call92 (c_all σ hgl oc ps b (d.kids.drop 1) (by simp; omega) (fun x hx => ih x (List.mem_of_mem_drop hx) b σ hgl hck (by have := D.size_kid_lt (d := d) (k := x) (List.mem_of_mem_drop hx); omega))) (by simp [go_sem, hx0, hl1, hwr] <;> rfl) (by simp [go_sem, hx0, hl1, hwr, List.map_drop]) ?_
          refine aL 1 (by simp [go_sem, hx0, hl1, hwr] <;> rfl) ?_
          refine al_nil ?_
          refine awp_ret ?_
          refine inBlock_ret ?_
          refine then_ret ?_
          refine ends_ret (by simp [go_sem, hx0, hl1, hwr] <;> rfl) (by simp [go_sem]) ?_
          exact ⟨by rw [cexpr_eq ps b d]; simp only [Bool.not_true, hx0, hl1, hwr, h0, h1, h6, h7, h8, hh, h9, h10, h12, h13, bA, bB, bC, bD, bE, bF, bG, bH, bI, bJ, Bool.false_eq_true, if_true, if_false, sQuote, sIf, sLet, sCall, bne_self_eq_false]; simp [go_sem], by simp [go_sem]⟩
        ·refine awp_seq ?_
         refine aR (by simp [go_sem, hx0, hl1, hwr] <;> rfl) ?_
         refine awp_cond (by first | rfl | (simp [go_sem, hx0, hl1, hwr] <;> rfl)) (fun h14 => ?_) (fun h14 => ?_)
         ·refine awp_seq ?_
          refine awp_seq (awp_reg ?_)
          refine aL 4 (by simp [go_sem, hx0, hl1, hwr] <;> rfl) ?_
          refine al_splitT 78 (by first | rfl | (simp [go_sem, hx0, hl1, hwr] <;> rfl)) (fun h15 => ?_) (fun h15 => ?_)
          ·refine aK 5 78 false ?_
           refine aL 1 (by simp [go_sem, hx0, hl1, hwr] <;> rfl) ?_
           refine al_nil ?_
           refine awp_cond (b := true) (by simp [go_sem, hx0, hl1, hwr, h0, h1, h6, h7, h8, hh, h9, h10, h12, h14, h15]) (fun h => ?_) (fun h => ?_)
           rotate_left
           ·cases h
           refine awp_seq (aR (by simp [go_sem, hx0, hl1, hwr] <;> rfl) ?_)
           refine awp_ret ?_
           refine then_ret ?_
           refine inBlock_ret ?_
           refine then_ret ?_
           refine ends_ret (by simp [go_sem, hx0, hl1, hwr] <;> rfl) (by simp [go_sem]) ?_
           exact ⟨by rw [cexpr_eq ps b d]; simp only [Bool.not_true, hx0, hl1, hwr, h0, h1, h6, h7, h8, hh, h9, h10, h12, h14, h15, bA, bB, bC, bD, bE, bF, bG, bH, bI, bJ, Bool.false_eq_true, if_true, if_false, sQuote, sIf, sLet, sCall, bne_self_eq_false]; simp [go_sem], by simp [go_sem]⟩
          ·have hl4 : d.kids.length = 4 := by have := h15; simp only [bne_eq_false_iff_eq] at this; omega
           obtain ⟨y1, hy1, hy1m⟩ := get_lt (l := d.kids) (k := 1) (by omega)
           obtain ⟨y2, hy2, hy2m⟩ := get_lt (l := d.kids) (k := 2) (by omega)
           obtain ⟨y3, hy3, hy3m⟩ := get_lt (l := d.kids) (k := 3) (by omega)
           have hg1 := getD_of hy1
           have hg2 := cnth_get ps b 2 d.kids y2 hy2
           have hg3 := cnth_get ps (b ++ [y1.text]) 3 d.kids y3 hy3
           have hs2 := D.size_kid_lt hy2m
           have hs3 := D.size_kid_lt hy3m
           have hbb : (b.length + 1) * 16 ≤ 140737488355328 := by omega
           refine aLG 3 78 false (by simp [go_sem, hx0, hl1, hwr, hy1, hy2, hy3, hbb, allSz_str] <;> rfl) ?_
           refine al_fnG 78 false false (by simp [go_sem]) rfl (by simp [go_sem]) rfl rfl (by simp [go_sem, hx0, hl1, hwr, hy1, hy2, hy3, hbb, allSz_str] <;> rfl) call90 ((c_node_IsName y1) _ (by exact hgl)) (by simp [go_sem, hx0, hl1, hwr, hy1, hy2, hy3, hbb, allSz_str] <;> rfl) (by simp [go_sem, hx0, hl1, hwr, hy1, hy2, hy3, hbb, allSz_str]) rfl rfl ?_
           refine aLG 1 78 false (by simp [go_sem, hx0, hl1, hwr, hy1, hy2, hy3, hbb, allSz_str] <;> rfl) ?_
           refine aL 1 (by simp [go_sem, hx0, hl1, hwr, hy1, hy2, hy3, hbb, allSz_str] <;> rfl) ?_
           refine al_nil ?_
           refine awp_cond (by first | rfl | (simp [go_sem, hx0, hl1, hwr, hy1, hy2, hy3, hbb, allSz_str] <;> rfl)) (fun h16 => ?_) (fun h16 => ?_)
           ·refine awp_seq ?_
            refine aR (by simp [go_sem, hx0, hl1, hwr, hy1, hy2, hy3, hbb, allSz_str] <;> rfl) ?_
            refine awp_ret ?_
            refine then_ret ?_
            refine inBlock_ret ?_
            refine then_ret ?_
            refine ends_ret (by simp [go_sem, hx0, hl1, hwr, hy1, hy2, hy3, hbb, allSz_str] <;> rfl) (by simp [go_sem]) ?_
            exact ⟨by rw [cexpr_eq ps b d]; simp only [Bool.not_true, hx0, hl1, hwr, hy1, hy2, hy3, hbb, allSz_str, h0, h1, h6, h7, h8, hh, h9, h10, h12, h14, h15, hg1, hg2, hg3, h16, bA, bB, bC, bD, bE, bF, bG, bH, bI, bJ, Bool.false_eq_true, if_true, if_false, sQuote, sIf, sLet, sCall, bne_self_eq_false]; simp [go_sem], by simp [go_sem]⟩
           ·refine awp_skip ?_
            refine awp_seq (awp_seq (awp_reg ?_))
            refine aL 5 (by simp [go_sem, hx0, hl1, hwr, hy1, hy2, hy3, hbb, allSz_str] <;> rfl) ?_
            refine aF call47 (ih y2 hy2m b σ hgl hck (by omega)) (by simp [go_sem, hx0, hl1, hwr, hy1, hy2, hy3, hbb, allSz_str] <;> rfl) (by simp [go_sem, hx0, hl1, hwr, hy1, hy2, hy3, hbb, allSz_str]) ?_
            refine aL 1 (by simp [go_sem, hx0, hl1, hwr, hy1, hy2, hy3, hbb, allSz_str] <;> rfl) ?_
            refine al_nil ?_
            refine awp_seq (aR (by simp [go_sem, hx0, hl1, hwr, hy1, hy2, hy3, hbb, allSz_str] <;> rfl) ?_)
            refine awp_cond (by first | rfl | (simp [go_sem, hx0, hl1, hwr, hy1, hy2, hy3, hbb, allSz_str] <;> rfl)) (fun h17 => ?_) (fun h17 => ?_)
            ·refine awp_seq ?_
             refine aR (by simp [go_sem, hx0, hl1, hwr, hy1, hy2, hy3, hbb, allSz_str] <;> rfl) ?_
             refine awp_ret ?_
             refine then_ret ?_
             refine inBlock_ret ?_
             refine then_ret ?_
             refine ends_ret (by simp [go_sem, hx0, hl1, hwr, hy1, hy2, hy3, hbb, allSz_str] <;> rfl) (by simp [go_sem]) ?_
             exact ⟨by rw [cexpr_eq ps b d]; simp only [Bool.not_true, hx0, hl1, hwr, hy1, hy2, hy3, hbb, allSz_str, h0, h1, h6, h7, h8, hh, h9, h10, h12, h14, h15, hg1, hg2, hg3, h16, h17, bA, bB, bC, bD, bE, bF, bG, bH, bI, bJ, Bool.false_eq_true, if_true, if_false, sQuote, sIf, sLet, sCall, bne_self_eq_false]; simp [go_sem], by simp [go_sem]⟩
            ·refine awp_skip ?_
             refine awp_seq (awp_regDC tyOk tySz 12 (by kernel_rfl) (by decide) ?_)
             refine ul_run 5 (by simp [go_sem, hx0, hl1, hwr, hy1, hy2, hy3, hbb, allSz_str] <;> rfl) ?_
             refine ul_fn (by first | (intro _ _ hh; exact hh) | simp [go_sem]) rfl rfl rfl rfl (by simp [go_sem, hx0, hl1, hwr, hy1, hy2, hy3, hbb, allSz_str] <;> rfl) call93 ((c_Clip b) _ (by exact hgl)) (by simp [go_sem, hx0, hl1, hwr, hy1, hy2, hy3, hbb, allSz_str] <;> rfl) (by simp [go_sem, hx0, hl1, hwr, hy1, hy2, hy3, hbb, allSz_str]) rfl rfl ?_
             refine ul_run 6 (by simp [go_sem, hx0, hl1, hwr, hy1, hy2, hy3, hbb, allSz_str] <;> rfl) ?_
             refine ul_nil ?_
             refine aF call47 (ih y3 hy3m (b ++ [y1.text]) _ (by exact hgl) (by exact hck) (by simp; omega)) (by simp [go_sem, hx0, hl1, hwr, hy1, hy2, hy3, hbb, allSz_str] <;> rfl) (by simp [go_sem, hx0, hl1, hwr, hy1, hy2, hy3, hbb, allSz_str]) ?_
             refine aL 1 (by simp [go_sem, hx0, hl1, hwr, hy1, hy2, hy3, hbb, allSz_str] <;> rfl) ?_
             refine al_nil ?_
             refine awp_ret ?_
             refine inBlock_ret ?_
             refine then_ret ?_
             refine ends_ret (by simp [go_sem, hx0, hl1, hwr, hy1, hy2, hy3, hbb, allSz_str] <;> rfl) (by simp [go_sem]) ?_
             exact ⟨by rw [cexpr_eq ps b d]; simp only [Bool.not_true, hx0, hl1, hwr, hy1, hy2, hy3, hbb, allSz_str, h0, h1, h6, h7, h8, hh, h9, h10, h12, h14, h15, hg1, hg2, hg3, h16, h17, bA, bB, bC, bD, bE, bF, bG, bH, bI, bJ, Bool.false_eq_true, if_true, if_false, sQuote, sIf, sLet, sCall, bne_self_eq_false]; simp [go_sem], by simp [go_sem]⟩
         ·refine awp_seq ?_
          refine aR (by simp [go_sem, hx0, hl1, hwr] <;> rfl) ?_
          refine awp_cond (by first | rfl | (simp [go_sem, hx0, hl1, hwr] <;> rfl)) (fun h18 => ?_) (fun h18 => ?_)
          ·refine awp_seq ?_
           refine awp_reg ?_
           refine aL 3 (by simp [go_sem, hx0, hl1, hwr] <;> rfl) ?_
           refine aF call94 (c_call σ hgl oc ps b om hck d.kids (by omega) (fun x hx => ih x hx b σ hgl hck (by have := D.size_kid_lt (d := d) (k := x) hx; omega))) (by simp [go_sem, hx0, hl1, hwr] <;> rfl) (by simp [go_sem, hx0, hl1, hwr]) ?_
           refine aL 1 (by simp [go_sem, hx0, hl1, hwr] <;> rfl) ?_
           refine al_nil ?_
           refine awp_ret ?_
           refine inBlock_ret ?_
           refine then_ret ?_
           refine ends_ret (by simp [go_sem, hx0, hl1, hwr] <;> rfl) (by simp [go_sem]) ?_
           exact ⟨by rw [cexpr_eq ps b d]; simp only [Bool.not_true, hx0, hl1, hwr, h0, h1, h6, h7, h8, hh, h9, h10, h12, h14, h18, bA, bB, bC, bD, bE, bF, bG, bH, bI, bJ, Bool.false_eq_true, if_true, if_false, sQuote, sIf, sLet, sCall, bne_self_eq_false]; simp [go_sem], by simp [go_sem]⟩
          ·refine awp_skip ?_
           refine awp_seq (awp_reg ?_)
           refine aL 5 (by simp [go_sem, hx0, hl1, hwr] <;> rfl) ?_
           refine aF call95 ((c_prim_Arity x.text) _ (by exact hgl)) (by simp [go_sem, hx0, hl1, hwr] <;> rfl) (by simp [go_sem, hx0, hl1, hwr]) ?_
           refine aL 5 (by simp [go_sem, hx0, hl1, hwr] <;> rfl) ?_
           refine al_nil ?_
           refine awp_seq (awp_block ?_)
           refine awp_seq (aR (by simp [go_sem, hx0, hl1, hwr] <;> rfl) ?_)
           refine awp_cond (by first | rfl | (simp [go_sem, hx0, hl1, hwr] <;> rfl)) (fun h19 => ?_) (fun h19 => ?_)
           ·refine awp_seq ?_
            refine aR (by simp [go_sem, hx0, hl1, hwr] <;> rfl) ?_
            refine awp_ret ?_
            refine inBlock_ret ?_
            refine then_ret ?_
            refine ends_ret (by simp [go_sem, hx0, hl1, hwr] <;> rfl) (by simp [go_sem]) ?_
            exact ⟨by rw [cexpr_eq ps b d]; simp only [Bool.not_true, hx0, hl1, hwr, h0, h1, h6, h7, h8, hh, h9, h10, h12, h14, h18, h19, bA, bB, bC, bD, bE, bF, bG, bH, bI, bJ, Bool.false_eq_true, if_true, if_false, sQuote, sIf, sLet, sCall, bne_self_eq_false]; simp [go_sem], by simp [go_sem]⟩
           ·refine awp_seq ?_
            refine aR (by simp [go_sem, hx0, hl1, hwr] <;> rfl) ?_
            refine awp_cond (by first | rfl | (simp [go_sem, hx0, hl1, hwr] <;> rfl)) (fun h20 => ?_) (fun h20 => ?_)
            ·refine awp_seq ?_
             refine aR (by simp [go_sem, hx0, hl1, hwr] <;> rfl) ?_
             refine awp_ret ?_
             refine inBlock_ret ?_
             refine then_ret ?_
             refine ends_ret (by simp [go_sem, hx0, hl1, hwr] <;> rfl) (by simp [go_sem]) ?_
             exact ⟨by rw [cexpr_eq ps b d]; simp only [Bool.not_true, hx0, hl1, hwr, h0, h1, h6, h7, h8, hh, h9, h10, h12, h14, h18, h19, h20, bA, bB, bC, bD, bE, bF, bG, bH, bI, bJ, Bool.false_eq_true, if_true, if_false, sQuote, sIf, sLet, sCall, bne_self_eq_false]; simp [go_sem], by simp [go_sem]⟩
            ·refine awp_skip ?_
             refine awp_seq (awp_reg ?_)
             refine aL 5 (by simp [go_sem, hx0, hl1, hwr] <;> rfl) ?_
             refine aF call92 (c_all σ hgl oc ps b (d.kids.drop 1) (by simp; omega) (fun x hx => ih x (List.mem_of_mem_drop hx) b σ hgl hck (by have := D.size_kid_lt (d := d) (k := x) (List.mem_of_mem_drop hx); omega))) (by simp [go_sem, hx0, hl1, hwr] <;> rfl) (by simp [go_sem, hx0, hl1, hwr, List.map_drop]) ?_
             refine aL 1 (by simp [go_sem, hx0, hl1, hwr] <;> rfl) ?_
             refine al_nil ?_
             refine awp_ret ?_
             refine ends_ret (by simp [go_sem, hx0, hl1, hwr] <;> rfl) (by simp [go_sem]) ?_
             exact ⟨by rw [cexpr_eq ps b d]; simp only [Bool.not_true, hx0, hl1, hwr, h0, h1, h6, h7, h8, hh, h9, h10, h12, h14, h18, h19, h20, bA, bB, bC, bD, bE, bF, bG, bH, bI, bJ, Bool.false_eq_true, if_true, if_false, sQuote, sIf, sLet, sCall, bne_self_eq_false]; simp [go_sem], by simp [go_sem]⟩

set_option maxHeartbeats 1000000 in
theorem c_head_none (oc om : Nat) (ps : List (D × Int)) (d : D) (hd : d.size ≤ 1000000000) (σ : Store) (hgl : σ.gl = (GL kr)) (hck : CkAt σ oc om ps) (hkd : kidsOf d 3 false = none) : ACalls Tryz.prog 89 [.ptr oc 0, .pv (enc d)] σ (fun r σ' => r = .pv (.int .i64 (chead ps d).1) ∧ σ' = setM σ om (chead ps d).2) := by
 have hkl := D.kids_length_lt d
 obtain ⟨hoc, hom⟩ := id hck
 refine acalls_of tyOk Tryz.func89 rfl (by simp [Tryz.f89]) ?_
 refine awp_seq (aR (by simp [go_sem, hoc, hkd, encO] <;> rfl) ?_)
 refine awp_seq (awp_reg ?_)
 refine aL 1 (by simp [go_sem, hoc, hkd, encO] <;> rfl) ?_
 refine aF call117 ((c_flat_Kids d 3 false) _ (by exact hgl)) (by simp [go_sem, hoc, hkd, encO] <;> rfl) (by simp [go_sem, hoc, hkd, encO]) ?_
 refine aL 1 (by simp [go_sem, hoc, hkd, encO] <;> rfl) ?_
 refine al_nil ?_
 refine awp_seq (awp_seq (awp_reg ?_))
 refine aL 3 (by simp [go_sem, hoc, hkd, encO] <;> rfl) ?_
 refine al_splitT 14 (by first | rfl | (simp [go_sem, hoc, hkd, encO] <;> rfl)) (fun h0 => ?_) (fun h0 => ?_)
 ·refine aK 5 14 false ?_
  refine aL 1 (by simp [go_sem, hoc, hkd, encO] <;> rfl) ?_
  refine al_nil ?_
  refine awp_cond (b := true) (by simp [go_sem, hoc, hkd, encO, h0]) (fun h => ?_) (fun h => ?_)
  rotate_left
  ·cases h
  refine awp_seq (aR (by simp [go_sem, hoc, hkd, encO] <;> rfl) ?_)
  refine awp_ret ?_
  refine then_ret ?_
  refine ends_ret (by simp [go_sem] <;> rfl) (by simp [go_sem]) ?_
  have hs : chead ps d = (4, ps) := by simp only [chead, hkd]
  rw [hs]
  exact ⟨rfl, (setM_self hck).symm⟩
 ·exact nomatch h0

set_option maxHeartbeats 1000000 in
theorem c_head_some (oc om : Nat) (ps : List (D × Int)) (d : D) (hd : d.size ≤ 1000000000) (σ : Store) (hgl : σ.gl = (GL kr)) (hck : CkAt σ oc om ps) (x0 x1 x2 : D) (hkd : kidsOf d 3 false = some [x0, x1, x2]) (hx1 : x1.size ≤ 1000000000) : ACalls Tryz.prog 89 [.ptr oc 0, .pv (enc d)] σ (fun r σ' => r = .pv (.int .i64 (chead ps d).1) ∧ σ' = setM σ om (chead ps d).2) := by
 have hkl := D.kids_length_lt d
 obtain ⟨hoc, hom⟩ := id hck
 have hg0 : ([x0, x1, x2] : List D).getD 0 dnone = x0 := rfl
 have hg1 : ([x0, x1, x2] : List D).getD 1 dnone = x1 := rfl
 refine acalls_of tyOk Tryz.func89 rfl (by simp [Tryz.f89]) ?_
 refine awp_seq (aR (by simp [go_sem, hoc, hkd, encO] <;> rfl) ?_)
 refine awp_seq (awp_reg ?_)
 refine aL 1 (by simp [go_sem, hoc, hkd, encO] <;> rfl) ?_
 refine aF call117 ((c_flat_Kids d 3 false) _ (by exact hgl)) (by simp [go_sem, hoc, hkd, encO] <;> rfl) (by simp [go_sem, hoc, hkd, encO]) ?_
 refine aL 1 (by simp [go_sem, hoc, hkd, encO] <;> rfl) ?_
 refine al_nil ?_
 refine awp_seq (awp_seq (awp_reg ?_))
 refine aL 3 (by simp [go_sem, hoc, hkd, encO] <;> rfl) ?_
 refine al_splitT 14 (by first | rfl | (simp [go_sem, hoc, hkd, encO] <;> rfl)) (fun h0 => ?_) (fun h0 => ?_)
 ·exact nomatch h0
 ·refine aLG 3 14 false (by simp [go_sem, hoc, hkd, encO] <;> rfl) ?_
  refine al_fnG 14 false false (by simp [go_sem]) rfl (by simp [go_sem]) rfl rfl (by simp [go_sem, hoc, hkd, encO] <;> rfl) call118 ((c_node_Label x0) _ (by exact hgl)) (by simp [go_sem, hoc, hkd, encO] <;> rfl) (by simp [go_sem, hoc, hkd, encO]) rfl rfl ?_
  refine aLG 1 14 false (by simp [go_sem, hoc, hkd, encO] <;> rfl) ?_
  refine aL 1 (by simp [go_sem, hoc, hkd, encO] <;> rfl) ?_
  refine al_nil ?_
  refine awp_cond (by first | rfl | (simp [go_sem, hoc, hkd, encO] <;> rfl)) (fun h1 => ?_) (fun h1 => ?_)
  ·refine awp_seq ?_
   refine aR (by simp [go_sem, hoc, hkd, encO] <;> rfl) ?_
   refine awp_ret ?_
   refine then_ret ?_
   refine ends_ret (by simp [go_sem] <;> rfl) (by simp [go_sem]) ?_
   have hs : chead ps d = (4, ps) := by simp only [chead, hkd, d0, d1, hg0, hg1, Bool.not_true, hoc, hkd, encO, h0, h1, bA, bB, bC, bD, bE, bF, bG, bH, bI, bJ, Bool.false_eq_true, if_true, if_false]
   rw [hs]
   exact ⟨rfl, (setM_self hck).symm⟩
  ·refine awp_skip ?_
   refine awp_seq ?_
   have hlk := fun (s : St) (d : D) (ho : s.σ.objs[om]? = some (.map (mapK ps) (mapV pint ps))) => look_par ho d
   refine awp_regDP tyOk tySz 13 (by kernel_rfl) (by decide) ?_
   refine ul_run 7 (by simp [go_sem, hoc, hkd, encO, hom, hlk] <;> rfl) ?_
   refine ul_fn (by first | (intro _ _ hh; exact hh) | simp [go_sem]) rfl rfl rfl rfl (by simp [go_sem, hoc, hkd, encO, hom, hlk] <;> rfl) call98 ((c_flat_keyOf x0) _ (by exact hgl)) (by simp [go_sem, hoc, hkd, encO, hom, hlk] <;> rfl) (by simp [go_sem, hoc, hkd, encO, hom, hlk]) rfl rfl ?_
   refine ul_run 5 (by simp [go_sem, hoc, hkd, encO, hom, hlk] <;> rfl) ?_
   refine ul_nil ?_
   refine aL 1 (by simp [go_sem, hoc, hkd, encO, hom, hlk] <;> rfl) ?_
   refine al_nil ?_
   refine awp_seq (awp_reg ?_)
   refine aL 3 (by simp [go_sem, hoc, hkd, encO, hom, hlk] <;> rfl) ?_
   refine aF call46 ((c_flat_Names x1 hx1) _ (by exact hgl)) (by simp [go_sem, hoc, hkd, encO, hom, hlk] <;> rfl) (by simp [go_sem, hoc, hkd, encO, hom, hlk]) ?_
   refine aL 5 (by simp [go_sem, hoc, hkd, encO, hom, hlk] <;> rfl) ?_
   refine al_nil ?_
   refine awp_seq (awp_block ?_)
   refine awp_seq (awp_reg ?_)
   refine aL 2 (by simp [go_sem, hoc, hkd, encO, hom, hlk] <;> rfl) ?_
   refine al_splitT 42 (by first | rfl | (simp [go_sem, hoc, hkd, encO, hom, hlk] <;> rfl)) (fun h2 => ?_) (fun h2 => ?_)
   ·refine aK 2 42 false ?_
    refine aL 2 (by simp [go_sem, hoc, hkd, encO, hom, hlk] <;> rfl) ?_
    refine al_nil ?_
    refine awp_cond (b := true) (by simp [go_sem, hoc, hkd, encO, hom, hlk, h0, h1, h2]) (fun h => ?_) (fun h => ?_)
    rotate_left
    ·cases h
    refine awp_seq (aR (by simp [go_sem, hoc, hkd, encO, hom, hlk] <;> rfl) ?_)
    refine awp_ret ?_
    refine inBlock_ret ?_
    refine then_ret ?_
    refine ends_ret (by simp [go_sem] <;> rfl) (by simp [go_sem]) ?_
    have hs : chead ps d = (4, ps) := by simp only [chead, hkd, d0, d1, hg0, hg1, Bool.not_true, hoc, hkd, encO, hom, hlk, h0, h1, h2, bA, bB, bC, bD, bE, bF, bG, bH, bI, bJ, Bool.false_eq_true, if_true, if_false]
    rw [hs]
    exact ⟨rfl, (setM_self hck).symm⟩
   ·refine aLG 2 42 false (by simp [go_sem, hoc, hkd, encO, hom, hlk] <;> rfl) ?_
    refine aL 2 (by simp [go_sem, hoc, hkd, encO, hom, hlk] <;> rfl) ?_
    refine al_nil ?_
    refine awp_cond (by first | rfl | (simp [go_sem, hoc, hkd, encO, hom, hlk] <;> rfl)) (fun h3 => ?_) (fun h3 => ?_)
    ·have hnn : names x1 = none := by simpa using h3
     refine awp_seq (aR (by simp [go_sem, hoc, hkd, encO, hom, hlk] <;> rfl) ?_)
     refine awp_ret ?_
     refine inBlock_ret ?_
     refine then_ret ?_
     refine ends_ret (by simp [go_sem] <;> rfl) (by simp [go_sem]) ?_
     have hs : chead ps d = (4, ps) := by simp only [chead, hkd, d0, d1, hg0, hg1, Bool.not_true, hoc, hkd, encO, hom, hlk, h0, h1, h2, h3, hnn, bA, bB, bC, bD, bE, bF, bG, bH, bI, bJ, Bool.false_eq_true, if_true, if_false]
     rw [hs]
     exact ⟨rfl, (setM_self hck).symm⟩
    ·obtain ⟨ns, hns⟩ : ∃ ns, names x1 = some ns := Option.isSome_iff_exists.1 (by simpa using h3)
     have hpt := fun (s : St) (d : D) (v : Int) (ho : s.σ.objs[om]? = some (.map (mapK ps) (mapV pint ps))) => put_par ho d v
     refine awp_seq (aR (by simp [go_sem, hoc, hkd, encO, hom, hlk, hns, encN] <;> rfl) ?_)
     refine awp_cond (by first | rfl | (simp [go_sem, hoc, hkd, encO, hom, hlk, hns, encN] <;> rfl)) (fun h4 => ?_) (fun h4 => ?_)
     ·refine awp_seq ?_
      refine aR (by simp [go_sem, hoc, hkd, encO, hom, hlk, hns, encN] <;> rfl) ?_
      refine awp_ret ?_
      refine inBlock_ret ?_
      refine then_ret ?_
      refine ends_ret (by simp [go_sem] <;> rfl) (by simp [go_sem]) ?_
      have hs : chead ps d = (3, ps) := by simp only [chead, hkd, d0, d1, hg0, hg1, Bool.not_true, hoc, hkd, encO, hom, hlk, hns, encN, h0, h1, h2, h3, hns, h4, bA, bB, bC, bD, bE, bF, bG, bH, bI, bJ, Bool.false_eq_true, if_true, if_false]
      rw [hs]
      exact ⟨rfl, (setM_self hck).symm⟩
     ·refine awp_skip ?_
      refine awp_seq (awp_regDP tyOk tySz 10 (by kernel_rfl) (by decide) ?_)
      refine ul_run 7 (by simp [go_sem, hoc, hkd, encO, hom, hlk, hns, encN, hpt] <;> rfl) ?_
      refine ul_fn (by first | (intro _ _ hh; exact hh) | simp [go_sem]) rfl rfl rfl rfl (by simp [go_sem, hoc, hkd, encO, hom, hlk, hns, encN, hpt] <;> rfl) call98 ((c_flat_keyOf x0) _ (by exact hgl)) (by simp [go_sem, hoc, hkd, encO, hom, hlk, hns, encN, hpt] <;> rfl) (by simp [go_sem, hoc, hkd, encO, hom, hlk, hns, encN, hpt]) rfl rfl ?_
      refine ul_run 2 (by simp [go_sem, hoc, hkd, encO, hom, hlk, hns, encN, hpt] <;> rfl) ?_
      refine ul_nil ?_
      refine aL 1 (by simp [go_sem, hoc, hkd, encO, hom, hlk, hns, encN, hpt] <;> rfl) ?_
      refine al_nil ?_
      refine awp_seq (aR (by simp [go_sem, hoc, hkd, encO, hom, hlk, hns, encN, hpt] <;> rfl) ?_)
      refine awp_ret ?_
      refine ends_ret (by simp [go_sem] <;> rfl) (by simp [go_sem]) ?_
      have hs : chead ps d = (0, kset ps x0 ns.length) := by simp only [chead, hkd, d0, d1, hg0, hg1, Bool.not_true, hoc, hkd, encO, hom, hlk, hns, encN, hpt, h0, h1, h2, h3, hns, h4, bA, bB, bC, bD, bE, bF, bG, bH, bI, bJ, Bool.false_eq_true, if_true, if_false]
      rw [hs]
      exact ⟨rfl, rfl⟩

end Go.Proofs.YtienmmfjjffjaaaGreatDoor

/- The whole check of a program. -/
namespace Go.Proofs.YtienmmfjjffjaaaGreatDoor
open Go Go.Aw
variable {kr : ResO}
theorem c_head (oc om : Nat) (ps : List (D × Int)) (d : D) (hd : d.size ≤ 1000000000) (σ : Store) (hgl : σ.gl = (GL kr)) (hck : CkAt σ oc om ps) : ACalls Tryz.prog 89 [.ptr oc 0, .pv (enc d)] σ (fun r σ' => r = .pv (.int .i64 (chead ps d).1) ∧ σ' = setM σ om (chead ps d).2) := by
  cases hk : kidsOf d 3 false with
  | none => exact c_head_none oc om ps d hd σ hgl hck hk
  | some l =>
    obtain ⟨x0, x1, x2, rfl, hkk, _⟩ := kidsOf_three hk
    exact c_head_some oc om ps d hd σ hgl hck x0 x1 x2 hk (by have := D.size_kid_lt (d := d) (k := x1) (by rw [hkk]; simp); omega)

set_option maxHeartbeats 1000000 in
theorem c_flat_heads (p : D) (hp : p.size ≤ 1000000000) (σ : Store) (hgl : σ.gl = (GL kr)) : ACalls Tryz.prog 45 [.pv (enc p)] σ (fun r σ' => r = .tuple [.ptr (σ.objs.length + 1) 0, .pv (.int .i64 (heads p).1)] ∧ σ' = withC σ (heads p).2) := by
 have hkl := D.kids_length_lt p
 refine acalls_of tyOk Tryz.func45 rfl (by simp [Tryz.f45]) ?_
 refine awp_seq (aR (by simp [go_sem] <;> rfl) ?_)
 refine awp_seq (awp_region_run (sh := [11]) tyOk (by simp [go_sem] <;> rfl) ?_)
 refine awp_seq (awp_seq (awp_reg ?_))
 refine aL 1 (by simp [go_sem] <;> rfl) ?_
 refine aF call72 ((c_datum_Check p hp) _ (by exact hgl)) (by simp [go_sem] <;> rfl) (by simp [go_sem]) ?_
 refine aL 1 (by simp [go_sem] <;> rfl) ?_
 refine al_nil ?_
 refine awp_seq (aR (by simp [go_sem] <;> rfl) ?_)
 refine awp_cond (by first | rfl | (simp [go_sem] <;> rfl)) (fun h0 => ?_) (fun h0 => ?_)
 ·refine awp_seq ?_
  refine aR (by simp [go_sem] <;> rfl) ?_
  refine awp_ret ?_
  refine then_ret ?_
  refine ends_ret (by simp [go_sem] <;> rfl) (by simp [go_sem]) ?_
  have hs : heads p = (dcheck p, []) := by simp only [heads, h0, bA, bB, bC, bD, bE, bF, bG, bH, bI, bJ, Bool.false_eq_true, if_true, if_false]
  rw [hs]
  exact ⟨rfl, by simp [withC, mapK, mapV]⟩
 ·refine awp_skip ?_
  refine awp_seq (awp_block ?_)
  refine awp_seq (awp_reg ?_)
  refine aL 4 (by simp [go_sem] <;> rfl) ?_
  refine al_splitT 22 (by first | rfl | (simp [go_sem] <;> rfl)) (fun h1 => ?_) (fun h1 => ?_)
  ·refine aK 4 22 false ?_
   refine aL 2 (by simp [go_sem] <;> rfl) ?_
   refine al_nil ?_
   refine awp_cond (b := true) (by simp [go_sem, h0, h1]) (fun h => ?_) (fun h => ?_)
   rotate_left
   ·cases h
   refine awp_seq (aR (by simp [go_sem] <;> rfl) ?_)
   refine awp_ret ?_
   refine inBlock_ret ?_
   refine then_ret ?_
   refine ends_ret (by simp [go_sem] <;> rfl) (by simp [go_sem]) ?_
   have hs : heads p = (4, []) := by simp only [heads, h0, h1, bA, bB, bC, bD, bE, bF, bG, bH, bI, bJ, Bool.false_eq_true, if_true, if_false]
   rw [hs]
   exact ⟨rfl, by simp [withC, mapK, mapV]⟩
  ·refine aLG 4 22 false (by simp [go_sem] <;> rfl) ?_
   refine aL 2 (by simp [go_sem] <;> rfl) ?_
   refine al_nil ?_
   refine awp_cond (by first | rfl | (simp [go_sem] <;> rfl)) (fun h2 => ?_) (fun h2 => ?_)
   ·refine awp_seq ?_
    refine aR (by simp [go_sem] <;> rfl) ?_
    refine awp_ret ?_
    refine inBlock_ret ?_
    refine then_ret ?_
    refine ends_ret (by simp [go_sem] <;> rfl) (by simp [go_sem]) ?_
    have hs : heads p = (4, []) := by simp only [heads, h0, h1, h2, bA, bB, bC, bD, bE, bF, bG, bH, bI, bJ, Bool.false_eq_true, if_true, if_false]
    rw [hs]
    exact ⟨rfl, by simp [withC, mapK, mapV]⟩
   ·refine awp_seq ?_
    refine aR (by simp [go_sem] <;> rfl) ?_
    refine awp_cond (by first | rfl | (simp [go_sem] <;> rfl)) (fun h3 => ?_) (fun h3 => ?_)
    ·refine awp_seq ?_
     refine aR (by simp [go_sem] <;> rfl) ?_
     refine awp_ret ?_
     refine inBlock_ret ?_
     refine then_ret ?_
     refine ends_ret (by simp [go_sem] <;> rfl) (by simp [go_sem]) ?_
     have hs : heads p = (3, []) := by simp only [heads, h0, h1, h2, h3, bA, bB, bC, bD, bE, bF, bG, bH, bI, bJ, Bool.false_eq_true, if_true, if_false]
     rw [hs]
     exact ⟨rfl, by simp [withC, mapK, mapV]⟩
    ·refine awp_skip ?_
     refine awp_seq (awp_seq (aR (by simp [go_sem] <;> rfl) ?_))
     refine awp_block ?_
     refine awp_loop_headK (σ.objs.length + 2) σ.toks.length 1 [2, 3, 4, 36, 37] (fun k : Nat => [(38, .pv (.int .i64 ↑k))]) (fun k => withC σ (hps p.kids k)) (fun k => k ≤ p.kids.length ∧ headsGo [] p.kids = headsGo (hps p.kids k) (p.kids.drop k)) (fun k => p.kids.length - k) 0 (⟨Nat.zero_le _, rfl⟩) ⟨by show withC σ (hps p.kids 0) = _; rw [hps_zero]; simp [withC, mapK, mapV, go_sem], rfl, by simp, by simp, by simp [go_sem], fun ob h => withC_mem h, by simp [go_sem]⟩ ?_
     rintro k ⟨hk, hn⟩
     refine awp_seq (aR (by simp [go_sem] <;> rfl) ?_)
     refine awp_seq (awp_cond (by first | rfl | (simp [go_sem] <;> rfl)) (fun h4 => ?_) (fun h4 => ?_))
     ·have hlt : k < p.kids.length := by simp at h4; omega
      have hw : IntKind.i64.wrap (↑k + 1) = (k : Int) + 1 := wrap_succ (by omega)
      obtain ⟨x, hx, hxm⟩ := get_lt hlt
      have hst := headsGo_step (ps := hps p.kids k) hx
      have hnx := hps_next hx
      refine awp_skip ?_
      refine awp_seq (awp_block ?_)
      refine awp_seq (aR (by simp [go_sem, hx] <;> rfl) ?_)
      refine awp_seq (awp_reg ?_)
      refine aL 2 (by simp [go_sem, hx] <;> rfl) ?_
      refine al_callW rfl rfl rfl (by simp [go_sem, hx] <;> rfl) call89 (c_head (σ.objs.length + 1) σ.objs.length (hps p.kids k) x (by have := D.size_kid_lt hxm; omega) _ (by exact hgl) (withC_ck _ _)) (by simp [go_sem, hx] <;> rfl) (by simp [go_sem, hx]) rfl rfl ?_
      rintro r σ' ⟨rfl, rfl⟩
      refine aL 1 (by simp [go_sem, hx, withC_set, withC_cut2] <;> rfl) ?_
      refine al_nil ?_
      refine awp_seq (aR (by simp [go_sem, hx, withC_set, withC_cut2] <;> rfl) ?_)
      refine awp_cond (by first | rfl | (simp [go_sem, hx, withC_set, withC_cut2] <;> rfl)) (fun h5 => ?_) (fun h5 => ?_)
      ·refine awp_seq ?_
       refine aR (by simp [go_sem, hx, withC_set, withC_cut2] <;> rfl) ?_
       refine awp_ret ?_
       refine inBlock_ret ?_
       refine then_ret ?_
       refine then_ret ?_
       refine inBlock_ret ?_
       refine then_ret ?_
       refine ends_ret (by simp [go_sem] <;> rfl) (by simp [go_sem]) ?_
       have hh : heads p = headsGo [] p.kids := by simp only [heads, hx, withC_set, withC_cut2, h0, h1, h2, h3, h4, h5, bA, bB, bC, bD, bE, bF, bG, bH, bI, bJ, Bool.false_eq_true, if_true, if_false]
       have hs : heads p = chead (hps p.kids k) x := by rw [hh, hn, hst]; simp only [h5, bA, bB, bC, bD, bE, bF, bG, bH, bI, bJ, Bool.false_eq_true, if_true, if_false]
       rw [hs]
       exact ⟨rfl, rfl⟩
      ·refine awp_skip ?_
       refine aR (by simp [go_sem, hx, withC_set, withC_cut2] <;> rfl) ?_
       exact next_intro (k + 1) (σ.objs.length + 2) σ.toks.length 1 (⟨hlt, by rw [hn, hst, hnx]; simp only [h0, h1, h2, h3, h4, h5, bA, bB, bC, bD, bE, bF, bG, bH, bI, bJ, Bool.false_eq_true, if_true, if_false]⟩) (by omega) ⟨by show withC σ _ = (withC σ _).cut _ _; rw [withC_cut2, hnx], rfl, by simp, by simp, by simp [go_sem, hx, withC_set, withC_cut2, hw], fun ob h => withC_mem h, by simp [go_sem]⟩
     ·have hke : k = p.kids.length := by simp at h4; omega
      subst hke
      refine awp_exit ?_
      refine then_exit ?_
      refine then_exit ?_
      refine inBlock_hit ?_
      refine awp_seq (aR (by simp [go_sem] <;> rfl) ?_)
      refine awp_ret ?_
      refine ends_ret (by simp [go_sem] <;> rfl) (by simp [go_sem]) ?_
      have hh : heads p = headsGo [] p.kids := by simp only [heads, h0, h1, h2, h3, bA, bB, bC, bD, bE, bF, bG, bH, bI, bJ, Bool.false_eq_true, if_true, if_false]
      have hs : heads p = (0, hps p.kids p.kids.length) := by rw [hh, hn, List.drop_length]; rfl
      rw [hs]
      exact ⟨rfl, rfl⟩

set_option maxHeartbeats 1000000 in
theorem c_flat_Check (p : D) (hp : p.size ≤ 900000000) : Pur Tryz.prog (GL kr) 11 [.pv (enc p)] (.pv (.int .i64 (fcheck p))) := by
 have hkl := D.kids_length_lt p
 refine pur_of fun σ hgl => ?_
 refine acalls_of tyOk Tryz.func11 rfl (by simp [Tryz.f11]) ?_
 refine awp_seq (aR (by simp [go_sem] <;> rfl) ?_)
 refine awp_seq (awp_reg ?_)
 refine aL 1 (by simp [go_sem] <;> rfl) ?_
 refine al_callW rfl rfl rfl (by simp [go_sem] <;> rfl) call45 (c_flat_heads p (by omega) σ hgl) (by simp [go_sem] <;> rfl) (by simp [go_sem]) rfl rfl ?_
 rintro r σ' ⟨rfl, rfl⟩
 refine aL 5 (by simp [go_sem] <;> rfl) ?_
 refine al_nil ?_
 refine awp_seq (awp_seq (aR (by simp [go_sem] <;> rfl) ?_))
 refine awp_cond (by first | rfl | (simp [go_sem] <;> rfl)) (fun h0 => ?_) (fun h0 => ?_)
 ·refine awp_seq ?_
  refine aR (by simp [go_sem] <;> rfl) ?_
  refine awp_ret ?_
  refine then_ret ?_
  refine ends_ret (by simp [go_sem] <;> rfl) (by simp [go_sem]) ?_
  have hs : fcheck p = (heads p).1 := by simp only [fcheck, h0, bA, bB, bC, bD, bE, bF, bG, bH, bI, bJ, Bool.false_eq_true, if_true, if_false]
  exact ⟨by simp [go_sem, hs], withC_cut σ _⟩
 ·have hh0 : (heads p).1 = 0 := by simpa using h0
  refine awp_skip ?_
  refine awp_seq (awp_seq (aR (by simp [go_sem] <;> rfl) ?_))
  refine awp_block ?_
  refine awp_loop_headK (σ.objs.length + 2) σ.toks.length 1 [2, 3, 19, 20] (fun k : Nat => [(21, .pv (.int .i64 ↑k))]) (fun k => withC σ (heads p).2) (fun k => k ≤ p.kids.length ∧ bodies (heads p).2 p.kids = bodies (heads p).2 (p.kids.drop k)) (fun k => p.kids.length - k) 0 (⟨Nat.zero_le _, rfl⟩) ⟨by show withC σ (heads p).2 = (withC σ _).cut _ _; rw [withC_cut2], rfl, by simp, by simp, by simp [go_sem], fun ob h => withC_mem h, by simp [go_sem]⟩ ?_
  rintro k ⟨hk, hn⟩
  refine awp_seq (aR (by simp [go_sem] <;> rfl) ?_)
  refine awp_seq (awp_cond (by first | rfl | (simp [go_sem] <;> rfl)) (fun h1 => ?_) (fun h1 => ?_))
  ·have hlt : k < p.kids.length := by simp at h1; omega
   have hw : IntKind.i64.wrap (↑k + 1) = (k : Int) + 1 := wrap_succ (by omega)
   obtain ⟨x, hx, hxm⟩ := get_lt hlt
   have hst := bodies_step (ps := (heads p).2) hx
   obtain ⟨x0, x1, x2, ns, hkk, hk3, hlab, hns, hn8⟩ := def_ok hh0 hxm
   have hsx := D.size_kid_lt hxm
   have hs1 := D.size_kid_lt (d := x) (k := x1) (by rw [hkk]; simp)
   have hs2 := D.size_kid_lt (d := x) (k := x2) (by rw [hkk]; simp)
   have hd1 : d1 x.kids = x1 := by rw [hkk]; rfl
   have hd2 : d2 x.kids = x2 := by rw [hkk]; rfl
   have hnl : nlist (names x1) = ns := by rw [hns]; rfl
   refine awp_skip ?_
   refine awp_seq (awp_block ?_)
   refine awp_seq (aR (by simp [go_sem, hx, hkk, hns, encN] <;> rfl) ?_)
   refine awp_seq (awp_reg ?_)
   refine aL 4 (by simp [go_sem, hx, hkk, hns, encN] <;> rfl) ?_
   refine aF call46 ((c_flat_Names x1 (by omega)) _ (by exact hgl)) (by simp [go_sem, hx, hkk, hns, encN] <;> rfl) (by simp [go_sem, hx, hkk, hns, encN]) ?_
   refine aL 5 (by simp [go_sem, hx, hkk, hns, encN] <;> rfl) ?_
   refine al_nil ?_
   refine awp_seq (awp_reg ?_)
   refine aL 6 (by simp [go_sem, hx, hkk, hns, encN] <;> rfl) ?_
   refine aF call47 (c_expr (σ.objs.length + 1) σ.objs.length (heads p).2 x2 ns _ (by exact hgl) (withC_ck _ _) (by omega)) (by simp [go_sem, hx, hkk, hns, encN] <;> rfl) (by simp [go_sem, hx, hkk, hns, encN]) ?_
   refine aL 1 (by simp [go_sem, hx, hkk, hns, encN] <;> rfl) ?_
   refine al_nil ?_
   refine awp_seq (aR (by simp [go_sem, hx, hkk, hns, encN] <;> rfl) ?_)
   refine awp_cond (by first | rfl | (simp [go_sem, hx, hkk, hns, encN] <;> rfl)) (fun h2 => ?_) (fun h2 => ?_)
   ·refine awp_seq ?_
    refine aR (by simp [go_sem, hx, hkk, hns, encN] <;> rfl) ?_
    refine awp_ret ?_
    refine inBlock_ret ?_
    refine then_ret ?_
    refine then_ret ?_
    refine inBlock_ret ?_
    refine then_ret ?_
    refine ends_ret (by simp [go_sem] <;> rfl) (by simp [go_sem]) ?_
    have hs : fcheck p = cexpr (heads p).2 ns x2 := by rw [show fcheck p = bodies (heads p).2 p.kids by simp only [fcheck, hx, hkk, hns, encN, h0, h1, h2, bA, bB, bC, bD, bE, bF, bG, bH, bI, bJ, Bool.false_eq_true, if_true, if_false], hn, hst, hd1, hd2, hnl]; simp only [h2, bA, bB, bC, bD, bE, bF, bG, bH, bI, bJ, Bool.false_eq_true, if_true, if_false]
    exact ⟨by simp [go_sem, hs], withC_cut σ _⟩
   ·refine awp_skip ?_
    refine aR (by simp [go_sem, hx, hkk, hns, encN] <;> rfl) ?_
    exact next_intro (k + 1) (σ.objs.length + 2) σ.toks.length 1 (⟨hlt, by rw [hn, hst, hd1, hd2, hnl]; simp only [h0, h1, h2, bA, bB, bC, bD, bE, bF, bG, bH, bI, bJ, Bool.false_eq_true, if_true, if_false]⟩) (by omega) ⟨by show withC σ _ = (withC σ _).cut _ _; rw [withC_cut2], rfl, by simp, by simp, by simp [go_sem, hx, hkk, hns, encN, hw], fun ob h => withC_mem h, by simp [go_sem]⟩
  ·have hke : k = p.kids.length := by simp at h1; omega
   subst hke
   refine awp_exit ?_
   refine then_exit ?_
   refine then_exit ?_
   refine inBlock_hit ?_
   refine awp_seq (aR (by simp [go_sem] <;> rfl) ?_)
   refine awp_ret ?_
   refine ends_ret (by simp [go_sem] <;> rfl) (by simp [go_sem]) ?_
   have hs : fcheck p = 0 := by rw [show fcheck p = bodies (heads p).2 p.kids by simp only [fcheck, h0, bA, bB, bC, bD, bE, bF, bG, bH, bI, bJ, Bool.false_eq_true, if_true, if_false], hn, List.drop_length]; rfl
   exact ⟨by simp [go_sem, hs], withC_cut σ _⟩

end Go.Proofs.YtienmmfjjffjaaaGreatDoor

/- What is called. -/
namespace Go.Proofs.YtienmmfjjffjaaaGreatDoor
open Go Go.Aw
variable {kr : ResO}
theorem look_seen {s : St} {om : Nat} {m : List (D × Bool)} (ho : s.σ.objs[om]? = some (.map (mapK m) (mapV pbool m))) (d : D) :
    lookAV ty s 99 (.map om) (.pv (keyPV d)) false = some (.pv (.bool (seenB m d))) := by
  rw [look_map (f := pbool) rfl rfl rfl rfl rfl ho]
  unfold seenB
  cases kget m d <;> rfl
theorem put_seen {s : St} {om : Nat} {m : List (D × Bool)} (ho : s.σ.objs[om]? = some (.map (mapK m) (mapV pbool m))) (d : D) (v : Bool) :
    putAV ty s 99 (.map om) (.pv (keyPV d)) (.pv (.bool v)) = some { s.σ with objs := s.σ.objs.set om (.map (mapK (kset m d v)) (mapV pbool (kset m d v))) } :=
  put_map (f := pbool) rfl rfl rfl rfl ho d v rfl

set_option maxHeartbeats 1000000 in
theorem c_flat_calls (d : D) : ∀ (out : List D) (seen : List (D × Bool)) (σ : Store) (om kt : Nat) (hgl : σ.gl = (GL kr)) (hok : okE d = true) (hcm : CMAt σ om kt 24 (out, seen)) (hb : out.length + d.size ≤ 1000000000), ACalls Tryz.prog 80 [.pv (enc d), .acc (out.map enc) kt, .map om] σ (fun r σ' => r = .acc ((callsD d (out, seen)).1.map enc) kt ∧ σ' = setCM σ om kt (callsD d (out, seen))) := by
 induction d using D.ind with
 | _ kind num text kids ih =>
 generalize hD : D.mk kind num text kids = d at *
 have hk : d.kids = kids := by rw [← hD]; rfl
 clear hD
 subst hk
 have hkl := D.kids_length_lt d
 intro out seen σ om kt hgl hok hcm hb
 have hob := hcm.ob
 have htk := hcm.tk
 simp only at hob htk
 have hol := (List.getElem?_eq_some_iff.1 hob).1
 have hkt := (List.getElem?_eq_some_iff.1 htk).1
 have hds := d.size_pos
 have hpl := parts_len d
 have hbb : (out.length + 1) * 56 ≤ 140737488355328 := by omega
 have hlk := fun (s : St) (d : D) (ho : s.σ.objs[om]? = some (.map (mapK seen) (mapV pbool seen))) => look_seen ho d
 have hpt := fun (s : St) (d : D) (v : Bool) (ho : s.σ.objs[om]? = some (.map (mapK seen) (mapV pbool seen))) => put_seen ho d v
 refine acalls_of tyOk Tryz.func80 rfl (by simp [Tryz.f80]) ?_
 refine awp_seq (aR (by simp [go_sem, hob, hlk, hpt] <;> rfl) ?_)
 refine awp_seq (awp_seq (awp_reg ?_))
 refine aL 1 (by simp [go_sem, hob, hlk, hpt] <;> rfl) ?_
 refine aF call114 ((c_flat_IsCall d (okE_ne hok)) _ (by exact hgl)) (by simp [go_sem, hob, hlk, hpt] <;> rfl) (by simp [go_sem, hob, hlk, hpt]) ?_
 refine aL 1 (by simp [go_sem, hob, hlk, hpt] <;> rfl) ?_
 refine al_splitT 11 (by first | rfl | (simp [go_sem, hob, hlk, hpt] <;> rfl)) (fun h0 => ?_) (fun h0 => ?_)
 ·have hk3 := isCall_iff.1 h0
  have h2l := okE_two hok hk3.1 (.inr hk3.2)
  obtain ⟨x1, hx1, hx1m⟩ := get_lt (l := d.kids) (k := 1) (by omega)
  have hd1 : d1 d.kids = x1 := getD_of hx1
  have hx0 : ∃ x0, d.kids[0]? = some x0 := ⟨_, List.getElem?_eq_getElem (by omega)⟩
  refine aLG 5 11 true (by simp [go_sem, hob, hlk, hpt, hx1, htk, hbb] <;> rfl) ?_
  refine al_fnG 11 true true (by simp [go_sem]) rfl (by simp [go_sem]) rfl rfl (by simp [go_sem, hob, hlk, hpt, hx1, htk, hbb] <;> rfl) call98 ((c_flat_keyOf x1) _ (by exact hgl)) (by simp [go_sem, hob, hlk, hpt, hx1, htk, hbb] <;> rfl) (by simp [go_sem, hob, hlk, hpt, hx1, htk, hbb]) rfl rfl ?_
  refine aLG 2 11 true (by simp [go_sem, hob, hlk, hpt, hx1, htk, hbb] <;> rfl) ?_
  refine aL 1 (by simp [go_sem, hob, hlk, hpt, hx1, htk, hbb] <;> rfl) ?_
  refine al_nil ?_
  refine awp_cond (by first | rfl | (simp [go_sem, hob, hlk, hpt, hx1, htk, hbb] <;> rfl)) (fun h1 => ?_) (fun h1 => ?_)
  ·have hsn : seenB seen x1 = false := by simpa using h1
   have hcs : cst d (out, seen) 0 = (out ++ [x1], kset seen x1 true) := by rw [cst_zero]; exact callStep_yes h0 hd1 hsn
   refine awp_seq (awp_reg ?_)
   refine aL 5 (by simp [go_sem, hob, hlk, hpt, hx1, htk, hbb] <;> rfl) ?_
   refine aF call98 ((c_flat_keyOf x1) _ (by exact hgl)) (by simp [go_sem, hob, hlk, hpt, hx1, htk, hbb] <;> rfl) (by simp [go_sem, hob, hlk, hpt, hx1, htk, hbb]) ?_
   refine aL 1 (by simp [go_sem, hob, hlk, hpt, hx1, htk, hbb] <;> rfl) ?_
   refine al_nil ?_
   refine aR (by simp [go_sem, hob, hlk, hpt, hx1, htk, hbb] <;> rfl) ?_
   refine awp_seq (awp_seq (awp_reg ?_))
   refine aL 1 (by simp [go_sem, hob, hlk, hpt, hx1, htk, hbb] <;> rfl) ?_
   refine aF call96 ((c_flat_Parts d (okE_ne hok) (okE_two hok)) _ (by exact hgl)) (by simp [go_sem, hob, hlk, hpt, hx1, htk, hbb] <;> rfl) (by simp [go_sem, hob, hlk, hpt, hx1, htk, hbb]) ?_
   refine aL 2 (by simp [go_sem, hob, hlk, hpt, hx1, htk, hbb] <;> rfl) ?_
   refine al_nil ?_
   refine awp_block ?_
   refine awp_loop_headK σ.objs.length σ.toks.length 1 [2, 6, 35, 36] (fun k : Nat => [(1, .acc ((cst d (out, seen) k).1.map enc) kt), (37, .pv (.int .i64 ↑k))]) (fun k => setCM σ om kt (cst d (out, seen) k)) (fun k => k ≤ (parts d).length) (fun k => (parts d).length - k) 0 (Nat.zero_le _) ⟨by show setCM σ om kt (cst d (out, seen) 0) = _; rw [hcs]; first | (rw [setCM_self hcm]; simp [go_sem]) | simp [setCM, go_sem, List.take_of_length_le], rfl, by simp, by simp, by simp [go_sem, hob, hlk, hpt, hx1, htk, hbb, hcs, hkt, hol], fun ob h => setCM_mem h _ _ _, by simp [go_sem]⟩ ?_
   intro k hk
   refine awp_seq (aR (by simp [go_sem, hob, hlk, hpt, hx1, htk, hbb] <;> rfl) ?_)
   refine awp_seq (awp_cond (by first | rfl | (simp [go_sem, hob, hlk, hpt, hx1, htk, hbb] <;> rfl)) (fun h2 => ?_) (fun h2 => ?_))
   ·have hlt : k < (parts d).length := by simp at h2; omega
    have hw : IntKind.i64.wrap (↑k + 1) = (k : Int) + 1 := wrap_succ (by omega)
    obtain ⟨x, hx, hxm⟩ := get_lt hlt
    have hcn := cst_next (st := (out, seen)) hx
    have hcl := cst_len (st := (out, seen)) hx
    simp only at hcl
    refine awp_skip ?_
    refine awp_seq (awp_block ?_)
    refine awp_seq (aR (by simp [go_sem, hob, hlk, hpt, hx1, htk, hbb, hx] <;> rfl) ?_)
    refine awp_reg ?_
    refine aL 3 (by simp [go_sem, hob, hlk, hpt, hx1, htk, hbb, hx] <;> rfl) ?_
    refine al_callW rfl rfl rfl (by simp [go_sem, hob, hlk, hpt, hx1, htk, hbb, hx] <;> rfl) call80 (ih x (parts_mem hxm) (cst d (out, seen) k).1 (cst d (out, seen) k).2 _ om kt (by exact hgl) (okE_parts hok x hxm) (setCM_at hcm) (by omega)) (by simp [go_sem, hob, hlk, hpt, hx1, htk, hbb, hx] <;> rfl) (by simp [go_sem, hob, hlk, hpt, hx1, htk, hbb, hx]) rfl rfl ?_
    rintro r σ' ⟨rfl, rfl⟩
    refine aL 1 (by simp [go_sem, hob, hlk, hpt, hx1, htk, hbb, hx, setCM_setCM] <;> rfl) ?_
    refine al_nil ?_
    refine aR (by simp [go_sem, hob, hlk, hpt, hx1, htk, hbb, hx, setCM_setCM] <;> rfl) ?_
    exact next_intro (k + 1) σ.objs.length σ.toks.length 1 (hlt) (by omega) ⟨by show setCM σ om kt _ = (setCM σ om kt _).cut _ _; rw [setCM_cut, hcn], rfl, by simp, by simp, by simp [go_sem, hob, hlk, hpt, hx1, htk, hbb, hx, setCM_setCM, hw, hcn, hkt, hol, setCM_no, setCM_nt], fun ob h => setCM_mem h _ _ _, by simp [go_sem]⟩
   ·have hke : k = (parts d).length := by simp at h2; omega
    subst hke
    have hca := cst_all (d := d) (st := (out, seen))
    refine awp_exit ?_
    refine then_exit ?_
    refine then_exit ?_
    refine inBlock_hit ?_
    refine awp_seq (aR (by simp [go_sem, hob, hlk, hpt, hx1, htk, hbb, hca] <;> rfl) ?_)
    refine awp_ret ?_
    refine ends_ret (by simp [go_sem] <;> rfl) (by simp [go_sem]) ?_
    exact ⟨by simp [go_sem, hca], by simp [go_sem, hca]⟩
  ·have hsn : seenB seen x1 = true := by simpa using h1
   have hcs : cst d (out, seen) 0 = (out, seen) := by rw [cst_zero]; exact callStep_seen hd1 hsn
   refine awp_skip ?_
   refine awp_seq (awp_seq (awp_reg ?_))
   refine aL 1 (by simp [go_sem, hob, hlk, hpt, hx1, htk, hbb] <;> rfl) ?_
   refine aF call96 ((c_flat_Parts d (okE_ne hok) (okE_two hok)) _ (by exact hgl)) (by simp [go_sem, hob, hlk, hpt, hx1, htk, hbb] <;> rfl) (by simp [go_sem, hob, hlk, hpt, hx1, htk, hbb]) ?_
   refine aL 2 (by simp [go_sem, hob, hlk, hpt, hx1, htk, hbb] <;> rfl) ?_
   refine al_nil ?_
   refine awp_block ?_
   refine awp_loop_headK σ.objs.length σ.toks.length 1 [2, 6, 35, 36] (fun k : Nat => [(1, .acc ((cst d (out, seen) k).1.map enc) kt), (37, .pv (.int .i64 ↑k))]) (fun k => setCM σ om kt (cst d (out, seen) k)) (fun k => k ≤ (parts d).length) (fun k => (parts d).length - k) 0 (Nat.zero_le _) ⟨by show setCM σ om kt (cst d (out, seen) 0) = _; rw [hcs]; first | (rw [setCM_self hcm]; simp [go_sem]) | simp [setCM, go_sem, List.take_of_length_le], rfl, by simp, by simp, by simp [go_sem, hob, hlk, hpt, hx1, htk, hbb, hcs, hkt, hol], fun ob h => setCM_mem h _ _ _, by simp [go_sem]⟩ ?_
   intro k hk
   refine awp_seq (aR (by simp [go_sem, hob, hlk, hpt, hx1, htk, hbb] <;> rfl) ?_)
   refine awp_seq (awp_cond (by first | rfl | (simp [go_sem, hob, hlk, hpt, hx1, htk, hbb] <;> rfl)) (fun h3 => ?_) (fun h3 => ?_))
   ·have hlt : k < (parts d).length := by simp at h3; omega
    have hw : IntKind.i64.wrap (↑k + 1) = (k : Int) + 1 := wrap_succ (by omega)
    obtain ⟨x, hx, hxm⟩ := get_lt hlt
    have hcn := cst_next (st := (out, seen)) hx
    have hcl := cst_len (st := (out, seen)) hx
    simp only at hcl
    refine awp_skip ?_
    refine awp_seq (awp_block ?_)
    refine awp_seq (aR (by simp [go_sem, hob, hlk, hpt, hx1, htk, hbb, hx] <;> rfl) ?_)
    refine awp_reg ?_
    refine aL 3 (by simp [go_sem, hob, hlk, hpt, hx1, htk, hbb, hx] <;> rfl) ?_
    refine al_callW rfl rfl rfl (by simp [go_sem, hob, hlk, hpt, hx1, htk, hbb, hx] <;> rfl) call80 (ih x (parts_mem hxm) (cst d (out, seen) k).1 (cst d (out, seen) k).2 _ om kt (by exact hgl) (okE_parts hok x hxm) (setCM_at hcm) (by omega)) (by simp [go_sem, hob, hlk, hpt, hx1, htk, hbb, hx] <;> rfl) (by simp [go_sem, hob, hlk, hpt, hx1, htk, hbb, hx]) rfl rfl ?_
    rintro r σ' ⟨rfl, rfl⟩
    refine aL 1 (by simp [go_sem, hob, hlk, hpt, hx1, htk, hbb, hx, setCM_setCM] <;> rfl) ?_
    refine al_nil ?_
    refine aR (by simp [go_sem, hob, hlk, hpt, hx1, htk, hbb, hx, setCM_setCM] <;> rfl) ?_
    exact next_intro (k + 1) σ.objs.length σ.toks.length 1 (hlt) (by omega) ⟨by show setCM σ om kt _ = (setCM σ om kt _).cut _ _; rw [setCM_cut, hcn], rfl, by simp, by simp, by simp [go_sem, hob, hlk, hpt, hx1, htk, hbb, hx, setCM_setCM, hw, hcn, hkt, hol, setCM_no, setCM_nt], fun ob h => setCM_mem h _ _ _, by simp [go_sem]⟩
   ·have hke : k = (parts d).length := by simp at h3; omega
    subst hke
    have hca := cst_all (d := d) (st := (out, seen))
    refine awp_exit ?_
    refine then_exit ?_
    refine then_exit ?_
    refine inBlock_hit ?_
    refine awp_seq (aR (by simp [go_sem, hob, hlk, hpt, hx1, htk, hbb, hca] <;> rfl) ?_)
    refine awp_ret ?_
    refine ends_ret (by simp [go_sem] <;> rfl) (by simp [go_sem]) ?_
    exact ⟨by simp [go_sem, hca], by simp [go_sem, hca]⟩
 ·have hcs : cst d (out, seen) 0 = (out, seen) := by rw [cst_zero]; exact callStep_no h0
  refine aK 8 11 true ?_
  refine aL 1 (by simp [go_sem, hob, hlk, hpt, htk] <;> rfl) ?_
  refine al_nil ?_
  refine awp_cond (b := false) (by simp [go_sem, hob, hlk, hpt, htk, h0]) (fun h => ?_) (fun h => ?_)
  ·cases h
  refine awp_skip ?_
  refine awp_seq (awp_seq (awp_reg ?_))
  refine aL 1 (by simp [go_sem, hob, hlk, hpt, htk] <;> rfl) ?_
  refine aF call96 ((c_flat_Parts d (okE_ne hok) (okE_two hok)) _ (by exact hgl)) (by simp [go_sem, hob, hlk, hpt, htk] <;> rfl) (by simp [go_sem, hob, hlk, hpt, htk]) ?_
  refine aL 2 (by simp [go_sem, hob, hlk, hpt, htk] <;> rfl) ?_
  refine al_nil ?_
  refine awp_block ?_
  refine awp_loop_headK σ.objs.length σ.toks.length 1 [2, 6, 35, 36] (fun k : Nat => [(1, .acc ((cst d (out, seen) k).1.map enc) kt), (37, .pv (.int .i64 ↑k))]) (fun k => setCM σ om kt (cst d (out, seen) k)) (fun k => k ≤ (parts d).length) (fun k => (parts d).length - k) 0 (Nat.zero_le _) ⟨by show setCM σ om kt (cst d (out, seen) 0) = _; rw [hcs]; first | (rw [setCM_self hcm]; simp [go_sem]) | simp [setCM, go_sem, List.take_of_length_le], rfl, by simp, by simp, by simp [go_sem, hob, hlk, hpt, htk, hcs, hkt, hol], fun ob h => setCM_mem h _ _ _, by simp [go_sem]⟩ ?_
  intro k hk
  refine awp_seq (aR (by simp [go_sem, hob, hlk, hpt, htk] <;> rfl) ?_)
  refine awp_seq (awp_cond (by first | rfl | (simp [go_sem, hob, hlk, hpt, htk] <;> rfl)) (fun h4 => ?_) (fun h4 => ?_))
  ·have hlt : k < (parts d).length := by simp at h4; omega
   have hw : IntKind.i64.wrap (↑k + 1) = (k : Int) + 1 := wrap_succ (by omega)
   obtain ⟨x, hx, hxm⟩ := get_lt hlt
   have hcn := cst_next (st := (out, seen)) hx
   have hcl := cst_len (st := (out, seen)) hx
   simp only at hcl
   refine awp_skip ?_
   refine awp_seq (awp_block ?_)
   refine awp_seq (aR (by simp [go_sem, hob, hlk, hpt, htk, hx] <;> rfl) ?_)
   refine awp_reg ?_
   refine aL 3 (by simp [go_sem, hob, hlk, hpt, htk, hx] <;> rfl) ?_
   refine al_callW rfl rfl rfl (by simp [go_sem, hob, hlk, hpt, htk, hx] <;> rfl) call80 (ih x (parts_mem hxm) (cst d (out, seen) k).1 (cst d (out, seen) k).2 _ om kt (by exact hgl) (okE_parts hok x hxm) (setCM_at hcm) (by omega)) (by simp [go_sem, hob, hlk, hpt, htk, hx] <;> rfl) (by simp [go_sem, hob, hlk, hpt, htk, hx]) rfl rfl ?_
   rintro r σ' ⟨rfl, rfl⟩
   refine aL 1 (by simp [go_sem, hob, hlk, hpt, htk, hx, setCM_setCM] <;> rfl) ?_
   refine al_nil ?_
   refine aR (by simp [go_sem, hob, hlk, hpt, htk, hx, setCM_setCM] <;> rfl) ?_
   exact next_intro (k + 1) σ.objs.length σ.toks.length 1 (hlt) (by omega) ⟨by show setCM σ om kt _ = (setCM σ om kt _).cut _ _; rw [setCM_cut, hcn], rfl, by simp, by simp, by simp [go_sem, hob, hlk, hpt, htk, hx, setCM_setCM, hw, hcn, hkt, hol, setCM_no, setCM_nt], fun ob h => setCM_mem h _ _ _, by simp [go_sem]⟩
  ·have hke : k = (parts d).length := by simp at h4; omega
   subst hke
   have hca := cst_all (d := d) (st := (out, seen))
   refine awp_exit ?_
   refine then_exit ?_
   refine then_exit ?_
   refine inBlock_hit ?_
   refine awp_seq (aR (by simp [go_sem, hob, hlk, hpt, htk, hca] <;> rfl) ?_)
   refine awp_ret ?_
   refine ends_ret (by simp [go_sem] <;> rfl) (by simp [go_sem]) ?_
   exact ⟨by simp [go_sem, hca], by simp [go_sem, hca]⟩

theorem put_def {s : St} {o : Nat} {m : List (D × D)} (ho : s.σ.objs[o]? = some (.map (mapK m) (mapV enc m))) (d v : D) :
    putAV ty s 120 (.map o) (.pv (keyPV d)) (.pv (enc v)) = some { s.σ with objs := s.σ.objs.set o (.map (mapK (kset m d v)) (mapV enc (kset m d v))) } :=
  put_map (f := enc) rfl rfl rfl rfl ho d v (by simp only [toPV, atomToPV, Option.map_some, nrm_enc])
theorem look_def {s : St} {o : Nat} {m : List (D × D)} (ho : s.σ.objs[o]? = some (.map (mapK m) (mapV enc m))) (d v : D) (hv : kget m d = some v) :
    lookAV ty s 120 (.map o) (.pv (keyPV d)) false = some (.pv (enc v)) := by
  rw [look_map (f := enc) rfl rfl rfl rfl rfl ho, hv]; rfl

set_option maxHeartbeats 1000000 in
theorem c_flat_defs (p : D) (hp : p.size ≤ 1000000000) (hkn : ∀ x, x ∈ p.kids → x.kids ≠ []) (σ : Store) (hgl : σ.gl = (GL kr)) : ACalls Tryz.prog 102 [.pv (enc p)] σ (fun r σ' => r = .map σ.objs.length ∧ σ' = withM σ (defsL p.kids)) := by
 have hkl := D.kids_length_lt p
 have hmg := fun (m : List (D × D)) => withM_get (σ := σ) (m := m)
 refine acalls_of tyOk Tryz.func102 rfl (by simp [Tryz.f102]) ?_
 refine awp_seq (aR (by simp [go_sem] <;> rfl) ?_)
 refine awp_seq (aR (by simp [go_sem] <;> rfl) ?_)
 refine awp_seq (awp_seq (aR (by simp [go_sem] <;> rfl) ?_))
 refine awp_block ?_
 refine awp_loop_headK (σ.objs.length + 1) σ.toks.length 1 [2, 3, 8, 9] (fun k : Nat => [(10, .pv (.int .i64 ↑k))]) (fun k => withM σ (defsK p.kids k)) (fun k => k ≤ p.kids.length) (fun k => p.kids.length - k) 0 (Nat.zero_le _) ⟨by show withM σ (defsK p.kids 0) = _; rw [defsK_zero]; simp [withM, mapK, mapV, go_sem, List.take_of_length_le], rfl, by simp, by simp, by simp [go_sem], fun ob h => withM_mem h _ _ _, by simp [go_sem]⟩ ?_
 intro k hk
 refine awp_seq (aR (by simp [go_sem] <;> rfl) ?_)
 refine awp_seq (awp_cond (by first | rfl | (simp [go_sem] <;> rfl)) (fun h0 => ?_) (fun h0 => ?_))
 ·have hlt : k < p.kids.length := by simp at h0; omega
  have hw : IntKind.i64.wrap (↑k + 1) = (k : Int) + 1 := wrap_succ (by omega)
  obtain ⟨x, hx, hxm⟩ := get_lt hlt
  obtain ⟨x0, xr, hxk⟩ := kids_cons (hkn x hxm)
  have hxh := head_cons hxk
  have hx0 : x.kids[0]? = some x0 := by rw [hxk]; rfl
  have hdn := defsK_next hx
  have hpt := fun (s : St) (d v : D) (ho : s.σ.objs[σ.objs.length]? = some (.map (mapK (defsK p.kids k)) (mapV enc (defsK p.kids k)))) => put_def ho d v
  refine awp_skip ?_
  refine awp_seq (awp_block ?_)
  refine awp_seq (aR (by simp [go_sem, hx, hx0, hpt, hmg, withM_set] <;> rfl) ?_)
  refine awp_regDC tyOk tySz 7 (by kernel_rfl) (by decide) ?_
  refine ul_run 5 (by simp [go_sem, hx, hx0, hpt, hmg, withM_set] <;> rfl) ?_
  refine ul_fn (by first | (intro _ _ hh; exact hh) | simp [go_sem]) rfl rfl rfl rfl (by simp [go_sem, hx, hx0, hpt, hmg, withM_set] <;> rfl) call98 ((c_flat_keyOf x0) _ (by exact hgl)) (by simp [go_sem, hx, hx0, hpt, hmg, withM_set] <;> rfl) (by simp [go_sem, hx, hx0, hpt, hmg, withM_set]) rfl rfl ?_
  refine ul_run 1 (by simp [go_sem, hx, hx0, hpt, hmg, withM_set] <;> rfl) ?_
  refine ul_nil ?_
  refine aL 1 (by simp [go_sem, hx, hx0, hpt, hmg, withM_set] <;> rfl) ?_
  refine al_nil ?_
  refine aR (by simp [go_sem, hx, hx0, hpt, hmg, withM_set] <;> rfl) ?_
  exact next_intro (k + 1) (σ.objs.length + 1) σ.toks.length 1 (hlt) (by omega) ⟨by show withM σ _ = Store.cut _ _ _; rw [hdn, hxh]; first | exact withM_cut1.symm | simp [withM, go_sem, List.take_of_length_le], rfl, by simp, by simp, by simp [go_sem, hx, hx0, hpt, hmg, withM_set, hw], fun ob h => withM_mem h _ _ _, by simp [go_sem]⟩
 ·have hke : k = p.kids.length := by simp at h0; omega
  subst hke
  refine awp_exit ?_
  refine then_exit ?_
  refine then_exit ?_
  refine inBlock_hit ?_
  refine awp_seq (aR (by simp [go_sem] <;> rfl) ?_)
  refine awp_ret ?_
  refine ends_ret (by simp [go_sem] <;> rfl) (by simp [go_sem]) ?_
  exact ⟨by simp [go_sem], by simp [go_sem, defsK_all]⟩

end Go.Proofs.YtienmmfjjffjaaaGreatDoor
