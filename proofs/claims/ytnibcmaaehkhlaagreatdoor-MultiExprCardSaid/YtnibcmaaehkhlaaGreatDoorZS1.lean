/- Part of the proof that the statement holds for every input that its row lets in: the contracts of the program's functions, printed by a program out of annotations; the statement itself stands at the end of the last part. -/
import Derived.Test.YtnibcmaaehkhlaaGreatDoorProg
import Derived.Test.YtnibcmaaehkhlaaGreatDoorZA2
import Derived.Test.YtnibcmaaehkhlaaGreatDoorZA3
import Derived.Shelf.LaysM
import Derived.Shelf.Small.Strs
import Derived.Shelf.Strconv.Itoa4
import Derived.Shelf.LaysC
import Derived.Shelf.Strconv.AtoiAll
set_option linter.unusedSimpArgs false
set_option linter.unusedVariables false
namespace Go.Proofs.YtnibcmaaehkhlaaGreatDoor
open Go Go.Aw
def tyL : List (Nat × TyI) :=
  [(1, ⟨1, 8, .func, [], [.nilfn], none, []⟩),
   (2, ⟨1, 8, .int .i64, [], [.int .i64 0], none, []⟩),
   (3, ⟨1, 8, .int .i64, [], [.int .i64 0], none, []⟩),
   (4, ⟨1, 1, .bool, [], [.bool false], none, []⟩),
   (5, ⟨1, 1, .int .u8, [], [.int .u8 0], none, []⟩),
   (6, ⟨1, 1, .int .u8, [], [.int .u8 0], none, []⟩),
   (7, ⟨4, 24, .struct, [(0, 1), (1, 1), (2, 1), (3, 1)], [.int .i64 0, .int .i64 0, .bool false, .int .u8 0], none, [2, 3, 4, 6]⟩),
   (8, ⟨4, 24, .struct, [(0, 1), (1, 1), (2, 1), (3, 1)], [.int .i64 0, .int .i64 0, .bool false, .int .u8 0], none, [2, 3, 4, 6]⟩),
   (9, ⟨1, 16, .str, [], [.str ⟨#[]⟩], some (.one (.str)), []⟩),
   (10, ⟨1, 16, .str, [], [.str ⟨#[]⟩], none, []⟩),
   (11, ⟨1, 16, .str, [], [.str ⟨#[]⟩], none, []⟩),
   (12, ⟨1, 8, .int .u64, [], [.int .u64 0], none, []⟩),
   (13, ⟨2, 24, .struct, [(0, 1), (1, 1)], [.str ⟨#[]⟩, .int .u64 0], none, [9, 12]⟩),
   (14, ⟨2, 24, .struct, [(0, 1), (1, 1)], [.str ⟨#[]⟩, .int .u64 0], none, [9, 12]⟩),
   (15, ⟨1, 8, .ptr 315, [], [.nilp], none, []⟩),
   (16, ⟨1, 8, .ptr 318, [], [.nilp], none, []⟩),
   (17, ⟨1, 8, .ptr 326, [], [.nilp], none, []⟩),
   (18, ⟨1, 8, .struct, [(0, 1)], [.nilp], none, [17]⟩),
   (19, ⟨1, 8, .struct, [(0, 1)], [.nilp], none, [17]⟩),
   (20, ⟨1, 16, .iface, [], [.nilif], none, []⟩),
   (21, ⟨1, 4, .int .i32, [], [.int .i32 0], none, []⟩),
   (22, ⟨1, 24, .slice 24, [], [.nils], none, []⟩),
   (23, ⟨4, 56, .struct, [(0, 1), (1, 1), (2, 1), (3, 1)], [.int .i64 0, .int .i64 0, .str ⟨#[]⟩, .nils], none, [3, 2, 9, 22]⟩),
   (24, ⟨4, 56, .struct, [(0, 1), (1, 1), (2, 1), (3, 1)], [.int .i64 0, .int .i64 0, .str ⟨#[]⟩, .nils], none, [3, 2, 9, 22]⟩),
   (25, ⟨1, 8, .int .i64, [], [.int .i64 0], none, []⟩),
   (27, ⟨1, 8, .func, [], [.nilfn], none, []⟩),
   (28, ⟨1, 8, .func, [], [.nilfn], none, []⟩),
   (29, ⟨1, 8, .func, [], [.nilfn], none, []⟩),
   (30, ⟨1, 8, .func, [], [.nilfn], none, []⟩),
   (31, ⟨1, 8, .func, [], [.nilfn], none, []⟩),
   (32, ⟨1, 24, .slice 3, [], [.nils], none, []⟩),
   (34, ⟨1, 8, .func, [], [.nilfn], none, []⟩),
   (35, ⟨1, 24, .slice 9, [], [.nils], none, []⟩),
   (37, ⟨1, 8, .func, [], [.nilfn], none, []⟩),
   (39, ⟨1, 8, .func, [], [.nilfn], none, []⟩),
   (40, ⟨1, 8, .func, [], [.nilfn], none, []⟩),
   (41, ⟨1, 8, .func, [], [.nilfn], none, []⟩),
   (42, ⟨1, 8, .func, [], [.nilfn], none, []⟩),
   (44, ⟨1, 8, .func, [], [.nilfn], none, []⟩),
   (45, ⟨1, 8, .func, [], [.nilfn], none, []⟩),
   (46, ⟨1, 8, .func, [], [.nilfn], none, []⟩),
   (47, ⟨1, 8, .func, [], [.nilfn], none, []⟩),
   (48, ⟨1, 8, .func, [], [.nilfn], none, []⟩),
   (49, ⟨1, 8, .func, [], [.nilfn], none, []⟩),
   (51, ⟨1, 8, .func, [], [.nilfn], none, []⟩),
   (52, ⟨1, 8, .func, [], [.nilfn], none, []⟩),
   (53, ⟨1, 8, .func, [], [.nilfn], none, []⟩),
   (54, ⟨1, 8, .func, [], [.nilfn], none, []⟩),
   (56, ⟨1, 8, .func, [], [.nilfn], none, []⟩),
   (57, ⟨1, 24, .slice 62, [], [.nils], none, []⟩),
   (58, ⟨1, 8, .func, [], [.nilfn], none, []⟩),
   (59, ⟨1, 8, .func, [], [.nilfn], none, []⟩),
   (60, ⟨1, 24, .slice 64, [], [.nils], none, []⟩),
   (61, ⟨3, 64, .struct, [(0, 1), (1, 1), (2, 1)], [.str ⟨#[]⟩, .nils, .nils], none, [9, 32, 60]⟩),
   (62, ⟨3, 64, .struct, [(0, 1), (1, 1), (2, 1)], [.str ⟨#[]⟩, .nils, .nils], none, [9, 32, 60]⟩),
   (63, ⟨3, 48, .struct, [(0, 1), (1, 1), (2, 1)], [.str ⟨#[]⟩, .nils, .int .i64 0], none, [9, 32, 3]⟩),
   (64, ⟨3, 48, .struct, [(0, 1), (1, 1), (2, 1)], [.str ⟨#[]⟩, .nils, .int .i64 0], none, [9, 32, 3]⟩),
   (66, ⟨1, 8, .func, [], [.nilfn], none, []⟩),
   (67, ⟨1, 8, .func, [], [.nilfn], none, []⟩),
   (68, ⟨1, 8, .func, [], [.nilfn], none, []⟩),
   (69, ⟨1, 24, .slice 32, [], [.nils], none, []⟩),
   (70, ⟨1, 8, .func, [], [.nilfn], none, []⟩),
   (72, ⟨1, 8, .func, [], [.nilfn], none, []⟩),
   (73, ⟨1, 8, .func, [], [.nilfn], none, []⟩),
   (74, ⟨1, 8, .func, [], [.nilfn], none, []⟩),
   (75, ⟨1, 8, .func, [], [.nilfn], none, []⟩),
   (76, ⟨1, 8, .func, [], [.nilfn], none, []⟩),
   (77, ⟨1, 8, .func, [], [.nilfn], none, []⟩),
   (78, ⟨1, 8, .func, [], [.nilfn], none, []⟩),
   (79, ⟨1, 8, .func, [], [.nilfn], none, []⟩),
   (80, ⟨1, 8, .func, [], [.nilfn], none, []⟩),
   (81, ⟨1, 8, .func, [], [.nilfn], none, []⟩),
   (82, ⟨1, 8, .func, [], [.nilfn], none, []⟩),
   (83, ⟨1, 8, .func, [], [.nilfn], none, []⟩),
   (84, ⟨1, 8, .func, [], [.nilfn], none, []⟩),
   (86, ⟨1, 8, .func, [], [.nilfn], none, []⟩),
   (88, ⟨1, 8, .func, [], [.nilfn], none, []⟩),
   (89, ⟨1, 8, .func, [], [.nilfn], none, []⟩),
   (91, ⟨1, 8, .func, [], [.nilfn], none, []⟩),
   (92, ⟨1, 8, .func, [], [.nilfn], none, []⟩),
   (93, ⟨1, 8, .func, [], [.nilfn], none, []⟩),
   (94, ⟨1, 8, .func, [], [.nilfn], none, []⟩),
   (95, ⟨1, 8, .map 9 4, [], [.nilmap], none, []⟩),
   (96, ⟨1, 8, .func, [], [.nilfn], none, []⟩),
   (97, ⟨1, 8, .func, [], [.nilfn], none, []⟩),
   (98, ⟨1, 8, .func, [], [.nilfn], none, []⟩),
   (99, ⟨2, 32, .struct, [(0, 1), (1, 1)], [.nils, .int .i64 0], none, [32, 3]⟩),
   (100, ⟨2, 32, .struct, [(0, 1), (1, 1)], [.nils, .int .i64 0], none, [32, 3]⟩),
   (101, ⟨1, 8, .ptr 106, [], [.nilp], none, []⟩),
   (102, ⟨1, 24, .slice 100, [], [.nils], none, []⟩),
   (103, ⟨1, 8, .func, [], [.nilfn], none, []⟩),
   (104, ⟨1, 8, .func, [], [.nilfn], none, []⟩),
   (105, ⟨2, 16, .struct, [(0, 1), (1, 1)], [.nilfn, .nilfn], none, [103, 104]⟩),
   (106, ⟨2, 16, .struct, [(0, 1), (1, 1)], [.nilfn, .nilfn], none, [103, 104]⟩),
   (107, ⟨1, 8, .func, [], [.nilfn], none, []⟩),
   (108, ⟨1, 8, .func, [], [.nilfn], none, []⟩),
   (109, ⟨1, 8, .func, [], [.nilfn], none, []⟩),
   (110, ⟨1, 8, .func, [], [.nilfn], none, []⟩),
   (111, ⟨1, 8, .ptr 113, [], [.nilp], none, []⟩),
   (112, ⟨1, 8, .struct, [(0, 1)], [.int .i64 0], none, [3]⟩),
   (113, ⟨1, 8, .struct, [(0, 1)], [.int .i64 0], none, [3]⟩),
   (114, ⟨1, 8, .func, [], [.nilfn], none, []⟩),
   (115, ⟨1, 8, .func, [], [.nilfn], none, []⟩),
   (116, ⟨1, 8, .func, [], [.nilfn], none, []⟩),
   (117, ⟨1, 8, .func, [], [.nilfn], none, []⟩),
   (118, ⟨1, 8, .map 9 9, [], [.nilmap], none, []⟩),
   (119, ⟨1, 8, .func, [], [.nilfn], none, []⟩),
   (120, ⟨1, 8, .func, [], [.nilfn], none, []⟩),
   (121, ⟨1, 8, .func, [], [.nilfn], none, []⟩),
   (122, ⟨1, 8, .func, [], [.nilfn], none, []⟩),
   (124, ⟨1, 8, .func, [], [.nilfn], none, []⟩),
   (125, ⟨1, 8, .func, [], [.nilfn], none, []⟩),
   (126, ⟨1, 8, .func, [], [.nilfn], none, []⟩),
   (127, ⟨1, 8, .func, [], [.nilfn], none, []⟩),
   (128, ⟨1, 8, .func, [], [.nilfn], none, []⟩),
   (129, ⟨1, 8, .ptr 24, [], [.nilp], none, []⟩),
   (130, ⟨1, 8, .func, [], [.nilfn], none, []⟩),
   (131, ⟨1, 8, .map 9 3, [], [.nilmap], none, []⟩),
   (132, ⟨1, 8, .ptr 202, [], [.nilp], none, []⟩),
   (134, ⟨1, 8, .func, [], [.nilfn], none, []⟩),
   (136, ⟨1, 8, .func, [], [.nilfn], none, []⟩),
   (137, ⟨1, 8, .func, [], [.nilfn], none, []⟩),
   (138, ⟨1, 8, .func, [], [.nilfn], none, []⟩),
   (139, ⟨1, 8, .map 141 3, [], [.nilmap], none, []⟩),
   (140, ⟨2, 24, .struct, [(0, 1), (1, 1)], [.int .i64 0, .str ⟨#[]⟩], none, [2, 9]⟩),
   (141, ⟨2, 24, .struct, [(0, 1), (1, 1)], [.int .i64 0, .str ⟨#[]⟩], some (.many [.int .i64, .str]), [2, 9]⟩),
   (142, ⟨1, 8, .func, [], [.nilfn], none, []⟩),
   (143, ⟨1, 8, .ptr 145, [], [.nilp], none, []⟩),
   (144, ⟨3, 24, .struct, [(0, 1), (1, 1), (2, 1)], [.nilfn, .nilfn, .bool false], none, [28, 28, 4]⟩),
   (145, ⟨3, 24, .struct, [(0, 1), (1, 1), (2, 1)], [.nilfn, .nilfn, .bool false], none, [28, 28, 4]⟩),
   (147, ⟨1, 8, .func, [], [.nilfn], none, []⟩),
   (148, ⟨1, 8, .func, [], [.nilfn], none, []⟩),
   (149, ⟨1, 8, .func, [], [.nilfn], none, []⟩),
   (150, ⟨1, 8, .func, [], [.nilfn], none, []⟩),
   (151, ⟨1, 8, .func, [], [.nilfn], none, []⟩),
   (152, ⟨1, 8, .func, [], [.nilfn], none, []⟩),
   (153, ⟨1, 8, .func, [], [.nilfn], none, []⟩),
   (154, ⟨1, 8, .func, [], [.nilfn], none, []⟩),
   (155, ⟨1, 8, .func, [], [.nilfn], none, []⟩),
   (156, ⟨1, 8, .func, [], [.nilfn], none, []⟩),
   (157, ⟨1, 8, .func, [], [.nilfn], none, []⟩),
   (158, ⟨1, 8, .func, [], [.nilfn], none, []⟩),
   (159, ⟨1, 8, .func, [], [.nilfn], none, []⟩),
   (160, ⟨1, 8, .func, [], [.nilfn], none, []⟩),
   (161, ⟨1, 8, .func, [], [.nilfn], none, []⟩),
   (162, ⟨1, 8, .func, [], [.nilfn], none, []⟩),
   (163, ⟨1, 8, .func, [], [.nilfn], none, []⟩),
   (164, ⟨1, 8, .ptr 237, [], [.nilp], none, []⟩),
   (166, ⟨1, 8, .func, [], [.nilfn], none, []⟩),
   (167, ⟨1, 8, .func, [], [.nilfn], none, []⟩),
   (168, ⟨1, 8, .func, [], [.nilfn], none, []⟩),
   (169, ⟨1, 8, .func, [], [.nilfn], none, []⟩),
   (170, ⟨1, 24, .slice 60, [], [.nils], none, []⟩),
   (171, ⟨1, 8, .func, [], [.nilfn], none, []⟩),
   (172, ⟨1, 8, .func, [], [.nilfn], none, []⟩),
   (173, ⟨1, 8, .func, [], [.nilfn], none, []⟩),
   (174, ⟨1, 8, .func, [], [.nilfn], none, []⟩),
   (175, ⟨1, 8, .int .u64, [], [.int .u64 0], none, []⟩),
   (177, ⟨1, 8, .func, [], [.nilfn], none, []⟩),
   (178, ⟨1, 8, .func, [], [.nilfn], none, []⟩),
   (179, ⟨1, 8, .ptr 184, [], [.nilp], none, []⟩),
   (180, ⟨1, 8, .func, [], [.nilfn], none, []⟩),
   (181, ⟨1, 8, .func, [], [.nilfn], none, []⟩),
   (182, ⟨1, 8, .func, [], [.nilfn], none, []⟩),
   (183, ⟨3, 40, .struct, [(0, 1), (1, 1), (2, 1)], [.str ⟨#[]⟩, .str ⟨#[]⟩, .nilp], none, [9, 9, 179]⟩),
   (184, ⟨3, 40, .struct, [(0, 1), (1, 1), (2, 1)], [.str ⟨#[]⟩, .str ⟨#[]⟩, .nilp], none, [9, 9, 179]⟩),
   (185, ⟨1, 8, .ptr 190, [], [.nilp], none, []⟩),
   (186, ⟨1, 24, .slice 4, [], [.nils], none, []⟩),
   (187, ⟨1, 8, .func, [], [.nilfn], none, []⟩),
   (188, ⟨1, 8, .func, [], [.nilfn], none, []⟩),
   (189, ⟨2, 16, .struct, [(0, 1), (1, 1)], [.nilfn, .nilfn], none, [187, 188]⟩),
   (190, ⟨2, 16, .struct, [(0, 1), (1, 1)], [.nilfn, .nilfn], none, [187, 188]⟩),
   (191, ⟨1, 8, .func, [], [.nilfn], none, []⟩),
   (192, ⟨1, 8, .func, [], [.nilfn], none, []⟩),
   (193, ⟨1, 8, .ptr 198, [], [.nilp], none, []⟩),
   (194, ⟨1, 8, .func, [], [.nilfn], none, []⟩),
   (195, ⟨1, 8, .func, [], [.nilfn], none, []⟩),
   (196, ⟨1, 8, .func, [], [.nilfn], none, []⟩),
   (197, ⟨2, 16, .struct, [(0, 1), (1, 1)], [.nilfn, .nilfn], none, [195, 196]⟩),
   (198, ⟨2, 16, .struct, [(0, 1), (1, 1)], [.nilfn, .nilfn], none, [195, 196]⟩),
   (199, ⟨1, 8, .func, [], [.nilfn], none, []⟩),
   (200, ⟨1, 8, .func, [], [.nilfn], none, []⟩),
   (201, ⟨1, 8, .struct, [(0, 1)], [.nilmap], none, [139]⟩),
   (202, ⟨1, 8, .struct, [(0, 1)], [.nilmap], none, [139]⟩),
   (203, ⟨1, 8, .func, [], [.nilfn], none, []⟩),
   (204, ⟨1, 8, .func, [], [.nilfn], none, []⟩),
   (205, ⟨1, 8, .func, [], [.nilfn], none, []⟩),
   (206, ⟨1, 8, .map 141 24, [], [.nilmap], none, []⟩),
   (207, ⟨1, 8, .func, [], [.nilfn], none, []⟩),
   (208, ⟨1, 8, .map 141 4, [], [.nilmap], none, []⟩),
   (209, ⟨1, 8, .func, [], [.nilfn], none, []⟩),
   (210, ⟨1, 8, .func, [], [.nilfn], none, []⟩),
   (211, ⟨1, 24, .slice 213, [], [.nils], none, []⟩),
   (212, ⟨5, 64, .struct, [(0, 1), (1, 1), (2, 1), (3, 1), (4, 1)], [.int .i64 0, .int .i64 0, .str ⟨#[]⟩, .nils, .int .i64 0], none, [3, 2, 9, 211, 3]⟩),
   (213, ⟨5, 64, .struct, [(0, 1), (1, 1), (2, 1), (3, 1), (4, 1)], [.int .i64 0, .int .i64 0, .str ⟨#[]⟩, .nils, .int .i64 0], none, [3, 2, 9, 211, 3]⟩),
   (215, ⟨1, 8, .func, [], [.nilfn], none, []⟩),
   (216, ⟨1, 8, .func, [], [.nilfn], none, []⟩),
   (217, ⟨1, 8, .func, [], [.nilfn], none, []⟩),
   (218, ⟨1, 8, .func, [], [.nilfn], none, []⟩),
   (219, ⟨1, 8, .func, [], [.nilfn], none, []⟩),
   (220, ⟨2, 16, .struct, [(0, 1), (1, 1)], [.int .i64 0, .int .i64 0], none, [3, 3]⟩),
   (222, ⟨1, 8, .map 9 220, [], [.nilmap], none, []⟩),
   (223, ⟨1, 8, .func, [], [.nilfn], none, []⟩),
   (224, ⟨1, 24, .slice 229, [], [.nils], none, []⟩),
   (225, ⟨1, 8, .func, [], [.nilfn], none, []⟩),
   (226, ⟨1, 8, .func, [], [.nilfn], none, []⟩),
   (227, ⟨1, 8, .func, [], [.nilfn], none, []⟩),
   (228, ⟨2, 32, .struct, [(0, 1), (1, 1)], [.str ⟨#[]⟩, .str ⟨#[]⟩], none, [9, 9]⟩),
   (229, ⟨2, 32, .struct, [(0, 1), (1, 1)], [.str ⟨#[]⟩, .str ⟨#[]⟩], none, [9, 9]⟩),
   (230, ⟨1, 8, .func, [], [.nilfn], none, []⟩),
   (231, ⟨1, 8, .func, [], [.nilfn], none, []⟩),
   (232, ⟨1, 16, .iface, [], [.nilif], none, []⟩),
   (233, ⟨1, 16, .iface, [], [.nilif], none, []⟩),
   (235, ⟨1, 8, .func, [], [.nilfn], none, []⟩),
   (236, ⟨4, 56, .struct, [(0, 1), (1, 2), (3, 1)], [.str ⟨#[]⟩, .nils, .int .i64 0, .nilp], none, [9, 100, 164]⟩),
   (237, ⟨4, 56, .struct, [(0, 1), (1, 2), (3, 1)], [.str ⟨#[]⟩, .nils, .int .i64 0, .nilp], none, [9, 100, 164]⟩),
   (238, ⟨1, 8, .func, [], [.nilfn], none, []⟩),
   (239, ⟨1, 8, .func, [], [.nilfn], none, []⟩),
   (240, ⟨1, 24, .slice 5, [], [.nils], none, []⟩),
   (241, ⟨1, 8, .ptr 267, [], [.nilp], none, []⟩),
   (243, ⟨1, 8, .func, [], [.nilfn], none, []⟩),
   (244, ⟨1, 8, .func, [], [.nilfn], none, []⟩),
   (245, ⟨1, 8, .func, [], [.nilfn], none, []⟩),
   (246, ⟨1, 8, .func, [], [.nilfn], none, []⟩),
   (247, ⟨1, 24, .slice 248, [], [.nils], none, []⟩),
   (248, ⟨2, 24, .struct, [(0, 1), (1, 1)], [.str ⟨#[]⟩, .int .i64 0], none, [9, 3]⟩),
   (249, ⟨1, 8, .func, [], [.nilfn], none, []⟩),
   (250, ⟨24, 24, .array 24 5, [], [.int .u8 0, .int .u8 0, .int .u8 0, .int .u8 0, .int .u8 0, .int .u8 0, .int .u8 0, .int .u8 0, .int .u8 0, .int .u8 0, .int .u8 0, .int .u8 0, .int .u8 0, .int .u8 0, .int .u8 0, .int .u8 0, .int .u8 0, .int .u8 0, .int .u8 0, .int .u8 0, .int .u8 0, .int .u8 0, .int .u8 0, .int .u8 0], none, []⟩),
   (251, ⟨1, 8, .func, [], [.nilfn], none, []⟩),
   (252, ⟨1, 8, .func, [], [.nilfn], none, []⟩),
   (254, ⟨1, 8, .func, [], [.nilfn], none, []⟩),
   (255, ⟨1, 8, .ptr 257, [], [.nilp], none, []⟩),
   (256, ⟨4, 40, .struct, [(0, 1), (1, 1), (2, 1), (3, 1)], [.str ⟨#[]⟩, .int .i64 0, .int .i64 0, .int .i64 0], none, [9, 3, 25, 3]⟩),
   (257, ⟨4, 40, .struct, [(0, 1), (1, 1), (2, 1), (3, 1)], [.str ⟨#[]⟩, .int .i64 0, .int .i64 0, .int .i64 0], none, [9, 3, 25, 3]⟩),
   (258, ⟨1, 8, .func, [], [.nilfn], none, []⟩),
   (259, ⟨1, 8, .func, [], [.nilfn], none, []⟩),
   (260, ⟨1, 8, .func, [], [.nilfn], none, []⟩),
   (261, ⟨1, 8, .func, [], [.nilfn], none, []⟩),
   (262, ⟨1, 8, .func, [], [.nilfn], none, []⟩),
   (263, ⟨1, 8, .int .u64, [], [.int .u64 0], none, []⟩),
   (264, ⟨1, 8, .func, [], [.nilfn], none, []⟩),
   (265, ⟨1, 8, .func, [], [.nilfn], none, []⟩),
   (266, ⟨3, 32, .struct, [(0, 1), (1, 1), (2, 1)], [.str ⟨#[]⟩, .bool false, .nilp], none, [9, 4, 241]⟩),
   (267, ⟨3, 32, .struct, [(0, 1), (1, 1), (2, 1)], [.str ⟨#[]⟩, .bool false, .nilp], none, [9, 4, 241]⟩),
   (268, ⟨1, 8, .func, [], [.nilfn], none, []⟩),
   (269, ⟨1, 8, .func, [], [.nilfn], none, []⟩),
   (270, ⟨20, 160, .array 20 175, [], [.int .u64 0, .int .u64 0, .int .u64 0, .int .u64 0, .int .u64 0, .int .u64 0, .int .u64 0, .int .u64 0, .int .u64 0, .int .u64 0, .int .u64 0, .int .u64 0, .int .u64 0, .int .u64 0, .int .u64 0, .int .u64 0, .int .u64 0, .int .u64 0, .int .u64 0, .int .u64 0], none, []⟩),
   (271, ⟨1, 4, .int .u32, [], [.int .u32 0], none, []⟩),
   (272, ⟨65, 65, .array 65 5, [], [.int .u8 0, .int .u8 0, .int .u8 0, .int .u8 0, .int .u8 0, .int .u8 0, .int .u8 0, .int .u8 0, .int .u8 0, .int .u8 0, .int .u8 0, .int .u8 0, .int .u8 0, .int .u8 0, .int .u8 0, .int .u8 0, .int .u8 0, .int .u8 0, .int .u8 0, .int .u8 0, .int .u8 0, .int .u8 0, .int .u8 0, .int .u8 0, .int .u8 0, .int .u8 0, .int .u8 0, .int .u8 0, .int .u8 0, .int .u8 0, .int .u8 0, .int .u8 0, .int .u8 0, .int .u8 0, .int .u8 0, .int .u8 0, .int .u8 0, .int .u8 0, .int .u8 0, .int .u8 0, .int .u8 0, .int .u8 0, .int .u8 0, .int .u8 0, .int .u8 0, .int .u8 0, .int .u8 0, .int .u8 0, .int .u8 0, .int .u8 0, .int .u8 0, .int .u8 0, .int .u8 0, .int .u8 0, .int .u8 0, .int .u8 0, .int .u8 0, .int .u8 0, .int .u8 0, .int .u8 0, .int .u8 0, .int .u8 0, .int .u8 0, .int .u8 0, .int .u8 0], none, []⟩),
   (273, ⟨1, 8, .func, [], [.nilfn], none, []⟩),
   (274, ⟨1, 8, .func, [], [.nilfn], none, []⟩),
   (275, ⟨1, 8, .func, [], [.nilfn], none, []⟩),
   (276, ⟨1, 8, .int .i64, [], [.int .i64 0], none, []⟩),
   (278, ⟨1, 8, .func, [], [.nilfn], none, []⟩),
   (279, ⟨1, 8, .func, [], [.nilfn], none, []⟩),
   (280, ⟨1, 8, .func, [], [.nilfn], none, []⟩),
   (281, ⟨1, 8, .func, [], [.nilfn], none, []⟩),
   (282, ⟨1, 8, .func, [], [.nilfn], none, []⟩),
   (283, ⟨1, 8, .func, [], [.nilfn], none, []⟩),
   (284, ⟨1, 8, .int .i64, [], [.int .i64 0], none, []⟩),
   (286, ⟨1, 8, .func, [], [.nilfn], none, []⟩),
   (287, ⟨1, 8, .ptr 302, [], [.nilp], none, []⟩),
   (288, ⟨1, 8, .func, [], [.nilfn], none, []⟩),
   (289, ⟨1, 8, .func, [], [.nilfn], none, []⟩),
   (291, ⟨1, 8, .func, [], [.nilfn], none, []⟩),
   (292, ⟨1, 8, .int .u64, [], [.int .u64 0], none, []⟩),
   (293, ⟨1, 8, .func, [], [.nilfn], none, []⟩),
   (294, ⟨1, 8, .func, [], [.nilfn], none, []⟩),
   (295, ⟨1, 8, .func, [], [.nilfn], none, []⟩),
   (296, ⟨1, 8, .ptr 3, [], [.nilp], none, []⟩),
   (297, ⟨1, 8, .func, [], [.nilfn], none, []⟩),
   (299, ⟨1, 8, .func, [], [.nilfn], none, []⟩),
   (300, ⟨1, 8, .func, [], [.nilfn], none, []⟩),
   (301, ⟨3, 48, .struct, [(0, 1), (1, 1), (2, 1)], [.str ⟨#[]⟩, .str ⟨#[]⟩, .nilif], none, [9, 9, 233]⟩),
   (302, ⟨3, 48, .struct, [(0, 1), (1, 1), (2, 1)], [.str ⟨#[]⟩, .str ⟨#[]⟩, .nilif], none, [9, 9, 233]⟩),
   (303, ⟨1, 8, .func, [], [.nilfn], none, []⟩),
   (304, ⟨32, 32, .array 32 5, [], [.int .u8 0, .int .u8 0, .int .u8 0, .int .u8 0, .int .u8 0, .int .u8 0, .int .u8 0, .int .u8 0, .int .u8 0, .int .u8 0, .int .u8 0, .int .u8 0, .int .u8 0, .int .u8 0, .int .u8 0, .int .u8 0, .int .u8 0, .int .u8 0, .int .u8 0, .int .u8 0, .int .u8 0, .int .u8 0, .int .u8 0, .int .u8 0, .int .u8 0, .int .u8 0, .int .u8 0, .int .u8 0, .int .u8 0, .int .u8 0, .int .u8 0, .int .u8 0], none, []⟩),
   (305, ⟨64, 64, .array 64 5, [], [.int .u8 0, .int .u8 0, .int .u8 0, .int .u8 0, .int .u8 0, .int .u8 0, .int .u8 0, .int .u8 0, .int .u8 0, .int .u8 0, .int .u8 0, .int .u8 0, .int .u8 0, .int .u8 0, .int .u8 0, .int .u8 0, .int .u8 0, .int .u8 0, .int .u8 0, .int .u8 0, .int .u8 0, .int .u8 0, .int .u8 0, .int .u8 0, .int .u8 0, .int .u8 0, .int .u8 0, .int .u8 0, .int .u8 0, .int .u8 0, .int .u8 0, .int .u8 0, .int .u8 0, .int .u8 0, .int .u8 0, .int .u8 0, .int .u8 0, .int .u8 0, .int .u8 0, .int .u8 0, .int .u8 0, .int .u8 0, .int .u8 0, .int .u8 0, .int .u8 0, .int .u8 0, .int .u8 0, .int .u8 0, .int .u8 0, .int .u8 0, .int .u8 0, .int .u8 0, .int .u8 0, .int .u8 0, .int .u8 0, .int .u8 0, .int .u8 0, .int .u8 0, .int .u8 0, .int .u8 0, .int .u8 0, .int .u8 0, .int .u8 0, .int .u8 0], none, []⟩),
   (306, ⟨1, 8, .ptr 292, [], [.nilp], none, []⟩),
   (308, ⟨1, 8, .func, [], [.nilfn], none, []⟩),
   (309, ⟨1, 8, .func, [], [.nilfn], none, []⟩),
   (310, ⟨1, 8, .ptr 5, [], [.nilp], none, []⟩),
   (311, ⟨1, 8, .ptr 313, [], [.nilp], none, []⟩),
   (312, ⟨1, 16, .struct, [(0, 1)], [.str ⟨#[]⟩], none, [9]⟩),
   (313, ⟨1, 16, .struct, [(0, 1)], [.str ⟨#[]⟩], none, [9]⟩),
   (314, ⟨4, 40, .struct, [(0, 1), (1, 1), (2, 1), (3, 1)], [.nilp, .nilp, .nilp, .str ⟨#[]⟩], none, [17, 17, 17, 9]⟩),
   (315, ⟨4, 40, .struct, [(0, 1), (1, 1), (2, 1), (3, 1)], [.nilp, .nilp, .nilp, .str ⟨#[]⟩], none, [17, 17, 17, 9]⟩),
   (319, ⟨1, 8, .func, [], [.nilfn], none, []⟩),
   (320, ⟨1, 1, .int .u8, [], [.int .u8 0], none, []⟩),
   (321, ⟨1, 1, .int .u8, [], [.int .u8 0], none, []⟩),
   (322, ⟨1, 8, .func, [], [.nilfn], none, []⟩),
   (323, ⟨1, 4, .int .i32, [], [.int .i32 0], none, []⟩),
   (324, ⟨1, 4, .int .i32, [], [.int .i32 0], none, []⟩),
   (325, ⟨11, 48, .struct, [(0, 1), (1, 1), (2, 1), (3, 1), (4, 1), (5, 1), (6, 1), (7, 1), (8, 1), (9, 1), (10, 1)], [.int .u64 0, .int .u64 0, .int .u32 0, .int .u8 0, .int .u8 0, .int .u8 0, .int .u8 0, .nilfn, .nilp, .int .i32 0, .int .i32 0], none, [12, 12, 271, 320, 5, 5, 321, 322, 310, 323, 324]⟩),
   (326, ⟨11, 48, .struct, [(0, 1), (1, 1), (2, 1), (3, 1), (4, 1), (5, 1), (6, 1), (7, 1), (8, 1), (9, 1), (10, 1)], [.int .u64 0, .int .u64 0, .int .u32 0, .int .u8 0, .int .u8 0, .int .u8 0, .int .u8 0, .nilfn, .nilp, .int .i32 0, .int .i32 0], none, [12, 12, 271, 320, 5, 5, 321, 322, 310, 323, 324]⟩)]
def ty : TyT := fun t => (tyL.find? fun p => p.1 == t).map (·.2)
set_option maxRecDepth 100000
theorem tyL_ok : (tyL.all fun p => tyChk Tryz.prog p.1 p.2) = true := by kernel_rfl
theorem tyOk : TyOk Tryz.prog ty := by
  intro t ti h
  obtain ⟨p, hp, rfl⟩ := Option.map_eq_some_iff.1 h
  have h1 := List.find?_some hp
  have h2 := List.mem_of_find?_eq_some hp
  have h3 := List.all_eq_true.1 tyL_ok p h2
  simp only [beq_iff_eq] at h1
  rw [← h1]
  exact tyF_of h3
theorem tySz : ∀ t ti, ty t = some ti → ti.size ≠ 0 := by
  intro t ti h
  obtain ⟨p, hp, rfl⟩ := Option.map_eq_some_iff.1 h
  have h2 := List.mem_of_find?_eq_some hp
  have h3 : (tyL.all fun p => p.2.size != 0) = true := by kernel_rfl
  simpa using List.all_eq_true.1 h3 p h2
@[go_sem] theorem ty1 : ty 1 = some ⟨1, 8, .func, [], [.nilfn], none, []⟩ := rfl
@[go_sem] theorem ty2 : ty 2 = some ⟨1, 8, .int .i64, [], [.int .i64 0], none, []⟩ := rfl
@[go_sem] theorem ty3 : ty 3 = some ⟨1, 8, .int .i64, [], [.int .i64 0], none, []⟩ := rfl
@[go_sem] theorem ty4 : ty 4 = some ⟨1, 1, .bool, [], [.bool false], none, []⟩ := rfl
@[go_sem] theorem ty5 : ty 5 = some ⟨1, 1, .int .u8, [], [.int .u8 0], none, []⟩ := rfl
@[go_sem] theorem ty6 : ty 6 = some ⟨1, 1, .int .u8, [], [.int .u8 0], none, []⟩ := rfl
@[go_sem] theorem ty7 : ty 7 = some ⟨4, 24, .struct, [(0, 1), (1, 1), (2, 1), (3, 1)], [.int .i64 0, .int .i64 0, .bool false, .int .u8 0], none, [2, 3, 4, 6]⟩ := rfl
@[go_sem] theorem ty8 : ty 8 = some ⟨4, 24, .struct, [(0, 1), (1, 1), (2, 1), (3, 1)], [.int .i64 0, .int .i64 0, .bool false, .int .u8 0], none, [2, 3, 4, 6]⟩ := rfl
@[go_sem] theorem ty9 : ty 9 = some ⟨1, 16, .str, [], [.str ⟨#[]⟩], some (.one (.str)), []⟩ := rfl
@[go_sem] theorem ty10 : ty 10 = some ⟨1, 16, .str, [], [.str ⟨#[]⟩], none, []⟩ := rfl
@[go_sem] theorem ty11 : ty 11 = some ⟨1, 16, .str, [], [.str ⟨#[]⟩], none, []⟩ := rfl
@[go_sem] theorem ty12 : ty 12 = some ⟨1, 8, .int .u64, [], [.int .u64 0], none, []⟩ := rfl
@[go_sem] theorem ty13 : ty 13 = some ⟨2, 24, .struct, [(0, 1), (1, 1)], [.str ⟨#[]⟩, .int .u64 0], none, [9, 12]⟩ := rfl
@[go_sem] theorem ty14 : ty 14 = some ⟨2, 24, .struct, [(0, 1), (1, 1)], [.str ⟨#[]⟩, .int .u64 0], none, [9, 12]⟩ := rfl
@[go_sem] theorem ty15 : ty 15 = some ⟨1, 8, .ptr 315, [], [.nilp], none, []⟩ := rfl
@[go_sem] theorem ty16 : ty 16 = some ⟨1, 8, .ptr 318, [], [.nilp], none, []⟩ := rfl
@[go_sem] theorem ty17 : ty 17 = some ⟨1, 8, .ptr 326, [], [.nilp], none, []⟩ := rfl
@[go_sem] theorem ty18 : ty 18 = some ⟨1, 8, .struct, [(0, 1)], [.nilp], none, [17]⟩ := rfl
@[go_sem] theorem ty19 : ty 19 = some ⟨1, 8, .struct, [(0, 1)], [.nilp], none, [17]⟩ := rfl
@[go_sem] theorem ty20 : ty 20 = some ⟨1, 16, .iface, [], [.nilif], none, []⟩ := rfl
@[go_sem] theorem ty21 : ty 21 = some ⟨1, 4, .int .i32, [], [.int .i32 0], none, []⟩ := rfl
@[go_sem] theorem ty22 : ty 22 = some ⟨1, 24, .slice 24, [], [.nils], none, []⟩ := rfl
@[go_sem] theorem ty23 : ty 23 = some ⟨4, 56, .struct, [(0, 1), (1, 1), (2, 1), (3, 1)], [.int .i64 0, .int .i64 0, .str ⟨#[]⟩, .nils], none, [3, 2, 9, 22]⟩ := rfl
@[go_sem] theorem ty24 : ty 24 = some ⟨4, 56, .struct, [(0, 1), (1, 1), (2, 1), (3, 1)], [.int .i64 0, .int .i64 0, .str ⟨#[]⟩, .nils], none, [3, 2, 9, 22]⟩ := rfl
@[go_sem] theorem ty25 : ty 25 = some ⟨1, 8, .int .i64, [], [.int .i64 0], none, []⟩ := rfl
@[go_sem] theorem ty27 : ty 27 = some ⟨1, 8, .func, [], [.nilfn], none, []⟩ := rfl
@[go_sem] theorem ty28 : ty 28 = some ⟨1, 8, .func, [], [.nilfn], none, []⟩ := rfl
@[go_sem] theorem ty29 : ty 29 = some ⟨1, 8, .func, [], [.nilfn], none, []⟩ := rfl
@[go_sem] theorem ty30 : ty 30 = some ⟨1, 8, .func, [], [.nilfn], none, []⟩ := rfl
@[go_sem] theorem ty31 : ty 31 = some ⟨1, 8, .func, [], [.nilfn], none, []⟩ := rfl
@[go_sem] theorem ty32 : ty 32 = some ⟨1, 24, .slice 3, [], [.nils], none, []⟩ := rfl
@[go_sem] theorem ty34 : ty 34 = some ⟨1, 8, .func, [], [.nilfn], none, []⟩ := rfl
@[go_sem] theorem ty35 : ty 35 = some ⟨1, 24, .slice 9, [], [.nils], none, []⟩ := rfl
@[go_sem] theorem ty37 : ty 37 = some ⟨1, 8, .func, [], [.nilfn], none, []⟩ := rfl
@[go_sem] theorem ty39 : ty 39 = some ⟨1, 8, .func, [], [.nilfn], none, []⟩ := rfl
@[go_sem] theorem ty40 : ty 40 = some ⟨1, 8, .func, [], [.nilfn], none, []⟩ := rfl
@[go_sem] theorem ty41 : ty 41 = some ⟨1, 8, .func, [], [.nilfn], none, []⟩ := rfl
@[go_sem] theorem ty42 : ty 42 = some ⟨1, 8, .func, [], [.nilfn], none, []⟩ := rfl
@[go_sem] theorem ty44 : ty 44 = some ⟨1, 8, .func, [], [.nilfn], none, []⟩ := rfl
@[go_sem] theorem ty45 : ty 45 = some ⟨1, 8, .func, [], [.nilfn], none, []⟩ := rfl
@[go_sem] theorem ty46 : ty 46 = some ⟨1, 8, .func, [], [.nilfn], none, []⟩ := rfl
@[go_sem] theorem ty47 : ty 47 = some ⟨1, 8, .func, [], [.nilfn], none, []⟩ := rfl
@[go_sem] theorem ty48 : ty 48 = some ⟨1, 8, .func, [], [.nilfn], none, []⟩ := rfl
@[go_sem] theorem ty49 : ty 49 = some ⟨1, 8, .func, [], [.nilfn], none, []⟩ := rfl
@[go_sem] theorem ty51 : ty 51 = some ⟨1, 8, .func, [], [.nilfn], none, []⟩ := rfl
@[go_sem] theorem ty52 : ty 52 = some ⟨1, 8, .func, [], [.nilfn], none, []⟩ := rfl
@[go_sem] theorem ty53 : ty 53 = some ⟨1, 8, .func, [], [.nilfn], none, []⟩ := rfl
@[go_sem] theorem ty54 : ty 54 = some ⟨1, 8, .func, [], [.nilfn], none, []⟩ := rfl
@[go_sem] theorem ty56 : ty 56 = some ⟨1, 8, .func, [], [.nilfn], none, []⟩ := rfl
@[go_sem] theorem ty57 : ty 57 = some ⟨1, 24, .slice 62, [], [.nils], none, []⟩ := rfl
@[go_sem] theorem ty58 : ty 58 = some ⟨1, 8, .func, [], [.nilfn], none, []⟩ := rfl
@[go_sem] theorem ty59 : ty 59 = some ⟨1, 8, .func, [], [.nilfn], none, []⟩ := rfl
@[go_sem] theorem ty60 : ty 60 = some ⟨1, 24, .slice 64, [], [.nils], none, []⟩ := rfl
@[go_sem] theorem ty61 : ty 61 = some ⟨3, 64, .struct, [(0, 1), (1, 1), (2, 1)], [.str ⟨#[]⟩, .nils, .nils], none, [9, 32, 60]⟩ := rfl
@[go_sem] theorem ty62 : ty 62 = some ⟨3, 64, .struct, [(0, 1), (1, 1), (2, 1)], [.str ⟨#[]⟩, .nils, .nils], none, [9, 32, 60]⟩ := rfl
@[go_sem] theorem ty63 : ty 63 = some ⟨3, 48, .struct, [(0, 1), (1, 1), (2, 1)], [.str ⟨#[]⟩, .nils, .int .i64 0], none, [9, 32, 3]⟩ := rfl
@[go_sem] theorem ty64 : ty 64 = some ⟨3, 48, .struct, [(0, 1), (1, 1), (2, 1)], [.str ⟨#[]⟩, .nils, .int .i64 0], none, [9, 32, 3]⟩ := rfl
@[go_sem] theorem ty66 : ty 66 = some ⟨1, 8, .func, [], [.nilfn], none, []⟩ := rfl
@[go_sem] theorem ty67 : ty 67 = some ⟨1, 8, .func, [], [.nilfn], none, []⟩ := rfl
@[go_sem] theorem ty68 : ty 68 = some ⟨1, 8, .func, [], [.nilfn], none, []⟩ := rfl
@[go_sem] theorem ty69 : ty 69 = some ⟨1, 24, .slice 32, [], [.nils], none, []⟩ := rfl
@[go_sem] theorem ty70 : ty 70 = some ⟨1, 8, .func, [], [.nilfn], none, []⟩ := rfl
@[go_sem] theorem ty72 : ty 72 = some ⟨1, 8, .func, [], [.nilfn], none, []⟩ := rfl
@[go_sem] theorem ty73 : ty 73 = some ⟨1, 8, .func, [], [.nilfn], none, []⟩ := rfl
@[go_sem] theorem ty74 : ty 74 = some ⟨1, 8, .func, [], [.nilfn], none, []⟩ := rfl
@[go_sem] theorem ty75 : ty 75 = some ⟨1, 8, .func, [], [.nilfn], none, []⟩ := rfl
@[go_sem] theorem ty76 : ty 76 = some ⟨1, 8, .func, [], [.nilfn], none, []⟩ := rfl
@[go_sem] theorem ty77 : ty 77 = some ⟨1, 8, .func, [], [.nilfn], none, []⟩ := rfl
@[go_sem] theorem ty78 : ty 78 = some ⟨1, 8, .func, [], [.nilfn], none, []⟩ := rfl
@[go_sem] theorem ty79 : ty 79 = some ⟨1, 8, .func, [], [.nilfn], none, []⟩ := rfl
@[go_sem] theorem ty80 : ty 80 = some ⟨1, 8, .func, [], [.nilfn], none, []⟩ := rfl
@[go_sem] theorem ty81 : ty 81 = some ⟨1, 8, .func, [], [.nilfn], none, []⟩ := rfl
@[go_sem] theorem ty82 : ty 82 = some ⟨1, 8, .func, [], [.nilfn], none, []⟩ := rfl
@[go_sem] theorem ty83 : ty 83 = some ⟨1, 8, .func, [], [.nilfn], none, []⟩ := rfl
@[go_sem] theorem ty84 : ty 84 = some ⟨1, 8, .func, [], [.nilfn], none, []⟩ := rfl
@[go_sem] theorem ty86 : ty 86 = some ⟨1, 8, .func, [], [.nilfn], none, []⟩ := rfl
@[go_sem] theorem ty88 : ty 88 = some ⟨1, 8, .func, [], [.nilfn], none, []⟩ := rfl
@[go_sem] theorem ty89 : ty 89 = some ⟨1, 8, .func, [], [.nilfn], none, []⟩ := rfl
@[go_sem] theorem ty91 : ty 91 = some ⟨1, 8, .func, [], [.nilfn], none, []⟩ := rfl
@[go_sem] theorem ty92 : ty 92 = some ⟨1, 8, .func, [], [.nilfn], none, []⟩ := rfl
@[go_sem] theorem ty93 : ty 93 = some ⟨1, 8, .func, [], [.nilfn], none, []⟩ := rfl
@[go_sem] theorem ty94 : ty 94 = some ⟨1, 8, .func, [], [.nilfn], none, []⟩ := rfl
@[go_sem] theorem ty95 : ty 95 = some ⟨1, 8, .map 9 4, [], [.nilmap], none, []⟩ := rfl
@[go_sem] theorem ty96 : ty 96 = some ⟨1, 8, .func, [], [.nilfn], none, []⟩ := rfl
@[go_sem] theorem ty97 : ty 97 = some ⟨1, 8, .func, [], [.nilfn], none, []⟩ := rfl
@[go_sem] theorem ty98 : ty 98 = some ⟨1, 8, .func, [], [.nilfn], none, []⟩ := rfl
@[go_sem] theorem ty99 : ty 99 = some ⟨2, 32, .struct, [(0, 1), (1, 1)], [.nils, .int .i64 0], none, [32, 3]⟩ := rfl
@[go_sem] theorem ty100 : ty 100 = some ⟨2, 32, .struct, [(0, 1), (1, 1)], [.nils, .int .i64 0], none, [32, 3]⟩ := rfl
@[go_sem] theorem ty101 : ty 101 = some ⟨1, 8, .ptr 106, [], [.nilp], none, []⟩ := rfl
@[go_sem] theorem ty102 : ty 102 = some ⟨1, 24, .slice 100, [], [.nils], none, []⟩ := rfl
@[go_sem] theorem ty103 : ty 103 = some ⟨1, 8, .func, [], [.nilfn], none, []⟩ := rfl
@[go_sem] theorem ty104 : ty 104 = some ⟨1, 8, .func, [], [.nilfn], none, []⟩ := rfl
@[go_sem] theorem ty105 : ty 105 = some ⟨2, 16, .struct, [(0, 1), (1, 1)], [.nilfn, .nilfn], none, [103, 104]⟩ := rfl
@[go_sem] theorem ty106 : ty 106 = some ⟨2, 16, .struct, [(0, 1), (1, 1)], [.nilfn, .nilfn], none, [103, 104]⟩ := rfl
@[go_sem] theorem ty107 : ty 107 = some ⟨1, 8, .func, [], [.nilfn], none, []⟩ := rfl
@[go_sem] theorem ty108 : ty 108 = some ⟨1, 8, .func, [], [.nilfn], none, []⟩ := rfl
@[go_sem] theorem ty109 : ty 109 = some ⟨1, 8, .func, [], [.nilfn], none, []⟩ := rfl
@[go_sem] theorem ty110 : ty 110 = some ⟨1, 8, .func, [], [.nilfn], none, []⟩ := rfl
@[go_sem] theorem ty111 : ty 111 = some ⟨1, 8, .ptr 113, [], [.nilp], none, []⟩ := rfl
@[go_sem] theorem ty112 : ty 112 = some ⟨1, 8, .struct, [(0, 1)], [.int .i64 0], none, [3]⟩ := rfl
@[go_sem] theorem ty113 : ty 113 = some ⟨1, 8, .struct, [(0, 1)], [.int .i64 0], none, [3]⟩ := rfl
@[go_sem] theorem ty114 : ty 114 = some ⟨1, 8, .func, [], [.nilfn], none, []⟩ := rfl
@[go_sem] theorem ty115 : ty 115 = some ⟨1, 8, .func, [], [.nilfn], none, []⟩ := rfl
@[go_sem] theorem ty116 : ty 116 = some ⟨1, 8, .func, [], [.nilfn], none, []⟩ := rfl
@[go_sem] theorem ty117 : ty 117 = some ⟨1, 8, .func, [], [.nilfn], none, []⟩ := rfl
@[go_sem] theorem ty118 : ty 118 = some ⟨1, 8, .map 9 9, [], [.nilmap], none, []⟩ := rfl
@[go_sem] theorem ty119 : ty 119 = some ⟨1, 8, .func, [], [.nilfn], none, []⟩ := rfl
@[go_sem] theorem ty120 : ty 120 = some ⟨1, 8, .func, [], [.nilfn], none, []⟩ := rfl
@[go_sem] theorem ty121 : ty 121 = some ⟨1, 8, .func, [], [.nilfn], none, []⟩ := rfl
@[go_sem] theorem ty122 : ty 122 = some ⟨1, 8, .func, [], [.nilfn], none, []⟩ := rfl
@[go_sem] theorem ty124 : ty 124 = some ⟨1, 8, .func, [], [.nilfn], none, []⟩ := rfl
@[go_sem] theorem ty125 : ty 125 = some ⟨1, 8, .func, [], [.nilfn], none, []⟩ := rfl
@[go_sem] theorem ty126 : ty 126 = some ⟨1, 8, .func, [], [.nilfn], none, []⟩ := rfl
@[go_sem] theorem ty127 : ty 127 = some ⟨1, 8, .func, [], [.nilfn], none, []⟩ := rfl
@[go_sem] theorem ty128 : ty 128 = some ⟨1, 8, .func, [], [.nilfn], none, []⟩ := rfl
@[go_sem] theorem ty129 : ty 129 = some ⟨1, 8, .ptr 24, [], [.nilp], none, []⟩ := rfl
@[go_sem] theorem ty130 : ty 130 = some ⟨1, 8, .func, [], [.nilfn], none, []⟩ := rfl
@[go_sem] theorem ty131 : ty 131 = some ⟨1, 8, .map 9 3, [], [.nilmap], none, []⟩ := rfl
@[go_sem] theorem ty132 : ty 132 = some ⟨1, 8, .ptr 202, [], [.nilp], none, []⟩ := rfl
@[go_sem] theorem ty134 : ty 134 = some ⟨1, 8, .func, [], [.nilfn], none, []⟩ := rfl
@[go_sem] theorem ty136 : ty 136 = some ⟨1, 8, .func, [], [.nilfn], none, []⟩ := rfl
@[go_sem] theorem ty137 : ty 137 = some ⟨1, 8, .func, [], [.nilfn], none, []⟩ := rfl
@[go_sem] theorem ty138 : ty 138 = some ⟨1, 8, .func, [], [.nilfn], none, []⟩ := rfl
@[go_sem] theorem ty139 : ty 139 = some ⟨1, 8, .map 141 3, [], [.nilmap], none, []⟩ := rfl
@[go_sem] theorem ty140 : ty 140 = some ⟨2, 24, .struct, [(0, 1), (1, 1)], [.int .i64 0, .str ⟨#[]⟩], none, [2, 9]⟩ := rfl
@[go_sem] theorem ty141 : ty 141 = some ⟨2, 24, .struct, [(0, 1), (1, 1)], [.int .i64 0, .str ⟨#[]⟩], some (.many [.int .i64, .str]), [2, 9]⟩ := rfl
@[go_sem] theorem ty142 : ty 142 = some ⟨1, 8, .func, [], [.nilfn], none, []⟩ := rfl
@[go_sem] theorem ty143 : ty 143 = some ⟨1, 8, .ptr 145, [], [.nilp], none, []⟩ := rfl
@[go_sem] theorem ty144 : ty 144 = some ⟨3, 24, .struct, [(0, 1), (1, 1), (2, 1)], [.nilfn, .nilfn, .bool false], none, [28, 28, 4]⟩ := rfl
@[go_sem] theorem ty145 : ty 145 = some ⟨3, 24, .struct, [(0, 1), (1, 1), (2, 1)], [.nilfn, .nilfn, .bool false], none, [28, 28, 4]⟩ := rfl
@[go_sem] theorem ty147 : ty 147 = some ⟨1, 8, .func, [], [.nilfn], none, []⟩ := rfl
@[go_sem] theorem ty148 : ty 148 = some ⟨1, 8, .func, [], [.nilfn], none, []⟩ := rfl
@[go_sem] theorem ty149 : ty 149 = some ⟨1, 8, .func, [], [.nilfn], none, []⟩ := rfl
@[go_sem] theorem ty150 : ty 150 = some ⟨1, 8, .func, [], [.nilfn], none, []⟩ := rfl
@[go_sem] theorem ty151 : ty 151 = some ⟨1, 8, .func, [], [.nilfn], none, []⟩ := rfl
@[go_sem] theorem ty152 : ty 152 = some ⟨1, 8, .func, [], [.nilfn], none, []⟩ := rfl
@[go_sem] theorem ty153 : ty 153 = some ⟨1, 8, .func, [], [.nilfn], none, []⟩ := rfl
@[go_sem] theorem ty154 : ty 154 = some ⟨1, 8, .func, [], [.nilfn], none, []⟩ := rfl
@[go_sem] theorem ty155 : ty 155 = some ⟨1, 8, .func, [], [.nilfn], none, []⟩ := rfl
@[go_sem] theorem ty156 : ty 156 = some ⟨1, 8, .func, [], [.nilfn], none, []⟩ := rfl
@[go_sem] theorem ty157 : ty 157 = some ⟨1, 8, .func, [], [.nilfn], none, []⟩ := rfl
@[go_sem] theorem ty158 : ty 158 = some ⟨1, 8, .func, [], [.nilfn], none, []⟩ := rfl
@[go_sem] theorem ty159 : ty 159 = some ⟨1, 8, .func, [], [.nilfn], none, []⟩ := rfl
@[go_sem] theorem ty160 : ty 160 = some ⟨1, 8, .func, [], [.nilfn], none, []⟩ := rfl
@[go_sem] theorem ty161 : ty 161 = some ⟨1, 8, .func, [], [.nilfn], none, []⟩ := rfl
@[go_sem] theorem ty162 : ty 162 = some ⟨1, 8, .func, [], [.nilfn], none, []⟩ := rfl
@[go_sem] theorem ty163 : ty 163 = some ⟨1, 8, .func, [], [.nilfn], none, []⟩ := rfl
@[go_sem] theorem ty164 : ty 164 = some ⟨1, 8, .ptr 237, [], [.nilp], none, []⟩ := rfl
@[go_sem] theorem ty166 : ty 166 = some ⟨1, 8, .func, [], [.nilfn], none, []⟩ := rfl
@[go_sem] theorem ty167 : ty 167 = some ⟨1, 8, .func, [], [.nilfn], none, []⟩ := rfl
@[go_sem] theorem ty168 : ty 168 = some ⟨1, 8, .func, [], [.nilfn], none, []⟩ := rfl
@[go_sem] theorem ty169 : ty 169 = some ⟨1, 8, .func, [], [.nilfn], none, []⟩ := rfl
@[go_sem] theorem ty170 : ty 170 = some ⟨1, 24, .slice 60, [], [.nils], none, []⟩ := rfl
@[go_sem] theorem ty171 : ty 171 = some ⟨1, 8, .func, [], [.nilfn], none, []⟩ := rfl
@[go_sem] theorem ty172 : ty 172 = some ⟨1, 8, .func, [], [.nilfn], none, []⟩ := rfl
@[go_sem] theorem ty173 : ty 173 = some ⟨1, 8, .func, [], [.nilfn], none, []⟩ := rfl
@[go_sem] theorem ty174 : ty 174 = some ⟨1, 8, .func, [], [.nilfn], none, []⟩ := rfl
@[go_sem] theorem ty175 : ty 175 = some ⟨1, 8, .int .u64, [], [.int .u64 0], none, []⟩ := rfl
@[go_sem] theorem ty177 : ty 177 = some ⟨1, 8, .func, [], [.nilfn], none, []⟩ := rfl
@[go_sem] theorem ty178 : ty 178 = some ⟨1, 8, .func, [], [.nilfn], none, []⟩ := rfl
@[go_sem] theorem ty179 : ty 179 = some ⟨1, 8, .ptr 184, [], [.nilp], none, []⟩ := rfl
@[go_sem] theorem ty180 : ty 180 = some ⟨1, 8, .func, [], [.nilfn], none, []⟩ := rfl
@[go_sem] theorem ty181 : ty 181 = some ⟨1, 8, .func, [], [.nilfn], none, []⟩ := rfl
@[go_sem] theorem ty182 : ty 182 = some ⟨1, 8, .func, [], [.nilfn], none, []⟩ := rfl
@[go_sem] theorem ty183 : ty 183 = some ⟨3, 40, .struct, [(0, 1), (1, 1), (2, 1)], [.str ⟨#[]⟩, .str ⟨#[]⟩, .nilp], none, [9, 9, 179]⟩ := rfl
@[go_sem] theorem ty184 : ty 184 = some ⟨3, 40, .struct, [(0, 1), (1, 1), (2, 1)], [.str ⟨#[]⟩, .str ⟨#[]⟩, .nilp], none, [9, 9, 179]⟩ := rfl
@[go_sem] theorem ty185 : ty 185 = some ⟨1, 8, .ptr 190, [], [.nilp], none, []⟩ := rfl
@[go_sem] theorem ty186 : ty 186 = some ⟨1, 24, .slice 4, [], [.nils], none, []⟩ := rfl
@[go_sem] theorem ty187 : ty 187 = some ⟨1, 8, .func, [], [.nilfn], none, []⟩ := rfl
@[go_sem] theorem ty188 : ty 188 = some ⟨1, 8, .func, [], [.nilfn], none, []⟩ := rfl
@[go_sem] theorem ty189 : ty 189 = some ⟨2, 16, .struct, [(0, 1), (1, 1)], [.nilfn, .nilfn], none, [187, 188]⟩ := rfl
@[go_sem] theorem ty190 : ty 190 = some ⟨2, 16, .struct, [(0, 1), (1, 1)], [.nilfn, .nilfn], none, [187, 188]⟩ := rfl
@[go_sem] theorem ty191 : ty 191 = some ⟨1, 8, .func, [], [.nilfn], none, []⟩ := rfl
@[go_sem] theorem ty192 : ty 192 = some ⟨1, 8, .func, [], [.nilfn], none, []⟩ := rfl
@[go_sem] theorem ty193 : ty 193 = some ⟨1, 8, .ptr 198, [], [.nilp], none, []⟩ := rfl
@[go_sem] theorem ty194 : ty 194 = some ⟨1, 8, .func, [], [.nilfn], none, []⟩ := rfl
@[go_sem] theorem ty195 : ty 195 = some ⟨1, 8, .func, [], [.nilfn], none, []⟩ := rfl
@[go_sem] theorem ty196 : ty 196 = some ⟨1, 8, .func, [], [.nilfn], none, []⟩ := rfl
@[go_sem] theorem ty197 : ty 197 = some ⟨2, 16, .struct, [(0, 1), (1, 1)], [.nilfn, .nilfn], none, [195, 196]⟩ := rfl
@[go_sem] theorem ty198 : ty 198 = some ⟨2, 16, .struct, [(0, 1), (1, 1)], [.nilfn, .nilfn], none, [195, 196]⟩ := rfl
@[go_sem] theorem ty199 : ty 199 = some ⟨1, 8, .func, [], [.nilfn], none, []⟩ := rfl
@[go_sem] theorem ty200 : ty 200 = some ⟨1, 8, .func, [], [.nilfn], none, []⟩ := rfl
@[go_sem] theorem ty201 : ty 201 = some ⟨1, 8, .struct, [(0, 1)], [.nilmap], none, [139]⟩ := rfl
@[go_sem] theorem ty202 : ty 202 = some ⟨1, 8, .struct, [(0, 1)], [.nilmap], none, [139]⟩ := rfl
@[go_sem] theorem ty203 : ty 203 = some ⟨1, 8, .func, [], [.nilfn], none, []⟩ := rfl
@[go_sem] theorem ty204 : ty 204 = some ⟨1, 8, .func, [], [.nilfn], none, []⟩ := rfl
@[go_sem] theorem ty205 : ty 205 = some ⟨1, 8, .func, [], [.nilfn], none, []⟩ := rfl
@[go_sem] theorem ty206 : ty 206 = some ⟨1, 8, .map 141 24, [], [.nilmap], none, []⟩ := rfl
@[go_sem] theorem ty207 : ty 207 = some ⟨1, 8, .func, [], [.nilfn], none, []⟩ := rfl
@[go_sem] theorem ty208 : ty 208 = some ⟨1, 8, .map 141 4, [], [.nilmap], none, []⟩ := rfl
@[go_sem] theorem ty209 : ty 209 = some ⟨1, 8, .func, [], [.nilfn], none, []⟩ := rfl
@[go_sem] theorem ty210 : ty 210 = some ⟨1, 8, .func, [], [.nilfn], none, []⟩ := rfl
@[go_sem] theorem ty211 : ty 211 = some ⟨1, 24, .slice 213, [], [.nils], none, []⟩ := rfl
@[go_sem] theorem ty212 : ty 212 = some ⟨5, 64, .struct, [(0, 1), (1, 1), (2, 1), (3, 1), (4, 1)], [.int .i64 0, .int .i64 0, .str ⟨#[]⟩, .nils, .int .i64 0], none, [3, 2, 9, 211, 3]⟩ := rfl
@[go_sem] theorem ty213 : ty 213 = some ⟨5, 64, .struct, [(0, 1), (1, 1), (2, 1), (3, 1), (4, 1)], [.int .i64 0, .int .i64 0, .str ⟨#[]⟩, .nils, .int .i64 0], none, [3, 2, 9, 211, 3]⟩ := rfl
@[go_sem] theorem ty215 : ty 215 = some ⟨1, 8, .func, [], [.nilfn], none, []⟩ := rfl
@[go_sem] theorem ty216 : ty 216 = some ⟨1, 8, .func, [], [.nilfn], none, []⟩ := rfl
@[go_sem] theorem ty217 : ty 217 = some ⟨1, 8, .func, [], [.nilfn], none, []⟩ := rfl
@[go_sem] theorem ty218 : ty 218 = some ⟨1, 8, .func, [], [.nilfn], none, []⟩ := rfl
@[go_sem] theorem ty219 : ty 219 = some ⟨1, 8, .func, [], [.nilfn], none, []⟩ := rfl
@[go_sem] theorem ty220 : ty 220 = some ⟨2, 16, .struct, [(0, 1), (1, 1)], [.int .i64 0, .int .i64 0], none, [3, 3]⟩ := rfl
@[go_sem] theorem ty222 : ty 222 = some ⟨1, 8, .map 9 220, [], [.nilmap], none, []⟩ := rfl
@[go_sem] theorem ty223 : ty 223 = some ⟨1, 8, .func, [], [.nilfn], none, []⟩ := rfl
@[go_sem] theorem ty224 : ty 224 = some ⟨1, 24, .slice 229, [], [.nils], none, []⟩ := rfl
@[go_sem] theorem ty225 : ty 225 = some ⟨1, 8, .func, [], [.nilfn], none, []⟩ := rfl
@[go_sem] theorem ty226 : ty 226 = some ⟨1, 8, .func, [], [.nilfn], none, []⟩ := rfl
@[go_sem] theorem ty227 : ty 227 = some ⟨1, 8, .func, [], [.nilfn], none, []⟩ := rfl
@[go_sem] theorem ty228 : ty 228 = some ⟨2, 32, .struct, [(0, 1), (1, 1)], [.str ⟨#[]⟩, .str ⟨#[]⟩], none, [9, 9]⟩ := rfl
@[go_sem] theorem ty229 : ty 229 = some ⟨2, 32, .struct, [(0, 1), (1, 1)], [.str ⟨#[]⟩, .str ⟨#[]⟩], none, [9, 9]⟩ := rfl
@[go_sem] theorem ty230 : ty 230 = some ⟨1, 8, .func, [], [.nilfn], none, []⟩ := rfl
@[go_sem] theorem ty231 : ty 231 = some ⟨1, 8, .func, [], [.nilfn], none, []⟩ := rfl
@[go_sem] theorem ty232 : ty 232 = some ⟨1, 16, .iface, [], [.nilif], none, []⟩ := rfl
@[go_sem] theorem ty233 : ty 233 = some ⟨1, 16, .iface, [], [.nilif], none, []⟩ := rfl
@[go_sem] theorem ty235 : ty 235 = some ⟨1, 8, .func, [], [.nilfn], none, []⟩ := rfl
@[go_sem] theorem ty236 : ty 236 = some ⟨4, 56, .struct, [(0, 1), (1, 2), (3, 1)], [.str ⟨#[]⟩, .nils, .int .i64 0, .nilp], none, [9, 100, 164]⟩ := rfl
@[go_sem] theorem ty237 : ty 237 = some ⟨4, 56, .struct, [(0, 1), (1, 2), (3, 1)], [.str ⟨#[]⟩, .nils, .int .i64 0, .nilp], none, [9, 100, 164]⟩ := rfl
@[go_sem] theorem ty238 : ty 238 = some ⟨1, 8, .func, [], [.nilfn], none, []⟩ := rfl
@[go_sem] theorem ty239 : ty 239 = some ⟨1, 8, .func, [], [.nilfn], none, []⟩ := rfl
@[go_sem] theorem ty240 : ty 240 = some ⟨1, 24, .slice 5, [], [.nils], none, []⟩ := rfl
@[go_sem] theorem ty241 : ty 241 = some ⟨1, 8, .ptr 267, [], [.nilp], none, []⟩ := rfl
@[go_sem] theorem ty243 : ty 243 = some ⟨1, 8, .func, [], [.nilfn], none, []⟩ := rfl
@[go_sem] theorem ty244 : ty 244 = some ⟨1, 8, .func, [], [.nilfn], none, []⟩ := rfl
@[go_sem] theorem ty245 : ty 245 = some ⟨1, 8, .func, [], [.nilfn], none, []⟩ := rfl
@[go_sem] theorem ty246 : ty 246 = some ⟨1, 8, .func, [], [.nilfn], none, []⟩ := rfl
@[go_sem] theorem ty247 : ty 247 = some ⟨1, 24, .slice 248, [], [.nils], none, []⟩ := rfl
@[go_sem] theorem ty248 : ty 248 = some ⟨2, 24, .struct, [(0, 1), (1, 1)], [.str ⟨#[]⟩, .int .i64 0], none, [9, 3]⟩ := rfl
@[go_sem] theorem ty249 : ty 249 = some ⟨1, 8, .func, [], [.nilfn], none, []⟩ := rfl
@[go_sem] theorem ty250 : ty 250 = some ⟨24, 24, .array 24 5, [], [.int .u8 0, .int .u8 0, .int .u8 0, .int .u8 0, .int .u8 0, .int .u8 0, .int .u8 0, .int .u8 0, .int .u8 0, .int .u8 0, .int .u8 0, .int .u8 0, .int .u8 0, .int .u8 0, .int .u8 0, .int .u8 0, .int .u8 0, .int .u8 0, .int .u8 0, .int .u8 0, .int .u8 0, .int .u8 0, .int .u8 0, .int .u8 0], none, []⟩ := rfl
@[go_sem] theorem ty251 : ty 251 = some ⟨1, 8, .func, [], [.nilfn], none, []⟩ := rfl
@[go_sem] theorem ty252 : ty 252 = some ⟨1, 8, .func, [], [.nilfn], none, []⟩ := rfl
@[go_sem] theorem ty254 : ty 254 = some ⟨1, 8, .func, [], [.nilfn], none, []⟩ := rfl
@[go_sem] theorem ty255 : ty 255 = some ⟨1, 8, .ptr 257, [], [.nilp], none, []⟩ := rfl
@[go_sem] theorem ty256 : ty 256 = some ⟨4, 40, .struct, [(0, 1), (1, 1), (2, 1), (3, 1)], [.str ⟨#[]⟩, .int .i64 0, .int .i64 0, .int .i64 0], none, [9, 3, 25, 3]⟩ := rfl
@[go_sem] theorem ty257 : ty 257 = some ⟨4, 40, .struct, [(0, 1), (1, 1), (2, 1), (3, 1)], [.str ⟨#[]⟩, .int .i64 0, .int .i64 0, .int .i64 0], none, [9, 3, 25, 3]⟩ := rfl
@[go_sem] theorem ty258 : ty 258 = some ⟨1, 8, .func, [], [.nilfn], none, []⟩ := rfl
@[go_sem] theorem ty259 : ty 259 = some ⟨1, 8, .func, [], [.nilfn], none, []⟩ := rfl
@[go_sem] theorem ty260 : ty 260 = some ⟨1, 8, .func, [], [.nilfn], none, []⟩ := rfl
@[go_sem] theorem ty261 : ty 261 = some ⟨1, 8, .func, [], [.nilfn], none, []⟩ := rfl
@[go_sem] theorem ty262 : ty 262 = some ⟨1, 8, .func, [], [.nilfn], none, []⟩ := rfl
@[go_sem] theorem ty263 : ty 263 = some ⟨1, 8, .int .u64, [], [.int .u64 0], none, []⟩ := rfl
@[go_sem] theorem ty264 : ty 264 = some ⟨1, 8, .func, [], [.nilfn], none, []⟩ := rfl
@[go_sem] theorem ty265 : ty 265 = some ⟨1, 8, .func, [], [.nilfn], none, []⟩ := rfl
@[go_sem] theorem ty266 : ty 266 = some ⟨3, 32, .struct, [(0, 1), (1, 1), (2, 1)], [.str ⟨#[]⟩, .bool false, .nilp], none, [9, 4, 241]⟩ := rfl
@[go_sem] theorem ty267 : ty 267 = some ⟨3, 32, .struct, [(0, 1), (1, 1), (2, 1)], [.str ⟨#[]⟩, .bool false, .nilp], none, [9, 4, 241]⟩ := rfl
@[go_sem] theorem ty268 : ty 268 = some ⟨1, 8, .func, [], [.nilfn], none, []⟩ := rfl
@[go_sem] theorem ty269 : ty 269 = some ⟨1, 8, .func, [], [.nilfn], none, []⟩ := rfl
@[go_sem] theorem ty270 : ty 270 = some ⟨20, 160, .array 20 175, [], [.int .u64 0, .int .u64 0, .int .u64 0, .int .u64 0, .int .u64 0, .int .u64 0, .int .u64 0, .int .u64 0, .int .u64 0, .int .u64 0, .int .u64 0, .int .u64 0, .int .u64 0, .int .u64 0, .int .u64 0, .int .u64 0, .int .u64 0, .int .u64 0, .int .u64 0, .int .u64 0], none, []⟩ := rfl
@[go_sem] theorem ty271 : ty 271 = some ⟨1, 4, .int .u32, [], [.int .u32 0], none, []⟩ := rfl
@[go_sem] theorem ty272 : ty 272 = some ⟨65, 65, .array 65 5, [], [.int .u8 0, .int .u8 0, .int .u8 0, .int .u8 0, .int .u8 0, .int .u8 0, .int .u8 0, .int .u8 0, .int .u8 0, .int .u8 0, .int .u8 0, .int .u8 0, .int .u8 0, .int .u8 0, .int .u8 0, .int .u8 0, .int .u8 0, .int .u8 0, .int .u8 0, .int .u8 0, .int .u8 0, .int .u8 0, .int .u8 0, .int .u8 0, .int .u8 0, .int .u8 0, .int .u8 0, .int .u8 0, .int .u8 0, .int .u8 0, .int .u8 0, .int .u8 0, .int .u8 0, .int .u8 0, .int .u8 0, .int .u8 0, .int .u8 0, .int .u8 0, .int .u8 0, .int .u8 0, .int .u8 0, .int .u8 0, .int .u8 0, .int .u8 0, .int .u8 0, .int .u8 0, .int .u8 0, .int .u8 0, .int .u8 0, .int .u8 0, .int .u8 0, .int .u8 0, .int .u8 0, .int .u8 0, .int .u8 0, .int .u8 0, .int .u8 0, .int .u8 0, .int .u8 0, .int .u8 0, .int .u8 0, .int .u8 0, .int .u8 0, .int .u8 0, .int .u8 0], none, []⟩ := rfl
@[go_sem] theorem ty273 : ty 273 = some ⟨1, 8, .func, [], [.nilfn], none, []⟩ := rfl
@[go_sem] theorem ty274 : ty 274 = some ⟨1, 8, .func, [], [.nilfn], none, []⟩ := rfl
@[go_sem] theorem ty275 : ty 275 = some ⟨1, 8, .func, [], [.nilfn], none, []⟩ := rfl
@[go_sem] theorem ty276 : ty 276 = some ⟨1, 8, .int .i64, [], [.int .i64 0], none, []⟩ := rfl
@[go_sem] theorem ty278 : ty 278 = some ⟨1, 8, .func, [], [.nilfn], none, []⟩ := rfl
@[go_sem] theorem ty279 : ty 279 = some ⟨1, 8, .func, [], [.nilfn], none, []⟩ := rfl
@[go_sem] theorem ty280 : ty 280 = some ⟨1, 8, .func, [], [.nilfn], none, []⟩ := rfl
@[go_sem] theorem ty281 : ty 281 = some ⟨1, 8, .func, [], [.nilfn], none, []⟩ := rfl
@[go_sem] theorem ty282 : ty 282 = some ⟨1, 8, .func, [], [.nilfn], none, []⟩ := rfl
@[go_sem] theorem ty283 : ty 283 = some ⟨1, 8, .func, [], [.nilfn], none, []⟩ := rfl
@[go_sem] theorem ty284 : ty 284 = some ⟨1, 8, .int .i64, [], [.int .i64 0], none, []⟩ := rfl
@[go_sem] theorem ty286 : ty 286 = some ⟨1, 8, .func, [], [.nilfn], none, []⟩ := rfl
@[go_sem] theorem ty287 : ty 287 = some ⟨1, 8, .ptr 302, [], [.nilp], none, []⟩ := rfl
@[go_sem] theorem ty288 : ty 288 = some ⟨1, 8, .func, [], [.nilfn], none, []⟩ := rfl
@[go_sem] theorem ty289 : ty 289 = some ⟨1, 8, .func, [], [.nilfn], none, []⟩ := rfl
@[go_sem] theorem ty291 : ty 291 = some ⟨1, 8, .func, [], [.nilfn], none, []⟩ := rfl
@[go_sem] theorem ty292 : ty 292 = some ⟨1, 8, .int .u64, [], [.int .u64 0], none, []⟩ := rfl
@[go_sem] theorem ty293 : ty 293 = some ⟨1, 8, .func, [], [.nilfn], none, []⟩ := rfl
@[go_sem] theorem ty294 : ty 294 = some ⟨1, 8, .func, [], [.nilfn], none, []⟩ := rfl
@[go_sem] theorem ty295 : ty 295 = some ⟨1, 8, .func, [], [.nilfn], none, []⟩ := rfl
@[go_sem] theorem ty296 : ty 296 = some ⟨1, 8, .ptr 3, [], [.nilp], none, []⟩ := rfl
@[go_sem] theorem ty297 : ty 297 = some ⟨1, 8, .func, [], [.nilfn], none, []⟩ := rfl
@[go_sem] theorem ty299 : ty 299 = some ⟨1, 8, .func, [], [.nilfn], none, []⟩ := rfl
@[go_sem] theorem ty300 : ty 300 = some ⟨1, 8, .func, [], [.nilfn], none, []⟩ := rfl
@[go_sem] theorem ty301 : ty 301 = some ⟨3, 48, .struct, [(0, 1), (1, 1), (2, 1)], [.str ⟨#[]⟩, .str ⟨#[]⟩, .nilif], none, [9, 9, 233]⟩ := rfl
@[go_sem] theorem ty302 : ty 302 = some ⟨3, 48, .struct, [(0, 1), (1, 1), (2, 1)], [.str ⟨#[]⟩, .str ⟨#[]⟩, .nilif], none, [9, 9, 233]⟩ := rfl
@[go_sem] theorem ty303 : ty 303 = some ⟨1, 8, .func, [], [.nilfn], none, []⟩ := rfl
@[go_sem] theorem ty304 : ty 304 = some ⟨32, 32, .array 32 5, [], [.int .u8 0, .int .u8 0, .int .u8 0, .int .u8 0, .int .u8 0, .int .u8 0, .int .u8 0, .int .u8 0, .int .u8 0, .int .u8 0, .int .u8 0, .int .u8 0, .int .u8 0, .int .u8 0, .int .u8 0, .int .u8 0, .int .u8 0, .int .u8 0, .int .u8 0, .int .u8 0, .int .u8 0, .int .u8 0, .int .u8 0, .int .u8 0, .int .u8 0, .int .u8 0, .int .u8 0, .int .u8 0, .int .u8 0, .int .u8 0, .int .u8 0, .int .u8 0], none, []⟩ := rfl
@[go_sem] theorem ty305 : ty 305 = some ⟨64, 64, .array 64 5, [], [.int .u8 0, .int .u8 0, .int .u8 0, .int .u8 0, .int .u8 0, .int .u8 0, .int .u8 0, .int .u8 0, .int .u8 0, .int .u8 0, .int .u8 0, .int .u8 0, .int .u8 0, .int .u8 0, .int .u8 0, .int .u8 0, .int .u8 0, .int .u8 0, .int .u8 0, .int .u8 0, .int .u8 0, .int .u8 0, .int .u8 0, .int .u8 0, .int .u8 0, .int .u8 0, .int .u8 0, .int .u8 0, .int .u8 0, .int .u8 0, .int .u8 0, .int .u8 0, .int .u8 0, .int .u8 0, .int .u8 0, .int .u8 0, .int .u8 0, .int .u8 0, .int .u8 0, .int .u8 0, .int .u8 0, .int .u8 0, .int .u8 0, .int .u8 0, .int .u8 0, .int .u8 0, .int .u8 0, .int .u8 0, .int .u8 0, .int .u8 0, .int .u8 0, .int .u8 0, .int .u8 0, .int .u8 0, .int .u8 0, .int .u8 0, .int .u8 0, .int .u8 0, .int .u8 0, .int .u8 0, .int .u8 0, .int .u8 0, .int .u8 0, .int .u8 0], none, []⟩ := rfl
@[go_sem] theorem ty306 : ty 306 = some ⟨1, 8, .ptr 292, [], [.nilp], none, []⟩ := rfl
@[go_sem] theorem ty308 : ty 308 = some ⟨1, 8, .func, [], [.nilfn], none, []⟩ := rfl
@[go_sem] theorem ty309 : ty 309 = some ⟨1, 8, .func, [], [.nilfn], none, []⟩ := rfl
@[go_sem] theorem ty310 : ty 310 = some ⟨1, 8, .ptr 5, [], [.nilp], none, []⟩ := rfl
@[go_sem] theorem ty311 : ty 311 = some ⟨1, 8, .ptr 313, [], [.nilp], none, []⟩ := rfl
@[go_sem] theorem ty312 : ty 312 = some ⟨1, 16, .struct, [(0, 1)], [.str ⟨#[]⟩], none, [9]⟩ := rfl
@[go_sem] theorem ty313 : ty 313 = some ⟨1, 16, .struct, [(0, 1)], [.str ⟨#[]⟩], none, [9]⟩ := rfl
@[go_sem] theorem ty314 : ty 314 = some ⟨4, 40, .struct, [(0, 1), (1, 1), (2, 1), (3, 1)], [.nilp, .nilp, .nilp, .str ⟨#[]⟩], none, [17, 17, 17, 9]⟩ := rfl
@[go_sem] theorem ty315 : ty 315 = some ⟨4, 40, .struct, [(0, 1), (1, 1), (2, 1), (3, 1)], [.nilp, .nilp, .nilp, .str ⟨#[]⟩], none, [17, 17, 17, 9]⟩ := rfl
@[go_sem] theorem ty319 : ty 319 = some ⟨1, 8, .func, [], [.nilfn], none, []⟩ := rfl
@[go_sem] theorem ty320 : ty 320 = some ⟨1, 1, .int .u8, [], [.int .u8 0], none, []⟩ := rfl
@[go_sem] theorem ty321 : ty 321 = some ⟨1, 1, .int .u8, [], [.int .u8 0], none, []⟩ := rfl
@[go_sem] theorem ty322 : ty 322 = some ⟨1, 8, .func, [], [.nilfn], none, []⟩ := rfl
@[go_sem] theorem ty323 : ty 323 = some ⟨1, 4, .int .i32, [], [.int .i32 0], none, []⟩ := rfl
@[go_sem] theorem ty324 : ty 324 = some ⟨1, 4, .int .i32, [], [.int .i32 0], none, []⟩ := rfl
@[go_sem] theorem ty325 : ty 325 = some ⟨11, 48, .struct, [(0, 1), (1, 1), (2, 1), (3, 1), (4, 1), (5, 1), (6, 1), (7, 1), (8, 1), (9, 1), (10, 1)], [.int .u64 0, .int .u64 0, .int .u32 0, .int .u8 0, .int .u8 0, .int .u8 0, .int .u8 0, .nilfn, .nilp, .int .i32 0, .int .i32 0], none, [12, 12, 271, 320, 5, 5, 321, 322, 310, 323, 324]⟩ := rfl
@[go_sem] theorem ty326 : ty 326 = some ⟨11, 48, .struct, [(0, 1), (1, 1), (2, 1), (3, 1), (4, 1), (5, 1), (6, 1), (7, 1), (8, 1), (9, 1), (10, 1)], [.int .u64 0, .int .u64 0, .int .u32 0, .int .u8 0, .int .u8 0, .int .u8 0, .int .u8 0, .nilfn, .nilp, .int .i32 0, .int .i32 0], none, [12, 12, 271, 320, 5, 5, 321, 322, 310, 323, 324]⟩ := rfl
end Go.Proofs.YtnibcmaaehkhlaaGreatDoor

namespace Go.Proofs.YtnibcmaaehkhlaaGreatDoor
open Go Go.Aw
structure KR where
  sh : ShO
  wd : WdO
instance : Coe KR ShO := ⟨KR.sh⟩
instance : Coe KR WdO := ⟨KR.wd⟩
section
variable {ρ : Option Nat} {sh : List Tmp} {σ0 : Store} {N : Nat} {s s' : St} {ops : Array Oper} {os : List Oper} {K : St → Prop}
theorem aR {id : Nat} {Q : Exit → St → Prop} (h : runOps ty [] N ops.toList s = some s') (k : Q .normal s') : AWpR ρ Tryz.prog σ0 N (.region id ops false) Q s := awp_region_run tyOk h k
theorem aL (n : Nat) (h : runOps ty [] N (os.take n) s = some s') (k : AOpsL Tryz.prog σ0 N ops (os.drop n) K s') : AOpsL Tryz.prog σ0 N ops os K s := al_run n tyOk h k
theorem aLG (n : Nat) (d : Tmp) (w : Bool) (h : runG ty [] (os.take n) s = some s') (k : AOpsL Tryz.prog σ0 N ops (os.drop n) K s') (hb : get s.T d = .pv (.bool w) := by simp [go_sem])
    (hg : gatedBy ops d w (os.take n) = true := by simp [go_sem]) (hd : dstsOk N (os.take n) = true := by rfl) (hne : (os.take n).all (fun o => o.dst != some d) = true := by rfl) : AOpsL Tryz.prog σ0 N ops os K s := al_runG n d w w tyOk hb rfl hg hd hne h k
theorem aK (n : Nat) (d : Tmp) (w : Bool) (k : AOpsL Tryz.prog σ0 N ops (os.drop n) K (junkAll (os.take n) s)) (hb : off (get s.T d) w = true := by simp [go_sem])
    (hg : gatedBy ops d w (os.take n) = true := by simp [go_sem]) (hd : dstsOk N (os.take n) = true := by rfl) (hne : (os.take n).all (fun o => o.dst != some d) = true := by rfl) : AOpsL Tryz.prog σ0 N ops os K s := al_skip n d w hb hg hd hne k
theorem aF {dst : Option Tmp} {ars : Array Operand} {ats : Array TypeId} {t : TypeId} {pos : String} {af : Array Edge} {f : FuncId} {xs args : List AV} {r : AV} (hca : Callable Tryz.prog f) (h : PurAt Tryz.prog s.σ f args r) (hargs : ars.toList.map (ev s) ++ [] = xs) (hw : WAs xs args)
    (k : AOpsL Tryz.prog σ0 N ops os K (s.put dst r)) (hnl : AV.noLs xs = true := by rfl) (hd : dstOk N dst = true := by rfl) : AOpsL Tryz.prog σ0 N ops (⟨dst, .call ⟨.value (.func f), ars, ats⟩, t, pos, af, none⟩ :: os) K s := al_fn rfl rfl rfl rfl hca h hargs hw hnl hd k
end
theorem bA (b : Bool) : (true || b) = true := rfl
theorem bB (b : Bool) : (b || true) = true := Bool.or_true b
theorem bC (b : Bool) : (false || b) = b := rfl
theorem bD (b : Bool) : (b || false) = b := Bool.or_false b
theorem bE (b : Bool) : (true && b) = b := rfl
theorem bF (b : Bool) : (b && true) = b := Bool.and_true b
theorem bG (b : Bool) : (false && b) = false := rfl
theorem bH (b : Bool) : (b && false) = false := Bool.and_false b
theorem bI : (!true) = false := rfl
theorem bJ : (!false) = true := rfl
theorem call17 : Callable Tryz.prog 17 := ⟨_, Tryz.func17, rfl, by decide⟩
theorem call19 : Callable Tryz.prog 19 := ⟨_, Tryz.func19, rfl, by decide⟩
theorem call20 : Callable Tryz.prog 20 := ⟨_, Tryz.func20, rfl, by decide⟩
theorem call21 : Callable Tryz.prog 21 := ⟨_, Tryz.func21, rfl, by decide⟩
theorem call22 : Callable Tryz.prog 22 := ⟨_, Tryz.func22, rfl, by decide⟩
theorem call23 : Callable Tryz.prog 23 := ⟨_, Tryz.func23, rfl, by decide⟩
theorem call24 : Callable Tryz.prog 24 := ⟨_, Tryz.func24, rfl, by decide⟩
theorem call39 : Callable Tryz.prog 39 := ⟨_, Tryz.func39, rfl, by decide⟩
theorem call57 : Callable Tryz.prog 57 := ⟨_, Tryz.func57, rfl, by decide⟩
theorem call58 : Callable Tryz.prog 58 := ⟨_, Tryz.func58, rfl, by decide⟩
theorem call61 : Callable Tryz.prog 61 := ⟨_, Tryz.func61, rfl, by decide⟩
theorem call62 : Callable Tryz.prog 62 := ⟨_, Tryz.func62, rfl, by decide⟩
theorem call63 : Callable Tryz.prog 63 := ⟨_, Tryz.func63, rfl, by decide⟩
theorem call69 : Callable Tryz.prog 69 := ⟨_, Tryz.func69, rfl, by decide⟩
theorem call70 : Callable Tryz.prog 70 := ⟨_, Tryz.func70, rfl, by decide⟩
theorem call71 : Callable Tryz.prog 71 := ⟨_, Tryz.func71, rfl, by decide⟩
theorem call72 : Callable Tryz.prog 72 := ⟨_, Tryz.func72, rfl, by decide⟩
theorem call73 : Callable Tryz.prog 73 := ⟨_, Tryz.func73, rfl, by decide⟩
theorem call74 : Callable Tryz.prog 74 := ⟨_, Tryz.func74, rfl, by decide⟩
theorem call75 : Callable Tryz.prog 75 := ⟨_, Tryz.func75, rfl, by decide⟩
theorem call76 : Callable Tryz.prog 76 := ⟨_, Tryz.func76, rfl, by decide⟩
theorem call77 : Callable Tryz.prog 77 := ⟨_, Tryz.func77, rfl, by decide⟩
theorem call78 : Callable Tryz.prog 78 := ⟨_, Tryz.func78, rfl, by decide⟩
theorem call79 : Callable Tryz.prog 79 := ⟨_, Tryz.func79, rfl, by decide⟩
theorem call80 : Callable Tryz.prog 80 := ⟨_, Tryz.func80, rfl, by decide⟩
theorem call83 : Callable Tryz.prog 83 := ⟨_, Tryz.func83, rfl, by decide⟩
theorem call100 : Callable Tryz.prog 100 := ⟨_, Tryz.func100, rfl, by decide⟩
theorem call104 : Callable Tryz.prog 104 := ⟨_, Tryz.func104, rfl, by decide⟩
theorem call113 : Callable Tryz.prog 113 := ⟨_, Tryz.func113, rfl, by decide⟩
theorem call118 : Callable Tryz.prog 118 := ⟨_, Tryz.func118, rfl, by decide⟩
theorem call120 : Callable Tryz.prog 120 := ⟨_, Tryz.func120, rfl, by decide⟩
theorem call130 : Callable Tryz.prog 130 := ⟨_, Tryz.func130, rfl, by decide⟩
theorem call131 : Callable Tryz.prog 131 := ⟨_, Tryz.func131, rfl, by decide⟩
theorem call132 : Callable Tryz.prog 132 := ⟨_, Tryz.func132, rfl, by decide⟩
theorem call133 : Callable Tryz.prog 133 := ⟨_, Tryz.func133, rfl, by decide⟩
theorem call138 : Callable Tryz.prog 138 := ⟨_, Tryz.func138, rfl, by decide⟩
theorem call139 : Callable Tryz.prog 139 := ⟨_, Tryz.func139, rfl, by decide⟩
theorem call140 : Callable Tryz.prog 140 := ⟨_, Tryz.func140, rfl, by decide⟩
theorem call141 : Callable Tryz.prog 141 := ⟨_, Tryz.func141, rfl, by decide⟩
theorem call142 : Callable Tryz.prog 142 := ⟨_, Tryz.func142, rfl, by decide⟩
theorem call143 : Callable Tryz.prog 143 := ⟨_, Tryz.func143, rfl, by decide⟩
theorem call144 : Callable Tryz.prog 144 := ⟨_, Tryz.func144, rfl, by decide⟩
theorem call145 : Callable Tryz.prog 145 := ⟨_, Tryz.func145, rfl, by decide⟩
theorem call146 : Callable Tryz.prog 146 := ⟨_, Tryz.func146, rfl, by decide⟩
theorem call147 : Callable Tryz.prog 147 := ⟨_, Tryz.func147, rfl, by decide⟩
theorem call148 : Callable Tryz.prog 148 := ⟨_, Tryz.func148, rfl, by decide⟩
theorem call149 : Callable Tryz.prog 149 := ⟨_, Tryz.func149, rfl, by decide⟩
theorem call150 : Callable Tryz.prog 150 := ⟨_, Tryz.func150, rfl, by decide⟩
theorem call151 : Callable Tryz.prog 151 := ⟨_, Tryz.func151, rfl, by decide⟩
theorem call152 : Callable Tryz.prog 152 := ⟨_, Tryz.func152, rfl, by decide⟩
theorem call153 : Callable Tryz.prog 153 := ⟨_, Tryz.func153, rfl, by decide⟩
theorem call154 : Callable Tryz.prog 154 := ⟨_, Tryz.func154, rfl, by decide⟩
theorem call155 : Callable Tryz.prog 155 := ⟨_, Tryz.func155, rfl, by decide⟩
theorem call156 : Callable Tryz.prog 156 := ⟨_, Tryz.func156, rfl, by decide⟩
theorem call157 : Callable Tryz.prog 157 := ⟨_, Tryz.func157, rfl, by decide⟩
theorem call159 : Callable Tryz.prog 159 := ⟨_, Tryz.func159, rfl, by decide⟩
theorem call163 : Callable Tryz.prog 163 := ⟨_, Tryz.func163, rfl, by decide⟩
theorem call165 : Callable Tryz.prog 165 := ⟨_, Tryz.func165, rfl, by decide⟩
theorem call179 : Callable Tryz.prog 179 := ⟨_, Tryz.func179, rfl, by decide⟩
theorem call180 : Callable Tryz.prog 180 := ⟨_, Tryz.func180, rfl, by decide⟩
theorem call181 : Callable Tryz.prog 181 := ⟨_, Tryz.func181, rfl, by decide⟩
theorem call188 : Callable Tryz.prog 188 := ⟨_, Tryz.func188, rfl, by decide⟩
theorem call189 : Callable Tryz.prog 189 := ⟨_, Tryz.func189, rfl, by decide⟩
theorem call191 : Callable Tryz.prog 191 := ⟨_, Tryz.func191, rfl, by decide⟩
theorem call192 : Callable Tryz.prog 192 := ⟨_, Tryz.func192, rfl, by decide⟩
theorem call196 : Callable Tryz.prog 196 := ⟨_, Tryz.func196, rfl, by decide⟩
theorem call198 : Callable Tryz.prog 198 := ⟨_, Tryz.func198, rfl, by decide⟩
theorem call199 : Callable Tryz.prog 199 := ⟨_, Tryz.func199, rfl, by decide⟩
theorem call205 : Callable Tryz.prog 205 := ⟨_, Tryz.func205, rfl, by decide⟩
theorem call206 : Callable Tryz.prog 206 := ⟨_, Tryz.func206, rfl, by decide⟩
theorem call207 : Callable Tryz.prog 207 := ⟨_, Tryz.func207, rfl, by decide⟩
theorem call208 : Callable Tryz.prog 208 := ⟨_, Tryz.func208, rfl, by decide⟩
theorem call209 : Callable Tryz.prog 209 := ⟨_, Tryz.func209, rfl, by decide⟩
theorem call210 : Callable Tryz.prog 210 := ⟨_, Tryz.func210, rfl, by decide⟩
theorem call212 : Callable Tryz.prog 212 := ⟨_, Tryz.func212, rfl, by decide⟩
theorem call213 : Callable Tryz.prog 213 := ⟨_, Tryz.func213, rfl, by decide⟩
theorem call214 : Callable Tryz.prog 214 := ⟨_, Tryz.func214, rfl, by decide⟩
theorem call215 : Callable Tryz.prog 215 := ⟨_, Tryz.func215, rfl, by decide⟩
theorem call216 : Callable Tryz.prog 216 := ⟨_, Tryz.func216, rfl, by decide⟩
theorem call220 : Callable Tryz.prog 220 := ⟨_, Tryz.func220, rfl, by decide⟩
theorem call221 : Callable Tryz.prog 221 := ⟨_, Tryz.func221, rfl, by decide⟩
theorem call222 : Callable Tryz.prog 222 := ⟨_, Tryz.func222, rfl, by decide⟩
theorem call223 : Callable Tryz.prog 223 := ⟨_, Tryz.func223, rfl, by decide⟩
theorem call224 : Callable Tryz.prog 224 := ⟨_, Tryz.func224, rfl, by decide⟩
theorem call225 : Callable Tryz.prog 225 := ⟨_, Tryz.func225, rfl, by decide⟩
theorem call226 : Callable Tryz.prog 226 := ⟨_, Tryz.func226, rfl, by decide⟩
theorem call234 : Callable Tryz.prog 234 := ⟨_, Tryz.func234, rfl, by decide⟩
theorem call235 : Callable Tryz.prog 235 := ⟨_, Tryz.func235, rfl, by decide⟩
theorem call236 : Callable Tryz.prog 236 := ⟨_, Tryz.func236, rfl, by decide⟩
theorem call239 : Callable Tryz.prog 239 := ⟨_, Tryz.func239, rfl, by decide⟩
theorem call245 : Callable Tryz.prog 245 := ⟨_, Tryz.func245, rfl, by decide⟩
theorem call246 : Callable Tryz.prog 246 := ⟨_, Tryz.func246, rfl, by decide⟩
theorem call247 : Callable Tryz.prog 247 := ⟨_, Tryz.func247, rfl, by decide⟩
theorem call248 : Callable Tryz.prog 248 := ⟨_, Tryz.func248, rfl, by decide⟩
theorem call252 : Callable Tryz.prog 252 := ⟨_, Tryz.func252, rfl, by decide⟩
theorem call262 : Callable Tryz.prog 262 := ⟨_, Tryz.func262, rfl, by decide⟩
theorem call281 : Callable Tryz.prog 281 := ⟨_, Tryz.func281, rfl, by decide⟩
end Go.Proofs.YtnibcmaaehkhlaaGreatDoor

namespace Go.Proofs.YtnibcmaaehkhlaaGreatDoor
open Go Go.Aw
variable {kr : KR}
def GL (kr : KR) : List (Nat × PV) := [(1, .ptr [.map (shK kr.sh) (shV kr.sh)]), (0, .ptr [.map (wdK kr.wd) (wdV kr.wd)]), (3, .ptr [.slice (primL.map encPrim)]), (4, .tab .u64 Lib.pow10Tab), (5, .ptr [.iface 311 (.ptr [])]), (6, .ptr [.iface 311 (.ptr [])])]
set_option maxHeartbeats 1000000 in
theorem c_flat_List (l : List D) : Pur Tryz.prog (GL kr) 61 [.pv (.slice (l.map enc))] (.pv (enc (dlist l))) := by
 refine pur_of fun σ hgl => ?_
 refine acalls_of tyOk Tryz.func61 rfl (by simp [Tryz.f61]) ?_
 refine awp_seq (aR (by simp [go_sem] <;> rfl) ?_)
 refine awp_seq (aR (by simp [go_sem] <;> rfl) ?_)
 refine awp_ret ?_
 refine ends_ret (by simp [go_sem] <;> rfl) (by simp [go_sem]) ?_
 exact ⟨by simp [go_sem, enc_list], by simp [go_sem]⟩

set_option maxHeartbeats 1000000 in
theorem c_datum_IsDigit (c : Int) : Pur Tryz.prog (GL kr) 191 [.pv (.int .u8 c)] (.pv (.bool (isDigit c))) := by
 refine pur_of fun σ hgl => ?_
 refine acalls_of tyOk Tryz.func191 rfl (by simp [Tryz.f191]) ?_
 refine awp_seq (aR (by simp [go_sem] <;> rfl) ?_)
 refine awp_seq (awp_reg ?_)
 refine aL 3 (by simp [go_sem] <;> rfl) ?_
 refine al_splitT 5 (by first | rfl | (simp [go_sem] <;> rfl)) (fun h0 => ?_) (fun h0 => ?_)
 ·refine aLG 2 5 true (by simp [go_sem] <;> rfl) ?_
  refine aL 2 (by simp [go_sem] <;> rfl) ?_
  refine al_nil ?_
  refine awp_ret ?_
  refine ends_ret (by simp [go_sem] <;> rfl) (by simp [go_sem]) ?_
  exact ⟨by simp [go_sem, h0, isDigit], by simp [go_sem]⟩
 ·refine aK 2 5 true ?_
  refine aL 2 (by simp [go_sem] <;> rfl) ?_
  refine al_nil ?_
  refine awp_ret ?_
  refine ends_ret (by simp [go_sem] <;> rfl) (by simp [go_sem]) ?_
  exact ⟨by simp [go_sem, h0, isDigit], by simp [go_sem]⟩

set_option maxHeartbeats 1000000 in
theorem c_pagodaref01_digit (c : Int) : Pur Tryz.prog (GL kr) 188 [.pv (.int .u8 c)] (.pv (.bool (isDigit c))) := by
 refine pur_of fun σ hgl => ?_
 refine acalls_of tyOk Tryz.func188 rfl (by simp [Tryz.f188]) ?_
 refine awp_seq (aR (by simp [go_sem] <;> rfl) ?_)
 refine awp_seq (awp_reg ?_)
 refine aL 3 (by simp [go_sem] <;> rfl) ?_
 refine al_splitT 5 (by first | rfl | (simp [go_sem] <;> rfl)) (fun h0 => ?_) (fun h0 => ?_)
 ·refine aLG 2 5 true (by simp [go_sem] <;> rfl) ?_
  refine aL 2 (by simp [go_sem] <;> rfl) ?_
  refine al_nil ?_
  refine awp_ret ?_
  refine ends_ret (by simp [go_sem] <;> rfl) (by simp [go_sem]) ?_
  exact ⟨by simp [go_sem, h0, isDigit], by simp [go_sem]⟩
 ·refine aK 2 5 true ?_
  refine aL 2 (by simp [go_sem] <;> rfl) ?_
  refine al_nil ?_
  refine awp_ret ?_
  refine ends_ret (by simp [go_sem] <;> rfl) (by simp [go_sem]) ?_
  exact ⟨by simp [go_sem, h0, isDigit], by simp [go_sem]⟩

def ren137 : Go.Shelf.Ren := ⟨fun x => match x with | 137 => 236 | 217 => 256 | 266 => 278 | n => n, fun x => match x with | 3 => 3 | 5 => 5 | 9 => 9 | n => n, fun x => x⟩
theorem lays137 : Go.Proofs.Lays.n137 Tryz.prog ren137 :=
  { mixed := Eq.refl true,
    f137 := Eq.trans Tryz.func236 (congrArg some (by kernel_rfl)),
    f217 := Eq.trans Tryz.func256 (congrArg some (by kernel_rfl)),
    f266 := Eq.trans Tryz.func278 (congrArg some (by kernel_rfl)),
    t3 := Tryz.underlying3, a3 := Tryz.isAgg3, z3 := Tryz.sizeOf3,
    v3 := Tryz.zeroValue3, t5 := Tryz.underlying5, a5 := Tryz.isAgg5,
    z5 := Tryz.sizeOf5, v5 := Tryz.zeroValue5, t9 := Tryz.underlying9,
    a9 := Tryz.isAgg9, z9 := Tryz.sizeOf9, v9 := Tryz.zeroValue9 }
theorem c_IndexByte (s : ByteArray) (c : Int) : Pur Tryz.prog (GL kr) 236 [.pv (.str s), .pv (.int .u8 c)] (.pv (.int .i64 (Lib.indexByte s.data.toList c.toNat.toUInt8))) :=
  pur_of_calls (ps := [.str s, .int .u8 c]) [.str, .int .u8] rfl (.int .i64) rfl fun w => Go.Proofs.Any.strings_IndexByte lays137 s c w

set_option maxHeartbeats 1000000 in
theorem c_datum_IsAtom (c : Int) : Pur Tryz.prog (GL kr) 192 [.pv (.int .u8 c)] (.pv (.bool (isAtom c))) := by
 refine pur_of fun σ hgl => ?_
 refine acalls_of tyOk Tryz.func192 rfl (by simp [Tryz.f192]) ?_
 refine awp_seq (aR (by simp [go_sem] <;> rfl) ?_)
 refine awp_seq (awp_reg ?_)
 refine aL 3 (by simp [go_sem] <;> rfl) ?_
 refine al_splitT 5 (by first | rfl | (simp [go_sem] <;> rfl)) (fun h0 => ?_) (fun h0 => ?_)
 ·refine aLG 2 5 true (by simp [go_sem] <;> rfl) ?_
  refine aL 2 (by simp [go_sem] <;> rfl) ?_
  refine al_splitT 9 (by first | rfl | (simp [go_sem] <;> rfl)) (fun h1 => ?_) (fun h1 => ?_)
  ·refine aK 2 9 false ?_
   refine aL 2 (by simp [go_sem] <;> rfl) ?_
   refine aK 3 13 false ?_
   refine aL 2 (by simp [go_sem] <;> rfl) ?_
   refine al_nil ?_
   refine awp_ret ?_
   refine ends_ret (by simp [go_sem] <;> rfl) (by simp [go_sem]) ?_
   exact ⟨by simp [go_sem, h0, h1, isAtom, isLower], by simp [go_sem]⟩
  ·refine aLG 1 9 false (by simp [go_sem] <;> rfl) ?_
   refine al_fnG 9 false false (by simp [go_sem]) rfl (by simp [go_sem]) rfl rfl (by simp [go_sem] <;> rfl) call191 ((c_datum_IsDigit c) _ (by exact hgl)) (by simp [go_sem] <;> rfl) (by simp [go_sem]) rfl rfl ?_
   refine aL 2 (by simp [go_sem] <;> rfl) ?_
   refine al_splitT 13 (by first | rfl | (simp [go_sem] <;> rfl)) (fun h2 => ?_) (fun h2 => ?_)
   ·refine aK 3 13 false ?_
    refine aL 2 (by simp [go_sem] <;> rfl) ?_
    refine al_nil ?_
    refine awp_ret ?_
    refine ends_ret (by simp [go_sem] <;> rfl) (by simp [go_sem]) ?_
    exact ⟨by simp [go_sem, h0, h1, h2, isAtom, isLower], by simp [go_sem]⟩
   ·refine aLG 1 13 false (by simp [go_sem] <;> rfl) ?_
    refine al_fnG 13 false false (by simp [go_sem]) rfl (by simp [go_sem]) rfl rfl (by simp [go_sem] <;> rfl) call236 ((c_IndexByte ⟨#[43, 45, 42, 47, 60, 61, 62, 63, 33, 95, 46]⟩ c) _ (by exact hgl)) (by simp [go_sem] <;> rfl) (by simp [go_sem]) rfl rfl ?_
    refine aLG 1 13 false (by simp [go_sem] <;> rfl) ?_
    refine aL 2 (by simp [go_sem] <;> rfl) ?_
    refine al_nil ?_
    refine awp_ret ?_
    refine ends_ret (by simp [go_sem] <;> rfl) (by simp [go_sem]) ?_
    exact ⟨by simp [go_sem, h0, h1, h2, isAtom, isLower], by simp [go_sem]⟩
 ·refine aK 2 5 true ?_
  refine aL 2 (by simp [go_sem] <;> rfl) ?_
  refine aLG 1 9 false (by simp [go_sem] <;> rfl) ?_
  refine al_fnG 9 false false (by simp [go_sem]) rfl (by simp [go_sem]) rfl rfl (by simp [go_sem] <;> rfl) call191 ((c_datum_IsDigit c) _ (by exact hgl)) (by simp [go_sem] <;> rfl) (by simp [go_sem]) rfl rfl ?_
  refine aL 2 (by simp [go_sem] <;> rfl) ?_
  refine al_splitT 13 (by first | rfl | (simp [go_sem] <;> rfl)) (fun h3 => ?_) (fun h3 => ?_)
  ·refine aK 3 13 false ?_
   refine aL 2 (by simp [go_sem] <;> rfl) ?_
   refine al_nil ?_
   refine awp_ret ?_
   refine ends_ret (by simp [go_sem] <;> rfl) (by simp [go_sem]) ?_
   exact ⟨by simp [go_sem, h0, h3, isAtom, isLower], by simp [go_sem]⟩
  ·refine aLG 1 13 false (by simp [go_sem] <;> rfl) ?_
   refine al_fnG 13 false false (by simp [go_sem]) rfl (by simp [go_sem]) rfl rfl (by simp [go_sem] <;> rfl) call236 ((c_IndexByte ⟨#[43, 45, 42, 47, 60, 61, 62, 63, 33, 95, 46]⟩ c) _ (by exact hgl)) (by simp [go_sem] <;> rfl) (by simp [go_sem]) rfl rfl ?_
   refine aLG 1 13 false (by simp [go_sem] <;> rfl) ?_
   refine aL 2 (by simp [go_sem] <;> rfl) ?_
   refine al_nil ?_
   refine awp_ret ?_
   refine ends_ret (by simp [go_sem] <;> rfl) (by simp [go_sem]) ?_
   exact ⟨by simp [go_sem, h0, h3, isAtom, isLower], by simp [go_sem]⟩

set_option maxHeartbeats 1000000 in
theorem c_pagodaref01_Letter (c : Int) : Pur Tryz.prog (GL kr) 189 [.pv (.int .u8 c)] (.pv (.bool (letter c))) := by
 refine pur_of fun σ hgl => ?_
 refine acalls_of tyOk Tryz.func189 rfl (by simp [Tryz.f189]) ?_
 refine awp_seq (aR (by simp [go_sem] <;> rfl) ?_)
 refine awp_seq (awp_seq (aR (by simp [go_sem] <;> rfl) ?_))
 refine awp_block ?_
 refine awp_loop_headK σ.objs.length σ.toks.length 0 [0, 2] (fun k : Nat => [(3, .pv (.int .i64 ↑k))]) (fun k => σ) (fun k => k ≤ 11 ∧ NotYet (fun k : Nat => c == byteAt atomS k) (List.range 11) k) (fun k => 11 - k) 0 (⟨Nat.zero_le _, .zero⟩) ⟨by simp [go_sem], rfl, by simp, by simp, by simp [go_sem], fun ob h => .inl (by simpa [go_sem] using h), by simp [go_sem]⟩ ?_
 rintro k ⟨hk, hn⟩
 refine awp_seq (awp_seq (aR (by simp [go_sem] <;> rfl) ?_))
 refine awp_cond (by first | rfl | (simp [go_sem] <;> rfl)) (fun h0 => ?_) (fun h0 => ?_)
 ·have hlt : k < 11 := by simp at h0; omega
  have hw : IntKind.i64.wrap (↑k + 1) = (k : Int) + 1 := wrap_succ (by omega)
  have hr : (List.range 11)[k]? = some k := by simp [hlt]
  have hz : (↑k : Int) < 11 := by omega
  have hat : byteAt ⟨#[43, 45, 42, 47, 60, 61, 62, 63, 33, 95, 46]⟩ ↑k = byteAt atomS ↑k := rfl
  refine awp_skip ?_
  refine awp_seq (awp_block ?_)
  refine awp_seq (aR (by simp [go_sem, hz, hat] <;> rfl) ?_)
  refine awp_cond (by first | rfl | (simp [go_sem, hz, hat] <;> rfl)) (fun h1 => ?_) (fun h1 => ?_)
  ·refine awp_seq ?_
   refine aR (by simp [go_sem, hz, hat] <;> rfl) ?_
   refine awp_ret ?_
   refine inBlock_ret ?_
   refine then_ret ?_
   refine then_ret ?_
   refine inBlock_ret ?_
   refine then_ret ?_
   refine ends_ret (by simp [go_sem] <;> rfl) (by simp [go_sem]) ?_
   have hany : inAtoms c = true := any_found (p := fun k : Nat => c == byteAt atomS k) hr h1
   exact ⟨by simp [go_sem, letter, hany], by simp [go_sem]⟩
  ·refine awp_skip ?_
   refine aR (by simp [go_sem, hz, hat] <;> rfl) ?_
   exact next_intro (k + 1) σ.objs.length σ.toks.length 0 (⟨hlt, hn.succ hr (by simpa using h1)⟩) (by omega) ⟨by simp [go_sem, hz, hat, hw], rfl, by simp, by simp, by simp [go_sem, hz, hat, hw], fun ob h => .inl (by simpa [go_sem, hz, hat, hw] using h), by simp [go_sem]⟩
 ·have hke : k = 11 := by simp at h0; omega
  subst hke
  have hany : inAtoms c = false := hn.any (l := List.range 11)
  refine awp_exit ?_
  refine then_exit ?_
  refine then_exit ?_
  refine inBlock_hit ?_
  refine awp_seq (awp_reg ?_)
  refine aL 1 (by simp [go_sem, hany] <;> rfl) ?_
  refine aF call188 ((c_pagodaref01_digit c) _ (by exact hgl)) (by simp [go_sem, hany] <;> rfl) (by simp [go_sem, hany]) ?_
  refine aL 1 (by simp [go_sem, hany] <;> rfl) ?_
  refine al_splitT 14 (by first | rfl | (simp [go_sem, hany] <;> rfl)) (fun h2 => ?_) (fun h2 => ?_)
  ·refine aK 3 14 false ?_
   refine aK 2 17 true ?_
   refine aK 1 14 false ?_
   refine aL 2 (by simp [go_sem, hany] <;> rfl) ?_
   refine al_nil ?_
   refine awp_ret ?_
   refine ends_ret (by simp [go_sem, hany] <;> rfl) (by simp [go_sem]) ?_
   exact ⟨by simp [go_sem, hany, h2, letter, isLower], by simp [go_sem]⟩
  ·refine aLG 3 14 false (by simp [go_sem, hany] <;> rfl) ?_
   refine al_splitT 17 (by first | rfl | (simp [go_sem, hany] <;> rfl)) (fun h3 => ?_) (fun h3 => ?_)
   ·refine aLG 2 17 true (by simp [go_sem, hany] <;> rfl) ?_
    refine aLG 1 14 false (by simp [go_sem, hany] <;> rfl) ?_
    refine aL 2 (by simp [go_sem, hany] <;> rfl) ?_
    refine al_nil ?_
    refine awp_ret ?_
    refine ends_ret (by simp [go_sem, hany] <;> rfl) (by simp [go_sem]) ?_
    exact ⟨by simp [go_sem, hany, h2, h3, letter, isLower], by simp [go_sem]⟩
   ·refine aK 2 17 true ?_
    refine aLG 1 14 false (by simp [go_sem, hany] <;> rfl) ?_
    refine aL 2 (by simp [go_sem, hany] <;> rfl) ?_
    refine al_nil ?_
    refine awp_ret ?_
    refine ends_ret (by simp [go_sem, hany] <;> rfl) (by simp [go_sem]) ?_
    exact ⟨by simp [go_sem, hany, h2, h3, letter, isLower], by simp [go_sem]⟩

end Go.Proofs.YtnibcmaaehkhlaaGreatDoor

namespace Go.Proofs.YtnibcmaaehkhlaaGreatDoor
open Go Go.Aw
variable {kr : KR}
set_option maxHeartbeats 1000000 in
theorem c_datum_IsSymbol (s : ByteArray) : Pur Tryz.prog (GL kr) 120 [.pv (.str s)] (.pv (.bool (isSym isAtom s))) := by
 refine pur_of fun σ hgl => ?_
 refine acalls_of tyOk Tryz.func120 rfl (by simp [Tryz.f120]) ?_
 refine awp_seq (aR (by simp [go_sem, bt0, bt1] <;> rfl) ?_)
 refine awp_seq (awp_seq (awp_reg ?_))
 refine aL 4 (by simp [go_sem, bt0, bt1] <;> rfl) ?_
 refine al_splitT 7 (by first | rfl | (simp [go_sem, bt0, bt1] <;> rfl)) (fun h0 => ?_) (fun h0 => ?_)
 ·refine aK 3 7 false ?_
  refine aL 2 (by simp [go_sem, bt0, bt1] <;> rfl) ?_
  refine aK 3 12 false ?_
  refine aL 2 (by simp [go_sem, bt0, bt1] <;> rfl) ?_
  refine aK 4 17 false ?_
  refine aK 3 21 true ?_
  refine aK 2 17 false ?_
  refine aK 3 26 true ?_
  refine aK 1 17 false ?_
  refine aL 1 (by simp [go_sem, bt0, bt1] <;> rfl) ?_
  refine al_nil ?_
  refine awp_cond (b := true) (by simp [go_sem, bt0, bt1, h0]) (fun h => ?_) (fun h => ?_)
  rotate_left
  ·cases h
  refine awp_seq (aR (by simp [go_sem, bt0, bt1] <;> rfl) ?_)
  refine awp_ret ?_
  refine then_ret ?_
  refine ends_ret (by simp [go_sem, bt0, bt1] <;> rfl) (by simp [go_sem]) ?_
  exact ⟨by simp only [isSym, bt0, bt1, h0, bA, bB, bC, bD, bE, bF, bG, bH, bI, bJ, Bool.false_eq_true, if_true, if_false]; simp [go_sem], by simp [go_sem]⟩
 ·have hp : 0 < s.size := by have := h0; simp only [beq_eq_false_iff_ne, decide_eq_false_iff_not] at this; omega
  refine aLG 3 7 false (by simp [go_sem, bt0, bt1, hp] <;> rfl) ?_
  refine aL 2 (by simp [go_sem, bt0, bt1, hp] <;> rfl) ?_
  refine al_splitT 12 (by first | rfl | (simp [go_sem, bt0, bt1, hp] <;> rfl)) (fun h1 => ?_) (fun h1 => ?_)
  ·refine aK 3 12 false ?_
   refine aL 2 (by simp [go_sem, bt0, bt1, hp] <;> rfl) ?_
   refine aK 4 17 false ?_
   refine aK 3 21 true ?_
   refine aK 2 17 false ?_
   refine aK 3 26 true ?_
   refine aK 1 17 false ?_
   refine aL 1 (by simp [go_sem, bt0, bt1, hp] <;> rfl) ?_
   refine al_nil ?_
   refine awp_cond (b := true) (by simp [go_sem, bt0, bt1, hp, h0, h1]) (fun h => ?_) (fun h => ?_)
   rotate_left
   ·cases h
   refine awp_seq (aR (by simp [go_sem, bt0, bt1, hp] <;> rfl) ?_)
   refine awp_ret ?_
   refine then_ret ?_
   refine ends_ret (by simp [go_sem, bt0, bt1, hp] <;> rfl) (by simp [go_sem]) ?_
   exact ⟨by simp only [isSym, bt0, bt1, hp, h0, h1, bA, bB, bC, bD, bE, bF, bG, bH, bI, bJ, Bool.false_eq_true, if_true, if_false]; simp [go_sem], by simp [go_sem]⟩
  ·have h40 : s.size ≤ 40 := by simp at h1; omega
   refine aLG 2 12 false (by simp [go_sem, bt0, bt1, hp] <;> rfl) ?_
   refine al_fnG 12 false false (by simp [go_sem]) rfl (by simp [go_sem]) rfl rfl (by simp [go_sem, bt0, bt1, hp] <;> rfl) call191 ((c_datum_IsDigit (bt s 0)) _ (by exact hgl)) (by simp [go_sem, bt0, bt1, hp] <;> rfl) (by simp [go_sem, bt0, bt1, hp]) rfl rfl ?_
   refine aL 2 (by simp [go_sem, bt0, bt1, hp] <;> rfl) ?_
   refine al_splitT 17 (by first | rfl | (simp [go_sem, bt0, bt1, hp] <;> rfl)) (fun h2 => ?_) (fun h2 => ?_)
   ·refine aK 4 17 false ?_
    refine aK 3 21 true ?_
    refine aK 2 17 false ?_
    refine aK 3 26 true ?_
    refine aK 1 17 false ?_
    refine aL 1 (by simp [go_sem, bt0, bt1, hp] <;> rfl) ?_
    refine al_nil ?_
    refine awp_cond (b := true) (by simp [go_sem, bt0, bt1, hp, h0, h1, h2]) (fun h => ?_) (fun h => ?_)
    rotate_left
    ·cases h
    refine awp_seq (aR (by simp [go_sem, bt0, bt1, hp] <;> rfl) ?_)
    refine awp_ret ?_
    refine then_ret ?_
    refine ends_ret (by simp [go_sem, bt0, bt1, hp] <;> rfl) (by simp [go_sem]) ?_
    exact ⟨by simp only [isSym, bt0, bt1, hp, h0, h1, h2, bA, bB, bC, bD, bE, bF, bG, bH, bI, bJ, Bool.false_eq_true, if_true, if_false]; simp [go_sem], by simp [go_sem]⟩
   ·refine aLG 4 17 false (by simp [go_sem, bt0, bt1, hp] <;> rfl) ?_
    refine al_splitT 21 (by first | rfl | (simp [go_sem, bt0, bt1, hp] <;> rfl)) (fun h3 => ?_) (fun h3 => ?_)
    ·refine aLG 3 21 true (by simp [go_sem, bt0, bt1, hp] <;> rfl) ?_
     refine aLG 2 17 false (by simp [go_sem, bt0, bt1, hp] <;> rfl) ?_
     refine al_splitT 26 (by first | rfl | (simp [go_sem, bt0, bt1, hp] <;> rfl)) (fun h4 => ?_) (fun h4 => ?_)
     ·have hp1 : (1 : Int) < s.size := by simpa using h4
      refine aLG 2 26 true (by simp [go_sem, bt0, bt1, hp, hp1] <;> rfl) ?_
      refine al_fnG 26 true true (by simp [go_sem]) rfl (by simp [go_sem]) rfl rfl (by simp [go_sem, bt0, bt1, hp, hp1] <;> rfl) call191 ((c_datum_IsDigit (bt s 1)) _ (by exact hgl)) (by simp [go_sem, bt0, bt1, hp, hp1] <;> rfl) (by simp [go_sem, bt0, bt1, hp, hp1]) rfl rfl ?_
      refine aLG 1 17 false (by simp [go_sem, bt0, bt1, hp, hp1] <;> rfl) ?_
      refine aL 1 (by simp [go_sem, bt0, bt1, hp, hp1] <;> rfl) ?_
      refine al_nil ?_
      refine awp_cond (by first | rfl | (simp [go_sem, bt0, bt1, hp, hp1] <;> rfl)) (fun h5 => ?_) (fun h5 => ?_)
      ·refine awp_seq ?_
       refine aR (by simp [go_sem, bt0, bt1, hp, hp1] <;> rfl) ?_
       refine awp_ret ?_
       refine then_ret ?_
       refine ends_ret (by simp [go_sem, bt0, bt1, hp, hp1] <;> rfl) (by simp [go_sem]) ?_
       exact ⟨by simp only [isSym, bt0, bt1, hp, hp1, h0, h1, h2, h3, h4, h5, bA, bB, bC, bD, bE, bF, bG, bH, bI, bJ, Bool.false_eq_true, if_true, if_false]; simp [go_sem], by simp [go_sem]⟩
      ·refine awp_skip ?_
       refine awp_seq (awp_seq (aR (by simp [go_sem, bt0, bt1, hp, hp1] <;> rfl) ?_))
       refine awp_block ?_
       refine awp_loop_headK σ.objs.length σ.toks.length 0 [0, 2, 33] (fun k : Nat => [(34, .pv (.int .i64 ↑k))]) (fun k => σ) (fun k => k ≤ s.size ∧ NotYet (fun i => !isAtom (bt s i)) (List.range s.size) k) (fun k => s.size - k) 0 (⟨Nat.zero_le _, .zero⟩) ⟨by simp [go_sem, bt0, bt1, hp, hp1], rfl, by simp, by simp, by simp [go_sem, bt0, bt1, hp, hp1], fun ob h => .inl (by simpa [go_sem, bt0, bt1, hp, hp1] using h), by simp [go_sem]⟩ ?_
       rintro k ⟨hk, hn⟩
       refine awp_seq (aR (by simp [go_sem, bt0, bt1, hp, hp1] <;> rfl) ?_)
       refine awp_seq (awp_cond (by first | rfl | (simp [go_sem, bt0, bt1, hp, hp1] <;> rfl)) (fun h6 => ?_) (fun h6 => ?_))
       ·have hlt : k < s.size := by simp at h6; omega
        have hw : IntKind.i64.wrap (↑k + 1) = (k : Int) + 1 := wrap_succ (by omega)
        have hr : (List.range s.size)[k]? = some k := by simp [hlt]
        have hz : (k : Int) < s.size := by omega
        refine awp_skip ?_
        refine awp_seq (awp_block ?_)
        refine awp_seq (aR (by simp [go_sem, bt0, bt1, hp, hp1, hz, bt_eq] <;> rfl) ?_)
        refine awp_seq (awp_reg ?_)
        refine aL 3 (by simp [go_sem, bt0, bt1, hp, hp1, hz, bt_eq] <;> rfl) ?_
        refine aF call192 ((c_datum_IsAtom (bt s k)) _ (by exact hgl)) (by simp [go_sem, bt0, bt1, hp, hp1, hz, bt_eq] <;> rfl) (by simp [go_sem, bt0, bt1, hp, hp1, hz, bt_eq]) ?_
        refine aL 1 (by simp [go_sem, bt0, bt1, hp, hp1, hz, bt_eq] <;> rfl) ?_
        refine al_nil ?_
        refine awp_cond (by first | rfl | (simp [go_sem, bt0, bt1, hp, hp1, hz, bt_eq] <;> rfl)) (fun h7 => ?_) (fun h7 => ?_)
        ·refine awp_seq ?_
         refine aR (by simp [go_sem, bt0, bt1, hp, hp1, hz, bt_eq] <;> rfl) ?_
         refine awp_ret ?_
         refine inBlock_ret ?_
         refine then_ret ?_
         refine then_ret ?_
         refine inBlock_ret ?_
         refine then_ret ?_
         refine ends_ret (by simp [go_sem] <;> rfl) (by simp [go_sem]) ?_
         have hall : (List.range s.size).all (fun i => isAtom (bt s i)) = false := all_found hlt (by simpa [bt_eq] using h7)
         exact ⟨by simp only [isSym, hall, bA, bB, bC, bD, bE, bF, bG, bH, bI, bJ, Bool.false_eq_true, if_true, if_false]; simp [go_sem], by simp [go_sem]⟩
        ·refine awp_skip ?_
         refine aR (by simp [go_sem, bt0, bt1, hp, hp1, hz, bt_eq] <;> rfl) ?_
         exact next_intro (k + 1) σ.objs.length σ.toks.length 0 (⟨hlt, hn.succ hr (by simpa [bt_eq] using h7)⟩) (by omega) ⟨by simp [go_sem, bt0, bt1, hp, hp1, hz, bt_eq, hw], rfl, by simp, by simp, by simp [go_sem, bt0, bt1, hp, hp1, hz, bt_eq, hw], fun ob h => .inl (by simpa [go_sem, bt0, bt1, hp, hp1, hz, bt_eq, hw] using h), by simp [go_sem]⟩
       ·have hke : k = s.size := by simp at h6; omega
        subst hke
        have hall : (List.range s.size).all (fun i => isAtom (bt s i)) = true := all_of_notYet hn
        refine awp_exit ?_
        refine then_exit ?_
        refine then_exit ?_
        refine inBlock_hit ?_
        refine awp_seq (aR (by simp [go_sem, bt0, bt1, hp, hp1, hall] <;> rfl) ?_)
        refine awp_ret ?_
        refine ends_ret (by simp [go_sem, bt0, bt1, hp, hp1, hall] <;> rfl) (by simp [go_sem]) ?_
        exact ⟨by simp only [isSym, bt0, bt1, hp, hp1, hall, h0, h1, h2, h3, h4, h5, bA, bB, bC, bD, bE, bF, bG, bH, bI, bJ, Bool.false_eq_true, if_true, if_false]; simp [go_sem], by simp [go_sem]⟩
     ·refine aK 3 26 true ?_
      refine aLG 1 17 false (by simp [go_sem, bt0, bt1, hp] <;> rfl) ?_
      refine aL 1 (by simp [go_sem, bt0, bt1, hp] <;> rfl) ?_
      refine al_nil ?_
      refine awp_cond (b := false) (by simp [go_sem, bt0, bt1, hp, h0, h1, h2, h3, h4]) (fun h => ?_) (fun h => ?_)
      ·cases h
      refine awp_skip ?_
      refine awp_seq (awp_seq (aR (by simp [go_sem, bt0, bt1, hp] <;> rfl) ?_))
      refine awp_block ?_
      refine awp_loop_headK σ.objs.length σ.toks.length 0 [0, 2, 33] (fun k : Nat => [(34, .pv (.int .i64 ↑k))]) (fun k => σ) (fun k => k ≤ s.size ∧ NotYet (fun i => !isAtom (bt s i)) (List.range s.size) k) (fun k => s.size - k) 0 (⟨Nat.zero_le _, .zero⟩) ⟨by simp [go_sem, bt0, bt1, hp], rfl, by simp, by simp, by simp [go_sem, bt0, bt1, hp], fun ob h => .inl (by simpa [go_sem, bt0, bt1, hp] using h), by simp [go_sem]⟩ ?_
      rintro k ⟨hk, hn⟩
      refine awp_seq (aR (by simp [go_sem, bt0, bt1, hp] <;> rfl) ?_)
      refine awp_seq (awp_cond (by first | rfl | (simp [go_sem, bt0, bt1, hp] <;> rfl)) (fun h8 => ?_) (fun h8 => ?_))
      ·have hlt : k < s.size := by simp at h8; omega
       have hw : IntKind.i64.wrap (↑k + 1) = (k : Int) + 1 := wrap_succ (by omega)
       have hr : (List.range s.size)[k]? = some k := by simp [hlt]
       have hz : (k : Int) < s.size := by omega
       refine awp_skip ?_
       refine awp_seq (awp_block ?_)
       refine awp_seq (aR (by simp [go_sem, bt0, bt1, hp, hz, bt_eq] <;> rfl) ?_)
       refine awp_seq (awp_reg ?_)
       refine aL 3 (by simp [go_sem, bt0, bt1, hp, hz, bt_eq] <;> rfl) ?_
       refine aF call192 ((c_datum_IsAtom (bt s k)) _ (by exact hgl)) (by simp [go_sem, bt0, bt1, hp, hz, bt_eq] <;> rfl) (by simp [go_sem, bt0, bt1, hp, hz, bt_eq]) ?_
       refine aL 1 (by simp [go_sem, bt0, bt1, hp, hz, bt_eq] <;> rfl) ?_
       refine al_nil ?_
       refine awp_cond (by first | rfl | (simp [go_sem, bt0, bt1, hp, hz, bt_eq] <;> rfl)) (fun h9 => ?_) (fun h9 => ?_)
       ·refine awp_seq ?_
        refine aR (by simp [go_sem, bt0, bt1, hp, hz, bt_eq] <;> rfl) ?_
        refine awp_ret ?_
        refine inBlock_ret ?_
        refine then_ret ?_
        refine then_ret ?_
        refine inBlock_ret ?_
        refine then_ret ?_
        refine ends_ret (by simp [go_sem] <;> rfl) (by simp [go_sem]) ?_
        have hall : (List.range s.size).all (fun i => isAtom (bt s i)) = false := all_found hlt (by simpa [bt_eq] using h9)
        exact ⟨by simp only [isSym, hall, bA, bB, bC, bD, bE, bF, bG, bH, bI, bJ, Bool.false_eq_true, if_true, if_false]; simp [go_sem], by simp [go_sem]⟩
       ·refine awp_skip ?_
        refine aR (by simp [go_sem, bt0, bt1, hp, hz, bt_eq] <;> rfl) ?_
        exact next_intro (k + 1) σ.objs.length σ.toks.length 0 (⟨hlt, hn.succ hr (by simpa [bt_eq] using h9)⟩) (by omega) ⟨by simp [go_sem, bt0, bt1, hp, hz, bt_eq, hw], rfl, by simp, by simp, by simp [go_sem, bt0, bt1, hp, hz, bt_eq, hw], fun ob h => .inl (by simpa [go_sem, bt0, bt1, hp, hz, bt_eq, hw] using h), by simp [go_sem]⟩
      ·have hke : k = s.size := by simp at h8; omega
       subst hke
       have hall : (List.range s.size).all (fun i => isAtom (bt s i)) = true := all_of_notYet hn
       refine awp_exit ?_
       refine then_exit ?_
       refine then_exit ?_
       refine inBlock_hit ?_
       refine awp_seq (aR (by simp [go_sem, bt0, bt1, hp, hall] <;> rfl) ?_)
       refine awp_ret ?_
       refine ends_ret (by simp [go_sem, bt0, bt1, hp, hall] <;> rfl) (by simp [go_sem]) ?_
       exact ⟨by simp only [isSym, bt0, bt1, hp, hall, h0, h1, h2, h3, h4, bA, bB, bC, bD, bE, bF, bG, bH, bI, bJ, Bool.false_eq_true, if_true, if_false]; simp [go_sem], by simp [go_sem]⟩
    ·refine aK 3 21 true ?_
     refine aLG 2 17 false (by simp [go_sem, bt0, bt1, hp] <;> rfl) ?_
     refine aK 3 26 true ?_
     refine aLG 1 17 false (by simp [go_sem, bt0, bt1, hp] <;> rfl) ?_
     refine aL 1 (by simp [go_sem, bt0, bt1, hp] <;> rfl) ?_
     refine al_nil ?_
     refine awp_cond (b := false) (by simp [go_sem, bt0, bt1, hp, h0, h1, h2, h3]) (fun h => ?_) (fun h => ?_)
     ·cases h
     refine awp_skip ?_
     refine awp_seq (awp_seq (aR (by simp [go_sem, bt0, bt1, hp] <;> rfl) ?_))
     refine awp_block ?_
     refine awp_loop_headK σ.objs.length σ.toks.length 0 [0, 2, 33] (fun k : Nat => [(34, .pv (.int .i64 ↑k))]) (fun k => σ) (fun k => k ≤ s.size ∧ NotYet (fun i => !isAtom (bt s i)) (List.range s.size) k) (fun k => s.size - k) 0 (⟨Nat.zero_le _, .zero⟩) ⟨by simp [go_sem, bt0, bt1, hp], rfl, by simp, by simp, by simp [go_sem, bt0, bt1, hp], fun ob h => .inl (by simpa [go_sem, bt0, bt1, hp] using h), by simp [go_sem]⟩ ?_
     rintro k ⟨hk, hn⟩
     refine awp_seq (aR (by simp [go_sem, bt0, bt1, hp] <;> rfl) ?_)
     refine awp_seq (awp_cond (by first | rfl | (simp [go_sem, bt0, bt1, hp] <;> rfl)) (fun h10 => ?_) (fun h10 => ?_))
     ·have hlt : k < s.size := by simp at h10; omega
      have hw : IntKind.i64.wrap (↑k + 1) = (k : Int) + 1 := wrap_succ (by omega)
      have hr : (List.range s.size)[k]? = some k := by simp [hlt]
      have hz : (k : Int) < s.size := by omega
      refine awp_skip ?_
      refine awp_seq (awp_block ?_)
      refine awp_seq (aR (by simp [go_sem, bt0, bt1, hp, hz, bt_eq] <;> rfl) ?_)
      refine awp_seq (awp_reg ?_)
      refine aL 3 (by simp [go_sem, bt0, bt1, hp, hz, bt_eq] <;> rfl) ?_
      refine aF call192 ((c_datum_IsAtom (bt s k)) _ (by exact hgl)) (by simp [go_sem, bt0, bt1, hp, hz, bt_eq] <;> rfl) (by simp [go_sem, bt0, bt1, hp, hz, bt_eq]) ?_
      refine aL 1 (by simp [go_sem, bt0, bt1, hp, hz, bt_eq] <;> rfl) ?_
      refine al_nil ?_
      refine awp_cond (by first | rfl | (simp [go_sem, bt0, bt1, hp, hz, bt_eq] <;> rfl)) (fun h11 => ?_) (fun h11 => ?_)
      ·refine awp_seq ?_
       refine aR (by simp [go_sem, bt0, bt1, hp, hz, bt_eq] <;> rfl) ?_
       refine awp_ret ?_
       refine inBlock_ret ?_
       refine then_ret ?_
       refine then_ret ?_
       refine inBlock_ret ?_
       refine then_ret ?_
       refine ends_ret (by simp [go_sem] <;> rfl) (by simp [go_sem]) ?_
       have hall : (List.range s.size).all (fun i => isAtom (bt s i)) = false := all_found hlt (by simpa [bt_eq] using h11)
       exact ⟨by simp only [isSym, hall, bA, bB, bC, bD, bE, bF, bG, bH, bI, bJ, Bool.false_eq_true, if_true, if_false]; simp [go_sem], by simp [go_sem]⟩
      ·refine awp_skip ?_
       refine aR (by simp [go_sem, bt0, bt1, hp, hz, bt_eq] <;> rfl) ?_
       exact next_intro (k + 1) σ.objs.length σ.toks.length 0 (⟨hlt, hn.succ hr (by simpa [bt_eq] using h11)⟩) (by omega) ⟨by simp [go_sem, bt0, bt1, hp, hz, bt_eq, hw], rfl, by simp, by simp, by simp [go_sem, bt0, bt1, hp, hz, bt_eq, hw], fun ob h => .inl (by simpa [go_sem, bt0, bt1, hp, hz, bt_eq, hw] using h), by simp [go_sem]⟩
     ·have hke : k = s.size := by simp at h10; omega
      subst hke
      have hall : (List.range s.size).all (fun i => isAtom (bt s i)) = true := all_of_notYet hn
      refine awp_exit ?_
      refine then_exit ?_
      refine then_exit ?_
      refine inBlock_hit ?_
      refine awp_seq (aR (by simp [go_sem, bt0, bt1, hp, hall] <;> rfl) ?_)
      refine awp_ret ?_
      refine ends_ret (by simp [go_sem, bt0, bt1, hp, hall] <;> rfl) (by simp [go_sem]) ?_
      exact ⟨by simp only [isSym, bt0, bt1, hp, hall, h0, h1, h2, h3, bA, bB, bC, bD, bE, bF, bG, bH, bI, bJ, Bool.false_eq_true, if_true, if_false]; simp [go_sem], by simp [go_sem]⟩

set_option maxHeartbeats 1000000 in
theorem c_IndexFunc (l : List D) (hl : l.length ≤ 1000000000) (σ : Store) (hgl : σ.gl = (GL kr)) (f : FuncId) (hc : Callable Tryz.prog f) (caps : List AV) (hcaps : AV.noLs caps = true) (p : D → Bool) (hp : ∀ x, x ∈ l → PurAt Tryz.prog σ f (.pv (enc x) :: caps) (.pv (.bool (p x)))) : PurAt Tryz.prog σ 239 [.pv (.slice (l.map enc)), .func (.func f) caps] (.pv (.int .i64 (idxOf p l))) := by
 refine purAt_of ?_
 refine acalls_ofC tyOk Tryz.func239 rfl (by simp [Tryz.f239]) (by simp [go_sem, hcaps]) fun hclo => ?_
 simp [go_sem] at hclo
 refine awp_seq (aR (by simp [go_sem, hcaps, hclo] <;> rfl) ?_)
 refine awp_seq (awp_seq (aR (by simp [go_sem, hcaps, hclo] <;> rfl) ?_))
 refine awp_block ?_
 refine awp_loop_headK σ.objs.length σ.toks.length 0 [0, 1, 4, 7] (fun k : Nat => [(8, .pv (.int .i64 ↑k))]) (fun k => σ) (fun k => k ≤ l.length ∧ NotYet (p) l k) (fun k => l.length - k) 0 (⟨Nat.zero_le _, .zero⟩) ⟨by simp [go_sem, hcaps, hclo, AV.clos], rfl, by simp, by simp, by simp [go_sem, hcaps, hclo, AV.clos], fun ob h => .inl (by simpa [go_sem, hcaps, hclo, AV.clos] using h), by simp [go_sem]⟩ ?_
 rintro k ⟨hk, hn⟩
 refine awp_seq (aR (by simp [go_sem, hcaps, hclo] <;> rfl) ?_)
 refine awp_seq (awp_cond (by first | rfl | (simp [go_sem, hcaps, hclo] <;> rfl)) (fun h0 => ?_) (fun h0 => ?_))
 ·have hlt : k < l.length := by simp at h0; omega
  have hw : IntKind.i64.wrap (↑k + 1) = (k : Int) + 1 := wrap_succ (by omega)
  obtain ⟨x, hx, hxm⟩ := get_lt hlt
  refine awp_skip ?_
  refine awp_seq (awp_block ?_)
  refine awp_seq (aR (by simp [go_sem, hcaps, hclo, hx] <;> rfl) ?_)
  refine awp_seq (awp_reg ?_)
  refine aL 5 (by simp [go_sem, hcaps, hclo, hx] <;> rfl) ?_
  refine al_fn rfl rfl rfl (by simp [go_sem, hcaps, hclo, hx] <;> rfl) hc (hp x hxm) (by simp [go_sem, hcaps, hclo, hx] <;> rfl) (by simp [go_sem, hcaps, hclo, hx]) (by simp [go_sem, hcaps]) rfl ?_
  refine al_nil ?_
  refine awp_cond (by first | rfl | (simp [go_sem, hcaps, hclo, hx] <;> rfl)) (fun h1 => ?_) (fun h1 => ?_)
  ·refine awp_seq ?_
   refine aR (by simp [go_sem, hcaps, hclo, hx] <;> rfl) ?_
   refine awp_ret ?_
   refine inBlock_ret ?_
   refine then_ret ?_
   refine then_ret ?_
   refine inBlock_ret ?_
   refine then_ret ?_
   refine ends_ret (by simp [go_sem] <;> rfl) (by simp [go_sem]) ?_
   exact ⟨by simp [go_sem, idxOf_found hn hx h1], by simp [go_sem]⟩
  ·refine awp_skip ?_
   refine aR (by simp [go_sem, hcaps, hclo, hx] <;> rfl) ?_
   exact next_intro (k + 1) σ.objs.length σ.toks.length 0 (⟨hlt, hn.succ hx h1⟩) (by omega) ⟨by simp [go_sem, hcaps, hclo, hx, hw], rfl, by simp, by simp, by simp [go_sem, hcaps, hclo, hx, hw], fun ob h => .inl (by simpa [go_sem, hcaps, hclo, hx, hw] using h), by simp [go_sem]⟩
 ·have hke : k = l.length := by simp at h0; omega
  subst hke
  have hno := idxOf_none hn
  refine awp_exit ?_
  refine then_exit ?_
  refine then_exit ?_
  refine inBlock_hit ?_
  refine awp_seq (aR (by simp [go_sem, hcaps, hclo] <;> rfl) ?_)
  refine awp_ret ?_
  refine ends_ret (by simp [go_sem] <;> rfl) (by simp [go_sem]) ?_
  exact ⟨by simp [go_sem, hno], by simp [go_sem]⟩

set_option maxHeartbeats 1000000 in
theorem c_ContainsFunc (l : List D) (hl : l.length ≤ 1000000000) (σ : Store) (hgl : σ.gl = (GL kr)) (f : FuncId) (hc : Callable Tryz.prog f) (caps : List AV) (hcaps : AV.noLs caps = true) (p : D → Bool) (hp : ∀ x, x ∈ l → PurAt Tryz.prog σ f (.pv (enc x) :: caps) (.pv (.bool (p x)))) : PurAt Tryz.prog σ 199 [.pv (.slice (l.map enc)), .func (.func f) caps] (.pv (.bool (l.any p))) := by
 refine purAt_of ?_
 refine acalls_of tyOk Tryz.func199 rfl (by simp [Tryz.f199]) ?_
 refine awp_seq (aR (by simp [go_sem] <;> rfl) ?_)
 refine awp_seq (awp_reg ?_)
 refine aL 2 (by simp [go_sem] <;> rfl) ?_
 refine al_fn rfl rfl rfl (by simp [go_sem] <;> rfl) call239 (c_IndexFunc l hl σ hgl f hc caps hcaps p hp) (by simp [go_sem] <;> rfl) (by simp [go_sem]) (by simp [go_sem, hcaps]) rfl ?_
 refine aL 2 (by simp [go_sem] <;> rfl) ?_
 refine al_nil ?_
 refine awp_ret ?_
 refine ends_ret (by simp [go_sem] <;> rfl) (by simp [go_sem]) ?_
 exact ⟨by simp [go_sem, ← idxOf_any], by simp [go_sem]⟩

set_option maxHeartbeats 1000000 in
theorem c_Index (l : List ByteArray) (hl : l.length ≤ 1000000000) (t : ByteArray) : Pur Tryz.prog (GL kr) 159 [.pv (.slice (l.map .str)), .pv (.str t)] (.pv (.int .i64 (idxOf (fun x => decide (t = x)) l))) := by
 refine pur_of fun σ hgl => ?_
 refine acalls_of tyOk Tryz.func159 rfl (by simp [Tryz.f159]) ?_
 refine awp_seq (aR (by simp [go_sem] <;> rfl) ?_)
 refine awp_seq (awp_seq (aR (by simp [go_sem] <;> rfl) ?_))
 refine awp_block ?_
 refine awp_loop_headK σ.objs.length σ.toks.length 0 [0, 1, 4, 7] (fun k : Nat => [(8, .pv (.int .i64 ↑k))]) (fun k => σ) (fun k => k ≤ l.length ∧ NotYet (fun x => decide (t = x)) l k) (fun k => l.length - k) 0 (⟨Nat.zero_le _, .zero⟩) ⟨by simp [go_sem], rfl, by simp, by simp, by simp [go_sem], fun ob h => .inl (by simpa [go_sem] using h), by simp [go_sem]⟩ ?_
 rintro k ⟨hk, hn⟩
 refine awp_seq (aR (by simp [go_sem] <;> rfl) ?_)
 refine awp_seq (awp_cond (by first | rfl | (simp [go_sem] <;> rfl)) (fun h0 => ?_) (fun h0 => ?_))
 ·have hlt : k < l.length := by simp at h0; omega
  have hw : IntKind.i64.wrap (↑k + 1) = (k : Int) + 1 := wrap_succ (by omega)
  obtain ⟨x, hx, hxm⟩ := get_lt hlt
  refine awp_skip ?_
  refine awp_seq (awp_block ?_)
  refine awp_seq (aR (by simp [go_sem, hx] <;> rfl) ?_)
  refine awp_seq (aR (by simp [go_sem, hx] <;> rfl) ?_)
  refine awp_cond (by first | rfl | (simp [go_sem, hx] <;> rfl)) (fun h1 => ?_) (fun h1 => ?_)
  ·refine awp_seq ?_
   refine aR (by simp [go_sem, hx] <;> rfl) ?_
   refine awp_ret ?_
   refine inBlock_ret ?_
   refine then_ret ?_
   refine then_ret ?_
   refine inBlock_ret ?_
   refine then_ret ?_
   refine ends_ret (by simp [go_sem] <;> rfl) (by simp [go_sem]) ?_
   exact ⟨by simp [go_sem, idxOf_found hn hx h1], by simp [go_sem]⟩
  ·refine awp_skip ?_
   refine aR (by simp [go_sem, hx] <;> rfl) ?_
   exact next_intro (k + 1) σ.objs.length σ.toks.length 0 (⟨hlt, hn.succ hx h1⟩) (by omega) ⟨by simp [go_sem, hx, hw], rfl, by simp, by simp, by simp [go_sem, hx, hw], fun ob h => .inl (by simpa [go_sem, hx, hw] using h), by simp [go_sem]⟩
 ·have hke : k = l.length := by simp at h0; omega
  subst hke
  have hno := idxOf_none hn
  refine awp_exit ?_
  refine then_exit ?_
  refine then_exit ?_
  refine inBlock_hit ?_
  refine awp_seq (aR (by simp [go_sem] <;> rfl) ?_)
  refine awp_ret ?_
  refine ends_ret (by simp [go_sem] <;> rfl) (by simp [go_sem]) ?_
  exact ⟨by simp [go_sem, hno], by simp [go_sem]⟩

set_option maxHeartbeats 1000000 in
theorem c_Contains (l : List ByteArray) (hl : l.length ≤ 1000000000) (t : ByteArray) : Pur Tryz.prog (GL kr) 83 [.pv (.slice (l.map .str)), .pv (.str t)] (.pv (.bool (l.any fun x => decide (t = x)))) := by
 refine pur_of fun σ hgl => ?_
 refine acalls_of tyOk Tryz.func83 rfl (by simp [Tryz.f83]) ?_
 refine awp_seq (aR (by simp [go_sem] <;> rfl) ?_)
 refine awp_seq (awp_reg ?_)
 refine aL 2 (by simp [go_sem] <;> rfl) ?_
 refine aF call159 ((c_Index l hl t) _ (by exact hgl)) (by simp [go_sem] <;> rfl) (by simp [go_sem]) ?_
 refine aL 2 (by simp [go_sem] <;> rfl) ?_
 refine al_nil ?_
 refine awp_ret ?_
 refine ends_ret (by simp [go_sem] <;> rfl) (by simp [go_sem]) ?_
 exact ⟨by simp [go_sem, ← idxOf_any], by simp [go_sem]⟩

theorem gl_wd : lookupG (GL kr) 0 = some (.ptr [.map (wdK kr.wd) (wdV kr.wd)]) := by simp [GL, lookupG]
theorem gl_sh : lookupG (GL kr) 1 = some (.ptr [.map (shK kr.sh) (shV kr.sh)]) := by simp [GL, lookupG]

theorem gl_prim : lookupG (GL kr) 3 = some (.ptr [.slice (primL.map encPrim)]) := by simp [GL, lookupG]

end Go.Proofs.YtnibcmaaehkhlaaGreatDoor

namespace Go.Proofs.YtnibcmaaehkhlaaGreatDoor
open Go Go.Aw
variable {kr : KR}
set_option maxHeartbeats 1000000 in
theorem c_formed_1 (d : D) (h : Pur Tryz.prog (GL kr) 130 [.pv (enc d)] (.pv (.bool (formed d)))) : Pur Tryz.prog (GL kr) 205 [.pv (enc d)] (.pv (.bool (!formed d))) := by
 refine pur_of fun σ hgl => ?_
 refine acalls_of tyOk Tryz.func205 rfl (by simp [Tryz.f205]) ?_
 refine awp_seq (aR (by simp [go_sem] <;> rfl) ?_)
 refine awp_seq (awp_reg ?_)
 refine aL 1 (by simp [go_sem] <;> rfl) ?_
 refine aF call130 ((h) _ (by exact hgl)) (by simp [go_sem] <;> rfl) (by simp [go_sem]) ?_
 refine aL 2 (by simp [go_sem] <;> rfl) ?_
 refine al_nil ?_
 refine awp_ret ?_
 refine ends_ret (by simp [go_sem] <;> rfl) (by simp [go_sem]) ?_
 exact ⟨by simp [go_sem], by simp [go_sem]⟩

set_option maxHeartbeats 1000000 in
theorem c_datum_formed (d : D) (hd : d.size ≤ 1000000000) : Pur Tryz.prog (GL kr) 130 [.pv (enc d)] (.pv (.bool (formed d))) := by
 induction d using D.ind with
 | _ kind num text kids ih =>
 generalize hD : D.mk kind num text kids = d at *
 have hk : d.kids = kids := by rw [← hD]; rfl
 clear hD
 subst hk
 have hkl := D.kids_length_lt d
 refine pur_of fun σ hgl => ?_
 refine acalls_of tyOk Tryz.func130 rfl (by simp [Tryz.f130]) ?_
 refine awp_seq (aR (by simp [go_sem] <;> rfl) ?_)
 refine awp_seq (awp_seq (aR (by simp [go_sem] <;> rfl) ?_))
 refine awp_block ?_
 refine awp_seq (aR (by simp [go_sem] <;> rfl) ?_)
 refine awp_cond (by first | rfl | (simp [go_sem] <;> rfl)) (fun h0 => ?_) (fun h0 => ?_)
 ·refine awp_seq ?_
  refine awp_reg ?_
  refine aL 4 (by simp [go_sem] <;> rfl) ?_
  refine al_splitT 10 (by first | rfl | (simp [go_sem] <;> rfl)) (fun h1 => ?_) (fun h1 => ?_)
  ·refine aLG 4 10 true (by simp [go_sem] <;> rfl) ?_
   refine aL 2 (by simp [go_sem] <;> rfl) ?_
   refine al_nil ?_
   refine awp_ret ?_
   refine inBlock_ret ?_
   refine then_ret ?_
   refine ends_ret (by simp [go_sem] <;> rfl) (by simp [go_sem]) ?_
   have hs := formed_eq d
   simp only [Bool.not_true, h0, h1, bA, bB, bC, bD, bE, bF, bG, bH, bI, bJ, Bool.false_eq_true, if_true, if_false] at hs
   exact ⟨by simp [go_sem, hs], by simp [go_sem]⟩
  ·refine aK 4 10 true ?_
   refine aL 2 (by simp [go_sem] <;> rfl) ?_
   refine al_nil ?_
   refine awp_ret ?_
   refine inBlock_ret ?_
   refine then_ret ?_
   refine ends_ret (by simp [go_sem] <;> rfl) (by simp [go_sem]) ?_
   have hs := formed_eq d
   simp only [Bool.not_true, h0, h1, bA, bB, bC, bD, bE, bF, bG, bH, bI, bJ, Bool.false_eq_true, if_true, if_false] at hs
   exact ⟨by simp [go_sem, hs], by simp [go_sem]⟩
 ·refine awp_seq ?_
  refine aR (by simp [go_sem] <;> rfl) ?_
  refine awp_cond (by first | rfl | (simp [go_sem] <;> rfl)) (fun h2 => ?_) (fun h2 => ?_)
  ·refine awp_seq ?_
   refine awp_reg ?_
   refine aL 4 (by simp [go_sem] <;> rfl) ?_
   refine al_splitT 21 (by first | rfl | (simp [go_sem] <;> rfl)) (fun h3 => ?_) (fun h3 => ?_)
   ·refine aLG 4 21 true (by simp [go_sem] <;> rfl) ?_
    refine aL 2 (by simp [go_sem] <;> rfl) ?_
    refine al_splitT 27 (by first | rfl | (simp [go_sem] <;> rfl)) (fun h4 => ?_) (fun h4 => ?_)
    ·refine aLG 2 27 true (by simp [go_sem] <;> rfl) ?_
     refine al_fnG 27 true true (by simp [go_sem]) rfl (by simp [go_sem]) rfl rfl (by simp [go_sem] <;> rfl) call120 ((c_datum_IsSymbol d.text) _ (by exact hgl)) (by simp [go_sem] <;> rfl) (by simp [go_sem]) rfl rfl ?_
     refine aL 2 (by simp [go_sem] <;> rfl) ?_
     refine al_nil ?_
     refine awp_ret ?_
     refine inBlock_ret ?_
     refine then_ret ?_
     refine ends_ret (by simp [go_sem] <;> rfl) (by simp [go_sem]) ?_
     have hs := formed_eq d
     simp only [Bool.not_true, h0, h2, h3, h4, bA, bB, bC, bD, bE, bF, bG, bH, bI, bJ, Bool.false_eq_true, if_true, if_false] at hs
     exact ⟨by simp [go_sem, hs], by simp [go_sem]⟩
    ·refine aK 3 27 true ?_
     refine aL 2 (by simp [go_sem] <;> rfl) ?_
     refine al_nil ?_
     refine awp_ret ?_
     refine inBlock_ret ?_
     refine then_ret ?_
     refine ends_ret (by simp [go_sem] <;> rfl) (by simp [go_sem]) ?_
     have hs := formed_eq d
     simp only [Bool.not_true, h0, h2, h3, h4, bA, bB, bC, bD, bE, bF, bG, bH, bI, bJ, Bool.false_eq_true, if_true, if_false] at hs
     exact ⟨by simp [go_sem, hs], by simp [go_sem]⟩
   ·refine aK 4 21 true ?_
    refine aL 2 (by simp [go_sem] <;> rfl) ?_
    refine aK 3 27 true ?_
    refine aL 2 (by simp [go_sem] <;> rfl) ?_
    refine al_nil ?_
    refine awp_ret ?_
    refine inBlock_ret ?_
    refine then_ret ?_
    refine ends_ret (by simp [go_sem] <;> rfl) (by simp [go_sem]) ?_
    have hs := formed_eq d
    simp only [Bool.not_true, h0, h2, h3, bA, bB, bC, bD, bE, bF, bG, bH, bI, bJ, Bool.false_eq_true, if_true, if_false] at hs
    exact ⟨by simp [go_sem, hs], by simp [go_sem]⟩
  ·refine awp_seq ?_
   refine aR (by simp [go_sem] <;> rfl) ?_
   refine awp_cond (by first | rfl | (simp [go_sem] <;> rfl)) (fun h5 => ?_) (fun h5 => ?_)
   ·refine awp_seq ?_
    refine awp_reg ?_
    refine aL 4 (by simp [go_sem] <;> rfl) ?_
    refine al_splitT 37 (by first | rfl | (simp [go_sem] <;> rfl)) (fun h6 => ?_) (fun h6 => ?_)
    ·refine aLG 3 37 true (by simp [go_sem] <;> rfl) ?_
     refine aL 2 (by simp [go_sem] <;> rfl) ?_
     refine al_splitT 42 (by first | rfl | (simp [go_sem] <;> rfl)) (fun h7 => ?_) (fun h7 => ?_)
     ·refine aLG 2 42 true (by simp [go_sem] <;> rfl) ?_
      refine al_fnG 42 true true (by simp [go_sem]) rfl (by simp [go_sem]) rfl rfl (by simp [go_sem] <;> rfl) call199 (c_ContainsFunc d.kids (by omega) σ hgl 205 call205 [] rfl (fun x => !formed x) (fun x hx => c_formed_1 x (ih x hx (by have := D.size_kid_lt hx; omega)) σ hgl)) (by simp [go_sem] <;> rfl) (by simp [go_sem]) rfl rfl ?_
      refine aLG 1 42 true (by simp [go_sem] <;> rfl) ?_
      refine aL 2 (by simp [go_sem] <;> rfl) ?_
      refine al_nil ?_
      refine awp_ret ?_
      refine inBlock_ret ?_
      refine then_ret ?_
      refine ends_ret (by simp [go_sem] <;> rfl) (by simp [go_sem]) ?_
      have hs := formed_eq d
      simp only [Bool.not_true, h0, h2, h5, h6, h7, bA, bB, bC, bD, bE, bF, bG, bH, bI, bJ, Bool.false_eq_true, if_true, if_false] at hs
      exact ⟨by simp [go_sem, hs], by simp [go_sem]⟩
     ·refine aK 4 42 true ?_
      refine aL 2 (by simp [go_sem] <;> rfl) ?_
      refine al_nil ?_
      refine awp_ret ?_
      refine inBlock_ret ?_
      refine then_ret ?_
      refine ends_ret (by simp [go_sem] <;> rfl) (by simp [go_sem]) ?_
      have hs := formed_eq d
      simp only [Bool.not_true, h0, h2, h5, h6, h7, bA, bB, bC, bD, bE, bF, bG, bH, bI, bJ, Bool.false_eq_true, if_true, if_false] at hs
      exact ⟨by simp [go_sem, hs], by simp [go_sem]⟩
    ·refine aK 3 37 true ?_
     refine aL 2 (by simp [go_sem] <;> rfl) ?_
     refine aK 4 42 true ?_
     refine aL 2 (by simp [go_sem] <;> rfl) ?_
     refine al_nil ?_
     refine awp_ret ?_
     refine inBlock_ret ?_
     refine then_ret ?_
     refine ends_ret (by simp [go_sem] <;> rfl) (by simp [go_sem]) ?_
     have hs := formed_eq d
     simp only [Bool.not_true, h0, h2, h5, h6, bA, bB, bC, bD, bE, bF, bG, bH, bI, bJ, Bool.false_eq_true, if_true, if_false] at hs
     exact ⟨by simp [go_sem, hs], by simp [go_sem]⟩
   ·refine awp_skip ?_
    refine awp_seq (aR (by simp [go_sem] <;> rfl) ?_)
    refine awp_ret ?_
    refine ends_ret (by simp [go_sem] <;> rfl) (by simp [go_sem]) ?_
    have hs := formed_eq d
    simp only [Bool.not_true, h0, h2, h5, bA, bB, bC, bD, bE, bF, bG, bH, bI, bJ, Bool.false_eq_true, if_true, if_false] at hs
    exact ⟨by simp [go_sem, hs], by simp [go_sem]⟩

end Go.Proofs.YtnibcmaaehkhlaaGreatDoor

namespace Go.Proofs.YtnibcmaaehkhlaaGreatDoor
open Go Go.Aw
variable {kr : KR}
set_option maxHeartbeats 1000000 in
theorem c_own_acc (d : D) (hd : d.size ≤ 1000000000) : ∀ σ : Store, σ.gl = (GL kr) → ACalls Tryz.prog 62 [.pv (enc d)] σ (ownR 24 d σ) := by
 induction d using D.ind with
 | _ kind num text kids ih =>
 generalize hD : D.mk kind num text kids = d at *
 have hk : d.kids = kids := by rw [← hD]; rfl
 clear hD
 subst hk
 have hkl := D.kids_length_lt d
 intro σ hgl
 refine acalls_of tyOk Tryz.func62 rfl (by simp [Tryz.f62]) ?_
 refine awp_seq (aR (by simp [go_sem] <;> rfl) ?_)
 refine awp_seq (aR (by simp [go_sem] <;> rfl) ?_)
 refine awp_seq (awp_seq (aR (by simp [go_sem] <;> rfl) ?_))
 refine awp_adopt' 3 24 4 (by simp [go_sem] <;> rfl) ?_
 refine awp_block ?_
 refine awp_loop_headK σ.objs.length (σ.toks.length + 1) 2 [1, 2, 7, 8] (fun k : Nat => [(3, .acc ((d.kids.map enc).take k) σ.toks.length), (9, .pv (.int .i64 ↑k))]) (fun k => { σ with toks := σ.toks ++ [⟨k, 24, 4⟩] }) (fun k => k ≤ d.kids.length) (fun k => d.kids.length - k) 0 (Nat.zero_le _) ⟨by simp [go_sem], rfl, by simp, by simp, by simp [go_sem], fun ob h => .inl (by simpa [go_sem] using h), by simp [go_sem]⟩ ?_
 intro k hk
 refine awp_seq (aR (by simp [go_sem] <;> rfl) ?_)
 refine awp_seq (awp_cond (by first | rfl | (simp [go_sem] <;> rfl)) (fun h0 => ?_) (fun h0 => ?_))
 ·have hlt : k < d.kids.length := by simp at h0; omega
  have hw : IntKind.i64.wrap (↑k + 1) = (k : Int) + 1 := wrap_succ (by omega)
  obtain ⟨x, hx, hxm⟩ := get_lt hlt
  have hxs := D.size_kid_lt hxm
  have ht : (d.kids.map enc).take (k + 1) = (d.kids.map enc).take k ++ [enc x] := take_next (by simp [hx])
  have hm : min k d.kids.length = k := by omega
  have hb : (k + 1) * 56 ≤ 140737488355328 := by omega
  refine awp_skip ?_
  refine awp_seq (awp_block ?_)
  refine awp_seq (aR (by simp [go_sem, hx, hm, hb] <;> rfl) ?_)
  refine awp_reg ?_
  refine aL 2 (by simp [go_sem, hx, hm, hb] <;> rfl) ?_
  refine al_callW rfl rfl rfl (by simp [go_sem, hx, hm, hb] <;> rfl) call62 (ih x hxm (by omega) _ hgl) (by simp [go_sem, hx, hm, hb] <;> rfl) (by simp [go_sem, hx, hm, hb]) rfl rfl ?_
  rintro r σ' ⟨rfl, rfl⟩
  refine aL 3 (by simp [go_sem, hx, hm, hb] <;> rfl) ?_
  refine al_nil ?_
  refine aR (by simp [go_sem, hx, hm, hb] <;> rfl) ?_
  exact next_intro (k + 1) σ.objs.length (σ.toks.length + 1) 2 (hlt) (by omega) ⟨by simp [go_sem, hx, hm, hb, hw, ht], rfl, by simp, by simp, by simp [go_sem, hx, hm, hb, hw, ht], fun ob h => .inl (by simpa [go_sem, hx, hm, hb, hw, ht] using h), by simp [go_sem]⟩
 ·have hke : k = d.kids.length := by simp at h0; omega
  subst hke
  refine awp_exit ?_
  refine then_exit ?_
  refine then_exit ?_
  refine inBlock_hit ?_
  refine awp_seq (aR (by simp [go_sem] <;> rfl) ?_)
  refine awp_seq (aR (by simp [go_sem] <;> rfl) ?_)
  refine awp_ret ?_
  refine ends_ret (by simp [go_sem] <;> rfl) (by simp [go_sem]) ?_
  simp [ownR, go_sem, take_all]

theorem c_own (d : D) (hd : d.size ≤ 1000000000) : Pur Tryz.prog (GL kr) 62 [.pv (enc d)] (.pv (enc d)) := by
  intro σ hgl
  refine (c_own_acc d hd σ hgl).less ?_
  rintro r σ' ⟨rfl, rfl⟩
  exact ⟨σ.objs.length, σ.toks.length, _, by simp [go_sem], Nat.le_refl _, Nat.le_refl _, fun ob h => .inl (by simpa using h), rfl, by simp [Store.cut]⟩

end Go.Proofs.YtnibcmaaehkhlaaGreatDoor

namespace Go.Proofs.YtnibcmaaehkhlaaGreatDoor
open Go Go.Aw
variable {kr : KR}
set_option maxHeartbeats 1000000 in
theorem c_Clip (l : List ByteArray) : Pur Tryz.prog (GL kr) 196 [.pv (.slice (l.map .str))] (.full (l.map .str)) := by
 refine pur_of fun σ hgl => ?_
 refine acalls_of tyOk Tryz.func196 rfl (by simp [Tryz.f196]) ?_
 refine awp_seq (aR (by simp [go_sem, allSz_str] <;> rfl) ?_)
 refine awp_seq (aR (by simp [go_sem, allSz_str] <;> rfl) ?_)
 refine awp_ret ?_
 refine ends_ret (by simp [go_sem, allSz_str] <;> rfl) (by simp [go_sem]) ?_
 exact ⟨by simp [go_sem, allSz_str], by simp [go_sem]⟩

set_option maxHeartbeats 1000000 in
theorem c_prim_Arity (s : ByteArray) : Pur Tryz.prog (GL kr) 198 [.pv (.str s)] (.tuple [.pv (.int .i64 (arity s).1), .pv (.bool (arity s).2)]) := by
 refine pur_of fun σ hgl => ?_
 refine acalls_of tyOk Tryz.func198 rfl (by simp [Tryz.f198]) ?_
 refine awp_seq (aR (by simp [go_sem] <;> rfl) ?_)
 refine awp_seq ?_
 refine awp_seq ?_
 have hg0 : lookupG σ.gl 3 = some (.ptr [.slice (primL.map encPrim)]) := by rw [hgl]; exact gl_prim
 refine aR (by simp [go_sem, hg0, encPrim_cells] <;> rfl) ?_
 refine awp_block ?_
 refine awp_loop_headK σ.objs.length σ.toks.length 0 [0, 2, 3, 6, 7] (fun k : Nat => [(8, .pv (.int .i64 ↑k))]) (fun k => σ) (fun k => k ≤ primL.length ∧ NotYet (fun p => decide (p.1 = s)) primL k) (fun k => primL.length - k) 0 (⟨Nat.zero_le _, .zero⟩) ⟨by simp [go_sem, hg0, encPrim_cells], rfl, by simp, by simp, by simp [go_sem, hg0, encPrim_cells], fun ob h => .inl (by simpa [go_sem, hg0, encPrim_cells] using h), by simp [go_sem]⟩ ?_
 rintro k ⟨hk, hn⟩
 have hpl := primL_length
 refine awp_seq (aR (by simp [go_sem, hg0, encPrim_cells] <;> rfl) ?_)
 refine awp_seq (awp_cond (by first | rfl | (simp [go_sem, hg0, encPrim_cells] <;> rfl)) (fun h0 => ?_) (fun h0 => ?_))
 ·have hlt : k < primL.length := by simp at h0; omega
  have hw : IntKind.i64.wrap (↑k + 1) = (k : Int) + 1 := wrap_succ (by omega)
  obtain ⟨x, hx, hxm⟩ := get_lt hlt
  refine awp_skip ?_
  refine awp_seq (awp_block ?_)
  refine awp_seq (aR (by simp [go_sem, hg0, encPrim_cells, hx] <;> rfl) ?_)
  refine awp_seq (aR (by simp [go_sem, hg0, encPrim_cells, hx] <;> rfl) ?_)
  refine awp_cond (by first | rfl | (simp [go_sem, hg0, encPrim_cells, hx] <;> rfl)) (fun h1 => ?_) (fun h1 => ?_)
  ·refine awp_seq ?_
   refine aR (by simp [go_sem, hg0, encPrim_cells, hx] <;> rfl) ?_
   refine awp_ret ?_
   refine inBlock_ret ?_
   refine then_ret ?_
   refine then_ret ?_
   refine inBlock_ret ?_
   refine then_ret ?_
   refine ends_ret (by simp [go_sem] <;> rfl) (by simp [go_sem]) ?_
   have hs := arity_found hn hx h1
   exact ⟨by simp [go_sem, hs], by simp [go_sem]⟩
  ·refine awp_skip ?_
   refine aR (by simp [go_sem, hg0, encPrim_cells, hx] <;> rfl) ?_
   exact next_intro (k + 1) σ.objs.length σ.toks.length 0 (⟨hlt, hn.succ hx h1⟩) (by omega) ⟨by simp [go_sem, hg0, encPrim_cells, hx, hw], rfl, by simp, by simp, by simp [go_sem, hg0, encPrim_cells, hx, hw], fun ob h => .inl (by simpa [go_sem, hg0, encPrim_cells, hx, hw] using h), by simp [go_sem]⟩
 ·have hke : k = primL.length := by simp at h0; omega
  subst hke
  refine awp_exit ?_
  refine then_exit ?_
  refine then_exit ?_
  refine inBlock_hit ?_
  refine awp_seq (aR (by simp [go_sem, hg0, encPrim_cells] <;> rfl) ?_)
  refine awp_ret ?_
  refine ends_ret (by simp [go_sem] <;> rfl) (by simp [go_sem]) ?_
  have hs := arity_none hn
  exact ⟨by simp [go_sem, hs], by simp [go_sem]⟩

end Go.Proofs.YtnibcmaaehkhlaaGreatDoor

namespace Go.Proofs.YtnibcmaaehkhlaaGreatDoor
open Go Go.Aw
variable {kr : KR}
set_option maxHeartbeats 1000000 in
theorem c_Parts_1 (d : D) (po n cap oc : Nat) (c : Int) (σ : Store) (hgl : σ.gl = (GL kr)) (hn : n ≤ 1000000000) (hoc : σ.objs[oc]? = some (.box [.pv (.int .i64 c)])) : ACalls Tryz.prog 207 [.pv (enc d), .scr po n cap, .ptr oc 0] σ (EachR oc (stParts c n) σ) := by
 refine acalls_of tyOk Tryz.func207 rfl (by simp [Tryz.f207]) ?_
 refine awp_seq (aR (by simp [go_sem, hoc] <;> rfl) ?_)
 refine awp_seq (aR (by simp [go_sem, hoc] <;> rfl) ?_)
 refine awp_seq (aR (by simp [go_sem, hoc] <;> rfl) ?_)
 refine awp_ret ?_
 refine ends_ret (by simp [go_sem] <;> rfl) (by simp [go_sem]) ?_
 exact ⟨by simp [go_sem], by simp [setC, stParts, stDeep, go_sem]⟩

set_option maxHeartbeats 1000000 in
theorem c_Deep_1 (d : D) (po n cap oc : Nat) (c : Int) (σ : Store) (hgl : σ.gl = (GL kr)) (hn : n ≤ 1000000000) (hoc : σ.objs[oc]? = some (.box [.pv (.int .i64 c)])) : ACalls Tryz.prog 208 [.pv (enc d), .scr po n cap, .ptr oc 0] σ (EachR oc (stDeep c n) σ) := by
 refine acalls_of tyOk Tryz.func208 rfl (by simp [Tryz.f208]) ?_
 refine awp_seq (aR (by simp [go_sem, hoc] <;> rfl) ?_)
 refine awp_seq (aR (by simp [go_sem, hoc] <;> rfl) ?_)
 refine awp_seq (aR (by simp [go_sem, hoc] <;> rfl) ?_)
 refine awp_ret ?_
 refine ends_ret (by simp [go_sem] <;> rfl) (by simp [go_sem]) ?_
 exact ⟨by simp [go_sem], by simp [setC, stParts, stDeep, go_sem]⟩

set_option maxHeartbeats 1000000 in
theorem c_each (fy : FuncId) (hcy : Callable Tryz.prog fy) (st : Int → Nat → Int) (hy : ∀ (d : D) (po n cap oc : Nat) (c : Int) (σ : Store) (hgl : σ.gl = (GL kr)) (hn : n ≤ 1000000000) (hoc : σ.objs[oc]? = some (.box [.pv (.int .i64 c)])), ACalls Tryz.prog fy [.pv (enc d), .scr po n cap, .ptr oc 0] σ (EachR oc (st c n) σ)) (d : D) : ∀ (po n cap oc : Nat) (c : Int) (σ : Store) (hgl : σ.gl = (GL kr)) (hn : n + d.size ≤ 1000000000) (hp : PathAt σ (.scr po n cap) n) (hoc : σ.objs[oc]? = some (.box [.pv (.int .i64 c)])), ACalls Tryz.prog 206 [.pv (enc d), .scr po n cap, .func (.func fy) [.ptr oc 0]] σ (EachR oc (eachF st c n d) σ) := by
 induction d using D.ind with
 | _ kind num text kids ih =>
 generalize hD : D.mk kind num text kids = d at *
 have hk : d.kids = kids := by rw [← hD]; rfl
 clear hD
 subst hk
 have hkl := D.kids_length_lt d
 intro po n cap oc c σ hgl hn hp hoc
 have hol := (List.getElem?_eq_some_iff.1 hoc).1
 refine acalls_ofC tyOk Tryz.func206 rfl (by simp [Tryz.f206]) (by simp [go_sem]) fun hclo => ?_
 simp [go_sem] at hclo
 refine awp_seq (aR (by simp [go_sem, hclo, hol] <;> rfl) ?_)
 refine awp_seq (awp_seq (awp_reg ?_))
 refine aL 3 (by simp [go_sem, hclo, hol] <;> rfl) ?_
 refine al_callW rfl rfl rfl (by simp [go_sem, hclo, hol] <;> rfl) hcy (hy d po n cap oc c σ hgl (by omega) hoc) (by simp [go_sem, hclo, hol] <;> rfl) (by simp [go_sem, hclo, hol]) rfl rfl ?_
 rintro r σ' ⟨rfl, rfl⟩
 refine aL 1 (by simp [go_sem, hclo, hol] <;> rfl) ?_
 refine al_nil ?_
 refine awp_cond (b := false) (by simp [go_sem, hclo, hol]) (fun h => ?_) (fun h => ?_)
 ·cases h
 refine awp_skip ?_
 refine awp_seq (awp_seq (aR (by simp [go_sem, hclo, hol] <;> rfl) ?_))
 refine awp_block ?_
 refine awp_loop_headK σ.objs.length σ.toks.length 1 [1, 2, 6, 15, 16] (fun k : Nat => [(17, .pv (.int .i64 ↑k))]) (fun k => setC σ oc (eachFs st (st c n) (n + 1) (d.kids.take k))) (fun k => k ≤ d.kids.length) (fun k => d.kids.length - k) 0 (Nat.zero_le _) ⟨by show setC σ oc _ = _; rw [List.take_zero, eachFs]; exact setC_cut.symm, rfl, by simp, by simp, by simp [go_sem, hclo, hol], fun ob h => setC_mem h _ _ _, by simp [go_sem]⟩ ?_
 intro k hk
 refine awp_seq (aR (by simp [go_sem, hclo, hol] <;> rfl) ?_)
 refine awp_seq (awp_cond (by first | rfl | (simp [go_sem, hclo, hol] <;> rfl)) (fun h0 => ?_) (fun h0 => ?_))
 ·have hlt : k < d.kids.length := by simp at h0; omega
  have hw : IntKind.i64.wrap (↑k + 1) = (k : Int) + 1 := wrap_succ (by omega)
  obtain ⟨x, hx, hxm⟩ := get_lt hlt
  have hxs := D.size_kid_lt hxm
  have ht : eachFs st (st c n) (n + 1) (d.kids.take (k + 1)) = eachF st (eachFs st (st c n) (n + 1) (d.kids.take k)) (n + 1) x := by rw [take_next hx, eachFs_snoc]
  have hbn : (n + 1) * 8 ≤ 140737488355328 := by omega
  refine awp_skip ?_
  refine awp_seq (awp_block ?_)
  refine awp_seq (aR (by simp [go_sem, hclo, hol, hx] <;> rfl) ?_)
  refine awp_seq (awp_regDP tyOk tySz 6 (by kernel_rfl) (by decide) ?_)
  refine ul_run 4 (by simp [go_sem, hclo, hol, hx] <;> rfl) ?_
  refine ul_path rfl (by simp [go_sem, hbn] <;> rfl) rfl (PathAt.setC hp hoc) ?_
  rintro x' objs' hobjs hpx
  obtain ⟨po', cap', rfl⟩ := hpx.scr
  refine ul_run 1 (by simp [go_sem, hclo, hol, hx] <;> rfl) ?_
  refine ul_nil ?_
  refine al_callW rfl rfl rfl (by simp [go_sem, hclo, hol, hx] <;> rfl) call206 (ih x hxm po' (n + 1) cap' oc _ _ (by exact hgl) (by omega) hpx (path_get hobjs (setC_get hoc))) (by simp [go_sem, hclo, hol, hx] <;> rfl) (by simp [go_sem, hclo, hol, hx]) rfl rfl ?_
  rintro r σ' ⟨rfl, rfl⟩
  refine aL 1 (by simp [go_sem, hclo, hol, hx] <;> rfl) ?_
  refine al_nil ?_
  refine awp_cond (b := false) (by simp [go_sem, hclo, hol, hx, h0]) (fun h => ?_) (fun h => ?_)
  ·cases h
  refine awp_skip ?_
  refine aR (by simp [go_sem, hclo, hol, hx] <;> rfl) ?_
  exact next_intro (k + 1) σ.objs.length σ.toks.length 1 (hlt) (by omega) ⟨by show setC σ oc _ = _; rw [ht]; exact (setC_path hol hobjs).symm, rfl, by simp, by simp, by simp [go_sem, hclo, hol, hx, hw], fun ob h => setC_mem h _ _ _, by simp [go_sem]⟩
 ·have hke : k = d.kids.length := by simp at h0; omega
  subst hke
  have hta : d.kids.take d.kids.length = d.kids := List.take_length
  refine awp_exit ?_
  refine then_exit ?_
  refine then_exit ?_
  refine inBlock_hit ?_
  refine awp_seq (aR (by simp [go_sem, hclo, hol] <;> rfl) ?_)
  refine awp_ret ?_
  refine ends_ret (by simp [go_sem] <;> rfl) (by simp [go_sem]) ?_
  exact ⟨by simp [go_sem], by simp [go_sem, eachF_eq, hta]⟩

set_option maxHeartbeats 1000000 in
theorem c_datum_Parts (d : D) (hd : d.size ≤ 1000000000) : Pur Tryz.prog (GL kr) 131 [.pv (enc d)] (.pv (.int .i64 d.size)) := by
 refine pur_of fun σ hgl => ?_
 refine acalls_of tyOk Tryz.func131 rfl (by simp [Tryz.f131]) ?_
 refine awp_seq (aR (by simp [go_sem] <;> rfl) ?_)
 refine awp_seq (awp_region_run (sh := [3]) tyOk (by simp [go_sem] <;> rfl) ?_)
 refine awp_seq (awp_reg ?_)
 refine aL 2 (by simp [go_sem] <;> rfl) ?_
 refine al_callW rfl rfl rfl (by simp [go_sem] <;> rfl) call206 (c_each 207 call207 stParts (fun d po n cap oc c σ hgl hn hoc => c_Parts_1 d po n cap oc c σ hgl hn hoc) d 0 0 0 σ.objs.length 0 _ (by exact hgl) (by omega) (.inl ⟨0, rfl, rfl⟩) (by simp [go_sem])) (by simp [go_sem] <;> rfl) (by simp [go_sem]) rfl rfl ?_
 rintro r σ' ⟨rfl, rfl⟩
 refine al_nil ?_
 refine awp_seq (aR (by simp [go_sem, setC_new_get, setC_new_cut] <;> rfl) ?_)
 refine awp_ret ?_
 have hv : eachF stParts 0 0 d = (d.size : Int) := by have := eachF_parts d 0 0 (by omega); simpa using this
 refine ends_ret (by simp [go_sem, setC_new_get] <;> rfl) (by simp [go_sem]) ?_
 exact ⟨by simp [go_sem]; exact hv, setC_new_cut⟩

set_option maxHeartbeats 1000000 in
theorem c_datum_Deep (d : D) (hd : d.size ≤ 1000000000) : Pur Tryz.prog (GL kr) 132 [.pv (enc d)] (.pv (.int .i64 d.deep)) := by
 have hdd := D.deep_le_size d
 refine pur_of fun σ hgl => ?_
 refine acalls_of tyOk Tryz.func132 rfl (by simp [Tryz.f132]) ?_
 refine awp_seq (aR (by simp [go_sem] <;> rfl) ?_)
 refine awp_seq (awp_region_run (sh := [3]) tyOk (by simp [go_sem] <;> rfl) ?_)
 refine awp_seq (awp_reg ?_)
 refine aL 2 (by simp [go_sem] <;> rfl) ?_
 refine al_callW rfl rfl rfl (by simp [go_sem] <;> rfl) call206 (c_each 208 call208 stDeep (fun d po n cap oc c σ hgl hn hoc => c_Deep_1 d po n cap oc c σ hgl hn hoc) d 0 0 0 σ.objs.length 0 _ (by exact hgl) (by omega) (.inl ⟨0, rfl, rfl⟩) (by simp [go_sem])) (by simp [go_sem] <;> rfl) (by simp [go_sem]) rfl rfl ?_
 rintro r σ' ⟨rfl, rfl⟩
 refine al_nil ?_
 refine awp_seq (aR (by simp [go_sem, setC_new_get, setC_new_cut] <;> rfl) ?_)
 refine awp_ret ?_
 have hv : eachF stDeep 0 0 d = (d.deep : Int) := by have := eachF_deep d 0 0 (by omega); simpa using this
 refine ends_ret (by simp [go_sem, setC_new_get] <;> rfl) (by simp [go_sem]) ?_
 exact ⟨by simp [go_sem]; exact hv, setC_new_cut⟩

set_option maxHeartbeats 1000000 in
theorem c_datum_Check (d : D) (hd : d.size ≤ 1000000000) : Pur Tryz.prog (GL kr) 63 [.pv (enc d)] (.pv (.int .i64 (dcheck d))) := by
 refine pur_of fun σ hgl => ?_
 refine acalls_of tyOk Tryz.func63 rfl (by simp [Tryz.f63]) ?_
 refine awp_seq (aR (by simp [go_sem] <;> rfl) ?_)
 refine awp_seq (awp_block ?_)
 refine awp_seq (awp_reg ?_)
 refine aL 1 (by simp [go_sem] <;> rfl) ?_
 refine aF call130 ((c_datum_formed d hd) _ (by exact hgl)) (by simp [go_sem] <;> rfl) (by simp [go_sem]) ?_
 refine aL 2 (by simp [go_sem] <;> rfl) ?_
 refine al_nil ?_
 refine awp_cond (by first | rfl | (simp [go_sem] <;> rfl)) (fun h0 => ?_) (fun h0 => ?_)
 ·refine awp_seq ?_
  refine aR (by simp [go_sem] <;> rfl) ?_
  refine awp_ret ?_
  refine inBlock_ret ?_
  refine then_ret ?_
  refine ends_ret (by simp [go_sem] <;> rfl) (by simp [go_sem]) ?_
  exact ⟨by simp only [dcheck, h0, bA, bB, bC, bD, bE, bF, bG, bH, bI, bJ, Bool.false_eq_true, if_true, if_false]; simp [go_sem], by simp [go_sem]⟩
 ·refine awp_seq ?_
  refine awp_reg ?_
  refine aL 1 (by simp [go_sem] <;> rfl) ?_
  refine aF call131 ((c_datum_Parts d hd) _ (by exact hgl)) (by simp [go_sem] <;> rfl) (by simp [go_sem]) ?_
  refine aL 2 (by simp [go_sem] <;> rfl) ?_
  refine al_splitT 11 (by first | rfl | (simp [go_sem] <;> rfl)) (fun h1 => ?_) (fun h1 => ?_)
  ·refine aK 3 11 false ?_
   refine aL 2 (by simp [go_sem] <;> rfl) ?_
   refine al_nil ?_
   refine awp_cond (b := true) (by simp [go_sem, h0, h1]) (fun h => ?_) (fun h => ?_)
   rotate_left
   ·cases h
   refine awp_seq (aR (by simp [go_sem] <;> rfl) ?_)
   refine awp_ret ?_
   refine inBlock_ret ?_
   refine then_ret ?_
   refine ends_ret (by simp [go_sem] <;> rfl) (by simp [go_sem]) ?_
   exact ⟨by simp only [dcheck, h0, h1, bA, bB, bC, bD, bE, bF, bG, bH, bI, bJ, Bool.false_eq_true, if_true, if_false]; simp [go_sem], by simp [go_sem]⟩
  ·refine aLG 1 11 false (by simp [go_sem] <;> rfl) ?_
   refine al_fnG 11 false false (by simp [go_sem]) rfl (by simp [go_sem]) rfl rfl (by simp [go_sem] <;> rfl) call132 ((c_datum_Deep d hd) _ (by exact hgl)) (by simp [go_sem] <;> rfl) (by simp [go_sem]) rfl rfl ?_
   refine aLG 1 11 false (by simp [go_sem] <;> rfl) ?_
   refine aL 2 (by simp [go_sem] <;> rfl) ?_
   refine al_nil ?_
   refine awp_cond (by first | rfl | (simp [go_sem] <;> rfl)) (fun h2 => ?_) (fun h2 => ?_)
   ·refine awp_seq ?_
    refine aR (by simp [go_sem] <;> rfl) ?_
    refine awp_ret ?_
    refine inBlock_ret ?_
    refine then_ret ?_
    refine ends_ret (by simp [go_sem] <;> rfl) (by simp [go_sem]) ?_
    exact ⟨by simp only [dcheck, h0, h1, h2, bA, bB, bC, bD, bE, bF, bG, bH, bI, bJ, Bool.false_eq_true, if_true, if_false]; simp [go_sem], by simp [go_sem]⟩
   ·refine awp_skip ?_
    refine awp_seq (aR (by simp [go_sem] <;> rfl) ?_)
    refine awp_ret ?_
    refine ends_ret (by simp [go_sem] <;> rfl) (by simp [go_sem]) ?_
    exact ⟨by simp only [dcheck, h0, h1, h2, bA, bB, bC, bD, bE, bF, bG, bH, bI, bJ, Bool.false_eq_true, if_true, if_false]; simp [go_sem], by simp [go_sem]⟩

end Go.Proofs.YtnibcmaaehkhlaaGreatDoor

namespace Go.Proofs.YtnibcmaaehkhlaaGreatDoor
open Go Go.Aw
variable {kr : KR}
set_option maxHeartbeats 1000000 in
theorem c_mName (d : D) : Pur Tryz.prog (GL kr) 220 [.pv (enc d)] (.pv (.bool (mName d))) := by
 refine pur_of fun σ hgl => ?_
 refine acalls_of tyOk Tryz.func220 rfl (by simp [Tryz.f220]) ?_
 refine awp_seq (aR (by simp [go_sem] <;> rfl) ?_)
 refine awp_seq (awp_reg ?_)
 refine aL 4 (by simp [go_sem] <;> rfl) ?_
 refine al_splitT 6 (by first | rfl | (simp [go_sem] <;> rfl)) (fun h0 => ?_) (fun h0 => ?_)
 ·refine aLG 3 6 true (by simp [go_sem] <;> rfl) ?_
  refine al_fnG 6 true true (by simp [go_sem]) rfl (by simp [go_sem]) rfl rfl (by simp [go_sem] <;> rfl) call83 ((c_Contains words7 (by decide) d.text) _ (by exact hgl)) (by simp [go_sem] <;> rfl) (by simp [go_sem, words7]) rfl rfl ?_
  refine aLG 1 6 true (by simp [go_sem] <;> rfl) ?_
  refine aL 2 (by simp [go_sem] <;> rfl) ?_
  refine al_nil ?_
  refine awp_ret ?_
  refine ends_ret (by simp [go_sem] <;> rfl) (by simp [go_sem]) ?_
  exact ⟨by simp only [mName, any_comm, h0, bA, bB, bC, bD, bE, bF, bG, bH, bI, bJ, Bool.false_eq_true, if_true, if_false]; simp [go_sem], by simp [go_sem]⟩
 ·refine aK 5 6 true ?_
  refine aL 2 (by simp [go_sem] <;> rfl) ?_
  refine al_nil ?_
  refine awp_ret ?_
  refine ends_ret (by simp [go_sem] <;> rfl) (by simp [go_sem]) ?_
  exact ⟨by simp only [mName, any_comm, h0, bA, bB, bC, bD, bE, bF, bG, bH, bI, bJ, Bool.false_eq_true, if_true, if_false]; simp [go_sem], by simp [go_sem]⟩

set_option maxHeartbeats 1000000 in
theorem c_Is (d : D) (w : ByteArray) (hd : d.kind = 3 → d.kids ≠ []) : Pur Tryz.prog (GL kr) 147 [.pv (enc d), .pv (.str w)] (.pv (.bool (isW d w))) := by
 refine pur_of fun σ hgl => ?_
 refine acalls_of tyOk Tryz.func147 rfl (by simp [Tryz.f147]) ?_
 refine awp_seq (aR (by simp [go_sem] <;> rfl) ?_)
 refine awp_seq (awp_reg ?_)
 refine aL 4 (by simp [go_sem] <;> rfl) ?_
 refine al_splitT 8 (by first | rfl | (simp [go_sem] <;> rfl)) (fun h0 => ?_) (fun h0 => ?_)
 ·obtain ⟨x0, r, hx⟩ := kids_cons (hd (by simpa using h0))
  have hx0 : d.kids[0]? = some x0 := by rw [hx]; rfl
  have hh := head_cons hx
  refine aLG 7 8 true (by simp [go_sem, hx0] <;> rfl) ?_
  refine aL 2 (by simp [go_sem, hx0] <;> rfl) ?_
  refine al_nil ?_
  refine awp_ret ?_
  refine ends_ret (by simp [go_sem, hx0] <;> rfl) (by simp [go_sem]) ?_
  exact ⟨by simp only [isW, hx0, h0, hh, bA, bB, bC, bD, bE, bF, bG, bH, bI, bJ, Bool.false_eq_true, if_true, if_false]; simp [go_sem], by simp [go_sem]⟩
 ·refine aK 7 8 true ?_
  refine aL 2 (by simp [go_sem] <;> rfl) ?_
  refine al_nil ?_
  refine awp_ret ?_
  refine ends_ret (by simp [go_sem] <;> rfl) (by simp [go_sem]) ?_
  exact ⟨by simp only [isW, h0, bA, bB, bC, bD, bE, bF, bG, bH, bI, bJ, Bool.false_eq_true, if_true, if_false]; simp [go_sem], by simp [go_sem]⟩

set_option maxHeartbeats 1000000 in
theorem c_Inner (d : D) (hd : d.kind = 3 → d.kids ≠ []) (hn : d.kind = 3 → d.head.text ≠ sQuote → 1 + shN d.head.text ≤ d.kids.length) : Pur Tryz.prog (GL kr) 149 [.pv (enc d)] (.pv (.slice ((inner d).map enc))) := by
 have hls := fun (s : St) (x : ByteArray) (ok : Bool) => look_sh (S := kr) (ty := ty) (s := s) (t := 222) (x := x) (ok := ok) rfl rfl rfl rfl rfl rfl rfl
 refine pur_of fun σ hgl => ?_
 refine acalls_of tyOk Tryz.func149 rfl (by simp [Tryz.f149]) ?_
 refine awp_seq (aR (by simp [go_sem] <;> rfl) ?_)
 refine awp_seq (awp_seq (awp_reg ?_))
 refine aL 4 (by simp [go_sem] <;> rfl) ?_
 refine al_splitT 6 (by first | rfl | (simp [go_sem] <;> rfl)) (fun h0 => ?_) (fun h0 => ?_)
 ·refine aK 6 6 false ?_
  refine aL 1 (by simp [go_sem] <;> rfl) ?_
  refine al_nil ?_
  refine awp_cond (b := true) (by simp [go_sem, h0]) (fun h => ?_) (fun h => ?_)
  rotate_left
  ·cases h
  refine awp_seq (aR (by simp [go_sem] <;> rfl) ?_)
  refine awp_ret ?_
  refine then_ret ?_
  refine ends_ret (by simp [go_sem] <;> rfl) (by simp [go_sem]) ?_
  exact ⟨by simp only [inner_eq, eQuote, List.map_drop, h0, bA, bB, bC, bD, bE, bF, bG, bH, bI, bJ, Bool.false_eq_true, if_true, if_false]; simp [go_sem], by simp [go_sem]⟩
 ·obtain ⟨x0, r, hx⟩ := kids_cons (hd (by simpa using h0))
  have hx0 : d.kids[0]? = some x0 := by rw [hx]; rfl
  have hh := head_cons hx
  refine aLG 6 6 false (by simp [go_sem, hx0] <;> rfl) ?_
  refine aL 1 (by simp [go_sem, hx0] <;> rfl) ?_
  refine al_nil ?_
  refine awp_cond (by first | rfl | (simp [go_sem, hx0] <;> rfl)) (fun h1 => ?_) (fun h1 => ?_)
  ·refine awp_seq ?_
   refine aR (by simp [go_sem, hx0] <;> rfl) ?_
   refine awp_ret ?_
   refine then_ret ?_
   refine ends_ret (by simp [go_sem, hx0] <;> rfl) (by simp [go_sem]) ?_
   exact ⟨by simp only [inner_eq, eQuote, List.map_drop, hx0, h0, hh, h1, bA, bB, bC, bD, bE, bF, bG, bH, bI, bJ, Bool.false_eq_true, if_true, if_false]; simp [go_sem], by simp [go_sem]⟩
  ·have hnq : d.head.text ≠ sQuote := by rw [hh]; exact of_decide_eq_false h1
   have hk3 : d.kind = 3 := by simpa using h0
   have hlen := hn hk3 hnq
   rw [hh] at hlen
   have hsh : ((shp x0.text).getD (0, 0)).1 = shN x0.text := shN_getD
   have hs2 := shN_le x0.text
   have hwr : IntKind.i64.wrap (1 + (shN x0.text : Int)) = 1 + (shN x0.text : Int) := wrap_id (by omega) (by omega)
   have hle : 1 + (shN x0.text : Int) ≤ d.kids.length := by omega
   have h0le : (0 : Int) ≤ 1 + (shN x0.text : Int) := by omega
   have htn : (1 + (shN x0.text : Int)).toNat = 1 + shN x0.text := by omega
   refine awp_skip ?_
   refine awp_seq ?_
   have hgs : lookupG σ.gl 1 = some (.ptr [.map (shK kr) (shV kr)]) := by rw [hgl]; exact gl_sh
   refine awp_regDP tyOk tySz 11 (by kernel_rfl) (by decide) ?_
   refine ul_run 11 (by simp [go_sem, hx0, hsh, hwr, hle, h0le, htn, hgs, hls, encSh, okAV] <;> rfl) ?_
   refine ul_nil ?_
   refine aL 2 (by simp [go_sem, hx0, hsh, hwr, hle, h0le, htn, hgs, hls, encSh, okAV] <;> rfl) ?_
   refine al_nil ?_
   refine awp_ret ?_
   refine ends_ret (by simp [go_sem, hx0, hsh, hwr, hle, h0le, htn, hgs, hls, encSh, okAV] <;> rfl) (by simp [go_sem]) ?_
   exact ⟨by simp only [inner_eq, eQuote, List.map_drop, hx0, hsh, hwr, hle, h0le, htn, hgs, hls, encSh, okAV, h0, hh, h1, bA, bB, bC, bD, bE, bF, bG, bH, bI, bJ, Bool.false_eq_true, if_true, if_false]; simp [go_sem], by simp [go_sem]⟩

end Go.Proofs.YtnibcmaaehkhlaaGreatDoor

namespace Go.Proofs.YtnibcmaaehkhlaaGreatDoor
open Go Go.Aw
variable {kr : KR}
set_option maxHeartbeats 1000000 in
theorem c_BackMake (xs : List PV) (σ : Store) : ACalls Tryz.prog 223 [.pv (.slice xs)] σ (fun r σ' => r = .func (.func 252) [.ptr σ.objs.length 0] ∧ σ' = { σ with objs := σ.objs ++ [.box [.pv (.slice xs)]] }) := by
 refine acalls_of tyOk Tryz.func223 rfl (by simp [Tryz.f223]) ?_
 refine awp_seq (awp_region_run (sh := [1]) tyOk (by simp [go_sem] <;> rfl) ?_)
 refine awp_seq (aR (by simp [go_sem] <;> rfl) ?_)
 refine awp_ret ?_
 refine ends_ret (by simp [go_sem] <;> rfl) (by simp [go_sem]) ?_
 exact ⟨by simp [go_sem], by simp [go_sem]⟩

def encPair (p : ByteArray × ByteArray) : PV := .agg [.str p.1, .str p.2]
/-- What a round is handed: the place and what lies there, from the end. -/
def backArgs (ps : List (ByteArray × ByteArray)) (i : Nat) : List AV := [.pv (.int .i64 (((ps.length - 1 - i : Nat) : Int))), .pv (encPair (ps.getD (ps.length - 1 - i) default))]
theorem back_get {ps : List (ByteArray × ByteArray)} {i : Nat} (h : i < ps.length) : ps[ps.length - 1 - i]? = some (ps.getD (ps.length - 1 - i) default) := by
  have hl : ps.length - 1 - i < ps.length := by omega
  rw [List.getD_eq_getElem?_getD, List.getElem?_eq_getElem hl]; rfl
theorem back_at {ps : List (ByteArray × ByteArray)} {i : Nat} (h : i < ps.length) : ∃ (q : Nat) (x : ByteArray × ByteArray), ((ps.length : Int) - 1 - (i : Int)) = (q : Int) ∧ ps[q]? = some x ∧ backArgs ps i = [.pv (.int .i64 (q : Int)), .pv (encPair x)] :=
  ⟨ps.length - 1 - i, _, by omega, back_get h, rfl⟩
theorem back_wrap0 {n : Nat} (h : n ≤ 1000000000) : IntKind.i64.wrap ((n : Int) - 1) = (n : Int) - 1 := wrap_id (by omega) (by omega)

set_option maxHeartbeats 1000000 in
theorem c_Back (ps : List (ByteArray × ByteArray)) (hps : ps.length ≤ 1000000000) (o l : Nat) (J : Nat → Store → Prop) (E : Store → Prop) (hbox : ∀ i τ, J i τ → τ.objs[o]? = some (.box [.pv (.slice (ps.map encPair))])) (hround : ∀ i τ, i < ps.length → J i τ → ACallsY Tryz.prog l (backArgs ps i) τ fun r τ' => (r = .pv (.bool true) ∧ J (i + 1) τ') ∨ (r = .pv (.bool false) ∧ E τ')) (σ : Store) (hJ0 : J 0 σ) : ACalls Tryz.prog 252 [.func (.yield l) [], .ptr o 0] σ (fun _ σ' => J ps.length σ' ∨ E σ') := by
 have hb0 := hbox 0 σ hJ0
 have hw0 := back_wrap0 hps
 refine acalls_of tyOk Tryz.func252 rfl (by simp [Tryz.f252]) ?_
 refine awp_seq (aR (by simp [go_sem, hb0, hw0] <;> rfl) ?_)
 refine awp_block ?_
 refine awp_loop_headJ [0, 1] (fun p : Nat × Store => [(3, .pv (.int .i64 ((ps.length : Int) - 1 - (p.1 : Int))))]) (fun p => p.2) (fun p => p.1 ≤ ps.length ∧ J p.1 p.2) (fun p => ps.length - p.1) (0, σ) (⟨Nat.zero_le _, hJ0⟩) ⟨rfl, rfl, by simp [go_sem, hb0, hw0]⟩ ?_
 rintro ⟨i, τ⟩ ⟨hi, hJ⟩
 have hbi := hbox i τ hJ
 refine awp_seq (awp_seq (aR (by simp [go_sem, hb0, hw0, hbi] <;> rfl) ?_))
 refine awp_cond (by first | rfl | (simp [go_sem, hb0, hw0, hbi] <;> rfl)) (fun h0 => ?_) (fun h0 => ?_)
 ·have hlt : i < ps.length := by simp at h0; omega
  refine awp_skip ?_
  refine awp_seq (awp_block ?_)
  refine awp_seq ?_
  obtain ⟨q, x, hidx, hg, hba⟩ := back_at hlt
  have hwq : IntKind.i64.wrap ((q : Int) - 1) = (ps.length : Int) - 1 - ((i : Int) + 1) := by rw [wrap_id (by omega) (by omega)]; omega
  refine awp_reg ?_
  refine aL 6 (by simp [go_sem, hb0, hw0, hbi, hidx, hg, encPair] <;> rfl) ?_
  refine al_yield rfl rfl rfl (by simp [go_sem, hb0, hw0, hbi, hidx, hg, encPair] <;> rfl) (hround i τ hlt hJ) (by simp [go_sem, hb0, hw0, hbi, hidx, hg, encPair] <;> rfl) (by simp [go_sem, hb0, hw0, hbi, hidx, hg, encPair, hba]) rfl rfl ?_
  rintro r τ2 (⟨rfl, hJ2⟩ | ⟨rfl, hE⟩)
  ·refine aL 1 (by simp [go_sem, hb0, hw0, hbi, hidx, hg, encPair] <;> rfl) ?_
   refine al_nil ?_
   refine awp_cond (b := false) (by simp [go_sem, hb0, hw0, hbi, hidx, hg, encPair, h0]) (fun h => ?_) (fun h => ?_)
   ·cases h
   refine awp_skip ?_
   refine aR (by simp [go_sem, hb0, hw0, hbi, hidx, hg, encPair] <;> rfl) ?_
   exact ⟨(i + 1, τ2), ⟨by omega, hJ2⟩, by simp; omega, rfl, rfl, by simp [go_sem, hb0, hw0, hbi, hidx, hg, encPair, hwq]⟩
  ·refine aL 1 (by simp [go_sem, hb0, hw0, hbi, hidx, hg, encPair] <;> rfl) ?_
   refine al_nil ?_
   refine awp_cond (b := true) (by simp [go_sem, hb0, hw0, hbi, hidx, hg, encPair, h0]) (fun h => ?_) (fun h => ?_)
   rotate_left
   ·cases h
   refine awp_ret ?_
   refine inBlock_ret ?_
   refine then_ret ?_
   refine then_ret ?_
   refine inBlock_ret ?_
   refine ends_ret (by simp [go_sem] <;> rfl) (by simp [go_sem]) ?_
   exact .inr hE
 ·have hke : i = ps.length := by simp at h0; omega
  subst hke
  refine awp_exit ?_
  refine then_exit ?_
  refine then_exit ?_
  refine inBlock_hit ?_
  refine ends_normal (by simp [go_sem] <;> rfl) (by simp [go_sem]) ?_
  exact .inl hJ

end Go.Proofs.YtnibcmaaehkhlaaGreatDoor

namespace Go.Proofs.YtnibcmaaehkhlaaGreatDoor
open Go Go.Aw
variable {kr : KR}
set_option maxHeartbeats 1000000 in
theorem c_flat_Sym (s : ByteArray) : Pur Tryz.prog (GL kr) 57 [.pv (.str s)] (.pv (enc (dsym s))) := by
 refine pur_of fun σ hgl => ?_
 refine acalls_of tyOk Tryz.func57 rfl (by simp [Tryz.f57]) ?_
 refine awp_seq (aR (by simp [go_sem] <;> rfl) ?_)
 refine awp_seq (aR (by simp [go_sem] <;> rfl) ?_)
 refine awp_ret ?_
 refine ends_ret (by simp [go_sem] <;> rfl) (by simp [go_sem]) ?_
 exact ⟨by simp [go_sem, enc_sym], by simp [go_sem]⟩

set_option maxHeartbeats 1000000 in
theorem c_bound (d : D) (hd : GoodM d) (i : Nat) (hi : i ≤ 1000000000) : Pur Tryz.prog (GL kr) 222 [.pv (enc d), .pv (.int .i64 i)] (.pv (.slice ((bnd d i).map .str))) := by
 refine pur_of fun σ hgl => ?_
 refine acalls_of tyOk Tryz.func222 rfl (by simp [Tryz.f222]) ?_
 refine awp_seq (aR (by simp [go_sem] <;> rfl) ?_)
 refine awp_seq (awp_block ?_)
 refine awp_seq (awp_reg ?_)
 refine aL 1 (by simp [go_sem] <;> rfl) ?_
 refine aF call147 ((c_Is d sFn hd.ne) _ (by exact hgl)) (by simp [go_sem] <;> rfl) (by simp [go_sem, eFn]) ?_
 refine aL 1 (by simp [go_sem] <;> rfl) ?_
 refine al_nil ?_
 refine awp_cond (by first | rfl | (simp [go_sem] <;> rfl)) (fun h0 => ?_) (fun h0 => ?_)
 ·obtain ⟨f, x, b, hk1, hk2, hks, hd1, hd2, hin, hmf, hmx, hk3, hht⟩ := hd.fn (by exact h0)
  refine awp_seq (awp_regDP tyOk tySz 10 (by kernel_rfl) (by decide) ?_)
  refine ul_run 10 (by simp [go_sem, hk1, hk2] <;> rfl) ?_
  refine ul_nil ?_
  refine aL 2 (by simp [go_sem, hk1, hk2] <;> rfl) ?_
  refine al_nil ?_
  refine awp_ret ?_
  refine inBlock_ret ?_
  refine then_ret ?_
  refine ends_ret (by simp [go_sem, hk1, hk2] <;> rfl) (by simp [go_sem]) ?_
  exact ⟨by simp only [bnd, hk1, hk2, h0, hd1, hd2, bA, bB, bC, bD, bE, bF, bG, bH, bI, bJ, Bool.false_eq_true, if_true, if_false]; simp [go_sem], by simp [go_sem]⟩
 ·refine awp_seq ?_
  refine awp_reg ?_
  refine aL 1 (by simp [go_sem] <;> rfl) ?_
  refine aF call147 ((c_Is d sLet hd.ne) _ (by exact hgl)) (by simp [go_sem] <;> rfl) (by simp [go_sem, eLet]) ?_
  refine aL 1 (by simp [go_sem] <;> rfl) ?_
  refine al_splitT 22 (by first | rfl | (simp [go_sem] <;> rfl)) (fun h1 => ?_) (fun h1 => ?_)
  ·obtain ⟨x, a, b, hk1, hks, hd1, hin, hmx, hk3, hht⟩ := hd.lett (by exact h1)
   refine aLG 2 22 true (by simp [go_sem, hk1] <;> rfl) ?_
   refine aL 2 (by simp [go_sem, hk1] <;> rfl) ?_
   refine al_nil ?_
   refine awp_cond (by first | rfl | (simp [go_sem, hk1] <;> rfl)) (fun h2 => ?_) (fun h2 => ?_)
   ·refine awp_seq ?_
    refine aR (by simp [go_sem, hk1] <;> rfl) ?_
    refine awp_ret ?_
    refine inBlock_ret ?_
    refine then_ret ?_
    refine ends_ret (by simp [go_sem, hk1] <;> rfl) (by simp [go_sem]) ?_
    exact ⟨by simp only [bnd, hk1, h0, h1, hd1, h2, bA, bB, bC, bD, bE, bF, bG, bH, bI, bJ, Bool.false_eq_true, if_true, if_false]; simp [go_sem], by simp [go_sem]⟩
   ·refine awp_skip ?_
    refine awp_seq (aR (by simp [go_sem, hk1] <;> rfl) ?_)
    refine awp_ret ?_
    refine ends_ret (by simp [go_sem, hk1] <;> rfl) (by simp [go_sem]) ?_
    exact ⟨by simp only [bnd, hk1, h0, h1, hd1, h2, bA, bB, bC, bD, bE, bF, bG, bH, bI, bJ, Bool.false_eq_true, if_true, if_false]; simp [go_sem], by simp [go_sem]⟩
  ·refine aK 2 22 true ?_
   refine aL 2 (by simp [go_sem] <;> rfl) ?_
   refine al_nil ?_
   refine awp_cond (b := false) (by simp [go_sem, h0, h1]) (fun h => ?_) (fun h => ?_)
   ·cases h
   refine awp_skip ?_
   refine awp_seq (aR (by simp [go_sem] <;> rfl) ?_)
   refine awp_ret ?_
   refine ends_ret (by simp [go_sem] <;> rfl) (by simp [go_sem]) ?_
   exact ⟨by simp only [bnd, h0, h1, bA, bB, bC, bD, bE, bF, bG, bH, bI, bJ, Bool.false_eq_true, if_true, if_false]; simp [go_sem], by simp [go_sem]⟩

set_option maxHeartbeats 1000000 in
theorem c_with (d : D) (hd : d.kids ≠ []) (ns : List ByteArray) (l : List D) (hb : ns.length + l.length ≤ 1000000000) : Pur Tryz.prog (GL kr) 225 [.pv (enc d), .pv (.slice (ns.map .str)), .pv (.slice (l.map enc))] (.pv (enc (dlist (d.head :: ns.map dsym ++ l)))) := by
 obtain ⟨x0, r, hx⟩ := kids_cons hd
 have hx0 : d.kids[0]? = some x0 := by rw [hx]; rfl
 have hh := head_cons hx
 refine pur_of fun σ hgl => ?_
 refine acalls_of tyOk Tryz.func225 rfl (by simp [Tryz.f225]) ?_
 refine awp_seq (aR (by simp [go_sem, hx0] <;> rfl) ?_)
 refine awp_seq (aR (by simp [go_sem, hx0] <;> rfl) ?_)
 refine awp_seq (awp_seq (aR (by simp [go_sem, hx0] <;> rfl) ?_))
 refine awp_adopt' 7 24 4 (by simp [go_sem, hx0] <;> rfl) ?_
 refine awp_block ?_
 refine awp_loop_headK σ.objs.length (σ.toks.length + 1) 2 [2, 6, 15, 16] (fun k : Nat => [(7, .acc (enc x0 :: (ns.map (enc ∘ dsym)).take k) σ.toks.length), (17, .pv (.int .i64 ↑k))]) (fun k => { σ with toks := σ.toks ++ [⟨k + 1, 24, 4⟩] }) (fun k => k ≤ ns.length) (fun k => ns.length - k) 0 (Nat.zero_le _) ⟨by simp [go_sem, hx0], rfl, by simp, by simp, by simp [go_sem, hx0], fun ob h => .inl (by simpa [go_sem, hx0] using h), by simp [go_sem]⟩ ?_
 intro k hk
 refine awp_seq (aR (by simp [go_sem, hx0] <;> rfl) ?_)
 refine awp_seq (awp_cond (by first | rfl | (simp [go_sem, hx0] <;> rfl)) (fun h0 => ?_) (fun h0 => ?_))
 ·have hlt : k < ns.length := by simp at h0; omega
  have hw : IntKind.i64.wrap (↑k + 1) = (k : Int) + 1 := wrap_succ (by omega)
  obtain ⟨x, hx, hxm⟩ := get_lt hlt
  have ht : (ns.map (enc ∘ dsym)).take (k + 1) = (ns.map (enc ∘ dsym)).take k ++ [enc (dsym x)] := take_next (by simp [hx])
  have hm : min k ns.length = k := by omega
  have hb2 : (k + 1 + 1) * 56 ≤ 140737488355328 := by omega
  refine awp_skip ?_
  refine awp_seq (awp_block ?_)
  refine awp_seq (aR (by simp [go_sem, hx0, hx, hm, hb2] <;> rfl) ?_)
  refine awp_reg ?_
  refine aL 2 (by simp [go_sem, hx0, hx, hm, hb2] <;> rfl) ?_
  refine aF call57 ((c_flat_Sym x) _ (by exact hgl)) (by simp [go_sem, hx0, hx, hm, hb2] <;> rfl) (by simp [go_sem, hx0, hx, hm, hb2]) ?_
  refine aL 3 (by simp [go_sem, hx0, hx, hm, hb2] <;> rfl) ?_
  refine al_nil ?_
  refine aR (by simp [go_sem, hx0, hx, hm, hb2] <;> rfl) ?_
  exact next_intro (k + 1) σ.objs.length (σ.toks.length + 1) 2 (hlt) (by omega) ⟨by simp [go_sem, hx0, hx, hm, hb2, hw, ht], rfl, by simp, by simp, by simp [go_sem, hx0, hx, hm, hb2, hw, ht], fun ob h => .inl (by simpa [go_sem, hx0, hx, hm, hb2, hw, ht] using h), by simp [go_sem]⟩
 ·have hke : k = ns.length := by simp at h0; omega
  subst hke
  have hb3 : (ns.length + 1 + l.length) * 56 ≤ 140737488355328 := by omega
  refine awp_exit ?_
  refine then_exit ?_
  refine then_exit ?_
  refine inBlock_hit ?_
  refine awp_seq (awp_reg ?_)
  refine aL 3 (by simp [go_sem, hx0, hb3, take_all] <;> rfl) ?_
  refine aF call61 ((c_flat_List (x0 :: ns.map dsym ++ l)) _ (by exact hgl)) (by simp [go_sem, hx0, hb3, take_all] <;> rfl) (by simp [go_sem, hx0, hb3, take_all]) ?_
  refine aL 1 (by simp [go_sem, hx0, hb3, take_all] <;> rfl) ?_
  refine al_nil ?_
  refine awp_ret ?_
  refine ends_ret (by simp [go_sem, hx0, hb3, take_all] <;> rfl) (by simp [go_sem]) ?_
  exact ⟨by simp only [hh, hx0, hb3, take_all, bA, bB, bC, bD, bE, bF, bG, bH, bI, bJ, Bool.false_eq_true, if_true, if_false, List.map_append, List.map_map]; simp [go_sem], by simp [go_sem]⟩

end Go.Proofs.YtnibcmaaehkhlaaGreatDoor

namespace Go.Proofs.YtnibcmaaehkhlaaGreatDoor
open Go Go.Aw
variable {kr : KR}
set_option maxHeartbeats 1000000 in
theorem c_check_1 (d : D) : Pur Tryz.prog (GL kr) 221 [.pv (enc d)] (.pv (.bool (!mName d))) := by
 refine pur_of fun σ hgl => ?_
 refine acalls_of tyOk Tryz.func221 rfl (by simp [Tryz.f221]) ?_
 refine awp_seq (aR (by simp [go_sem] <;> rfl) ?_)
 refine awp_seq (awp_reg ?_)
 refine aL 1 (by simp [go_sem] <;> rfl) ?_
 refine aF call220 ((c_mName d) _ (by exact hgl)) (by simp [go_sem] <;> rfl) (by simp [go_sem]) ?_
 refine aL 2 (by simp [go_sem] <;> rfl) ?_
 refine al_nil ?_
 refine awp_ret ?_
 refine ends_ret (by simp [go_sem] <;> rfl) (by simp [go_sem]) ?_
 exact ⟨by simp [go_sem], by simp [go_sem]⟩

set_option maxHeartbeats 1000000 in
theorem c_check (d : D) (hd : d.size ≤ 1000000000) : Pur Tryz.prog (GL kr) 143 [.pv (enc d)] (.pv (.int .i64 (mchk d))) := by
 induction d using D.ind with
 | _ kind num text kids ih =>
 generalize hD : D.mk kind num text kids = d at *
 have hk : d.kids = kids := by rw [← hD]; rfl
 clear hD
 subst hk
 have hkl := D.kids_length_lt d
 have hls := fun (s : St) (x : ByteArray) (ok : Bool) => look_sh (S := kr) (ty := ty) (s := s) (t := 222) (x := x) (ok := ok) rfl rfl rfl rfl rfl rfl rfl
 have hil := inner_len d
 refine pur_of fun σ hgl => ?_
 refine acalls_of tyOk Tryz.func143 rfl (by simp [Tryz.f143]) ?_
 refine awp_seq (aR (by simp [go_sem] <;> rfl) ?_)
 refine awp_seq (awp_block ?_)
 refine awp_seq (awp_reg ?_)
 refine aL 4 (by simp [go_sem] <;> rfl) ?_
 refine al_splitT 15 (by first | rfl | (simp [go_sem] <;> rfl)) (fun h0 => ?_) (fun h0 => ?_)
 ·refine aK 2 15 false ?_
  refine aL 2 (by simp [go_sem] <;> rfl) ?_
  refine al_nil ?_
  refine awp_cond (b := true) (by simp [go_sem, h0]) (fun h => ?_) (fun h => ?_)
  rotate_left
  ·cases h
  refine awp_seq (aR (by simp [go_sem] <;> rfl) ?_)
  refine awp_ret ?_
  refine inBlock_ret ?_
  refine then_ret ?_
  have hM : mchk d = 0 := by rw [mchk_eq, h0]; rfl
  refine ends_ret (by simp [go_sem] <;> rfl) (by simp [go_sem]) ?_
  exact ⟨by simp [go_sem, hM], by simp [go_sem]⟩
 ·refine aLG 1 15 false (by simp [go_sem] <;> rfl) ?_
  refine al_fnG 15 false false (by simp [go_sem]) rfl (by simp [go_sem]) rfl rfl (by simp [go_sem] <;> rfl) call220 ((c_mName d) _ (by exact hgl)) (by simp [go_sem] <;> rfl) (by simp [go_sem]) rfl rfl ?_
  refine aL 2 (by simp [go_sem] <;> rfl) ?_
  refine al_nil ?_
  refine awp_cond (by first | rfl | (simp [go_sem] <;> rfl)) (fun h1 => ?_) (fun h1 => ?_)
  ·refine awp_seq ?_
   refine aR (by simp [go_sem] <;> rfl) ?_
   refine awp_ret ?_
   refine inBlock_ret ?_
   refine then_ret ?_
   have hM : mchk d = 0 := by rw [mchk_eq, h0, h1]; rfl
   refine ends_ret (by simp [go_sem] <;> rfl) (by simp [go_sem]) ?_
   exact ⟨by simp [go_sem, hM], by simp [go_sem]⟩
  ·refine awp_seq ?_
   refine awp_reg ?_
   refine aL 4 (by simp [go_sem] <;> rfl) ?_
   refine al_splitT 23 (by first | rfl | (simp [go_sem] <;> rfl)) (fun h2 => ?_) (fun h2 => ?_)
   ·refine aK 4 23 false ?_
    refine aL 2 (by simp [go_sem] <;> rfl) ?_
    refine aK 6 29 false ?_
    refine aL 2 (by simp [go_sem] <;> rfl) ?_
    refine al_nil ?_
    refine awp_cond (b := true) (by simp [go_sem, h0, h1, h2]) (fun h => ?_) (fun h => ?_)
    rotate_left
    ·cases h
    refine awp_seq (aR (by simp [go_sem] <;> rfl) ?_)
    refine awp_ret ?_
    refine inBlock_ret ?_
    refine then_ret ?_
    have hM : mchk d = 4 := by rw [mchk_eq, h0, h1, h2]; rfl
    refine ends_ret (by simp [go_sem] <;> rfl) (by simp [go_sem]) ?_
    exact ⟨by simp [go_sem, hM], by simp [go_sem]⟩
   ·refine aLG 4 23 false (by simp [go_sem] <;> rfl) ?_
    refine aL 2 (by simp [go_sem] <;> rfl) ?_
    refine al_splitT 29 (by first | rfl | (simp [go_sem] <;> rfl)) (fun h3 => ?_) (fun h3 => ?_)
    ·refine aK 6 29 false ?_
     refine aL 2 (by simp [go_sem] <;> rfl) ?_
     refine al_nil ?_
     refine awp_cond (b := true) (by simp [go_sem, h0, h1, h2, h3]) (fun h => ?_) (fun h => ?_)
     rotate_left
     ·cases h
     refine awp_seq (aR (by simp [go_sem] <;> rfl) ?_)
     refine awp_ret ?_
     refine inBlock_ret ?_
     refine then_ret ?_
     have hM : mchk d = 4 := by rw [mchk_eq, h0, h1, h2, h3]; rfl
     refine ends_ret (by simp [go_sem] <;> rfl) (by simp [go_sem]) ?_
     exact ⟨by simp [go_sem, hM], by simp [go_sem]⟩
    ·obtain ⟨x0, r, hks⟩ := kids_cons (l := d.kids) (by intro e; rw [e] at h3; cases h3)
     have hx0 : d.kids[0]? = some x0 := by rw [hks]; rfl
     refine aLG 6 29 false (by simp [go_sem, hx0] <;> rfl) ?_
     refine aL 2 (by simp [go_sem, hx0] <;> rfl) ?_
     refine al_nil ?_
     refine awp_cond (by first | rfl | (simp [go_sem, hx0] <;> rfl)) (fun h4 => ?_) (fun h4 => ?_)
     ·refine awp_seq ?_
      refine aR (by simp [go_sem, hx0] <;> rfl) ?_
      refine awp_ret ?_
      refine inBlock_ret ?_
      refine then_ret ?_
      have hM : mchk d = 4 := by rw [mchk_eq, h0, h1, h2, h3, head_cons hks, h4]; rfl
      refine ends_ret (by simp [go_sem] <;> rfl) (by simp [go_sem]) ?_
      exact ⟨by simp [go_sem, hM], by simp [go_sem]⟩
     ·have hne : d.kids ≠ [] := by rw [hks]; simp
      have hM0 := mchk_list h0 h1 h2 hks h4
      refine awp_skip ?_
      refine awp_seq (aR (by simp [go_sem, hx0] <;> rfl) ?_)
      refine awp_seq ?_
      refine awp_seq ?_
      have hgs : lookupG σ.gl 1 = some (.ptr [.map (shK kr) (shV kr)]) := by rw [hgl]; exact gl_sh
      refine aR (by simp [go_sem, hx0, hgs, hls, encSh, okAV] <;> rfl) ?_
      refine awp_seq (aR (by simp [go_sem, hx0, hgs, hls, encSh, okAV] <;> rfl) ?_)
      refine awp_cond (by first | rfl | (simp [go_sem, hx0, hgs, hls, encSh, okAV] <;> rfl)) (fun h5 => ?_) (fun h5 => ?_)
      ·obtain ⟨⟨nm, sz⟩, hs⟩ := Option.isSome_iff_exists.1 h5
       have hsl := shp_lt hs
       have hgd : ((shp x0.text).getD (0, 0)) = (nm, sz) := by rw [hs]; rfl
       have hwr : IntKind.i64.wrap (1 + (nm : Int)) = 1 + (nm : Int) := wrap_id (by omega) (by omega)
       have htn : (1 + (nm : Int)).toNat = 1 + nm := by omega
       refine awp_seq (awp_reg ?_)
       refine aL 7 (by simp [go_sem, hx0, hgs, hls, encSh, okAV, hgd, hwr, htn] <;> rfl) ?_
       refine al_splitT 55 (by first | rfl | (simp [go_sem, hx0, hgs, hls, encSh, okAV, hgd, hwr, htn] <;> rfl)) (fun h6 => ?_) (fun h6 => ?_)
       ·refine aK 7 55 false ?_
        refine aL 1 (by simp [go_sem, hx0, hgs, hls, encSh, okAV, hgd, hwr, htn] <;> rfl) ?_
        refine al_nil ?_
        refine awp_cond (b := true) (by simp [go_sem, hx0, hgs, hls, encSh, okAV, hgd, hwr, htn, h0, h1, h2, h3, h4, h5, h6]) (fun h => ?_) (fun h => ?_)
        rotate_left
        ·cases h
        refine awp_seq (aR (by simp [go_sem, hx0, hgs, hls, encSh, okAV, hgd, hwr, htn] <;> rfl) ?_)
        refine awp_ret ?_
        refine then_ret ?_
        have hM : mchk d = 4 := by rw [hM0, hs]; simp only [h6, Bool.true_or, if_true]
        refine ends_ret (by simp [go_sem] <;> rfl) (by simp [go_sem]) ?_
        exact ⟨by simp [go_sem, hM], by simp [go_sem]⟩
       ·have hle : 1 + (nm : Int) ≤ d.kids.length := by simp at h6; omega
        have h0le : (0 : Int) ≤ 1 + (nm : Int) := by omega
        have h1le : (1 : Int) ≤ 1 + (nm : Int) := by omega
        have htk := take_tail enc d.kids nm
        have hgn := inner_good hks hs h6
        refine aLG 6 55 false (by simp [go_sem, hx0, hgs, hls, encSh, okAV, hgd, hwr, htn, hle, h0le, h1le, htk] <;> rfl) ?_
        refine al_fnG 55 false false (by simp [go_sem]) rfl (by simp [go_sem]) rfl rfl (by simp [go_sem, hx0, hgs, hls, encSh, okAV, hgd, hwr, htn, hle, h0le, h1le, htk] <;> rfl) call199 (c_ContainsFunc ((d.kids.drop 1).take nm) (by simp; omega) σ hgl 221 call221 [] rfl (fun x => !mName x) (fun x hx => c_check_1 x σ hgl)) (by simp [go_sem, hx0, hgs, hls, encSh, okAV, hgd, hwr, htn, hle, h0le, h1le, htk] <;> rfl) (by simp [go_sem, hx0, hgs, hls, encSh, okAV, hgd, hwr, htn, hle, h0le, h1le, htk]) rfl rfl ?_
        refine aL 1 (by simp [go_sem, hx0, hgs, hls, encSh, okAV, hgd, hwr, htn, hle, h0le, h1le, htk] <;> rfl) ?_
        refine al_nil ?_
        refine awp_cond (by first | rfl | (simp [go_sem, hx0, hgs, hls, encSh, okAV, hgd, hwr, htn, hle, h0le, h1le, htk] <;> rfl)) (fun h7 => ?_) (fun h7 => ?_)
        ·refine awp_seq ?_
         refine aR (by simp [go_sem, hx0, hgs, hls, encSh, okAV, hgd, hwr, htn, hle, h0le, h1le, htk] <;> rfl) ?_
         refine awp_ret ?_
         refine then_ret ?_
         have hM : mchk d = 4 := by rw [hM0, hs]; simp only [h6, List.drop_one, h7, Bool.false_or, if_true]
         refine ends_ret (by simp [go_sem] <;> rfl) (by simp [go_sem]) ?_
         exact ⟨by simp [go_sem, hM], by simp [go_sem]⟩
        ·refine awp_skip ?_
         refine awp_seq (awp_seq (awp_reg ?_))
         refine aL 1 (by simp [go_sem, hx0, hgs, hls, encSh, okAV, hgd, hwr, htn, hle, h0le, h1le, htk] <;> rfl) ?_
         refine aF call149 ((c_Inner d (fun _ => hne) hgn) _ (by exact hgl)) (by simp [go_sem, hx0, hgs, hls, encSh, okAV, hgd, hwr, htn, hle, h0le, h1le, htk] <;> rfl) (by simp [go_sem, hx0, hgs, hls, encSh, okAV, hgd, hwr, htn, hle, h0le, h1le, htk]) ?_
         refine aL 2 (by simp [go_sem, hx0, hgs, hls, encSh, okAV, hgd, hwr, htn, hle, h0le, h1le, htk] <;> rfl) ?_
         refine al_nil ?_
         refine awp_block ?_
         refine awp_loop_headK σ.objs.length σ.toks.length 2 [2, 80, 81] (fun k : Nat => [(82, .pv (.int .i64 ↑k))]) (fun k => σ) (fun k => k ≤ (inner d).length ∧ NotYet (fun x => mchk x != 0) (inner d) k) (fun k => (inner d).length - k) 0 (⟨Nat.zero_le _, .zero⟩) ⟨by simp [go_sem, hx0, hgs, hls, encSh, okAV, hgd, hwr, htn, hle, h0le, h1le, htk], rfl, by simp, by simp, by simp [go_sem, hx0, hgs, hls, encSh, okAV, hgd, hwr, htn, hle, h0le, h1le, htk], fun ob h => .inl (by simpa [go_sem, hx0, hgs, hls, encSh, okAV, hgd, hwr, htn, hle, h0le, h1le, htk] using h), by simp [go_sem]⟩ ?_
         rintro k ⟨hk, hn⟩
         refine awp_seq (aR (by simp [go_sem, hx0, hgs, hls, encSh, okAV, hgd, hwr, htn, hle, h0le, h1le, htk] <;> rfl) ?_)
         refine awp_seq (awp_cond (by first | rfl | (simp [go_sem, hx0, hgs, hls, encSh, okAV, hgd, hwr, htn, hle, h0le, h1le, htk] <;> rfl)) (fun h8 => ?_) (fun h8 => ?_))
         ·have hlt : k < (inner d).length := by simp at h8; omega
          have hw : IntKind.i64.wrap (↑k + 1) = (k : Int) + 1 := wrap_succ (by omega)
          obtain ⟨x, hx, hxm⟩ := get_lt hlt
          refine awp_skip ?_
          refine awp_seq (awp_block ?_)
          refine awp_seq (aR (by simp [go_sem, hx0, hgs, hls, encSh, okAV, hgd, hwr, htn, hle, h0le, h1le, htk, hx] <;> rfl) ?_)
          refine awp_seq (awp_reg ?_)
          refine aL 1 (by simp [go_sem, hx0, hgs, hls, encSh, okAV, hgd, hwr, htn, hle, h0le, h1le, htk, hx] <;> rfl) ?_
          refine aF call143 ((ih x (inner_mem hxm) (by have := D.size_kid_lt (inner_mem hxm); omega)) _ (by exact hgl)) (by simp [go_sem, hx0, hgs, hls, encSh, okAV, hgd, hwr, htn, hle, h0le, h1le, htk, hx] <;> rfl) (by simp [go_sem, hx0, hgs, hls, encSh, okAV, hgd, hwr, htn, hle, h0le, h1le, htk, hx]) ?_
          refine aL 1 (by simp [go_sem, hx0, hgs, hls, encSh, okAV, hgd, hwr, htn, hle, h0le, h1le, htk, hx] <;> rfl) ?_
          refine al_nil ?_
          refine awp_seq (aR (by simp [go_sem, hx0, hgs, hls, encSh, okAV, hgd, hwr, htn, hle, h0le, h1le, htk, hx] <;> rfl) ?_)
          refine awp_cond (by first | rfl | (simp [go_sem, hx0, hgs, hls, encSh, okAV, hgd, hwr, htn, hle, h0le, h1le, htk, hx] <;> rfl)) (fun h9 => ?_) (fun h9 => ?_)
          ·refine awp_seq ?_
           refine aR (by simp [go_sem, hx0, hgs, hls, encSh, okAV, hgd, hwr, htn, hle, h0le, h1le, htk, hx] <;> rfl) ?_
           refine awp_ret ?_
           refine inBlock_ret ?_
           refine then_ret ?_
           refine then_ret ?_
           refine inBlock_ret ?_
           refine then_ret ?_
           have hM : mchk d = mchk x := by rw [hM0, hs]; simp only [h6, List.drop_one, h7, Bool.false_or, Bool.false_eq_true, if_false]; exact mchkL_at hn hx h9
           refine ends_ret (by simp [go_sem] <;> rfl) (by simp [go_sem]) ?_
           exact ⟨by simp [go_sem, hM], by simp [go_sem]⟩
          ·refine awp_skip ?_
           refine aR (by simp [go_sem, hx0, hgs, hls, encSh, okAV, hgd, hwr, htn, hle, h0le, h1le, htk, hx] <;> rfl) ?_
           exact next_intro (k + 1) σ.objs.length σ.toks.length 2 (⟨hlt, hn.succ hx (by simpa using h9)⟩) (by omega) ⟨by simp [go_sem, hx0, hgs, hls, encSh, okAV, hgd, hwr, htn, hle, h0le, h1le, htk, hx, hw], rfl, by simp, by simp, by simp [go_sem, hx0, hgs, hls, encSh, okAV, hgd, hwr, htn, hle, h0le, h1le, htk, hx, hw], fun ob h => .inl (by simpa [go_sem, hx0, hgs, hls, encSh, okAV, hgd, hwr, htn, hle, h0le, h1le, htk, hx, hw] using h), by simp [go_sem]⟩
         ·have hke : k = (inner d).length := by simp at h8; omega
          subst hke
          refine awp_exit ?_
          refine then_exit ?_
          refine then_exit ?_
          refine inBlock_hit ?_
          refine awp_seq (aR (by simp [go_sem, hx0, hgs, hls, encSh, okAV, hgd, hwr, htn, hle, h0le, h1le, htk] <;> rfl) ?_)
          refine awp_ret ?_
          have hM : mchk d = 0 := by rw [hM0, hs]; simp only [h6, List.drop_one, h7, Bool.false_or, Bool.false_eq_true, if_false]; exact mchkL_none hn
          refine ends_ret (by simp [go_sem] <;> rfl) (by simp [go_sem]) ?_
          exact ⟨by simp [go_sem, hM], by simp [go_sem]⟩
      ·have hs : shp x0.text = none := by simpa using h5
       have hgn := inner_good0 hks hs
       have hgd : ((shp x0.text).getD (0, 0)) = (0, 0) := by rw [hs]; rfl
       have hwl : IntKind.i64.wrap ((d.kids.length : Int) - 1) = (d.kids.length : Int) - 1 := wrap_id (by omega) (by omega)
       refine awp_seq (awp_reg ?_)
       refine aL 1 (by simp [go_sem, hx0, hgs, hls, encSh, okAV, hgd, hwl] <;> rfl) ?_
       refine aF call198 ((c_prim_Arity x0.text) _ (by exact hgl)) (by simp [go_sem, hx0, hgs, hls, encSh, okAV, hgd, hwl] <;> rfl) (by simp [go_sem, hx0, hgs, hls, encSh, okAV, hgd, hwl]) ?_
       refine aL 5 (by simp [go_sem, hx0, hgs, hls, encSh, okAV, hgd, hwl] <;> rfl) ?_
       refine al_nil ?_
       refine awp_block ?_
       refine awp_seq (aR (by simp [go_sem, hx0, hgs, hls, encSh, okAV, hgd, hwl] <;> rfl) ?_)
       refine awp_cond (by first | rfl | (simp [go_sem, hx0, hgs, hls, encSh, okAV, hgd, hwl] <;> rfl)) (fun h10 => ?_) (fun h10 => ?_)
       ·refine awp_seq ?_
        refine aR (by simp [go_sem, hx0, hgs, hls, encSh, okAV, hgd, hwl] <;> rfl) ?_
        refine awp_ret ?_
        refine inBlock_ret ?_
        refine then_ret ?_
        have hM : mchk d = 4 := by rw [hM0, hs]; simp only [h10, if_true]
        refine ends_ret (by simp [go_sem] <;> rfl) (by simp [go_sem]) ?_
        exact ⟨by simp [go_sem, hM], by simp [go_sem]⟩
       ·refine awp_seq ?_
        refine aR (by simp [go_sem, hx0, hgs, hls, encSh, okAV, hgd, hwl] <;> rfl) ?_
        refine awp_cond (by first | rfl | (simp [go_sem, hx0, hgs, hls, encSh, okAV, hgd, hwl] <;> rfl)) (fun h11 => ?_) (fun h11 => ?_)
        ·refine awp_seq ?_
         refine aR (by simp [go_sem, hx0, hgs, hls, encSh, okAV, hgd, hwl] <;> rfl) ?_
         refine awp_ret ?_
         refine inBlock_ret ?_
         refine then_ret ?_
         have hM : mchk d = 11 := by rw [hM0, hs]; simp only [h10, h11, if_true, Bool.false_eq_true, if_false]
         refine ends_ret (by simp [go_sem] <;> rfl) (by simp [go_sem]) ?_
         exact ⟨by simp [go_sem, hM], by simp [go_sem]⟩
        ·refine awp_skip ?_
         refine awp_seq (awp_seq (awp_reg ?_))
         refine aL 1 (by simp [go_sem, hx0, hgs, hls, encSh, okAV, hgd, hwl] <;> rfl) ?_
         refine aF call149 ((c_Inner d (fun _ => hne) hgn) _ (by exact hgl)) (by simp [go_sem, hx0, hgs, hls, encSh, okAV, hgd, hwl] <;> rfl) (by simp [go_sem, hx0, hgs, hls, encSh, okAV, hgd, hwl]) ?_
         refine aL 2 (by simp [go_sem, hx0, hgs, hls, encSh, okAV, hgd, hwl] <;> rfl) ?_
         refine al_nil ?_
         refine awp_block ?_
         refine awp_loop_headK σ.objs.length σ.toks.length 2 [2, 80, 81] (fun k : Nat => [(82, .pv (.int .i64 ↑k))]) (fun k => σ) (fun k => k ≤ (inner d).length ∧ NotYet (fun x => mchk x != 0) (inner d) k) (fun k => (inner d).length - k) 0 (⟨Nat.zero_le _, .zero⟩) ⟨by simp [go_sem, hx0, hgs, hls, encSh, okAV, hgd, hwl], rfl, by simp, by simp, by simp [go_sem, hx0, hgs, hls, encSh, okAV, hgd, hwl], fun ob h => .inl (by simpa [go_sem, hx0, hgs, hls, encSh, okAV, hgd, hwl] using h), by simp [go_sem]⟩ ?_
         rintro k ⟨hk, hn⟩
         refine awp_seq (aR (by simp [go_sem, hx0, hgs, hls, encSh, okAV, hgd, hwl] <;> rfl) ?_)
         refine awp_seq (awp_cond (by first | rfl | (simp [go_sem, hx0, hgs, hls, encSh, okAV, hgd, hwl] <;> rfl)) (fun h12 => ?_) (fun h12 => ?_))
         ·have hlt : k < (inner d).length := by simp at h12; omega
          have hw : IntKind.i64.wrap (↑k + 1) = (k : Int) + 1 := wrap_succ (by omega)
          obtain ⟨x, hx, hxm⟩ := get_lt hlt
          refine awp_skip ?_
          refine awp_seq (awp_block ?_)
          refine awp_seq (aR (by simp [go_sem, hx0, hgs, hls, encSh, okAV, hgd, hwl, hx] <;> rfl) ?_)
          refine awp_seq (awp_reg ?_)
          refine aL 1 (by simp [go_sem, hx0, hgs, hls, encSh, okAV, hgd, hwl, hx] <;> rfl) ?_
          refine aF call143 ((ih x (inner_mem hxm) (by have := D.size_kid_lt (inner_mem hxm); omega)) _ (by exact hgl)) (by simp [go_sem, hx0, hgs, hls, encSh, okAV, hgd, hwl, hx] <;> rfl) (by simp [go_sem, hx0, hgs, hls, encSh, okAV, hgd, hwl, hx]) ?_
          refine aL 1 (by simp [go_sem, hx0, hgs, hls, encSh, okAV, hgd, hwl, hx] <;> rfl) ?_
          refine al_nil ?_
          refine awp_seq (aR (by simp [go_sem, hx0, hgs, hls, encSh, okAV, hgd, hwl, hx] <;> rfl) ?_)
          refine awp_cond (by first | rfl | (simp [go_sem, hx0, hgs, hls, encSh, okAV, hgd, hwl, hx] <;> rfl)) (fun h13 => ?_) (fun h13 => ?_)
          ·refine awp_seq ?_
           refine aR (by simp [go_sem, hx0, hgs, hls, encSh, okAV, hgd, hwl, hx] <;> rfl) ?_
           refine awp_ret ?_
           refine inBlock_ret ?_
           refine then_ret ?_
           refine then_ret ?_
           refine inBlock_ret ?_
           refine then_ret ?_
           have hM : mchk d = mchk x := by rw [hM0, hs]; simp only [h10, h11, Bool.false_eq_true, if_false]; exact mchkL_at hn hx h13
           refine ends_ret (by simp [go_sem] <;> rfl) (by simp [go_sem]) ?_
           exact ⟨by simp [go_sem, hM], by simp [go_sem]⟩
          ·refine awp_skip ?_
           refine aR (by simp [go_sem, hx0, hgs, hls, encSh, okAV, hgd, hwl, hx] <;> rfl) ?_
           exact next_intro (k + 1) σ.objs.length σ.toks.length 2 (⟨hlt, hn.succ hx (by simpa using h13)⟩) (by omega) ⟨by simp [go_sem, hx0, hgs, hls, encSh, okAV, hgd, hwl, hx, hw], rfl, by simp, by simp, by simp [go_sem, hx0, hgs, hls, encSh, okAV, hgd, hwl, hx, hw], fun ob h => .inl (by simpa [go_sem, hx0, hgs, hls, encSh, okAV, hgd, hwl, hx, hw] using h), by simp [go_sem]⟩
         ·have hke : k = (inner d).length := by simp at h12; omega
          subst hke
          refine awp_exit ?_
          refine then_exit ?_
          refine then_exit ?_
          refine inBlock_hit ?_
          refine awp_seq (aR (by simp [go_sem, hx0, hgs, hls, encSh, okAV, hgd, hwl] <;> rfl) ?_)
          refine awp_ret ?_
          have hM : mchk d = 0 := by rw [hM0, hs]; simp only [h10, h11, Bool.false_eq_true, if_false]; exact mchkL_none hn
          refine ends_ret (by simp [go_sem] <;> rfl) (by simp [go_sem]) ?_
          exact ⟨by simp [go_sem, hM], by simp [go_sem]⟩

set_option maxHeartbeats 1000000 in
theorem c_mCheck (d : D) (hd : d.size ≤ 1000000000) : Pur Tryz.prog (GL kr) 72 [.pv (enc d)] (.pv (.int .i64 (mcheck d))) := by
 refine pur_of fun σ hgl => ?_
 refine acalls_of tyOk Tryz.func72 rfl (by simp [Tryz.f72]) ?_
 refine awp_seq (aR (by simp [go_sem] <;> rfl) ?_)
 refine awp_seq (awp_seq (awp_reg ?_))
 refine aL 1 (by simp [go_sem] <;> rfl) ?_
 refine aF call63 ((c_datum_Check d hd) _ (by exact hgl)) (by simp [go_sem] <;> rfl) (by simp [go_sem]) ?_
 refine aL 1 (by simp [go_sem] <;> rfl) ?_
 refine al_nil ?_
 refine awp_seq (aR (by simp [go_sem] <;> rfl) ?_)
 refine awp_cond (by first | rfl | (simp [go_sem] <;> rfl)) (fun h0 => ?_) (fun h0 => ?_)
 ·refine awp_seq ?_
  refine aR (by simp [go_sem] <;> rfl) ?_
  refine awp_ret ?_
  refine then_ret ?_
  refine ends_ret (by simp [go_sem] <;> rfl) (by simp [go_sem]) ?_
  exact ⟨by simp only [mcheck, h0, bA, bB, bC, bD, bE, bF, bG, bH, bI, bJ, Bool.false_eq_true, if_true, if_false]; simp [go_sem], by simp [go_sem]⟩
 ·refine awp_skip ?_
  refine awp_seq (awp_reg ?_)
  refine aL 1 (by simp [go_sem] <;> rfl) ?_
  refine aF call143 ((c_check d hd) _ (by exact hgl)) (by simp [go_sem] <;> rfl) (by simp [go_sem]) ?_
  refine aL 1 (by simp [go_sem] <;> rfl) ?_
  refine al_nil ?_
  refine awp_ret ?_
  refine ends_ret (by simp [go_sem] <;> rfl) (by simp [go_sem]) ?_
  exact ⟨by simp only [mcheck, h0, bA, bB, bC, bD, bE, bF, bG, bH, bI, bJ, Bool.false_eq_true, if_true, if_false]; simp [go_sem], by simp [go_sem]⟩

end Go.Proofs.YtnibcmaaehkhlaaGreatDoor

namespace Go.Proofs.YtnibcmaaehkhlaaGreatDoor
open Go Go.Aw
variable {kr : KR}
set_option maxHeartbeats 1000000 in
theorem c_free (d : D) : ∀ (l out : List ByteArray) (σ : Store) (kt : Nat) (hgl : σ.gl = (GL kr)) (hg : GoodM d) (hb : l.length + out.length + 3 * d.size ≤ 1000000000) (htk : σ.toks[kt]? = some ⟨out.length, 9, 1⟩), ACalls Tryz.prog 144 [.pv (enc d), .pv (.slice (l.map .str)), .acc (out.map .str) kt] σ (fun r σ' => r = .acc ((mfree d l out).map .str) kt ∧ σ' = σ.tok kt (mfree d l out).length) := by
 induction d using D.ind with
 | _ kind num text kids ih =>
 generalize hD : D.mk kind num text kids = d at *
 have hk : d.kids = kids := by rw [← hD]; rfl
 clear hD
 subst hk
 have hkl := D.kids_length_lt d
 have hil := inner_len d
 intro l out σ kt hgl hg hb htk
 have hm0 := mfreeK_zero (d := d) (l := l) (out := out)
 have hkt := (List.getElem?_eq_some_iff.1 htk).1
 have hbb : (out.length + 1) * 16 ≤ 140737488355328 := by omega
 refine acalls_of tyOk Tryz.func144 rfl (by simp [Tryz.f144]) ?_
 refine awp_seq (aR (by simp [go_sem, htk, hbb, hm0] <;> rfl) ?_)
 refine awp_seq (awp_seq (awp_reg ?_))
 refine aL 4 (by simp [go_sem, htk, hbb, hm0] <;> rfl) ?_
 refine al_splitT 12 (by first | rfl | (simp [go_sem, htk, hbb, hm0] <;> rfl)) (fun h0 => ?_) (fun h0 => ?_)
 ·refine aLG 3 12 true (by simp [go_sem, htk, hbb, hm0] <;> rfl) ?_
  refine al_fnG 12 true true (by simp [go_sem]) rfl (by simp [go_sem]) rfl rfl (by simp [go_sem, htk, hbb, hm0] <;> rfl) call83 ((c_Contains l (by omega) d.text) _ (by exact hgl)) (by simp [go_sem, htk, hbb, hm0] <;> rfl) (by simp [go_sem, htk, hbb, hm0]) rfl rfl ?_
  refine aLG 1 12 true (by simp [go_sem, htk, hbb, hm0] <;> rfl) ?_
  refine aL 2 (by simp [go_sem, htk, hbb, hm0] <;> rfl) ?_
  refine al_splitT 19 (by first | rfl | (simp [go_sem, htk, hbb, hm0] <;> rfl)) (fun h1 => ?_) (fun h1 => ?_)
  ·refine aLG 3 19 true (by simp [go_sem, htk, hbb, hm0] <;> rfl) ?_
   refine al_fnG 19 true true (by simp [go_sem]) rfl (by simp [go_sem]) rfl rfl (by simp [go_sem, htk, hbb, hm0] <;> rfl) call83 ((c_Contains out (by omega) d.text) _ (by exact hgl)) (by simp [go_sem, htk, hbb, hm0] <;> rfl) (by simp [go_sem, htk, hbb, hm0]) rfl rfl ?_
   refine aLG 1 19 true (by simp [go_sem, htk, hbb, hm0] <;> rfl) ?_
   refine aL 1 (by simp [go_sem, htk, hbb, hm0] <;> rfl) ?_
   refine al_nil ?_
   refine awp_cond (by first | rfl | (simp [go_sem, htk, hbb, hm0] <;> rfl)) (fun h2 => ?_) (fun h2 => ?_)
   ·refine awp_seq ?_
    refine aR (by simp [go_sem, htk, hbb, hm0] <;> rfl) ?_
    refine awp_ret ?_
    refine then_ret ?_
    have hM : mfree d l out = out ++ [d.text] := by rw [mfree_eq]; simp only [memB, h0, h1, h2, Bool.and_self, if_true]
    refine ends_ret (by simp [go_sem] <;> rfl) (by simp [go_sem]) ?_
    exact ⟨by simp [go_sem, hM], by simp [go_sem, hM]⟩
   ·refine awp_skip ?_
    refine awp_seq (awp_seq (awp_reg ?_))
    refine aL 1 (by simp [go_sem, htk, hbb, hm0] <;> rfl) ?_
    refine aF call149 ((c_Inner d hg.ne hg.n) _ (by exact hgl)) (by simp [go_sem, htk, hbb, hm0] <;> rfl) (by simp [go_sem, htk, hbb, hm0]) ?_
    refine aL 2 (by simp [go_sem, htk, hbb, hm0] <;> rfl) ?_
    refine al_nil ?_
    refine awp_block ?_
    refine awp_loop_headK σ.objs.length σ.toks.length 1 [1, 3, 6, 32, 33] (fun k : Nat => [(2, .acc ((mfreeK d l out k).map .str) kt), (34, .pv (.int .i64 ↑k))]) (fun k => σ.tok kt (mfreeK d l out k).length) (fun k => k ≤ (inner d).length) (fun k => (inner d).length - k) 0 (Nat.zero_le _) ⟨by show σ.tok kt (mfreeK d l out 0).length = _; rw [hm0, tok_self htk rfl]; exact (cut_full σ).symm, rfl, by simp, by simp, by simp [go_sem, htk, hbb, hm0, hkt], fun ob h => .inl (by simpa [go_sem, htk, hbb, hm0, hkt] using h), by simp [go_sem]⟩ ?_
    intro k hk
    refine awp_seq (aR (by simp [go_sem, htk, hbb, hm0] <;> rfl) ?_)
    refine awp_seq (awp_cond (by first | rfl | (simp [go_sem, htk, hbb, hm0] <;> rfl)) (fun h3 => ?_) (fun h3 => ?_))
    ·have hlt : k < (inner d).length := by simp at h3; omega
     have hw : IntKind.i64.wrap (↑k + 1) = (k : Int) + 1 := wrap_succ (by omega)
     obtain ⟨x, hx, hxm⟩ := get_lt hlt
     have hcn := mfreeK_next (l := l) (out := out) hx
     have hbl := bnd_len d k
     have hxs := D.size_kid_lt (inner_mem hxm)
     have hbb2 : (l.length + (bnd d k).length) * 16 ≤ 140737488355328 := by omega
     have hfl := mfreeK_len (d := d) (l := l) (out := out) (k := k)
     refine awp_skip ?_
     refine awp_seq (awp_block ?_)
     refine awp_seq (aR (by simp [go_sem, htk, hbb, hm0, hx, hbb2, allSz_str] <;> rfl) ?_)
     refine awp_regDC tyOk tySz 8 (by kernel_rfl) (by decide) ?_
     refine ul_run 2 (by simp [go_sem, htk, hbb, hm0, hx, hbb2, allSz_str] <;> rfl) ?_
     refine ul_fn (by first | (intro _ _ hh; exact hh) | simp [go_sem]) rfl rfl rfl rfl (by simp [go_sem, htk, hbb, hm0, hx, hbb2, allSz_str] <;> rfl) call196 ((c_Clip l) _ (by exact hgl)) (by simp [go_sem, htk, hbb, hm0, hx, hbb2, allSz_str] <;> rfl) (by simp [go_sem, htk, hbb, hm0, hx, hbb2, allSz_str]) rfl rfl ?_
     refine ul_run 2 (by simp [go_sem, htk, hbb, hm0, hx, hbb2, allSz_str] <;> rfl) ?_
     refine ul_fn (by first | (intro _ _ hh; exact hh) | simp [go_sem]) rfl rfl rfl rfl (by simp [go_sem, htk, hbb, hm0, hx, hbb2, allSz_str] <;> rfl) call222 ((c_bound d hg k (by omega)) _ (by exact hgl)) (by simp [go_sem, htk, hbb, hm0, hx, hbb2, allSz_str] <;> rfl) (by simp [go_sem, htk, hbb, hm0, hx, hbb2, allSz_str]) rfl rfl ?_
     refine ul_run 2 (by simp [go_sem, htk, hbb, hm0, hx, hbb2, allSz_str] <;> rfl) ?_
     refine ul_nil ?_
     refine al_callW rfl rfl rfl (by simp [go_sem, htk, hbb, hm0, hx, hbb2, allSz_str] <;> rfl) call144 (ih x (inner_mem hxm) (l ++ bnd d k) (mfreeK d l out k) _ kt (by exact hgl) (hg.part hxm) (by have := sizes_take hx; have := inner_sizes d; have := D.size_kids d; simp; omega) (by exact tok_get_app htk)) (by simp [go_sem, htk, hbb, hm0, hx, hbb2, allSz_str] <;> rfl) (by simp [go_sem, htk, hbb, hm0, hx, hbb2, allSz_str]) rfl rfl ?_
     rintro r σ' ⟨rfl, rfl⟩
     refine aL 1 (by simp [go_sem, htk, hbb, hm0, hx, hbb2, allSz_str] <;> rfl) ?_
     refine al_nil ?_
     refine aR (by simp [go_sem, htk, hbb, hm0, hx, hbb2, allSz_str] <;> rfl) ?_
     exact next_intro (k + 1) σ.objs.length σ.toks.length 1 (hlt) (by omega) ⟨by show σ.tok kt (mfreeK d l out (k + 1)).length = Store.cut _ _ _; rw [hcn]; exact (tok_cutA hkt).symm, rfl, by simp, by simp, by simp [go_sem, htk, hbb, hm0, hx, hbb2, allSz_str, hw, hcn, hkt], fun ob h => .inl (by simpa [go_sem, htk, hbb, hm0, hx, hbb2, allSz_str, hw, hcn, hkt] using h), by simp [go_sem]⟩
    ·have hke : k = (inner d).length := by simp at h3; omega
     subst hke
     refine awp_exit ?_
     refine then_exit ?_
     refine then_exit ?_
     refine inBlock_hit ?_
     refine awp_seq (aR (by simp [go_sem, htk, hbb, hm0] <;> rfl) ?_)
     refine awp_ret ?_
     have hM := mfreeK_all (d := d) (l := l) (out := out) (by simp only [memB, h0, h1, h2]; rfl)
     refine ends_ret (by simp [go_sem] <;> rfl) (by simp [go_sem]) ?_
     exact ⟨by simp [go_sem, hM], by simp [go_sem, hM]⟩
  ·refine aK 5 19 true ?_
   refine aL 1 (by simp [go_sem, htk, hbb, hm0] <;> rfl) ?_
   refine al_nil ?_
   refine awp_cond (b := false) (by simp [go_sem, htk, hbb, hm0, h0, h1]) (fun h => ?_) (fun h => ?_)
   ·cases h
   refine awp_skip ?_
   refine awp_seq (awp_seq (awp_reg ?_))
   refine aL 1 (by simp [go_sem, htk, hbb, hm0] <;> rfl) ?_
   refine aF call149 ((c_Inner d hg.ne hg.n) _ (by exact hgl)) (by simp [go_sem, htk, hbb, hm0] <;> rfl) (by simp [go_sem, htk, hbb, hm0]) ?_
   refine aL 2 (by simp [go_sem, htk, hbb, hm0] <;> rfl) ?_
   refine al_nil ?_
   refine awp_block ?_
   refine awp_loop_headK σ.objs.length σ.toks.length 1 [1, 3, 6, 32, 33] (fun k : Nat => [(2, .acc ((mfreeK d l out k).map .str) kt), (34, .pv (.int .i64 ↑k))]) (fun k => σ.tok kt (mfreeK d l out k).length) (fun k => k ≤ (inner d).length) (fun k => (inner d).length - k) 0 (Nat.zero_le _) ⟨by show σ.tok kt (mfreeK d l out 0).length = _; rw [hm0, tok_self htk rfl]; exact (cut_full σ).symm, rfl, by simp, by simp, by simp [go_sem, htk, hbb, hm0, hkt], fun ob h => .inl (by simpa [go_sem, htk, hbb, hm0, hkt] using h), by simp [go_sem]⟩ ?_
   intro k hk
   refine awp_seq (aR (by simp [go_sem, htk, hbb, hm0] <;> rfl) ?_)
   refine awp_seq (awp_cond (by first | rfl | (simp [go_sem, htk, hbb, hm0] <;> rfl)) (fun h4 => ?_) (fun h4 => ?_))
   ·have hlt : k < (inner d).length := by simp at h4; omega
    have hw : IntKind.i64.wrap (↑k + 1) = (k : Int) + 1 := wrap_succ (by omega)
    obtain ⟨x, hx, hxm⟩ := get_lt hlt
    have hcn := mfreeK_next (l := l) (out := out) hx
    have hbl := bnd_len d k
    have hxs := D.size_kid_lt (inner_mem hxm)
    have hbb2 : (l.length + (bnd d k).length) * 16 ≤ 140737488355328 := by omega
    have hfl := mfreeK_len (d := d) (l := l) (out := out) (k := k)
    refine awp_skip ?_
    refine awp_seq (awp_block ?_)
    refine awp_seq (aR (by simp [go_sem, htk, hbb, hm0, hx, hbb2, allSz_str] <;> rfl) ?_)
    refine awp_regDC tyOk tySz 8 (by kernel_rfl) (by decide) ?_
    refine ul_run 2 (by simp [go_sem, htk, hbb, hm0, hx, hbb2, allSz_str] <;> rfl) ?_
    refine ul_fn (by first | (intro _ _ hh; exact hh) | simp [go_sem]) rfl rfl rfl rfl (by simp [go_sem, htk, hbb, hm0, hx, hbb2, allSz_str] <;> rfl) call196 ((c_Clip l) _ (by exact hgl)) (by simp [go_sem, htk, hbb, hm0, hx, hbb2, allSz_str] <;> rfl) (by simp [go_sem, htk, hbb, hm0, hx, hbb2, allSz_str]) rfl rfl ?_
    refine ul_run 2 (by simp [go_sem, htk, hbb, hm0, hx, hbb2, allSz_str] <;> rfl) ?_
    refine ul_fn (by first | (intro _ _ hh; exact hh) | simp [go_sem]) rfl rfl rfl rfl (by simp [go_sem, htk, hbb, hm0, hx, hbb2, allSz_str] <;> rfl) call222 ((c_bound d hg k (by omega)) _ (by exact hgl)) (by simp [go_sem, htk, hbb, hm0, hx, hbb2, allSz_str] <;> rfl) (by simp [go_sem, htk, hbb, hm0, hx, hbb2, allSz_str]) rfl rfl ?_
    refine ul_run 2 (by simp [go_sem, htk, hbb, hm0, hx, hbb2, allSz_str] <;> rfl) ?_
    refine ul_nil ?_
    refine al_callW rfl rfl rfl (by simp [go_sem, htk, hbb, hm0, hx, hbb2, allSz_str] <;> rfl) call144 (ih x (inner_mem hxm) (l ++ bnd d k) (mfreeK d l out k) _ kt (by exact hgl) (hg.part hxm) (by have := sizes_take hx; have := inner_sizes d; have := D.size_kids d; simp; omega) (by exact tok_get_app htk)) (by simp [go_sem, htk, hbb, hm0, hx, hbb2, allSz_str] <;> rfl) (by simp [go_sem, htk, hbb, hm0, hx, hbb2, allSz_str]) rfl rfl ?_
    rintro r σ' ⟨rfl, rfl⟩
    refine aL 1 (by simp [go_sem, htk, hbb, hm0, hx, hbb2, allSz_str] <;> rfl) ?_
    refine al_nil ?_
    refine aR (by simp [go_sem, htk, hbb, hm0, hx, hbb2, allSz_str] <;> rfl) ?_
    exact next_intro (k + 1) σ.objs.length σ.toks.length 1 (hlt) (by omega) ⟨by show σ.tok kt (mfreeK d l out (k + 1)).length = Store.cut _ _ _; rw [hcn]; exact (tok_cutA hkt).symm, rfl, by simp, by simp, by simp [go_sem, htk, hbb, hm0, hx, hbb2, allSz_str, hw, hcn, hkt], fun ob h => .inl (by simpa [go_sem, htk, hbb, hm0, hx, hbb2, allSz_str, hw, hcn, hkt] using h), by simp [go_sem]⟩
   ·have hke : k = (inner d).length := by simp at h4; omega
    subst hke
    refine awp_exit ?_
    refine then_exit ?_
    refine then_exit ?_
    refine inBlock_hit ?_
    refine awp_seq (aR (by simp [go_sem, htk, hbb, hm0] <;> rfl) ?_)
    refine awp_ret ?_
    have hM := mfreeK_all (d := d) (l := l) (out := out) (by simp only [memB, h0, h1]; rfl)
    refine ends_ret (by simp [go_sem] <;> rfl) (by simp [go_sem]) ?_
    exact ⟨by simp [go_sem, hM], by simp [go_sem, hM]⟩
 ·refine aK 5 12 true ?_
  refine aL 2 (by simp [go_sem, htk, hbb, hm0] <;> rfl) ?_
  refine aK 5 19 true ?_
  refine aL 1 (by simp [go_sem, htk, hbb, hm0] <;> rfl) ?_
  refine al_nil ?_
  refine awp_cond (b := false) (by simp [go_sem, htk, hbb, hm0, h0]) (fun h => ?_) (fun h => ?_)
  ·cases h
  refine awp_skip ?_
  refine awp_seq (awp_seq (awp_reg ?_))
  refine aL 1 (by simp [go_sem, htk, hbb, hm0] <;> rfl) ?_
  refine aF call149 ((c_Inner d hg.ne hg.n) _ (by exact hgl)) (by simp [go_sem, htk, hbb, hm0] <;> rfl) (by simp [go_sem, htk, hbb, hm0]) ?_
  refine aL 2 (by simp [go_sem, htk, hbb, hm0] <;> rfl) ?_
  refine al_nil ?_
  refine awp_block ?_
  refine awp_loop_headK σ.objs.length σ.toks.length 1 [1, 3, 6, 32, 33] (fun k : Nat => [(2, .acc ((mfreeK d l out k).map .str) kt), (34, .pv (.int .i64 ↑k))]) (fun k => σ.tok kt (mfreeK d l out k).length) (fun k => k ≤ (inner d).length) (fun k => (inner d).length - k) 0 (Nat.zero_le _) ⟨by show σ.tok kt (mfreeK d l out 0).length = _; rw [hm0, tok_self htk rfl]; exact (cut_full σ).symm, rfl, by simp, by simp, by simp [go_sem, htk, hbb, hm0, hkt], fun ob h => .inl (by simpa [go_sem, htk, hbb, hm0, hkt] using h), by simp [go_sem]⟩ ?_
  intro k hk
  refine awp_seq (aR (by simp [go_sem, htk, hbb, hm0] <;> rfl) ?_)
  refine awp_seq (awp_cond (by first | rfl | (simp [go_sem, htk, hbb, hm0] <;> rfl)) (fun h5 => ?_) (fun h5 => ?_))
  ·have hlt : k < (inner d).length := by simp at h5; omega
   have hw : IntKind.i64.wrap (↑k + 1) = (k : Int) + 1 := wrap_succ (by omega)
   obtain ⟨x, hx, hxm⟩ := get_lt hlt
   have hcn := mfreeK_next (l := l) (out := out) hx
   have hbl := bnd_len d k
   have hxs := D.size_kid_lt (inner_mem hxm)
   have hbb2 : (l.length + (bnd d k).length) * 16 ≤ 140737488355328 := by omega
   have hfl := mfreeK_len (d := d) (l := l) (out := out) (k := k)
   refine awp_skip ?_
   refine awp_seq (awp_block ?_)
   refine awp_seq (aR (by simp [go_sem, htk, hbb, hm0, hx, hbb2, allSz_str] <;> rfl) ?_)
   refine awp_regDC tyOk tySz 8 (by kernel_rfl) (by decide) ?_
   refine ul_run 2 (by simp [go_sem, htk, hbb, hm0, hx, hbb2, allSz_str] <;> rfl) ?_
   refine ul_fn (by first | (intro _ _ hh; exact hh) | simp [go_sem]) rfl rfl rfl rfl (by simp [go_sem, htk, hbb, hm0, hx, hbb2, allSz_str] <;> rfl) call196 ((c_Clip l) _ (by exact hgl)) (by simp [go_sem, htk, hbb, hm0, hx, hbb2, allSz_str] <;> rfl) (by simp [go_sem, htk, hbb, hm0, hx, hbb2, allSz_str]) rfl rfl ?_
   refine ul_run 2 (by simp [go_sem, htk, hbb, hm0, hx, hbb2, allSz_str] <;> rfl) ?_
   refine ul_fn (by first | (intro _ _ hh; exact hh) | simp [go_sem]) rfl rfl rfl rfl (by simp [go_sem, htk, hbb, hm0, hx, hbb2, allSz_str] <;> rfl) call222 ((c_bound d hg k (by omega)) _ (by exact hgl)) (by simp [go_sem, htk, hbb, hm0, hx, hbb2, allSz_str] <;> rfl) (by simp [go_sem, htk, hbb, hm0, hx, hbb2, allSz_str]) rfl rfl ?_
   refine ul_run 2 (by simp [go_sem, htk, hbb, hm0, hx, hbb2, allSz_str] <;> rfl) ?_
   refine ul_nil ?_
   refine al_callW rfl rfl rfl (by simp [go_sem, htk, hbb, hm0, hx, hbb2, allSz_str] <;> rfl) call144 (ih x (inner_mem hxm) (l ++ bnd d k) (mfreeK d l out k) _ kt (by exact hgl) (hg.part hxm) (by have := sizes_take hx; have := inner_sizes d; have := D.size_kids d; simp; omega) (by exact tok_get_app htk)) (by simp [go_sem, htk, hbb, hm0, hx, hbb2, allSz_str] <;> rfl) (by simp [go_sem, htk, hbb, hm0, hx, hbb2, allSz_str]) rfl rfl ?_
   rintro r σ' ⟨rfl, rfl⟩
   refine aL 1 (by simp [go_sem, htk, hbb, hm0, hx, hbb2, allSz_str] <;> rfl) ?_
   refine al_nil ?_
   refine aR (by simp [go_sem, htk, hbb, hm0, hx, hbb2, allSz_str] <;> rfl) ?_
   exact next_intro (k + 1) σ.objs.length σ.toks.length 1 (hlt) (by omega) ⟨by show σ.tok kt (mfreeK d l out (k + 1)).length = Store.cut _ _ _; rw [hcn]; exact (tok_cutA hkt).symm, rfl, by simp, by simp, by simp [go_sem, htk, hbb, hm0, hx, hbb2, allSz_str, hw, hcn, hkt], fun ob h => .inl (by simpa [go_sem, htk, hbb, hm0, hx, hbb2, allSz_str, hw, hcn, hkt] using h), by simp [go_sem]⟩
  ·have hke : k = (inner d).length := by simp at h5; omega
   subst hke
   refine awp_exit ?_
   refine then_exit ?_
   refine then_exit ?_
   refine inBlock_hit ?_
   refine awp_seq (aR (by simp [go_sem, htk, hbb, hm0] <;> rfl) ?_)
   refine awp_ret ?_
   have hM := mfreeK_all (d := d) (l := l) (out := out) (by simp only [memB, h0]; rfl)
   refine ends_ret (by simp [go_sem] <;> rfl) (by simp [go_sem]) ?_
   exact ⟨by simp [go_sem, hM], by simp [go_sem, hM]⟩

def pSize (_ : D) : Bool := true
theorem free_adopt (d : D) (hg : GoodM d) (hd : d.size ≤ 100000000) (σ : Store) (hgl : σ.gl = (GL kr)) : ACalls Tryz.prog 144 [.pv (enc d), .pv (.slice []), .pv .nils] σ (fun r σ' => r = .acc ((mfree d [] []).map .str) σ.toks.length ∧ σ'.cut σ.objs.length σ.toks.length = σ) := by
  refine ACalls.adoptArg (pre := [.pv (enc d), .pv (.slice [])]) (post := []) (e := 9) (sz := 1) ?_
  refine (c_free (kr := kr) d [] [] { σ with toks := σ.toks ++ [⟨0, 9, 1⟩] } σ.toks.length (by exact hgl) hg (by simp; omega) (by simp)).mono ?_
  rintro r σ' ⟨rfl, rfl⟩
  refine ⟨rfl, ?_⟩
  simp only [Store.cut, Store.tok, List.take_length]
  congr 1
  apply List.ext_getElem?
  intro j
  rw [List.getElem?_take]
  split
  · rename_i hj
    have hne : σ.toks.length ≠ j := by omega
    rw [List.getElem?_modify, List.getElem?_append_left hj]
    simp [hne]
  · rename_i hj
    rw [List.getElem?_eq_none (by omega)]

set_option maxHeartbeats 1000000 in
theorem c_FreeNames (d : D) (hg : GoodM d) (hd : d.size ≤ 100000000) : Pur Tryz.prog (GL kr) 73 [.pv (enc d)] (.pv (.slice ((mfree d [] []).map .str))) := by
 refine pur_of fun σ hgl => ?_
 refine acalls_of tyOk Tryz.func73 rfl (by simp [Tryz.f73]) ?_
 refine awp_seq (aR (by simp [go_sem] <;> rfl) ?_)
 refine awp_seq (awp_reg ?_)
 refine aL 1 (by simp [go_sem] <;> rfl) ?_
 refine al_callW rfl rfl rfl (by simp [go_sem] <;> rfl) call144 (free_adopt d hg hd σ hgl) (by simp [go_sem] <;> rfl) (by simp [go_sem]) rfl rfl ?_
 rintro r σ' ⟨rfl, hcut⟩
 refine aL 1 (by simp [go_sem] <;> rfl) ?_
 refine al_nil ?_
 refine awp_ret ?_
 refine ends_ret (by simp [go_sem] <;> rfl) (by simp [go_sem]) ?_
 exact ⟨by simp [go_sem], hcut⟩

set_option maxHeartbeats 1000000 in
theorem c_count (d : D) : ∀ (hg : GoodM d) (hd : d.size ≤ 1000000000) (f : FuncId) (hc : Callable Tryz.prog f) (caps : List AV) (hcaps : AV.noLs caps = true) (p : D → Bool) (σ : Store) (hgl : σ.gl = (GL kr)) (hp : ∀ x, x ∈ mall d → PurAt Tryz.prog σ f (.pv (enc x) :: caps) (.pv (.bool (p x)))), PurAt Tryz.prog σ 145 [.pv (enc d), .func (.func f) caps] (.pv (.int .i64 (mcount p d))) := by
 induction d using D.ind with
 | _ kind num text kids ih =>
 generalize hD : D.mk kind num text kids = d at *
 have hk : d.kids = kids := by rw [← hD]; rfl
 clear hD
 subst hk
 have hkl := D.kids_length_lt d
 have hil := inner_len d
 intro hg hd f hc caps hcaps p σ hgl hp
 refine purAt_of ?_
 have hmc : ∀ k, mcountK p d k ≤ 1000000000 := fun k => Nat.le_trans mcountK_le (Nat.le_trans mcount_le hd)
 have hpd := hp d (by rw [mall_eq]; simp)
 refine acalls_ofC tyOk Tryz.func145 rfl (by simp [Tryz.f145]) (by simp [go_sem, hcaps]) fun hclo => ?_
 simp [go_sem] at hclo
 refine awp_seq ?_
 have hcl := fun nl => AV.clos_mono (Nat.le_refl σ.objs.length) (Nat.le_refl σ.toks.length) (Nat.zero_le nl) caps (by simpa using hclo)
 refine aR (by simp [go_sem, hcaps, hcl] <;> rfl) ?_
 refine awp_seq (aR (by simp [go_sem, hcaps, hcl] <;> rfl) ?_)
 refine awp_seq (awp_seq (awp_reg ?_))
 refine aL 2 (by simp [go_sem, hcaps, hcl] <;> rfl) ?_
 refine al_fn rfl rfl rfl (by simp [go_sem, hcaps, hcl] <;> rfl) hc (hpd) (by simp [go_sem, hcaps, hcl] <;> rfl) (by simp [go_sem, hcaps, hcl]) (by simp [go_sem, hcaps]) rfl ?_
 refine al_nil ?_
 refine awp_cond (by first | rfl | (simp [go_sem, hcaps, hcl] <;> rfl)) (fun h0 => ?_) (fun h0 => ?_)
 ·have hz0 : (mcountK p d 0 : Int) = 1 := by rw [mcountK_zero, if_pos h0]; rfl
  refine aR (by simp [go_sem, hcaps, hcl] <;> rfl) ?_
  refine awp_seq (awp_seq (awp_reg ?_))
  refine aL 1 (by simp [go_sem, hcaps, hcl] <;> rfl) ?_
  refine aF call149 ((c_Inner d hg.ne hg.n) _ (by exact hgl)) (by simp [go_sem, hcaps, hcl] <;> rfl) (by simp [go_sem, hcaps, hcl]) ?_
  refine aL 2 (by simp [go_sem, hcaps, hcl] <;> rfl) ?_
  refine al_nil ?_
  refine awp_block ?_
  refine awp_loop_headK σ.objs.length σ.toks.length 1 [1, 4, 12, 13] (fun k : Nat => [(5, .pv (.int .i64 (mcountK p d k))), (14, .pv (.int .i64 ↑k))]) (fun k => σ) (fun k => k ≤ (inner d).length) (fun k => (inner d).length - k) 0 (Nat.zero_le _) ⟨by simp [go_sem, hcaps, hcl, hz0], rfl, by simp, by simp, by simp [go_sem, hcaps, hcl, hz0], fun ob h => .inl (by simpa [go_sem, hcaps, hcl, hz0] using h), by simp [go_sem]⟩ ?_
  intro k hk
  refine awp_seq (aR (by simp [go_sem, hcaps, hcl] <;> rfl) ?_)
  refine awp_seq (awp_cond (by first | rfl | (simp [go_sem, hcaps, hcl] <;> rfl)) (fun h1 => ?_) (fun h1 => ?_))
  ·have hlt : k < (inner d).length := by simp at h1; omega
   have hw : IntKind.i64.wrap (↑k + 1) = (k : Int) + 1 := wrap_succ (by omega)
   obtain ⟨x, hx, hxm⟩ := get_lt hlt
   have hcn := mcountK_next (p := p) hx
   have hck := hmc (k + 1)
   have hwc : IntKind.i64.wrap ((mcountK p d k : Int) + (mcount p x : Int)) = (mcountK p d k : Int) + (mcount p x : Int) := wrap_id (by omega) (by omega)
   have hci : (mcountK p d (k + 1) : Int) = (mcountK p d k : Int) + (mcount p x : Int) := by omega
   refine awp_skip ?_
   refine awp_seq (awp_block ?_)
   refine awp_seq (aR (by simp [go_sem, hcaps, hcl, hx, hwc] <;> rfl) ?_)
   refine awp_reg ?_
   refine aL 3 (by simp [go_sem, hcaps, hcl, hx, hwc] <;> rfl) ?_
   refine al_fn rfl rfl rfl (by simp [go_sem, hcaps, hcl, hx, hwc] <;> rfl) call145 (ih x (inner_mem hxm) (hg.part hxm) (by have := D.size_kid_lt (inner_mem hxm); omega) f hc caps hcaps p σ hgl (fun y hy => hp y (by rw [mall_eq]; exact List.mem_cons_of_mem _ (List.mem_flatMap.2 ⟨x, hxm, hy⟩)))) (by simp [go_sem, hcaps, hcl, hx, hwc] <;> rfl) (by simp [go_sem, hcaps, hcl, hx, hwc]) (by simp [go_sem, hcaps]) rfl ?_
   refine aL 2 (by simp [go_sem, hcaps, hcl, hx, hwc] <;> rfl) ?_
   refine al_nil ?_
   refine aR (by simp [go_sem, hcaps, hcl, hx, hwc] <;> rfl) ?_
   exact next_intro (k + 1) σ.objs.length σ.toks.length 1 (hlt) (by omega) ⟨by simp [go_sem, hcaps, hcl, hx, hwc, hw, hci], rfl, by simp, by simp, by simp [go_sem, hcaps, hcl, hx, hwc, hw, hci], fun ob h => .inl (by simpa [go_sem, hcaps, hcl, hx, hwc, hw, hci] using h), by simp [go_sem]⟩
  ·have hke : k = (inner d).length := by simp at h1; omega
   subst hke
   have hca := mcountK_all (p := p) (d := d)
   refine awp_exit ?_
   refine then_exit ?_
   refine then_exit ?_
   refine inBlock_hit ?_
   refine awp_seq (aR (by simp [go_sem, hcaps, hcl, hca] <;> rfl) ?_)
   refine awp_ret ?_
   refine ends_ret (by simp [go_sem, hcaps, hcl, hca] <;> rfl) (by simp [go_sem]) ?_
   exact ⟨by simp [go_sem, hcaps, hcl, hca, h0], by simp [go_sem]⟩
 ·have hz0 : (mcountK p d 0 : Int) = 0 := by rw [mcountK_zero, if_neg (by rw [h0]; decide)]; rfl
  refine awp_skip ?_
  refine awp_seq (awp_seq (awp_reg ?_))
  refine aL 1 (by simp [go_sem, hcaps, hcl] <;> rfl) ?_
  refine aF call149 ((c_Inner d hg.ne hg.n) _ (by exact hgl)) (by simp [go_sem, hcaps, hcl] <;> rfl) (by simp [go_sem, hcaps, hcl]) ?_
  refine aL 2 (by simp [go_sem, hcaps, hcl] <;> rfl) ?_
  refine al_nil ?_
  refine awp_block ?_
  refine awp_loop_headK σ.objs.length σ.toks.length 1 [1, 4, 12, 13] (fun k : Nat => [(5, .pv (.int .i64 (mcountK p d k))), (14, .pv (.int .i64 ↑k))]) (fun k => σ) (fun k => k ≤ (inner d).length) (fun k => (inner d).length - k) 0 (Nat.zero_le _) ⟨by simp [go_sem, hcaps, hcl, hz0], rfl, by simp, by simp, by simp [go_sem, hcaps, hcl, hz0], fun ob h => .inl (by simpa [go_sem, hcaps, hcl, hz0] using h), by simp [go_sem]⟩ ?_
  intro k hk
  refine awp_seq (aR (by simp [go_sem, hcaps, hcl] <;> rfl) ?_)
  refine awp_seq (awp_cond (by first | rfl | (simp [go_sem, hcaps, hcl] <;> rfl)) (fun h2 => ?_) (fun h2 => ?_))
  ·have hlt : k < (inner d).length := by simp at h2; omega
   have hw : IntKind.i64.wrap (↑k + 1) = (k : Int) + 1 := wrap_succ (by omega)
   obtain ⟨x, hx, hxm⟩ := get_lt hlt
   have hcn := mcountK_next (p := p) hx
   have hck := hmc (k + 1)
   have hwc : IntKind.i64.wrap ((mcountK p d k : Int) + (mcount p x : Int)) = (mcountK p d k : Int) + (mcount p x : Int) := wrap_id (by omega) (by omega)
   have hci : (mcountK p d (k + 1) : Int) = (mcountK p d k : Int) + (mcount p x : Int) := by omega
   refine awp_skip ?_
   refine awp_seq (awp_block ?_)
   refine awp_seq (aR (by simp [go_sem, hcaps, hcl, hx, hwc] <;> rfl) ?_)
   refine awp_reg ?_
   refine aL 3 (by simp [go_sem, hcaps, hcl, hx, hwc] <;> rfl) ?_
   refine al_fn rfl rfl rfl (by simp [go_sem, hcaps, hcl, hx, hwc] <;> rfl) call145 (ih x (inner_mem hxm) (hg.part hxm) (by have := D.size_kid_lt (inner_mem hxm); omega) f hc caps hcaps p σ hgl (fun y hy => hp y (by rw [mall_eq]; exact List.mem_cons_of_mem _ (List.mem_flatMap.2 ⟨x, hxm, hy⟩)))) (by simp [go_sem, hcaps, hcl, hx, hwc] <;> rfl) (by simp [go_sem, hcaps, hcl, hx, hwc]) (by simp [go_sem, hcaps]) rfl ?_
   refine aL 2 (by simp [go_sem, hcaps, hcl, hx, hwc] <;> rfl) ?_
   refine al_nil ?_
   refine aR (by simp [go_sem, hcaps, hcl, hx, hwc] <;> rfl) ?_
   exact next_intro (k + 1) σ.objs.length σ.toks.length 1 (hlt) (by omega) ⟨by simp [go_sem, hcaps, hcl, hx, hwc, hw, hci], rfl, by simp, by simp, by simp [go_sem, hcaps, hcl, hx, hwc, hw, hci], fun ob h => .inl (by simpa [go_sem, hcaps, hcl, hx, hwc, hw, hci] using h), by simp [go_sem]⟩
  ·have hke : k = (inner d).length := by simp at h2; omega
   subst hke
   have hca := mcountK_all (p := p) (d := d)
   refine awp_exit ?_
   refine then_exit ?_
   refine then_exit ?_
   refine inBlock_hit ?_
   refine awp_seq (aR (by simp [go_sem, hcaps, hcl, hca] <;> rfl) ?_)
   refine awp_ret ?_
   refine ends_ret (by simp [go_sem, hcaps, hcl, hca] <;> rfl) (by simp [go_sem]) ?_
   exact ⟨by simp [go_sem, hcaps, hcl, hca, h0], by simp [go_sem]⟩

set_option maxHeartbeats 1000000 in
theorem c_Size_1 (d : D) : Pur Tryz.prog (GL kr) 157 [.pv (enc d)] (.pv (.bool (pSize d))) := by
 refine pur_of fun σ hgl => ?_
 refine acalls_of tyOk Tryz.func157 rfl (by simp [Tryz.f157]) ?_
 refine awp_seq (aR (by simp [go_sem] <;> rfl) ?_)
 refine awp_seq (aR (by simp [go_sem] <;> rfl) ?_)
 refine awp_ret ?_
 refine ends_ret (by simp [go_sem] <;> rfl) (by simp [go_sem]) ?_
 exact ⟨by simp [go_sem, pSize], by simp [go_sem]⟩

set_option maxHeartbeats 1000000 in
theorem c_mSize (d : D) (hd : d.size ≤ 1000000000) : Pur Tryz.prog (GL kr) 80 [.pv (enc d)] (.tuple [.pv (.int .i64 (if (mcheck d != 0) = true then 0 else ((mcount pSize d : Nat) : Int))), .pv (.int .i64 (mcheck d))]) := by
 refine pur_of fun σ hgl => ?_
 refine acalls_of tyOk Tryz.func80 rfl (by simp [Tryz.f80]) ?_
 refine awp_seq (aR (by simp [go_sem] <;> rfl) ?_)
 refine awp_seq (awp_seq (awp_reg ?_))
 refine aL 1 (by simp [go_sem] <;> rfl) ?_
 refine aF call72 ((c_mCheck d hd) _ (by exact hgl)) (by simp [go_sem] <;> rfl) (by simp [go_sem]) ?_
 refine aL 1 (by simp [go_sem] <;> rfl) ?_
 refine al_nil ?_
 refine awp_seq (aR (by simp [go_sem] <;> rfl) ?_)
 refine awp_cond (by first | rfl | (simp [go_sem] <;> rfl)) (fun h0 => ?_) (fun h0 => ?_)
 ·refine awp_seq ?_
  refine aR (by simp [go_sem] <;> rfl) ?_
  refine awp_ret ?_
  refine then_ret ?_
  refine ends_ret (by simp [go_sem] <;> rfl) (by simp [go_sem]) ?_
  exact ⟨by simp [go_sem, h0], by simp [go_sem]⟩
 ·have hz : mcheck d = 0 := by simpa using h0
  refine awp_skip ?_
  refine awp_seq (awp_reg ?_)
  refine aL 1 (by simp [go_sem] <;> rfl) ?_
  refine aF call145 (c_count d (mcheck_good hz) hd 157 call157 [] rfl pSize σ hgl (fun x _ => c_Size_1 x σ hgl)) (by simp [go_sem] <;> rfl) (by simp [go_sem]) ?_
  refine aL 2 (by simp [go_sem] <;> rfl) ?_
  refine al_nil ?_
  refine awp_ret ?_
  refine ends_ret (by simp [go_sem] <;> rfl) (by simp [go_sem]) ?_
  exact ⟨by simp [go_sem, hz], by simp [go_sem]⟩

end Go.Proofs.YtnibcmaaehkhlaaGreatDoor

namespace Go.Proofs.YtnibcmaaehkhlaaGreatDoor
open Go Go.Aw
variable {kr : KR}
set_option maxHeartbeats 1000000 in
theorem c_one_1 (d : D) (hg : GoodM d) : Pur Tryz.prog (GL kr) 146 [.pv (enc d)] (.pv (.bool (pOne d))) := by
 refine pur_of fun σ hgl => ?_
 refine acalls_of tyOk Tryz.func146 rfl (by simp [Tryz.f146]) ?_
 refine awp_seq (aR (by simp [go_sem] <;> rfl) ?_)
 refine awp_seq (awp_reg ?_)
 refine aL 1 (by simp [go_sem] <;> rfl) ?_
 refine aF call147 ((c_Is d sLift hg.ne) _ (by exact hgl)) (by simp [go_sem] <;> rfl) (by simp [go_sem, eLift]) ?_
 refine aL 1 (by simp [go_sem] <;> rfl) ?_
 refine al_splitT 5 (by first | rfl | (simp [go_sem] <;> rfl)) (fun h0 => ?_) (fun h0 => ?_)
 ·refine aK 2 5 false ?_
  refine aL 2 (by simp [go_sem] <;> rfl) ?_
  refine al_nil ?_
  refine awp_ret ?_
  refine ends_ret (by simp [go_sem] <;> rfl) (by simp [go_sem]) ?_
  exact ⟨by simp only [pOne, h0, bA, bB, bC, bD, bE, bF, bG, bH, bI, bJ, Bool.false_eq_true, if_true, if_false]; simp [go_sem], by simp [go_sem]⟩
 ·refine aLG 1 5 false (by simp [go_sem] <;> rfl) ?_
  refine al_fnG 5 false false (by simp [go_sem]) rfl (by simp [go_sem]) rfl rfl (by simp [go_sem] <;> rfl) call147 ((c_Is d sRun hg.ne) _ (by exact hgl)) (by simp [go_sem] <;> rfl) (by simp [go_sem, eRun]) rfl rfl ?_
  refine aL 2 (by simp [go_sem] <;> rfl) ?_
  refine al_nil ?_
  refine awp_ret ?_
  refine ends_ret (by simp [go_sem] <;> rfl) (by simp [go_sem]) ?_
  exact ⟨by simp only [pOne, h0, bA, bB, bC, bD, bE, bF, bG, bH, bI, bJ, Bool.false_eq_true, if_true, if_false]; simp [go_sem], by simp [go_sem]⟩

set_option maxHeartbeats 1000000 in
theorem c_one (d : D) (hg : GoodM d) (hd : d.size ≤ 1000000000) : Pur Tryz.prog (GL kr) 74 [.pv (enc d)] (.pv (.bool (mone d))) := by
 refine pur_of fun σ hgl => ?_
 refine acalls_of tyOk Tryz.func74 rfl (by simp [Tryz.f74]) ?_
 refine awp_seq (aR (by simp [go_sem] <;> rfl) ?_)
 refine awp_seq (awp_reg ?_)
 refine aL 1 (by simp [go_sem] <;> rfl) ?_
 refine aF call145 (c_count d hg hd 146 call146 [] rfl pOne σ hgl (fun x hx => c_one_1 x (mall_good hg x hx) σ hgl)) (by simp [go_sem] <;> rfl) (by simp [go_sem]) ?_
 refine aL 2 (by simp [go_sem] <;> rfl) ?_
 refine al_nil ?_
 refine awp_ret ?_
 refine ends_ret (by simp [go_sem] <;> rfl) (by simp [go_sem]) ?_
 exact ⟨by simp [go_sem, mone], by simp [go_sem]⟩

end Go.Proofs.YtnibcmaaehkhlaaGreatDoor

namespace Go.Proofs.YtnibcmaaehkhlaaGreatDoor
open Go Go.Aw
variable {kr : KR}
def ren171 : Go.Shelf.Ren := ⟨fun x => match x with | 171 => 58 | 243 => 125 | 246 => 201 | 283 => 240 | 284 => 241 | 285 => 242 | 286 => 243 | 129 => 258 | 317 => 257 | 318 => 259 | 319 => 260 | 320 => 261 | 337 => 279 | 338 => 280 | n => n, fun x => match x with | 0 => 0 | 2 => 2 | 3 => 3 | 4 => 4 | 5 => 5 | 9 => 9 | 20 => 20 | 37 => 240 | 46 => 263 | 51 => 271 | 53 => 175 | 171 => 250 | 173 => 253 | 212 => 270 | 213 => 272 | 232 => 304 | 233 => 305 | n => n, fun x => match x with | 17 => 4 | 18 => 8 | 19 => 9 | n => n⟩
theorem lays171 : Go.Proofs.LaysM.n171 Tryz.prog ren171 :=
  {
    mixed := by kernel_rfl,
    f129 := Eq.trans Tryz.func258 (congrArg some (by kernel_rfl)),
    f171 := Eq.trans Tryz.func58 (congrArg some (by kernel_rfl)),
    f243 := Eq.trans Tryz.func125 (congrArg some (by kernel_rfl)),
    f246 := Eq.trans Tryz.func201 (congrArg some (by kernel_rfl)),
    f283 := Eq.trans Tryz.func240 (congrArg some (by kernel_rfl)),
    f284 := Eq.trans Tryz.func241 (congrArg some (by kernel_rfl)),
    f285 := Eq.trans Tryz.func242 (congrArg some (by kernel_rfl)),
    f286 := Eq.trans Tryz.func243 (congrArg some (by kernel_rfl)),
    f317 := Eq.trans Tryz.func257 (congrArg some (by kernel_rfl)),
    f318 := Eq.trans Tryz.func259 (congrArg some (by kernel_rfl)),
    f319 := Eq.trans Tryz.func260 (congrArg some (by kernel_rfl)),
    f320 := Eq.trans Tryz.func261 (congrArg some (by kernel_rfl)),
    f337 := Eq.trans Tryz.func279 (congrArg some (by kernel_rfl)),
    f338 := Eq.trans Tryz.func280 (congrArg some (by kernel_rfl)),
    t0 := Tryz.underlying0,
    a0 := Tryz.isAgg0,
    z0 := Tryz.sizeOf0,
    v0 := Tryz.zeroValue0,
    t2 := Tryz.underlying2,
    a2 := Tryz.isAgg2,
    z2 := Tryz.sizeOf2,
    v2 := Tryz.zeroValue2,
    t3 := Tryz.underlying3,
    a3 := Tryz.isAgg3,
    z3 := Tryz.sizeOf3,
    v3 := Tryz.zeroValue3,
    t4 := Tryz.underlying4,
    a4 := Tryz.isAgg4,
    z4 := Tryz.sizeOf4,
    v4 := Tryz.zeroValue4,
    t5 := Tryz.underlying5,
    a5 := Tryz.isAgg5,
    z5 := Tryz.sizeOf5,
    v5 := Tryz.zeroValue5,
    t9 := Tryz.underlying9,
    a9 := Tryz.isAgg9,
    z9 := Tryz.sizeOf9,
    v9 := Tryz.zeroValue9,
    t20 := Tryz.underlying20,
    a20 := Tryz.isAgg20,
    z20 := Tryz.sizeOf20,
    v20 := Tryz.zeroValue20,
    t37 := Tryz.underlying240,
    a37 := Tryz.isAgg240,
    z37 := Tryz.sizeOf240,
    v37 := Tryz.zeroValue240,
    t46 := Tryz.underlying263,
    a46 := Tryz.isAgg263,
    z46 := Tryz.sizeOf263,
    v46 := Tryz.zeroValue263,
    t51 := Tryz.underlying271,
    a51 := Tryz.isAgg271,
    z51 := Tryz.sizeOf271,
    v51 := Tryz.zeroValue271,
    t53 := Tryz.underlying175,
    a53 := Tryz.isAgg175,
    z53 := Tryz.sizeOf175,
    v53 := Tryz.zeroValue175,
    t171 := Tryz.underlying250,
    a171 := Tryz.isAgg250,
    z171 := Tryz.sizeOf250,
    v171 := Tryz.zeroValue250,
    t173 := Tryz.underlying253,
    a173 := Tryz.isAgg253,
    z173 := Tryz.sizeOf253,
    v173 := Tryz.zeroValue253,
    t212 := Tryz.underlying270,
    a212 := Tryz.isAgg270,
    z212 := Tryz.sizeOf270,
    v212 := Tryz.zeroValue270,
    t213 := Tryz.underlying272,
    a213 := Tryz.isAgg272,
    z213 := Tryz.sizeOf272,
    t232 := Tryz.underlying304,
    a232 := Tryz.isAgg304,
    z232 := Tryz.sizeOf304,
    v232 := Tryz.zeroValue304,
    t233 := Tryz.underlying305,
    a233 := Tryz.isAgg305,
    z233 := Tryz.sizeOf305,
    v233 := Tryz.zeroValue305,
    g17 := by kernel_rfl,
    g18 := by kernel_rfl,
    g19 := by kernel_rfl,
    i0 := by kernel_rfl,
    i2 := by kernel_rfl,
    i3 := by kernel_rfl,
    i4 := by kernel_rfl,
    i5 := by kernel_rfl,
    i9 := by kernel_rfl,
    i20 := by kernel_rfl,
    i37 := by kernel_rfl,
    i46 := by kernel_rfl,
    i51 := by kernel_rfl,
    i53 := by kernel_rfl,
    i171 := by kernel_rfl,
    i173 := by kernel_rfl,
    i212 := by kernel_rfl,
    i232 := by kernel_rfl,
    i233 := by kernel_rfl,
    m17 := by kernel_rfl,
    m18 := by kernel_rfl,
    m19 := by kernel_rfl }
def ren172 : Go.Shelf.Ren := ⟨fun x => match x with | 171 => 58 | 243 => 125 | 246 => 201 | 283 => 240 | 284 => 241 | 285 => 242 | 286 => 243 | 129 => 258 | 317 => 257 | 318 => 259 | 319 => 260 | 320 => 261 | 337 => 279 | 338 => 280 | 172 => 226 | 205 => 290 | 244 => 253 | 245 => 254 | 247 => 273 | 279 => 274 | 280 => 275 | 281 => 276 | 282 => 277 | 287 => 288 | 316 => 289 | 321 => 292 | 322 => 293 | n => n, fun x => match x with | 0 => 0 | 2 => 2 | 3 => 3 | 4 => 4 | 5 => 5 | 9 => 9 | 20 => 20 | 21 => 21 | 37 => 240 | 46 => 263 | 51 => 271 | 53 => 175 | 75 => 233 | 76 => 234 | 80 => 120 | 85 => 285 | 127 => 310 | 143 => 311 | 145 => 313 | 167 => 284 | 168 => 287 | 171 => 250 | 173 => 253 | 175 => 298 | 210 => 302 | 212 => 270 | 213 => 272 | 232 => 304 | 233 => 305 | n => n, fun x => match x with | 15 => 5 | 16 => 6 | 17 => 4 | 18 => 8 | 19 => 9 | n => n⟩
theorem lays172 : Go.Proofs.LaysC.n172 Tryz.prog ren172 :=
  {
    mixed := by kernel_rfl,
    f129 := Eq.trans Tryz.func258 (congrArg some (by kernel_rfl)),
    f171 := Eq.trans Tryz.func58 (congrArg some (by kernel_rfl)),
    f172 := Eq.trans Tryz.func226 (congrArg some (by kernel_rfl)),
    f205 := Eq.trans Tryz.func290 (congrArg some (by kernel_rfl)),
    f243 := Eq.trans Tryz.func125 (congrArg some (by kernel_rfl)),
    f244 := Eq.trans Tryz.func253 (congrArg some (by kernel_rfl)),
    f245 := Eq.trans Tryz.func254 (congrArg some (by kernel_rfl)),
    f246 := Eq.trans Tryz.func201 (congrArg some (by kernel_rfl)),
    f247 := Eq.trans Tryz.func273 (congrArg some (by kernel_rfl)),
    f279 := Eq.trans Tryz.func274 (congrArg some (by kernel_rfl)),
    f280 := Eq.trans Tryz.func275 (congrArg some (by kernel_rfl)),
    f281 := Eq.trans Tryz.func276 (congrArg some (by kernel_rfl)),
    f282 := Eq.trans Tryz.func277 (congrArg some (by kernel_rfl)),
    f283 := Eq.trans Tryz.func240 (congrArg some (by kernel_rfl)),
    f284 := Eq.trans Tryz.func241 (congrArg some (by kernel_rfl)),
    f285 := Eq.trans Tryz.func242 (congrArg some (by kernel_rfl)),
    f286 := Eq.trans Tryz.func243 (congrArg some (by kernel_rfl)),
    f287 := Eq.trans Tryz.func288 (congrArg some (by kernel_rfl)),
    f316 := Eq.trans Tryz.func289 (congrArg some (by kernel_rfl)),
    f317 := Eq.trans Tryz.func257 (congrArg some (by kernel_rfl)),
    f318 := Eq.trans Tryz.func259 (congrArg some (by kernel_rfl)),
    f319 := Eq.trans Tryz.func260 (congrArg some (by kernel_rfl)),
    f320 := Eq.trans Tryz.func261 (congrArg some (by kernel_rfl)),
    f321 := Eq.trans Tryz.func292 (congrArg some (by kernel_rfl)),
    f322 := Eq.trans Tryz.func293 (congrArg some (by kernel_rfl)),
    f337 := Eq.trans Tryz.func279 (congrArg some (by kernel_rfl)),
    f338 := Eq.trans Tryz.func280 (congrArg some (by kernel_rfl)),
    t0 := Tryz.underlying0,
    a0 := Tryz.isAgg0,
    z0 := Tryz.sizeOf0,
    v0 := Tryz.zeroValue0,
    t2 := Tryz.underlying2,
    a2 := Tryz.isAgg2,
    z2 := Tryz.sizeOf2,
    v2 := Tryz.zeroValue2,
    t3 := Tryz.underlying3,
    a3 := Tryz.isAgg3,
    z3 := Tryz.sizeOf3,
    v3 := Tryz.zeroValue3,
    t4 := Tryz.underlying4,
    a4 := Tryz.isAgg4,
    z4 := Tryz.sizeOf4,
    v4 := Tryz.zeroValue4,
    t5 := Tryz.underlying5,
    a5 := Tryz.isAgg5,
    z5 := Tryz.sizeOf5,
    v5 := Tryz.zeroValue5,
    t9 := Tryz.underlying9,
    a9 := Tryz.isAgg9,
    z9 := Tryz.sizeOf9,
    v9 := Tryz.zeroValue9,
    t20 := Tryz.underlying20,
    a20 := Tryz.isAgg20,
    z20 := Tryz.sizeOf20,
    v20 := Tryz.zeroValue20,
    t21 := Tryz.underlying21,
    a21 := Tryz.isAgg21,
    z21 := Tryz.sizeOf21,
    v21 := Tryz.zeroValue21,
    t37 := Tryz.underlying240,
    a37 := Tryz.isAgg240,
    z37 := Tryz.sizeOf240,
    v37 := Tryz.zeroValue240,
    t46 := Tryz.underlying263,
    a46 := Tryz.isAgg263,
    z46 := Tryz.sizeOf263,
    v46 := Tryz.zeroValue263,
    t51 := Tryz.underlying271,
    a51 := Tryz.isAgg271,
    z51 := Tryz.sizeOf271,
    v51 := Tryz.zeroValue271,
    t53 := Tryz.underlying175,
    a53 := Tryz.isAgg175,
    z53 := Tryz.sizeOf175,
    v53 := Tryz.zeroValue175,
    t75 := Tryz.underlying233,
    a75 := Tryz.isAgg233,
    z75 := Tryz.sizeOf233,
    v75 := Tryz.zeroValue233,
    t76 := Tryz.underlying234,
    a76 := Tryz.isAgg234,
    z76 := Tryz.sizeOf234,
    v76 := Tryz.zeroValue234,
    t85 := Tryz.underlying285,
    a85 := Tryz.isAgg285,
    z85 := Tryz.sizeOf285,
    v85 := Tryz.zeroValue285,
    t127 := Tryz.underlying310,
    a127 := Tryz.isAgg310,
    z127 := Tryz.sizeOf310,
    v127 := Tryz.zeroValue310,
    t143 := Tryz.underlying311,
    a143 := Tryz.isAgg311,
    z143 := Tryz.sizeOf311,
    v143 := Tryz.zeroValue311,
    t145 := Tryz.underlying313,
    a145 := Tryz.isAgg313,
    z145 := Tryz.sizeOf313,
    v145 := Tryz.zeroValue313,
    t167 := Tryz.underlying284,
    a167 := Tryz.isAgg284,
    z167 := Tryz.sizeOf284,
    v167 := Tryz.zeroValue284,
    t168 := Tryz.underlying287,
    a168 := Tryz.isAgg287,
    z168 := Tryz.sizeOf287,
    v168 := Tryz.zeroValue287,
    t171 := Tryz.underlying250,
    a171 := Tryz.isAgg250,
    z171 := Tryz.sizeOf250,
    v171 := Tryz.zeroValue250,
    t173 := Tryz.underlying253,
    a173 := Tryz.isAgg253,
    z173 := Tryz.sizeOf253,
    v173 := Tryz.zeroValue253,
    t175 := Tryz.underlying298,
    a175 := Tryz.isAgg298,
    z175 := Tryz.sizeOf298,
    v175 := Tryz.zeroValue298,
    t210 := Tryz.underlying302,
    a210 := Tryz.isAgg302,
    z210 := Tryz.sizeOf302,
    v210 := Tryz.zeroValue302,
    t212 := Tryz.underlying270,
    a212 := Tryz.isAgg270,
    z212 := Tryz.sizeOf270,
    v212 := Tryz.zeroValue270,
    t213 := Tryz.underlying272,
    a213 := Tryz.isAgg272,
    z213 := Tryz.sizeOf272,
    t232 := Tryz.underlying304,
    a232 := Tryz.isAgg304,
    z232 := Tryz.sizeOf304,
    v232 := Tryz.zeroValue304,
    t233 := Tryz.underlying305,
    a233 := Tryz.isAgg305,
    z233 := Tryz.sizeOf305,
    v233 := Tryz.zeroValue305,
    g15 := by kernel_rfl,
    g16 := by kernel_rfl,
    g17 := by kernel_rfl,
    g18 := by kernel_rfl,
    g19 := by kernel_rfl,
    t80 := Tryz.underlying120,
    a80 := Tryz.isAgg120,
    z80 := Tryz.sizeOf120,
    v80 := Tryz.zeroValue120,
    i0 := by kernel_rfl,
    i2 := by kernel_rfl,
    i3 := by kernel_rfl,
    i4 := by kernel_rfl,
    i5 := by kernel_rfl,
    i9 := by kernel_rfl,
    i20 := by kernel_rfl,
    i21 := by kernel_rfl,
    i37 := by kernel_rfl,
    i46 := by kernel_rfl,
    i51 := by kernel_rfl,
    i53 := by kernel_rfl,
    i75 := by kernel_rfl,
    i76 := by kernel_rfl,
    i80 := by kernel_rfl,
    i85 := by kernel_rfl,
    i127 := by kernel_rfl,
    i143 := by kernel_rfl,
    i145 := by kernel_rfl,
    i167 := by kernel_rfl,
    i168 := by kernel_rfl,
    i171 := by kernel_rfl,
    i173 := by kernel_rfl,
    i175 := by kernel_rfl,
    i210 := by kernel_rfl,
    i212 := by kernel_rfl,
    i232 := by kernel_rfl,
    i233 := by kernel_rfl,
    m15 := by kernel_rfl,
    m16 := by kernel_rfl,
    m17 := by kernel_rfl,
    m18 := by kernel_rfl,
    m19 := by kernel_rfl,
    c0 := by kernel_rfl,
    c2 := by kernel_rfl,
    c3 := by kernel_rfl,
    c4 := by kernel_rfl,
    c5 := by kernel_rfl,
    c9 := by kernel_rfl,
    c20 := by kernel_rfl,
    c21 := by kernel_rfl,
    c37 := by kernel_rfl,
    c46 := by kernel_rfl,
    c51 := by kernel_rfl,
    c53 := by kernel_rfl,
    c75 := by kernel_rfl,
    c76 := by kernel_rfl,
    c80 := by kernel_rfl,
    c85 := by kernel_rfl,
    c127 := by kernel_rfl,
    c143 := by kernel_rfl,
    c145 := by kernel_rfl,
    c167 := by kernel_rfl,
    c168 := by kernel_rfl,
    c171 := by kernel_rfl,
    c173 := by kernel_rfl,
    c175 := by kernel_rfl,
    c210 := by kernel_rfl,
    c212 := by kernel_rfl,
    c213 := by kernel_rfl,
    c232 := by kernel_rfl,
    c233 := by kernel_rfl }
theorem gPow : Tryz.prog.globalNamed "internal/strconv.uint64pow10" = some 4 := by kernel_rfl
theorem c_Itoa (n : Int) (h0 : -9223372036854775808 ≤ n) (h1 : n ≤ 9223372036854775807) : Pur Tryz.prog (GL kr) 58 [.pv (.int .i64 n)] (.pv (.str (itoaB n))) :=
  pur_of_callsT (ps := [.int .i64 n]) [.int .i64] rfl .str rfl gPow (by simp [GL]) fun w ht => Go.Proofs.Any.strconv_Itoa lays171 n h0 h1 w ht
def errPV : PV := .iface 287 (.ptr [])
theorem ra_err (g : Ghost) (tk : List Tok) (w : World) (n : Int) (N : Nat) : RA g tk w (.tuple [.pv (.int .i64 n), .pv errPV]) (.tuple #[.int .i64 n, .iface 287 (.pointer (some ⟨N, 0, none⟩))]) := by
  refine .tuple (vs := [.int .i64 n, .iface 287 (.pointer (some ⟨N, 0, none⟩))]) rfl (fun i x v hx hv => ?_)
  match i, hx, hv with
  | 0, hx, hv => simp at hx hv; subst hx; subst hv; exact .pv .int
  | 1, hx, hv => simp at hx hv; subst hx; subst hv; exact .pv (.iface (.ptr (vs := []) rfl (fun i v h => by simp at h) (fun i x v h => by simp at h)))
theorem ra_fine (g : Ghost) (tk : List Tok) (w : World) (n : Int) : RA g tk w (.tuple [.pv (.int .i64 n), .pv .nilif]) (.tuple #[.int .i64 n, .nilIface]) := by
  refine .tuple (vs := [.int .i64 n, .nilIface]) rfl (fun i x v hx hv => ?_)
  match i, hx, hv with
  | 0, hx, hv => simp at hx hv; subst hx; subst hv; exact .pv .int
  | 1, hx, hv => simp at hx hv; subst hx; subst hv; exact .pv .nilif
theorem c_Atoi (s : ByteArray) (hs : s.size ≤ 281474976710656) : Pur Tryz.prog (GL kr) 226 [.pv (.str s)] (.tuple [.pv (.int .i64 (atoiR s).1), .pv (if (atoiR s).2 = true then .nilif else errPV)]) := by
  refine pur_of_below (ps := [.str s]) [.str] rfl fun w hG => ?_
  have hE : ∀ n, (n, PV.ptr [.iface 311 (.ptr [])]) ∈ GL kr → ∃ ev, w.cell? ⟨n, 0, none⟩ = some ev ∧ (ev = .nilIface ∨ ∃ te pe, ev = .iface te pe) := fun n hm => by
    obtain ⟨B, S, hr⟩ := hG n _ hm
    obtain ⟨ev, h1, h2⟩ := rp_err hr
    exact ⟨ev, h1, .inr h2⟩
  rcases hat : Lib.atoiAll s.data.toList with v | _ | _
  · skip
    have hr : atoiR s = (v, true) := by unfold atoiR; rw [hat]
    rw [hr]
    refine (Go.Proofs.Any.strconv_Atoi_ok lays172 s (by omega) v hat w).mono ?_
    rintro e w' ⟨rfl, hw⟩
    refine ⟨_, rfl, ?_, fun g tk w => ra_fine g tk w v⟩
    rcases hw with rfl | ⟨t, rfl⟩
    · exact Go.RowKit.Below.refl _ _
    · exact Lib.bytesWorld_below _ _ _
  · skip
    have hr : atoiR s = (0, false) := by unfold atoiR; rw [hat]
    rw [hr]
    obtain ⟨ev, h1, h2⟩ := hE 5 (by simp [GL])
    refine (Go.Proofs.Any.strconv_Atoi_syntax lays172 s hs hat ev w h1 h2).mono ?_
    rintro e w' ⟨N, rfl, _, _, hb⟩
    exact ⟨_, rfl, hb, fun g tk w => ra_err g tk w 0 N⟩
  · skip
    have hr : atoiR s = (Lib.atoiSat s.data.toList, false) := by unfold atoiR; rw [hat]
    rw [hr]
    obtain ⟨ev, h1, h2⟩ := hE 6 (by simp [GL])
    refine (Go.Proofs.Any.strconv_Atoi_range lays172 s hs hat ev w h1 h2).mono ?_
    rintro e w' ⟨N, rfl, _, _, hb⟩
    exact ⟨_, rfl, hb, fun g tk w => ra_err g tk w _ N⟩

set_option maxHeartbeats 1000000 in
theorem c_mNamed (n : Int) (h0 : -9223372036854775808 ≤ n) (h1 : n ≤ 9223372036854775807) : Pur Tryz.prog (GL kr) 152 [.pv (.int .i64 n)] (.pv (.str (namedB n))) := by
 have hcat : 2 + (itoaB n).size ≤ 9223372036854775807 := by have := itoaB_size h0 h1; omega
 refine pur_of fun σ hgl => ?_
 refine acalls_of tyOk Tryz.func152 rfl (by simp [Tryz.f152]) ?_
 refine awp_seq (aR (by simp [go_sem, hcat] <;> rfl) ?_)
 refine awp_seq (awp_reg ?_)
 refine aL 1 (by simp [go_sem, hcat] <;> rfl) ?_
 refine aF call58 ((c_Itoa n h0 h1) _ (by exact hgl)) (by simp [go_sem, hcat] <;> rfl) (by simp [go_sem, hcat]) ?_
 refine aL 2 (by simp [go_sem, hcat] <;> rfl) ?_
 refine al_nil ?_
 refine awp_ret ?_
 refine ends_ret (by simp [go_sem, hcat] <;> rfl) (by simp [go_sem]) ?_
 exact ⟨by simp [go_sem, hcat, namedB], by simp [go_sem]⟩

set_option maxHeartbeats 1000000 in
theorem c_Plain_1 (s : ByteArray) (n : Int) (h0 : -9223372036854775808 ≤ n) (h1 : n ≤ 9223372036854775807) : Pur Tryz.prog (GL kr) 151 [.pv (.str s), .pv (.int .i64 n)] (.pv (.str (namedB n))) := by
 refine pur_of fun σ hgl => ?_
 refine acalls_of tyOk Tryz.func151 rfl (by simp [Tryz.f151]) ?_
 refine awp_seq (aR (by simp [go_sem] <;> rfl) ?_)
 refine awp_seq (awp_reg ?_)
 refine aL 1 (by simp [go_sem] <;> rfl) ?_
 refine aF call152 ((c_mNamed n h0 h1) _ (by exact hgl)) (by simp [go_sem] <;> rfl) (by simp [go_sem]) ?_
 refine aL 1 (by simp [go_sem] <;> rfl) ?_
 refine al_nil ?_
 refine awp_ret ?_
 refine ends_ret (by simp [go_sem] <;> rfl) (by simp [go_sem]) ?_
 exact ⟨by simp [go_sem], by simp [go_sem]⟩

end Go.Proofs.YtnibcmaaehkhlaaGreatDoor

namespace Go.Proofs.YtnibcmaaehkhlaaGreatDoor
open Go Go.Aw
variable {kr : KR}
set_option maxHeartbeats 1000000 in
theorem c_plainName_t (s : ByteArray) (hs : s.size ≤ 1000000000) (hok : (atoiR (s.extract 2 s.size)).2 = true) : Pur Tryz.prog (GL kr) 154 [.pv (.str s)] (.pv (.bool (pname s))) := by
 refine pur_of fun σ hgl => ?_
 obtain ⟨hlo, hhi⟩ := atoiR_range s
 refine acalls_of tyOk Tryz.func154 rfl (by simp [Tryz.f154]) ?_
 refine awp_seq (aR (by simp [go_sem] <;> rfl) ?_)
 refine awp_seq (awp_seq (awp_reg ?_))
 refine aL 4 (by simp [go_sem] <;> rfl) ?_
 refine al_splitT 8 (by first | rfl | (simp [go_sem] <;> rfl)) (fun h0 => ?_) (fun h0 => ?_)
 ·refine aK 3 8 false ?_
  refine aL 1 (by simp [go_sem] <;> rfl) ?_
  refine al_nil ?_
  refine awp_cond (b := true) (by simp [go_sem, h0]) (fun h => ?_) (fun h => ?_)
  rotate_left
  ·cases h
  refine awp_seq (aR (by simp [go_sem] <;> rfl) ?_)
  refine awp_ret ?_
  refine then_ret ?_
  have hM : pname s = false := by unfold pname; rw [h0]; rfl
  refine ends_ret (by simp [go_sem] <;> rfl) (by simp [go_sem]) ?_
  exact ⟨by simp [go_sem, hM], by simp [go_sem]⟩
 ·have h2s : (2 : Int) ≤ (s.size : Int) := by simp at h0; omega
  refine aLG 3 8 false (by simp [go_sem, h2s] <;> rfl) ?_
  refine aL 1 (by simp [go_sem, h2s] <;> rfl) ?_
  refine al_nil ?_
  refine awp_cond (by first | rfl | (simp [go_sem, h2s] <;> rfl)) (fun h1 => ?_) (fun h1 => ?_)
  ·refine awp_seq ?_
   refine aR (by simp [go_sem, h2s] <;> rfl) ?_
   refine awp_ret ?_
   refine then_ret ?_
   have hM : pname s = false := by unfold pname; rw [h0, h1]; rfl
   refine ends_ret (by simp [go_sem] <;> rfl) (by simp [go_sem]) ?_
   exact ⟨by simp [go_sem, hM], by simp [go_sem]⟩
  ·refine awp_skip ?_
   refine awp_seq (awp_reg ?_)
   refine aL 2 (by simp [go_sem, h2s] <;> rfl) ?_
   refine aF call226 ((c_Atoi (s.extract 2 s.size) (by simp; omega)) _ (by exact hgl)) (by simp [go_sem, h2s] <;> rfl) (by simp [go_sem, h2s]) ?_
   refine aL 5 (by simp [go_sem, h2s, hok, errPV] <;> rfl) ?_
   refine al_nil ?_
   refine awp_seq (awp_reg ?_)
   refine aL 3 (by simp [go_sem, h2s, hok, errPV] <;> rfl) ?_
   refine al_splitT 21 (by first | rfl | (simp [go_sem, h2s, hok, errPV] <;> rfl)) (fun h2 => ?_) (fun h2 => ?_)
   ·refine aLG 2 21 true (by simp [go_sem, h2s, hok, errPV] <;> rfl) ?_
    refine aL 2 (by simp [go_sem, h2s, hok, errPV] <;> rfl) ?_
    refine al_splitT 25 (by first | rfl | (simp [go_sem, h2s, hok, errPV] <;> rfl)) (fun h3 => ?_) (fun h3 => ?_)
    ·refine aLG 1 25 true (by simp [go_sem, h2s, hok, errPV] <;> rfl) ?_
     refine al_fnG 25 true true (by simp [go_sem]) rfl (by simp [go_sem]) rfl rfl (by simp [go_sem, h2s, hok, errPV] <;> rfl) call152 ((c_mNamed (atoiR (s.extract 2 s.size)).1 hlo hhi) _ (by exact hgl)) (by simp [go_sem, h2s, hok, errPV] <;> rfl) (by simp [go_sem, h2s, hok, errPV]) rfl rfl ?_
     refine aLG 2 25 true (by simp [go_sem, h2s, hok, errPV] <;> rfl) ?_
     refine aL 2 (by simp [go_sem, h2s, hok, errPV] <;> rfl) ?_
     refine al_nil ?_
     refine awp_ret ?_
     have hM : pname s = decide (namedB (atoiR (s.extract 2 s.size)).1 = s) := by unfold pname; rw [h0, h1, hok, h3]; rfl
     refine ends_ret (by simp [go_sem] <;> rfl) (by simp [go_sem]) ?_
     exact ⟨by simp [go_sem, hM], by simp [go_sem]⟩
    ·refine aK 4 25 true ?_
     refine aL 2 (by simp [go_sem, h2s, hok, errPV] <;> rfl) ?_
     refine al_nil ?_
     refine awp_ret ?_
     have hM : pname s = false := by unfold pname; rw [h0, h1, hok, h3]; rfl
     refine ends_ret (by simp [go_sem] <;> rfl) (by simp [go_sem]) ?_
     exact ⟨by simp [go_sem, hM], by simp [go_sem]⟩
   ·cases h2

set_option maxHeartbeats 1000000 in
theorem c_plainName_f (s : ByteArray) (hs : s.size ≤ 1000000000) (hok : (atoiR (s.extract 2 s.size)).2 = false) : Pur Tryz.prog (GL kr) 154 [.pv (.str s)] (.pv (.bool (pname s))) := by
 refine pur_of fun σ hgl => ?_
 obtain ⟨hlo, hhi⟩ := atoiR_range s
 refine acalls_of tyOk Tryz.func154 rfl (by simp [Tryz.f154]) ?_
 refine awp_seq (aR (by simp [go_sem] <;> rfl) ?_)
 refine awp_seq (awp_seq (awp_reg ?_))
 refine aL 4 (by simp [go_sem] <;> rfl) ?_
 refine al_splitT 8 (by first | rfl | (simp [go_sem] <;> rfl)) (fun h0 => ?_) (fun h0 => ?_)
 ·refine aK 3 8 false ?_
  refine aL 1 (by simp [go_sem] <;> rfl) ?_
  refine al_nil ?_
  refine awp_cond (b := true) (by simp [go_sem, h0]) (fun h => ?_) (fun h => ?_)
  rotate_left
  ·cases h
  refine awp_seq (aR (by simp [go_sem] <;> rfl) ?_)
  refine awp_ret ?_
  refine then_ret ?_
  have hM : pname s = false := by unfold pname; rw [h0]; rfl
  refine ends_ret (by simp [go_sem] <;> rfl) (by simp [go_sem]) ?_
  exact ⟨by simp [go_sem, hM], by simp [go_sem]⟩
 ·have h2s : (2 : Int) ≤ (s.size : Int) := by simp at h0; omega
  refine aLG 3 8 false (by simp [go_sem, h2s] <;> rfl) ?_
  refine aL 1 (by simp [go_sem, h2s] <;> rfl) ?_
  refine al_nil ?_
  refine awp_cond (by first | rfl | (simp [go_sem, h2s] <;> rfl)) (fun h1 => ?_) (fun h1 => ?_)
  ·refine awp_seq ?_
   refine aR (by simp [go_sem, h2s] <;> rfl) ?_
   refine awp_ret ?_
   refine then_ret ?_
   have hM : pname s = false := by unfold pname; rw [h0, h1]; rfl
   refine ends_ret (by simp [go_sem] <;> rfl) (by simp [go_sem]) ?_
   exact ⟨by simp [go_sem, hM], by simp [go_sem]⟩
  ·refine awp_skip ?_
   refine awp_seq (awp_reg ?_)
   refine aL 2 (by simp [go_sem, h2s] <;> rfl) ?_
   refine aF call226 ((c_Atoi (s.extract 2 s.size) (by simp; omega)) _ (by exact hgl)) (by simp [go_sem, h2s] <;> rfl) (by simp [go_sem, h2s]) ?_
   refine aL 5 (by simp [go_sem, h2s, hok, errPV] <;> rfl) ?_
   refine al_nil ?_
   refine awp_seq (awp_reg ?_)
   refine aL 3 (by simp [go_sem, h2s, hok, errPV] <;> rfl) ?_
   refine al_splitT 21 (by first | rfl | (simp [go_sem, h2s, hok, errPV] <;> rfl)) (fun h2 => ?_) (fun h2 => ?_)
   ·cases h2
   ·refine aK 2 21 true ?_
    refine aL 2 (by simp [go_sem, h2s, hok, errPV] <;> rfl) ?_
    refine aK 4 25 true ?_
    refine aL 2 (by simp [go_sem, h2s, hok, errPV] <;> rfl) ?_
    refine al_nil ?_
    refine awp_ret ?_
    have hM : pname s = false := by unfold pname; rw [h0, h1, hok]; rfl
    refine ends_ret (by simp [go_sem] <;> rfl) (by simp [go_sem]) ?_
    exact ⟨by simp [go_sem, hM], by simp [go_sem]⟩

theorem c_plainName (s : ByteArray) (hs : s.size ≤ 1000000000) : Pur Tryz.prog (GL kr) 154 [.pv (.str s)] (.pv (.bool (pname s))) := by
  cases hok : (atoiR (s.extract 2 s.size)).2 with
  | true => exact c_plainName_t s hs hok
  | false => exact c_plainName_f s hs hok

end Go.Proofs.YtnibcmaaehkhlaaGreatDoor
