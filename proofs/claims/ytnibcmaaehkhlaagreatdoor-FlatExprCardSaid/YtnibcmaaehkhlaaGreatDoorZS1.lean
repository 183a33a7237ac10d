/- Part of the proof that the statement holds for every input that its row lets in: the contracts of the program's functions, printed by a program out of annotations; the statement itself stands at the end of the last part. -/
import Derived.Test.YtnibcmaaehkhlaaGreatDoorProg
import Derived.Test.YtnibcmaaehkhlaaGreatDoorZA2
import Derived.Test.YtnibcmaaehkhlaaGreatDoorZA3
import Derived.Shelf.LaysM
import Derived.Shelf.Small.Strs
import Derived.Shelf.Strconv.Itoa4
set_option linter.unusedSimpArgs false
set_option linter.unusedVariables false
namespace Go.Proofs.YtnibcmaaehkhlaaGreatDoor
open Go Go.Aw
def tyL : List (Nat × TyI) :=
  [(1, ⟨1, 8, .func, [], [.nilfn], none, []⟩),
   (2, ⟨1, 8, .int .i64, [], [.int .i64 0], none, []⟩),
   (3, ⟨1, 8, .int .i64, [], [.int .i64 0], none, []⟩),
   (4, ⟨1, 1, .bool, [], [.bool false], none, []⟩),
   (5, ⟨1, 1, .int .u8, [], [.int .u8 0], none, []⟩),
   (6, ⟨1, 1, .int .u8, [], [.int .u8 0], none, []⟩),
   (7, ⟨4, 24, .struct, [(0, 1), (1, 1), (2, 1), (3, 1)], [.int .i64 0, .int .i64 0, .bool false, .int .u8 0], none, [2, 3, 4, 6]⟩),
   (8, ⟨4, 24, .struct, [(0, 1), (1, 1), (2, 1), (3, 1)], [.int .i64 0, .int .i64 0, .bool false, .int .u8 0], none, [2, 3, 4, 6]⟩),
   (9, ⟨1, 16, .str, [], [.str ⟨#[]⟩], some (.one (.str)), []⟩),
   (10, ⟨1, 16, .str, [], [.str ⟨#[]⟩], none, []⟩),
   (11, ⟨1, 16, .str, [], [.str ⟨#[]⟩], none, []⟩),
   (12, ⟨1, 8, .int .u64, [], [.int .u64 0], none, []⟩),
   (13, ⟨2, 24, .struct, [(0, 1), (1, 1)], [.str ⟨#[]⟩, .int .u64 0], none, [9, 12]⟩),
   (14, ⟨2, 24, .struct, [(0, 1), (1, 1)], [.str ⟨#[]⟩, .int .u64 0], none, [9, 12]⟩),
   (15, ⟨1, 8, .ptr 315, [], [.nilp], none, []⟩),
   (16, ⟨1, 8, .ptr 318, [], [.nilp], none, []⟩),
   (17, ⟨1, 8, .ptr 326, [], [.nilp], none, []⟩),
   (18, ⟨1, 8, .struct, [(0, 1)], [.nilp], none, [17]⟩),
   (19, ⟨1, 8, .struct, [(0, 1)], [.nilp], none, [17]⟩),
   (20, ⟨1, 16, .iface, [], [.nilif], none, []⟩),
   (21, ⟨1, 4, .int .i32, [], [.int .i32 0], none, []⟩),
   (22, ⟨1, 24, .slice 24, [], [.nils], none, []⟩),
   (23, ⟨4, 56, .struct, [(0, 1), (1, 1), (2, 1), (3, 1)], [.int .i64 0, .int .i64 0, .str ⟨#[]⟩, .nils], none, [3, 2, 9, 22]⟩),
   (24, ⟨4, 56, .struct, [(0, 1), (1, 1), (2, 1), (3, 1)], [.int .i64 0, .int .i64 0, .str ⟨#[]⟩, .nils], none, [3, 2, 9, 22]⟩),
   (25, ⟨1, 8, .int .i64, [], [.int .i64 0], none, []⟩),
   (27, ⟨1, 8, .func, [], [.nilfn], none, []⟩),
   (28, ⟨1, 8, .func, [], [.nilfn], none, []⟩),
   (29, ⟨1, 8, .func, [], [.nilfn], none, []⟩),
   (30, ⟨1, 8, .func, [], [.nilfn], none, []⟩),
   (31, ⟨1, 8, .func, [], [.nilfn], none, []⟩),
   (32, ⟨1, 24, .slice 3, [], [.nils], none, []⟩),
   (34, ⟨1, 8, .func, [], [.nilfn], none, []⟩),
   (35, ⟨1, 24, .slice 9, [], [.nils], none, []⟩),
   (37, ⟨1, 8, .func, [], [.nilfn], none, []⟩),
   (39, ⟨1, 8, .func, [], [.nilfn], none, []⟩),
   (40, ⟨1, 8, .func, [], [.nilfn], none, []⟩),
   (41, ⟨1, 8, .func, [], [.nilfn], none, []⟩),
   (42, ⟨1, 8, .func, [], [.nilfn], none, []⟩),
   (44, ⟨1, 8, .func, [], [.nilfn], none, []⟩),
   (45, ⟨1, 8, .func, [], [.nilfn], none, []⟩),
   (46, ⟨1, 8, .func, [], [.nilfn], none, []⟩),
   (47, ⟨1, 8, .func, [], [.nilfn], none, []⟩),
   (48, ⟨1, 8, .func, [], [.nilfn], none, []⟩),
   (49, ⟨1, 8, .func, [], [.nilfn], none, []⟩),
   (51, ⟨1, 8, .func, [], [.nilfn], none, []⟩),
   (52, ⟨1, 8, .func, [], [.nilfn], none, []⟩),
   (53, ⟨1, 8, .func, [], [.nilfn], none, []⟩),
   (54, ⟨1, 8, .func, [], [.nilfn], none, []⟩),
   (56, ⟨1, 8, .func, [], [.nilfn], none, []⟩),
   (57, ⟨1, 24, .slice 62, [], [.nils], none, []⟩),
   (58, ⟨1, 8, .func, [], [.nilfn], none, []⟩),
   (59, ⟨1, 8, .func, [], [.nilfn], none, []⟩),
   (60, ⟨1, 24, .slice 64, [], [.nils], none, []⟩),
   (61, ⟨3, 64, .struct, [(0, 1), (1, 1), (2, 1)], [.str ⟨#[]⟩, .nils, .nils], none, [9, 32, 60]⟩),
   (62, ⟨3, 64, .struct, [(0, 1), (1, 1), (2, 1)], [.str ⟨#[]⟩, .nils, .nils], none, [9, 32, 60]⟩),
   (63, ⟨3, 48, .struct, [(0, 1), (1, 1), (2, 1)], [.str ⟨#[]⟩, .nils, .int .i64 0], none, [9, 32, 3]⟩),
   (64, ⟨3, 48, .struct, [(0, 1), (1, 1), (2, 1)], [.str ⟨#[]⟩, .nils, .int .i64 0], none, [9, 32, 3]⟩),
   (66, ⟨1, 8, .func, [], [.nilfn], none, []⟩),
   (67, ⟨1, 8, .func, [], [.nilfn], none, []⟩),
   (68, ⟨1, 8, .func, [], [.nilfn], none, []⟩),
   (69, ⟨1, 24, .slice 32, [], [.nils], none, []⟩),
   (70, ⟨1, 8, .func, [], [.nilfn], none, []⟩),
   (72, ⟨1, 8, .func, [], [.nilfn], none, []⟩),
   (73, ⟨1, 8, .func, [], [.nilfn], none, []⟩),
   (74, ⟨1, 8, .func, [], [.nilfn], none, []⟩),
   (75, ⟨1, 8, .func, [], [.nilfn], none, []⟩),
   (76, ⟨1, 8, .func, [], [.nilfn], none, []⟩),
   (77, ⟨1, 8, .func, [], [.nilfn], none, []⟩),
   (78, ⟨1, 8, .func, [], [.nilfn], none, []⟩),
   (79, ⟨1, 8, .func, [], [.nilfn], none, []⟩),
   (80, ⟨1, 8, .func, [], [.nilfn], none, []⟩),
   (81, ⟨1, 8, .func, [], [.nilfn], none, []⟩),
   (82, ⟨1, 8, .func, [], [.nilfn], none, []⟩),
   (83, ⟨1, 8, .func, [], [.nilfn], none, []⟩),
   (84, ⟨1, 8, .func, [], [.nilfn], none, []⟩),
   (86, ⟨1, 8, .func, [], [.nilfn], none, []⟩),
   (88, ⟨1, 8, .func, [], [.nilfn], none, []⟩),
   (89, ⟨1, 8, .func, [], [.nilfn], none, []⟩),
   (91, ⟨1, 8, .func, [], [.nilfn], none, []⟩),
   (92, ⟨1, 8, .func, [], [.nilfn], none, []⟩),
   (93, ⟨1, 8, .func, [], [.nilfn], none, []⟩),
   (94, ⟨1, 8, .func, [], [.nilfn], none, []⟩),
   (95, ⟨1, 8, .map 9 4, [], [.nilmap], none, []⟩),
   (96, ⟨1, 8, .func, [], [.nilfn], none, []⟩),
   (97, ⟨1, 8, .func, [], [.nilfn], none, []⟩),
   (98, ⟨1, 8, .func, [], [.nilfn], none, []⟩),
   (99, ⟨2, 32, .struct, [(0, 1), (1, 1)], [.nils, .int .i64 0], none, [32, 3]⟩),
   (100, ⟨2, 32, .struct, [(0, 1), (1, 1)], [.nils, .int .i64 0], none, [32, 3]⟩),
   (101, ⟨1, 8, .ptr 106, [], [.nilp], none, []⟩),
   (102, ⟨1, 24, .slice 100, [], [.nils], none, []⟩),
   (103, ⟨1, 8, .func, [], [.nilfn], none, []⟩),
   (104, ⟨1, 8, .func, [], [.nilfn], none, []⟩),
   (105, ⟨2, 16, .struct, [(0, 1), (1, 1)], [.nilfn, .nilfn], none, [103, 104]⟩),
   (106, ⟨2, 16, .struct, [(0, 1), (1, 1)], [.nilfn, .nilfn], none, [103, 104]⟩),
   (107, ⟨1, 8, .func, [], [.nilfn], none, []⟩),
   (108, ⟨1, 8, .func, [], [.nilfn], none, []⟩),
   (109, ⟨1, 8, .func, [], [.nilfn], none, []⟩),
   (110, ⟨1, 8, .func, [], [.nilfn], none, []⟩),
   (111, ⟨1, 8, .ptr 113, [], [.nilp], none, []⟩),
   (112, ⟨1, 8, .struct, [(0, 1)], [.int .i64 0], none, [3]⟩),
   (113, ⟨1, 8, .struct, [(0, 1)], [.int .i64 0], none, [3]⟩),
   (114, ⟨1, 8, .func, [], [.nilfn], none, []⟩),
   (115, ⟨1, 8, .func, [], [.nilfn], none, []⟩),
   (116, ⟨1, 8, .func, [], [.nilfn], none, []⟩),
   (117, ⟨1, 8, .func, [], [.nilfn], none, []⟩),
   (118, ⟨1, 8, .map 9 9, [], [.nilmap], none, []⟩),
   (119, ⟨1, 8, .func, [], [.nilfn], none, []⟩),
   (120, ⟨1, 8, .func, [], [.nilfn], none, []⟩),
   (121, ⟨1, 8, .func, [], [.nilfn], none, []⟩),
   (122, ⟨1, 8, .func, [], [.nilfn], none, []⟩),
   (124, ⟨1, 8, .func, [], [.nilfn], none, []⟩),
   (125, ⟨1, 8, .func, [], [.nilfn], none, []⟩),
   (126, ⟨1, 8, .func, [], [.nilfn], none, []⟩),
   (127, ⟨1, 8, .func, [], [.nilfn], none, []⟩),
   (128, ⟨1, 8, .func, [], [.nilfn], none, []⟩),
   (129, ⟨1, 8, .ptr 24, [], [.nilp], none, []⟩),
   (130, ⟨1, 8, .func, [], [.nilfn], none, []⟩),
   (131, ⟨1, 8, .map 9 3, [], [.nilmap], none, []⟩),
   (132, ⟨1, 8, .ptr 202, [], [.nilp], none, []⟩),
   (134, ⟨1, 8, .func, [], [.nilfn], none, []⟩),
   (136, ⟨1, 8, .func, [], [.nilfn], none, []⟩),
   (137, ⟨1, 8, .func, [], [.nilfn], none, []⟩),
   (138, ⟨1, 8, .func, [], [.nilfn], none, []⟩),
   (139, ⟨1, 8, .map 141 3, [], [.nilmap], none, []⟩),
   (140, ⟨2, 24, .struct, [(0, 1), (1, 1)], [.int .i64 0, .str ⟨#[]⟩], none, [2, 9]⟩),
   (141, ⟨2, 24, .struct, [(0, 1), (1, 1)], [.int .i64 0, .str ⟨#[]⟩], some (.many [.int .i64, .str]), [2, 9]⟩),
   (142, ⟨1, 8, .func, [], [.nilfn], none, []⟩),
   (143, ⟨1, 8, .ptr 145, [], [.nilp], none, []⟩),
   (144, ⟨3, 24, .struct, [(0, 1), (1, 1), (2, 1)], [.nilfn, .nilfn, .bool false], none, [28, 28, 4]⟩),
   (145, ⟨3, 24, .struct, [(0, 1), (1, 1), (2, 1)], [.nilfn, .nilfn, .bool false], none, [28, 28, 4]⟩),
   (147, ⟨1, 8, .func, [], [.nilfn], none, []⟩),
   (148, ⟨1, 8, .func, [], [.nilfn], none, []⟩),
   (149, ⟨1, 8, .func, [], [.nilfn], none, []⟩),
   (150, ⟨1, 8, .func, [], [.nilfn], none, []⟩),
   (151, ⟨1, 8, .func, [], [.nilfn], none, []⟩),
   (152, ⟨1, 8, .func, [], [.nilfn], none, []⟩),
   (153, ⟨1, 8, .func, [], [.nilfn], none, []⟩),
   (154, ⟨1, 8, .func, [], [.nilfn], none, []⟩),
   (155, ⟨1, 8, .func, [], [.nilfn], none, []⟩),
   (156, ⟨1, 8, .func, [], [.nilfn], none, []⟩),
   (157, ⟨1, 8, .func, [], [.nilfn], none, []⟩),
   (158, ⟨1, 8, .func, [], [.nilfn], none, []⟩),
   (159, ⟨1, 8, .func, [], [.nilfn], none, []⟩),
   (160, ⟨1, 8, .func, [], [.nilfn], none, []⟩),
   (161, ⟨1, 8, .func, [], [.nilfn], none, []⟩),
   (162, ⟨1, 8, .func, [], [.nilfn], none, []⟩),
   (163, ⟨1, 8, .func, [], [.nilfn], none, []⟩),
   (164, ⟨1, 8, .ptr 237, [], [.nilp], none, []⟩),
   (166, ⟨1, 8, .func, [], [.nilfn], none, []⟩),
   (167, ⟨1, 8, .func, [], [.nilfn], none, []⟩),
   (168, ⟨1, 8, .func, [], [.nilfn], none, []⟩),
   (169, ⟨1, 8, .func, [], [.nilfn], none, []⟩),
   (170, ⟨1, 24, .slice 60, [], [.nils], none, []⟩),
   (171, ⟨1, 8, .func, [], [.nilfn], none, []⟩),
   (172, ⟨1, 8, .func, [], [.nilfn], none, []⟩),
   (173, ⟨1, 8, .func, [], [.nilfn], none, []⟩),
   (174, ⟨1, 8, .func, [], [.nilfn], none, []⟩),
   (175, ⟨1, 8, .int .u64, [], [.int .u64 0], none, []⟩),
   (177, ⟨1, 8, .func, [], [.nilfn], none, []⟩),
   (178, ⟨1, 8, .func, [], [.nilfn], none, []⟩),
   (179, ⟨1, 8, .ptr 184, [], [.nilp], none, []⟩),
   (180, ⟨1, 8, .func, [], [.nilfn], none, []⟩),
   (181, ⟨1, 8, .func, [], [.nilfn], none, []⟩),
   (182, ⟨1, 8, .func, [], [.nilfn], none, []⟩),
   (183, ⟨3, 40, .struct, [(0, 1), (1, 1), (2, 1)], [.str ⟨#[]⟩, .str ⟨#[]⟩, .nilp], none, [9, 9, 179]⟩),
   (184, ⟨3, 40, .struct, [(0, 1), (1, 1), (2, 1)], [.str ⟨#[]⟩, .str ⟨#[]⟩, .nilp], none, [9, 9, 179]⟩),
   (185, ⟨1, 8, .ptr 190, [], [.nilp], none, []⟩),
   (186, ⟨1, 24, .slice 4, [], [.nils], none, []⟩),
   (187, ⟨1, 8, .func, [], [.nilfn], none, []⟩),
   (188, ⟨1, 8, .func, [], [.nilfn], none, []⟩),
   (189, ⟨2, 16, .struct, [(0, 1), (1, 1)], [.nilfn, .nilfn], none, [187, 188]⟩),
   (190, ⟨2, 16, .struct, [(0, 1), (1, 1)], [.nilfn, .nilfn], none, [187, 188]⟩),
   (191, ⟨1, 8, .func, [], [.nilfn], none, []⟩),
   (192, ⟨1, 8, .func, [], [.nilfn], none, []⟩),
   (193, ⟨1, 8, .ptr 198, [], [.nilp], none, []⟩),
   (194, ⟨1, 8, .func, [], [.nilfn], none, []⟩),
   (195, ⟨1, 8, .func, [], [.nilfn], none, []⟩),
   (196, ⟨1, 8, .func, [], [.nilfn], none, []⟩),
   (197, ⟨2, 16, .struct, [(0, 1), (1, 1)], [.nilfn, .nilfn], none, [195, 196]⟩),
   (198, ⟨2, 16, .struct, [(0, 1), (1, 1)], [.nilfn, .nilfn], none, [195, 196]⟩),
   (199, ⟨1, 8, .func, [], [.nilfn], none, []⟩),
   (200, ⟨1, 8, .func, [], [.nilfn], none, []⟩),
   (201, ⟨1, 8, .struct, [(0, 1)], [.nilmap], none, [139]⟩),
   (202, ⟨1, 8, .struct, [(0, 1)], [.nilmap], none, [139]⟩),
   (203, ⟨1, 8, .func, [], [.nilfn], none, []⟩),
   (204, ⟨1, 8, .func, [], [.nilfn], none, []⟩),
   (205, ⟨1, 8, .func, [], [.nilfn], none, []⟩),
   (206, ⟨1, 8, .map 141 24, [], [.nilmap], none, []⟩),
   (207, ⟨1, 8, .func, [], [.nilfn], none, []⟩),
   (208, ⟨1, 8, .map 141 4, [], [.nilmap], none, []⟩),
   (209, ⟨1, 8, .func, [], [.nilfn], none, []⟩),
   (210, ⟨1, 8, .func, [], [.nilfn], none, []⟩),
   (211, ⟨1, 24, .slice 213, [], [.nils], none, []⟩),
   (212, ⟨5, 64, .struct, [(0, 1), (1, 1), (2, 1), (3, 1), (4, 1)], [.int .i64 0, .int .i64 0, .str ⟨#[]⟩, .nils, .int .i64 0], none, [3, 2, 9, 211, 3]⟩),
   (213, ⟨5, 64, .struct, [(0, 1), (1, 1), (2, 1), (3, 1), (4, 1)], [.int .i64 0, .int .i64 0, .str ⟨#[]⟩, .nils, .int .i64 0], none, [3, 2, 9, 211, 3]⟩),
   (215, ⟨1, 8, .func, [], [.nilfn], none, []⟩),
   (216, ⟨1, 8, .func, [], [.nilfn], none, []⟩),
   (217, ⟨1, 8, .func, [], [.nilfn], none, []⟩),
   (218, ⟨1, 8, .func, [], [.nilfn], none, []⟩),
   (219, ⟨1, 8, .func, [], [.nilfn], none, []⟩),
   (220, ⟨2, 16, .struct, [(0, 1), (1, 1)], [.int .i64 0, .int .i64 0], none, [3, 3]⟩),
   (222, ⟨1, 8, .map 9 220, [], [.nilmap], none, []⟩),
   (223, ⟨1, 8, .func, [], [.nilfn], none, []⟩),
   (224, ⟨1, 24, .slice 229, [], [.nils], none, []⟩),
   (225, ⟨1, 8, .func, [], [.nilfn], none, []⟩),
   (226, ⟨1, 8, .func, [], [.nilfn], none, []⟩),
   (227, ⟨1, 8, .func, [], [.nilfn], none, []⟩),
   (228, ⟨2, 32, .struct, [(0, 1), (1, 1)], [.str ⟨#[]⟩, .str ⟨#[]⟩], none, [9, 9]⟩),
   (229, ⟨2, 32, .struct, [(0, 1), (1, 1)], [.str ⟨#[]⟩, .str ⟨#[]⟩], none, [9, 9]⟩),
   (230, ⟨1, 8, .func, [], [.nilfn], none, []⟩),
   (231, ⟨1, 8, .func, [], [.nilfn], none, []⟩),
   (232, ⟨1, 16, .iface, [], [.nilif], none, []⟩),
   (233, ⟨1, 16, .iface, [], [.nilif], none, []⟩),
   (235, ⟨1, 8, .func, [], [.nilfn], none, []⟩),
   (236, ⟨4, 56, .struct, [(0, 1), (1, 2), (3, 1)], [.str ⟨#[]⟩, .nils, .int .i64 0, .nilp], none, [9, 100, 164]⟩),
   (237, ⟨4, 56, .struct, [(0, 1), (1, 2), (3, 1)], [.str ⟨#[]⟩, .nils, .int .i64 0, .nilp], none, [9, 100, 164]⟩),
   (238, ⟨1, 8, .func, [], [.nilfn], none, []⟩),
   (239, ⟨1, 8, .func, [], [.nilfn], none, []⟩),
   (240, ⟨1, 24, .slice 5, [], [.nils], none, []⟩),
   (241, ⟨1, 8, .ptr 267, [], [.nilp], none, []⟩),
   (243, ⟨1, 8, .func, [], [.nilfn], none, []⟩),
   (244, ⟨1, 8, .func, [], [.nilfn], none, []⟩),
   (245, ⟨1, 8, .func, [], [.nilfn], none, []⟩),
   (246, ⟨1, 8, .func, [], [.nilfn], none, []⟩),
   (247, ⟨1, 24, .slice 248, [], [.nils], none, []⟩),
   (248, ⟨2, 24, .struct, [(0, 1), (1, 1)], [.str ⟨#[]⟩, .int .i64 0], none, [9, 3]⟩),
   (249, ⟨1, 8, .func, [], [.nilfn], none, []⟩),
   (250, ⟨24, 24, .array 24 5, [], [.int .u8 0, .int .u8 0, .int .u8 0, .int .u8 0, .int .u8 0, .int .u8 0, .int .u8 0, .int .u8 0, .int .u8 0, .int .u8 0, .int .u8 0, .int .u8 0, .int .u8 0, .int .u8 0, .int .u8 0, .int .u8 0, .int .u8 0, .int .u8 0, .int .u8 0, .int .u8 0, .int .u8 0, .int .u8 0, .int .u8 0, .int .u8 0], none, []⟩),
   (251, ⟨1, 8, .func, [], [.nilfn], none, []⟩),
   (252, ⟨1, 8, .func, [], [.nilfn], none, []⟩),
   (254, ⟨1, 8, .func, [], [.nilfn], none, []⟩),
   (255, ⟨1, 8, .ptr 257, [], [.nilp], none, []⟩),
   (256, ⟨4, 40, .struct, [(0, 1), (1, 1), (2, 1), (3, 1)], [.str ⟨#[]⟩, .int .i64 0, .int .i64 0, .int .i64 0], none, [9, 3, 25, 3]⟩),
   (257, ⟨4, 40, .struct, [(0, 1), (1, 1), (2, 1), (3, 1)], [.str ⟨#[]⟩, .int .i64 0, .int .i64 0, .int .i64 0], none, [9, 3, 25, 3]⟩),
   (258, ⟨1, 8, .func, [], [.nilfn], none, []⟩),
   (259, ⟨1, 8, .func, [], [.nilfn], none, []⟩),
   (260, ⟨1, 8, .func, [], [.nilfn], none, []⟩),
   (261, ⟨1, 8, .func, [], [.nilfn], none, []⟩),
   (262, ⟨1, 8, .func, [], [.nilfn], none, []⟩),
   (263, ⟨1, 8, .int .u64, [], [.int .u64 0], none, []⟩),
   (264, ⟨1, 8, .func, [], [.nilfn], none, []⟩),
   (265, ⟨1, 8, .func, [], [.nilfn], none, []⟩),
   (266, ⟨3, 32, .struct, [(0, 1), (1, 1), (2, 1)], [.str ⟨#[]⟩, .bool false, .nilp], none, [9, 4, 241]⟩),
   (267, ⟨3, 32, .struct, [(0, 1), (1, 1), (2, 1)], [.str ⟨#[]⟩, .bool false, .nilp], none, [9, 4, 241]⟩),
   (268, ⟨1, 8, .func, [], [.nilfn], none, []⟩),
   (269, ⟨1, 8, .func, [], [.nilfn], none, []⟩),
   (270, ⟨20, 160, .array 20 175, [], [.int .u64 0, .int .u64 0, .int .u64 0, .int .u64 0, .int .u64 0, .int .u64 0, .int .u64 0, .int .u64 0, .int .u64 0, .int .u64 0, .int .u64 0, .int .u64 0, .int .u64 0, .int .u64 0, .int .u64 0, .int .u64 0, .int .u64 0, .int .u64 0, .int .u64 0, .int .u64 0], none, []⟩),
   (271, ⟨1, 4, .int .u32, [], [.int .u32 0], none, []⟩),
   (272, ⟨65, 65, .array 65 5, [], [.int .u8 0, .int .u8 0, .int .u8 0, .int .u8 0, .int .u8 0, .int .u8 0, .int .u8 0, .int .u8 0, .int .u8 0, .int .u8 0, .int .u8 0, .int .u8 0, .int .u8 0, .int .u8 0, .int .u8 0, .int .u8 0, .int .u8 0, .int .u8 0, .int .u8 0, .int .u8 0, .int .u8 0, .int .u8 0, .int .u8 0, .int .u8 0, .int .u8 0, .int .u8 0, .int .u8 0, .int .u8 0, .int .u8 0, .int .u8 0, .int .u8 0, .int .u8 0, .int .u8 0, .int .u8 0, .int .u8 0, .int .u8 0, .int .u8 0, .int .u8 0, .int .u8 0, .int .u8 0, .int .u8 0, .int .u8 0, .int .u8 0, .int .u8 0, .int .u8 0, .int .u8 0, .int .u8 0, .int .u8 0, .int .u8 0, .int .u8 0, .int .u8 0, .int .u8 0, .int .u8 0, .int .u8 0, .int .u8 0, .int .u8 0, .int .u8 0, .int .u8 0, .int .u8 0, .int .u8 0, .int .u8 0, .int .u8 0, .int .u8 0, .int .u8 0, .int .u8 0], none, []⟩),
   (273, ⟨1, 8, .func, [], [.nilfn], none, []⟩),
   (274, ⟨1, 8, .func, [], [.nilfn], none, []⟩),
   (275, ⟨1, 8, .func, [], [.nilfn], none, []⟩),
   (276, ⟨1, 8, .int .i64, [], [.int .i64 0], none, []⟩),
   (278, ⟨1, 8, .func, [], [.nilfn], none, []⟩),
   (279, ⟨1, 8, .func, [], [.nilfn], none, []⟩),
   (280, ⟨1, 8, .func, [], [.nilfn], none, []⟩),
   (281, ⟨1, 8, .func, [], [.nilfn], none, []⟩),
   (282, ⟨1, 8, .func, [], [.nilfn], none, []⟩),
   (283, ⟨1, 8, .func, [], [.nilfn], none, []⟩),
   (284, ⟨1, 8, .int .i64, [], [.int .i64 0], none, []⟩),
   (286, ⟨1, 8, .func, [], [.nilfn], none, []⟩),
   (287, ⟨1, 8, .ptr 302, [], [.nilp], none, []⟩),
   (288, ⟨1, 8, .func, [], [.nilfn], none, []⟩),
   (289, ⟨1, 8, .func, [], [.nilfn], none, []⟩),
   (291, ⟨1, 8, .func, [], [.nilfn], none, []⟩),
   (292, ⟨1, 8, .int .u64, [], [.int .u64 0], none, []⟩),
   (293, ⟨1, 8, .func, [], [.nilfn], none, []⟩),
   (294, ⟨1, 8, .func, [], [.nilfn], none, []⟩),
   (295, ⟨1, 8, .func, [], [.nilfn], none, []⟩),
   (296, ⟨1, 8, .ptr 3, [], [.nilp], none, []⟩),
   (297, ⟨1, 8, .func, [], [.nilfn], none, []⟩),
   (299, ⟨1, 8, .func, [], [.nilfn], none, []⟩),
   (300, ⟨1, 8, .func, [], [.nilfn], none, []⟩),
   (301, ⟨3, 48, .struct, [(0, 1), (1, 1), (2, 1)], [.str ⟨#[]⟩, .str ⟨#[]⟩, .nilif], none, [9, 9, 233]⟩),
   (302, ⟨3, 48, .struct, [(0, 1), (1, 1), (2, 1)], [.str ⟨#[]⟩, .str ⟨#[]⟩, .nilif], none, [9, 9, 233]⟩),
   (303, ⟨1, 8, .func, [], [.nilfn], none, []⟩),
   (304, ⟨32, 32, .array 32 5, [], [.int .u8 0, .int .u8 0, .int .u8 0, .int .u8 0, .int .u8 0, .int .u8 0, .int .u8 0, .int .u8 0, .int .u8 0, .int .u8 0, .int .u8 0, .int .u8 0, .int .u8 0, .int .u8 0, .int .u8 0, .int .u8 0, .int .u8 0, .int .u8 0, .int .u8 0, .int .u8 0, .int .u8 0, .int .u8 0, .int .u8 0, .int .u8 0, .int .u8 0, .int .u8 0, .int .u8 0, .int .u8 0, .int .u8 0, .int .u8 0, .int .u8 0, .int .u8 0], none, []⟩),
   (305, ⟨64, 64, .array 64 5, [], [.int .u8 0, .int .u8 0, .int .u8 0, .int .u8 0, .int .u8 0, .int .u8 0, .int .u8 0, .int .u8 0, .int .u8 0, .int .u8 0, .int .u8 0, .int .u8 0, .int .u8 0, .int .u8 0, .int .u8 0, .int .u8 0, .int .u8 0, .int .u8 0, .int .u8 0, .int .u8 0, .int .u8 0, .int .u8 0, .int .u8 0, .int .u8 0, .int .u8 0, .int .u8 0, .int .u8 0, .int .u8 0, .int .u8 0, .int .u8 0, .int .u8 0, .int .u8 0, .int .u8 0, .int .u8 0, .int .u8 0, .int .u8 0, .int .u8 0, .int .u8 0, .int .u8 0, .int .u8 0, .int .u8 0, .int .u8 0, .int .u8 0, .int .u8 0, .int .u8 0, .int .u8 0, .int .u8 0, .int .u8 0, .int .u8 0, .int .u8 0, .int .u8 0, .int .u8 0, .int .u8 0, .int .u8 0, .int .u8 0, .int .u8 0, .int .u8 0, .int .u8 0, .int .u8 0, .int .u8 0, .int .u8 0, .int .u8 0, .int .u8 0, .int .u8 0], none, []⟩),
   (306, ⟨1, 8, .ptr 292, [], [.nilp], none, []⟩),
   (308, ⟨1, 8, .func, [], [.nilfn], none, []⟩),
   (309, ⟨1, 8, .func, [], [.nilfn], none, []⟩),
   (310, ⟨1, 8, .ptr 5, [], [.nilp], none, []⟩),
   (311, ⟨1, 8, .ptr 313, [], [.nilp], none, []⟩),
   (312, ⟨1, 16, .struct, [(0, 1)], [.str ⟨#[]⟩], none, [9]⟩),
   (313, ⟨1, 16, .struct, [(0, 1)], [.str ⟨#[]⟩], none, [9]⟩),
   (314, ⟨4, 40, .struct, [(0, 1), (1, 1), (2, 1), (3, 1)], [.nilp, .nilp, .nilp, .str ⟨#[]⟩], none, [17, 17, 17, 9]⟩),
   (315, ⟨4, 40, .struct, [(0, 1), (1, 1), (2, 1), (3, 1)], [.nilp, .nilp, .nilp, .str ⟨#[]⟩], none, [17, 17, 17, 9]⟩),
   (319, ⟨1, 8, .func, [], [.nilfn], none, []⟩),
   (320, ⟨1, 1, .int .u8, [], [.int .u8 0], none, []⟩),
   (321, ⟨1, 1, .int .u8, [], [.int .u8 0], none, []⟩),
   (322, ⟨1, 8, .func, [], [.nilfn], none, []⟩),
   (323, ⟨1, 4, .int .i32, [], [.int .i32 0], none, []⟩),
   (324, ⟨1, 4, .int .i32, [], [.int .i32 0], none, []⟩),
   (325, ⟨11, 48, .struct, [(0, 1), (1, 1), (2, 1), (3, 1), (4, 1), (5, 1), (6, 1), (7, 1), (8, 1), (9, 1), (10, 1)], [.int .u64 0, .int .u64 0, .int .u32 0, .int .u8 0, .int .u8 0, .int .u8 0, .int .u8 0, .nilfn, .nilp, .int .i32 0, .int .i32 0], none, [12, 12, 271, 320, 5, 5, 321, 322, 310, 323, 324]⟩),
   (326, ⟨11, 48, .struct, [(0, 1), (1, 1), (2, 1), (3, 1), (4, 1), (5, 1), (6, 1), (7, 1), (8, 1), (9, 1), (10, 1)], [.int .u64 0, .int .u64 0, .int .u32 0, .int .u8 0, .int .u8 0, .int .u8 0, .int .u8 0, .nilfn, .nilp, .int .i32 0, .int .i32 0], none, [12, 12, 271, 320, 5, 5, 321, 322, 310, 323, 324]⟩)]
def ty : TyT := fun t => (tyL.find? fun p => p.1 == t).map (·.2)
set_option maxRecDepth 100000
theorem tyL_ok : (tyL.all fun p => tyChk Tryz.prog p.1 p.2) = true := by kernel_rfl
theorem tyOk : TyOk Tryz.prog ty := by
  intro t ti h
  obtain ⟨p, hp, rfl⟩ := Option.map_eq_some_iff.1 h
  have h1 := List.find?_some hp
  have h2 := List.mem_of_find?_eq_some hp
  have h3 := List.all_eq_true.1 tyL_ok p h2
  simp only [beq_iff_eq] at h1
  rw [← h1]
  exact tyF_of h3
theorem tySz : ∀ t ti, ty t = some ti → ti.size ≠ 0 := by
  intro t ti h
  obtain ⟨p, hp, rfl⟩ := Option.map_eq_some_iff.1 h
  have h2 := List.mem_of_find?_eq_some hp
  have h3 : (tyL.all fun p => p.2.size != 0) = true := by kernel_rfl
  simpa using List.all_eq_true.1 h3 p h2
@[go_sem] theorem ty1 : ty 1 = some ⟨1, 8, .func, [], [.nilfn], none, []⟩ := rfl
@[go_sem] theorem ty2 : ty 2 = some ⟨1, 8, .int .i64, [], [.int .i64 0], none, []⟩ := rfl
@[go_sem] theorem ty3 : ty 3 = some ⟨1, 8, .int .i64, [], [.int .i64 0], none, []⟩ := rfl
@[go_sem] theorem ty4 : ty 4 = some ⟨1, 1, .bool, [], [.bool false], none, []⟩ := rfl
@[go_sem] theorem ty5 : ty 5 = some ⟨1, 1, .int .u8, [], [.int .u8 0], none, []⟩ := rfl
@[go_sem] theorem ty6 : ty 6 = some ⟨1, 1, .int .u8, [], [.int .u8 0], none, []⟩ := rfl
@[go_sem] theorem ty7 : ty 7 = some ⟨4, 24, .struct, [(0, 1), (1, 1), (2, 1), (3, 1)], [.int .i64 0, .int .i64 0, .bool false, .int .u8 0], none, [2, 3, 4, 6]⟩ := rfl
@[go_sem] theorem ty8 : ty 8 = some ⟨4, 24, .struct, [(0, 1), (1, 1), (2, 1), (3, 1)], [.int .i64 0, .int .i64 0, .bool false, .int .u8 0], none, [2, 3, 4, 6]⟩ := rfl
@[go_sem] theorem ty9 : ty 9 = some ⟨1, 16, .str, [], [.str ⟨#[]⟩], some (.one (.str)), []⟩ := rfl
@[go_sem] theorem ty10 : ty 10 = some ⟨1, 16, .str, [], [.str ⟨#[]⟩], none, []⟩ := rfl
@[go_sem] theorem ty11 : ty 11 = some ⟨1, 16, .str, [], [.str ⟨#[]⟩], none, []⟩ := rfl
@[go_sem] theorem ty12 : ty 12 = some ⟨1, 8, .int .u64, [], [.int .u64 0], none, []⟩ := rfl
@[go_sem] theorem ty13 : ty 13 = some ⟨2, 24, .struct, [(0, 1), (1, 1)], [.str ⟨#[]⟩, .int .u64 0], none, [9, 12]⟩ := rfl
@[go_sem] theorem ty14 : ty 14 = some ⟨2, 24, .struct, [(0, 1), (1, 1)], [.str ⟨#[]⟩, .int .u64 0], none, [9, 12]⟩ := rfl
@[go_sem] theorem ty15 : ty 15 = some ⟨1, 8, .ptr 315, [], [.nilp], none, []⟩ := rfl
@[go_sem] theorem ty16 : ty 16 = some ⟨1, 8, .ptr 318, [], [.nilp], none, []⟩ := rfl
@[go_sem] theorem ty17 : ty 17 = some ⟨1, 8, .ptr 326, [], [.nilp], none, []⟩ := rfl
@[go_sem] theorem ty18 : ty 18 = some ⟨1, 8, .struct, [(0, 1)], [.nilp], none, [17]⟩ := rfl
@[go_sem] theorem ty19 : ty 19 = some ⟨1, 8, .struct, [(0, 1)], [.nilp], none, [17]⟩ := rfl
@[go_sem] theorem ty20 : ty 20 = some ⟨1, 16, .iface, [], [.nilif], none, []⟩ := rfl
@[go_sem] theorem ty21 : ty 21 = some ⟨1, 4, .int .i32, [], [.int .i32 0], none, []⟩ := rfl
@[go_sem] theorem ty22 : ty 22 = some ⟨1, 24, .slice 24, [], [.nils], none, []⟩ := rfl
@[go_sem] theorem ty23 : ty 23 = some ⟨4, 56, .struct, [(0, 1), (1, 1), (2, 1), (3, 1)], [.int .i64 0, .int .i64 0, .str ⟨#[]⟩, .nils], none, [3, 2, 9, 22]⟩ := rfl
@[go_sem] theorem ty24 : ty 24 = some ⟨4, 56, .struct, [(0, 1), (1, 1), (2, 1), (3, 1)], [.int .i64 0, .int .i64 0, .str ⟨#[]⟩, .nils], none, [3, 2, 9, 22]⟩ := rfl
@[go_sem] theorem ty25 : ty 25 = some ⟨1, 8, .int .i64, [], [.int .i64 0], none, []⟩ := rfl
@[go_sem] theorem ty27 : ty 27 = some ⟨1, 8, .func, [], [.nilfn], none, []⟩ := rfl
@[go_sem] theorem ty28 : ty 28 = some ⟨1, 8, .func, [], [.nilfn], none, []⟩ := rfl
@[go_sem] theorem ty29 : ty 29 = some ⟨1, 8, .func, [], [.nilfn], none, []⟩ := rfl
@[go_sem] theorem ty30 : ty 30 = some ⟨1, 8, .func, [], [.nilfn], none, []⟩ := rfl
@[go_sem] theorem ty31 : ty 31 = some ⟨1, 8, .func, [], [.nilfn], none, []⟩ := rfl
@[go_sem] theorem ty32 : ty 32 = some ⟨1, 24, .slice 3, [], [.nils], none, []⟩ := rfl
@[go_sem] theorem ty34 : ty 34 = some ⟨1, 8, .func, [], [.nilfn], none, []⟩ := rfl
@[go_sem] theorem ty35 : ty 35 = some ⟨1, 24, .slice 9, [], [.nils], none, []⟩ := rfl
@[go_sem] theorem ty37 : ty 37 = some ⟨1, 8, .func, [], [.nilfn], none, []⟩ := rfl
@[go_sem] theorem ty39 : ty 39 = some ⟨1, 8, .func, [], [.nilfn], none, []⟩ := rfl
@[go_sem] theorem ty40 : ty 40 = some ⟨1, 8, .func, [], [.nilfn], none, []⟩ := rfl
@[go_sem] theorem ty41 : ty 41 = some ⟨1, 8, .func, [], [.nilfn], none, []⟩ := rfl
@[go_sem] theorem ty42 : ty 42 = some ⟨1, 8, .func, [], [.nilfn], none, []⟩ := rfl
@[go_sem] theorem ty44 : ty 44 = some ⟨1, 8, .func, [], [.nilfn], none, []⟩ := rfl
@[go_sem] theorem ty45 : ty 45 = some ⟨1, 8, .func, [], [.nilfn], none, []⟩ := rfl
@[go_sem] theorem ty46 : ty 46 = some ⟨1, 8, .func, [], [.nilfn], none, []⟩ := rfl
@[go_sem] theorem ty47 : ty 47 = some ⟨1, 8, .func, [], [.nilfn], none, []⟩ := rfl
@[go_sem] theorem ty48 : ty 48 = some ⟨1, 8, .func, [], [.nilfn], none, []⟩ := rfl
@[go_sem] theorem ty49 : ty 49 = some ⟨1, 8, .func, [], [.nilfn], none, []⟩ := rfl
@[go_sem] theorem ty51 : ty 51 = some ⟨1, 8, .func, [], [.nilfn], none, []⟩ := rfl
@[go_sem] theorem ty52 : ty 52 = some ⟨1, 8, .func, [], [.nilfn], none, []⟩ := rfl
@[go_sem] theorem ty53 : ty 53 = some ⟨1, 8, .func, [], [.nilfn], none, []⟩ := rfl
@[go_sem] theorem ty54 : ty 54 = some ⟨1, 8, .func, [], [.nilfn], none, []⟩ := rfl
@[go_sem] theorem ty56 : ty 56 = some ⟨1, 8, .func, [], [.nilfn], none, []⟩ := rfl
@[go_sem] theorem ty57 : ty 57 = some ⟨1, 24, .slice 62, [], [.nils], none, []⟩ := rfl
@[go_sem] theorem ty58 : ty 58 = some ⟨1, 8, .func, [], [.nilfn], none, []⟩ := rfl
@[go_sem] theorem ty59 : ty 59 = some ⟨1, 8, .func, [], [.nilfn], none, []⟩ := rfl
@[go_sem] theorem ty60 : ty 60 = some ⟨1, 24, .slice 64, [], [.nils], none, []⟩ := rfl
@[go_sem] theorem ty61 : ty 61 = some ⟨3, 64, .struct, [(0, 1), (1, 1), (2, 1)], [.str ⟨#[]⟩, .nils, .nils], none, [9, 32, 60]⟩ := rfl
@[go_sem] theorem ty62 : ty 62 = some ⟨3, 64, .struct, [(0, 1), (1, 1), (2, 1)], [.str ⟨#[]⟩, .nils, .nils], none, [9, 32, 60]⟩ := rfl
@[go_sem] theorem ty63 : ty 63 = some ⟨3, 48, .struct, [(0, 1), (1, 1), (2, 1)], [.str ⟨#[]⟩, .nils, .int .i64 0], none, [9, 32, 3]⟩ := rfl
@[go_sem] theorem ty64 : ty 64 = some ⟨3, 48, .struct, [(0, 1), (1, 1), (2, 1)], [.str ⟨#[]⟩, .nils, .int .i64 0], none, [9, 32, 3]⟩ := rfl
@[go_sem] theorem ty66 : ty 66 = some ⟨1, 8, .func, [], [.nilfn], none, []⟩ := rfl
@[go_sem] theorem ty67 : ty 67 = some ⟨1, 8, .func, [], [.nilfn], none, []⟩ := rfl
@[go_sem] theorem ty68 : ty 68 = some ⟨1, 8, .func, [], [.nilfn], none, []⟩ := rfl
@[go_sem] theorem ty69 : ty 69 = some ⟨1, 24, .slice 32, [], [.nils], none, []⟩ := rfl
@[go_sem] theorem ty70 : ty 70 = some ⟨1, 8, .func, [], [.nilfn], none, []⟩ := rfl
@[go_sem] theorem ty72 : ty 72 = some ⟨1, 8, .func, [], [.nilfn], none, []⟩ := rfl
@[go_sem] theorem ty73 : ty 73 = some ⟨1, 8, .func, [], [.nilfn], none, []⟩ := rfl
@[go_sem] theorem ty74 : ty 74 = some ⟨1, 8, .func, [], [.nilfn], none, []⟩ := rfl
@[go_sem] theorem ty75 : ty 75 = some ⟨1, 8, .func, [], [.nilfn], none, []⟩ := rfl
@[go_sem] theorem ty76 : ty 76 = some ⟨1, 8, .func, [], [.nilfn], none, []⟩ := rfl
@[go_sem] theorem ty77 : ty 77 = some ⟨1, 8, .func, [], [.nilfn], none, []⟩ := rfl
@[go_sem] theorem ty78 : ty 78 = some ⟨1, 8, .func, [], [.nilfn], none, []⟩ := rfl
@[go_sem] theorem ty79 : ty 79 = some ⟨1, 8, .func, [], [.nilfn], none, []⟩ := rfl
@[go_sem] theorem ty80 : ty 80 = some ⟨1, 8, .func, [], [.nilfn], none, []⟩ := rfl
@[go_sem] theorem ty81 : ty 81 = some ⟨1, 8, .func, [], [.nilfn], none, []⟩ := rfl
@[go_sem] theorem ty82 : ty 82 = some ⟨1, 8, .func, [], [.nilfn], none, []⟩ := rfl
@[go_sem] theorem ty83 : ty 83 = some ⟨1, 8, .func, [], [.nilfn], none, []⟩ := rfl
@[go_sem] theorem ty84 : ty 84 = some ⟨1, 8, .func, [], [.nilfn], none, []⟩ := rfl
@[go_sem] theorem ty86 : ty 86 = some ⟨1, 8, .func, [], [.nilfn], none, []⟩ := rfl
@[go_sem] theorem ty88 : ty 88 = some ⟨1, 8, .func, [], [.nilfn], none, []⟩ := rfl
@[go_sem] theorem ty89 : ty 89 = some ⟨1, 8, .func, [], [.nilfn], none, []⟩ := rfl
@[go_sem] theorem ty91 : ty 91 = some ⟨1, 8, .func, [], [.nilfn], none, []⟩ := rfl
@[go_sem] theorem ty92 : ty 92 = some ⟨1, 8, .func, [], [.nilfn], none, []⟩ := rfl
@[go_sem] theorem ty93 : ty 93 = some ⟨1, 8, .func, [], [.nilfn], none, []⟩ := rfl
@[go_sem] theorem ty94 : ty 94 = some ⟨1, 8, .func, [], [.nilfn], none, []⟩ := rfl
@[go_sem] theorem ty95 : ty 95 = some ⟨1, 8, .map 9 4, [], [.nilmap], none, []⟩ := rfl
@[go_sem] theorem ty96 : ty 96 = some ⟨1, 8, .func, [], [.nilfn], none, []⟩ := rfl
@[go_sem] theorem ty97 : ty 97 = some ⟨1, 8, .func, [], [.nilfn], none, []⟩ := rfl
@[go_sem] theorem ty98 : ty 98 = some ⟨1, 8, .func, [], [.nilfn], none, []⟩ := rfl
@[go_sem] theorem ty99 : ty 99 = some ⟨2, 32, .struct, [(0, 1), (1, 1)], [.nils, .int .i64 0], none, [32, 3]⟩ := rfl
@[go_sem] theorem ty100 : ty 100 = some ⟨2, 32, .struct, [(0, 1), (1, 1)], [.nils, .int .i64 0], none, [32, 3]⟩ := rfl
@[go_sem] theorem ty101 : ty 101 = some ⟨1, 8, .ptr 106, [], [.nilp], none, []⟩ := rfl
@[go_sem] theorem ty102 : ty 102 = some ⟨1, 24, .slice 100, [], [.nils], none, []⟩ := rfl
@[go_sem] theorem ty103 : ty 103 = some ⟨1, 8, .func, [], [.nilfn], none, []⟩ := rfl
@[go_sem] theorem ty104 : ty 104 = some ⟨1, 8, .func, [], [.nilfn], none, []⟩ := rfl
@[go_sem] theorem ty105 : ty 105 = some ⟨2, 16, .struct, [(0, 1), (1, 1)], [.nilfn, .nilfn], none, [103, 104]⟩ := rfl
@[go_sem] theorem ty106 : ty 106 = some ⟨2, 16, .struct, [(0, 1), (1, 1)], [.nilfn, .nilfn], none, [103, 104]⟩ := rfl
@[go_sem] theorem ty107 : ty 107 = some ⟨1, 8, .func, [], [.nilfn], none, []⟩ := rfl
@[go_sem] theorem ty108 : ty 108 = some ⟨1, 8, .func, [], [.nilfn], none, []⟩ := rfl
@[go_sem] theorem ty109 : ty 109 = some ⟨1, 8, .func, [], [.nilfn], none, []⟩ := rfl
@[go_sem] theorem ty110 : ty 110 = some ⟨1, 8, .func, [], [.nilfn], none, []⟩ := rfl
@[go_sem] theorem ty111 : ty 111 = some ⟨1, 8, .ptr 113, [], [.nilp], none, []⟩ := rfl
@[go_sem] theorem ty112 : ty 112 = some ⟨1, 8, .struct, [(0, 1)], [.int .i64 0], none, [3]⟩ := rfl
@[go_sem] theorem ty113 : ty 113 = some ⟨1, 8, .struct, [(0, 1)], [.int .i64 0], none, [3]⟩ := rfl
@[go_sem] theorem ty114 : ty 114 = some ⟨1, 8, .func, [], [.nilfn], none, []⟩ := rfl
@[go_sem] theorem ty115 : ty 115 = some ⟨1, 8, .func, [], [.nilfn], none, []⟩ := rfl
@[go_sem] theorem ty116 : ty 116 = some ⟨1, 8, .func, [], [.nilfn], none, []⟩ := rfl
@[go_sem] theorem ty117 : ty 117 = some ⟨1, 8, .func, [], [.nilfn], none, []⟩ := rfl
@[go_sem] theorem ty118 : ty 118 = some ⟨1, 8, .map 9 9, [], [.nilmap], none, []⟩ := rfl
@[go_sem] theorem ty119 : ty 119 = some ⟨1, 8, .func, [], [.nilfn], none, []⟩ := rfl
@[go_sem] theorem ty120 : ty 120 = some ⟨1, 8, .func, [], [.nilfn], none, []⟩ := rfl
@[go_sem] theorem ty121 : ty 121 = some ⟨1, 8, .func, [], [.nilfn], none, []⟩ := rfl
@[go_sem] theorem ty122 : ty 122 = some ⟨1, 8, .func, [], [.nilfn], none, []⟩ := rfl
@[go_sem] theorem ty124 : ty 124 = some ⟨1, 8, .func, [], [.nilfn], none, []⟩ := rfl
@[go_sem] theorem ty125 : ty 125 = some ⟨1, 8, .func, [], [.nilfn], none, []⟩ := rfl
@[go_sem] theorem ty126 : ty 126 = some ⟨1, 8, .func, [], [.nilfn], none, []⟩ := rfl
@[go_sem] theorem ty127 : ty 127 = some ⟨1, 8, .func, [], [.nilfn], none, []⟩ := rfl
@[go_sem] theorem ty128 : ty 128 = some ⟨1, 8, .func, [], [.nilfn], none, []⟩ := rfl
@[go_sem] theorem ty129 : ty 129 = some ⟨1, 8, .ptr 24, [], [.nilp], none, []⟩ := rfl
@[go_sem] theorem ty130 : ty 130 = some ⟨1, 8, .func, [], [.nilfn], none, []⟩ := rfl
@[go_sem] theorem ty131 : ty 131 = some ⟨1, 8, .map 9 3, [], [.nilmap], none, []⟩ := rfl
@[go_sem] theorem ty132 : ty 132 = some ⟨1, 8, .ptr 202, [], [.nilp], none, []⟩ := rfl
@[go_sem] theorem ty134 : ty 134 = some ⟨1, 8, .func, [], [.nilfn], none, []⟩ := rfl
@[go_sem] theorem ty136 : ty 136 = some ⟨1, 8, .func, [], [.nilfn], none, []⟩ := rfl
@[go_sem] theorem ty137 : ty 137 = some ⟨1, 8, .func, [], [.nilfn], none, []⟩ := rfl
@[go_sem] theorem ty138 : ty 138 = some ⟨1, 8, .func, [], [.nilfn], none, []⟩ := rfl
@[go_sem] theorem ty139 : ty 139 = some ⟨1, 8, .map 141 3, [], [.nilmap], none, []⟩ := rfl
@[go_sem] theorem ty140 : ty 140 = some ⟨2, 24, .struct, [(0, 1), (1, 1)], [.int .i64 0, .str ⟨#[]⟩], none, [2, 9]⟩ := rfl
@[go_sem] theorem ty141 : ty 141 = some ⟨2, 24, .struct, [(0, 1), (1, 1)], [.int .i64 0, .str ⟨#[]⟩], some (.many [.int .i64, .str]), [2, 9]⟩ := rfl
@[go_sem] theorem ty142 : ty 142 = some ⟨1, 8, .func, [], [.nilfn], none, []⟩ := rfl
@[go_sem] theorem ty143 : ty 143 = some ⟨1, 8, .ptr 145, [], [.nilp], none, []⟩ := rfl
@[go_sem] theorem ty144 : ty 144 = some ⟨3, 24, .struct, [(0, 1), (1, 1), (2, 1)], [.nilfn, .nilfn, .bool false], none, [28, 28, 4]⟩ := rfl
@[go_sem] theorem ty145 : ty 145 = some ⟨3, 24, .struct, [(0, 1), (1, 1), (2, 1)], [.nilfn, .nilfn, .bool false], none, [28, 28, 4]⟩ := rfl
@[go_sem] theorem ty147 : ty 147 = some ⟨1, 8, .func, [], [.nilfn], none, []⟩ := rfl
@[go_sem] theorem ty148 : ty 148 = some ⟨1, 8, .func, [], [.nilfn], none, []⟩ := rfl
@[go_sem] theorem ty149 : ty 149 = some ⟨1, 8, .func, [], [.nilfn], none, []⟩ := rfl
@[go_sem] theorem ty150 : ty 150 = some ⟨1, 8, .func, [], [.nilfn], none, []⟩ := rfl
@[go_sem] theorem ty151 : ty 151 = some ⟨1, 8, .func, [], [.nilfn], none, []⟩ := rfl
@[go_sem] theorem ty152 : ty 152 = some ⟨1, 8, .func, [], [.nilfn], none, []⟩ := rfl
@[go_sem] theorem ty153 : ty 153 = some ⟨1, 8, .func, [], [.nilfn], none, []⟩ := rfl
@[go_sem] theorem ty154 : ty 154 = some ⟨1, 8, .func, [], [.nilfn], none, []⟩ := rfl
@[go_sem] theorem ty155 : ty 155 = some ⟨1, 8, .func, [], [.nilfn], none, []⟩ := rfl
@[go_sem] theorem ty156 : ty 156 = some ⟨1, 8, .func, [], [.nilfn], none, []⟩ := rfl
@[go_sem] theorem ty157 : ty 157 = some ⟨1, 8, .func, [], [.nilfn], none, []⟩ := rfl
@[go_sem] theorem ty158 : ty 158 = some ⟨1, 8, .func, [], [.nilfn], none, []⟩ := rfl
@[go_sem] theorem ty159 : ty 159 = some ⟨1, 8, .func, [], [.nilfn], none, []⟩ := rfl
@[go_sem] theorem ty160 : ty 160 = some ⟨1, 8, .func, [], [.nilfn], none, []⟩ := rfl
@[go_sem] theorem ty161 : ty 161 = some ⟨1, 8, .func, [], [.nilfn], none, []⟩ := rfl
@[go_sem] theorem ty162 : ty 162 = some ⟨1, 8, .func, [], [.nilfn], none, []⟩ := rfl
@[go_sem] theorem ty163 : ty 163 = some ⟨1, 8, .func, [], [.nilfn], none, []⟩ := rfl
@[go_sem] theorem ty164 : ty 164 = some ⟨1, 8, .ptr 237, [], [.nilp], none, []⟩ := rfl
@[go_sem] theorem ty166 : ty 166 = some ⟨1, 8, .func, [], [.nilfn], none, []⟩ := rfl
@[go_sem] theorem ty167 : ty 167 = some ⟨1, 8, .func, [], [.nilfn], none, []⟩ := rfl
@[go_sem] theorem ty168 : ty 168 = some ⟨1, 8, .func, [], [.nilfn], none, []⟩ := rfl
@[go_sem] theorem ty169 : ty 169 = some ⟨1, 8, .func, [], [.nilfn], none, []⟩ := rfl
@[go_sem] theorem ty170 : ty 170 = some ⟨1, 24, .slice 60, [], [.nils], none, []⟩ := rfl
@[go_sem] theorem ty171 : ty 171 = some ⟨1, 8, .func, [], [.nilfn], none, []⟩ := rfl
@[go_sem] theorem ty172 : ty 172 = some ⟨1, 8, .func, [], [.nilfn], none, []⟩ := rfl
@[go_sem] theorem ty173 : ty 173 = some ⟨1, 8, .func, [], [.nilfn], none, []⟩ := rfl
@[go_sem] theorem ty174 : ty 174 = some ⟨1, 8, .func, [], [.nilfn], none, []⟩ := rfl
@[go_sem] theorem ty175 : ty 175 = some ⟨1, 8, .int .u64, [], [.int .u64 0], none, []⟩ := rfl
@[go_sem] theorem ty177 : ty 177 = some ⟨1, 8, .func, [], [.nilfn], none, []⟩ := rfl
@[go_sem] theorem ty178 : ty 178 = some ⟨1, 8, .func, [], [.nilfn], none, []⟩ := rfl
@[go_sem] theorem ty179 : ty 179 = some ⟨1, 8, .ptr 184, [], [.nilp], none, []⟩ := rfl
@[go_sem] theorem ty180 : ty 180 = some ⟨1, 8, .func, [], [.nilfn], none, []⟩ := rfl
@[go_sem] theorem ty181 : ty 181 = some ⟨1, 8, .func, [], [.nilfn], none, []⟩ := rfl
@[go_sem] theorem ty182 : ty 182 = some ⟨1, 8, .func, [], [.nilfn], none, []⟩ := rfl
@[go_sem] theorem ty183 : ty 183 = some ⟨3, 40, .struct, [(0, 1), (1, 1), (2, 1)], [.str ⟨#[]⟩, .str ⟨#[]⟩, .nilp], none, [9, 9, 179]⟩ := rfl
@[go_sem] theorem ty184 : ty 184 = some ⟨3, 40, .struct, [(0, 1), (1, 1), (2, 1)], [.str ⟨#[]⟩, .str ⟨#[]⟩, .nilp], none, [9, 9, 179]⟩ := rfl
@[go_sem] theorem ty185 : ty 185 = some ⟨1, 8, .ptr 190, [], [.nilp], none, []⟩ := rfl
@[go_sem] theorem ty186 : ty 186 = some ⟨1, 24, .slice 4, [], [.nils], none, []⟩ := rfl
@[go_sem] theorem ty187 : ty 187 = some ⟨1, 8, .func, [], [.nilfn], none, []⟩ := rfl
@[go_sem] theorem ty188 : ty 188 = some ⟨1, 8, .func, [], [.nilfn], none, []⟩ := rfl
@[go_sem] theorem ty189 : ty 189 = some ⟨2, 16, .struct, [(0, 1), (1, 1)], [.nilfn, .nilfn], none, [187, 188]⟩ := rfl
@[go_sem] theorem ty190 : ty 190 = some ⟨2, 16, .struct, [(0, 1), (1, 1)], [.nilfn, .nilfn], none, [187, 188]⟩ := rfl
@[go_sem] theorem ty191 : ty 191 = some ⟨1, 8, .func, [], [.nilfn], none, []⟩ := rfl
@[go_sem] theorem ty192 : ty 192 = some ⟨1, 8, .func, [], [.nilfn], none, []⟩ := rfl
@[go_sem] theorem ty193 : ty 193 = some ⟨1, 8, .ptr 198, [], [.nilp], none, []⟩ := rfl
@[go_sem] theorem ty194 : ty 194 = some ⟨1, 8, .func, [], [.nilfn], none, []⟩ := rfl
@[go_sem] theorem ty195 : ty 195 = some ⟨1, 8, .func, [], [.nilfn], none, []⟩ := rfl
@[go_sem] theorem ty196 : ty 196 = some ⟨1, 8, .func, [], [.nilfn], none, []⟩ := rfl
@[go_sem] theorem ty197 : ty 197 = some ⟨2, 16, .struct, [(0, 1), (1, 1)], [.nilfn, .nilfn], none, [195, 196]⟩ := rfl
@[go_sem] theorem ty198 : ty 198 = some ⟨2, 16, .struct, [(0, 1), (1, 1)], [.nilfn, .nilfn], none, [195, 196]⟩ := rfl
@[go_sem] theorem ty199 : ty 199 = some ⟨1, 8, .func, [], [.nilfn], none, []⟩ := rfl
@[go_sem] theorem ty200 : ty 200 = some ⟨1, 8, .func, [], [.nilfn], none, []⟩ := rfl
@[go_sem] theorem ty201 : ty 201 = some ⟨1, 8, .struct, [(0, 1)], [.nilmap], none, [139]⟩ := rfl
@[go_sem] theorem ty202 : ty 202 = some ⟨1, 8, .struct, [(0, 1)], [.nilmap], none, [139]⟩ := rfl
@[go_sem] theorem ty203 : ty 203 = some ⟨1, 8, .func, [], [.nilfn], none, []⟩ := rfl
@[go_sem] theorem ty204 : ty 204 = some ⟨1, 8, .func, [], [.nilfn], none, []⟩ := rfl
@[go_sem] theorem ty205 : ty 205 = some ⟨1, 8, .func, [], [.nilfn], none, []⟩ := rfl
@[go_sem] theorem ty206 : ty 206 = some ⟨1, 8, .map 141 24, [], [.nilmap], none, []⟩ := rfl
@[go_sem] theorem ty207 : ty 207 = some ⟨1, 8, .func, [], [.nilfn], none, []⟩ := rfl
@[go_sem] theorem ty208 : ty 208 = some ⟨1, 8, .map 141 4, [], [.nilmap], none, []⟩ := rfl
@[go_sem] theorem ty209 : ty 209 = some ⟨1, 8, .func, [], [.nilfn], none, []⟩ := rfl
@[go_sem] theorem ty210 : ty 210 = some ⟨1, 8, .func, [], [.nilfn], none, []⟩ := rfl
@[go_sem] theorem ty211 : ty 211 = some ⟨1, 24, .slice 213, [], [.nils], none, []⟩ := rfl
@[go_sem] theorem ty212 : ty 212 = some ⟨5, 64, .struct, [(0, 1), (1, 1), (2, 1), (3, 1), (4, 1)], [.int .i64 0, .int .i64 0, .str ⟨#[]⟩, .nils, .int .i64 0], none, [3, 2, 9, 211, 3]⟩ := rfl
@[go_sem] theorem ty213 : ty 213 = some ⟨5, 64, .struct, [(0, 1), (1, 1), (2, 1), (3, 1), (4, 1)], [.int .i64 0, .int .i64 0, .str ⟨#[]⟩, .nils, .int .i64 0], none, [3, 2, 9, 211, 3]⟩ := rfl
@[go_sem] theorem ty215 : ty 215 = some ⟨1, 8, .func, [], [.nilfn], none, []⟩ := rfl
@[go_sem] theorem ty216 : ty 216 = some ⟨1, 8, .func, [], [.nilfn], none, []⟩ := rfl
@[go_sem] theorem ty217 : ty 217 = some ⟨1, 8, .func, [], [.nilfn], none, []⟩ := rfl
@[go_sem] theorem ty218 : ty 218 = some ⟨1, 8, .func, [], [.nilfn], none, []⟩ := rfl
@[go_sem] theorem ty219 : ty 219 = some ⟨1, 8, .func, [], [.nilfn], none, []⟩ := rfl
@[go_sem] theorem ty220 : ty 220 = some ⟨2, 16, .struct, [(0, 1), (1, 1)], [.int .i64 0, .int .i64 0], none, [3, 3]⟩ := rfl
@[go_sem] theorem ty222 : ty 222 = some ⟨1, 8, .map 9 220, [], [.nilmap], none, []⟩ := rfl
@[go_sem] theorem ty223 : ty 223 = some ⟨1, 8, .func, [], [.nilfn], none, []⟩ := rfl
@[go_sem] theorem ty224 : ty 224 = some ⟨1, 24, .slice 229, [], [.nils], none, []⟩ := rfl
@[go_sem] theorem ty225 : ty 225 = some ⟨1, 8, .func, [], [.nilfn], none, []⟩ := rfl
@[go_sem] theorem ty226 : ty 226 = some ⟨1, 8, .func, [], [.nilfn], none, []⟩ := rfl
@[go_sem] theorem ty227 : ty 227 = some ⟨1, 8, .func, [], [.nilfn], none, []⟩ := rfl
@[go_sem] theorem ty228 : ty 228 = some ⟨2, 32, .struct, [(0, 1), (1, 1)], [.str ⟨#[]⟩, .str ⟨#[]⟩], none, [9, 9]⟩ := rfl
@[go_sem] theorem ty229 : ty 229 = some ⟨2, 32, .struct, [(0, 1), (1, 1)], [.str ⟨#[]⟩, .str ⟨#[]⟩], none, [9, 9]⟩ := rfl
@[go_sem] theorem ty230 : ty 230 = some ⟨1, 8, .func, [], [.nilfn], none, []⟩ := rfl
@[go_sem] theorem ty231 : ty 231 = some ⟨1, 8, .func, [], [.nilfn], none, []⟩ := rfl
@[go_sem] theorem ty232 : ty 232 = some ⟨1, 16, .iface, [], [.nilif], none, []⟩ := rfl
@[go_sem] theorem ty233 : ty 233 = some ⟨1, 16, .iface, [], [.nilif], none, []⟩ := rfl
@[go_sem] theorem ty235 : ty 235 = some ⟨1, 8, .func, [], [.nilfn], none, []⟩ := rfl
@[go_sem] theorem ty236 : ty 236 = some ⟨4, 56, .struct, [(0, 1), (1, 2), (3, 1)], [.str ⟨#[]⟩, .nils, .int .i64 0, .nilp], none, [9, 100, 164]⟩ := rfl
@[go_sem] theorem ty237 : ty 237 = some ⟨4, 56, .struct, [(0, 1), (1, 2), (3, 1)], [.str ⟨#[]⟩, .nils, .int .i64 0, .nilp], none, [9, 100, 164]⟩ := rfl
@[go_sem] theorem ty238 : ty 238 = some ⟨1, 8, .func, [], [.nilfn], none, []⟩ := rfl
@[go_sem] theorem ty239 : ty 239 = some ⟨1, 8, .func, [], [.nilfn], none, []⟩ := rfl
@[go_sem] theorem ty240 : ty 240 = some ⟨1, 24, .slice 5, [], [.nils], none, []⟩ := rfl
@[go_sem] theorem ty241 : ty 241 = some ⟨1, 8, .ptr 267, [], [.nilp], none, []⟩ := rfl
@[go_sem] theorem ty243 : ty 243 = some ⟨1, 8, .func, [], [.nilfn], none, []⟩ := rfl
@[go_sem] theorem ty244 : ty 244 = some ⟨1, 8, .func, [], [.nilfn], none, []⟩ := rfl
@[go_sem] theorem ty245 : ty 245 = some ⟨1, 8, .func, [], [.nilfn], none, []⟩ := rfl
@[go_sem] theorem ty246 : ty 246 = some ⟨1, 8, .func, [], [.nilfn], none, []⟩ := rfl
@[go_sem] theorem ty247 : ty 247 = some ⟨1, 24, .slice 248, [], [.nils], none, []⟩ := rfl
@[go_sem] theorem ty248 : ty 248 = some ⟨2, 24, .struct, [(0, 1), (1, 1)], [.str ⟨#[]⟩, .int .i64 0], none, [9, 3]⟩ := rfl
@[go_sem] theorem ty249 : ty 249 = some ⟨1, 8, .func, [], [.nilfn], none, []⟩ := rfl
@[go_sem] theorem ty250 : ty 250 = some ⟨24, 24, .array 24 5, [], [.int .u8 0, .int .u8 0, .int .u8 0, .int .u8 0, .int .u8 0, .int .u8 0, .int .u8 0, .int .u8 0, .int .u8 0, .int .u8 0, .int .u8 0, .int .u8 0, .int .u8 0, .int .u8 0, .int .u8 0, .int .u8 0, .int .u8 0, .int .u8 0, .int .u8 0, .int .u8 0, .int .u8 0, .int .u8 0, .int .u8 0, .int .u8 0], none, []⟩ := rfl
@[go_sem] theorem ty251 : ty 251 = some ⟨1, 8, .func, [], [.nilfn], none, []⟩ := rfl
@[go_sem] theorem ty252 : ty 252 = some ⟨1, 8, .func, [], [.nilfn], none, []⟩ := rfl
@[go_sem] theorem ty254 : ty 254 = some ⟨1, 8, .func, [], [.nilfn], none, []⟩ := rfl
@[go_sem] theorem ty255 : ty 255 = some ⟨1, 8, .ptr 257, [], [.nilp], none, []⟩ := rfl
@[go_sem] theorem ty256 : ty 256 = some ⟨4, 40, .struct, [(0, 1), (1, 1), (2, 1), (3, 1)], [.str ⟨#[]⟩, .int .i64 0, .int .i64 0, .int .i64 0], none, [9, 3, 25, 3]⟩ := rfl
@[go_sem] theorem ty257 : ty 257 = some ⟨4, 40, .struct, [(0, 1), (1, 1), (2, 1), (3, 1)], [.str ⟨#[]⟩, .int .i64 0, .int .i64 0, .int .i64 0], none, [9, 3, 25, 3]⟩ := rfl
@[go_sem] theorem ty258 : ty 258 = some ⟨1, 8, .func, [], [.nilfn], none, []⟩ := rfl
@[go_sem] theorem ty259 : ty 259 = some ⟨1, 8, .func, [], [.nilfn], none, []⟩ := rfl
@[go_sem] theorem ty260 : ty 260 = some ⟨1, 8, .func, [], [.nilfn], none, []⟩ := rfl
@[go_sem] theorem ty261 : ty 261 = some ⟨1, 8, .func, [], [.nilfn], none, []⟩ := rfl
@[go_sem] theorem ty262 : ty 262 = some ⟨1, 8, .func, [], [.nilfn], none, []⟩ := rfl
@[go_sem] theorem ty263 : ty 263 = some ⟨1, 8, .int .u64, [], [.int .u64 0], none, []⟩ := rfl
@[go_sem] theorem ty264 : ty 264 = some ⟨1, 8, .func, [], [.nilfn], none, []⟩ := rfl
@[go_sem] theorem ty265 : ty 265 = some ⟨1, 8, .func, [], [.nilfn], none, []⟩ := rfl
@[go_sem] theorem ty266 : ty 266 = some ⟨3, 32, .struct, [(0, 1), (1, 1), (2, 1)], [.str ⟨#[]⟩, .bool false, .nilp], none, [9, 4, 241]⟩ := rfl
@[go_sem] theorem ty267 : ty 267 = some ⟨3, 32, .struct, [(0, 1), (1, 1), (2, 1)], [.str ⟨#[]⟩, .bool false, .nilp], none, [9, 4, 241]⟩ := rfl
@[go_sem] theorem ty268 : ty 268 = some ⟨1, 8, .func, [], [.nilfn], none, []⟩ := rfl
@[go_sem] theorem ty269 : ty 269 = some ⟨1, 8, .func, [], [.nilfn], none, []⟩ := rfl
@[go_sem] theorem ty270 : ty 270 = some ⟨20, 160, .array 20 175, [], [.int .u64 0, .int .u64 0, .int .u64 0, .int .u64 0, .int .u64 0, .int .u64 0, .int .u64 0, .int .u64 0, .int .u64 0, .int .u64 0, .int .u64 0, .int .u64 0, .int .u64 0, .int .u64 0, .int .u64 0, .int .u64 0, .int .u64 0, .int .u64 0, .int .u64 0, .int .u64 0], none, []⟩ := rfl
@[go_sem] theorem ty271 : ty 271 = some ⟨1, 4, .int .u32, [], [.int .u32 0], none, []⟩ := rfl
@[go_sem] theorem ty272 : ty 272 = some ⟨65, 65, .array 65 5, [], [.int .u8 0, .int .u8 0, .int .u8 0, .int .u8 0, .int .u8 0, .int .u8 0, .int .u8 0, .int .u8 0, .int .u8 0, .int .u8 0, .int .u8 0, .int .u8 0, .int .u8 0, .int .u8 0, .int .u8 0, .int .u8 0, .int .u8 0, .int .u8 0, .int .u8 0, .int .u8 0, .int .u8 0, .int .u8 0, .int .u8 0, .int .u8 0, .int .u8 0, .int .u8 0, .int .u8 0, .int .u8 0, .int .u8 0, .int .u8 0, .int .u8 0, .int .u8 0, .int .u8 0, .int .u8 0, .int .u8 0, .int .u8 0, .int .u8 0, .int .u8 0, .int .u8 0, .int .u8 0, .int .u8 0, .int .u8 0, .int .u8 0, .int .u8 0, .int .u8 0, .int .u8 0, .int .u8 0, .int .u8 0, .int .u8 0, .int .u8 0, .int .u8 0, .int .u8 0, .int .u8 0, .int .u8 0, .int .u8 0, .int .u8 0, .int .u8 0, .int .u8 0, .int .u8 0, .int .u8 0, .int .u8 0, .int .u8 0, .int .u8 0, .int .u8 0, .int .u8 0], none, []⟩ := rfl
@[go_sem] theorem ty273 : ty 273 = some ⟨1, 8, .func, [], [.nilfn], none, []⟩ := rfl
@[go_sem] theorem ty274 : ty 274 = some ⟨1, 8, .func, [], [.nilfn], none, []⟩ := rfl
@[go_sem] theorem ty275 : ty 275 = some ⟨1, 8, .func, [], [.nilfn], none, []⟩ := rfl
@[go_sem] theorem ty276 : ty 276 = some ⟨1, 8, .int .i64, [], [.int .i64 0], none, []⟩ := rfl
@[go_sem] theorem ty278 : ty 278 = some ⟨1, 8, .func, [], [.nilfn], none, []⟩ := rfl
@[go_sem] theorem ty279 : ty 279 = some ⟨1, 8, .func, [], [.nilfn], none, []⟩ := rfl
@[go_sem] theorem ty280 : ty 280 = some ⟨1, 8, .func, [], [.nilfn], none, []⟩ := rfl
@[go_sem] theorem ty281 : ty 281 = some ⟨1, 8, .func, [], [.nilfn], none, []⟩ := rfl
@[go_sem] theorem ty282 : ty 282 = some ⟨1, 8, .func, [], [.nilfn], none, []⟩ := rfl
@[go_sem] theorem ty283 : ty 283 = some ⟨1, 8, .func, [], [.nilfn], none, []⟩ := rfl
@[go_sem] theorem ty284 : ty 284 = some ⟨1, 8, .int .i64, [], [.int .i64 0], none, []⟩ := rfl
@[go_sem] theorem ty286 : ty 286 = some ⟨1, 8, .func, [], [.nilfn], none, []⟩ := rfl
@[go_sem] theorem ty287 : ty 287 = some ⟨1, 8, .ptr 302, [], [.nilp], none, []⟩ := rfl
@[go_sem] theorem ty288 : ty 288 = some ⟨1, 8, .func, [], [.nilfn], none, []⟩ := rfl
@[go_sem] theorem ty289 : ty 289 = some ⟨1, 8, .func, [], [.nilfn], none, []⟩ := rfl
@[go_sem] theorem ty291 : ty 291 = some ⟨1, 8, .func, [], [.nilfn], none, []⟩ := rfl
@[go_sem] theorem ty292 : ty 292 = some ⟨1, 8, .int .u64, [], [.int .u64 0], none, []⟩ := rfl
@[go_sem] theorem ty293 : ty 293 = some ⟨1, 8, .func, [], [.nilfn], none, []⟩ := rfl
@[go_sem] theorem ty294 : ty 294 = some ⟨1, 8, .func, [], [.nilfn], none, []⟩ := rfl
@[go_sem] theorem ty295 : ty 295 = some ⟨1, 8, .func, [], [.nilfn], none, []⟩ := rfl
@[go_sem] theorem ty296 : ty 296 = some ⟨1, 8, .ptr 3, [], [.nilp], none, []⟩ := rfl
@[go_sem] theorem ty297 : ty 297 = some ⟨1, 8, .func, [], [.nilfn], none, []⟩ := rfl
@[go_sem] theorem ty299 : ty 299 = some ⟨1, 8, .func, [], [.nilfn], none, []⟩ := rfl
@[go_sem] theorem ty300 : ty 300 = some ⟨1, 8, .func, [], [.nilfn], none, []⟩ := rfl
@[go_sem] theorem ty301 : ty 301 = some ⟨3, 48, .struct, [(0, 1), (1, 1), (2, 1)], [.str ⟨#[]⟩, .str ⟨#[]⟩, .nilif], none, [9, 9, 233]⟩ := rfl
@[go_sem] theorem ty302 : ty 302 = some ⟨3, 48, .struct, [(0, 1), (1, 1), (2, 1)], [.str ⟨#[]⟩, .str ⟨#[]⟩, .nilif], none, [9, 9, 233]⟩ := rfl
@[go_sem] theorem ty303 : ty 303 = some ⟨1, 8, .func, [], [.nilfn], none, []⟩ := rfl
@[go_sem] theorem ty304 : ty 304 = some ⟨32, 32, .array 32 5, [], [.int .u8 0, .int .u8 0, .int .u8 0, .int .u8 0, .int .u8 0, .int .u8 0, .int .u8 0, .int .u8 0, .int .u8 0, .int .u8 0, .int .u8 0, .int .u8 0, .int .u8 0, .int .u8 0, .int .u8 0, .int .u8 0, .int .u8 0, .int .u8 0, .int .u8 0, .int .u8 0, .int .u8 0, .int .u8 0, .int .u8 0, .int .u8 0, .int .u8 0, .int .u8 0, .int .u8 0, .int .u8 0, .int .u8 0, .int .u8 0, .int .u8 0, .int .u8 0], none, []⟩ := rfl
@[go_sem] theorem ty305 : ty 305 = some ⟨64, 64, .array 64 5, [], [.int .u8 0, .int .u8 0, .int .u8 0, .int .u8 0, .int .u8 0, .int .u8 0, .int .u8 0, .int .u8 0, .int .u8 0, .int .u8 0, .int .u8 0, .int .u8 0, .int .u8 0, .int .u8 0, .int .u8 0, .int .u8 0, .int .u8 0, .int .u8 0, .int .u8 0, .int .u8 0, .int .u8 0, .int .u8 0, .int .u8 0, .int .u8 0, .int .u8 0, .int .u8 0, .int .u8 0, .int .u8 0, .int .u8 0, .int .u8 0, .int .u8 0, .int .u8 0, .int .u8 0, .int .u8 0, .int .u8 0, .int .u8 0, .int .u8 0, .int .u8 0, .int .u8 0, .int .u8 0, .int .u8 0, .int .u8 0, .int .u8 0, .int .u8 0, .int .u8 0, .int .u8 0, .int .u8 0, .int .u8 0, .int .u8 0, .int .u8 0, .int .u8 0, .int .u8 0, .int .u8 0, .int .u8 0, .int .u8 0, .int .u8 0, .int .u8 0, .int .u8 0, .int .u8 0, .int .u8 0, .int .u8 0, .int .u8 0, .int .u8 0, .int .u8 0], none, []⟩ := rfl
@[go_sem] theorem ty306 : ty 306 = some ⟨1, 8, .ptr 292, [], [.nilp], none, []⟩ := rfl
@[go_sem] theorem ty308 : ty 308 = some ⟨1, 8, .func, [], [.nilfn], none, []⟩ := rfl
@[go_sem] theorem ty309 : ty 309 = some ⟨1, 8, .func, [], [.nilfn], none, []⟩ := rfl
@[go_sem] theorem ty310 : ty 310 = some ⟨1, 8, .ptr 5, [], [.nilp], none, []⟩ := rfl
@[go_sem] theorem ty311 : ty 311 = some ⟨1, 8, .ptr 313, [], [.nilp], none, []⟩ := rfl
@[go_sem] theorem ty312 : ty 312 = some ⟨1, 16, .struct, [(0, 1)], [.str ⟨#[]⟩], none, [9]⟩ := rfl
@[go_sem] theorem ty313 : ty 313 = some ⟨1, 16, .struct, [(0, 1)], [.str ⟨#[]⟩], none, [9]⟩ := rfl
@[go_sem] theorem ty314 : ty 314 = some ⟨4, 40, .struct, [(0, 1), (1, 1), (2, 1), (3, 1)], [.nilp, .nilp, .nilp, .str ⟨#[]⟩], none, [17, 17, 17, 9]⟩ := rfl
@[go_sem] theorem ty315 : ty 315 = some ⟨4, 40, .struct, [(0, 1), (1, 1), (2, 1), (3, 1)], [.nilp, .nilp, .nilp, .str ⟨#[]⟩], none, [17, 17, 17, 9]⟩ := rfl
@[go_sem] theorem ty319 : ty 319 = some ⟨1, 8, .func, [], [.nilfn], none, []⟩ := rfl
@[go_sem] theorem ty320 : ty 320 = some ⟨1, 1, .int .u8, [], [.int .u8 0], none, []⟩ := rfl
@[go_sem] theorem ty321 : ty 321 = some ⟨1, 1, .int .u8, [], [.int .u8 0], none, []⟩ := rfl
@[go_sem] theorem ty322 : ty 322 = some ⟨1, 8, .func, [], [.nilfn], none, []⟩ := rfl
@[go_sem] theorem ty323 : ty 323 = some ⟨1, 4, .int .i32, [], [.int .i32 0], none, []⟩ := rfl
@[go_sem] theorem ty324 : ty 324 = some ⟨1, 4, .int .i32, [], [.int .i32 0], none, []⟩ := rfl
@[go_sem] theorem ty325 : ty 325 = some ⟨11, 48, .struct, [(0, 1), (1, 1), (2, 1), (3, 1), (4, 1), (5, 1), (6, 1), (7, 1), (8, 1), (9, 1), (10, 1)], [.int .u64 0, .int .u64 0, .int .u32 0, .int .u8 0, .int .u8 0, .int .u8 0, .int .u8 0, .nilfn, .nilp, .int .i32 0, .int .i32 0], none, [12, 12, 271, 320, 5, 5, 321, 322, 310, 323, 324]⟩ := rfl
@[go_sem] theorem ty326 : ty 326 = some ⟨11, 48, .struct, [(0, 1), (1, 1), (2, 1), (3, 1), (4, 1), (5, 1), (6, 1), (7, 1), (8, 1), (9, 1), (10, 1)], [.int .u64 0, .int .u64 0, .int .u32 0, .int .u8 0, .int .u8 0, .int .u8 0, .int .u8 0, .nilfn, .nilp, .int .i32 0, .int .i32 0], none, [12, 12, 271, 320, 5, 5, 321, 322, 310, 323, 324]⟩ := rfl
end Go.Proofs.YtnibcmaaehkhlaaGreatDoor

namespace Go.Proofs.YtnibcmaaehkhlaaGreatDoor
open Go Go.Aw
structure KR where
  res : ResO
  wd : WdO
instance : Coe KR ResO := ⟨KR.res⟩
instance : Coe KR WdO := ⟨KR.wd⟩
abbrev KR.l (kr : KR) := kr.res.l
section
variable {ρ : Option Nat} {sh : List Tmp} {σ0 : Store} {N : Nat} {s s' : St} {ops : Array Oper} {os : List Oper} {K : St → Prop}
theorem aR {id : Nat} {Q : Exit → St → Prop} (h : runOps ty [] N ops.toList s = some s') (k : Q .normal s') : AWpR ρ Tryz.prog σ0 N (.region id ops false) Q s := awp_region_run tyOk h k
theorem aL (n : Nat) (h : runOps ty [] N (os.take n) s = some s') (k : AOpsL Tryz.prog σ0 N ops (os.drop n) K s') : AOpsL Tryz.prog σ0 N ops os K s := al_run n tyOk h k
theorem aLG (n : Nat) (d : Tmp) (w : Bool) (h : runG ty [] (os.take n) s = some s') (k : AOpsL Tryz.prog σ0 N ops (os.drop n) K s') (hb : get s.T d = .pv (.bool w) := by simp [go_sem])
    (hg : gatedBy ops d w (os.take n) = true := by simp [go_sem]) (hd : dstsOk N (os.take n) = true := by rfl) (hne : (os.take n).all (fun o => o.dst != some d) = true := by rfl) : AOpsL Tryz.prog σ0 N ops os K s := al_runG n d w w tyOk hb rfl hg hd hne h k
theorem aK (n : Nat) (d : Tmp) (w : Bool) (k : AOpsL Tryz.prog σ0 N ops (os.drop n) K (junkAll (os.take n) s)) (hb : off (get s.T d) w = true := by simp [go_sem])
    (hg : gatedBy ops d w (os.take n) = true := by simp [go_sem]) (hd : dstsOk N (os.take n) = true := by rfl) (hne : (os.take n).all (fun o => o.dst != some d) = true := by rfl) : AOpsL Tryz.prog σ0 N ops os K s := al_skip n d w hb hg hd hne k
theorem aF {dst : Option Tmp} {ars : Array Operand} {ats : Array TypeId} {t : TypeId} {pos : String} {af : Array Edge} {f : FuncId} {xs args : List AV} {r : AV} (hca : Callable Tryz.prog f) (h : PurAt Tryz.prog s.σ f args r) (hargs : ars.toList.map (ev s) ++ [] = xs) (hw : WAs xs args)
    (k : AOpsL Tryz.prog σ0 N ops os K (s.put dst r)) (hnl : AV.noLs xs = true := by rfl) (hd : dstOk N dst = true := by rfl) : AOpsL Tryz.prog σ0 N ops (⟨dst, .call ⟨.value (.func f), ars, ats⟩, t, pos, af, none⟩ :: os) K s := al_fn rfl rfl rfl rfl hca h hargs hw hnl hd k
end
theorem bA (b : Bool) : (true || b) = true := rfl
theorem bB (b : Bool) : (b || true) = true := Bool.or_true b
theorem bC (b : Bool) : (false || b) = b := rfl
theorem bD (b : Bool) : (b || false) = b := Bool.or_false b
theorem bE (b : Bool) : (true && b) = b := rfl
theorem bF (b : Bool) : (b && true) = b := Bool.and_true b
theorem bG (b : Bool) : (false && b) = false := rfl
theorem bH (b : Bool) : (b && false) = false := Bool.and_false b
theorem bI : (!true) = false := rfl
theorem bJ : (!false) = true := rfl
theorem call14 : Callable Tryz.prog 14 := ⟨_, Tryz.func14, rfl, by decide⟩
theorem call15 : Callable Tryz.prog 15 := ⟨_, Tryz.func15, rfl, by decide⟩
theorem call16 : Callable Tryz.prog 16 := ⟨_, Tryz.func16, rfl, by decide⟩
theorem call17 : Callable Tryz.prog 17 := ⟨_, Tryz.func17, rfl, by decide⟩
theorem call18 : Callable Tryz.prog 18 := ⟨_, Tryz.func18, rfl, by decide⟩
theorem call19 : Callable Tryz.prog 19 := ⟨_, Tryz.func19, rfl, by decide⟩
theorem call20 : Callable Tryz.prog 20 := ⟨_, Tryz.func20, rfl, by decide⟩
theorem call21 : Callable Tryz.prog 21 := ⟨_, Tryz.func21, rfl, by decide⟩
theorem call39 : Callable Tryz.prog 39 := ⟨_, Tryz.func39, rfl, by decide⟩
theorem call54 : Callable Tryz.prog 54 := ⟨_, Tryz.func54, rfl, by decide⟩
theorem call55 : Callable Tryz.prog 55 := ⟨_, Tryz.func55, rfl, by decide⟩
theorem call56 : Callable Tryz.prog 56 := ⟨_, Tryz.func56, rfl, by decide⟩
theorem call57 : Callable Tryz.prog 57 := ⟨_, Tryz.func57, rfl, by decide⟩
theorem call58 : Callable Tryz.prog 58 := ⟨_, Tryz.func58, rfl, by decide⟩
theorem call59 : Callable Tryz.prog 59 := ⟨_, Tryz.func59, rfl, by decide⟩
theorem call60 : Callable Tryz.prog 60 := ⟨_, Tryz.func60, rfl, by decide⟩
theorem call61 : Callable Tryz.prog 61 := ⟨_, Tryz.func61, rfl, by decide⟩
theorem call62 : Callable Tryz.prog 62 := ⟨_, Tryz.func62, rfl, by decide⟩
theorem call63 : Callable Tryz.prog 63 := ⟨_, Tryz.func63, rfl, by decide⟩
theorem call64 : Callable Tryz.prog 64 := ⟨_, Tryz.func64, rfl, by decide⟩
theorem call65 : Callable Tryz.prog 65 := ⟨_, Tryz.func65, rfl, by decide⟩
theorem call66 : Callable Tryz.prog 66 := ⟨_, Tryz.func66, rfl, by decide⟩
theorem call67 : Callable Tryz.prog 67 := ⟨_, Tryz.func67, rfl, by decide⟩
theorem call68 : Callable Tryz.prog 68 := ⟨_, Tryz.func68, rfl, by decide⟩
theorem call69 : Callable Tryz.prog 69 := ⟨_, Tryz.func69, rfl, by decide⟩
theorem call70 : Callable Tryz.prog 70 := ⟨_, Tryz.func70, rfl, by decide⟩
theorem call71 : Callable Tryz.prog 71 := ⟨_, Tryz.func71, rfl, by decide⟩
theorem call83 : Callable Tryz.prog 83 := ⟨_, Tryz.func83, rfl, by decide⟩
theorem call100 : Callable Tryz.prog 100 := ⟨_, Tryz.func100, rfl, by decide⟩
theorem call104 : Callable Tryz.prog 104 := ⟨_, Tryz.func104, rfl, by decide⟩
theorem call113 : Callable Tryz.prog 113 := ⟨_, Tryz.func113, rfl, by decide⟩
theorem call118 : Callable Tryz.prog 118 := ⟨_, Tryz.func118, rfl, by decide⟩
theorem call120 : Callable Tryz.prog 120 := ⟨_, Tryz.func120, rfl, by decide⟩
theorem call121 : Callable Tryz.prog 121 := ⟨_, Tryz.func121, rfl, by decide⟩
theorem call122 : Callable Tryz.prog 122 := ⟨_, Tryz.func122, rfl, by decide⟩
theorem call123 : Callable Tryz.prog 123 := ⟨_, Tryz.func123, rfl, by decide⟩
theorem call124 : Callable Tryz.prog 124 := ⟨_, Tryz.func124, rfl, by decide⟩
theorem call126 : Callable Tryz.prog 126 := ⟨_, Tryz.func126, rfl, by decide⟩
theorem call127 : Callable Tryz.prog 127 := ⟨_, Tryz.func127, rfl, by decide⟩
theorem call128 : Callable Tryz.prog 128 := ⟨_, Tryz.func128, rfl, by decide⟩
theorem call129 : Callable Tryz.prog 129 := ⟨_, Tryz.func129, rfl, by decide⟩
theorem call130 : Callable Tryz.prog 130 := ⟨_, Tryz.func130, rfl, by decide⟩
theorem call131 : Callable Tryz.prog 131 := ⟨_, Tryz.func131, rfl, by decide⟩
theorem call132 : Callable Tryz.prog 132 := ⟨_, Tryz.func132, rfl, by decide⟩
theorem call133 : Callable Tryz.prog 133 := ⟨_, Tryz.func133, rfl, by decide⟩
theorem call134 : Callable Tryz.prog 134 := ⟨_, Tryz.func134, rfl, by decide⟩
theorem call135 : Callable Tryz.prog 135 := ⟨_, Tryz.func135, rfl, by decide⟩
theorem call136 : Callable Tryz.prog 136 := ⟨_, Tryz.func136, rfl, by decide⟩
theorem call137 : Callable Tryz.prog 137 := ⟨_, Tryz.func137, rfl, by decide⟩
theorem call138 : Callable Tryz.prog 138 := ⟨_, Tryz.func138, rfl, by decide⟩
theorem call139 : Callable Tryz.prog 139 := ⟨_, Tryz.func139, rfl, by decide⟩
theorem call140 : Callable Tryz.prog 140 := ⟨_, Tryz.func140, rfl, by decide⟩
theorem call141 : Callable Tryz.prog 141 := ⟨_, Tryz.func141, rfl, by decide⟩
theorem call142 : Callable Tryz.prog 142 := ⟨_, Tryz.func142, rfl, by decide⟩
theorem call159 : Callable Tryz.prog 159 := ⟨_, Tryz.func159, rfl, by decide⟩
theorem call163 : Callable Tryz.prog 163 := ⟨_, Tryz.func163, rfl, by decide⟩
theorem call165 : Callable Tryz.prog 165 := ⟨_, Tryz.func165, rfl, by decide⟩
theorem call179 : Callable Tryz.prog 179 := ⟨_, Tryz.func179, rfl, by decide⟩
theorem call180 : Callable Tryz.prog 180 := ⟨_, Tryz.func180, rfl, by decide⟩
theorem call181 : Callable Tryz.prog 181 := ⟨_, Tryz.func181, rfl, by decide⟩
theorem call188 : Callable Tryz.prog 188 := ⟨_, Tryz.func188, rfl, by decide⟩
theorem call189 : Callable Tryz.prog 189 := ⟨_, Tryz.func189, rfl, by decide⟩
theorem call191 : Callable Tryz.prog 191 := ⟨_, Tryz.func191, rfl, by decide⟩
theorem call192 : Callable Tryz.prog 192 := ⟨_, Tryz.func192, rfl, by decide⟩
theorem call193 : Callable Tryz.prog 193 := ⟨_, Tryz.func193, rfl, by decide⟩
theorem call194 : Callable Tryz.prog 194 := ⟨_, Tryz.func194, rfl, by decide⟩
theorem call195 : Callable Tryz.prog 195 := ⟨_, Tryz.func195, rfl, by decide⟩
theorem call196 : Callable Tryz.prog 196 := ⟨_, Tryz.func196, rfl, by decide⟩
theorem call197 : Callable Tryz.prog 197 := ⟨_, Tryz.func197, rfl, by decide⟩
theorem call198 : Callable Tryz.prog 198 := ⟨_, Tryz.func198, rfl, by decide⟩
theorem call199 : Callable Tryz.prog 199 := ⟨_, Tryz.func199, rfl, by decide⟩
theorem call200 : Callable Tryz.prog 200 := ⟨_, Tryz.func200, rfl, by decide⟩
theorem call202 : Callable Tryz.prog 202 := ⟨_, Tryz.func202, rfl, by decide⟩
theorem call203 : Callable Tryz.prog 203 := ⟨_, Tryz.func203, rfl, by decide⟩
theorem call204 : Callable Tryz.prog 204 := ⟨_, Tryz.func204, rfl, by decide⟩
theorem call205 : Callable Tryz.prog 205 := ⟨_, Tryz.func205, rfl, by decide⟩
theorem call206 : Callable Tryz.prog 206 := ⟨_, Tryz.func206, rfl, by decide⟩
theorem call207 : Callable Tryz.prog 207 := ⟨_, Tryz.func207, rfl, by decide⟩
theorem call208 : Callable Tryz.prog 208 := ⟨_, Tryz.func208, rfl, by decide⟩
theorem call209 : Callable Tryz.prog 209 := ⟨_, Tryz.func209, rfl, by decide⟩
theorem call210 : Callable Tryz.prog 210 := ⟨_, Tryz.func210, rfl, by decide⟩
theorem call211 : Callable Tryz.prog 211 := ⟨_, Tryz.func211, rfl, by decide⟩
theorem call212 : Callable Tryz.prog 212 := ⟨_, Tryz.func212, rfl, by decide⟩
theorem call213 : Callable Tryz.prog 213 := ⟨_, Tryz.func213, rfl, by decide⟩
theorem call214 : Callable Tryz.prog 214 := ⟨_, Tryz.func214, rfl, by decide⟩
theorem call215 : Callable Tryz.prog 215 := ⟨_, Tryz.func215, rfl, by decide⟩
theorem call216 : Callable Tryz.prog 216 := ⟨_, Tryz.func216, rfl, by decide⟩
theorem call234 : Callable Tryz.prog 234 := ⟨_, Tryz.func234, rfl, by decide⟩
theorem call235 : Callable Tryz.prog 235 := ⟨_, Tryz.func235, rfl, by decide⟩
theorem call236 : Callable Tryz.prog 236 := ⟨_, Tryz.func236, rfl, by decide⟩
theorem call237 : Callable Tryz.prog 237 := ⟨_, Tryz.func237, rfl, by decide⟩
theorem call238 : Callable Tryz.prog 238 := ⟨_, Tryz.func238, rfl, by decide⟩
theorem call239 : Callable Tryz.prog 239 := ⟨_, Tryz.func239, rfl, by decide⟩
theorem call244 : Callable Tryz.prog 244 := ⟨_, Tryz.func244, rfl, by decide⟩
theorem call245 : Callable Tryz.prog 245 := ⟨_, Tryz.func245, rfl, by decide⟩
theorem call246 : Callable Tryz.prog 246 := ⟨_, Tryz.func246, rfl, by decide⟩
theorem call247 : Callable Tryz.prog 247 := ⟨_, Tryz.func247, rfl, by decide⟩
theorem call248 : Callable Tryz.prog 248 := ⟨_, Tryz.func248, rfl, by decide⟩
theorem call262 : Callable Tryz.prog 262 := ⟨_, Tryz.func262, rfl, by decide⟩
theorem call281 : Callable Tryz.prog 281 := ⟨_, Tryz.func281, rfl, by decide⟩
end Go.Proofs.YtnibcmaaehkhlaaGreatDoor

namespace Go.Proofs.YtnibcmaaehkhlaaGreatDoor
open Go Go.Aw
variable {kr : KR}
def GL (kr : KR) : List (Nat × PV) := [(2, .ptr [.map kr.res.l resV]), (0, .ptr [.map (wdK kr.wd) (wdV kr.wd)]), (3, .ptr [.slice (primL.map encPrim)]), (4, .tab .u64 Lib.pow10Tab)]
set_option maxHeartbeats 1000000 in
theorem c_flat_Num (n : Int) : Pur Tryz.prog (GL kr) 136 [.pv (.int .i64 n)] (.pv (enc (dnum n))) := by
 refine pur_of fun σ hgl => ?_
 refine acalls_of tyOk Tryz.func136 rfl (by simp [Tryz.f136]) ?_
 refine awp_seq (aR (by simp [go_sem] <;> rfl) ?_)
 refine awp_seq (aR (by simp [go_sem] <;> rfl) ?_)
 refine awp_ret ?_
 refine ends_ret (by simp [go_sem] <;> rfl) (by simp [go_sem]) ?_
 exact ⟨by simp [go_sem, enc_num], by simp [go_sem]⟩

set_option maxHeartbeats 1000000 in
theorem c_pagodaref01_Num (n : Int) : Pur Tryz.prog (GL kr) 68 [.pv (.int .i64 n)] (.pv (enc (dnum n))) := by
 refine pur_of fun σ hgl => ?_
 refine acalls_of tyOk Tryz.func68 rfl (by simp [Tryz.f68]) ?_
 refine awp_seq (aR (by simp [go_sem] <;> rfl) ?_)
 refine awp_seq (aR (by simp [go_sem] <;> rfl) ?_)
 refine awp_ret ?_
 refine ends_ret (by simp [go_sem] <;> rfl) (by simp [go_sem]) ?_
 exact ⟨by simp [go_sem, enc_num], by simp [go_sem]⟩

set_option maxHeartbeats 1000000 in
theorem c_flat_List (l : List D) : Pur Tryz.prog (GL kr) 61 [.pv (.slice (l.map enc))] (.pv (enc (dlist l))) := by
 refine pur_of fun σ hgl => ?_
 refine acalls_of tyOk Tryz.func61 rfl (by simp [Tryz.f61]) ?_
 refine awp_seq (aR (by simp [go_sem] <;> rfl) ?_)
 refine awp_seq (aR (by simp [go_sem] <;> rfl) ?_)
 refine awp_ret ?_
 refine ends_ret (by simp [go_sem] <;> rfl) (by simp [go_sem]) ?_
 exact ⟨by simp [go_sem, enc_list], by simp [go_sem]⟩

set_option maxHeartbeats 1000000 in
theorem c_flat_Canon_1 (n : Int) : Pur Tryz.prog (GL kr) 135 [.pv (.int .i64 n)] (.pv (enc (dnum n))) := by
 refine pur_of fun σ hgl => ?_
 refine acalls_of tyOk Tryz.func135 rfl (by simp [Tryz.f135]) ?_
 refine awp_seq (aR (by simp [go_sem] <;> rfl) ?_)
 refine awp_seq (awp_reg ?_)
 refine aL 1 (by simp [go_sem] <;> rfl) ?_
 refine aF call136 ((c_flat_Num n) _ (by exact hgl)) (by simp [go_sem] <;> rfl) (by simp [go_sem]) ?_
 refine aL 1 (by simp [go_sem] <;> rfl) ?_
 refine al_nil ?_
 refine awp_ret ?_
 refine ends_ret (by simp [go_sem] <;> rfl) (by simp [go_sem]) ?_
 exact ⟨by simp [go_sem], by simp [go_sem]⟩

set_option maxHeartbeats 1000000 in
theorem c_flat_Canon_2 (d : D) : Pur Tryz.prog (GL kr) 137 [.pv (enc d)] (.pv (enc d)) := by
 refine pur_of fun σ hgl => ?_
 refine acalls_of tyOk Tryz.func137 rfl (by simp [Tryz.f137]) ?_
 refine awp_seq (aR (by simp [go_sem] <;> rfl) ?_)
 refine awp_seq (aR (by simp [go_sem] <;> rfl) ?_)
 refine awp_ret ?_
 refine ends_ret (by simp [go_sem] <;> rfl) (by simp [go_sem]) ?_
 exact ⟨by simp [go_sem], by simp [go_sem]⟩

set_option maxHeartbeats 1000000 in
theorem c_flat_keyOf (d : D) : Pur Tryz.prog (GL kr) 127 [.pv (enc d)] (.pv (keyPV d)) := by
 refine pur_of fun σ hgl => ?_
 refine acalls_of tyOk Tryz.func127 rfl (by simp [Tryz.f127]) ?_
 refine awp_seq (aR (by simp [go_sem] <;> rfl) ?_)
 refine awp_seq (aR (by simp [go_sem] <;> rfl) ?_)
 refine awp_ret ?_
 refine ends_ret (by simp [go_sem] <;> rfl) (by simp [go_sem]) ?_
 exact ⟨by simp [go_sem, keyPV], by simp [go_sem]⟩

set_option maxHeartbeats 1000000 in
theorem c_datum_IsDigit (c : Int) : Pur Tryz.prog (GL kr) 191 [.pv (.int .u8 c)] (.pv (.bool (isDigit c))) := by
 refine pur_of fun σ hgl => ?_
 refine acalls_of tyOk Tryz.func191 rfl (by simp [Tryz.f191]) ?_
 refine awp_seq (aR (by simp [go_sem] <;> rfl) ?_)
 refine awp_seq (awp_reg ?_)
 refine aL 3 (by simp [go_sem] <;> rfl) ?_
 refine al_splitT 5 (by first | rfl | (simp [go_sem] <;> rfl)) (fun h0 => ?_) (fun h0 => ?_)
 ·refine aLG 2 5 true (by simp [go_sem] <;> rfl) ?_
  refine aL 2 (by simp [go_sem] <;> rfl) ?_
  refine al_nil ?_
  refine awp_ret ?_
  refine ends_ret (by simp [go_sem] <;> rfl) (by simp [go_sem]) ?_
  exact ⟨by simp [go_sem, h0, isDigit], by simp [go_sem]⟩
 ·refine aK 2 5 true ?_
  refine aL 2 (by simp [go_sem] <;> rfl) ?_
  refine al_nil ?_
  refine awp_ret ?_
  refine ends_ret (by simp [go_sem] <;> rfl) (by simp [go_sem]) ?_
  exact ⟨by simp [go_sem, h0, isDigit], by simp [go_sem]⟩

set_option maxHeartbeats 1000000 in
theorem c_pagodaref01_digit (c : Int) : Pur Tryz.prog (GL kr) 188 [.pv (.int .u8 c)] (.pv (.bool (isDigit c))) := by
 refine pur_of fun σ hgl => ?_
 refine acalls_of tyOk Tryz.func188 rfl (by simp [Tryz.f188]) ?_
 refine awp_seq (aR (by simp [go_sem] <;> rfl) ?_)
 refine awp_seq (awp_reg ?_)
 refine aL 3 (by simp [go_sem] <;> rfl) ?_
 refine al_splitT 5 (by first | rfl | (simp [go_sem] <;> rfl)) (fun h0 => ?_) (fun h0 => ?_)
 ·refine aLG 2 5 true (by simp [go_sem] <;> rfl) ?_
  refine aL 2 (by simp [go_sem] <;> rfl) ?_
  refine al_nil ?_
  refine awp_ret ?_
  refine ends_ret (by simp [go_sem] <;> rfl) (by simp [go_sem]) ?_
  exact ⟨by simp [go_sem, h0, isDigit], by simp [go_sem]⟩
 ·refine aK 2 5 true ?_
  refine aL 2 (by simp [go_sem] <;> rfl) ?_
  refine al_nil ?_
  refine awp_ret ?_
  refine ends_ret (by simp [go_sem] <;> rfl) (by simp [go_sem]) ?_
  exact ⟨by simp [go_sem, h0, isDigit], by simp [go_sem]⟩

set_option maxHeartbeats 1000000 in
theorem c_flat_IsCall (d : D) (h : d.kind = 3 → d.kids ≠ []) : Pur Tryz.prog (GL kr) 244 [.pv (enc d)] (.pv (.bool (isCall d))) := by
 refine pur_of fun σ hgl => ?_
 refine acalls_of tyOk Tryz.func244 rfl (by simp [Tryz.f244]) ?_
 refine awp_seq (aR (by simp [go_sem] <;> rfl) ?_)
 refine awp_seq (awp_reg ?_)
 refine aL 4 (by simp [go_sem] <;> rfl) ?_
 refine al_splitT 6 (by first | rfl | (simp [go_sem] <;> rfl)) (fun h0 => ?_) (fun h0 => ?_)
 ·obtain ⟨x, r, hx⟩ := kids_cons (h (by simpa using h0))
  refine aLG 6 6 true (by simp [go_sem, hx] <;> rfl) ?_
  refine aL 2 (by simp [go_sem, hx] <;> rfl) ?_
  refine al_nil ?_
  refine awp_ret ?_
  refine ends_ret (by simp [go_sem, hx] <;> rfl) (by simp [go_sem]) ?_
  exact ⟨by simp [go_sem, hx, h0, isCall, D.head, sCall], by simp [go_sem]⟩
 ·refine aK 6 6 true ?_
  refine aL 2 (by simp [go_sem] <;> rfl) ?_
  refine al_nil ?_
  refine awp_ret ?_
  refine ends_ret (by simp [go_sem] <;> rfl) (by simp [go_sem]) ?_
  exact ⟨by simp [go_sem, h0, isCall, D.head, sCall], by simp [go_sem]⟩

def ren137 : Go.Shelf.Ren := ⟨fun x => match x with | 137 => 236 | 217 => 256 | 266 => 278 | n => n, fun x => match x with | 3 => 3 | 5 => 5 | 9 => 9 | n => n, fun x => x⟩
theorem lays137 : Go.Proofs.Lays.n137 Tryz.prog ren137 :=
  { mixed := Eq.refl true,
    f137 := Eq.trans Tryz.func236 (congrArg some (by kernel_rfl)),
    f217 := Eq.trans Tryz.func256 (congrArg some (by kernel_rfl)),
    f266 := Eq.trans Tryz.func278 (congrArg some (by kernel_rfl)),
    t3 := Tryz.underlying3, a3 := Tryz.isAgg3, z3 := Tryz.sizeOf3,
    v3 := Tryz.zeroValue3, t5 := Tryz.underlying5, a5 := Tryz.isAgg5,
    z5 := Tryz.sizeOf5, v5 := Tryz.zeroValue5, t9 := Tryz.underlying9,
    a9 := Tryz.isAgg9, z9 := Tryz.sizeOf9, v9 := Tryz.zeroValue9 }
theorem c_IndexByte (s : ByteArray) (c : Int) : Pur Tryz.prog (GL kr) 236 [.pv (.str s), .pv (.int .u8 c)] (.pv (.int .i64 (Lib.indexByte s.data.toList c.toNat.toUInt8))) :=
  pur_of_calls (ps := [.str s, .int .u8 c]) [.str, .int .u8] rfl (.int .i64) rfl fun w => Go.Proofs.Any.strings_IndexByte lays137 s c w

set_option maxHeartbeats 1000000 in
theorem c_datum_IsAtom (c : Int) : Pur Tryz.prog (GL kr) 192 [.pv (.int .u8 c)] (.pv (.bool (isAtom c))) := by
 refine pur_of fun σ hgl => ?_
 refine acalls_of tyOk Tryz.func192 rfl (by simp [Tryz.f192]) ?_
 refine awp_seq (aR (by simp [go_sem] <;> rfl) ?_)
 refine awp_seq (awp_reg ?_)
 refine aL 3 (by simp [go_sem] <;> rfl) ?_
 refine al_splitT 5 (by first | rfl | (simp [go_sem] <;> rfl)) (fun h0 => ?_) (fun h0 => ?_)
 ·refine aLG 2 5 true (by simp [go_sem] <;> rfl) ?_
  refine aL 2 (by simp [go_sem] <;> rfl) ?_
  refine al_splitT 9 (by first | rfl | (simp [go_sem] <;> rfl)) (fun h1 => ?_) (fun h1 => ?_)
  ·refine aK 2 9 false ?_
   refine aL 2 (by simp [go_sem] <;> rfl) ?_
   refine aK 3 13 false ?_
   refine aL 2 (by simp [go_sem] <;> rfl) ?_
   refine al_nil ?_
   refine awp_ret ?_
   refine ends_ret (by simp [go_sem] <;> rfl) (by simp [go_sem]) ?_
   exact ⟨by simp [go_sem, h0, h1, isAtom, isLower], by simp [go_sem]⟩
  ·refine aLG 1 9 false (by simp [go_sem] <;> rfl) ?_
   refine al_fnG 9 false false (by simp [go_sem]) rfl (by simp [go_sem]) rfl rfl (by simp [go_sem] <;> rfl) call191 ((c_datum_IsDigit c) _ (by exact hgl)) (by simp [go_sem] <;> rfl) (by simp [go_sem]) rfl rfl ?_
   refine aL 2 (by simp [go_sem] <;> rfl) ?_
   refine al_splitT 13 (by first | rfl | (simp [go_sem] <;> rfl)) (fun h2 => ?_) (fun h2 => ?_)
   ·refine aK 3 13 false ?_
    refine aL 2 (by simp [go_sem] <;> rfl) ?_
    refine al_nil ?_
    refine awp_ret ?_
    refine ends_ret (by simp [go_sem] <;> rfl) (by simp [go_sem]) ?_
    exact ⟨by simp [go_sem, h0, h1, h2, isAtom, isLower], by simp [go_sem]⟩
   ·refine aLG 1 13 false (by simp [go_sem] <;> rfl) ?_
    refine al_fnG 13 false false (by simp [go_sem]) rfl (by simp [go_sem]) rfl rfl (by simp [go_sem] <;> rfl) call236 ((c_IndexByte ⟨#[43, 45, 42, 47, 60, 61, 62, 63, 33, 95, 46]⟩ c) _ (by exact hgl)) (by simp [go_sem] <;> rfl) (by simp [go_sem]) rfl rfl ?_
    refine aLG 1 13 false (by simp [go_sem] <;> rfl) ?_
    refine aL 2 (by simp [go_sem] <;> rfl) ?_
    refine al_nil ?_
    refine awp_ret ?_
    refine ends_ret (by simp [go_sem] <;> rfl) (by simp [go_sem]) ?_
    exact ⟨by simp [go_sem, h0, h1, h2, isAtom, isLower], by simp [go_sem]⟩
 ·refine aK 2 5 true ?_
  refine aL 2 (by simp [go_sem] <;> rfl) ?_
  refine aLG 1 9 false (by simp [go_sem] <;> rfl) ?_
  refine al_fnG 9 false false (by simp [go_sem]) rfl (by simp [go_sem]) rfl rfl (by simp [go_sem] <;> rfl) call191 ((c_datum_IsDigit c) _ (by exact hgl)) (by simp [go_sem] <;> rfl) (by simp [go_sem]) rfl rfl ?_
  refine aL 2 (by simp [go_sem] <;> rfl) ?_
  refine al_splitT 13 (by first | rfl | (simp [go_sem] <;> rfl)) (fun h3 => ?_) (fun h3 => ?_)
  ·refine aK 3 13 false ?_
   refine aL 2 (by simp [go_sem] <;> rfl) ?_
   refine al_nil ?_
   refine awp_ret ?_
   refine ends_ret (by simp [go_sem] <;> rfl) (by simp [go_sem]) ?_
   exact ⟨by simp [go_sem, h0, h3, isAtom, isLower], by simp [go_sem]⟩
  ·refine aLG 1 13 false (by simp [go_sem] <;> rfl) ?_
   refine al_fnG 13 false false (by simp [go_sem]) rfl (by simp [go_sem]) rfl rfl (by simp [go_sem] <;> rfl) call236 ((c_IndexByte ⟨#[43, 45, 42, 47, 60, 61, 62, 63, 33, 95, 46]⟩ c) _ (by exact hgl)) (by simp [go_sem] <;> rfl) (by simp [go_sem]) rfl rfl ?_
   refine aLG 1 13 false (by simp [go_sem] <;> rfl) ?_
   refine aL 2 (by simp [go_sem] <;> rfl) ?_
   refine al_nil ?_
   refine awp_ret ?_
   refine ends_ret (by simp [go_sem] <;> rfl) (by simp [go_sem]) ?_
   exact ⟨by simp [go_sem, h0, h3, isAtom, isLower], by simp [go_sem]⟩

set_option maxHeartbeats 1000000 in
theorem c_pagodaref01_Letter (c : Int) : Pur Tryz.prog (GL kr) 189 [.pv (.int .u8 c)] (.pv (.bool (letter c))) := by
 refine pur_of fun σ hgl => ?_
 refine acalls_of tyOk Tryz.func189 rfl (by simp [Tryz.f189]) ?_
 refine awp_seq (aR (by simp [go_sem] <;> rfl) ?_)
 refine awp_seq (awp_seq (aR (by simp [go_sem] <;> rfl) ?_))
 refine awp_block ?_
 refine awp_loop_headK σ.objs.length σ.toks.length 0 [0, 2] (fun k : Nat => [(3, .pv (.int .i64 ↑k))]) (fun k => σ) (fun k => k ≤ 11 ∧ NotYet (fun k : Nat => c == byteAt atomS k) (List.range 11) k) (fun k => 11 - k) 0 (⟨Nat.zero_le _, .zero⟩) ⟨by simp [go_sem], rfl, by simp, by simp, by simp [go_sem], fun ob h => .inl (by simpa [go_sem] using h), by simp [go_sem]⟩ ?_
 rintro k ⟨hk, hn⟩
 refine awp_seq (awp_seq (aR (by simp [go_sem] <;> rfl) ?_))
 refine awp_cond (by first | rfl | (simp [go_sem] <;> rfl)) (fun h0 => ?_) (fun h0 => ?_)
 ·have hlt : k < 11 := by simp at h0; omega
  have hw : IntKind.i64.wrap (↑k + 1) = (k : Int) + 1 := wrap_succ (by omega)
  have hr : (List.range 11)[k]? = some k := by simp [hlt]
  have hz : (↑k : Int) < 11 := by omega
  have hat : byteAt ⟨#[43, 45, 42, 47, 60, 61, 62, 63, 33, 95, 46]⟩ ↑k = byteAt atomS ↑k := rfl
  refine awp_skip ?_
  refine awp_seq (awp_block ?_)
  refine awp_seq (aR (by simp [go_sem, hz, hat] <;> rfl) ?_)
  refine awp_cond (by first | rfl | (simp [go_sem, hz, hat] <;> rfl)) (fun h1 => ?_) (fun h1 => ?_)
  ·refine awp_seq ?_
   refine aR (by simp [go_sem, hz, hat] <;> rfl) ?_
   refine awp_ret ?_
   refine inBlock_ret ?_
   refine then_ret ?_
   refine then_ret ?_
   refine inBlock_ret ?_
   refine then_ret ?_
   refine ends_ret (by simp [go_sem] <;> rfl) (by simp [go_sem]) ?_
   have hany : inAtoms c = true := any_found (p := fun k : Nat => c == byteAt atomS k) hr h1
   exact ⟨by simp [go_sem, letter, hany], by simp [go_sem]⟩
  ·refine awp_skip ?_
   refine aR (by simp [go_sem, hz, hat] <;> rfl) ?_
   exact next_intro (k + 1) σ.objs.length σ.toks.length 0 (⟨hlt, hn.succ hr (by simpa using h1)⟩) (by omega) ⟨by simp [go_sem, hz, hat, hw], rfl, by simp, by simp, by simp [go_sem, hz, hat, hw], fun ob h => .inl (by simpa [go_sem, hz, hat, hw] using h), by simp [go_sem]⟩
 ·have hke : k = 11 := by simp at h0; omega
  subst hke
  have hany : inAtoms c = false := hn.any (l := List.range 11)
  refine awp_exit ?_
  refine then_exit ?_
  refine then_exit ?_
  refine inBlock_hit ?_
  refine awp_seq (awp_reg ?_)
  refine aL 1 (by simp [go_sem, hany] <;> rfl) ?_
  refine aF call188 ((c_pagodaref01_digit c) _ (by exact hgl)) (by simp [go_sem, hany] <;> rfl) (by simp [go_sem, hany]) ?_
  refine aL 1 (by simp [go_sem, hany] <;> rfl) ?_
  refine al_splitT 14 (by first | rfl | (simp [go_sem, hany] <;> rfl)) (fun h2 => ?_) (fun h2 => ?_)
  ·refine aK 3 14 false ?_
   refine aK 2 17 true ?_
   refine aK 1 14 false ?_
   refine aL 2 (by simp [go_sem, hany] <;> rfl) ?_
   refine al_nil ?_
   refine awp_ret ?_
   refine ends_ret (by simp [go_sem, hany] <;> rfl) (by simp [go_sem]) ?_
   exact ⟨by simp [go_sem, hany, h2, letter, isLower], by simp [go_sem]⟩
  ·refine aLG 3 14 false (by simp [go_sem, hany] <;> rfl) ?_
   refine al_splitT 17 (by first | rfl | (simp [go_sem, hany] <;> rfl)) (fun h3 => ?_) (fun h3 => ?_)
   ·refine aLG 2 17 true (by simp [go_sem, hany] <;> rfl) ?_
    refine aLG 1 14 false (by simp [go_sem, hany] <;> rfl) ?_
    refine aL 2 (by simp [go_sem, hany] <;> rfl) ?_
    refine al_nil ?_
    refine awp_ret ?_
    refine ends_ret (by simp [go_sem, hany] <;> rfl) (by simp [go_sem]) ?_
    exact ⟨by simp [go_sem, hany, h2, h3, letter, isLower], by simp [go_sem]⟩
   ·refine aK 2 17 true ?_
    refine aLG 1 14 false (by simp [go_sem, hany] <;> rfl) ?_
    refine aL 2 (by simp [go_sem, hany] <;> rfl) ?_
    refine al_nil ?_
    refine awp_ret ?_
    refine ends_ret (by simp [go_sem, hany] <;> rfl) (by simp [go_sem]) ?_
    exact ⟨by simp [go_sem, hany, h2, h3, letter, isLower], by simp [go_sem]⟩

end Go.Proofs.YtnibcmaaehkhlaaGreatDoor

namespace Go.Proofs.YtnibcmaaehkhlaaGreatDoor
open Go Go.Aw
variable {kr : KR}
set_option maxHeartbeats 1000000 in
theorem c_datum_IsSymbol (s : ByteArray) : Pur Tryz.prog (GL kr) 120 [.pv (.str s)] (.pv (.bool (isSym isAtom s))) := by
 refine pur_of fun σ hgl => ?_
 refine acalls_of tyOk Tryz.func120 rfl (by simp [Tryz.f120]) ?_
 refine awp_seq (aR (by simp [go_sem, bt0, bt1] <;> rfl) ?_)
 refine awp_seq (awp_seq (awp_reg ?_))
 refine aL 4 (by simp [go_sem, bt0, bt1] <;> rfl) ?_
 refine al_splitT 7 (by first | rfl | (simp [go_sem, bt0, bt1] <;> rfl)) (fun h0 => ?_) (fun h0 => ?_)
 ·refine aK 3 7 false ?_
  refine aL 2 (by simp [go_sem, bt0, bt1] <;> rfl) ?_
  refine aK 3 12 false ?_
  refine aL 2 (by simp [go_sem, bt0, bt1] <;> rfl) ?_
  refine aK 4 17 false ?_
  refine aK 3 21 true ?_
  refine aK 2 17 false ?_
  refine aK 3 26 true ?_
  refine aK 1 17 false ?_
  refine aL 1 (by simp [go_sem, bt0, bt1] <;> rfl) ?_
  refine al_nil ?_
  refine awp_cond (b := true) (by simp [go_sem, bt0, bt1, h0]) (fun h => ?_) (fun h => ?_)
  rotate_left
  ·cases h
  refine awp_seq (aR (by simp [go_sem, bt0, bt1] <;> rfl) ?_)
  refine awp_ret ?_
  refine then_ret ?_
  refine ends_ret (by simp [go_sem, bt0, bt1] <;> rfl) (by simp [go_sem]) ?_
  exact ⟨by simp only [isSym, bt0, bt1, h0, bA, bB, bC, bD, bE, bF, bG, bH, bI, bJ, Bool.false_eq_true, if_true, if_false]; simp [go_sem], by simp [go_sem]⟩
 ·have hp : 0 < s.size := by have := h0; simp only [beq_eq_false_iff_ne, decide_eq_false_iff_not] at this; omega
  refine aLG 3 7 false (by simp [go_sem, bt0, bt1, hp] <;> rfl) ?_
  refine aL 2 (by simp [go_sem, bt0, bt1, hp] <;> rfl) ?_
  refine al_splitT 12 (by first | rfl | (simp [go_sem, bt0, bt1, hp] <;> rfl)) (fun h1 => ?_) (fun h1 => ?_)
  ·refine aK 3 12 false ?_
   refine aL 2 (by simp [go_sem, bt0, bt1, hp] <;> rfl) ?_
   refine aK 4 17 false ?_
   refine aK 3 21 true ?_
   refine aK 2 17 false ?_
   refine aK 3 26 true ?_
   refine aK 1 17 false ?_
   refine aL 1 (by simp [go_sem, bt0, bt1, hp] <;> rfl) ?_
   refine al_nil ?_
   refine awp_cond (b := true) (by simp [go_sem, bt0, bt1, hp, h0, h1]) (fun h => ?_) (fun h => ?_)
   rotate_left
   ·cases h
   refine awp_seq (aR (by simp [go_sem, bt0, bt1, hp] <;> rfl) ?_)
   refine awp_ret ?_
   refine then_ret ?_
   refine ends_ret (by simp [go_sem, bt0, bt1, hp] <;> rfl) (by simp [go_sem]) ?_
   exact ⟨by simp only [isSym, bt0, bt1, hp, h0, h1, bA, bB, bC, bD, bE, bF, bG, bH, bI, bJ, Bool.false_eq_true, if_true, if_false]; simp [go_sem], by simp [go_sem]⟩
  ·have h40 : s.size ≤ 40 := by simp at h1; omega
   refine aLG 2 12 false (by simp [go_sem, bt0, bt1, hp] <;> rfl) ?_
   refine al_fnG 12 false false (by simp [go_sem]) rfl (by simp [go_sem]) rfl rfl (by simp [go_sem, bt0, bt1, hp] <;> rfl) call191 ((c_datum_IsDigit (bt s 0)) _ (by exact hgl)) (by simp [go_sem, bt0, bt1, hp] <;> rfl) (by simp [go_sem, bt0, bt1, hp]) rfl rfl ?_
   refine aL 2 (by simp [go_sem, bt0, bt1, hp] <;> rfl) ?_
   refine al_splitT 17 (by first | rfl | (simp [go_sem, bt0, bt1, hp] <;> rfl)) (fun h2 => ?_) (fun h2 => ?_)
   ·refine aK 4 17 false ?_
    refine aK 3 21 true ?_
    refine aK 2 17 false ?_
    refine aK 3 26 true ?_
    refine aK 1 17 false ?_
    refine aL 1 (by simp [go_sem, bt0, bt1, hp] <;> rfl) ?_
    refine al_nil ?_
    refine awp_cond (b := true) (by simp [go_sem, bt0, bt1, hp, h0, h1, h2]) (fun h => ?_) (fun h => ?_)
    rotate_left
    ·cases h
    refine awp_seq (aR (by simp [go_sem, bt0, bt1, hp] <;> rfl) ?_)
    refine awp_ret ?_
    refine then_ret ?_
    refine ends_ret (by simp [go_sem, bt0, bt1, hp] <;> rfl) (by simp [go_sem]) ?_
    exact ⟨by simp only [isSym, bt0, bt1, hp, h0, h1, h2, bA, bB, bC, bD, bE, bF, bG, bH, bI, bJ, Bool.false_eq_true, if_true, if_false]; simp [go_sem], by simp [go_sem]⟩
   ·refine aLG 4 17 false (by simp [go_sem, bt0, bt1, hp] <;> rfl) ?_
    refine al_splitT 21 (by first | rfl | (simp [go_sem, bt0, bt1, hp] <;> rfl)) (fun h3 => ?_) (fun h3 => ?_)
    ·refine aLG 3 21 true (by simp [go_sem, bt0, bt1, hp] <;> rfl) ?_
     refine aLG 2 17 false (by simp [go_sem, bt0, bt1, hp] <;> rfl) ?_
     refine al_splitT 26 (by first | rfl | (simp [go_sem, bt0, bt1, hp] <;> rfl)) (fun h4 => ?_) (fun h4 => ?_)
     ·have hp1 : (1 : Int) < s.size := by simpa using h4
      refine aLG 2 26 true (by simp [go_sem, bt0, bt1, hp, hp1] <;> rfl) ?_
      refine al_fnG 26 true true (by simp [go_sem]) rfl (by simp [go_sem]) rfl rfl (by simp [go_sem, bt0, bt1, hp, hp1] <;> rfl) call191 ((c_datum_IsDigit (bt s 1)) _ (by exact hgl)) (by simp [go_sem, bt0, bt1, hp, hp1] <;> rfl) (by simp [go_sem, bt0, bt1, hp, hp1]) rfl rfl ?_
      refine aLG 1 17 false (by simp [go_sem, bt0, bt1, hp, hp1] <;> rfl) ?_
      refine aL 1 (by simp [go_sem, bt0, bt1, hp, hp1] <;> rfl) ?_
      refine al_nil ?_
      refine awp_cond (by first | rfl | (simp [go_sem, bt0, bt1, hp, hp1] <;> rfl)) (fun h5 => ?_) (fun h5 => ?_)
      ·refine awp_seq ?_
       refine aR (by simp [go_sem, bt0, bt1, hp, hp1] <;> rfl) ?_
       refine awp_ret ?_
       refine then_ret ?_
       refine ends_ret (by simp [go_sem, bt0, bt1, hp, hp1] <;> rfl) (by simp [go_sem]) ?_
       exact ⟨by simp only [isSym, bt0, bt1, hp, hp1, h0, h1, h2, h3, h4, h5, bA, bB, bC, bD, bE, bF, bG, bH, bI, bJ, Bool.false_eq_true, if_true, if_false]; simp [go_sem], by simp [go_sem]⟩
      ·refine awp_skip ?_
       refine awp_seq (awp_seq (aR (by simp [go_sem, bt0, bt1, hp, hp1] <;> rfl) ?_))
       refine awp_block ?_
       refine awp_loop_headK σ.objs.length σ.toks.length 0 [0, 2, 33] (fun k : Nat => [(34, .pv (.int .i64 ↑k))]) (fun k => σ) (fun k => k ≤ s.size ∧ NotYet (fun i => !isAtom (bt s i)) (List.range s.size) k) (fun k => s.size - k) 0 (⟨Nat.zero_le _, .zero⟩) ⟨by simp [go_sem, bt0, bt1, hp, hp1], rfl, by simp, by simp, by simp [go_sem, bt0, bt1, hp, hp1], fun ob h => .inl (by simpa [go_sem, bt0, bt1, hp, hp1] using h), by simp [go_sem]⟩ ?_
       rintro k ⟨hk, hn⟩
       refine awp_seq (aR (by simp [go_sem, bt0, bt1, hp, hp1] <;> rfl) ?_)
       refine awp_seq (awp_cond (by first | rfl | (simp [go_sem, bt0, bt1, hp, hp1] <;> rfl)) (fun h6 => ?_) (fun h6 => ?_))
       ·have hlt : k < s.size := by simp at h6; omega
        have hw : IntKind.i64.wrap (↑k + 1) = (k : Int) + 1 := wrap_succ (by omega)
        have hr : (List.range s.size)[k]? = some k := by simp [hlt]
        have hz : (k : Int) < s.size := by omega
        refine awp_skip ?_
        refine awp_seq (awp_block ?_)
        refine awp_seq (aR (by simp [go_sem, bt0, bt1, hp, hp1, hz, bt_eq] <;> rfl) ?_)
        refine awp_seq (awp_reg ?_)
        refine aL 3 (by simp [go_sem, bt0, bt1, hp, hp1, hz, bt_eq] <;> rfl) ?_
        refine aF call192 ((c_datum_IsAtom (bt s k)) _ (by exact hgl)) (by simp [go_sem, bt0, bt1, hp, hp1, hz, bt_eq] <;> rfl) (by simp [go_sem, bt0, bt1, hp, hp1, hz, bt_eq]) ?_
        refine aL 1 (by simp [go_sem, bt0, bt1, hp, hp1, hz, bt_eq] <;> rfl) ?_
        refine al_nil ?_
        refine awp_cond (by first | rfl | (simp [go_sem, bt0, bt1, hp, hp1, hz, bt_eq] <;> rfl)) (fun h7 => ?_) (fun h7 => ?_)
        ·refine awp_seq ?_
         refine aR (by simp [go_sem, bt0, bt1, hp, hp1, hz, bt_eq] <;> rfl) ?_
         refine awp_ret ?_
         refine inBlock_ret ?_
         refine then_ret ?_
         refine then_ret ?_
         refine inBlock_ret ?_
         refine then_ret ?_
         refine ends_ret (by simp [go_sem] <;> rfl) (by simp [go_sem]) ?_
         have hall : (List.range s.size).all (fun i => isAtom (bt s i)) = false := all_found hlt (by simpa [bt_eq] using h7)
         exact ⟨by simp only [isSym, hall, bA, bB, bC, bD, bE, bF, bG, bH, bI, bJ, Bool.false_eq_true, if_true, if_false]; simp [go_sem], by simp [go_sem]⟩
        ·refine awp_skip ?_
         refine aR (by simp [go_sem, bt0, bt1, hp, hp1, hz, bt_eq] <;> rfl) ?_
         exact next_intro (k + 1) σ.objs.length σ.toks.length 0 (⟨hlt, hn.succ hr (by simpa [bt_eq] using h7)⟩) (by omega) ⟨by simp [go_sem, bt0, bt1, hp, hp1, hz, bt_eq, hw], rfl, by simp, by simp, by simp [go_sem, bt0, bt1, hp, hp1, hz, bt_eq, hw], fun ob h => .inl (by simpa [go_sem, bt0, bt1, hp, hp1, hz, bt_eq, hw] using h), by simp [go_sem]⟩
       ·have hke : k = s.size := by simp at h6; omega
        subst hke
        have hall : (List.range s.size).all (fun i => isAtom (bt s i)) = true := all_of_notYet hn
        refine awp_exit ?_
        refine then_exit ?_
        refine then_exit ?_
        refine inBlock_hit ?_
        refine awp_seq (aR (by simp [go_sem, bt0, bt1, hp, hp1, hall] <;> rfl) ?_)
        refine awp_ret ?_
        refine ends_ret (by simp [go_sem, bt0, bt1, hp, hp1, hall] <;> rfl) (by simp [go_sem]) ?_
        exact ⟨by simp only [isSym, bt0, bt1, hp, hp1, hall, h0, h1, h2, h3, h4, h5, bA, bB, bC, bD, bE, bF, bG, bH, bI, bJ, Bool.false_eq_true, if_true, if_false]; simp [go_sem], by simp [go_sem]⟩
     ·refine aK 3 26 true ?_
      refine aLG 1 17 false (by simp [go_sem, bt0, bt1, hp] <;> rfl) ?_
      refine aL 1 (by simp [go_sem, bt0, bt1, hp] <;> rfl) ?_
      refine al_nil ?_
      refine awp_cond (b := false) (by simp [go_sem, bt0, bt1, hp, h0, h1, h2, h3, h4]) (fun h => ?_) (fun h => ?_)
      ·cases h
      refine awp_skip ?_
      refine awp_seq (awp_seq (aR (by simp [go_sem, bt0, bt1, hp] <;> rfl) ?_))
      refine awp_block ?_
      refine awp_loop_headK σ.objs.length σ.toks.length 0 [0, 2, 33] (fun k : Nat => [(34, .pv (.int .i64 ↑k))]) (fun k => σ) (fun k => k ≤ s.size ∧ NotYet (fun i => !isAtom (bt s i)) (List.range s.size) k) (fun k => s.size - k) 0 (⟨Nat.zero_le _, .zero⟩) ⟨by simp [go_sem, bt0, bt1, hp], rfl, by simp, by simp, by simp [go_sem, bt0, bt1, hp], fun ob h => .inl (by simpa [go_sem, bt0, bt1, hp] using h), by simp [go_sem]⟩ ?_
      rintro k ⟨hk, hn⟩
      refine awp_seq (aR (by simp [go_sem, bt0, bt1, hp] <;> rfl) ?_)
      refine awp_seq (awp_cond (by first | rfl | (simp [go_sem, bt0, bt1, hp] <;> rfl)) (fun h8 => ?_) (fun h8 => ?_))
      ·have hlt : k < s.size := by simp at h8; omega
       have hw : IntKind.i64.wrap (↑k + 1) = (k : Int) + 1 := wrap_succ (by omega)
       have hr : (List.range s.size)[k]? = some k := by simp [hlt]
       have hz : (k : Int) < s.size := by omega
       refine awp_skip ?_
       refine awp_seq (awp_block ?_)
       refine awp_seq (aR (by simp [go_sem, bt0, bt1, hp, hz, bt_eq] <;> rfl) ?_)
       refine awp_seq (awp_reg ?_)
       refine aL 3 (by simp [go_sem, bt0, bt1, hp, hz, bt_eq] <;> rfl) ?_
       refine aF call192 ((c_datum_IsAtom (bt s k)) _ (by exact hgl)) (by simp [go_sem, bt0, bt1, hp, hz, bt_eq] <;> rfl) (by simp [go_sem, bt0, bt1, hp, hz, bt_eq]) ?_
       refine aL 1 (by simp [go_sem, bt0, bt1, hp, hz, bt_eq] <;> rfl) ?_
       refine al_nil ?_
       refine awp_cond (by first | rfl | (simp [go_sem, bt0, bt1, hp, hz, bt_eq] <;> rfl)) (fun h9 => ?_) (fun h9 => ?_)
       ·refine awp_seq ?_
        refine aR (by simp [go_sem, bt0, bt1, hp, hz, bt_eq] <;> rfl) ?_
        refine awp_ret ?_
        refine inBlock_ret ?_
        refine then_ret ?_
        refine then_ret ?_
        refine inBlock_ret ?_
        refine then_ret ?_
        refine ends_ret (by simp [go_sem] <;> rfl) (by simp [go_sem]) ?_
        have hall : (List.range s.size).all (fun i => isAtom (bt s i)) = false := all_found hlt (by simpa [bt_eq] using h9)
        exact ⟨by simp only [isSym, hall, bA, bB, bC, bD, bE, bF, bG, bH, bI, bJ, Bool.false_eq_true, if_true, if_false]; simp [go_sem], by simp [go_sem]⟩
       ·refine awp_skip ?_
        refine aR (by simp [go_sem, bt0, bt1, hp, hz, bt_eq] <;> rfl) ?_
        exact next_intro (k + 1) σ.objs.length σ.toks.length 0 (⟨hlt, hn.succ hr (by simpa [bt_eq] using h9)⟩) (by omega) ⟨by simp [go_sem, bt0, bt1, hp, hz, bt_eq, hw], rfl, by simp, by simp, by simp [go_sem, bt0, bt1, hp, hz, bt_eq, hw], fun ob h => .inl (by simpa [go_sem, bt0, bt1, hp, hz, bt_eq, hw] using h), by simp [go_sem]⟩
      ·have hke : k = s.size := by simp at h8; omega
       subst hke
       have hall : (List.range s.size).all (fun i => isAtom (bt s i)) = true := all_of_notYet hn
       refine awp_exit ?_
       refine then_exit ?_
       refine then_exit ?_
       refine inBlock_hit ?_
       refine awp_seq (aR (by simp [go_sem, bt0, bt1, hp, hall] <;> rfl) ?_)
       refine awp_ret ?_
       refine ends_ret (by simp [go_sem, bt0, bt1, hp, hall] <;> rfl) (by simp [go_sem]) ?_
       exact ⟨by simp only [isSym, bt0, bt1, hp, hall, h0, h1, h2, h3, h4, bA, bB, bC, bD, bE, bF, bG, bH, bI, bJ, Bool.false_eq_true, if_true, if_false]; simp [go_sem], by simp [go_sem]⟩
    ·refine aK 3 21 true ?_
     refine aLG 2 17 false (by simp [go_sem, bt0, bt1, hp] <;> rfl) ?_
     refine aK 3 26 true ?_
     refine aLG 1 17 false (by simp [go_sem, bt0, bt1, hp] <;> rfl) ?_
     refine aL 1 (by simp [go_sem, bt0, bt1, hp] <;> rfl) ?_
     refine al_nil ?_
     refine awp_cond (b := false) (by simp [go_sem, bt0, bt1, hp, h0, h1, h2, h3]) (fun h => ?_) (fun h => ?_)
     ·cases h
     refine awp_skip ?_
     refine awp_seq (awp_seq (aR (by simp [go_sem, bt0, bt1, hp] <;> rfl) ?_))
     refine awp_block ?_
     refine awp_loop_headK σ.objs.length σ.toks.length 0 [0, 2, 33] (fun k : Nat => [(34, .pv (.int .i64 ↑k))]) (fun k => σ) (fun k => k ≤ s.size ∧ NotYet (fun i => !isAtom (bt s i)) (List.range s.size) k) (fun k => s.size - k) 0 (⟨Nat.zero_le _, .zero⟩) ⟨by simp [go_sem, bt0, bt1, hp], rfl, by simp, by simp, by simp [go_sem, bt0, bt1, hp], fun ob h => .inl (by simpa [go_sem, bt0, bt1, hp] using h), by simp [go_sem]⟩ ?_
     rintro k ⟨hk, hn⟩
     refine awp_seq (aR (by simp [go_sem, bt0, bt1, hp] <;> rfl) ?_)
     refine awp_seq (awp_cond (by first | rfl | (simp [go_sem, bt0, bt1, hp] <;> rfl)) (fun h10 => ?_) (fun h10 => ?_))
     ·have hlt : k < s.size := by simp at h10; omega
      have hw : IntKind.i64.wrap (↑k + 1) = (k : Int) + 1 := wrap_succ (by omega)
      have hr : (List.range s.size)[k]? = some k := by simp [hlt]
      have hz : (k : Int) < s.size := by omega
      refine awp_skip ?_
      refine awp_seq (awp_block ?_)
      refine awp_seq (aR (by simp [go_sem, bt0, bt1, hp, hz, bt_eq] <;> rfl) ?_)
      refine awp_seq (awp_reg ?_)
      refine aL 3 (by simp [go_sem, bt0, bt1, hp, hz, bt_eq] <;> rfl) ?_
      refine aF call192 ((c_datum_IsAtom (bt s k)) _ (by exact hgl)) (by simp [go_sem, bt0, bt1, hp, hz, bt_eq] <;> rfl) (by simp [go_sem, bt0, bt1, hp, hz, bt_eq]) ?_
      refine aL 1 (by simp [go_sem, bt0, bt1, hp, hz, bt_eq] <;> rfl) ?_
      refine al_nil ?_
      refine awp_cond (by first | rfl | (simp [go_sem, bt0, bt1, hp, hz, bt_eq] <;> rfl)) (fun h11 => ?_) (fun h11 => ?_)
      ·refine awp_seq ?_
       refine aR (by simp [go_sem, bt0, bt1, hp, hz, bt_eq] <;> rfl) ?_
       refine awp_ret ?_
       refine inBlock_ret ?_
       refine then_ret ?_
       refine then_ret ?_
       refine inBlock_ret ?_
       refine then_ret ?_
       refine ends_ret (by simp [go_sem] <;> rfl) (by simp [go_sem]) ?_
       have hall : (List.range s.size).all (fun i => isAtom (bt s i)) = false := all_found hlt (by simpa [bt_eq] using h11)
       exact ⟨by simp only [isSym, hall, bA, bB, bC, bD, bE, bF, bG, bH, bI, bJ, Bool.false_eq_true, if_true, if_false]; simp [go_sem], by simp [go_sem]⟩
      ·refine awp_skip ?_
       refine aR (by simp [go_sem, bt0, bt1, hp, hz, bt_eq] <;> rfl) ?_
       exact next_intro (k + 1) σ.objs.length σ.toks.length 0 (⟨hlt, hn.succ hr (by simpa [bt_eq] using h11)⟩) (by omega) ⟨by simp [go_sem, bt0, bt1, hp, hz, bt_eq, hw], rfl, by simp, by simp, by simp [go_sem, bt0, bt1, hp, hz, bt_eq, hw], fun ob h => .inl (by simpa [go_sem, bt0, bt1, hp, hz, bt_eq, hw] using h), by simp [go_sem]⟩
     ·have hke : k = s.size := by simp at h10; omega
      subst hke
      have hall : (List.range s.size).all (fun i => isAtom (bt s i)) = true := all_of_notYet hn
      refine awp_exit ?_
      refine then_exit ?_
      refine then_exit ?_
      refine inBlock_hit ?_
      refine awp_seq (aR (by simp [go_sem, bt0, bt1, hp, hall] <;> rfl) ?_)
      refine awp_ret ?_
      refine ends_ret (by simp [go_sem, bt0, bt1, hp, hall] <;> rfl) (by simp [go_sem]) ?_
      exact ⟨by simp only [isSym, bt0, bt1, hp, hall, h0, h1, h2, h3, bA, bB, bC, bD, bE, bF, bG, bH, bI, bJ, Bool.false_eq_true, if_true, if_false]; simp [go_sem], by simp [go_sem]⟩

set_option maxHeartbeats 1000000 in
theorem c_IndexFunc (l : List D) (hl : l.length ≤ 1000000000) (σ : Store) (hgl : σ.gl = (GL kr)) (f : FuncId) (hc : Callable Tryz.prog f) (caps : List AV) (hcaps : AV.noLs caps = true) (p : D → Bool) (hp : ∀ x, x ∈ l → PurAt Tryz.prog σ f (.pv (enc x) :: caps) (.pv (.bool (p x)))) : PurAt Tryz.prog σ 239 [.pv (.slice (l.map enc)), .func (.func f) caps] (.pv (.int .i64 (idxOf p l))) := by
 refine purAt_of ?_
 refine acalls_ofC tyOk Tryz.func239 rfl (by simp [Tryz.f239]) (by simp [go_sem, hcaps]) fun hclo => ?_
 simp [go_sem] at hclo
 refine awp_seq (aR (by simp [go_sem, hcaps, hclo] <;> rfl) ?_)
 refine awp_seq (awp_seq (aR (by simp [go_sem, hcaps, hclo] <;> rfl) ?_))
 refine awp_block ?_
 refine awp_loop_headK σ.objs.length σ.toks.length 0 [0, 1, 4, 7] (fun k : Nat => [(8, .pv (.int .i64 ↑k))]) (fun k => σ) (fun k => k ≤ l.length ∧ NotYet (p) l k) (fun k => l.length - k) 0 (⟨Nat.zero_le _, .zero⟩) ⟨by simp [go_sem, hcaps, hclo, AV.clos], rfl, by simp, by simp, by simp [go_sem, hcaps, hclo, AV.clos], fun ob h => .inl (by simpa [go_sem, hcaps, hclo, AV.clos] using h), by simp [go_sem]⟩ ?_
 rintro k ⟨hk, hn⟩
 refine awp_seq (aR (by simp [go_sem, hcaps, hclo] <;> rfl) ?_)
 refine awp_seq (awp_cond (by first | rfl | (simp [go_sem, hcaps, hclo] <;> rfl)) (fun h0 => ?_) (fun h0 => ?_))
 ·have hlt : k < l.length := by simp at h0; omega
  have hw : IntKind.i64.wrap (↑k + 1) = (k : Int) + 1 := wrap_succ (by omega)
  obtain ⟨x, hx, hxm⟩ := get_lt hlt
  refine awp_skip ?_
  refine awp_seq (awp_block ?_)
  refine awp_seq (aR (by simp [go_sem, hcaps, hclo, hx] <;> rfl) ?_)
  refine awp_seq (awp_reg ?_)
  refine aL 5 (by simp [go_sem, hcaps, hclo, hx] <;> rfl) ?_
  refine al_fn rfl rfl rfl (by simp [go_sem, hcaps, hclo, hx] <;> rfl) hc (hp x hxm) (by simp [go_sem, hcaps, hclo, hx] <;> rfl) (by simp [go_sem, hcaps, hclo, hx]) (by simp [go_sem, hcaps]) rfl ?_
  refine al_nil ?_
  refine awp_cond (by first | rfl | (simp [go_sem, hcaps, hclo, hx] <;> rfl)) (fun h1 => ?_) (fun h1 => ?_)
  ·refine awp_seq ?_
   refine aR (by simp [go_sem, hcaps, hclo, hx] <;> rfl) ?_
   refine awp_ret ?_
   refine inBlock_ret ?_
   refine then_ret ?_
   refine then_ret ?_
   refine inBlock_ret ?_
   refine then_ret ?_
   refine ends_ret (by simp [go_sem] <;> rfl) (by simp [go_sem]) ?_
   exact ⟨by simp [go_sem, idxOf_found hn hx h1], by simp [go_sem]⟩
  ·refine awp_skip ?_
   refine aR (by simp [go_sem, hcaps, hclo, hx] <;> rfl) ?_
   exact next_intro (k + 1) σ.objs.length σ.toks.length 0 (⟨hlt, hn.succ hx h1⟩) (by omega) ⟨by simp [go_sem, hcaps, hclo, hx, hw], rfl, by simp, by simp, by simp [go_sem, hcaps, hclo, hx, hw], fun ob h => .inl (by simpa [go_sem, hcaps, hclo, hx, hw] using h), by simp [go_sem]⟩
 ·have hke : k = l.length := by simp at h0; omega
  subst hke
  have hno := idxOf_none hn
  refine awp_exit ?_
  refine then_exit ?_
  refine then_exit ?_
  refine inBlock_hit ?_
  refine awp_seq (aR (by simp [go_sem, hcaps, hclo] <;> rfl) ?_)
  refine awp_ret ?_
  refine ends_ret (by simp [go_sem] <;> rfl) (by simp [go_sem]) ?_
  exact ⟨by simp [go_sem, hno], by simp [go_sem]⟩

set_option maxHeartbeats 1000000 in
theorem c_ContainsFunc (l : List D) (hl : l.length ≤ 1000000000) (σ : Store) (hgl : σ.gl = (GL kr)) (f : FuncId) (hc : Callable Tryz.prog f) (caps : List AV) (hcaps : AV.noLs caps = true) (p : D → Bool) (hp : ∀ x, x ∈ l → PurAt Tryz.prog σ f (.pv (enc x) :: caps) (.pv (.bool (p x)))) : PurAt Tryz.prog σ 199 [.pv (.slice (l.map enc)), .func (.func f) caps] (.pv (.bool (l.any p))) := by
 refine purAt_of ?_
 refine acalls_of tyOk Tryz.func199 rfl (by simp [Tryz.f199]) ?_
 refine awp_seq (aR (by simp [go_sem] <;> rfl) ?_)
 refine awp_seq (awp_reg ?_)
 refine aL 2 (by simp [go_sem] <;> rfl) ?_
 refine al_fn rfl rfl rfl (by simp [go_sem] <;> rfl) call239 (c_IndexFunc l hl σ hgl f hc caps hcaps p hp) (by simp [go_sem] <;> rfl) (by simp [go_sem]) (by simp [go_sem, hcaps]) rfl ?_
 refine aL 2 (by simp [go_sem] <;> rfl) ?_
 refine al_nil ?_
 refine awp_ret ?_
 refine ends_ret (by simp [go_sem] <;> rfl) (by simp [go_sem]) ?_
 exact ⟨by simp [go_sem, ← idxOf_any], by simp [go_sem]⟩

set_option maxHeartbeats 1000000 in
theorem c_Index (l : List ByteArray) (hl : l.length ≤ 1000000000) (t : ByteArray) : Pur Tryz.prog (GL kr) 159 [.pv (.slice (l.map .str)), .pv (.str t)] (.pv (.int .i64 (idxOf (fun x => decide (t = x)) l))) := by
 refine pur_of fun σ hgl => ?_
 refine acalls_of tyOk Tryz.func159 rfl (by simp [Tryz.f159]) ?_
 refine awp_seq (aR (by simp [go_sem] <;> rfl) ?_)
 refine awp_seq (awp_seq (aR (by simp [go_sem] <;> rfl) ?_))
 refine awp_block ?_
 refine awp_loop_headK σ.objs.length σ.toks.length 0 [0, 1, 4, 7] (fun k : Nat => [(8, .pv (.int .i64 ↑k))]) (fun k => σ) (fun k => k ≤ l.length ∧ NotYet (fun x => decide (t = x)) l k) (fun k => l.length - k) 0 (⟨Nat.zero_le _, .zero⟩) ⟨by simp [go_sem], rfl, by simp, by simp, by simp [go_sem], fun ob h => .inl (by simpa [go_sem] using h), by simp [go_sem]⟩ ?_
 rintro k ⟨hk, hn⟩
 refine awp_seq (aR (by simp [go_sem] <;> rfl) ?_)
 refine awp_seq (awp_cond (by first | rfl | (simp [go_sem] <;> rfl)) (fun h0 => ?_) (fun h0 => ?_))
 ·have hlt : k < l.length := by simp at h0; omega
  have hw : IntKind.i64.wrap (↑k + 1) = (k : Int) + 1 := wrap_succ (by omega)
  obtain ⟨x, hx, hxm⟩ := get_lt hlt
  refine awp_skip ?_
  refine awp_seq (awp_block ?_)
  refine awp_seq (aR (by simp [go_sem, hx] <;> rfl) ?_)
  refine awp_seq (aR (by simp [go_sem, hx] <;> rfl) ?_)
  refine awp_cond (by first | rfl | (simp [go_sem, hx] <;> rfl)) (fun h1 => ?_) (fun h1 => ?_)
  ·refine awp_seq ?_
   refine aR (by simp [go_sem, hx] <;> rfl) ?_
   refine awp_ret ?_
   refine inBlock_ret ?_
   refine then_ret ?_
   refine then_ret ?_
   refine inBlock_ret ?_
   refine then_ret ?_
   refine ends_ret (by simp [go_sem] <;> rfl) (by simp [go_sem]) ?_
   exact ⟨by simp [go_sem, idxOf_found hn hx h1], by simp [go_sem]⟩
  ·refine awp_skip ?_
   refine aR (by simp [go_sem, hx] <;> rfl) ?_
   exact next_intro (k + 1) σ.objs.length σ.toks.length 0 (⟨hlt, hn.succ hx h1⟩) (by omega) ⟨by simp [go_sem, hx, hw], rfl, by simp, by simp, by simp [go_sem, hx, hw], fun ob h => .inl (by simpa [go_sem, hx, hw] using h), by simp [go_sem]⟩
 ·have hke : k = l.length := by simp at h0; omega
  subst hke
  have hno := idxOf_none hn
  refine awp_exit ?_
  refine then_exit ?_
  refine then_exit ?_
  refine inBlock_hit ?_
  refine awp_seq (aR (by simp [go_sem] <;> rfl) ?_)
  refine awp_ret ?_
  refine ends_ret (by simp [go_sem] <;> rfl) (by simp [go_sem]) ?_
  exact ⟨by simp [go_sem, hno], by simp [go_sem]⟩

set_option maxHeartbeats 1000000 in
theorem c_Contains (l : List ByteArray) (hl : l.length ≤ 1000000000) (t : ByteArray) : Pur Tryz.prog (GL kr) 83 [.pv (.slice (l.map .str)), .pv (.str t)] (.pv (.bool (l.any fun x => decide (t = x)))) := by
 refine pur_of fun σ hgl => ?_
 refine acalls_of tyOk Tryz.func83 rfl (by simp [Tryz.f83]) ?_
 refine awp_seq (aR (by simp [go_sem] <;> rfl) ?_)
 refine awp_seq (awp_reg ?_)
 refine aL 2 (by simp [go_sem] <;> rfl) ?_
 refine aF call159 ((c_Index l hl t) _ (by exact hgl)) (by simp [go_sem] <;> rfl) (by simp [go_sem]) ?_
 refine aL 2 (by simp [go_sem] <;> rfl) ?_
 refine al_nil ?_
 refine awp_ret ?_
 refine ends_ret (by simp [go_sem] <;> rfl) (by simp [go_sem]) ?_
 exact ⟨by simp [go_sem, ← idxOf_any], by simp [go_sem]⟩

theorem gl_wd : lookupG (GL kr) 0 = some (.ptr [.map (wdK kr.wd) (wdV kr.wd)]) := by simp [GL, lookupG]
theorem gl_res : lookupG (GL kr) 2 = some (.ptr [.map kr.res.l resV]) := by simp [GL, lookupG]
theorem look_named {s : St} {x : ByteArray} : lookAV ty s 95 (.pv (.map kr.res.l resV)) (.pv (.str x)) false = some (.pv (.bool (isRes x))) := look_res rfl rfl rfl rfl rfl rfl rfl

theorem gl_prim : lookupG (GL kr) 3 = some (.ptr [.slice (primL.map encPrim)]) := by simp [GL, lookupG]

end Go.Proofs.YtnibcmaaehkhlaaGreatDoor

namespace Go.Proofs.YtnibcmaaehkhlaaGreatDoor
open Go Go.Aw
variable {kr : KR}
set_option maxHeartbeats 1000000 in
theorem c_formed_1 (d : D) (h : Pur Tryz.prog (GL kr) 130 [.pv (enc d)] (.pv (.bool (formed d)))) : Pur Tryz.prog (GL kr) 205 [.pv (enc d)] (.pv (.bool (!formed d))) := by
 refine pur_of fun σ hgl => ?_
 refine acalls_of tyOk Tryz.func205 rfl (by simp [Tryz.f205]) ?_
 refine awp_seq (aR (by simp [go_sem] <;> rfl) ?_)
 refine awp_seq (awp_reg ?_)
 refine aL 1 (by simp [go_sem] <;> rfl) ?_
 refine aF call130 ((h) _ (by exact hgl)) (by simp [go_sem] <;> rfl) (by simp [go_sem]) ?_
 refine aL 2 (by simp [go_sem] <;> rfl) ?_
 refine al_nil ?_
 refine awp_ret ?_
 refine ends_ret (by simp [go_sem] <;> rfl) (by simp [go_sem]) ?_
 exact ⟨by simp [go_sem], by simp [go_sem]⟩

set_option maxHeartbeats 1000000 in
theorem c_datum_formed (d : D) (hd : d.size ≤ 1000000000) : Pur Tryz.prog (GL kr) 130 [.pv (enc d)] (.pv (.bool (formed d))) := by
 induction d using D.ind with
 | _ kind num text kids ih =>
 generalize hD : D.mk kind num text kids = d at *
 have hk : d.kids = kids := by rw [← hD]; rfl
 clear hD
 subst hk
 have hkl := D.kids_length_lt d
 refine pur_of fun σ hgl => ?_
 refine acalls_of tyOk Tryz.func130 rfl (by simp [Tryz.f130]) ?_
 refine awp_seq (aR (by simp [go_sem] <;> rfl) ?_)
 refine awp_seq (awp_seq (aR (by simp [go_sem] <;> rfl) ?_))
 refine awp_block ?_
 refine awp_seq (aR (by simp [go_sem] <;> rfl) ?_)
 refine awp_cond (by first | rfl | (simp [go_sem] <;> rfl)) (fun h0 => ?_) (fun h0 => ?_)
 ·refine awp_seq ?_
  refine awp_reg ?_
  refine aL 4 (by simp [go_sem] <;> rfl) ?_
  refine al_splitT 10 (by first | rfl | (simp [go_sem] <;> rfl)) (fun h1 => ?_) (fun h1 => ?_)
  ·refine aLG 4 10 true (by simp [go_sem] <;> rfl) ?_
   refine aL 2 (by simp [go_sem] <;> rfl) ?_
   refine al_nil ?_
   refine awp_ret ?_
   refine inBlock_ret ?_
   refine then_ret ?_
   refine ends_ret (by simp [go_sem] <;> rfl) (by simp [go_sem]) ?_
   have hs := formed_eq d
   simp only [Bool.not_true, h0, h1, bA, bB, bC, bD, bE, bF, bG, bH, bI, bJ, Bool.false_eq_true, if_true, if_false] at hs
   exact ⟨by simp [go_sem, hs], by simp [go_sem]⟩
  ·refine aK 4 10 true ?_
   refine aL 2 (by simp [go_sem] <;> rfl) ?_
   refine al_nil ?_
   refine awp_ret ?_
   refine inBlock_ret ?_
   refine then_ret ?_
   refine ends_ret (by simp [go_sem] <;> rfl) (by simp [go_sem]) ?_
   have hs := formed_eq d
   simp only [Bool.not_true, h0, h1, bA, bB, bC, bD, bE, bF, bG, bH, bI, bJ, Bool.false_eq_true, if_true, if_false] at hs
   exact ⟨by simp [go_sem, hs], by simp [go_sem]⟩
 ·refine awp_seq ?_
  refine aR (by simp [go_sem] <;> rfl) ?_
  refine awp_cond (by first | rfl | (simp [go_sem] <;> rfl)) (fun h2 => ?_) (fun h2 => ?_)
  ·refine awp_seq ?_
   refine awp_reg ?_
   refine aL 4 (by simp [go_sem] <;> rfl) ?_
   refine al_splitT 21 (by first | rfl | (simp [go_sem] <;> rfl)) (fun h3 => ?_) (fun h3 => ?_)
   ·refine aLG 4 21 true (by simp [go_sem] <;> rfl) ?_
    refine aL 2 (by simp [go_sem] <;> rfl) ?_
    refine al_splitT 27 (by first | rfl | (simp [go_sem] <;> rfl)) (fun h4 => ?_) (fun h4 => ?_)
    ·refine aLG 2 27 true (by simp [go_sem] <;> rfl) ?_
     refine al_fnG 27 true true (by simp [go_sem]) rfl (by simp [go_sem]) rfl rfl (by simp [go_sem] <;> rfl) call120 ((c_datum_IsSymbol d.text) _ (by exact hgl)) (by simp [go_sem] <;> rfl) (by simp [go_sem]) rfl rfl ?_
     refine aL 2 (by simp [go_sem] <;> rfl) ?_
     refine al_nil ?_
     refine awp_ret ?_
     refine inBlock_ret ?_
     refine then_ret ?_
     refine ends_ret (by simp [go_sem] <;> rfl) (by simp [go_sem]) ?_
     have hs := formed_eq d
     simp only [Bool.not_true, h0, h2, h3, h4, bA, bB, bC, bD, bE, bF, bG, bH, bI, bJ, Bool.false_eq_true, if_true, if_false] at hs
     exact ⟨by simp [go_sem, hs], by simp [go_sem]⟩
    ·refine aK 3 27 true ?_
     refine aL 2 (by simp [go_sem] <;> rfl) ?_
     refine al_nil ?_
     refine awp_ret ?_
     refine inBlock_ret ?_
     refine then_ret ?_
     refine ends_ret (by simp [go_sem] <;> rfl) (by simp [go_sem]) ?_
     have hs := formed_eq d
     simp only [Bool.not_true, h0, h2, h3, h4, bA, bB, bC, bD, bE, bF, bG, bH, bI, bJ, Bool.false_eq_true, if_true, if_false] at hs
     exact ⟨by simp [go_sem, hs], by simp [go_sem]⟩
   ·refine aK 4 21 true ?_
    refine aL 2 (by simp [go_sem] <;> rfl) ?_
    refine aK 3 27 true ?_
    refine aL 2 (by simp [go_sem] <;> rfl) ?_
    refine al_nil ?_
    refine awp_ret ?_
    refine inBlock_ret ?_
    refine then_ret ?_
    refine ends_ret (by simp [go_sem] <;> rfl) (by simp [go_sem]) ?_
    have hs := formed_eq d
    simp only [Bool.not_true, h0, h2, h3, bA, bB, bC, bD, bE, bF, bG, bH, bI, bJ, Bool.false_eq_true, if_true, if_false] at hs
    exact ⟨by simp [go_sem, hs], by simp [go_sem]⟩
  ·refine awp_seq ?_
   refine aR (by simp [go_sem] <;> rfl) ?_
   refine awp_cond (by first | rfl | (simp [go_sem] <;> rfl)) (fun h5 => ?_) (fun h5 => ?_)
   ·refine awp_seq ?_
    refine awp_reg ?_
    refine aL 4 (by simp [go_sem] <;> rfl) ?_
    refine al_splitT 37 (by first | rfl | (simp [go_sem] <;> rfl)) (fun h6 => ?_) (fun h6 => ?_)
    ·refine aLG 3 37 true (by simp [go_sem] <;> rfl) ?_
     refine aL 2 (by simp [go_sem] <;> rfl) ?_
     refine al_splitT 42 (by first | rfl | (simp [go_sem] <;> rfl)) (fun h7 => ?_) (fun h7 => ?_)
     ·refine aLG 2 42 true (by simp [go_sem] <;> rfl) ?_
      refine al_fnG 42 true true (by simp [go_sem]) rfl (by simp [go_sem]) rfl rfl (by simp [go_sem] <;> rfl) call199 (c_ContainsFunc d.kids (by omega) σ hgl 205 call205 [] rfl (fun x => !formed x) (fun x hx => c_formed_1 x (ih x hx (by have := D.size_kid_lt hx; omega)) σ hgl)) (by simp [go_sem] <;> rfl) (by simp [go_sem]) rfl rfl ?_
      refine aLG 1 42 true (by simp [go_sem] <;> rfl) ?_
      refine aL 2 (by simp [go_sem] <;> rfl) ?_
      refine al_nil ?_
      refine awp_ret ?_
      refine inBlock_ret ?_
      refine then_ret ?_
      refine ends_ret (by simp [go_sem] <;> rfl) (by simp [go_sem]) ?_
      have hs := formed_eq d
      simp only [Bool.not_true, h0, h2, h5, h6, h7, bA, bB, bC, bD, bE, bF, bG, bH, bI, bJ, Bool.false_eq_true, if_true, if_false] at hs
      exact ⟨by simp [go_sem, hs], by simp [go_sem]⟩
     ·refine aK 4 42 true ?_
      refine aL 2 (by simp [go_sem] <;> rfl) ?_
      refine al_nil ?_
      refine awp_ret ?_
      refine inBlock_ret ?_
      refine then_ret ?_
      refine ends_ret (by simp [go_sem] <;> rfl) (by simp [go_sem]) ?_
      have hs := formed_eq d
      simp only [Bool.not_true, h0, h2, h5, h6, h7, bA, bB, bC, bD, bE, bF, bG, bH, bI, bJ, Bool.false_eq_true, if_true, if_false] at hs
      exact ⟨by simp [go_sem, hs], by simp [go_sem]⟩
    ·refine aK 3 37 true ?_
     refine aL 2 (by simp [go_sem] <;> rfl) ?_
     refine aK 4 42 true ?_
     refine aL 2 (by simp [go_sem] <;> rfl) ?_
     refine al_nil ?_
     refine awp_ret ?_
     refine inBlock_ret ?_
     refine then_ret ?_
     refine ends_ret (by simp [go_sem] <;> rfl) (by simp [go_sem]) ?_
     have hs := formed_eq d
     simp only [Bool.not_true, h0, h2, h5, h6, bA, bB, bC, bD, bE, bF, bG, bH, bI, bJ, Bool.false_eq_true, if_true, if_false] at hs
     exact ⟨by simp [go_sem, hs], by simp [go_sem]⟩
   ·refine awp_skip ?_
    refine awp_seq (aR (by simp [go_sem] <;> rfl) ?_)
    refine awp_ret ?_
    refine ends_ret (by simp [go_sem] <;> rfl) (by simp [go_sem]) ?_
    have hs := formed_eq d
    simp only [Bool.not_true, h0, h2, h5, bA, bB, bC, bD, bE, bF, bG, bH, bI, bJ, Bool.false_eq_true, if_true, if_false] at hs
    exact ⟨by simp [go_sem, hs], by simp [go_sem]⟩

set_option maxHeartbeats 1000000 in
theorem c_flat_Kids (d : D) (n : Int) (more : Bool) : Pur Tryz.prog (GL kr) 237 [.pv (enc d), .pv (.int .i64 n), .pv (.bool more)] (.pv (encO (kidsOf d n more))) := by
 refine pur_of fun σ hgl => ?_
 refine acalls_of tyOk Tryz.func237 rfl (by simp [Tryz.f237]) ?_
 refine awp_seq (aR (by simp [go_sem] <;> rfl) ?_)
 refine awp_seq (awp_seq (awp_reg ?_))
 refine aL 4 (by simp [go_sem] <;> rfl) ?_
 refine al_splitT 10 (by first | rfl | (simp [go_sem] <;> rfl)) (fun h0 => ?_) (fun h0 => ?_)
 ·refine aK 5 10 false ?_
  refine aL 2 (by simp [go_sem] <;> rfl) ?_
  refine aK 3 17 false ?_
  refine aK 5 20 true ?_
  refine aK 1 17 false ?_
  refine aL 1 (by simp [go_sem] <;> rfl) ?_
  refine al_nil ?_
  refine awp_cond (b := true) (by simp [go_sem, h0]) (fun h => ?_) (fun h => ?_)
  rotate_left
  ·cases h
  refine awp_seq (aR (by simp [go_sem] <;> rfl) ?_)
  refine awp_ret ?_
  refine then_ret ?_
  refine ends_ret (by simp [go_sem] <;> rfl) (by simp [go_sem]) ?_
  have hs : kidsOf d n more = _ := rfl
  unfold kidsOf at hs
  simp only [Bool.not_true, h0, bA, bB, bC, bD, bE, bF, bG, bH, bI, bJ, Bool.false_eq_true, if_true, if_false] at hs
  exact ⟨by simp [go_sem, kidsOf, encO, h0], by simp [go_sem]⟩
 ·refine aLG 5 10 false (by simp [go_sem] <;> rfl) ?_
  refine aL 2 (by simp [go_sem] <;> rfl) ?_
  refine al_splitT 17 (by first | rfl | (simp [go_sem] <;> rfl)) (fun h1 => ?_) (fun h1 => ?_)
  ·refine aK 3 17 false ?_
   refine aK 5 20 true ?_
   refine aK 1 17 false ?_
   refine aL 1 (by simp [go_sem] <;> rfl) ?_
   refine al_nil ?_
   refine awp_cond (b := true) (by simp [go_sem, h0, h1]) (fun h => ?_) (fun h => ?_)
   rotate_left
   ·cases h
   refine awp_seq (aR (by simp [go_sem] <;> rfl) ?_)
   refine awp_ret ?_
   refine then_ret ?_
   refine ends_ret (by simp [go_sem] <;> rfl) (by simp [go_sem]) ?_
   have hs : kidsOf d n more = _ := rfl
   unfold kidsOf at hs
   simp only [Bool.not_true, h0, h1, bA, bB, bC, bD, bE, bF, bG, bH, bI, bJ, Bool.false_eq_true, if_true, if_false] at hs
   exact ⟨by simp [go_sem, kidsOf, encO, h0, h1], by simp [go_sem]⟩
  ·refine aLG 3 17 false (by simp [go_sem] <;> rfl) ?_
   refine al_splitT 20 (by first | rfl | (simp [go_sem] <;> rfl)) (fun h2 => ?_) (fun h2 => ?_)
   ·refine aLG 5 20 true (by simp [go_sem] <;> rfl) ?_
    refine aLG 1 17 false (by simp [go_sem] <;> rfl) ?_
    refine aL 1 (by simp [go_sem] <;> rfl) ?_
    refine al_nil ?_
    refine awp_cond (by first | rfl | (simp [go_sem] <;> rfl)) (fun h3 => ?_) (fun h3 => ?_)
    ·refine awp_seq ?_
     refine aR (by simp [go_sem] <;> rfl) ?_
     refine awp_ret ?_
     refine then_ret ?_
     refine ends_ret (by simp [go_sem] <;> rfl) (by simp [go_sem]) ?_
     have hs : kidsOf d n more = _ := rfl
     unfold kidsOf at hs
     simp only [Bool.not_true, h0, h1, h2, h3, bA, bB, bC, bD, bE, bF, bG, bH, bI, bJ, Bool.false_eq_true, if_true, if_false] at hs
     exact ⟨by simp [go_sem, kidsOf, encO, h0, h1, h2, h3], by simp [go_sem]⟩
    ·refine awp_skip ?_
     refine awp_seq (aR (by simp [go_sem] <;> rfl) ?_)
     refine awp_ret ?_
     refine ends_ret (by simp [go_sem] <;> rfl) (by simp [go_sem]) ?_
     have hs : kidsOf d n more = _ := rfl
     unfold kidsOf at hs
     simp only [Bool.not_true, h0, h1, h2, h3, bA, bB, bC, bD, bE, bF, bG, bH, bI, bJ, Bool.false_eq_true, if_true, if_false] at hs
     exact ⟨by simp [go_sem, kidsOf, encO, h0, h1, h2, h3], by simp [go_sem]⟩
   ·refine aK 5 20 true ?_
    refine aLG 1 17 false (by simp [go_sem] <;> rfl) ?_
    refine aL 1 (by simp [go_sem] <;> rfl) ?_
    refine al_nil ?_
    refine awp_cond (b := false) (by simp [go_sem, h0, h1, h2]) (fun h => ?_) (fun h => ?_)
    ·cases h
    refine awp_skip ?_
    refine awp_seq (aR (by simp [go_sem] <;> rfl) ?_)
    refine awp_ret ?_
    refine ends_ret (by simp [go_sem] <;> rfl) (by simp [go_sem]) ?_
    have hs : kidsOf d n more = _ := rfl
    unfold kidsOf at hs
    simp only [Bool.not_true, h0, h1, h2, bA, bB, bC, bD, bE, bF, bG, bH, bI, bJ, Bool.false_eq_true, if_true, if_false] at hs
    exact ⟨by simp [go_sem, kidsOf, encO, h0, h1, h2], by simp [go_sem]⟩

set_option maxHeartbeats 1000000 in
theorem c_node_IsName (d : D) : Pur Tryz.prog (GL kr) 194 [.pv (enc d)] (.pv (.bool (isName d))) := by
 refine pur_of fun σ hgl => ?_
 refine acalls_of tyOk Tryz.func194 rfl (by simp [Tryz.f194]) ?_
 refine awp_seq (aR (by simp [go_sem] <;> rfl) ?_)
 refine awp_seq ?_
 have hg0 : lookupG σ.gl 2 = some (.ptr [.map kr.l resV]) := by rw [hgl]; exact gl_res
 refine awp_reg ?_
 refine aL 4 (by simp [go_sem, hg0, look_named] <;> rfl) ?_
 refine al_splitT 6 (by first | rfl | (simp [go_sem, hg0, look_named] <;> rfl)) (fun h0 => ?_) (fun h0 => ?_)
 ·refine aLG 5 6 true (by simp [go_sem, hg0, look_named] <;> rfl) ?_
  refine aL 2 (by simp [go_sem, hg0, look_named] <;> rfl) ?_
  refine al_nil ?_
  refine awp_ret ?_
  refine ends_ret (by simp [go_sem, hg0, look_named] <;> rfl) (by simp [go_sem]) ?_
  exact ⟨by simp [go_sem, hg0, look_named, h0, isName], by simp [go_sem]⟩
 ·refine aK 5 6 true ?_
  refine aL 2 (by simp [go_sem, hg0, look_named] <;> rfl) ?_
  refine al_nil ?_
  refine awp_ret ?_
  refine ends_ret (by simp [go_sem, hg0, look_named] <;> rfl) (by simp [go_sem]) ?_
  exact ⟨by simp [go_sem, hg0, look_named, h0, isName], by simp [go_sem]⟩

set_option maxHeartbeats 1000000 in
theorem c_node_Label (d : D) : Pur Tryz.prog (GL kr) 238 [.pv (enc d)] (.pv (.bool (isLabel d))) := by
 refine pur_of fun σ hgl => ?_
 refine acalls_of tyOk Tryz.func238 rfl (by simp [Tryz.f238]) ?_
 refine awp_seq (aR (by simp [go_sem] <;> rfl) ?_)
 refine awp_seq (awp_seq (aR (by simp [go_sem] <;> rfl) ?_))
 refine awp_cond (by first | rfl | (simp [go_sem] <;> rfl)) (fun h0 => ?_) (fun h0 => ?_)
 ·refine awp_seq ?_
  refine awp_reg ?_
  refine aL 4 (by simp [go_sem] <;> rfl) ?_
  refine al_splitT 9 (by first | rfl | (simp [go_sem] <;> rfl)) (fun h1 => ?_) (fun h1 => ?_)
  ·refine aLG 3 9 true (by simp [go_sem] <;> rfl) ?_
   refine aL 2 (by simp [go_sem] <;> rfl) ?_
   refine al_nil ?_
   refine awp_ret ?_
   refine then_ret ?_
   refine ends_ret (by simp [go_sem] <;> rfl) (by simp [go_sem]) ?_
   exact ⟨by simp only [isLabel, h0, h1, bA, bB, bC, bD, bE, bF, bG, bH, bI, bJ, Bool.false_eq_true, if_true, if_false]; simp [go_sem], by simp [go_sem]⟩
  ·refine aK 3 9 true ?_
   refine aL 2 (by simp [go_sem] <;> rfl) ?_
   refine al_nil ?_
   refine awp_ret ?_
   refine then_ret ?_
   refine ends_ret (by simp [go_sem] <;> rfl) (by simp [go_sem]) ?_
   exact ⟨by simp only [isLabel, h0, h1, bA, bB, bC, bD, bE, bF, bG, bH, bI, bJ, Bool.false_eq_true, if_true, if_false]; simp [go_sem], by simp [go_sem]⟩
 ·refine awp_skip ?_
  refine awp_seq (awp_reg ?_)
  refine aL 1 (by simp [go_sem] <;> rfl) ?_
  refine aF call194 ((c_node_IsName d) _ (by exact hgl)) (by simp [go_sem] <;> rfl) (by simp [go_sem]) ?_
  refine aL 1 (by simp [go_sem] <;> rfl) ?_
  refine al_nil ?_
  refine awp_ret ?_
  refine ends_ret (by simp [go_sem] <;> rfl) (by simp [go_sem]) ?_
  exact ⟨by simp only [isLabel, h0, bA, bB, bC, bD, bE, bF, bG, bH, bI, bJ, Bool.false_eq_true, if_true, if_false]; simp [go_sem], by simp [go_sem]⟩

set_option maxHeartbeats 1000000 in
theorem c_flat_Parts (d : D) (h : d.kind = 3 → d.kids ≠ []) (hp2 : d.kind = 3 → d.head.text = sLet ∨ d.head.text = sCall → 2 ≤ d.kids.length) : Pur Tryz.prog (GL kr) 211 [.pv (enc d)] (.pv (.slice ((parts d).map enc))) := by
 refine pur_of fun σ hgl => ?_
 refine acalls_of tyOk Tryz.func211 rfl (by simp [Tryz.f211]) ?_
 refine awp_seq (aR (by simp [go_sem] <;> rfl) ?_)
 refine awp_seq (awp_seq (aR (by simp [go_sem] <;> rfl) ?_))
 refine awp_cond (by first | rfl | (simp [go_sem] <;> rfl)) (fun h0 => ?_) (fun h0 => ?_)
 ·refine awp_seq ?_
  refine aR (by simp [go_sem] <;> rfl) ?_
  refine awp_ret ?_
  refine then_ret ?_
  refine ends_ret (by simp [go_sem] <;> rfl) (by simp [go_sem]) ?_
  exact ⟨by simp only [parts, h0, bA, bB, bC, bD, bE, bF, bG, bH, bI, bJ, Bool.false_eq_true, if_true, if_false]; simp [go_sem], by simp [go_sem]⟩
 ·refine awp_skip ?_
  refine awp_seq ?_
  refine awp_seq ?_
  have hk3 : d.kind = 3 := by simpa using h0
  obtain ⟨x, r, hx⟩ := kids_cons (h hk3)
  have hh : d.head = x := by simp [D.head, hx]
  rw [hh] at hp2
  have hr0 : (0 : Int) ≤ r.length := by omega
  have hr1 : (1 : Int) ≤ (r.length : Int) + 1 := by omega
  refine aR (by simp [go_sem, hx, hr1] <;> rfl) ?_
  refine awp_block ?_
  refine awp_seq (aR (by simp [go_sem, hx, hr1] <;> rfl) ?_)
  refine awp_cond (by first | rfl | (simp [go_sem, hx, hr1] <;> rfl)) (fun h1 => ?_) (fun h1 => ?_)
  ·refine awp_seq ?_
   refine aR (by simp [go_sem, hx, hr1] <;> rfl) ?_
   refine awp_ret ?_
   refine inBlock_ret ?_
   refine then_ret ?_
   refine ends_ret (by simp [go_sem] <;> rfl) (by simp [go_sem]) ?_
   exact ⟨by simp only [parts, hh, sQuote, sLet, sCall, hx, hr1, h0, h1, bA, bB, bC, bD, bE, bF, bG, bH, bI, bJ, Bool.false_eq_true, if_true, if_false, hx, List.drop_succ_cons, List.drop_zero]; simp [go_sem], by simp [go_sem]⟩
  ·refine awp_seq ?_
   refine awp_seq (aR (by simp [go_sem, hx, hr1] <;> rfl) ?_)
   refine awp_cond (by first | rfl | (simp [go_sem, hx, hr1] <;> rfl)) (fun h2 => ?_) (fun h2 => ?_)
   ·refine awp_skip ?_
    refine awp_cond (b := true) (by simp [go_sem, hx, hr1, h0, h1, h2]) (fun h => ?_) (fun h => ?_)
    rotate_left
    ·cases h
    refine awp_seq ?_
    have hr2 : (2 : Int) ≤ (r.length : Int) + 1 := by have h3 := hp2 hk3 (by first | exact .inl (of_decide_eq_true h2) | exact .inr (of_decide_eq_true h2)); rw [hx] at h3; simp at h3; omega
    refine aR (by simp [go_sem, hx, hr1, hr2] <;> rfl) ?_
    refine awp_ret ?_
    refine inBlock_ret ?_
    refine then_ret ?_
    refine ends_ret (by simp [go_sem] <;> rfl) (by simp [go_sem]) ?_
    exact ⟨by simp only [parts, hh, sQuote, sLet, sCall, hx, hr1, hr2, h0, h1, h2, bA, bB, bC, bD, bE, bF, bG, bH, bI, bJ, Bool.false_eq_true, if_true, if_false, hx, List.drop_succ_cons, List.drop_zero]; simp [go_sem], by simp [go_sem]⟩
   ·refine aR (by simp [go_sem, hx, hr1] <;> rfl) ?_
    refine awp_cond (by first | rfl | (simp [go_sem, hx, hr1] <;> rfl)) (fun h3 => ?_) (fun h3 => ?_)
    ·refine awp_seq ?_
     have hr2 : (2 : Int) ≤ (r.length : Int) + 1 := by have h3 := hp2 hk3 (by first | exact .inl (of_decide_eq_true h3) | exact .inr (of_decide_eq_true h3)); rw [hx] at h3; simp at h3; omega
     refine aR (by simp [go_sem, hx, hr1, hr2] <;> rfl) ?_
     refine awp_ret ?_
     refine inBlock_ret ?_
     refine then_ret ?_
     refine ends_ret (by simp [go_sem] <;> rfl) (by simp [go_sem]) ?_
     exact ⟨by simp only [parts, hh, sQuote, sLet, sCall, hx, hr1, hr2, h0, h1, h2, h3, bA, bB, bC, bD, bE, bF, bG, bH, bI, bJ, Bool.false_eq_true, if_true, if_false, hx, List.drop_succ_cons, List.drop_zero]; simp [go_sem], by simp [go_sem]⟩
    ·refine awp_skip ?_
     refine awp_seq (aR (by simp [go_sem, hx, hr1] <;> rfl) ?_)
     refine awp_ret ?_
     refine ends_ret (by simp [go_sem] <;> rfl) (by simp [go_sem]) ?_
     exact ⟨by simp only [parts, hh, sQuote, sLet, sCall, hx, hr1, h0, h1, h2, h3, bA, bB, bC, bD, bE, bF, bG, bH, bI, bJ, Bool.false_eq_true, if_true, if_false, hx, List.drop_succ_cons, List.drop_zero]; simp [go_sem], by simp [go_sem]⟩

end Go.Proofs.YtnibcmaaehkhlaaGreatDoor

namespace Go.Proofs.YtnibcmaaehkhlaaGreatDoor
open Go Go.Aw
variable {kr : KR}
set_option maxHeartbeats 1000000 in
theorem c_own_acc (d : D) (hd : d.size ≤ 1000000000) : ∀ σ : Store, σ.gl = (GL kr) → ACalls Tryz.prog 62 [.pv (enc d)] σ (ownR 24 d σ) := by
 induction d using D.ind with
 | _ kind num text kids ih =>
 generalize hD : D.mk kind num text kids = d at *
 have hk : d.kids = kids := by rw [← hD]; rfl
 clear hD
 subst hk
 have hkl := D.kids_length_lt d
 intro σ hgl
 refine acalls_of tyOk Tryz.func62 rfl (by simp [Tryz.f62]) ?_
 refine awp_seq (aR (by simp [go_sem] <;> rfl) ?_)
 refine awp_seq (aR (by simp [go_sem] <;> rfl) ?_)
 refine awp_seq (awp_seq (aR (by simp [go_sem] <;> rfl) ?_))
 refine awp_adopt' 3 24 4 (by simp [go_sem] <;> rfl) ?_
 refine awp_block ?_
 refine awp_loop_headK σ.objs.length (σ.toks.length + 1) 2 [1, 2, 7, 8] (fun k : Nat => [(3, .acc ((d.kids.map enc).take k) σ.toks.length), (9, .pv (.int .i64 ↑k))]) (fun k => { σ with toks := σ.toks ++ [⟨k, 24, 4⟩] }) (fun k => k ≤ d.kids.length) (fun k => d.kids.length - k) 0 (Nat.zero_le _) ⟨by simp [go_sem], rfl, by simp, by simp, by simp [go_sem], fun ob h => .inl (by simpa [go_sem] using h), by simp [go_sem]⟩ ?_
 intro k hk
 refine awp_seq (aR (by simp [go_sem] <;> rfl) ?_)
 refine awp_seq (awp_cond (by first | rfl | (simp [go_sem] <;> rfl)) (fun h0 => ?_) (fun h0 => ?_))
 ·have hlt : k < d.kids.length := by simp at h0; omega
  have hw : IntKind.i64.wrap (↑k + 1) = (k : Int) + 1 := wrap_succ (by omega)
  obtain ⟨x, hx, hxm⟩ := get_lt hlt
  have hxs := D.size_kid_lt hxm
  have ht : (d.kids.map enc).take (k + 1) = (d.kids.map enc).take k ++ [enc x] := take_next (by simp [hx])
  have hm : min k d.kids.length = k := by omega
  have hb : (k + 1) * 56 ≤ 140737488355328 := by omega
  refine awp_skip ?_
  refine awp_seq (awp_block ?_)
  refine awp_seq (aR (by simp [go_sem, hx, hm, hb] <;> rfl) ?_)
  refine awp_reg ?_
  refine aL 2 (by simp [go_sem, hx, hm, hb] <;> rfl) ?_
  refine al_callW rfl rfl rfl (by simp [go_sem, hx, hm, hb] <;> rfl) call62 (ih x hxm (by omega) _ hgl) (by simp [go_sem, hx, hm, hb] <;> rfl) (by simp [go_sem, hx, hm, hb]) rfl rfl ?_
  rintro r σ' ⟨rfl, rfl⟩
  refine aL 3 (by simp [go_sem, hx, hm, hb] <;> rfl) ?_
  refine al_nil ?_
  refine aR (by simp [go_sem, hx, hm, hb] <;> rfl) ?_
  exact next_intro (k + 1) σ.objs.length (σ.toks.length + 1) 2 (hlt) (by omega) ⟨by simp [go_sem, hx, hm, hb, hw, ht], rfl, by simp, by simp, by simp [go_sem, hx, hm, hb, hw, ht], fun ob h => .inl (by simpa [go_sem, hx, hm, hb, hw, ht] using h), by simp [go_sem]⟩
 ·have hke : k = d.kids.length := by simp at h0; omega
  subst hke
  refine awp_exit ?_
  refine then_exit ?_
  refine then_exit ?_
  refine inBlock_hit ?_
  refine awp_seq (aR (by simp [go_sem] <;> rfl) ?_)
  refine awp_seq (aR (by simp [go_sem] <;> rfl) ?_)
  refine awp_ret ?_
  refine ends_ret (by simp [go_sem] <;> rfl) (by simp [go_sem]) ?_
  simp [ownR, go_sem, take_all]

theorem c_own (d : D) (hd : d.size ≤ 1000000000) : Pur Tryz.prog (GL kr) 62 [.pv (enc d)] (.pv (enc d)) := by
  intro σ hgl
  refine (c_own_acc d hd σ hgl).less ?_
  rintro r σ' ⟨rfl, rfl⟩
  exact ⟨σ.objs.length, σ.toks.length, _, by simp [go_sem], Nat.le_refl _, Nat.le_refl _, fun ob h => .inl (by simpa using h), rfl, by simp [Store.cut]⟩

end Go.Proofs.YtnibcmaaehkhlaaGreatDoor

namespace Go.Proofs.YtnibcmaaehkhlaaGreatDoor
open Go Go.Aw
variable {kr : KR}
set_option maxHeartbeats 1000000 in
theorem c_Clip (l : List ByteArray) : Pur Tryz.prog (GL kr) 196 [.pv (.slice (l.map .str))] (.full (l.map .str)) := by
 refine pur_of fun σ hgl => ?_
 refine acalls_of tyOk Tryz.func196 rfl (by simp [Tryz.f196]) ?_
 refine awp_seq (aR (by simp [go_sem, allSz_str] <;> rfl) ?_)
 refine awp_seq (aR (by simp [go_sem, allSz_str] <;> rfl) ?_)
 refine awp_ret ?_
 refine ends_ret (by simp [go_sem, allSz_str] <;> rfl) (by simp [go_sem]) ?_
 exact ⟨by simp [go_sem, allSz_str], by simp [go_sem]⟩

set_option maxHeartbeats 1000000 in
theorem c_prim_Arity (s : ByteArray) : Pur Tryz.prog (GL kr) 198 [.pv (.str s)] (.tuple [.pv (.int .i64 (arity s).1), .pv (.bool (arity s).2)]) := by
 refine pur_of fun σ hgl => ?_
 refine acalls_of tyOk Tryz.func198 rfl (by simp [Tryz.f198]) ?_
 refine awp_seq (aR (by simp [go_sem] <;> rfl) ?_)
 refine awp_seq ?_
 refine awp_seq ?_
 have hg0 : lookupG σ.gl 3 = some (.ptr [.slice (primL.map encPrim)]) := by rw [hgl]; exact gl_prim
 refine aR (by simp [go_sem, hg0, encPrim_cells] <;> rfl) ?_
 refine awp_block ?_
 refine awp_loop_headK σ.objs.length σ.toks.length 0 [0, 2, 3, 6, 7] (fun k : Nat => [(8, .pv (.int .i64 ↑k))]) (fun k => σ) (fun k => k ≤ primL.length ∧ NotYet (fun p => decide (p.1 = s)) primL k) (fun k => primL.length - k) 0 (⟨Nat.zero_le _, .zero⟩) ⟨by simp [go_sem, hg0, encPrim_cells], rfl, by simp, by simp, by simp [go_sem, hg0, encPrim_cells], fun ob h => .inl (by simpa [go_sem, hg0, encPrim_cells] using h), by simp [go_sem]⟩ ?_
 rintro k ⟨hk, hn⟩
 have hpl := primL_length
 refine awp_seq (aR (by simp [go_sem, hg0, encPrim_cells] <;> rfl) ?_)
 refine awp_seq (awp_cond (by first | rfl | (simp [go_sem, hg0, encPrim_cells] <;> rfl)) (fun h0 => ?_) (fun h0 => ?_))
 ·have hlt : k < primL.length := by simp at h0; omega
  have hw : IntKind.i64.wrap (↑k + 1) = (k : Int) + 1 := wrap_succ (by omega)
  obtain ⟨x, hx, hxm⟩ := get_lt hlt
  refine awp_skip ?_
  refine awp_seq (awp_block ?_)
  refine awp_seq (aR (by simp [go_sem, hg0, encPrim_cells, hx] <;> rfl) ?_)
  refine awp_seq (aR (by simp [go_sem, hg0, encPrim_cells, hx] <;> rfl) ?_)
  refine awp_cond (by first | rfl | (simp [go_sem, hg0, encPrim_cells, hx] <;> rfl)) (fun h1 => ?_) (fun h1 => ?_)
  ·refine awp_seq ?_
   refine aR (by simp [go_sem, hg0, encPrim_cells, hx] <;> rfl) ?_
   refine awp_ret ?_
   refine inBlock_ret ?_
   refine then_ret ?_
   refine then_ret ?_
   refine inBlock_ret ?_
   refine then_ret ?_
   refine ends_ret (by simp [go_sem] <;> rfl) (by simp [go_sem]) ?_
   have hs := arity_found hn hx h1
   exact ⟨by simp [go_sem, hs], by simp [go_sem]⟩
  ·refine awp_skip ?_
   refine aR (by simp [go_sem, hg0, encPrim_cells, hx] <;> rfl) ?_
   exact next_intro (k + 1) σ.objs.length σ.toks.length 0 (⟨hlt, hn.succ hx h1⟩) (by omega) ⟨by simp [go_sem, hg0, encPrim_cells, hx, hw], rfl, by simp, by simp, by simp [go_sem, hg0, encPrim_cells, hx, hw], fun ob h => .inl (by simpa [go_sem, hg0, encPrim_cells, hx, hw] using h), by simp [go_sem]⟩
 ·have hke : k = primL.length := by simp at h0; omega
  subst hke
  refine awp_exit ?_
  refine then_exit ?_
  refine then_exit ?_
  refine inBlock_hit ?_
  refine awp_seq (aR (by simp [go_sem, hg0, encPrim_cells] <;> rfl) ?_)
  refine awp_ret ?_
  refine ends_ret (by simp [go_sem] <;> rfl) (by simp [go_sem]) ?_
  have hs := arity_none hn
  exact ⟨by simp [go_sem, hs], by simp [go_sem]⟩

set_option maxHeartbeats 1000000 in
theorem c_flat_Names (d : D) (hd : d.size ≤ 1000000000) : Pur Tryz.prog (GL kr) 122 [.pv (enc d)] (.tuple [.pv (encN (names d)), .pv (.bool (names d).isSome)]) := by
 have hkl := D.kids_length_lt d
 refine pur_of fun σ hgl => ?_
 refine acalls_of tyOk Tryz.func122 rfl (by simp [Tryz.f122]) ?_
 refine awp_seq (aR (by simp [go_sem] <;> rfl) ?_)
 refine awp_seq (awp_seq (aR (by simp [go_sem] <;> rfl) ?_))
 refine awp_cond (by first | rfl | (simp [go_sem] <;> rfl)) (fun h0 => ?_) (fun h0 => ?_)
 ·refine awp_seq ?_
  refine aR (by simp [go_sem] <;> rfl) ?_
  refine awp_ret ?_
  refine then_ret ?_
  refine ends_ret (by simp [go_sem] <;> rfl) (by simp [go_sem]) ?_
  exact ⟨by simp only [names, encN, h0, bA, bB, bC, bD, bE, bF, bG, bH, bI, bJ, Bool.false_eq_true, if_true, if_false]; simp [go_sem], by simp [go_sem]⟩
 ·refine awp_skip ?_
  refine awp_seq (aR (by simp [go_sem] <;> rfl) ?_)
  refine awp_seq (awp_seq (aR (by simp [go_sem] <;> rfl) ?_))
  refine awp_adopt' 4 9 1 (by simp [go_sem] <;> rfl) ?_
  refine awp_block ?_
  refine awp_loop_headK σ.objs.length (σ.toks.length + 1) 1 [2, 3, 12, 13] (fun k : Nat => [(4, .acc ((textsL (d.kids.take k)).map .str) σ.toks.length), (14, .pv (.int .i64 ↑k))]) (fun k => { σ with toks := σ.toks ++ [⟨k, 9, 1⟩] }) (fun k => k ≤ d.kids.length ∧ names d = namesGo (textsL (d.kids.take k)) (d.kids.drop k)) (fun k => d.kids.length - k) 0 (⟨Nat.zero_le _, by simp only [names, h0, Bool.false_eq_true, if_false]; rfl⟩) ⟨by simp [go_sem, textsL_nil], rfl, by simp, by simp, by simp [go_sem, textsL_nil], fun ob h => .inl (by simpa [go_sem, textsL_nil] using h), by simp [go_sem]⟩ ?_
  rintro k ⟨hk, hn⟩
  refine awp_seq (aR (by simp [go_sem] <;> rfl) ?_)
  refine awp_seq (awp_cond (by first | rfl | (simp [go_sem] <;> rfl)) (fun h1 => ?_) (fun h1 => ?_))
  ·have hlt : k < d.kids.length := by simp at h1; omega
   have hw : IntKind.i64.wrap (↑k + 1) = (k : Int) + 1 := wrap_succ (by omega)
   obtain ⟨x, hx, hxm⟩ := get_lt hlt
   have ht := textsL_next hx
   have htl : (textsL (d.kids.take k)).length = k := by rw [textsL_length, List.length_take]; omega
   have hb : (k + 1) * 16 ≤ 140737488355328 := by omega
   have hst := namesGo_step hx
   refine awp_skip ?_
   refine awp_seq (awp_block ?_)
   refine awp_seq (aR (by simp [go_sem, hx, htl, hb, allSz_str] <;> rfl) ?_)
   refine awp_seq (awp_seq (awp_reg ?_))
   refine aL 1 (by simp [go_sem, hx, htl, hb, allSz_str] <;> rfl) ?_
   refine aF call194 ((c_node_IsName x) _ (by exact hgl)) (by simp [go_sem, hx, htl, hb, allSz_str] <;> rfl) (by simp [go_sem, hx, htl, hb, allSz_str]) ?_
   refine aL 2 (by simp [go_sem, hx, htl, hb, allSz_str] <;> rfl) ?_
   refine al_splitT 21 (by first | rfl | (simp [go_sem, hx, htl, hb, allSz_str] <;> rfl)) (fun h2 => ?_) (fun h2 => ?_)
   ·refine aK 4 21 false ?_
    refine aL 1 (by simp [go_sem, hx, htl, hb, allSz_str] <;> rfl) ?_
    refine al_nil ?_
    refine awp_cond (b := true) (by simp [go_sem, hx, htl, hb, allSz_str, h0, h1, h2]) (fun h => ?_) (fun h => ?_)
    rotate_left
    ·cases h
    refine awp_seq (aR (by simp [go_sem, hx, htl, hb, allSz_str] <;> rfl) ?_)
    refine awp_ret ?_
    refine then_ret ?_
    refine inBlock_ret ?_
    refine then_ret ?_
    refine then_ret ?_
    refine inBlock_ret ?_
    refine then_ret ?_
    refine ends_ret (by simp [go_sem] <;> rfl) (by simp [go_sem]) ?_
    have hs : names d = none := by rw [hn, hst]; simp only [Bool.not_true, hx, htl, hb, allSz_str, h0, h1, h2, bA, bB, bC, bD, bE, bF, bG, bH, bI, bJ, Bool.false_eq_true, if_true, if_false]
    exact ⟨by simp [go_sem, hs, encN], by simp [go_sem]⟩
   ·refine aLG 3 21 false (by simp [go_sem, hx, htl, hb, allSz_str] <;> rfl) ?_
    refine al_fnG 21 false false (by simp [go_sem]) rfl (by simp [go_sem]) rfl rfl (by simp [go_sem, hx, htl, hb, allSz_str] <;> rfl) call83 ((c_Contains (textsL (d.kids.take k)) (by omega) x.text) _ (by exact hgl)) (by simp [go_sem, hx, htl, hb, allSz_str] <;> rfl) (by simp [go_sem, hx, htl, hb, allSz_str]) rfl rfl ?_
    refine aL 1 (by simp [go_sem, hx, htl, hb, allSz_str] <;> rfl) ?_
    refine al_nil ?_
    refine awp_cond (by first | rfl | (simp [go_sem, hx, htl, hb, allSz_str] <;> rfl)) (fun h3 => ?_) (fun h3 => ?_)
    ·refine awp_seq ?_
     refine aR (by simp [go_sem, hx, htl, hb, allSz_str] <;> rfl) ?_
     refine awp_ret ?_
     refine then_ret ?_
     refine inBlock_ret ?_
     refine then_ret ?_
     refine then_ret ?_
     refine inBlock_ret ?_
     refine then_ret ?_
     refine ends_ret (by simp [go_sem] <;> rfl) (by simp [go_sem]) ?_
     have hs : names d = none := by rw [hn, hst]; simp only [Bool.not_true, hx, htl, hb, allSz_str, h0, h1, h2, h3, bA, bB, bC, bD, bE, bF, bG, bH, bI, bJ, Bool.false_eq_true, if_true, if_false]
     exact ⟨by simp [go_sem, hs, encN], by simp [go_sem]⟩
    ·refine awp_skip ?_
     refine aR (by simp [go_sem, hx, htl, hb, allSz_str] <;> rfl) ?_
     refine aR (by simp [go_sem, hx, htl, hb, allSz_str] <;> rfl) ?_
     exact next_intro (k + 1) σ.objs.length (σ.toks.length + 1) 1 (⟨hlt, by rw [hn, hst]; simp only [h0, h1, h2, h3, bA, bB, bC, bD, bE, bF, bG, bH, bI, bJ, Bool.false_eq_true, if_true, if_false]⟩) (by omega) ⟨by simp [go_sem, hx, htl, hb, allSz_str, hw, ht], rfl, by simp, by simp, by simp [go_sem, hx, htl, hb, allSz_str, hw, ht], fun ob h => .inl (by simpa [go_sem, hx, htl, hb, allSz_str, hw, ht] using h), by simp [go_sem]⟩
  ·have hke : k = d.kids.length := by simp at h1; omega
   subst hke
   have htl : (textsL (d.kids.take d.kids.length)) = textsL d.kids := by rw [List.take_length]
   refine awp_exit ?_
   refine then_exit ?_
   refine then_exit ?_
   refine inBlock_hit ?_
   refine awp_seq (aR (by simp [go_sem] <;> rfl) ?_)
   refine awp_ret ?_
   refine ends_ret (by simp [go_sem] <;> rfl) (by simp [go_sem]) ?_
   have hs : names d = some (textsL d.kids) := by rw [hn, namesGo_end, htl]
   exact ⟨by simp [go_sem, hs, encN, htl], by simp [go_sem]⟩

end Go.Proofs.YtnibcmaaehkhlaaGreatDoor

namespace Go.Proofs.YtnibcmaaehkhlaaGreatDoor
open Go Go.Aw
variable {kr : KR}
set_option maxHeartbeats 1000000 in
theorem c_Parts_1 (d : D) (po n cap oc : Nat) (c : Int) (σ : Store) (hgl : σ.gl = (GL kr)) (hn : n ≤ 1000000000) (hoc : σ.objs[oc]? = some (.box [.pv (.int .i64 c)])) : ACalls Tryz.prog 207 [.pv (enc d), .scr po n cap, .ptr oc 0] σ (EachR oc (stParts c n) σ) := by
 refine acalls_of tyOk Tryz.func207 rfl (by simp [Tryz.f207]) ?_
 refine awp_seq (aR (by simp [go_sem, hoc] <;> rfl) ?_)
 refine awp_seq (aR (by simp [go_sem, hoc] <;> rfl) ?_)
 refine awp_seq (aR (by simp [go_sem, hoc] <;> rfl) ?_)
 refine awp_ret ?_
 refine ends_ret (by simp [go_sem] <;> rfl) (by simp [go_sem]) ?_
 exact ⟨by simp [go_sem], by simp [setC, stParts, stDeep, go_sem]⟩

set_option maxHeartbeats 1000000 in
theorem c_Deep_1 (d : D) (po n cap oc : Nat) (c : Int) (σ : Store) (hgl : σ.gl = (GL kr)) (hn : n ≤ 1000000000) (hoc : σ.objs[oc]? = some (.box [.pv (.int .i64 c)])) : ACalls Tryz.prog 208 [.pv (enc d), .scr po n cap, .ptr oc 0] σ (EachR oc (stDeep c n) σ) := by
 refine acalls_of tyOk Tryz.func208 rfl (by simp [Tryz.f208]) ?_
 refine awp_seq (aR (by simp [go_sem, hoc] <;> rfl) ?_)
 refine awp_seq (aR (by simp [go_sem, hoc] <;> rfl) ?_)
 refine awp_seq (aR (by simp [go_sem, hoc] <;> rfl) ?_)
 refine awp_ret ?_
 refine ends_ret (by simp [go_sem] <;> rfl) (by simp [go_sem]) ?_
 exact ⟨by simp [go_sem], by simp [setC, stParts, stDeep, go_sem]⟩

set_option maxHeartbeats 1000000 in
theorem c_each (fy : FuncId) (hcy : Callable Tryz.prog fy) (st : Int → Nat → Int) (hy : ∀ (d : D) (po n cap oc : Nat) (c : Int) (σ : Store) (hgl : σ.gl = (GL kr)) (hn : n ≤ 1000000000) (hoc : σ.objs[oc]? = some (.box [.pv (.int .i64 c)])), ACalls Tryz.prog fy [.pv (enc d), .scr po n cap, .ptr oc 0] σ (EachR oc (st c n) σ)) (d : D) : ∀ (po n cap oc : Nat) (c : Int) (σ : Store) (hgl : σ.gl = (GL kr)) (hn : n + d.size ≤ 1000000000) (hp : PathAt σ (.scr po n cap) n) (hoc : σ.objs[oc]? = some (.box [.pv (.int .i64 c)])), ACalls Tryz.prog 206 [.pv (enc d), .scr po n cap, .func (.func fy) [.ptr oc 0]] σ (EachR oc (eachF st c n d) σ) := by
 induction d using D.ind with
 | _ kind num text kids ih =>
 generalize hD : D.mk kind num text kids = d at *
 have hk : d.kids = kids := by rw [← hD]; rfl
 clear hD
 subst hk
 have hkl := D.kids_length_lt d
 intro po n cap oc c σ hgl hn hp hoc
 have hol := (List.getElem?_eq_some_iff.1 hoc).1
 refine acalls_ofC tyOk Tryz.func206 rfl (by simp [Tryz.f206]) (by simp [go_sem]) fun hclo => ?_
 simp [go_sem] at hclo
 refine awp_seq (aR (by simp [go_sem, hclo, hol] <;> rfl) ?_)
 refine awp_seq (awp_seq (awp_reg ?_))
 refine aL 3 (by simp [go_sem, hclo, hol] <;> rfl) ?_
 refine al_callW rfl rfl rfl (by simp [go_sem, hclo, hol] <;> rfl) hcy (hy d po n cap oc c σ hgl (by omega) hoc) (by simp [go_sem, hclo, hol] <;> rfl) (by simp [go_sem, hclo, hol]) rfl rfl ?_
 rintro r σ' ⟨rfl, rfl⟩
 refine aL 1 (by simp [go_sem, hclo, hol] <;> rfl) ?_
 refine al_nil ?_
 refine awp_cond (b := false) (by simp [go_sem, hclo, hol]) (fun h => ?_) (fun h => ?_)
 ·cases h
 refine awp_skip ?_
 refine awp_seq (awp_seq (aR (by simp [go_sem, hclo, hol] <;> rfl) ?_))
 refine awp_block ?_
 refine awp_loop_headK σ.objs.length σ.toks.length 1 [1, 2, 6, 15, 16] (fun k : Nat => [(17, .pv (.int .i64 ↑k))]) (fun k => setC σ oc (eachFs st (st c n) (n + 1) (d.kids.take k))) (fun k => k ≤ d.kids.length) (fun k => d.kids.length - k) 0 (Nat.zero_le _) ⟨by show setC σ oc _ = _; rw [List.take_zero, eachFs]; exact setC_cut.symm, rfl, by simp, by simp, by simp [go_sem, hclo, hol], fun ob h => setC_mem h _ _ _, by simp [go_sem]⟩ ?_
 intro k hk
 refine awp_seq (aR (by simp [go_sem, hclo, hol] <;> rfl) ?_)
 refine awp_seq (awp_cond (by first | rfl | (simp [go_sem, hclo, hol] <;> rfl)) (fun h0 => ?_) (fun h0 => ?_))
 ·have hlt : k < d.kids.length := by simp at h0; omega
  have hw : IntKind.i64.wrap (↑k + 1) = (k : Int) + 1 := wrap_succ (by omega)
  obtain ⟨x, hx, hxm⟩ := get_lt hlt
  have hxs := D.size_kid_lt hxm
  have ht : eachFs st (st c n) (n + 1) (d.kids.take (k + 1)) = eachF st (eachFs st (st c n) (n + 1) (d.kids.take k)) (n + 1) x := by rw [take_next hx, eachFs_snoc]
  have hbn : (n + 1) * 8 ≤ 140737488355328 := by omega
  refine awp_skip ?_
  refine awp_seq (awp_block ?_)
  refine awp_seq (aR (by simp [go_sem, hclo, hol, hx] <;> rfl) ?_)
  refine awp_seq (awp_regDP tyOk tySz 6 (by kernel_rfl) (by decide) ?_)
  refine ul_run 4 (by simp [go_sem, hclo, hol, hx] <;> rfl) ?_
  refine ul_path rfl (by simp [go_sem, hbn] <;> rfl) rfl (PathAt.setC hp hoc) ?_
  rintro x' objs' hobjs hpx
  obtain ⟨po', cap', rfl⟩ := hpx.scr
  refine ul_run 1 (by simp [go_sem, hclo, hol, hx] <;> rfl) ?_
  refine ul_nil ?_
  refine al_callW rfl rfl rfl (by simp [go_sem, hclo, hol, hx] <;> rfl) call206 (ih x hxm po' (n + 1) cap' oc _ _ (by exact hgl) (by omega) hpx (path_get hobjs (setC_get hoc))) (by simp [go_sem, hclo, hol, hx] <;> rfl) (by simp [go_sem, hclo, hol, hx]) rfl rfl ?_
  rintro r σ' ⟨rfl, rfl⟩
  refine aL 1 (by simp [go_sem, hclo, hol, hx] <;> rfl) ?_
  refine al_nil ?_
  refine awp_cond (b := false) (by simp [go_sem, hclo, hol, hx, h0]) (fun h => ?_) (fun h => ?_)
  ·cases h
  refine awp_skip ?_
  refine aR (by simp [go_sem, hclo, hol, hx] <;> rfl) ?_
  exact next_intro (k + 1) σ.objs.length σ.toks.length 1 (hlt) (by omega) ⟨by show setC σ oc _ = _; rw [ht]; exact (setC_path hol hobjs).symm, rfl, by simp, by simp, by simp [go_sem, hclo, hol, hx, hw], fun ob h => setC_mem h _ _ _, by simp [go_sem]⟩
 ·have hke : k = d.kids.length := by simp at h0; omega
  subst hke
  have hta : d.kids.take d.kids.length = d.kids := List.take_length
  refine awp_exit ?_
  refine then_exit ?_
  refine then_exit ?_
  refine inBlock_hit ?_
  refine awp_seq (aR (by simp [go_sem, hclo, hol] <;> rfl) ?_)
  refine awp_ret ?_
  refine ends_ret (by simp [go_sem] <;> rfl) (by simp [go_sem]) ?_
  exact ⟨by simp [go_sem], by simp [go_sem, eachF_eq, hta]⟩

set_option maxHeartbeats 1000000 in
theorem c_datum_Parts (d : D) (hd : d.size ≤ 1000000000) : Pur Tryz.prog (GL kr) 131 [.pv (enc d)] (.pv (.int .i64 d.size)) := by
 refine pur_of fun σ hgl => ?_
 refine acalls_of tyOk Tryz.func131 rfl (by simp [Tryz.f131]) ?_
 refine awp_seq (aR (by simp [go_sem] <;> rfl) ?_)
 refine awp_seq (awp_region_run (sh := [3]) tyOk (by simp [go_sem] <;> rfl) ?_)
 refine awp_seq (awp_reg ?_)
 refine aL 2 (by simp [go_sem] <;> rfl) ?_
 refine al_callW rfl rfl rfl (by simp [go_sem] <;> rfl) call206 (c_each 207 call207 stParts (fun d po n cap oc c σ hgl hn hoc => c_Parts_1 d po n cap oc c σ hgl hn hoc) d 0 0 0 σ.objs.length 0 _ (by exact hgl) (by omega) (.inl ⟨0, rfl, rfl⟩) (by simp [go_sem])) (by simp [go_sem] <;> rfl) (by simp [go_sem]) rfl rfl ?_
 rintro r σ' ⟨rfl, rfl⟩
 refine al_nil ?_
 refine awp_seq (aR (by simp [go_sem, setC_new_get, setC_new_cut] <;> rfl) ?_)
 refine awp_ret ?_
 have hv : eachF stParts 0 0 d = (d.size : Int) := by have := eachF_parts d 0 0 (by omega); simpa using this
 refine ends_ret (by simp [go_sem, setC_new_get] <;> rfl) (by simp [go_sem]) ?_
 exact ⟨by simp [go_sem]; exact hv, setC_new_cut⟩

set_option maxHeartbeats 1000000 in
theorem c_datum_Deep (d : D) (hd : d.size ≤ 1000000000) : Pur Tryz.prog (GL kr) 132 [.pv (enc d)] (.pv (.int .i64 d.deep)) := by
 have hdd := D.deep_le_size d
 refine pur_of fun σ hgl => ?_
 refine acalls_of tyOk Tryz.func132 rfl (by simp [Tryz.f132]) ?_
 refine awp_seq (aR (by simp [go_sem] <;> rfl) ?_)
 refine awp_seq (awp_region_run (sh := [3]) tyOk (by simp [go_sem] <;> rfl) ?_)
 refine awp_seq (awp_reg ?_)
 refine aL 2 (by simp [go_sem] <;> rfl) ?_
 refine al_callW rfl rfl rfl (by simp [go_sem] <;> rfl) call206 (c_each 208 call208 stDeep (fun d po n cap oc c σ hgl hn hoc => c_Deep_1 d po n cap oc c σ hgl hn hoc) d 0 0 0 σ.objs.length 0 _ (by exact hgl) (by omega) (.inl ⟨0, rfl, rfl⟩) (by simp [go_sem])) (by simp [go_sem] <;> rfl) (by simp [go_sem]) rfl rfl ?_
 rintro r σ' ⟨rfl, rfl⟩
 refine al_nil ?_
 refine awp_seq (aR (by simp [go_sem, setC_new_get, setC_new_cut] <;> rfl) ?_)
 refine awp_ret ?_
 have hv : eachF stDeep 0 0 d = (d.deep : Int) := by have := eachF_deep d 0 0 (by omega); simpa using this
 refine ends_ret (by simp [go_sem, setC_new_get] <;> rfl) (by simp [go_sem]) ?_
 exact ⟨by simp [go_sem]; exact hv, setC_new_cut⟩

set_option maxHeartbeats 1000000 in
theorem c_datum_Check (d : D) (hd : d.size ≤ 1000000000) : Pur Tryz.prog (GL kr) 63 [.pv (enc d)] (.pv (.int .i64 (dcheck d))) := by
 refine pur_of fun σ hgl => ?_
 refine acalls_of tyOk Tryz.func63 rfl (by simp [Tryz.f63]) ?_
 refine awp_seq (aR (by simp [go_sem] <;> rfl) ?_)
 refine awp_seq (awp_block ?_)
 refine awp_seq (awp_reg ?_)
 refine aL 1 (by simp [go_sem] <;> rfl) ?_
 refine aF call130 ((c_datum_formed d hd) _ (by exact hgl)) (by simp [go_sem] <;> rfl) (by simp [go_sem]) ?_
 refine aL 2 (by simp [go_sem] <;> rfl) ?_
 refine al_nil ?_
 refine awp_cond (by first | rfl | (simp [go_sem] <;> rfl)) (fun h0 => ?_) (fun h0 => ?_)
 ·refine awp_seq ?_
  refine aR (by simp [go_sem] <;> rfl) ?_
  refine awp_ret ?_
  refine inBlock_ret ?_
  refine then_ret ?_
  refine ends_ret (by simp [go_sem] <;> rfl) (by simp [go_sem]) ?_
  exact ⟨by simp only [dcheck, h0, bA, bB, bC, bD, bE, bF, bG, bH, bI, bJ, Bool.false_eq_true, if_true, if_false]; simp [go_sem], by simp [go_sem]⟩
 ·refine awp_seq ?_
  refine awp_reg ?_
  refine aL 1 (by simp [go_sem] <;> rfl) ?_
  refine aF call131 ((c_datum_Parts d hd) _ (by exact hgl)) (by simp [go_sem] <;> rfl) (by simp [go_sem]) ?_
  refine aL 2 (by simp [go_sem] <;> rfl) ?_
  refine al_splitT 11 (by first | rfl | (simp [go_sem] <;> rfl)) (fun h1 => ?_) (fun h1 => ?_)
  ·refine aK 3 11 false ?_
   refine aL 2 (by simp [go_sem] <;> rfl) ?_
   refine al_nil ?_
   refine awp_cond (b := true) (by simp [go_sem, h0, h1]) (fun h => ?_) (fun h => ?_)
   rotate_left
   ·cases h
   refine awp_seq (aR (by simp [go_sem] <;> rfl) ?_)
   refine awp_ret ?_
   refine inBlock_ret ?_
   refine then_ret ?_
   refine ends_ret (by simp [go_sem] <;> rfl) (by simp [go_sem]) ?_
   exact ⟨by simp only [dcheck, h0, h1, bA, bB, bC, bD, bE, bF, bG, bH, bI, bJ, Bool.false_eq_true, if_true, if_false]; simp [go_sem], by simp [go_sem]⟩
  ·refine aLG 1 11 false (by simp [go_sem] <;> rfl) ?_
   refine al_fnG 11 false false (by simp [go_sem]) rfl (by simp [go_sem]) rfl rfl (by simp [go_sem] <;> rfl) call132 ((c_datum_Deep d hd) _ (by exact hgl)) (by simp [go_sem] <;> rfl) (by simp [go_sem]) rfl rfl ?_
   refine aLG 1 11 false (by simp [go_sem] <;> rfl) ?_
   refine aL 2 (by simp [go_sem] <;> rfl) ?_
   refine al_nil ?_
   refine awp_cond (by first | rfl | (simp [go_sem] <;> rfl)) (fun h2 => ?_) (fun h2 => ?_)
   ·refine awp_seq ?_
    refine aR (by simp [go_sem] <;> rfl) ?_
    refine awp_ret ?_
    refine inBlock_ret ?_
    refine then_ret ?_
    refine ends_ret (by simp [go_sem] <;> rfl) (by simp [go_sem]) ?_
    exact ⟨by simp only [dcheck, h0, h1, h2, bA, bB, bC, bD, bE, bF, bG, bH, bI, bJ, Bool.false_eq_true, if_true, if_false]; simp [go_sem], by simp [go_sem]⟩
   ·refine awp_skip ?_
    refine awp_seq (aR (by simp [go_sem] <;> rfl) ?_)
    refine awp_ret ?_
    refine ends_ret (by simp [go_sem] <;> rfl) (by simp [go_sem]) ?_
    exact ⟨by simp only [dcheck, h0, h1, h2, bA, bB, bC, bD, bE, bF, bG, bH, bI, bJ, Bool.false_eq_true, if_true, if_false]; simp [go_sem], by simp [go_sem]⟩

end Go.Proofs.YtnibcmaaehkhlaaGreatDoor

namespace Go.Proofs.YtnibcmaaehkhlaaGreatDoor
open Go Go.Aw
variable {kr : KR}
theorem look_par {s : St} {om : Nat} {ps : List (D × Int)} (ho : s.σ.objs[om]? = some (.map (mapK ps) (mapV pint ps))) (d : D) :
    lookAV ty s 139 (.map om) (.pv (keyPV d)) true = some (.tuple [.pv (.int .i64 (kpar ps d).1), .pv (.bool (kpar ps d).2)]) := by
  rw [look_map (f := pint) rfl rfl rfl rfl rfl ho]
  unfold kpar
  cases kget ps d <;> rfl

theorem put_par {s : St} {om : Nat} {ps : List (D × Int)} (ho : s.σ.objs[om]? = some (.map (mapK ps) (mapV pint ps))) (d : D) (v : Int) :
    putAV ty s 139 (.map om) (.pv (keyPV d)) (.pv (.int .i64 v)) = some { s.σ with objs := s.σ.objs.set om (.map (mapK (kset ps d v)) (mapV pint (kset ps d v))) } :=
  put_map (f := pint) rfl rfl rfl rfl ho d v rfl

set_option maxHeartbeats 1000000 in
theorem c_all (σ : Store) (hgl : σ.gl = (GL kr)) (oc : Nat) (ps : List (D × Int)) (b : List ByteArray) (l : List D) (hl : l.length ≤ 1000000000) (hE : ∀ x, x ∈ l → PurAt Tryz.prog σ 123 [.ptr oc 0, .pv (enc x), .pv (.slice (b.map .str))] (.pv (.int .i64 (cexpr ps b x)))) : PurAt Tryz.prog σ 195 [.ptr oc 0, .pv (.slice (l.map enc)), .pv (.slice (b.map .str))] (.pv (.int .i64 (cll ps b l))) := by
 refine purAt_of ?_
 refine acalls_ofC tyOk Tryz.func195 rfl (by simp [Tryz.f195]) (by simp [go_sem]) fun hclo => ?_
 simp [go_sem] at hclo
 refine awp_seq (aR (by simp [go_sem, hclo] <;> rfl) ?_)
 refine awp_seq (awp_seq (aR (by simp [go_sem, hclo] <;> rfl) ?_))
 refine awp_block ?_
 refine awp_loop_headK σ.objs.length σ.toks.length 0 [0, 2, 6, 10, 11] (fun k : Nat => [(12, .pv (.int .i64 ↑k))]) (fun k => σ) (fun k => k ≤ l.length ∧ cll ps b l = cll ps b (l.drop k)) (fun k => l.length - k) 0 (⟨Nat.zero_le _, rfl⟩) ⟨by simp [go_sem, hclo], rfl, by simp, by simp, by simp [go_sem, hclo], fun ob h => .inl (by simpa [go_sem, hclo] using h), by simp [go_sem]⟩ ?_
 rintro k ⟨hk, hn⟩
 refine awp_seq (aR (by simp [go_sem, hclo] <;> rfl) ?_)
 refine awp_seq (awp_cond (by first | rfl | (simp [go_sem, hclo] <;> rfl)) (fun h0 => ?_) (fun h0 => ?_))
 ·have hlt : k < l.length := by simp at h0; omega
  have hw : IntKind.i64.wrap (↑k + 1) = (k : Int) + 1 := wrap_succ (by omega)
  obtain ⟨x, hx, hxm⟩ := get_lt hlt
  have hst : cll ps b l = if (cexpr ps b x != 0) = true then cexpr ps b x else cll ps b (l.drop (k + 1)) := by rw [hn, drop_cons hx, cll_cons]
  refine awp_skip ?_
  refine awp_seq (awp_block ?_)
  refine awp_seq (aR (by simp [go_sem, hclo, hx] <;> rfl) ?_)
  refine awp_seq (awp_reg ?_)
  refine aL 3 (by simp [go_sem, hclo, hx] <;> rfl) ?_
  refine aF call123 (hE x hxm) (by simp [go_sem, hclo, hx] <;> rfl) (by simp [go_sem, hclo, hx]) ?_
  refine aL 1 (by simp [go_sem, hclo, hx] <;> rfl) ?_
  refine al_nil ?_
  refine awp_seq (aR (by simp [go_sem, hclo, hx] <;> rfl) ?_)
  refine awp_cond (by first | rfl | (simp [go_sem, hclo, hx] <;> rfl)) (fun h1 => ?_) (fun h1 => ?_)
  ·refine awp_seq ?_
   refine aR (by simp [go_sem, hclo, hx] <;> rfl) ?_
   refine awp_ret ?_
   refine inBlock_ret ?_
   refine then_ret ?_
   refine then_ret ?_
   refine inBlock_ret ?_
   refine then_ret ?_
   refine ends_ret (by simp [go_sem] <;> rfl) (by simp [go_sem]) ?_
   have hs : cll ps b l = cexpr ps b x := by rw [hst]; simp only [Bool.not_true, hclo, hx, h0, h1, bA, bB, bC, bD, bE, bF, bG, bH, bI, bJ, Bool.false_eq_true, if_true, if_false]
   exact ⟨by simp [go_sem, hs], by simp [go_sem]⟩
  ·refine awp_skip ?_
   refine aR (by simp [go_sem, hclo, hx] <;> rfl) ?_
   exact next_intro (k + 1) σ.objs.length σ.toks.length 0 (⟨hlt, by rw [hst]; simp only [h0, h1, bA, bB, bC, bD, bE, bF, bG, bH, bI, bJ, Bool.false_eq_true, if_true, if_false]⟩) (by omega) ⟨by simp [go_sem, hclo, hx, hw], rfl, by simp, by simp, by simp [go_sem, hclo, hx, hw], fun ob h => .inl (by simpa [go_sem, hclo, hx, hw] using h), by simp [go_sem]⟩
 ·have hke : k = l.length := by simp at h0; omega
  subst hke
  have hz : cll ps b l = 0 := by rw [hn, List.drop_length]; rfl
  refine awp_exit ?_
  refine then_exit ?_
  refine then_exit ?_
  refine inBlock_hit ?_
  refine awp_seq (aR (by simp [go_sem, hclo] <;> rfl) ?_)
  refine awp_ret ?_
  refine ends_ret (by simp [go_sem] <;> rfl) (by simp [go_sem]) ?_
  exact ⟨by simp [go_sem, hz], by simp [go_sem]⟩

set_option maxHeartbeats 1000000 in
theorem c_call (σ : Store) (hgl : σ.gl = (GL kr)) (oc : Nat) (ps : List (D × Int)) (b : List ByteArray) (om : Nat) (hck : CkAt σ oc om ps) (l : List D) (hl : l.length ≤ 1000000000) (hE : ∀ x, x ∈ l → PurAt Tryz.prog σ 123 [.ptr oc 0, .pv (enc x), .pv (.slice (b.map .str))] (.pv (.int .i64 (cexpr ps b x)))) : PurAt Tryz.prog σ 197 [.ptr oc 0, .pv (.slice (l.map enc)), .pv (.slice (b.map .str))] (.pv (.int .i64 (ccall ps b l))) := by
 obtain ⟨hoc, hom⟩ := hck
 refine purAt_of ?_
 refine acalls_of tyOk Tryz.func197 rfl (by simp [Tryz.f197]) ?_
 refine awp_seq (aR (by simp [go_sem, hoc] <;> rfl) ?_)
 refine awp_seq (awp_seq (awp_reg ?_))
 refine aL 4 (by simp [go_sem, hoc] <;> rfl) ?_
 refine al_splitT 12 (by first | rfl | (simp [go_sem, hoc] <;> rfl)) (fun h0 => ?_) (fun h0 => ?_)
 ·refine aK 5 12 false ?_
  refine aL 1 (by simp [go_sem, hoc] <;> rfl) ?_
  refine al_nil ?_
  refine awp_cond (b := true) (by simp [go_sem, hoc, h0]) (fun h => ?_) (fun h => ?_)
  rotate_left
  ·cases h
  refine awp_seq (aR (by simp [go_sem, hoc] <;> rfl) ?_)
  refine awp_ret ?_
  refine then_ret ?_
  refine ends_ret (by simp [go_sem, hoc] <;> rfl) (by simp [go_sem]) ?_
  exact ⟨by simp only [ccall, hoc, h0, bA, bB, bC, bD, bE, bF, bG, bH, bI, bJ, Bool.false_eq_true, if_true, if_false]; simp [go_sem], by simp [go_sem]⟩
 ·have h2l : (2 : Int) ≤ l.length := by simp at h0; omega
  obtain ⟨x1, hx1, hx1m⟩ := get_lt (l := l) (k := 1) (by omega)
  have hg1 : l.getD 1 dnone = x1 := by simp [List.getD, hx1]
  have hwr : IntKind.i64.wrap ((l.length : Int) - 2) = l.length - 2 := wrap_id (by omega) (by omega)
  refine aLG 3 12 false (by simp [go_sem, hoc, h2l, hx1, hwr] <;> rfl) ?_
  refine al_fnG 12 false false (by simp [go_sem]) rfl (by simp [go_sem]) rfl rfl (by simp [go_sem, hoc, h2l, hx1, hwr] <;> rfl) call238 ((c_node_Label x1) _ (by exact hgl)) (by simp [go_sem, hoc, h2l, hx1, hwr] <;> rfl) (by simp [go_sem, hoc, h2l, hx1, hwr]) rfl rfl ?_
  refine aLG 1 12 false (by simp [go_sem, hoc, h2l, hx1, hwr] <;> rfl) ?_
  refine aL 1 (by simp [go_sem, hoc, h2l, hx1, hwr] <;> rfl) ?_
  refine al_nil ?_
  refine awp_cond (by first | rfl | (simp [go_sem, hoc, h2l, hx1, hwr] <;> rfl)) (fun h1 => ?_) (fun h1 => ?_)
  ·refine awp_seq ?_
   refine aR (by simp [go_sem, hoc, h2l, hx1, hwr] <;> rfl) ?_
   refine awp_ret ?_
   refine then_ret ?_
   refine ends_ret (by simp [go_sem, hoc, h2l, hx1, hwr] <;> rfl) (by simp [go_sem]) ?_
   exact ⟨by simp only [ccall, hoc, h2l, hx1, hwr, h0, hg1, h1, bA, bB, bC, bD, bE, bF, bG, bH, bI, bJ, Bool.false_eq_true, if_true, if_false]; simp [go_sem], by simp [go_sem]⟩
  ·refine awp_skip ?_
   refine awp_seq ?_
   have hlk := fun (s : St) (d : D) (ho : s.σ.objs[om]? = some (.map (mapK ps) (mapV pint ps))) => look_par ho d
   refine awp_regDP tyOk tySz 13 (by kernel_rfl) (by decide) ?_
   refine ul_run 7 (by simp [go_sem, hoc, h2l, hx1, hwr, hom, hlk] <;> rfl) ?_
   refine ul_fn (by first | (intro _ _ hh; exact hh) | simp [go_sem]) rfl rfl rfl rfl (by simp [go_sem, hoc, h2l, hx1, hwr, hom, hlk] <;> rfl) call127 ((c_flat_keyOf x1) _ (by exact hgl)) (by simp [go_sem, hoc, h2l, hx1, hwr, hom, hlk] <;> rfl) (by simp [go_sem, hoc, h2l, hx1, hwr, hom, hlk]) rfl rfl ?_
   refine ul_run 5 (by simp [go_sem, hoc, h2l, hx1, hwr, hom, hlk] <;> rfl) ?_
   refine ul_nil ?_
   refine aL 1 (by simp [go_sem, hoc, h2l, hx1, hwr, hom, hlk] <;> rfl) ?_
   refine al_nil ?_
   refine awp_seq (awp_block ?_)
   refine awp_seq (aR (by simp [go_sem, hoc, h2l, hx1, hwr, hom, hlk] <;> rfl) ?_)
   refine awp_cond (by first | rfl | (simp [go_sem, hoc, h2l, hx1, hwr, hom, hlk] <;> rfl)) (fun h2 => ?_) (fun h2 => ?_)
   ·refine awp_seq ?_
    refine aR (by simp [go_sem, hoc, h2l, hx1, hwr, hom, hlk] <;> rfl) ?_
    refine awp_ret ?_
    refine inBlock_ret ?_
    refine then_ret ?_
    refine ends_ret (by simp [go_sem, hoc, h2l, hx1, hwr, hom, hlk] <;> rfl) (by simp [go_sem]) ?_
    exact ⟨by simp only [ccall, hoc, h2l, hx1, hwr, hom, hlk, h0, hg1, h1, h2, bA, bB, bC, bD, bE, bF, bG, bH, bI, bJ, Bool.false_eq_true, if_true, if_false]; simp [go_sem], by simp [go_sem]⟩
   ·refine awp_seq ?_
    refine aR (by simp [go_sem, hoc, h2l, hx1, hwr, hom, hlk] <;> rfl) ?_
    refine awp_cond (by first | rfl | (simp [go_sem, hoc, h2l, hx1, hwr, hom, hlk] <;> rfl)) (fun h3 => ?_) (fun h3 => ?_)
    ·refine awp_seq ?_
     refine aR (by simp [go_sem, hoc, h2l, hx1, hwr, hom, hlk] <;> rfl) ?_
     refine awp_ret ?_
     refine inBlock_ret ?_
     refine then_ret ?_
     refine ends_ret (by simp [go_sem, hoc, h2l, hx1, hwr, hom, hlk] <;> rfl) (by simp [go_sem]) ?_
     exact ⟨by simp only [ccall, hoc, h2l, hx1, hwr, hom, hlk, h0, hg1, h1, h2, h3, bA, bB, bC, bD, bE, bF, bG, bH, bI, bJ, Bool.false_eq_true, if_true, if_false]; simp [go_sem], by simp [go_sem]⟩
    ·refine awp_skip ?_
     refine awp_seq (awp_reg ?_)
     refine aL 4 (by simp [go_sem, hoc, h2l, hx1, hwr, hom, hlk] <;> rfl) ?_
     refine aF call195 (c_all σ hgl oc ps b (l.drop 2) (by simp; omega) (fun x hx => hE x (List.mem_of_mem_drop hx))) (by simp [go_sem, hoc, h2l, hx1, hwr, hom, hlk] <;> rfl) (by simp [go_sem, hoc, h2l, hx1, hwr, hom, hlk, List.map_drop]) ?_
     refine aL 1 (by simp [go_sem, hoc, h2l, hx1, hwr, hom, hlk] <;> rfl) ?_
     refine al_nil ?_
     refine awp_ret ?_
     refine ends_ret (by simp [go_sem, hoc, h2l, hx1, hwr, hom, hlk] <;> rfl) (by simp [go_sem]) ?_
     exact ⟨by simp only [ccall, hoc, h2l, hx1, hwr, hom, hlk, h0, hg1, h1, h2, h3, bA, bB, bC, bD, bE, bF, bG, bH, bI, bJ, Bool.false_eq_true, if_true, if_false]; simp [go_sem], by simp [go_sem]⟩

set_option maxHeartbeats 1000000 in
theorem c_expr (oc om : Nat) (ps : List (D × Int)) (d : D) : ∀ (b : List ByteArray) (σ : Store) (hgl : σ.gl = (GL kr)) (hck : CkAt σ oc om ps) (hb : b.length + d.size ≤ 1000000000), PurAt Tryz.prog σ 123 [.ptr oc 0, .pv (enc d), .pv (.slice (b.map .str))] (.pv (.int .i64 (cexpr ps b d))) := by
 induction d using D.ind with
 | _ kind num text kids ih =>
 generalize hD : D.mk kind num text kids = d at *
 have hk : d.kids = kids := by rw [← hD]; rfl
 clear hD
 subst hk
 have hkl := D.kids_length_lt d
 intro b σ hgl hck hb
 refine purAt_of ?_
 refine acalls_of tyOk Tryz.func123 rfl (by simp [Tryz.f123]) ?_
 refine awp_seq (aR (by simp [go_sem] <;> rfl) ?_)
 refine awp_seq (awp_block ?_)
 refine awp_seq (aR (by simp [go_sem] <;> rfl) ?_)
 refine awp_cond (by first | rfl | (simp [go_sem] <;> rfl)) (fun h0 => ?_) (fun h0 => ?_)
 ·refine awp_seq ?_
  refine aR (by simp [go_sem] <;> rfl) ?_
  refine awp_ret ?_
  refine inBlock_ret ?_
  refine then_ret ?_
  refine ends_ret (by simp [go_sem] <;> rfl) (by simp [go_sem]) ?_
  exact ⟨by rw [cexpr_eq ps b d]; simp only [Bool.not_true, h0, bA, bB, bC, bD, bE, bF, bG, bH, bI, bJ, Bool.false_eq_true, if_true, if_false, sQuote, sIf, sLet, sCall, bne_self_eq_false]; simp [go_sem], by simp [go_sem]⟩
 ·refine awp_seq ?_
  refine awp_reg ?_
  refine aL 4 (by simp [go_sem] <;> rfl) ?_
  refine al_splitT 19 (by first | rfl | (simp [go_sem] <;> rfl)) (fun h1 => ?_) (fun h1 => ?_)
  ·refine aLG 1 19 true (by simp [go_sem] <;> rfl) ?_
   refine al_fnG 19 true true (by simp [go_sem]) rfl (by simp [go_sem]) rfl rfl (by simp [go_sem] <;> rfl) call194 ((c_node_IsName d) _ (by exact hgl)) (by simp [go_sem] <;> rfl) (by simp [go_sem]) rfl rfl ?_
   refine aLG 1 19 true (by simp [go_sem] <;> rfl) ?_
   refine aL 2 (by simp [go_sem] <;> rfl) ?_
   refine al_nil ?_
   refine awp_cond (by first | rfl | (simp [go_sem] <;> rfl)) (fun h2 => ?_) (fun h2 => ?_)
   ·refine awp_seq ?_
    refine aR (by simp [go_sem] <;> rfl) ?_
    refine awp_ret ?_
    refine inBlock_ret ?_
    refine then_ret ?_
    refine ends_ret (by simp [go_sem] <;> rfl) (by simp [go_sem]) ?_
    exact ⟨by rw [cexpr_eq ps b d]; simp only [Bool.not_true, h0, h1, h2, bA, bB, bC, bD, bE, bF, bG, bH, bI, bJ, Bool.false_eq_true, if_true, if_false, sQuote, sIf, sLet, sCall, bne_self_eq_false]; simp [go_sem], by simp [go_sem]⟩
   ·refine awp_seq ?_
    refine awp_reg ?_
    refine aL 4 (by simp [go_sem] <;> rfl) ?_
    refine al_splitT 28 (by first | rfl | (simp [go_sem] <;> rfl)) (fun h3 => ?_) (fun h3 => ?_)
    ·refine aLG 3 28 true (by simp [go_sem] <;> rfl) ?_
     refine al_fnG 28 true true (by simp [go_sem]) rfl (by simp [go_sem]) rfl rfl (by simp [go_sem] <;> rfl) call83 ((c_Contains b (by omega) d.text) _ (by exact hgl)) (by simp [go_sem] <;> rfl) (by simp [go_sem]) rfl rfl ?_
     refine aLG 1 28 true (by simp [go_sem] <;> rfl) ?_
     refine aL 2 (by simp [go_sem] <;> rfl) ?_
     refine al_nil ?_
     refine awp_cond (by first | rfl | (simp [go_sem] <;> rfl)) (fun h4 => ?_) (fun h4 => ?_)
     ·refine awp_seq ?_
      refine aR (by simp [go_sem] <;> rfl) ?_
      refine awp_ret ?_
      refine inBlock_ret ?_
      refine then_ret ?_
      refine ends_ret (by simp [go_sem] <;> rfl) (by simp [go_sem]) ?_
      exact ⟨by rw [cexpr_eq ps b d]; simp only [Bool.not_true, h0, h1, h2, h3, h4, bA, bB, bC, bD, bE, bF, bG, bH, bI, bJ, Bool.false_eq_true, if_true, if_false, sQuote, sIf, sLet, sCall, bne_self_eq_false]; simp [go_sem], by simp [go_sem]⟩
     ·refine awp_seq ?_
      refine aR (by simp [go_sem] <;> rfl) ?_
      refine awp_cond (by first | rfl | (simp [go_sem] <;> rfl)) (fun h5 => ?_) (fun h5 => ?_)
      ·refine awp_seq ?_
       refine aR (by simp [go_sem] <;> rfl) ?_
       refine awp_ret ?_
       refine inBlock_ret ?_
       refine then_ret ?_
       refine ends_ret (by simp [go_sem] <;> rfl) (by simp [go_sem]) ?_
       exact ⟨by rw [cexpr_eq ps b d]; simp only [Bool.not_true, h0, h1, h2, h3, h4, h5, bA, bB, bC, bD, bE, bF, bG, bH, bI, bJ, Bool.false_eq_true, if_true, if_false, sQuote, sIf, sLet, sCall, bne_self_eq_false]; simp [go_sem], by simp [go_sem]⟩
      ·exact nomatch h1.symm.trans h5
    ·exact nomatch h1.symm.trans h3
  ·refine aK 3 19 true ?_
   refine aL 2 (by simp [go_sem] <;> rfl) ?_
   refine al_nil ?_
   refine awp_cond (b := false) (by simp [go_sem, h0, h1]) (fun h => ?_) (fun h => ?_)
   ·cases h
   refine awp_seq (awp_reg ?_)
   refine aL 4 (by simp [go_sem] <;> rfl) ?_
   refine al_splitT 28 (by first | rfl | (simp [go_sem] <;> rfl)) (fun h6 => ?_) (fun h6 => ?_)
   ·exact nomatch h6.symm.trans h1
   ·refine aK 5 28 true ?_
    refine aL 2 (by simp [go_sem] <;> rfl) ?_
    refine al_nil ?_
    refine awp_cond (b := false) (by simp [go_sem, h0, h1, h6]) (fun h => ?_) (fun h => ?_)
    ·cases h
    refine awp_seq (aR (by simp [go_sem] <;> rfl) ?_)
    refine awp_cond (by first | rfl | (simp [go_sem] <;> rfl)) (fun h7 => ?_) (fun h7 => ?_)
    ·exact nomatch h7.symm.trans h1
    ·refine awp_seq ?_
     refine awp_reg ?_
     refine aL 5 (by simp [go_sem] <;> rfl) ?_
     refine al_splitT 44 (by first | rfl | (simp [go_sem] <;> rfl)) (fun h8 => ?_) (fun h8 => ?_)
     ·refine aK 6 44 false ?_
      refine aL 2 (by simp [go_sem] <;> rfl) ?_
      refine al_nil ?_
      refine awp_cond (b := true) (by simp [go_sem, h0, h1, h6, h7, h8]) (fun h => ?_) (fun h => ?_)
      rotate_left
      ·cases h
      refine awp_seq (aR (by simp [go_sem] <;> rfl) ?_)
      refine awp_ret ?_
      refine inBlock_ret ?_
      refine then_ret ?_
      refine ends_ret (by simp [go_sem] <;> rfl) (by simp [go_sem]) ?_
      exact ⟨by rw [cexpr_eq ps b d]; simp only [Bool.not_true, h0, h1, h6, h7, h8, bA, bB, bC, bD, bE, bF, bG, bH, bI, bJ, Bool.false_eq_true, if_true, if_false, sQuote, sIf, sLet, sCall, bne_self_eq_false]; simp [go_sem], by simp [go_sem]⟩
     ·have hl1 : (1 : Int) ≤ d.kids.length := by have := h8; simp only [beq_eq_false_iff_ne] at this; omega
      obtain ⟨x, hx0, hx0m⟩ := get_lt (l := d.kids) (k := 0) (by omega)
      have hh := D.head_of hx0
      have hwr : IntKind.i64.wrap ((d.kids.length : Int) - 1) = d.kids.length - 1 := wrap_id (by omega) (by omega)
      refine aLG 6 44 false (by simp [go_sem, hx0, hl1, hwr] <;> rfl) ?_
      refine aL 2 (by simp [go_sem, hx0, hl1, hwr] <;> rfl) ?_
      refine al_nil ?_
      refine awp_cond (by first | rfl | (simp [go_sem, hx0, hl1, hwr] <;> rfl)) (fun h9 => ?_) (fun h9 => ?_)
      ·refine awp_seq ?_
       refine aR (by simp [go_sem, hx0, hl1, hwr] <;> rfl) ?_
       refine awp_ret ?_
       refine inBlock_ret ?_
       refine then_ret ?_
       refine ends_ret (by simp [go_sem, hx0, hl1, hwr] <;> rfl) (by simp [go_sem]) ?_
       exact ⟨by rw [cexpr_eq ps b d]; simp only [Bool.not_true, hx0, hl1, hwr, h0, h1, h6, h7, h8, hh, h9, bA, bB, bC, bD, bE, bF, bG, bH, bI, bJ, Bool.false_eq_true, if_true, if_false, sQuote, sIf, sLet, sCall, bne_self_eq_false]; simp [go_sem], by simp [go_sem]⟩
      ·refine awp_skip ?_
       refine awp_seq (awp_seq (aR (by simp [go_sem, hx0, hl1, hwr] <;> rfl) ?_))
       refine awp_seq (aR (by simp [go_sem, hx0, hl1, hwr] <;> rfl) ?_)
       refine awp_block ?_
       refine awp_seq (aR (by simp [go_sem, hx0, hl1, hwr] <;> rfl) ?_)
       refine awp_cond (by first | rfl | (simp [go_sem, hx0, hl1, hwr] <;> rfl)) (fun h10 => ?_) (fun h10 => ?_)
       ·refine awp_seq ?_
        refine awp_seq (aR (by simp [go_sem, hx0, hl1, hwr] <;> rfl) ?_)
        refine awp_cond (by first | rfl | (simp [go_sem, hx0, hl1, hwr] <;> rfl)) (fun h11 => ?_) (fun h11 => ?_)
        ·refine awp_seq ?_
         refine aR (by simp [go_sem, hx0, hl1, hwr] <;> rfl) ?_
         refine awp_ret ?_
         refine then_ret ?_
         refine inBlock_ret ?_
         refine then_ret ?_
         refine ends_ret (by simp [go_sem, hx0, hl1, hwr] <;> rfl) (by simp [go_sem]) ?_
         exact ⟨by rw [cexpr_eq ps b d]; simp only [Bool.not_true, hx0, hl1, hwr, h0, h1, h6, h7, h8, hh, h9, h10, h11, bA, bB, bC, bD, bE, bF, bG, bH, bI, bJ, Bool.false_eq_true, if_true, if_false, sQuote, sIf, sLet, sCall, bne_self_eq_false]; simp [go_sem], by simp [go_sem]⟩
        ·refine awp_skip ?_
         refine awp_seq (aR (by simp [go_sem, hx0, hl1, hwr] <;> rfl) ?_)
         refine awp_ret ?_
         refine inBlock_ret ?_
         refine then_ret ?_
         refine ends_ret (by simp [go_sem, hx0, hl1, hwr] <;> rfl) (by simp [go_sem]) ?_
         exact ⟨by rw [cexpr_eq ps b d]; simp only [Bool.not_true, hx0, hl1, hwr, h0, h1, h6, h7, h8, hh, h9, h10, h11, bA, bB, bC, bD, bE, bF, bG, bH, bI, bJ, Bool.false_eq_true, if_true, if_false, sQuote, sIf, sLet, sCall, bne_self_eq_false]; simp [go_sem], by simp [go_sem]⟩
       ·refine awp_seq ?_
        refine aR (by simp [go_sem, hx0, hl1, hwr] <;> rfl) ?_
        refine awp_cond (by first | rfl | (simp [go_sem, hx0, hl1, hwr] <;> rfl)) (fun h12 => ?_) (fun h12 => ?_)
        ·refine awp_seq ?_
         refine awp_seq (aR (by simp [go_sem, hx0, hl1, hwr] <;> rfl) ?_)
         refine awp_cond (by first | rfl | (simp [go_sem, hx0, hl1, hwr] <;> rfl)) (fun h13 => ?_) (fun h13 => ?_)
         ·refine awp_seq ?_
          refine aR (by simp [go_sem, hx0, hl1, hwr] <;> rfl) ?_
          refine awp_ret ?_
          refine then_ret ?_
          refine inBlock_ret ?_
          refine then_ret ?_
          refine ends_ret (by simp [go_sem, hx0, hl1, hwr] <;> rfl) (by simp [go_sem]) ?_
          exact ⟨by rw [cexpr_eq ps b d]; simp only [Bool.not_true, hx0, hl1, hwr, h0, h1, h6, h7, h8, hh, h9, h10, h12, h13, bA, bB, bC, bD, bE, bF, bG, bH, bI, bJ, Bool.false_eq_true, if_true, if_false, sQuote, sIf, sLet, sCall, bne_self_eq_false]; simp [go_sem], by simp [go_sem]⟩
         ·refine awp_skip ?_
          refine awp_seq (awp_reg ?_)
          refine aL 4 (by simp [go_sem, hx0, hl1, hwr] <;> rfl) ?_
          refine aF call195 (c_all σ hgl oc ps b (d.kids.drop 1) (by simp; omega) (fun x hx => ih x (List.mem_of_mem_drop hx) b σ hgl hck (by have := D.size_kid_lt (d := d) (k := x) (List.mem_of_mem_drop hx); omega))) (by simp [go_sem, hx0, hl1, hwr] <;> rfl) (by simp [go_sem, hx0, hl1, hwr, List.map_drop]) ?_
          refine aL 1 (by simp [go_sem, hx0, hl1, hwr] <;> rfl) ?_
          refine al_nil ?_
          refine awp_ret ?_
          refine inBlock_ret ?_
          refine then_ret ?_
          refine ends_ret (by simp [go_sem, hx0, hl1, hwr] <;> rfl) (by simp [go_sem]) ?_
          exact ⟨by rw [cexpr_eq ps b d]; simp only [Bool.not_true, hx0, hl1, hwr, h0, h1, h6, h7, h8, hh, h9, h10, h12, h13, bA, bB, bC, bD, bE, bF, bG, bH, bI, bJ, Bool.false_eq_true, if_true, if_false, sQuote, sIf, sLet, sCall, bne_self_eq_false]; simp [go_sem], by simp [go_sem]⟩
        ·refine awp_seq ?_
         refine aR (by simp [go_sem, hx0, hl1, hwr] <;> rfl) ?_
         refine awp_cond (by first | rfl | (simp [go_sem, hx0, hl1, hwr] <;> rfl)) (fun h14 => ?_) (fun h14 => ?_)
         ·refine awp_seq ?_
          refine awp_seq (awp_reg ?_)
          refine aL 4 (by simp [go_sem, hx0, hl1, hwr] <;> rfl) ?_
          refine al_splitT 78 (by first | rfl | (simp [go_sem, hx0, hl1, hwr] <;> rfl)) (fun h15 => ?_) (fun h15 => ?_)
          ·refine aK 5 78 false ?_
           refine aL 1 (by simp [go_sem, hx0, hl1, hwr] <;> rfl) ?_
           refine al_nil ?_
           refine awp_cond (b := true) (by simp [go_sem, hx0, hl1, hwr, h0, h1, h6, h7, h8, hh, h9, h10, h12, h14, h15]) (fun h => ?_) (fun h => ?_)
           rotate_left
           ·cases h
           refine awp_seq (aR (by simp [go_sem, hx0, hl1, hwr] <;> rfl) ?_)
           refine awp_ret ?_
           refine then_ret ?_
           refine inBlock_ret ?_
           refine then_ret ?_
           refine ends_ret (by simp [go_sem, hx0, hl1, hwr] <;> rfl) (by simp [go_sem]) ?_
           exact ⟨by rw [cexpr_eq ps b d]; simp only [Bool.not_true, hx0, hl1, hwr, h0, h1, h6, h7, h8, hh, h9, h10, h12, h14, h15, bA, bB, bC, bD, bE, bF, bG, bH, bI, bJ, Bool.false_eq_true, if_true, if_false, sQuote, sIf, sLet, sCall, bne_self_eq_false]; simp [go_sem], by simp [go_sem]⟩
          ·have hl4 : d.kids.length = 4 := by have := h15; simp only [bne_eq_false_iff_eq] at this; omega
           obtain ⟨y1, hy1, hy1m⟩ := get_lt (l := d.kids) (k := 1) (by omega)
           obtain ⟨y2, hy2, hy2m⟩ := get_lt (l := d.kids) (k := 2) (by omega)
           obtain ⟨y3, hy3, hy3m⟩ := get_lt (l := d.kids) (k := 3) (by omega)
           have hg1 := getD_of hy1
           have hg2 := cnth_get ps b 2 d.kids y2 hy2
           have hg3 := cnth_get ps (b ++ [y1.text]) 3 d.kids y3 hy3
           have hs2 := D.size_kid_lt hy2m
           have hs3 := D.size_kid_lt hy3m
           have hbb : (b.length + 1) * 16 ≤ 140737488355328 := by omega
           refine aLG 3 78 false (by simp [go_sem, hx0, hl1, hwr, hy1, hy2, hy3, hbb, allSz_str] <;> rfl) ?_
           refine al_fnG 78 false false (by simp [go_sem]) rfl (by simp [go_sem]) rfl rfl (by simp [go_sem, hx0, hl1, hwr, hy1, hy2, hy3, hbb, allSz_str] <;> rfl) call194 ((c_node_IsName y1) _ (by exact hgl)) (by simp [go_sem, hx0, hl1, hwr, hy1, hy2, hy3, hbb, allSz_str] <;> rfl) (by simp [go_sem, hx0, hl1, hwr, hy1, hy2, hy3, hbb, allSz_str]) rfl rfl ?_
           refine aLG 1 78 false (by simp [go_sem, hx0, hl1, hwr, hy1, hy2, hy3, hbb, allSz_str] <;> rfl) ?_
           refine aL 1 (by simp [go_sem, hx0, hl1, hwr, hy1, hy2, hy3, hbb, allSz_str] <;> rfl) ?_
           refine al_nil ?_
           refine awp_cond (by first | rfl | (simp [go_sem, hx0, hl1, hwr, hy1, hy2, hy3, hbb, allSz_str] <;> rfl)) (fun h16 => ?_) (fun h16 => ?_)
           ·refine awp_seq ?_
            refine aR (by simp [go_sem, hx0, hl1, hwr, hy1, hy2, hy3, hbb, allSz_str] <;> rfl) ?_
            refine awp_ret ?_
            refine then_ret ?_
            refine inBlock_ret ?_
            refine then_ret ?_
            refine ends_ret (by simp [go_sem, hx0, hl1, hwr, hy1, hy2, hy3, hbb, allSz_str] <;> rfl) (by simp [go_sem]) ?_
            exact ⟨by rw [cexpr_eq ps b d]; simp only [Bool.not_true, hx0, hl1, hwr, hy1, hy2, hy3, hbb, allSz_str, h0, h1, h6, h7, h8, hh, h9, h10, h12, h14, h15, hg1, hg2, hg3, h16, bA, bB, bC, bD, bE, bF, bG, bH, bI, bJ, Bool.false_eq_true, if_true, if_false, sQuote, sIf, sLet, sCall, bne_self_eq_false]; simp [go_sem], by simp [go_sem]⟩
           ·refine awp_skip ?_
            refine awp_seq (awp_seq (awp_reg ?_))
            refine aL 5 (by simp [go_sem, hx0, hl1, hwr, hy1, hy2, hy3, hbb, allSz_str] <;> rfl) ?_
            refine aF call123 (ih y2 hy2m b σ hgl hck (by omega)) (by simp [go_sem, hx0, hl1, hwr, hy1, hy2, hy3, hbb, allSz_str] <;> rfl) (by simp [go_sem, hx0, hl1, hwr, hy1, hy2, hy3, hbb, allSz_str]) ?_
            refine aL 1 (by simp [go_sem, hx0, hl1, hwr, hy1, hy2, hy3, hbb, allSz_str] <;> rfl) ?_
            refine al_nil ?_
            refine awp_seq (aR (by simp [go_sem, hx0, hl1, hwr, hy1, hy2, hy3, hbb, allSz_str] <;> rfl) ?_)
            refine awp_cond (by first | rfl | (simp [go_sem, hx0, hl1, hwr, hy1, hy2, hy3, hbb, allSz_str] <;> rfl)) (fun h17 => ?_) (fun h17 => ?_)
            ·refine awp_seq ?_
             refine aR (by simp [go_sem, hx0, hl1, hwr, hy1, hy2, hy3, hbb, allSz_str] <;> rfl) ?_
             refine awp_ret ?_
             refine then_ret ?_
             refine inBlock_ret ?_
             refine then_ret ?_
             refine ends_ret (by simp [go_sem, hx0, hl1, hwr, hy1, hy2, hy3, hbb, allSz_str] <;> rfl) (by simp [go_sem]) ?_
             exact ⟨by rw [cexpr_eq ps b d]; simp only [Bool.not_true, hx0, hl1, hwr, hy1, hy2, hy3, hbb, allSz_str, h0, h1, h6, h7, h8, hh, h9, h10, h12, h14, h15, hg1, hg2, hg3, h16, h17, bA, bB, bC, bD, bE, bF, bG, bH, bI, bJ, Bool.false_eq_true, if_true, if_false, sQuote, sIf, sLet, sCall, bne_self_eq_false]; simp [go_sem], by simp [go_sem]⟩
            ·refine awp_skip ?_
             refine awp_seq (awp_regDC tyOk tySz 12 (by kernel_rfl) (by decide) ?_)
             refine ul_run 5 (by simp [go_sem, hx0, hl1, hwr, hy1, hy2, hy3, hbb, allSz_str] <;> rfl) ?_
             refine ul_fn (by first | (intro _ _ hh; exact hh) | simp [go_sem]) rfl rfl rfl rfl (by simp [go_sem, hx0, hl1, hwr, hy1, hy2, hy3, hbb, allSz_str] <;> rfl) call196 ((c_Clip b) _ (by exact hgl)) (by simp [go_sem, hx0, hl1, hwr, hy1, hy2, hy3, hbb, allSz_str] <;> rfl) (by simp [go_sem, hx0, hl1, hwr, hy1, hy2, hy3, hbb, allSz_str]) rfl rfl ?_
             refine ul_run 6 (by simp [go_sem, hx0, hl1, hwr, hy1, hy2, hy3, hbb, allSz_str] <;> rfl) ?_
             refine ul_nil ?_
             refine aF call123 (ih y3 hy3m (b ++ [y1.text]) _ (by exact hgl) (by exact hck) (by simp; omega)) (by simp [go_sem, hx0, hl1, hwr, hy1, hy2, hy3, hbb, allSz_str] <;> rfl) (by simp [go_sem, hx0, hl1, hwr, hy1, hy2, hy3, hbb, allSz_str]) ?_
             refine aL 1 (by simp [go_sem, hx0, hl1, hwr, hy1, hy2, hy3, hbb, allSz_str] <;> rfl) ?_
             refine al_nil ?_
             refine awp_ret ?_
             refine inBlock_ret ?_
             refine then_ret ?_
             refine ends_ret (by simp [go_sem, hx0, hl1, hwr, hy1, hy2, hy3, hbb, allSz_str] <;> rfl) (by simp [go_sem]) ?_
             exact ⟨by rw [cexpr_eq ps b d]; simp only [Bool.not_true, hx0, hl1, hwr, hy1, hy2, hy3, hbb, allSz_str, h0, h1, h6, h7, h8, hh, h9, h10, h12, h14, h15, hg1, hg2, hg3, h16, h17, bA, bB, bC, bD, bE, bF, bG, bH, bI, bJ, Bool.false_eq_true, if_true, if_false, sQuote, sIf, sLet, sCall, bne_self_eq_false]; simp [go_sem], by simp [go_sem]⟩
         ·refine awp_seq ?_
          refine aR (by simp [go_sem, hx0, hl1, hwr] <;> rfl) ?_
          refine awp_cond (by first | rfl | (simp [go_sem, hx0, hl1, hwr] <;> rfl)) (fun h18 => ?_) (fun h18 => ?_)
          ·refine awp_seq ?_
           refine awp_reg ?_
           refine aL 3 (by simp [go_sem, hx0, hl1, hwr] <;> rfl) ?_
           refine aF call197 (c_call σ hgl oc ps b om hck d.kids (by omega) (fun x hx => ih x hx b σ hgl hck (by have := D.size_kid_lt (d := d) (k := x) hx; omega))) (by simp [go_sem, hx0, hl1, hwr] <;> rfl) (by simp [go_sem, hx0, hl1, hwr]) ?_
           refine aL 1 (by simp [go_sem, hx0, hl1, hwr] <;> rfl) ?_
           refine al_nil ?_
           refine awp_ret ?_
           refine inBlock_ret ?_
           refine then_ret ?_
           refine ends_ret (by simp [go_sem, hx0, hl1, hwr] <;> rfl) (by simp [go_sem]) ?_
           exact ⟨by rw [cexpr_eq ps b d]; simp only [Bool.not_true, hx0, hl1, hwr, h0, h1, h6, h7, h8, hh, h9, h10, h12, h14, h18, bA, bB, bC, bD, bE, bF, bG, bH, bI, bJ, Bool.false_eq_true, if_true, if_false, sQuote, sIf, sLet, sCall, bne_self_eq_false]; simp [go_sem], by simp [go_sem]⟩
          ·refine awp_skip ?_
           refine awp_seq (awp_reg ?_)
           refine aL 5 (by simp [go_sem, hx0, hl1, hwr] <;> rfl) ?_
           refine aF call198 ((c_prim_Arity x.text) _ (by exact hgl)) (by simp [go_sem, hx0, hl1, hwr] <;> rfl) (by simp [go_sem, hx0, hl1, hwr]) ?_
           refine aL 5 (by simp [go_sem, hx0, hl1, hwr] <;> rfl) ?_
           refine al_nil ?_
           refine awp_seq (awp_block ?_)
           refine awp_seq (aR (by simp [go_sem, hx0, hl1, hwr] <;> rfl) ?_)
           refine awp_cond (by first | rfl | (simp [go_sem, hx0, hl1, hwr] <;> rfl)) (fun h19 => ?_) (fun h19 => ?_)
           ·refine awp_seq ?_
            refine aR (by simp [go_sem, hx0, hl1, hwr] <;> rfl) ?_
            refine awp_ret ?_
            refine inBlock_ret ?_
            refine then_ret ?_
            refine ends_ret (by simp [go_sem, hx0, hl1, hwr] <;> rfl) (by simp [go_sem]) ?_
            exact ⟨by rw [cexpr_eq ps b d]; simp only [Bool.not_true, hx0, hl1, hwr, h0, h1, h6, h7, h8, hh, h9, h10, h12, h14, h18, h19, bA, bB, bC, bD, bE, bF, bG, bH, bI, bJ, Bool.false_eq_true, if_true, if_false, sQuote, sIf, sLet, sCall, bne_self_eq_false]; simp [go_sem], by simp [go_sem]⟩
           ·refine awp_seq ?_
            refine aR (by simp [go_sem, hx0, hl1, hwr] <;> rfl) ?_
            refine awp_cond (by first | rfl | (simp [go_sem, hx0, hl1, hwr] <;> rfl)) (fun h20 => ?_) (fun h20 => ?_)
            ·refine awp_seq ?_
             refine aR (by simp [go_sem, hx0, hl1, hwr] <;> rfl) ?_
             refine awp_ret ?_
             refine inBlock_ret ?_
             refine then_ret ?_
             refine ends_ret (by simp [go_sem, hx0, hl1, hwr] <;> rfl) (by simp [go_sem]) ?_
             exact ⟨by rw [cexpr_eq ps b d]; simp only [Bool.not_true, hx0, hl1, hwr, h0, h1, h6, h7, h8, hh, h9, h10, h12, h14, h18, h19, h20, bA, bB, bC, bD, bE, bF, bG, bH, bI, bJ, Bool.false_eq_true, if_true, if_false, sQuote, sIf, sLet, sCall, bne_self_eq_false]; simp [go_sem], by simp [go_sem]⟩
            ·refine awp_skip ?_
             refine awp_seq (awp_reg ?_)
             refine aL 5 (by simp [go_sem, hx0, hl1, hwr] <;> rfl) ?_
             refine aF call195 (c_all σ hgl oc ps b (d.kids.drop 1) (by simp; omega) (fun x hx => ih x (List.mem_of_mem_drop hx) b σ hgl hck (by have := D.size_kid_lt (d := d) (k := x) (List.mem_of_mem_drop hx); omega))) (by simp [go_sem, hx0, hl1, hwr] <;> rfl) (by simp [go_sem, hx0, hl1, hwr, List.map_drop]) ?_
             refine aL 1 (by simp [go_sem, hx0, hl1, hwr] <;> rfl) ?_
             refine al_nil ?_
             refine awp_ret ?_
             refine ends_ret (by simp [go_sem, hx0, hl1, hwr] <;> rfl) (by simp [go_sem]) ?_
             exact ⟨by rw [cexpr_eq ps b d]; simp only [Bool.not_true, hx0, hl1, hwr, h0, h1, h6, h7, h8, hh, h9, h10, h12, h14, h18, h19, h20, bA, bB, bC, bD, bE, bF, bG, bH, bI, bJ, Bool.false_eq_true, if_true, if_false, sQuote, sIf, sLet, sCall, bne_self_eq_false]; simp [go_sem], by simp [go_sem]⟩

set_option maxHeartbeats 1000000 in
theorem c_head_none (oc om : Nat) (ps : List (D × Int)) (d : D) (hd : d.size ≤ 1000000000) (σ : Store) (hgl : σ.gl = (GL kr)) (hck : CkAt σ oc om ps) (hkd : kidsOf d 3 false = none) : ACalls Tryz.prog 193 [.ptr oc 0, .pv (enc d)] σ (fun r σ' => r = .pv (.int .i64 (chead ps d).1) ∧ σ' = setM σ om (chead ps d).2) := by
 have hkl := D.kids_length_lt d
 obtain ⟨hoc, hom⟩ := id hck
 refine acalls_of tyOk Tryz.func193 rfl (by simp [Tryz.f193]) ?_
 refine awp_seq (aR (by simp [go_sem, hoc, hkd, encO] <;> rfl) ?_)
 refine awp_seq (awp_reg ?_)
 refine aL 1 (by simp [go_sem, hoc, hkd, encO] <;> rfl) ?_
 refine aF call237 ((c_flat_Kids d 3 false) _ (by exact hgl)) (by simp [go_sem, hoc, hkd, encO] <;> rfl) (by simp [go_sem, hoc, hkd, encO]) ?_
 refine aL 1 (by simp [go_sem, hoc, hkd, encO] <;> rfl) ?_
 refine al_nil ?_
 refine awp_seq (awp_seq (awp_reg ?_))
 refine aL 3 (by simp [go_sem, hoc, hkd, encO] <;> rfl) ?_
 refine al_splitT 14 (by first | rfl | (simp [go_sem, hoc, hkd, encO] <;> rfl)) (fun h0 => ?_) (fun h0 => ?_)
 ·refine aK 5 14 false ?_
  refine aL 1 (by simp [go_sem, hoc, hkd, encO] <;> rfl) ?_
  refine al_nil ?_
  refine awp_cond (b := true) (by simp [go_sem, hoc, hkd, encO, h0]) (fun h => ?_) (fun h => ?_)
  rotate_left
  ·cases h
  refine awp_seq (aR (by simp [go_sem, hoc, hkd, encO] <;> rfl) ?_)
  refine awp_ret ?_
  refine then_ret ?_
  refine ends_ret (by simp [go_sem] <;> rfl) (by simp [go_sem]) ?_
  have hs : chead ps d = (4, ps) := by simp only [chead, hkd]
  rw [hs]
  exact ⟨rfl, (setM_self hck).symm⟩
 ·exact nomatch h0

set_option maxHeartbeats 1000000 in
theorem c_head_some (oc om : Nat) (ps : List (D × Int)) (d : D) (hd : d.size ≤ 1000000000) (σ : Store) (hgl : σ.gl = (GL kr)) (hck : CkAt σ oc om ps) (x0 x1 x2 : D) (hkd : kidsOf d 3 false = some [x0, x1, x2]) (hx1 : x1.size ≤ 1000000000) : ACalls Tryz.prog 193 [.ptr oc 0, .pv (enc d)] σ (fun r σ' => r = .pv (.int .i64 (chead ps d).1) ∧ σ' = setM σ om (chead ps d).2) := by
 have hkl := D.kids_length_lt d
 obtain ⟨hoc, hom⟩ := id hck
 have hg0 : ([x0, x1, x2] : List D).getD 0 dnone = x0 := rfl
 have hg1 : ([x0, x1, x2] : List D).getD 1 dnone = x1 := rfl
 refine acalls_of tyOk Tryz.func193 rfl (by simp [Tryz.f193]) ?_
 refine awp_seq (aR (by simp [go_sem, hoc, hkd, encO] <;> rfl) ?_)
 refine awp_seq (awp_reg ?_)
 refine aL 1 (by simp [go_sem, hoc, hkd, encO] <;> rfl) ?_
 refine aF call237 ((c_flat_Kids d 3 false) _ (by exact hgl)) (by simp [go_sem, hoc, hkd, encO] <;> rfl) (by simp [go_sem, hoc, hkd, encO]) ?_
 refine aL 1 (by simp [go_sem, hoc, hkd, encO] <;> rfl) ?_
 refine al_nil ?_
 refine awp_seq (awp_seq (awp_reg ?_))
 refine aL 3 (by simp [go_sem, hoc, hkd, encO] <;> rfl) ?_
 refine al_splitT 14 (by first | rfl | (simp [go_sem, hoc, hkd, encO] <;> rfl)) (fun h0 => ?_) (fun h0 => ?_)
 ·exact nomatch h0
 ·refine aLG 3 14 false (by simp [go_sem, hoc, hkd, encO] <;> rfl) ?_
  refine al_fnG 14 false false (by simp [go_sem]) rfl (by simp [go_sem]) rfl rfl (by simp [go_sem, hoc, hkd, encO] <;> rfl) call238 ((c_node_Label x0) _ (by exact hgl)) (by simp [go_sem, hoc, hkd, encO] <;> rfl) (by simp [go_sem, hoc, hkd, encO]) rfl rfl ?_
  refine aLG 1 14 false (by simp [go_sem, hoc, hkd, encO] <;> rfl) ?_
  refine aL 1 (by simp [go_sem, hoc, hkd, encO] <;> rfl) ?_
  refine al_nil ?_
  refine awp_cond (by first | rfl | (simp [go_sem, hoc, hkd, encO] <;> rfl)) (fun h1 => ?_) (fun h1 => ?_)
  ·refine awp_seq ?_
   refine aR (by simp [go_sem, hoc, hkd, encO] <;> rfl) ?_
   refine awp_ret ?_
   refine then_ret ?_
   refine ends_ret (by simp [go_sem] <;> rfl) (by simp [go_sem]) ?_
   have hs : chead ps d = (4, ps) := by simp only [chead, hkd, d0, d1, hg0, hg1, Bool.not_true, hoc, hkd, encO, h0, h1, bA, bB, bC, bD, bE, bF, bG, bH, bI, bJ, Bool.false_eq_true, if_true, if_false]
   rw [hs]
   exact ⟨rfl, (setM_self hck).symm⟩
  ·refine awp_skip ?_
   refine awp_seq ?_
   have hlk := fun (s : St) (d : D) (ho : s.σ.objs[om]? = some (.map (mapK ps) (mapV pint ps))) => look_par ho d
   refine awp_regDP tyOk tySz 13 (by kernel_rfl) (by decide) ?_
   refine ul_run 7 (by simp [go_sem, hoc, hkd, encO, hom, hlk] <;> rfl) ?_
   refine ul_fn (by first | (intro _ _ hh; exact hh) | simp [go_sem]) rfl rfl rfl rfl (by simp [go_sem, hoc, hkd, encO, hom, hlk] <;> rfl) call127 ((c_flat_keyOf x0) _ (by exact hgl)) (by simp [go_sem, hoc, hkd, encO, hom, hlk] <;> rfl) (by simp [go_sem, hoc, hkd, encO, hom, hlk]) rfl rfl ?_
   refine ul_run 5 (by simp [go_sem, hoc, hkd, encO, hom, hlk] <;> rfl) ?_
   refine ul_nil ?_
   refine aL 1 (by simp [go_sem, hoc, hkd, encO, hom, hlk] <;> rfl) ?_
   refine al_nil ?_
   refine awp_seq (awp_reg ?_)
   refine aL 3 (by simp [go_sem, hoc, hkd, encO, hom, hlk] <;> rfl) ?_
   refine aF call122 ((c_flat_Names x1 hx1) _ (by exact hgl)) (by simp [go_sem, hoc, hkd, encO, hom, hlk] <;> rfl) (by simp [go_sem, hoc, hkd, encO, hom, hlk]) ?_
   refine aL 5 (by simp [go_sem, hoc, hkd, encO, hom, hlk] <;> rfl) ?_
   refine al_nil ?_
   refine awp_seq (awp_block ?_)
   refine awp_seq (awp_reg ?_)
   refine aL 2 (by simp [go_sem, hoc, hkd, encO, hom, hlk] <;> rfl) ?_
   refine al_splitT 42 (by first | rfl | (simp [go_sem, hoc, hkd, encO, hom, hlk] <;> rfl)) (fun h2 => ?_) (fun h2 => ?_)
   ·refine aK 2 42 false ?_
    refine aL 2 (by simp [go_sem, hoc, hkd, encO, hom, hlk] <;> rfl) ?_
    refine al_nil ?_
    refine awp_cond (b := true) (by simp [go_sem, hoc, hkd, encO, hom, hlk, h0, h1, h2]) (fun h => ?_) (fun h => ?_)
    rotate_left
    ·cases h
    refine awp_seq (aR (by simp [go_sem, hoc, hkd, encO, hom, hlk] <;> rfl) ?_)
    refine awp_ret ?_
    refine inBlock_ret ?_
    refine then_ret ?_
    refine ends_ret (by simp [go_sem] <;> rfl) (by simp [go_sem]) ?_
    have hs : chead ps d = (4, ps) := by simp only [chead, hkd, d0, d1, hg0, hg1, Bool.not_true, hoc, hkd, encO, hom, hlk, h0, h1, h2, bA, bB, bC, bD, bE, bF, bG, bH, bI, bJ, Bool.false_eq_true, if_true, if_false]
    rw [hs]
    exact ⟨rfl, (setM_self hck).symm⟩
   ·refine aLG 2 42 false (by simp [go_sem, hoc, hkd, encO, hom, hlk] <;> rfl) ?_
    refine aL 2 (by simp [go_sem, hoc, hkd, encO, hom, hlk] <;> rfl) ?_
    refine al_nil ?_
    refine awp_cond (by first | rfl | (simp [go_sem, hoc, hkd, encO, hom, hlk] <;> rfl)) (fun h3 => ?_) (fun h3 => ?_)
    ·have hnn : names x1 = none := by simpa using h3
     refine awp_seq (aR (by simp [go_sem, hoc, hkd, encO, hom, hlk] <;> rfl) ?_)
     refine awp_ret ?_
     refine inBlock_ret ?_
     refine then_ret ?_
     refine ends_ret (by simp [go_sem] <;> rfl) (by simp [go_sem]) ?_
     have hs : chead ps d = (4, ps) := by simp only [chead, hkd, d0, d1, hg0, hg1, Bool.not_true, hoc, hkd, encO, hom, hlk, h0, h1, h2, h3, hnn, bA, bB, bC, bD, bE, bF, bG, bH, bI, bJ, Bool.false_eq_true, if_true, if_false]
     rw [hs]
     exact ⟨rfl, (setM_self hck).symm⟩
    ·obtain ⟨ns, hns⟩ : ∃ ns, names x1 = some ns := Option.isSome_iff_exists.1 (by simpa using h3)
     have hpt := fun (s : St) (d : D) (v : Int) (ho : s.σ.objs[om]? = some (.map (mapK ps) (mapV pint ps))) => put_par ho d v
     refine awp_seq (aR (by simp [go_sem, hoc, hkd, encO, hom, hlk, hns, encN] <;> rfl) ?_)
     refine awp_cond (by first | rfl | (simp [go_sem, hoc, hkd, encO, hom, hlk, hns, encN] <;> rfl)) (fun h4 => ?_) (fun h4 => ?_)
     ·refine awp_seq ?_
      refine aR (by simp [go_sem, hoc, hkd, encO, hom, hlk, hns, encN] <;> rfl) ?_
      refine awp_ret ?_
      refine inBlock_ret ?_
      refine then_ret ?_
      refine ends_ret (by simp [go_sem] <;> rfl) (by simp [go_sem]) ?_
      have hs : chead ps d = (3, ps) := by simp only [chead, hkd, d0, d1, hg0, hg1, Bool.not_true, hoc, hkd, encO, hom, hlk, hns, encN, h0, h1, h2, h3, hns, h4, bA, bB, bC, bD, bE, bF, bG, bH, bI, bJ, Bool.false_eq_true, if_true, if_false]
      rw [hs]
      exact ⟨rfl, (setM_self hck).symm⟩
     ·refine awp_skip ?_
      refine awp_seq (awp_regDP tyOk tySz 10 (by kernel_rfl) (by decide) ?_)
      refine ul_run 7 (by simp [go_sem, hoc, hkd, encO, hom, hlk, hns, encN, hpt] <;> rfl) ?_
      refine ul_fn (by first | (intro _ _ hh; exact hh) | simp [go_sem]) rfl rfl rfl rfl (by simp [go_sem, hoc, hkd, encO, hom, hlk, hns, encN, hpt] <;> rfl) call127 ((c_flat_keyOf x0) _ (by exact hgl)) (by simp [go_sem, hoc, hkd, encO, hom, hlk, hns, encN, hpt] <;> rfl) (by simp [go_sem, hoc, hkd, encO, hom, hlk, hns, encN, hpt]) rfl rfl ?_
      refine ul_run 2 (by simp [go_sem, hoc, hkd, encO, hom, hlk, hns, encN, hpt] <;> rfl) ?_
      refine ul_nil ?_
      refine aL 1 (by simp [go_sem, hoc, hkd, encO, hom, hlk, hns, encN, hpt] <;> rfl) ?_
      refine al_nil ?_
      refine awp_seq (aR (by simp [go_sem, hoc, hkd, encO, hom, hlk, hns, encN, hpt] <;> rfl) ?_)
      refine awp_ret ?_
      refine ends_ret (by simp [go_sem] <;> rfl) (by simp [go_sem]) ?_
      have hs : chead ps d = (0, kset ps x0 ns.length) := by simp only [chead, hkd, d0, d1, hg0, hg1, Bool.not_true, hoc, hkd, encO, hom, hlk, hns, encN, hpt, h0, h1, h2, h3, hns, h4, bA, bB, bC, bD, bE, bF, bG, bH, bI, bJ, Bool.false_eq_true, if_true, if_false]
      rw [hs]
      exact ⟨rfl, rfl⟩

end Go.Proofs.YtnibcmaaehkhlaaGreatDoor

namespace Go.Proofs.YtnibcmaaehkhlaaGreatDoor
open Go Go.Aw
variable {kr : KR}
theorem c_head (oc om : Nat) (ps : List (D × Int)) (d : D) (hd : d.size ≤ 1000000000) (σ : Store) (hgl : σ.gl = (GL kr)) (hck : CkAt σ oc om ps) : ACalls Tryz.prog 193 [.ptr oc 0, .pv (enc d)] σ (fun r σ' => r = .pv (.int .i64 (chead ps d).1) ∧ σ' = setM σ om (chead ps d).2) := by
  cases hk : kidsOf d 3 false with
  | none => exact c_head_none oc om ps d hd σ hgl hck hk
  | some l =>
    obtain ⟨x0, x1, x2, rfl, hkk, _⟩ := kidsOf_three hk
    exact c_head_some oc om ps d hd σ hgl hck x0 x1 x2 hk (by have := D.size_kid_lt (d := d) (k := x1) (by rw [hkk]; simp); omega)

set_option maxHeartbeats 1000000 in
theorem c_flat_heads (p : D) (hp : p.size ≤ 1000000000) (σ : Store) (hgl : σ.gl = (GL kr)) : ACalls Tryz.prog 121 [.pv (enc p)] σ (fun r σ' => r = .tuple [.ptr (σ.objs.length + 1) 0, .pv (.int .i64 (heads p).1)] ∧ σ' = withC σ (heads p).2) := by
 have hkl := D.kids_length_lt p
 refine acalls_of tyOk Tryz.func121 rfl (by simp [Tryz.f121]) ?_
 refine awp_seq (aR (by simp [go_sem] <;> rfl) ?_)
 refine awp_seq (awp_region_run (sh := [11]) tyOk (by simp [go_sem] <;> rfl) ?_)
 refine awp_seq (awp_seq (awp_reg ?_))
 refine aL 1 (by simp [go_sem] <;> rfl) ?_
 refine aF call63 ((c_datum_Check p hp) _ (by exact hgl)) (by simp [go_sem] <;> rfl) (by simp [go_sem]) ?_
 refine aL 1 (by simp [go_sem] <;> rfl) ?_
 refine al_nil ?_
 refine awp_seq (aR (by simp [go_sem] <;> rfl) ?_)
 refine awp_cond (by first | rfl | (simp [go_sem] <;> rfl)) (fun h0 => ?_) (fun h0 => ?_)
 ·refine awp_seq ?_
  refine aR (by simp [go_sem] <;> rfl) ?_
  refine awp_ret ?_
  refine then_ret ?_
  refine ends_ret (by simp [go_sem] <;> rfl) (by simp [go_sem]) ?_
  have hs : heads p = (dcheck p, []) := by simp only [heads, h0, bA, bB, bC, bD, bE, bF, bG, bH, bI, bJ, Bool.false_eq_true, if_true, if_false]
  rw [hs]
  exact ⟨rfl, by simp [withC, mapK, mapV]⟩
 ·refine awp_skip ?_
  refine awp_seq (awp_block ?_)
  refine awp_seq (awp_reg ?_)
  refine aL 4 (by simp [go_sem] <;> rfl) ?_
  refine al_splitT 22 (by first | rfl | (simp [go_sem] <;> rfl)) (fun h1 => ?_) (fun h1 => ?_)
  ·refine aK 4 22 false ?_
   refine aL 2 (by simp [go_sem] <;> rfl) ?_
   refine al_nil ?_
   refine awp_cond (b := true) (by simp [go_sem, h0, h1]) (fun h => ?_) (fun h => ?_)
   rotate_left
   ·cases h
   refine awp_seq (aR (by simp [go_sem] <;> rfl) ?_)
   refine awp_ret ?_
   refine inBlock_ret ?_
   refine then_ret ?_
   refine ends_ret (by simp [go_sem] <;> rfl) (by simp [go_sem]) ?_
   have hs : heads p = (4, []) := by simp only [heads, h0, h1, bA, bB, bC, bD, bE, bF, bG, bH, bI, bJ, Bool.false_eq_true, if_true, if_false]
   rw [hs]
   exact ⟨rfl, by simp [withC, mapK, mapV]⟩
  ·refine aLG 4 22 false (by simp [go_sem] <;> rfl) ?_
   refine aL 2 (by simp [go_sem] <;> rfl) ?_
   refine al_nil ?_
   refine awp_cond (by first | rfl | (simp [go_sem] <;> rfl)) (fun h2 => ?_) (fun h2 => ?_)
   ·refine awp_seq ?_
    refine aR (by simp [go_sem] <;> rfl) ?_
    refine awp_ret ?_
    refine inBlock_ret ?_
    refine then_ret ?_
    refine ends_ret (by simp [go_sem] <;> rfl) (by simp [go_sem]) ?_
    have hs : heads p = (4, []) := by simp only [heads, h0, h1, h2, bA, bB, bC, bD, bE, bF, bG, bH, bI, bJ, Bool.false_eq_true, if_true, if_false]
    rw [hs]
    exact ⟨rfl, by simp [withC, mapK, mapV]⟩
   ·refine awp_seq ?_
    refine aR (by simp [go_sem] <;> rfl) ?_
    refine awp_cond (by first | rfl | (simp [go_sem] <;> rfl)) (fun h3 => ?_) (fun h3 => ?_)
    ·refine awp_seq ?_
     refine aR (by simp [go_sem] <;> rfl) ?_
     refine awp_ret ?_
     refine inBlock_ret ?_
     refine then_ret ?_
     refine ends_ret (by simp [go_sem] <;> rfl) (by simp [go_sem]) ?_
     have hs : heads p = (3, []) := by simp only [heads, h0, h1, h2, h3, bA, bB, bC, bD, bE, bF, bG, bH, bI, bJ, Bool.false_eq_true, if_true, if_false]
     rw [hs]
     exact ⟨rfl, by simp [withC, mapK, mapV]⟩
    ·refine awp_skip ?_
     refine awp_seq (awp_seq (aR (by simp [go_sem] <;> rfl) ?_))
     refine awp_block ?_
     refine awp_loop_headK (σ.objs.length + 2) σ.toks.length 1 [2, 3, 4, 36, 37] (fun k : Nat => [(38, .pv (.int .i64 ↑k))]) (fun k => withC σ (hps p.kids k)) (fun k => k ≤ p.kids.length ∧ headsGo [] p.kids = headsGo (hps p.kids k) (p.kids.drop k)) (fun k => p.kids.length - k) 0 (⟨Nat.zero_le _, rfl⟩) ⟨by show withC σ (hps p.kids 0) = _; rw [hps_zero]; simp [withC, mapK, mapV, go_sem], rfl, by simp, by simp, by simp [go_sem], fun ob h => withC_mem h, by simp [go_sem]⟩ ?_
     rintro k ⟨hk, hn⟩
     refine awp_seq (aR (by simp [go_sem] <;> rfl) ?_)
     refine awp_seq (awp_cond (by first | rfl | (simp [go_sem] <;> rfl)) (fun h4 => ?_) (fun h4 => ?_))
     ·have hlt : k < p.kids.length := by simp at h4; omega
      have hw : IntKind.i64.wrap (↑k + 1) = (k : Int) + 1 := wrap_succ (by omega)
      obtain ⟨x, hx, hxm⟩ := get_lt hlt
      have hst := headsGo_step (ps := hps p.kids k) hx
      have hnx := hps_next hx
      refine awp_skip ?_
      refine awp_seq (awp_block ?_)
      refine awp_seq (aR (by simp [go_sem, hx] <;> rfl) ?_)
      refine awp_seq (awp_reg ?_)
      refine aL 2 (by simp [go_sem, hx] <;> rfl) ?_
      refine al_callW rfl rfl rfl (by simp [go_sem, hx] <;> rfl) call193 (c_head (σ.objs.length + 1) σ.objs.length (hps p.kids k) x (by have := D.size_kid_lt hxm; omega) _ (by exact hgl) (withC_ck _ _)) (by simp [go_sem, hx] <;> rfl) (by simp [go_sem, hx]) rfl rfl ?_
      rintro r σ' ⟨rfl, rfl⟩
      refine aL 1 (by simp [go_sem, hx, withC_set, withC_cut2] <;> rfl) ?_
      refine al_nil ?_
      refine awp_seq (aR (by simp [go_sem, hx, withC_set, withC_cut2] <;> rfl) ?_)
      refine awp_cond (by first | rfl | (simp [go_sem, hx, withC_set, withC_cut2] <;> rfl)) (fun h5 => ?_) (fun h5 => ?_)
      ·refine awp_seq ?_
       refine aR (by simp [go_sem, hx, withC_set, withC_cut2] <;> rfl) ?_
       refine awp_ret ?_
       refine inBlock_ret ?_
       refine then_ret ?_
       refine then_ret ?_
       refine inBlock_ret ?_
       refine then_ret ?_
       refine ends_ret (by simp [go_sem] <;> rfl) (by simp [go_sem]) ?_
       have hh : heads p = headsGo [] p.kids := by simp only [heads, hx, withC_set, withC_cut2, h0, h1, h2, h3, h4, h5, bA, bB, bC, bD, bE, bF, bG, bH, bI, bJ, Bool.false_eq_true, if_true, if_false]
       have hs : heads p = chead (hps p.kids k) x := by rw [hh, hn, hst]; simp only [h5, bA, bB, bC, bD, bE, bF, bG, bH, bI, bJ, Bool.false_eq_true, if_true, if_false]
       rw [hs]
       exact ⟨rfl, rfl⟩
      ·refine awp_skip ?_
       refine aR (by simp [go_sem, hx, withC_set, withC_cut2] <;> rfl) ?_
       exact next_intro (k + 1) (σ.objs.length + 2) σ.toks.length 1 (⟨hlt, by rw [hn, hst, hnx]; simp only [h0, h1, h2, h3, h4, h5, bA, bB, bC, bD, bE, bF, bG, bH, bI, bJ, Bool.false_eq_true, if_true, if_false]⟩) (by omega) ⟨by show withC σ _ = (withC σ _).cut _ _; rw [withC_cut2, hnx], rfl, by simp, by simp, by simp [go_sem, hx, withC_set, withC_cut2, hw], fun ob h => withC_mem h, by simp [go_sem]⟩
     ·have hke : k = p.kids.length := by simp at h4; omega
      subst hke
      refine awp_exit ?_
      refine then_exit ?_
      refine then_exit ?_
      refine inBlock_hit ?_
      refine awp_seq (aR (by simp [go_sem] <;> rfl) ?_)
      refine awp_ret ?_
      refine ends_ret (by simp [go_sem] <;> rfl) (by simp [go_sem]) ?_
      have hh : heads p = headsGo [] p.kids := by simp only [heads, h0, h1, h2, h3, bA, bB, bC, bD, bE, bF, bG, bH, bI, bJ, Bool.false_eq_true, if_true, if_false]
      have hs : heads p = (0, hps p.kids p.kids.length) := by rw [hh, hn, List.drop_length]; rfl
      rw [hs]
      exact ⟨rfl, rfl⟩

set_option maxHeartbeats 1000000 in
theorem c_flat_Check (p : D) (hp : p.size ≤ 900000000) : Pur Tryz.prog (GL kr) 54 [.pv (enc p)] (.pv (.int .i64 (fcheck p))) := by
 have hkl := D.kids_length_lt p
 refine pur_of fun σ hgl => ?_
 refine acalls_of tyOk Tryz.func54 rfl (by simp [Tryz.f54]) ?_
 refine awp_seq (aR (by simp [go_sem] <;> rfl) ?_)
 refine awp_seq (awp_reg ?_)
 refine aL 1 (by simp [go_sem] <;> rfl) ?_
 refine al_callW rfl rfl rfl (by simp [go_sem] <;> rfl) call121 (c_flat_heads p (by omega) σ hgl) (by simp [go_sem] <;> rfl) (by simp [go_sem]) rfl rfl ?_
 rintro r σ' ⟨rfl, rfl⟩
 refine aL 5 (by simp [go_sem] <;> rfl) ?_
 refine al_nil ?_
 refine awp_seq (awp_seq (aR (by simp [go_sem] <;> rfl) ?_))
 refine awp_cond (by first | rfl | (simp [go_sem] <;> rfl)) (fun h0 => ?_) (fun h0 => ?_)
 ·refine awp_seq ?_
  refine aR (by simp [go_sem] <;> rfl) ?_
  refine awp_ret ?_
  refine then_ret ?_
  refine ends_ret (by simp [go_sem] <;> rfl) (by simp [go_sem]) ?_
  have hs : fcheck p = (heads p).1 := by simp only [fcheck, h0, bA, bB, bC, bD, bE, bF, bG, bH, bI, bJ, Bool.false_eq_true, if_true, if_false]
  exact ⟨by simp [go_sem, hs], withC_cut σ _⟩
 ·have hh0 : (heads p).1 = 0 := by simpa using h0
  refine awp_skip ?_
  refine awp_seq (awp_seq (aR (by simp [go_sem] <;> rfl) ?_))
  refine awp_block ?_
  refine awp_loop_headK (σ.objs.length + 2) σ.toks.length 1 [2, 3, 19, 20] (fun k : Nat => [(21, .pv (.int .i64 ↑k))]) (fun k => withC σ (heads p).2) (fun k => k ≤ p.kids.length ∧ bodies (heads p).2 p.kids = bodies (heads p).2 (p.kids.drop k)) (fun k => p.kids.length - k) 0 (⟨Nat.zero_le _, rfl⟩) ⟨by show withC σ (heads p).2 = (withC σ _).cut _ _; rw [withC_cut2], rfl, by simp, by simp, by simp [go_sem], fun ob h => withC_mem h, by simp [go_sem]⟩ ?_
  rintro k ⟨hk, hn⟩
  refine awp_seq (aR (by simp [go_sem] <;> rfl) ?_)
  refine awp_seq (awp_cond (by first | rfl | (simp [go_sem] <;> rfl)) (fun h1 => ?_) (fun h1 => ?_))
  ·have hlt : k < p.kids.length := by simp at h1; omega
   have hw : IntKind.i64.wrap (↑k + 1) = (k : Int) + 1 := wrap_succ (by omega)
   obtain ⟨x, hx, hxm⟩ := get_lt hlt
   have hst := bodies_step (ps := (heads p).2) hx
   obtain ⟨x0, x1, x2, ns, hkk, hk3, hlab, hns, hn8⟩ := def_ok hh0 hxm
   have hsx := D.size_kid_lt hxm
   have hs1 := D.size_kid_lt (d := x) (k := x1) (by rw [hkk]; simp)
   have hs2 := D.size_kid_lt (d := x) (k := x2) (by rw [hkk]; simp)
   have hd1 : d1 x.kids = x1 := by rw [hkk]; rfl
   have hd2 : d2 x.kids = x2 := by rw [hkk]; rfl
   have hnl : nlist (names x1) = ns := by rw [hns]; rfl
   refine awp_skip ?_
   refine awp_seq (awp_block ?_)
   refine awp_seq (aR (by simp [go_sem, hx, hkk, hns, encN] <;> rfl) ?_)
   refine awp_seq (awp_reg ?_)
   refine aL 4 (by simp [go_sem, hx, hkk, hns, encN] <;> rfl) ?_
   refine aF call122 ((c_flat_Names x1 (by omega)) _ (by exact hgl)) (by simp [go_sem, hx, hkk, hns, encN] <;> rfl) (by simp [go_sem, hx, hkk, hns, encN]) ?_
   refine aL 5 (by simp [go_sem, hx, hkk, hns, encN] <;> rfl) ?_
   refine al_nil ?_
   refine awp_seq (awp_reg ?_)
   refine aL 6 (by simp [go_sem, hx, hkk, hns, encN] <;> rfl) ?_
   refine aF call123 (c_expr (σ.objs.length + 1) σ.objs.length (heads p).2 x2 ns _ (by exact hgl) (withC_ck _ _) (by omega)) (by simp [go_sem, hx, hkk, hns, encN] <;> rfl) (by simp [go_sem, hx, hkk, hns, encN]) ?_
   refine aL 1 (by simp [go_sem, hx, hkk, hns, encN] <;> rfl) ?_
   refine al_nil ?_
   refine awp_seq (aR (by simp [go_sem, hx, hkk, hns, encN] <;> rfl) ?_)
   refine awp_cond (by first | rfl | (simp [go_sem, hx, hkk, hns, encN] <;> rfl)) (fun h2 => ?_) (fun h2 => ?_)
   ·refine awp_seq ?_
    refine aR (by simp [go_sem, hx, hkk, hns, encN] <;> rfl) ?_
    refine awp_ret ?_
    refine inBlock_ret ?_
    refine then_ret ?_
    refine then_ret ?_
    refine inBlock_ret ?_
    refine then_ret ?_
    refine ends_ret (by simp [go_sem] <;> rfl) (by simp [go_sem]) ?_
    have hs : fcheck p = cexpr (heads p).2 ns x2 := by rw [show fcheck p = bodies (heads p).2 p.kids by simp only [fcheck, hx, hkk, hns, encN, h0, h1, h2, bA, bB, bC, bD, bE, bF, bG, bH, bI, bJ, Bool.false_eq_true, if_true, if_false], hn, hst, hd1, hd2, hnl]; simp only [h2, bA, bB, bC, bD, bE, bF, bG, bH, bI, bJ, Bool.false_eq_true, if_true, if_false]
    exact ⟨by simp [go_sem, hs], withC_cut σ _⟩
   ·refine awp_skip ?_
    refine aR (by simp [go_sem, hx, hkk, hns, encN] <;> rfl) ?_
    exact next_intro (k + 1) (σ.objs.length + 2) σ.toks.length 1 (⟨hlt, by rw [hn, hst, hd1, hd2, hnl]; simp only [h0, h1, h2, bA, bB, bC, bD, bE, bF, bG, bH, bI, bJ, Bool.false_eq_true, if_true, if_false]⟩) (by omega) ⟨by show withC σ _ = (withC σ _).cut _ _; rw [withC_cut2], rfl, by simp, by simp, by simp [go_sem, hx, hkk, hns, encN, hw], fun ob h => withC_mem h, by simp [go_sem]⟩
  ·have hke : k = p.kids.length := by simp at h1; omega
   subst hke
   refine awp_exit ?_
   refine then_exit ?_
   refine then_exit ?_
   refine inBlock_hit ?_
   refine awp_seq (aR (by simp [go_sem] <;> rfl) ?_)
   refine awp_ret ?_
   refine ends_ret (by simp [go_sem] <;> rfl) (by simp [go_sem]) ?_
   have hs : fcheck p = 0 := by rw [show fcheck p = bodies (heads p).2 p.kids by simp only [fcheck, h0, bA, bB, bC, bD, bE, bF, bG, bH, bI, bJ, Bool.false_eq_true, if_true, if_false], hn, List.drop_length]; rfl
   exact ⟨by simp [go_sem, hs], withC_cut σ _⟩

end Go.Proofs.YtnibcmaaehkhlaaGreatDoor

namespace Go.Proofs.YtnibcmaaehkhlaaGreatDoor
open Go Go.Aw
variable {kr : KR}
theorem look_seen {s : St} {om : Nat} {m : List (D × Bool)} (ho : s.σ.objs[om]? = some (.map (mapK m) (mapV pbool m))) (d : D) :
    lookAV ty s 208 (.map om) (.pv (keyPV d)) false = some (.pv (.bool (seenB m d))) := by
  rw [look_map (f := pbool) rfl rfl rfl rfl rfl ho]
  unfold seenB
  cases kget m d <;> rfl
theorem put_seen {s : St} {om : Nat} {m : List (D × Bool)} (ho : s.σ.objs[om]? = some (.map (mapK m) (mapV pbool m))) (d : D) (v : Bool) :
    putAV ty s 208 (.map om) (.pv (keyPV d)) (.pv (.bool v)) = some { s.σ with objs := s.σ.objs.set om (.map (mapK (kset m d v)) (mapV pbool (kset m d v))) } :=
  put_map (f := pbool) rfl rfl rfl rfl ho d v rfl

set_option maxHeartbeats 1000000 in
theorem c_flat_calls (d : D) : ∀ (out : List D) (seen : List (D × Bool)) (σ : Store) (om kt : Nat) (hgl : σ.gl = (GL kr)) (hok : okE d = true) (hcm : CMAt σ om kt 24 (out, seen)) (hb : out.length + d.size ≤ 1000000000), ACalls Tryz.prog 203 [.pv (enc d), .acc (out.map enc) kt, .map om] σ (fun r σ' => r = .acc ((callsD d (out, seen)).1.map enc) kt ∧ σ' = setCM σ om kt (callsD d (out, seen))) := by
 induction d using D.ind with
 | _ kind num text kids ih =>
 generalize hD : D.mk kind num text kids = d at *
 have hk : d.kids = kids := by rw [← hD]; rfl
 clear hD
 subst hk
 have hkl := D.kids_length_lt d
 intro out seen σ om kt hgl hok hcm hb
 have hob := hcm.ob
 have htk := hcm.tk
 simp only at hob htk
 have hol := (List.getElem?_eq_some_iff.1 hob).1
 have hkt := (List.getElem?_eq_some_iff.1 htk).1
 have hds := d.size_pos
 have hpl := parts_len d
 have hbb : (out.length + 1) * 56 ≤ 140737488355328 := by omega
 have hlk := fun (s : St) (d : D) (ho : s.σ.objs[om]? = some (.map (mapK seen) (mapV pbool seen))) => look_seen ho d
 have hpt := fun (s : St) (d : D) (v : Bool) (ho : s.σ.objs[om]? = some (.map (mapK seen) (mapV pbool seen))) => put_seen ho d v
 refine acalls_of tyOk Tryz.func203 rfl (by simp [Tryz.f203]) ?_
 refine awp_seq (aR (by simp [go_sem, hob, hlk, hpt] <;> rfl) ?_)
 refine awp_seq (awp_seq (awp_reg ?_))
 refine aL 1 (by simp [go_sem, hob, hlk, hpt] <;> rfl) ?_
 refine aF call244 ((c_flat_IsCall d (okE_ne hok)) _ (by exact hgl)) (by simp [go_sem, hob, hlk, hpt] <;> rfl) (by simp [go_sem, hob, hlk, hpt]) ?_
 refine aL 1 (by simp [go_sem, hob, hlk, hpt] <;> rfl) ?_
 refine al_splitT 11 (by first | rfl | (simp [go_sem, hob, hlk, hpt] <;> rfl)) (fun h0 => ?_) (fun h0 => ?_)
 ·have hk3 := isCall_iff.1 h0
  have h2l := okE_two hok hk3.1 (.inr hk3.2)
  obtain ⟨x1, hx1, hx1m⟩ := get_lt (l := d.kids) (k := 1) (by omega)
  have hd1 : d1 d.kids = x1 := getD_of hx1
  have hx0 : ∃ x0, d.kids[0]? = some x0 := ⟨_, List.getElem?_eq_getElem (by omega)⟩
  refine aLG 5 11 true (by simp [go_sem, hob, hlk, hpt, hx1, htk, hbb] <;> rfl) ?_
  refine al_fnG 11 true true (by simp [go_sem]) rfl (by simp [go_sem]) rfl rfl (by simp [go_sem, hob, hlk, hpt, hx1, htk, hbb] <;> rfl) call127 ((c_flat_keyOf x1) _ (by exact hgl)) (by simp [go_sem, hob, hlk, hpt, hx1, htk, hbb] <;> rfl) (by simp [go_sem, hob, hlk, hpt, hx1, htk, hbb]) rfl rfl ?_
  refine aLG 2 11 true (by simp [go_sem, hob, hlk, hpt, hx1, htk, hbb] <;> rfl) ?_
  refine aL 1 (by simp [go_sem, hob, hlk, hpt, hx1, htk, hbb] <;> rfl) ?_
  refine al_nil ?_
  refine awp_cond (by first | rfl | (simp [go_sem, hob, hlk, hpt, hx1, htk, hbb] <;> rfl)) (fun h1 => ?_) (fun h1 => ?_)
  ·have hsn : seenB seen x1 = false := by simpa using h1
   have hcs : cst d (out, seen) 0 = (out ++ [x1], kset seen x1 true) := by rw [cst_zero]; exact callStep_yes h0 hd1 hsn
   refine awp_seq (awp_reg ?_)
   refine aL 5 (by simp [go_sem, hob, hlk, hpt, hx1, htk, hbb] <;> rfl) ?_
   refine aF call127 ((c_flat_keyOf x1) _ (by exact hgl)) (by simp [go_sem, hob, hlk, hpt, hx1, htk, hbb] <;> rfl) (by simp [go_sem, hob, hlk, hpt, hx1, htk, hbb]) ?_
   refine aL 1 (by simp [go_sem, hob, hlk, hpt, hx1, htk, hbb] <;> rfl) ?_
   refine al_nil ?_
   refine aR (by simp [go_sem, hob, hlk, hpt, hx1, htk, hbb] <;> rfl) ?_
   refine awp_seq (awp_seq (awp_reg ?_))
   refine aL 1 (by simp [go_sem, hob, hlk, hpt, hx1, htk, hbb] <;> rfl) ?_
   refine aF call211 ((c_flat_Parts d (okE_ne hok) (okE_two hok)) _ (by exact hgl)) (by simp [go_sem, hob, hlk, hpt, hx1, htk, hbb] <;> rfl) (by simp [go_sem, hob, hlk, hpt, hx1, htk, hbb]) ?_
   refine aL 2 (by simp [go_sem, hob, hlk, hpt, hx1, htk, hbb] <;> rfl) ?_
   refine al_nil ?_
   refine awp_block ?_
   refine awp_loop_headK σ.objs.length σ.toks.length 1 [2, 6, 35, 36] (fun k : Nat => [(1, .acc ((cst d (out, seen) k).1.map enc) kt), (37, .pv (.int .i64 ↑k))]) (fun k => setCM σ om kt (cst d (out, seen) k)) (fun k => k ≤ (parts d).length) (fun k => (parts d).length - k) 0 (Nat.zero_le _) ⟨by show setCM σ om kt (cst d (out, seen) 0) = _; rw [hcs]; first | (rw [setCM_self hcm]; simp [go_sem]) | simp [setCM, go_sem, List.take_of_length_le], rfl, by simp, by simp, by simp [go_sem, hob, hlk, hpt, hx1, htk, hbb, hcs, hkt, hol], fun ob h => setCM_mem h _ _ _, by simp [go_sem]⟩ ?_
   intro k hk
   refine awp_seq (aR (by simp [go_sem, hob, hlk, hpt, hx1, htk, hbb] <;> rfl) ?_)
   refine awp_seq (awp_cond (by first | rfl | (simp [go_sem, hob, hlk, hpt, hx1, htk, hbb] <;> rfl)) (fun h2 => ?_) (fun h2 => ?_))
   ·have hlt : k < (parts d).length := by simp at h2; omega
    have hw : IntKind.i64.wrap (↑k + 1) = (k : Int) + 1 := wrap_succ (by omega)
    obtain ⟨x, hx, hxm⟩ := get_lt hlt
    have hcn := cst_next (st := (out, seen)) hx
    have hcl := cst_len (st := (out, seen)) hx
    simp only at hcl
    refine awp_skip ?_
    refine awp_seq (awp_block ?_)
    refine awp_seq (aR (by simp [go_sem, hob, hlk, hpt, hx1, htk, hbb, hx] <;> rfl) ?_)
    refine awp_reg ?_
    refine aL 3 (by simp [go_sem, hob, hlk, hpt, hx1, htk, hbb, hx] <;> rfl) ?_
    refine al_callW rfl rfl rfl (by simp [go_sem, hob, hlk, hpt, hx1, htk, hbb, hx] <;> rfl) call203 (ih x (parts_mem hxm) (cst d (out, seen) k).1 (cst d (out, seen) k).2 _ om kt (by exact hgl) (okE_parts hok x hxm) (setCM_at hcm) (by omega)) (by simp [go_sem, hob, hlk, hpt, hx1, htk, hbb, hx] <;> rfl) (by simp [go_sem, hob, hlk, hpt, hx1, htk, hbb, hx]) rfl rfl ?_
    rintro r σ' ⟨rfl, rfl⟩
    refine aL 1 (by simp [go_sem, hob, hlk, hpt, hx1, htk, hbb, hx, setCM_setCM] <;> rfl) ?_
    refine al_nil ?_
    refine aR (by simp [go_sem, hob, hlk, hpt, hx1, htk, hbb, hx, setCM_setCM] <;> rfl) ?_
    exact next_intro (k + 1) σ.objs.length σ.toks.length 1 (hlt) (by omega) ⟨by show setCM σ om kt _ = (setCM σ om kt _).cut _ _; rw [setCM_cut, hcn], rfl, by simp, by simp, by simp [go_sem, hob, hlk, hpt, hx1, htk, hbb, hx, setCM_setCM, hw, hcn, hkt, hol, setCM_no, setCM_nt], fun ob h => setCM_mem h _ _ _, by simp [go_sem]⟩
   ·have hke : k = (parts d).length := by simp at h2; omega
    subst hke
    have hca := cst_all (d := d) (st := (out, seen))
    refine awp_exit ?_
    refine then_exit ?_
    refine then_exit ?_
    refine inBlock_hit ?_
    refine awp_seq (aR (by simp [go_sem, hob, hlk, hpt, hx1, htk, hbb, hca] <;> rfl) ?_)
    refine awp_ret ?_
    refine ends_ret (by simp [go_sem] <;> rfl) (by simp [go_sem]) ?_
    exact ⟨by simp [go_sem, hca], by simp [go_sem, hca]⟩
  ·have hsn : seenB seen x1 = true := by simpa using h1
   have hcs : cst d (out, seen) 0 = (out, seen) := by rw [cst_zero]; exact callStep_seen hd1 hsn
   refine awp_skip ?_
   refine awp_seq (awp_seq (awp_reg ?_))
   refine aL 1 (by simp [go_sem, hob, hlk, hpt, hx1, htk, hbb] <;> rfl) ?_
   refine aF call211 ((c_flat_Parts d (okE_ne hok) (okE_two hok)) _ (by exact hgl)) (by simp [go_sem, hob, hlk, hpt, hx1, htk, hbb] <;> rfl) (by simp [go_sem, hob, hlk, hpt, hx1, htk, hbb]) ?_
   refine aL 2 (by simp [go_sem, hob, hlk, hpt, hx1, htk, hbb] <;> rfl) ?_
   refine al_nil ?_
   refine awp_block ?_
   refine awp_loop_headK σ.objs.length σ.toks.length 1 [2, 6, 35, 36] (fun k : Nat => [(1, .acc ((cst d (out, seen) k).1.map enc) kt), (37, .pv (.int .i64 ↑k))]) (fun k => setCM σ om kt (cst d (out, seen) k)) (fun k => k ≤ (parts d).length) (fun k => (parts d).length - k) 0 (Nat.zero_le _) ⟨by show setCM σ om kt (cst d (out, seen) 0) = _; rw [hcs]; first | (rw [setCM_self hcm]; simp [go_sem]) | simp [setCM, go_sem, List.take_of_length_le], rfl, by simp, by simp, by simp [go_sem, hob, hlk, hpt, hx1, htk, hbb, hcs, hkt, hol], fun ob h => setCM_mem h _ _ _, by simp [go_sem]⟩ ?_
   intro k hk
   refine awp_seq (aR (by simp [go_sem, hob, hlk, hpt, hx1, htk, hbb] <;> rfl) ?_)
   refine awp_seq (awp_cond (by first | rfl | (simp [go_sem, hob, hlk, hpt, hx1, htk, hbb] <;> rfl)) (fun h3 => ?_) (fun h3 => ?_))
   ·have hlt : k < (parts d).length := by simp at h3; omega
    have hw : IntKind.i64.wrap (↑k + 1) = (k : Int) + 1 := wrap_succ (by omega)
    obtain ⟨x, hx, hxm⟩ := get_lt hlt
    have hcn := cst_next (st := (out, seen)) hx
    have hcl := cst_len (st := (out, seen)) hx
    simp only at hcl
    refine awp_skip ?_
    refine awp_seq (awp_block ?_)
    refine awp_seq (aR (by simp [go_sem, hob, hlk, hpt, hx1, htk, hbb, hx] <;> rfl) ?_)
    refine awp_reg ?_
    refine aL 3 (by simp [go_sem, hob, hlk, hpt, hx1, htk, hbb, hx] <;> rfl) ?_
    refine al_callW rfl rfl rfl (by simp [go_sem, hob, hlk, hpt, hx1, htk, hbb, hx] <;> rfl) call203 (ih x (parts_mem hxm) (cst d (out, seen) k).1 (cst d (out, seen) k).2 _ om kt (by exact hgl) (okE_parts hok x hxm) (setCM_at hcm) (by omega)) (by simp [go_sem, hob, hlk, hpt, hx1, htk, hbb, hx] <;> rfl) (by simp [go_sem, hob, hlk, hpt, hx1, htk, hbb, hx]) rfl rfl ?_
    rintro r σ' ⟨rfl, rfl⟩
    refine aL 1 (by simp [go_sem, hob, hlk, hpt, hx1, htk, hbb, hx, setCM_setCM] <;> rfl) ?_
    refine al_nil ?_
    refine aR (by simp [go_sem, hob, hlk, hpt, hx1, htk, hbb, hx, setCM_setCM] <;> rfl) ?_
    exact next_intro (k + 1) σ.objs.length σ.toks.length 1 (hlt) (by omega) ⟨by show setCM σ om kt _ = (setCM σ om kt _).cut _ _; rw [setCM_cut, hcn], rfl, by simp, by simp, by simp [go_sem, hob, hlk, hpt, hx1, htk, hbb, hx, setCM_setCM, hw, hcn, hkt, hol, setCM_no, setCM_nt], fun ob h => setCM_mem h _ _ _, by simp [go_sem]⟩
   ·have hke : k = (parts d).length := by simp at h3; omega
    subst hke
    have hca := cst_all (d := d) (st := (out, seen))
    refine awp_exit ?_
    refine then_exit ?_
    refine then_exit ?_
    refine inBlock_hit ?_
    refine awp_seq (aR (by simp [go_sem, hob, hlk, hpt, hx1, htk, hbb, hca] <;> rfl) ?_)
    refine awp_ret ?_
    refine ends_ret (by simp [go_sem] <;> rfl) (by simp [go_sem]) ?_
    exact ⟨by simp [go_sem, hca], by simp [go_sem, hca]⟩
 ·have hcs : cst d (out, seen) 0 = (out, seen) := by rw [cst_zero]; exact callStep_no h0
  refine aK 8 11 true ?_
  refine aL 1 (by simp [go_sem, hob, hlk, hpt, htk] <;> rfl) ?_
  refine al_nil ?_
  refine awp_cond (b := false) (by simp [go_sem, hob, hlk, hpt, htk, h0]) (fun h => ?_) (fun h => ?_)
  ·cases h
  refine awp_skip ?_
  refine awp_seq (awp_seq (awp_reg ?_))
  refine aL 1 (by simp [go_sem, hob, hlk, hpt, htk] <;> rfl) ?_
  refine aF call211 ((c_flat_Parts d (okE_ne hok) (okE_two hok)) _ (by exact hgl)) (by simp [go_sem, hob, hlk, hpt, htk] <;> rfl) (by simp [go_sem, hob, hlk, hpt, htk]) ?_
  refine aL 2 (by simp [go_sem, hob, hlk, hpt, htk] <;> rfl) ?_
  refine al_nil ?_
  refine awp_block ?_
  refine awp_loop_headK σ.objs.length σ.toks.length 1 [2, 6, 35, 36] (fun k : Nat => [(1, .acc ((cst d (out, seen) k).1.map enc) kt), (37, .pv (.int .i64 ↑k))]) (fun k => setCM σ om kt (cst d (out, seen) k)) (fun k => k ≤ (parts d).length) (fun k => (parts d).length - k) 0 (Nat.zero_le _) ⟨by show setCM σ om kt (cst d (out, seen) 0) = _; rw [hcs]; first | (rw [setCM_self hcm]; simp [go_sem]) | simp [setCM, go_sem, List.take_of_length_le], rfl, by simp, by simp, by simp [go_sem, hob, hlk, hpt, htk, hcs, hkt, hol], fun ob h => setCM_mem h _ _ _, by simp [go_sem]⟩ ?_
  intro k hk
  refine awp_seq (aR (by simp [go_sem, hob, hlk, hpt, htk] <;> rfl) ?_)
  refine awp_seq (awp_cond (by first | rfl | (simp [go_sem, hob, hlk, hpt, htk] <;> rfl)) (fun h4 => ?_) (fun h4 => ?_))
  ·have hlt : k < (parts d).length := by simp at h4; omega
   have hw : IntKind.i64.wrap (↑k + 1) = (k : Int) + 1 := wrap_succ (by omega)
   obtain ⟨x, hx, hxm⟩ := get_lt hlt
   have hcn := cst_next (st := (out, seen)) hx
   have hcl := cst_len (st := (out, seen)) hx
   simp only at hcl
   refine awp_skip ?_
   refine awp_seq (awp_block ?_)
   refine awp_seq (aR (by simp [go_sem, hob, hlk, hpt, htk, hx] <;> rfl) ?_)
   refine awp_reg ?_
   refine aL 3 (by simp [go_sem, hob, hlk, hpt, htk, hx] <;> rfl) ?_
   refine al_callW rfl rfl rfl (by simp [go_sem, hob, hlk, hpt, htk, hx] <;> rfl) call203 (ih x (parts_mem hxm) (cst d (out, seen) k).1 (cst d (out, seen) k).2 _ om kt (by exact hgl) (okE_parts hok x hxm) (setCM_at hcm) (by omega)) (by simp [go_sem, hob, hlk, hpt, htk, hx] <;> rfl) (by simp [go_sem, hob, hlk, hpt, htk, hx]) rfl rfl ?_
   rintro r σ' ⟨rfl, rfl⟩
   refine aL 1 (by simp [go_sem, hob, hlk, hpt, htk, hx, setCM_setCM] <;> rfl) ?_
   refine al_nil ?_
   refine aR (by simp [go_sem, hob, hlk, hpt, htk, hx, setCM_setCM] <;> rfl) ?_
   exact next_intro (k + 1) σ.objs.length σ.toks.length 1 (hlt) (by omega) ⟨by show setCM σ om kt _ = (setCM σ om kt _).cut _ _; rw [setCM_cut, hcn], rfl, by simp, by simp, by simp [go_sem, hob, hlk, hpt, htk, hx, setCM_setCM, hw, hcn, hkt, hol, setCM_no, setCM_nt], fun ob h => setCM_mem h _ _ _, by simp [go_sem]⟩
  ·have hke : k = (parts d).length := by simp at h4; omega
   subst hke
   have hca := cst_all (d := d) (st := (out, seen))
   refine awp_exit ?_
   refine then_exit ?_
   refine then_exit ?_
   refine inBlock_hit ?_
   refine awp_seq (aR (by simp [go_sem, hob, hlk, hpt, htk, hca] <;> rfl) ?_)
   refine awp_ret ?_
   refine ends_ret (by simp [go_sem] <;> rfl) (by simp [go_sem]) ?_
   exact ⟨by simp [go_sem, hca], by simp [go_sem, hca]⟩

theorem put_def {s : St} {o : Nat} {m : List (D × D)} (ho : s.σ.objs[o]? = some (.map (mapK m) (mapV enc m))) (d v : D) :
    putAV ty s 206 (.map o) (.pv (keyPV d)) (.pv (enc v)) = some { s.σ with objs := s.σ.objs.set o (.map (mapK (kset m d v)) (mapV enc (kset m d v))) } :=
  put_map (f := enc) rfl rfl rfl rfl ho d v (by simp only [toPV, atomToPV, Option.map_some, nrm_enc])
theorem look_def {s : St} {o : Nat} {m : List (D × D)} (ho : s.σ.objs[o]? = some (.map (mapK m) (mapV enc m))) (d v : D) (hv : kget m d = some v) :
    lookAV ty s 206 (.map o) (.pv (keyPV d)) false = some (.pv (enc v)) := by
  rw [look_map (f := enc) rfl rfl rfl rfl rfl ho, hv]; rfl

set_option maxHeartbeats 1000000 in
theorem c_flat_defs (p : D) (hp : p.size ≤ 1000000000) (hkn : ∀ x, x ∈ p.kids → x.kids ≠ []) (σ : Store) (hgl : σ.gl = (GL kr)) : ACalls Tryz.prog 202 [.pv (enc p)] σ (fun r σ' => r = .map σ.objs.length ∧ σ' = withM σ (defsL p.kids)) := by
 have hkl := D.kids_length_lt p
 have hmg := fun (m : List (D × D)) => withM_get (σ := σ) (m := m)
 refine acalls_of tyOk Tryz.func202 rfl (by simp [Tryz.f202]) ?_
 refine awp_seq (aR (by simp [go_sem] <;> rfl) ?_)
 refine awp_seq (aR (by simp [go_sem] <;> rfl) ?_)
 refine awp_seq (awp_seq (aR (by simp [go_sem] <;> rfl) ?_))
 refine awp_block ?_
 refine awp_loop_headK (σ.objs.length + 1) σ.toks.length 1 [2, 3, 8, 9] (fun k : Nat => [(10, .pv (.int .i64 ↑k))]) (fun k => withM σ (defsK p.kids k)) (fun k => k ≤ p.kids.length) (fun k => p.kids.length - k) 0 (Nat.zero_le _) ⟨by show withM σ (defsK p.kids 0) = _; rw [defsK_zero]; simp [withM, mapK, mapV, go_sem, List.take_of_length_le], rfl, by simp, by simp, by simp [go_sem], fun ob h => withM_mem h _ _ _, by simp [go_sem]⟩ ?_
 intro k hk
 refine awp_seq (aR (by simp [go_sem] <;> rfl) ?_)
 refine awp_seq (awp_cond (by first | rfl | (simp [go_sem] <;> rfl)) (fun h0 => ?_) (fun h0 => ?_))
 ·have hlt : k < p.kids.length := by simp at h0; omega
  have hw : IntKind.i64.wrap (↑k + 1) = (k : Int) + 1 := wrap_succ (by omega)
  obtain ⟨x, hx, hxm⟩ := get_lt hlt
  obtain ⟨x0, xr, hxk⟩ := kids_cons (hkn x hxm)
  have hxh := head_cons hxk
  have hx0 : x.kids[0]? = some x0 := by rw [hxk]; rfl
  have hdn := defsK_next hx
  have hpt := fun (s : St) (d v : D) (ho : s.σ.objs[σ.objs.length]? = some (.map (mapK (defsK p.kids k)) (mapV enc (defsK p.kids k)))) => put_def ho d v
  refine awp_skip ?_
  refine awp_seq (awp_block ?_)
  refine awp_seq (aR (by simp [go_sem, hx, hx0, hpt, hmg, withM_set] <;> rfl) ?_)
  refine awp_regDC tyOk tySz 7 (by kernel_rfl) (by decide) ?_
  refine ul_run 5 (by simp [go_sem, hx, hx0, hpt, hmg, withM_set] <;> rfl) ?_
  refine ul_fn (by first | (intro _ _ hh; exact hh) | simp [go_sem]) rfl rfl rfl rfl (by simp [go_sem, hx, hx0, hpt, hmg, withM_set] <;> rfl) call127 ((c_flat_keyOf x0) _ (by exact hgl)) (by simp [go_sem, hx, hx0, hpt, hmg, withM_set] <;> rfl) (by simp [go_sem, hx, hx0, hpt, hmg, withM_set]) rfl rfl ?_
  refine ul_run 1 (by simp [go_sem, hx, hx0, hpt, hmg, withM_set] <;> rfl) ?_
  refine ul_nil ?_
  refine aL 1 (by simp [go_sem, hx, hx0, hpt, hmg, withM_set] <;> rfl) ?_
  refine al_nil ?_
  refine aR (by simp [go_sem, hx, hx0, hpt, hmg, withM_set] <;> rfl) ?_
  exact next_intro (k + 1) (σ.objs.length + 1) σ.toks.length 1 (hlt) (by omega) ⟨by show withM σ _ = Store.cut _ _ _; rw [hdn, hxh]; first | exact withM_cut1.symm | simp [withM, go_sem, List.take_of_length_le], rfl, by simp, by simp, by simp [go_sem, hx, hx0, hpt, hmg, withM_set, hw], fun ob h => withM_mem h _ _ _, by simp [go_sem]⟩
 ·have hke : k = p.kids.length := by simp at h0; omega
  subst hke
  refine awp_exit ?_
  refine then_exit ?_
  refine then_exit ?_
  refine inBlock_hit ?_
  refine awp_seq (aR (by simp [go_sem] <;> rfl) ?_)
  refine awp_ret ?_
  refine ends_ret (by simp [go_sem] <;> rfl) (by simp [go_sem]) ?_
  exact ⟨by simp [go_sem], by simp [go_sem, defsK_all]⟩

end Go.Proofs.YtnibcmaaehkhlaaGreatDoor
