/- Part of the proof that the statement holds for every input that its row lets in: the contracts of the program's functions, printed by a program out of annotations; the statement itself stands at the end of the last part. -/
import Derived.Test.YtigideidmcmfbaaGreatDoorProg
import Derived.Test.YtigideidmcmfbaaGreatDoorZA2
import Derived.Test.YtigideidmcmfbaaGreatDoorZA3
import Derived.Shelf.LaysM
import Derived.Shelf.Small.Strs
import Derived.Shelf.Strconv.Itoa4
import Derived.Shelf.Spec.SlicesGrow
set_option linter.unusedSimpArgs false
set_option linter.unusedVariables false
namespace Go.Proofs.YtigideidmcmfbaaGreatDoor
open Go Go.Aw
def tyL : List (Nat × TyI) :=
  [(1, ⟨1, 8, .func, [], [.nilfn], none, []⟩),
   (2, ⟨1, 8, .int .i64, [], [.int .i64 0], none, []⟩),
   (3, ⟨1, 8, .int .i64, [], [.int .i64 0], none, []⟩),
   (4, ⟨1, 1, .bool, [], [.bool false], none, []⟩),
   (5, ⟨1, 1, .int .u8, [], [.int .u8 0], none, []⟩),
   (6, ⟨1, 1, .int .u8, [], [.int .u8 0], none, []⟩),
   (7, ⟨4, 24, .struct, [(0, 1), (1, 1), (2, 1), (3, 1)], [.int .i64 0, .int .i64 0, .bool false, .int .u8 0], none, [2, 3, 4, 6]⟩),
   (8, ⟨4, 24, .struct, [(0, 1), (1, 1), (2, 1), (3, 1)], [.int .i64 0, .int .i64 0, .bool false, .int .u8 0], none, [2, 3, 4, 6]⟩),
   (9, ⟨1, 16, .str, [], [.str ⟨#[]⟩], some (.one (.str)), []⟩),
   (10, ⟨1, 16, .str, [], [.str ⟨#[]⟩], none, []⟩),
   (11, ⟨1, 16, .str, [], [.str ⟨#[]⟩], none, []⟩),
   (12, ⟨1, 8, .int .u64, [], [.int .u64 0], none, []⟩),
   (13, ⟨2, 24, .struct, [(0, 1), (1, 1)], [.str ⟨#[]⟩, .int .u64 0], none, [9, 12]⟩),
   (14, ⟨2, 24, .struct, [(0, 1), (1, 1)], [.str ⟨#[]⟩, .int .u64 0], none, [9, 12]⟩),
   (15, ⟨1, 8, .ptr 242, [], [.nilp], none, []⟩),
   (16, ⟨1, 8, .ptr 245, [], [.nilp], none, []⟩),
   (17, ⟨1, 8, .ptr 254, [], [.nilp], none, []⟩),
   (18, ⟨1, 8, .struct, [(0, 1)], [.nilp], none, [17]⟩),
   (19, ⟨1, 8, .struct, [(0, 1)], [.nilp], none, [17]⟩),
   (20, ⟨1, 16, .iface, [], [.nilif], none, []⟩),
   (21, ⟨1, 4, .int .i32, [], [.int .i32 0], none, []⟩),
   (22, ⟨1, 24, .slice 24, [], [.nils], none, []⟩),
   (23, ⟨4, 56, .struct, [(0, 1), (1, 1), (2, 1), (3, 1)], [.int .i64 0, .int .i64 0, .str ⟨#[]⟩, .nils], none, [3, 2, 9, 22]⟩),
   (24, ⟨4, 56, .struct, [(0, 1), (1, 1), (2, 1), (3, 1)], [.int .i64 0, .int .i64 0, .str ⟨#[]⟩, .nils], none, [3, 2, 9, 22]⟩),
   (25, ⟨1, 24, .slice 9, [], [.nils], none, []⟩),
   (26, ⟨1, 8, .func, [], [.nilfn], none, []⟩),
   (27, ⟨1, 8, .int .i64, [], [.int .i64 0], none, []⟩),
   (29, ⟨1, 8, .func, [], [.nilfn], none, []⟩),
   (31, ⟨1, 8, .func, [], [.nilfn], none, []⟩),
   (32, ⟨1, 8, .func, [], [.nilfn], none, []⟩),
   (33, ⟨1, 8, .func, [], [.nilfn], none, []⟩),
   (34, ⟨1, 8, .func, [], [.nilfn], none, []⟩),
   (35, ⟨1, 8, .func, [], [.nilfn], none, []⟩),
   (36, ⟨1, 8, .func, [], [.nilfn], none, []⟩),
   (37, ⟨1, 8, .func, [], [.nilfn], none, []⟩),
   (38, ⟨1, 8, .func, [], [.nilfn], none, []⟩),
   (40, ⟨1, 8, .func, [], [.nilfn], none, []⟩),
   (41, ⟨1, 8, .func, [], [.nilfn], none, []⟩),
   (42, ⟨1, 8, .func, [], [.nilfn], none, []⟩),
   (43, ⟨1, 8, .func, [], [.nilfn], none, []⟩),
   (44, ⟨1, 24, .slice 3, [], [.nils], none, []⟩),
   (46, ⟨1, 8, .func, [], [.nilfn], none, []⟩),
   (47, ⟨1, 24, .slice 52, [], [.nils], none, []⟩),
   (48, ⟨1, 8, .func, [], [.nilfn], none, []⟩),
   (49, ⟨1, 8, .func, [], [.nilfn], none, []⟩),
   (50, ⟨1, 24, .slice 54, [], [.nils], none, []⟩),
   (51, ⟨3, 64, .struct, [(0, 1), (1, 1), (2, 1)], [.str ⟨#[]⟩, .nils, .nils], none, [9, 44, 50]⟩),
   (52, ⟨3, 64, .struct, [(0, 1), (1, 1), (2, 1)], [.str ⟨#[]⟩, .nils, .nils], none, [9, 44, 50]⟩),
   (53, ⟨3, 48, .struct, [(0, 1), (1, 1), (2, 1)], [.str ⟨#[]⟩, .nils, .int .i64 0], none, [9, 44, 3]⟩),
   (54, ⟨3, 48, .struct, [(0, 1), (1, 1), (2, 1)], [.str ⟨#[]⟩, .nils, .int .i64 0], none, [9, 44, 3]⟩),
   (56, ⟨1, 8, .func, [], [.nilfn], none, []⟩),
   (57, ⟨1, 8, .func, [], [.nilfn], none, []⟩),
   (58, ⟨1, 8, .func, [], [.nilfn], none, []⟩),
   (60, ⟨1, 8, .func, [], [.nilfn], none, []⟩),
   (61, ⟨1, 24, .slice 44, [], [.nils], none, []⟩),
   (62, ⟨1, 8, .func, [], [.nilfn], none, []⟩),
   (64, ⟨1, 8, .func, [], [.nilfn], none, []⟩),
   (65, ⟨1, 8, .func, [], [.nilfn], none, []⟩),
   (67, ⟨1, 8, .func, [], [.nilfn], none, []⟩),
   (68, ⟨1, 8, .func, [], [.nilfn], none, []⟩),
   (69, ⟨1, 8, .func, [], [.nilfn], none, []⟩),
   (70, ⟨1, 8, .func, [], [.nilfn], none, []⟩),
   (71, ⟨1, 8, .func, [], [.nilfn], none, []⟩),
   (72, ⟨1, 8, .func, [], [.nilfn], none, []⟩),
   (73, ⟨1, 8, .func, [], [.nilfn], none, []⟩),
   (74, ⟨1, 8, .func, [], [.nilfn], none, []⟩),
   (75, ⟨1, 8, .func, [], [.nilfn], none, []⟩),
   (76, ⟨1, 8, .func, [], [.nilfn], none, []⟩),
   (77, ⟨1, 8, .func, [], [.nilfn], none, []⟩),
   (78, ⟨1, 8, .map 9 4, [], [.nilmap], none, []⟩),
   (79, ⟨1, 8, .func, [], [.nilfn], none, []⟩),
   (80, ⟨1, 8, .func, [], [.nilfn], none, []⟩),
   (81, ⟨1, 8, .func, [], [.nilfn], none, []⟩),
   (82, ⟨2, 32, .struct, [(0, 1), (1, 1)], [.nils, .int .i64 0], none, [44, 3]⟩),
   (83, ⟨2, 32, .struct, [(0, 1), (1, 1)], [.nils, .int .i64 0], none, [44, 3]⟩),
   (84, ⟨1, 8, .ptr 89, [], [.nilp], none, []⟩),
   (85, ⟨1, 24, .slice 83, [], [.nils], none, []⟩),
   (86, ⟨1, 8, .func, [], [.nilfn], none, []⟩),
   (87, ⟨1, 8, .func, [], [.nilfn], none, []⟩),
   (88, ⟨2, 16, .struct, [(0, 1), (1, 1)], [.nilfn, .nilfn], none, [86, 87]⟩),
   (89, ⟨2, 16, .struct, [(0, 1), (1, 1)], [.nilfn, .nilfn], none, [86, 87]⟩),
   (90, ⟨1, 8, .func, [], [.nilfn], none, []⟩),
   (91, ⟨1, 8, .func, [], [.nilfn], none, []⟩),
   (92, ⟨1, 8, .func, [], [.nilfn], none, []⟩),
   (93, ⟨1, 8, .func, [], [.nilfn], none, []⟩),
   (94, ⟨1, 8, .ptr 96, [], [.nilp], none, []⟩),
   (95, ⟨1, 8, .struct, [(0, 1)], [.int .i64 0], none, [3]⟩),
   (96, ⟨1, 8, .struct, [(0, 1)], [.int .i64 0], none, [3]⟩),
   (97, ⟨1, 8, .func, [], [.nilfn], none, []⟩),
   (99, ⟨1, 8, .func, [], [.nilfn], none, []⟩),
   (100, ⟨1, 8, .func, [], [.nilfn], none, []⟩),
   (101, ⟨1, 8, .func, [], [.nilfn], none, []⟩),
   (102, ⟨1, 8, .func, [], [.nilfn], none, []⟩),
   (103, ⟨1, 8, .map 9 9, [], [.nilmap], none, []⟩),
   (104, ⟨1, 8, .func, [], [.nilfn], none, []⟩),
   (105, ⟨1, 8, .func, [], [.nilfn], none, []⟩),
   (106, ⟨1, 8, .func, [], [.nilfn], none, []⟩),
   (107, ⟨1, 8, .func, [], [.nilfn], none, []⟩),
   (109, ⟨1, 8, .func, [], [.nilfn], none, []⟩),
   (110, ⟨1, 8, .func, [], [.nilfn], none, []⟩),
   (111, ⟨1, 8, .func, [], [.nilfn], none, []⟩),
   (112, ⟨1, 8, .func, [], [.nilfn], none, []⟩),
   (113, ⟨1, 8, .func, [], [.nilfn], none, []⟩),
   (114, ⟨1, 8, .ptr 24, [], [.nilp], none, []⟩),
   (115, ⟨1, 8, .func, [], [.nilfn], none, []⟩),
   (116, ⟨1, 8, .map 9 3, [], [.nilmap], none, []⟩),
   (117, ⟨1, 8, .func, [], [.nilfn], none, []⟩),
   (118, ⟨1, 8, .func, [], [.nilfn], none, []⟩),
   (119, ⟨1, 8, .func, [], [.nilfn], none, []⟩),
   (120, ⟨1, 8, .func, [], [.nilfn], none, []⟩),
   (121, ⟨1, 8, .func, [], [.nilfn], none, []⟩),
   (122, ⟨1, 8, .func, [], [.nilfn], none, []⟩),
   (124, ⟨1, 8, .func, [], [.nilfn], none, []⟩),
   (125, ⟨1, 8, .func, [], [.nilfn], none, []⟩),
   (126, ⟨1, 8, .func, [], [.nilfn], none, []⟩),
   (127, ⟨1, 8, .ptr 179, [], [.nilp], none, []⟩),
   (129, ⟨1, 8, .func, [], [.nilfn], none, []⟩),
   (130, ⟨1, 8, .func, [], [.nilfn], none, []⟩),
   (131, ⟨1, 8, .func, [], [.nilfn], none, []⟩),
   (132, ⟨1, 8, .func, [], [.nilfn], none, []⟩),
   (133, ⟨1, 8, .func, [], [.nilfn], none, []⟩),
   (134, ⟨1, 8, .func, [], [.nilfn], none, []⟩),
   (135, ⟨1, 24, .slice 50, [], [.nils], none, []⟩),
   (136, ⟨1, 8, .func, [], [.nilfn], none, []⟩),
   (137, ⟨1, 8, .func, [], [.nilfn], none, []⟩),
   (138, ⟨1, 8, .func, [], [.nilfn], none, []⟩),
   (139, ⟨1, 8, .func, [], [.nilfn], none, []⟩),
   (140, ⟨1, 8, .func, [], [.nilfn], none, []⟩),
   (141, ⟨1, 8, .int .u64, [], [.int .u64 0], none, []⟩),
   (143, ⟨1, 8, .func, [], [.nilfn], none, []⟩),
   (144, ⟨1, 8, .func, [], [.nilfn], none, []⟩),
   (145, ⟨1, 8, .ptr 150, [], [.nilp], none, []⟩),
   (146, ⟨1, 8, .func, [], [.nilfn], none, []⟩),
   (147, ⟨1, 8, .func, [], [.nilfn], none, []⟩),
   (148, ⟨1, 8, .func, [], [.nilfn], none, []⟩),
   (149, ⟨3, 40, .struct, [(0, 1), (1, 1), (2, 1)], [.str ⟨#[]⟩, .str ⟨#[]⟩, .nilp], none, [9, 9, 145]⟩),
   (150, ⟨3, 40, .struct, [(0, 1), (1, 1), (2, 1)], [.str ⟨#[]⟩, .str ⟨#[]⟩, .nilp], none, [9, 9, 145]⟩),
   (151, ⟨1, 8, .ptr 156, [], [.nilp], none, []⟩),
   (152, ⟨1, 24, .slice 4, [], [.nils], none, []⟩),
   (153, ⟨1, 8, .func, [], [.nilfn], none, []⟩),
   (154, ⟨1, 8, .func, [], [.nilfn], none, []⟩),
   (155, ⟨2, 16, .struct, [(0, 1), (1, 1)], [.nilfn, .nilfn], none, [153, 154]⟩),
   (156, ⟨2, 16, .struct, [(0, 1), (1, 1)], [.nilfn, .nilfn], none, [153, 154]⟩),
   (157, ⟨1, 8, .func, [], [.nilfn], none, []⟩),
   (158, ⟨1, 8, .func, [], [.nilfn], none, []⟩),
   (159, ⟨1, 8, .ptr 164, [], [.nilp], none, []⟩),
   (160, ⟨1, 8, .func, [], [.nilfn], none, []⟩),
   (161, ⟨1, 8, .func, [], [.nilfn], none, []⟩),
   (162, ⟨1, 8, .func, [], [.nilfn], none, []⟩),
   (163, ⟨2, 16, .struct, [(0, 1), (1, 1)], [.nilfn, .nilfn], none, [161, 162]⟩),
   (164, ⟨2, 16, .struct, [(0, 1), (1, 1)], [.nilfn, .nilfn], none, [161, 162]⟩),
   (165, ⟨1, 8, .func, [], [.nilfn], none, []⟩),
   (166, ⟨1, 8, .func, [], [.nilfn], none, []⟩),
   (167, ⟨1, 8, .func, [], [.nilfn], none, []⟩),
   (168, ⟨1, 8, .func, [], [.nilfn], none, []⟩),
   (169, ⟨1, 24, .slice 171, [], [.nils], none, []⟩),
   (170, ⟨5, 64, .struct, [(0, 1), (1, 1), (2, 1), (3, 1), (4, 1)], [.int .i64 0, .int .i64 0, .str ⟨#[]⟩, .nils, .int .i64 0], none, [3, 2, 9, 169, 3]⟩),
   (171, ⟨5, 64, .struct, [(0, 1), (1, 1), (2, 1), (3, 1), (4, 1)], [.int .i64 0, .int .i64 0, .str ⟨#[]⟩, .nils, .int .i64 0], none, [3, 2, 9, 169, 3]⟩),
   (173, ⟨1, 8, .func, [], [.nilfn], none, []⟩),
   (174, ⟨1, 8, .func, [], [.nilfn], none, []⟩),
   (175, ⟨1, 8, .func, [], [.nilfn], none, []⟩),
   (176, ⟨1, 8, .func, [], [.nilfn], none, []⟩),
   (177, ⟨1, 8, .func, [], [.nilfn], none, []⟩),
   (178, ⟨4, 56, .struct, [(0, 1), (1, 2), (3, 1)], [.str ⟨#[]⟩, .nils, .int .i64 0, .nilp], none, [9, 83, 127]⟩),
   (179, ⟨4, 56, .struct, [(0, 1), (1, 2), (3, 1)], [.str ⟨#[]⟩, .nils, .int .i64 0, .nilp], none, [9, 83, 127]⟩),
   (180, ⟨1, 8, .func, [], [.nilfn], none, []⟩),
   (181, ⟨1, 8, .func, [], [.nilfn], none, []⟩),
   (182, ⟨1, 8, .func, [], [.nilfn], none, []⟩),
   (183, ⟨1, 8, .func, [], [.nilfn], none, []⟩),
   (184, ⟨1, 8, .func, [], [.nilfn], none, []⟩),
   (185, ⟨1, 24, .slice 5, [], [.nils], none, []⟩),
   (186, ⟨1, 8, .ptr 205, [], [.nilp], none, []⟩),
   (188, ⟨1, 8, .func, [], [.nilfn], none, []⟩),
   (189, ⟨1, 8, .func, [], [.nilfn], none, []⟩),
   (190, ⟨1, 8, .func, [], [.nilfn], none, []⟩),
   (191, ⟨1, 8, .func, [], [.nilfn], none, []⟩),
   (192, ⟨1, 8, .func, [], [.nilfn], none, []⟩),
   (193, ⟨1, 8, .func, [], [.nilfn], none, []⟩),
   (194, ⟨1, 8, .int .u64, [], [.int .u64 0], none, []⟩),
   (195, ⟨1, 8, .ptr 197, [], [.nilp], none, []⟩),
   (196, ⟨4, 40, .struct, [(0, 1), (1, 1), (2, 1), (3, 1)], [.str ⟨#[]⟩, .int .i64 0, .int .i64 0, .int .i64 0], none, [9, 3, 27, 3]⟩),
   (197, ⟨4, 40, .struct, [(0, 1), (1, 1), (2, 1), (3, 1)], [.str ⟨#[]⟩, .int .i64 0, .int .i64 0, .int .i64 0], none, [9, 3, 27, 3]⟩),
   (198, ⟨1, 8, .func, [], [.nilfn], none, []⟩),
   (199, ⟨1, 8, .func, [], [.nilfn], none, []⟩),
   (200, ⟨1, 8, .func, [], [.nilfn], none, []⟩),
   (201, ⟨1, 8, .func, [], [.nilfn], none, []⟩),
   (203, ⟨1, 8, .func, [], [.nilfn], none, []⟩),
   (204, ⟨3, 32, .struct, [(0, 1), (1, 1), (2, 1)], [.str ⟨#[]⟩, .bool false, .nilp], none, [9, 4, 186]⟩),
   (205, ⟨3, 32, .struct, [(0, 1), (1, 1), (2, 1)], [.str ⟨#[]⟩, .bool false, .nilp], none, [9, 4, 186]⟩),
   (206, ⟨1, 8, .func, [], [.nilfn], none, []⟩),
   (207, ⟨1, 8, .int .i64, [], [.int .i64 0], none, []⟩),
   (209, ⟨1, 8, .func, [], [.nilfn], none, []⟩),
   (210, ⟨1, 8, .func, [], [.nilfn], none, []⟩),
   (211, ⟨1, 8, .func, [], [.nilfn], none, []⟩),
   (212, ⟨1, 8, .func, [], [.nilfn], none, []⟩),
   (214, ⟨1, 8, .func, [], [.nilfn], none, []⟩),
   (215, ⟨1, 8, .func, [], [.nilfn], none, []⟩),
   (216, ⟨1, 4, .int .u32, [], [.int .u32 0], none, []⟩),
   (217, ⟨1, 8, .func, [], [.nilfn], none, []⟩),
   (218, ⟨1, 8, .func, [], [.nilfn], none, []⟩),
   (219, ⟨24, 24, .array 24 5, [], [.int .u8 0, .int .u8 0, .int .u8 0, .int .u8 0, .int .u8 0, .int .u8 0, .int .u8 0, .int .u8 0, .int .u8 0, .int .u8 0, .int .u8 0, .int .u8 0, .int .u8 0, .int .u8 0, .int .u8 0, .int .u8 0, .int .u8 0, .int .u8 0, .int .u8 0, .int .u8 0, .int .u8 0, .int .u8 0, .int .u8 0, .int .u8 0], none, []⟩),
   (220, ⟨1, 8, .func, [], [.nilfn], none, []⟩),
   (222, ⟨1, 8, .func, [], [.nilfn], none, []⟩),
   (223, ⟨1, 8, .int .u64, [], [.int .u64 0], none, []⟩),
   (224, ⟨1, 8, .func, [], [.nilfn], none, []⟩),
   (225, ⟨1, 8, .func, [], [.nilfn], none, []⟩),
   (226, ⟨1, 8, .func, [], [.nilfn], none, []⟩),
   (227, ⟨1, 8, .ptr 3, [], [.nilp], none, []⟩),
   (228, ⟨1, 8, .func, [], [.nilfn], none, []⟩),
   (230, ⟨1, 8, .func, [], [.nilfn], none, []⟩),
   (231, ⟨1, 8, .func, [], [.nilfn], none, []⟩),
   (232, ⟨1, 8, .func, [], [.nilfn], none, []⟩),
   (233, ⟨20, 160, .array 20 141, [], [.int .u64 0, .int .u64 0, .int .u64 0, .int .u64 0, .int .u64 0, .int .u64 0, .int .u64 0, .int .u64 0, .int .u64 0, .int .u64 0, .int .u64 0, .int .u64 0, .int .u64 0, .int .u64 0, .int .u64 0, .int .u64 0, .int .u64 0, .int .u64 0, .int .u64 0, .int .u64 0], none, []⟩),
   (234, ⟨65, 65, .array 65 5, [], [.int .u8 0, .int .u8 0, .int .u8 0, .int .u8 0, .int .u8 0, .int .u8 0, .int .u8 0, .int .u8 0, .int .u8 0, .int .u8 0, .int .u8 0, .int .u8 0, .int .u8 0, .int .u8 0, .int .u8 0, .int .u8 0, .int .u8 0, .int .u8 0, .int .u8 0, .int .u8 0, .int .u8 0, .int .u8 0, .int .u8 0, .int .u8 0, .int .u8 0, .int .u8 0, .int .u8 0, .int .u8 0, .int .u8 0, .int .u8 0, .int .u8 0, .int .u8 0, .int .u8 0, .int .u8 0, .int .u8 0, .int .u8 0, .int .u8 0, .int .u8 0, .int .u8 0, .int .u8 0, .int .u8 0, .int .u8 0, .int .u8 0, .int .u8 0, .int .u8 0, .int .u8 0, .int .u8 0, .int .u8 0, .int .u8 0, .int .u8 0, .int .u8 0, .int .u8 0, .int .u8 0, .int .u8 0, .int .u8 0, .int .u8 0, .int .u8 0, .int .u8 0, .int .u8 0, .int .u8 0, .int .u8 0, .int .u8 0, .int .u8 0, .int .u8 0, .int .u8 0], none, []⟩),
   (235, ⟨1, 8, .func, [], [.nilfn], none, []⟩),
   (236, ⟨1, 8, .ptr 223, [], [.nilp], none, []⟩),
   (238, ⟨1, 8, .func, [], [.nilfn], none, []⟩),
   (239, ⟨32, 32, .array 32 5, [], [.int .u8 0, .int .u8 0, .int .u8 0, .int .u8 0, .int .u8 0, .int .u8 0, .int .u8 0, .int .u8 0, .int .u8 0, .int .u8 0, .int .u8 0, .int .u8 0, .int .u8 0, .int .u8 0, .int .u8 0, .int .u8 0, .int .u8 0, .int .u8 0, .int .u8 0, .int .u8 0, .int .u8 0, .int .u8 0, .int .u8 0, .int .u8 0, .int .u8 0, .int .u8 0, .int .u8 0, .int .u8 0, .int .u8 0, .int .u8 0, .int .u8 0, .int .u8 0], none, []⟩),
   (240, ⟨64, 64, .array 64 5, [], [.int .u8 0, .int .u8 0, .int .u8 0, .int .u8 0, .int .u8 0, .int .u8 0, .int .u8 0, .int .u8 0, .int .u8 0, .int .u8 0, .int .u8 0, .int .u8 0, .int .u8 0, .int .u8 0, .int .u8 0, .int .u8 0, .int .u8 0, .int .u8 0, .int .u8 0, .int .u8 0, .int .u8 0, .int .u8 0, .int .u8 0, .int .u8 0, .int .u8 0, .int .u8 0, .int .u8 0, .int .u8 0, .int .u8 0, .int .u8 0, .int .u8 0, .int .u8 0, .int .u8 0, .int .u8 0, .int .u8 0, .int .u8 0, .int .u8 0, .int .u8 0, .int .u8 0, .int .u8 0, .int .u8 0, .int .u8 0, .int .u8 0, .int .u8 0, .int .u8 0, .int .u8 0, .int .u8 0, .int .u8 0, .int .u8 0, .int .u8 0, .int .u8 0, .int .u8 0, .int .u8 0, .int .u8 0, .int .u8 0, .int .u8 0, .int .u8 0, .int .u8 0, .int .u8 0, .int .u8 0, .int .u8 0, .int .u8 0, .int .u8 0, .int .u8 0], none, []⟩),
   (241, ⟨4, 40, .struct, [(0, 1), (1, 1), (2, 1), (3, 1)], [.nilp, .nilp, .nilp, .str ⟨#[]⟩], none, [17, 17, 17, 9]⟩),
   (242, ⟨4, 40, .struct, [(0, 1), (1, 1), (2, 1), (3, 1)], [.nilp, .nilp, .nilp, .str ⟨#[]⟩], none, [17, 17, 17, 9]⟩),
   (246, ⟨1, 8, .func, [], [.nilfn], none, []⟩),
   (247, ⟨1, 1, .int .u8, [], [.int .u8 0], none, []⟩),
   (248, ⟨1, 1, .int .u8, [], [.int .u8 0], none, []⟩),
   (249, ⟨1, 8, .func, [], [.nilfn], none, []⟩),
   (250, ⟨1, 8, .ptr 5, [], [.nilp], none, []⟩),
   (251, ⟨1, 4, .int .i32, [], [.int .i32 0], none, []⟩),
   (252, ⟨1, 4, .int .i32, [], [.int .i32 0], none, []⟩),
   (253, ⟨11, 48, .struct, [(0, 1), (1, 1), (2, 1), (3, 1), (4, 1), (5, 1), (6, 1), (7, 1), (8, 1), (9, 1), (10, 1)], [.int .u64 0, .int .u64 0, .int .u32 0, .int .u8 0, .int .u8 0, .int .u8 0, .int .u8 0, .nilfn, .nilp, .int .i32 0, .int .i32 0], none, [12, 12, 216, 247, 5, 5, 248, 249, 250, 251, 252]⟩),
   (254, ⟨11, 48, .struct, [(0, 1), (1, 1), (2, 1), (3, 1), (4, 1), (5, 1), (6, 1), (7, 1), (8, 1), (9, 1), (10, 1)], [.int .u64 0, .int .u64 0, .int .u32 0, .int .u8 0, .int .u8 0, .int .u8 0, .int .u8 0, .nilfn, .nilp, .int .i32 0, .int .i32 0], none, [12, 12, 216, 247, 5, 5, 248, 249, 250, 251, 252]⟩)]
def ty : TyT := fun t => (tyL.find? fun p => p.1 == t).map (·.2)
set_option maxRecDepth 100000
theorem yqV : (tyL.all fun p => yln Tryz.prog p.1 p.2) = true := by kernel_rfl
theorem tyOk : TyOk Tryz.prog ty := by
  intro t ti h
  obtain ⟨p, hp, rfl⟩ := Option.map_eq_some_iff.1 h
  have h1 := List.find?_some hp
  have h2 := List.mem_of_find?_eq_some hp
  have h3 := List.all_eq_true.1 yqV p h2
  simp only [beq_iff_eq] at h1
  rw [← h1]
  exact yre h3
theorem tySz : ∀ t ti, ty t = some ti → ti.size ≠ 0 := by
  intro t ti h
  obtain ⟨p, hp, rfl⟩ := Option.map_eq_some_iff.1 h
  have h2 := List.mem_of_find?_eq_some hp
  have h3 : (tyL.all fun p => p.2.size != 0) = true := by kernel_rfl
  simpa using List.all_eq_true.1 h3 p h2
@[go_sem] theorem ty1 : ty 1 = some ⟨1, 8, .func, [], [.nilfn], none, []⟩ := rfl
@[go_sem] theorem ty2 : ty 2 = some ⟨1, 8, .int .i64, [], [.int .i64 0], none, []⟩ := rfl
@[go_sem] theorem ty3 : ty 3 = some ⟨1, 8, .int .i64, [], [.int .i64 0], none, []⟩ := rfl
@[go_sem] theorem ty4 : ty 4 = some ⟨1, 1, .bool, [], [.bool false], none, []⟩ := rfl
@[go_sem] theorem ty5 : ty 5 = some ⟨1, 1, .int .u8, [], [.int .u8 0], none, []⟩ := rfl
@[go_sem] theorem ty6 : ty 6 = some ⟨1, 1, .int .u8, [], [.int .u8 0], none, []⟩ := rfl
@[go_sem] theorem ty7 : ty 7 = some ⟨4, 24, .struct, [(0, 1), (1, 1), (2, 1), (3, 1)], [.int .i64 0, .int .i64 0, .bool false, .int .u8 0], none, [2, 3, 4, 6]⟩ := rfl
@[go_sem] theorem ty8 : ty 8 = some ⟨4, 24, .struct, [(0, 1), (1, 1), (2, 1), (3, 1)], [.int .i64 0, .int .i64 0, .bool false, .int .u8 0], none, [2, 3, 4, 6]⟩ := rfl
@[go_sem] theorem ty9 : ty 9 = some ⟨1, 16, .str, [], [.str ⟨#[]⟩], some (.one (.str)), []⟩ := rfl
@[go_sem] theorem ty10 : ty 10 = some ⟨1, 16, .str, [], [.str ⟨#[]⟩], none, []⟩ := rfl
@[go_sem] theorem ty11 : ty 11 = some ⟨1, 16, .str, [], [.str ⟨#[]⟩], none, []⟩ := rfl
@[go_sem] theorem ty12 : ty 12 = some ⟨1, 8, .int .u64, [], [.int .u64 0], none, []⟩ := rfl
@[go_sem] theorem ty13 : ty 13 = some ⟨2, 24, .struct, [(0, 1), (1, 1)], [.str ⟨#[]⟩, .int .u64 0], none, [9, 12]⟩ := rfl
@[go_sem] theorem ty14 : ty 14 = some ⟨2, 24, .struct, [(0, 1), (1, 1)], [.str ⟨#[]⟩, .int .u64 0], none, [9, 12]⟩ := rfl
@[go_sem] theorem ty15 : ty 15 = some ⟨1, 8, .ptr 242, [], [.nilp], none, []⟩ := rfl
@[go_sem] theorem ty16 : ty 16 = some ⟨1, 8, .ptr 245, [], [.nilp], none, []⟩ := rfl
@[go_sem] theorem ty17 : ty 17 = some ⟨1, 8, .ptr 254, [], [.nilp], none, []⟩ := rfl
@[go_sem] theorem ty18 : ty 18 = some ⟨1, 8, .struct, [(0, 1)], [.nilp], none, [17]⟩ := rfl
@[go_sem] theorem ty19 : ty 19 = some ⟨1, 8, .struct, [(0, 1)], [.nilp], none, [17]⟩ := rfl
@[go_sem] theorem ty20 : ty 20 = some ⟨1, 16, .iface, [], [.nilif], none, []⟩ := rfl
@[go_sem] theorem ty21 : ty 21 = some ⟨1, 4, .int .i32, [], [.int .i32 0], none, []⟩ := rfl
@[go_sem] theorem ty22 : ty 22 = some ⟨1, 24, .slice 24, [], [.nils], none, []⟩ := rfl
@[go_sem] theorem ty23 : ty 23 = some ⟨4, 56, .struct, [(0, 1), (1, 1), (2, 1), (3, 1)], [.int .i64 0, .int .i64 0, .str ⟨#[]⟩, .nils], none, [3, 2, 9, 22]⟩ := rfl
@[go_sem] theorem ty24 : ty 24 = some ⟨4, 56, .struct, [(0, 1), (1, 1), (2, 1), (3, 1)], [.int .i64 0, .int .i64 0, .str ⟨#[]⟩, .nils], none, [3, 2, 9, 22]⟩ := rfl
@[go_sem] theorem ty25 : ty 25 = some ⟨1, 24, .slice 9, [], [.nils], none, []⟩ := rfl
@[go_sem] theorem ty26 : ty 26 = some ⟨1, 8, .func, [], [.nilfn], none, []⟩ := rfl
@[go_sem] theorem ty27 : ty 27 = some ⟨1, 8, .int .i64, [], [.int .i64 0], none, []⟩ := rfl
@[go_sem] theorem ty29 : ty 29 = some ⟨1, 8, .func, [], [.nilfn], none, []⟩ := rfl
@[go_sem] theorem ty31 : ty 31 = some ⟨1, 8, .func, [], [.nilfn], none, []⟩ := rfl
@[go_sem] theorem ty32 : ty 32 = some ⟨1, 8, .func, [], [.nilfn], none, []⟩ := rfl
@[go_sem] theorem ty33 : ty 33 = some ⟨1, 8, .func, [], [.nilfn], none, []⟩ := rfl
@[go_sem] theorem ty34 : ty 34 = some ⟨1, 8, .func, [], [.nilfn], none, []⟩ := rfl
@[go_sem] theorem ty35 : ty 35 = some ⟨1, 8, .func, [], [.nilfn], none, []⟩ := rfl
@[go_sem] theorem ty36 : ty 36 = some ⟨1, 8, .func, [], [.nilfn], none, []⟩ := rfl
@[go_sem] theorem ty37 : ty 37 = some ⟨1, 8, .func, [], [.nilfn], none, []⟩ := rfl
@[go_sem] theorem ty38 : ty 38 = some ⟨1, 8, .func, [], [.nilfn], none, []⟩ := rfl
@[go_sem] theorem ty40 : ty 40 = some ⟨1, 8, .func, [], [.nilfn], none, []⟩ := rfl
@[go_sem] theorem ty41 : ty 41 = some ⟨1, 8, .func, [], [.nilfn], none, []⟩ := rfl
@[go_sem] theorem ty42 : ty 42 = some ⟨1, 8, .func, [], [.nilfn], none, []⟩ := rfl
@[go_sem] theorem ty43 : ty 43 = some ⟨1, 8, .func, [], [.nilfn], none, []⟩ := rfl
@[go_sem] theorem ty44 : ty 44 = some ⟨1, 24, .slice 3, [], [.nils], none, []⟩ := rfl
@[go_sem] theorem ty46 : ty 46 = some ⟨1, 8, .func, [], [.nilfn], none, []⟩ := rfl
@[go_sem] theorem ty47 : ty 47 = some ⟨1, 24, .slice 52, [], [.nils], none, []⟩ := rfl
@[go_sem] theorem ty48 : ty 48 = some ⟨1, 8, .func, [], [.nilfn], none, []⟩ := rfl
@[go_sem] theorem ty49 : ty 49 = some ⟨1, 8, .func, [], [.nilfn], none, []⟩ := rfl
@[go_sem] theorem ty50 : ty 50 = some ⟨1, 24, .slice 54, [], [.nils], none, []⟩ := rfl
@[go_sem] theorem ty51 : ty 51 = some ⟨3, 64, .struct, [(0, 1), (1, 1), (2, 1)], [.str ⟨#[]⟩, .nils, .nils], none, [9, 44, 50]⟩ := rfl
@[go_sem] theorem ty52 : ty 52 = some ⟨3, 64, .struct, [(0, 1), (1, 1), (2, 1)], [.str ⟨#[]⟩, .nils, .nils], none, [9, 44, 50]⟩ := rfl
@[go_sem] theorem ty53 : ty 53 = some ⟨3, 48, .struct, [(0, 1), (1, 1), (2, 1)], [.str ⟨#[]⟩, .nils, .int .i64 0], none, [9, 44, 3]⟩ := rfl
@[go_sem] theorem ty54 : ty 54 = some ⟨3, 48, .struct, [(0, 1), (1, 1), (2, 1)], [.str ⟨#[]⟩, .nils, .int .i64 0], none, [9, 44, 3]⟩ := rfl
@[go_sem] theorem ty56 : ty 56 = some ⟨1, 8, .func, [], [.nilfn], none, []⟩ := rfl
@[go_sem] theorem ty57 : ty 57 = some ⟨1, 8, .func, [], [.nilfn], none, []⟩ := rfl
@[go_sem] theorem ty58 : ty 58 = some ⟨1, 8, .func, [], [.nilfn], none, []⟩ := rfl
@[go_sem] theorem ty60 : ty 60 = some ⟨1, 8, .func, [], [.nilfn], none, []⟩ := rfl
@[go_sem] theorem ty61 : ty 61 = some ⟨1, 24, .slice 44, [], [.nils], none, []⟩ := rfl
@[go_sem] theorem ty62 : ty 62 = some ⟨1, 8, .func, [], [.nilfn], none, []⟩ := rfl
@[go_sem] theorem ty64 : ty 64 = some ⟨1, 8, .func, [], [.nilfn], none, []⟩ := rfl
@[go_sem] theorem ty65 : ty 65 = some ⟨1, 8, .func, [], [.nilfn], none, []⟩ := rfl
@[go_sem] theorem ty67 : ty 67 = some ⟨1, 8, .func, [], [.nilfn], none, []⟩ := rfl
@[go_sem] theorem ty68 : ty 68 = some ⟨1, 8, .func, [], [.nilfn], none, []⟩ := rfl
@[go_sem] theorem ty69 : ty 69 = some ⟨1, 8, .func, [], [.nilfn], none, []⟩ := rfl
@[go_sem] theorem ty70 : ty 70 = some ⟨1, 8, .func, [], [.nilfn], none, []⟩ := rfl
@[go_sem] theorem ty71 : ty 71 = some ⟨1, 8, .func, [], [.nilfn], none, []⟩ := rfl
@[go_sem] theorem ty72 : ty 72 = some ⟨1, 8, .func, [], [.nilfn], none, []⟩ := rfl
@[go_sem] theorem ty73 : ty 73 = some ⟨1, 8, .func, [], [.nilfn], none, []⟩ := rfl
@[go_sem] theorem ty74 : ty 74 = some ⟨1, 8, .func, [], [.nilfn], none, []⟩ := rfl
@[go_sem] theorem ty75 : ty 75 = some ⟨1, 8, .func, [], [.nilfn], none, []⟩ := rfl
@[go_sem] theorem ty76 : ty 76 = some ⟨1, 8, .func, [], [.nilfn], none, []⟩ := rfl
@[go_sem] theorem ty77 : ty 77 = some ⟨1, 8, .func, [], [.nilfn], none, []⟩ := rfl
@[go_sem] theorem ty78 : ty 78 = some ⟨1, 8, .map 9 4, [], [.nilmap], none, []⟩ := rfl
@[go_sem] theorem ty79 : ty 79 = some ⟨1, 8, .func, [], [.nilfn], none, []⟩ := rfl
@[go_sem] theorem ty80 : ty 80 = some ⟨1, 8, .func, [], [.nilfn], none, []⟩ := rfl
@[go_sem] theorem ty81 : ty 81 = some ⟨1, 8, .func, [], [.nilfn], none, []⟩ := rfl
@[go_sem] theorem ty82 : ty 82 = some ⟨2, 32, .struct, [(0, 1), (1, 1)], [.nils, .int .i64 0], none, [44, 3]⟩ := rfl
@[go_sem] theorem ty83 : ty 83 = some ⟨2, 32, .struct, [(0, 1), (1, 1)], [.nils, .int .i64 0], none, [44, 3]⟩ := rfl
@[go_sem] theorem ty84 : ty 84 = some ⟨1, 8, .ptr 89, [], [.nilp], none, []⟩ := rfl
@[go_sem] theorem ty85 : ty 85 = some ⟨1, 24, .slice 83, [], [.nils], none, []⟩ := rfl
@[go_sem] theorem ty86 : ty 86 = some ⟨1, 8, .func, [], [.nilfn], none, []⟩ := rfl
@[go_sem] theorem ty87 : ty 87 = some ⟨1, 8, .func, [], [.nilfn], none, []⟩ := rfl
@[go_sem] theorem ty88 : ty 88 = some ⟨2, 16, .struct, [(0, 1), (1, 1)], [.nilfn, .nilfn], none, [86, 87]⟩ := rfl
@[go_sem] theorem ty89 : ty 89 = some ⟨2, 16, .struct, [(0, 1), (1, 1)], [.nilfn, .nilfn], none, [86, 87]⟩ := rfl
@[go_sem] theorem ty90 : ty 90 = some ⟨1, 8, .func, [], [.nilfn], none, []⟩ := rfl
@[go_sem] theorem ty91 : ty 91 = some ⟨1, 8, .func, [], [.nilfn], none, []⟩ := rfl
@[go_sem] theorem ty92 : ty 92 = some ⟨1, 8, .func, [], [.nilfn], none, []⟩ := rfl
@[go_sem] theorem ty93 : ty 93 = some ⟨1, 8, .func, [], [.nilfn], none, []⟩ := rfl
@[go_sem] theorem ty94 : ty 94 = some ⟨1, 8, .ptr 96, [], [.nilp], none, []⟩ := rfl
@[go_sem] theorem ty95 : ty 95 = some ⟨1, 8, .struct, [(0, 1)], [.int .i64 0], none, [3]⟩ := rfl
@[go_sem] theorem ty96 : ty 96 = some ⟨1, 8, .struct, [(0, 1)], [.int .i64 0], none, [3]⟩ := rfl
@[go_sem] theorem ty97 : ty 97 = some ⟨1, 8, .func, [], [.nilfn], none, []⟩ := rfl
@[go_sem] theorem ty99 : ty 99 = some ⟨1, 8, .func, [], [.nilfn], none, []⟩ := rfl
@[go_sem] theorem ytR : ty 100 = some ⟨1, 8, .func, [], [.nilfn], none, []⟩ := rfl
@[go_sem] theorem ytS : ty 101 = some ⟨1, 8, .func, [], [.nilfn], none, []⟩ := rfl
@[go_sem] theorem yuP : ty 102 = some ⟨1, 8, .func, [], [.nilfn], none, []⟩ := rfl
@[go_sem] theorem yu7 : ty 103 = some ⟨1, 8, .map 9 9, [], [.nilmap], none, []⟩ := rfl
@[go_sem] theorem ytP : ty 104 = some ⟨1, 8, .func, [], [.nilfn], none, []⟩ := rfl
@[go_sem] theorem yvv : ty 105 = some ⟨1, 8, .func, [], [.nilfn], none, []⟩ := rfl
@[go_sem] theorem ytj : ty 106 = some ⟨1, 8, .func, [], [.nilfn], none, []⟩ := rfl
@[go_sem] theorem yvq : ty 107 = some ⟨1, 8, .func, [], [.nilfn], none, []⟩ := rfl
@[go_sem] theorem yuM : ty 109 = some ⟨1, 8, .func, [], [.nilfn], none, []⟩ := rfl
@[go_sem] theorem ytm : ty 110 = some ⟨1, 8, .func, [], [.nilfn], none, []⟩ := rfl
@[go_sem] theorem yuy : ty 111 = some ⟨1, 8, .func, [], [.nilfn], none, []⟩ := rfl
@[go_sem] theorem yt8 : ty 112 = some ⟨1, 8, .func, [], [.nilfn], none, []⟩ := rfl
@[go_sem] theorem ytE : ty 113 = some ⟨1, 8, .func, [], [.nilfn], none, []⟩ := rfl
@[go_sem] theorem ytq : ty 114 = some ⟨1, 8, .ptr 24, [], [.nilp], none, []⟩ := rfl
@[go_sem] theorem yvi : ty 115 = some ⟨1, 8, .func, [], [.nilfn], none, []⟩ := rfl
@[go_sem] theorem yuc : ty 116 = some ⟨1, 8, .map 9 3, [], [.nilmap], none, []⟩ := rfl
@[go_sem] theorem yuW : ty 117 = some ⟨1, 8, .func, [], [.nilfn], none, []⟩ := rfl
@[go_sem] theorem yum : ty 118 = some ⟨1, 8, .func, [], [.nilfn], none, []⟩ := rfl
@[go_sem] theorem ytQ : ty 119 = some ⟨1, 8, .func, [], [.nilfn], none, []⟩ := rfl
@[go_sem] theorem yvc : ty 120 = some ⟨1, 8, .func, [], [.nilfn], none, []⟩ := rfl
@[go_sem] theorem yui : ty 121 = some ⟨1, 8, .func, [], [.nilfn], none, []⟩ := rfl
@[go_sem] theorem ytN : ty 122 = some ⟨1, 8, .func, [], [.nilfn], none, []⟩ := rfl
@[go_sem] theorem ytz : ty 124 = some ⟨1, 8, .func, [], [.nilfn], none, []⟩ := rfl
@[go_sem] theorem yvl : ty 125 = some ⟨1, 8, .func, [], [.nilfn], none, []⟩ := rfl
@[go_sem] theorem yvg : ty 126 = some ⟨1, 8, .func, [], [.nilfn], none, []⟩ := rfl
@[go_sem] theorem yuT : ty 127 = some ⟨1, 8, .ptr 179, [], [.nilp], none, []⟩ := rfl
@[go_sem] theorem yu0 : ty 129 = some ⟨1, 8, .func, [], [.nilfn], none, []⟩ := rfl
@[go_sem] theorem yux : ty 130 = some ⟨1, 8, .func, [], [.nilfn], none, []⟩ := rfl
@[go_sem] theorem yvt : ty 131 = some ⟨1, 8, .func, [], [.nilfn], none, []⟩ := rfl
@[go_sem] theorem ytV : ty 132 = some ⟨1, 8, .func, [], [.nilfn], none, []⟩ := rfl
@[go_sem] theorem yuj : ty 133 = some ⟨1, 8, .func, [], [.nilfn], none, []⟩ := rfl
@[go_sem] theorem yu8 : ty 134 = some ⟨1, 8, .func, [], [.nilfn], none, []⟩ := rfl
@[go_sem] theorem yve : ty 135 = some ⟨1, 24, .slice 50, [], [.nils], none, []⟩ := rfl
@[go_sem] theorem yuV : ty 136 = some ⟨1, 8, .func, [], [.nilfn], none, []⟩ := rfl
@[go_sem] theorem ytU : ty 137 = some ⟨1, 8, .func, [], [.nilfn], none, []⟩ := rfl
@[go_sem] theorem ytX : ty 138 = some ⟨1, 8, .func, [], [.nilfn], none, []⟩ := rfl
@[go_sem] theorem yvs : ty 139 = some ⟨1, 8, .func, [], [.nilfn], none, []⟩ := rfl
@[go_sem] theorem ytB : ty 140 = some ⟨1, 8, .func, [], [.nilfn], none, []⟩ := rfl
@[go_sem] theorem yt9 : ty 141 = some ⟨1, 8, .int .u64, [], [.int .u64 0], none, []⟩ := rfl
@[go_sem] theorem ytD : ty 143 = some ⟨1, 8, .func, [], [.nilfn], none, []⟩ := rfl
@[go_sem] theorem yub : ty 144 = some ⟨1, 8, .func, [], [.nilfn], none, []⟩ := rfl
@[go_sem] theorem ytk : ty 145 = some ⟨1, 8, .ptr 150, [], [.nilp], none, []⟩ := rfl
@[go_sem] theorem ytu : ty 146 = some ⟨1, 8, .func, [], [.nilfn], none, []⟩ := rfl
@[go_sem] theorem ytg : ty 147 = some ⟨1, 8, .func, [], [.nilfn], none, []⟩ := rfl
@[go_sem] theorem ytO : ty 148 = some ⟨1, 8, .func, [], [.nilfn], none, []⟩ := rfl
@[go_sem] theorem yti : ty 149 = some ⟨3, 40, .struct, [(0, 1), (1, 1), (2, 1)], [.str ⟨#[]⟩, .str ⟨#[]⟩, .nilp], none, [9, 9, 145]⟩ := rfl
@[go_sem] theorem yud : ty 150 = some ⟨3, 40, .struct, [(0, 1), (1, 1), (2, 1)], [.str ⟨#[]⟩, .str ⟨#[]⟩, .nilp], none, [9, 9, 145]⟩ := rfl
@[go_sem] theorem yuG : ty 151 = some ⟨1, 8, .ptr 156, [], [.nilp], none, []⟩ := rfl
@[go_sem] theorem ytf : ty 152 = some ⟨1, 24, .slice 4, [], [.nils], none, []⟩ := rfl
@[go_sem] theorem yvp : ty 153 = some ⟨1, 8, .func, [], [.nilfn], none, []⟩ := rfl
@[go_sem] theorem yuQ : ty 154 = some ⟨1, 8, .func, [], [.nilfn], none, []⟩ := rfl
@[go_sem] theorem yt6 : ty 155 = some ⟨2, 16, .struct, [(0, 1), (1, 1)], [.nilfn, .nilfn], none, [153, 154]⟩ := rfl
@[go_sem] theorem ytC : ty 156 = some ⟨2, 16, .struct, [(0, 1), (1, 1)], [.nilfn, .nilfn], none, [153, 154]⟩ := rfl
@[go_sem] theorem yvn : ty 157 = some ⟨1, 8, .func, [], [.nilfn], none, []⟩ := rfl
@[go_sem] theorem yto : ty 158 = some ⟨1, 8, .func, [], [.nilfn], none, []⟩ := rfl
@[go_sem] theorem yuU : ty 159 = some ⟨1, 8, .ptr 164, [], [.nilp], none, []⟩ := rfl
@[go_sem] theorem yuL : ty 160 = some ⟨1, 8, .func, [], [.nilfn], none, []⟩ := rfl
@[go_sem] theorem yu6 : ty 161 = some ⟨1, 8, .func, [], [.nilfn], none, []⟩ := rfl
@[go_sem] theorem yvm : ty 162 = some ⟨1, 8, .func, [], [.nilfn], none, []⟩ := rfl
@[go_sem] theorem ytZ : ty 163 = some ⟨2, 16, .struct, [(0, 1), (1, 1)], [.nilfn, .nilfn], none, [161, 162]⟩ := rfl
@[go_sem] theorem ytF : ty 164 = some ⟨2, 16, .struct, [(0, 1), (1, 1)], [.nilfn, .nilfn], none, [161, 162]⟩ := rfl
@[go_sem] theorem yt5 : ty 165 = some ⟨1, 8, .func, [], [.nilfn], none, []⟩ := rfl
@[go_sem] theorem yuR : ty 166 = some ⟨1, 8, .func, [], [.nilfn], none, []⟩ := rfl
@[go_sem] theorem yuw : ty 167 = some ⟨1, 8, .func, [], [.nilfn], none, []⟩ := rfl
@[go_sem] theorem yut : ty 168 = some ⟨1, 8, .func, [], [.nilfn], none, []⟩ := rfl
@[go_sem] theorem yu1 : ty 169 = some ⟨1, 24, .slice 171, [], [.nils], none, []⟩ := rfl
@[go_sem] theorem ytn : ty 170 = some ⟨5, 64, .struct, [(0, 1), (1, 1), (2, 1), (3, 1), (4, 1)], [.int .i64 0, .int .i64 0, .str ⟨#[]⟩, .nils, .int .i64 0], none, [3, 2, 9, 169, 3]⟩ := rfl
@[go_sem] theorem yuo : ty 171 = some ⟨5, 64, .struct, [(0, 1), (1, 1), (2, 1), (3, 1), (4, 1)], [.int .i64 0, .int .i64 0, .str ⟨#[]⟩, .nils, .int .i64 0], none, [3, 2, 9, 169, 3]⟩ := rfl
@[go_sem] theorem yuu : ty 173 = some ⟨1, 8, .func, [], [.nilfn], none, []⟩ := rfl
@[go_sem] theorem yu2 : ty 174 = some ⟨1, 8, .func, [], [.nilfn], none, []⟩ := rfl
@[go_sem] theorem yun : ty 175 = some ⟨1, 8, .func, [], [.nilfn], none, []⟩ := rfl
@[go_sem] theorem ytM : ty 176 = some ⟨1, 8, .func, [], [.nilfn], none, []⟩ := rfl
@[go_sem] theorem ytp : ty 177 = some ⟨1, 8, .func, [], [.nilfn], none, []⟩ := rfl
@[go_sem] theorem ytx : ty 178 = some ⟨4, 56, .struct, [(0, 1), (1, 2), (3, 1)], [.str ⟨#[]⟩, .nils, .int .i64 0, .nilp], none, [9, 83, 127]⟩ := rfl
@[go_sem] theorem yug : ty 179 = some ⟨4, 56, .struct, [(0, 1), (1, 2), (3, 1)], [.str ⟨#[]⟩, .nils, .int .i64 0, .nilp], none, [9, 83, 127]⟩ := rfl
@[go_sem] theorem ytI : ty 180 = some ⟨1, 8, .func, [], [.nilfn], none, []⟩ := rfl
@[go_sem] theorem yuB : ty 181 = some ⟨1, 8, .func, [], [.nilfn], none, []⟩ := rfl
@[go_sem] theorem yvb : ty 182 = some ⟨1, 8, .func, [], [.nilfn], none, []⟩ := rfl
@[go_sem] theorem yu4 : ty 183 = some ⟨1, 8, .func, [], [.nilfn], none, []⟩ := rfl
@[go_sem] theorem yuE : ty 184 = some ⟨1, 8, .func, [], [.nilfn], none, []⟩ := rfl
@[go_sem] theorem yt3 : ty 185 = some ⟨1, 24, .slice 5, [], [.nils], none, []⟩ := rfl
@[go_sem] theorem yuY : ty 186 = some ⟨1, 8, .ptr 205, [], [.nilp], none, []⟩ := rfl
@[go_sem] theorem ytH : ty 188 = some ⟨1, 8, .func, [], [.nilfn], none, []⟩ := rfl
@[go_sem] theorem yvf : ty 189 = some ⟨1, 8, .func, [], [.nilfn], none, []⟩ := rfl
@[go_sem] theorem yvj : ty 190 = some ⟨1, 8, .func, [], [.nilfn], none, []⟩ := rfl
@[go_sem] theorem ytv : ty 191 = some ⟨1, 8, .func, [], [.nilfn], none, []⟩ := rfl
@[go_sem] theorem yus : ty 192 = some ⟨1, 8, .func, [], [.nilfn], none, []⟩ := rfl
@[go_sem] theorem yur : ty 193 = some ⟨1, 8, .func, [], [.nilfn], none, []⟩ := rfl
@[go_sem] theorem yt4 : ty 194 = some ⟨1, 8, .int .u64, [], [.int .u64 0], none, []⟩ := rfl
@[go_sem] theorem yuv : ty 195 = some ⟨1, 8, .ptr 197, [], [.nilp], none, []⟩ := rfl
@[go_sem] theorem ytw : ty 196 = some ⟨4, 40, .struct, [(0, 1), (1, 1), (2, 1), (3, 1)], [.str ⟨#[]⟩, .int .i64 0, .int .i64 0, .int .i64 0], none, [9, 3, 27, 3]⟩ := rfl
@[go_sem] theorem yuX : ty 197 = some ⟨4, 40, .struct, [(0, 1), (1, 1), (2, 1), (3, 1)], [.str ⟨#[]⟩, .int .i64 0, .int .i64 0, .int .i64 0], none, [9, 3, 27, 3]⟩ := rfl
@[go_sem] theorem yuf : ty 198 = some ⟨1, 8, .func, [], [.nilfn], none, []⟩ := rfl
@[go_sem] theorem yuF : ty 199 = some ⟨1, 8, .func, [], [.nilfn], none, []⟩ := rfl
@[go_sem] theorem yty : ty 200 = some ⟨1, 8, .func, [], [.nilfn], none, []⟩ := rfl
@[go_sem] theorem yu5 : ty 201 = some ⟨1, 8, .func, [], [.nilfn], none, []⟩ := rfl
@[go_sem] theorem yuN : ty 203 = some ⟨1, 8, .func, [], [.nilfn], none, []⟩ := rfl
@[go_sem] theorem yvw : ty 204 = some ⟨3, 32, .struct, [(0, 1), (1, 1), (2, 1)], [.str ⟨#[]⟩, .bool false, .nilp], none, [9, 4, 186]⟩ := rfl
@[go_sem] theorem ytT : ty 205 = some ⟨3, 32, .struct, [(0, 1), (1, 1), (2, 1)], [.str ⟨#[]⟩, .bool false, .nilp], none, [9, 4, 186]⟩ := rfl
@[go_sem] theorem yvo : ty 206 = some ⟨1, 8, .func, [], [.nilfn], none, []⟩ := rfl
@[go_sem] theorem yvh : ty 207 = some ⟨1, 8, .int .i64, [], [.int .i64 0], none, []⟩ := rfl
@[go_sem] theorem yuA : ty 209 = some ⟨1, 8, .func, [], [.nilfn], none, []⟩ := rfl
@[go_sem] theorem ytt : ty 210 = some ⟨1, 8, .func, [], [.nilfn], none, []⟩ := rfl
@[go_sem] theorem yth : ty 211 = some ⟨1, 8, .func, [], [.nilfn], none, []⟩ := rfl
@[go_sem] theorem yuJ : ty 212 = some ⟨1, 8, .func, [], [.nilfn], none, []⟩ := rfl
@[go_sem] theorem ytG : ty 214 = some ⟨1, 8, .func, [], [.nilfn], none, []⟩ := rfl
@[go_sem] theorem ytJ : ty 215 = some ⟨1, 8, .func, [], [.nilfn], none, []⟩ := rfl
@[go_sem] theorem yuz : ty 216 = some ⟨1, 4, .int .u32, [], [.int .u32 0], none, []⟩ := rfl
@[go_sem] theorem yvr : ty 217 = some ⟨1, 8, .func, [], [.nilfn], none, []⟩ := rfl
@[go_sem] theorem yuK : ty 218 = some ⟨1, 8, .func, [], [.nilfn], none, []⟩ := rfl
@[go_sem] theorem ytr : ty 219 = some ⟨24, 24, .array 24 5, [], [.int .u8 0, .int .u8 0, .int .u8 0, .int .u8 0, .int .u8 0, .int .u8 0, .int .u8 0, .int .u8 0, .int .u8 0, .int .u8 0, .int .u8 0, .int .u8 0, .int .u8 0, .int .u8 0, .int .u8 0, .int .u8 0, .int .u8 0, .int .u8 0, .int .u8 0, .int .u8 0, .int .u8 0, .int .u8 0, .int .u8 0, .int .u8 0], none, []⟩ := rfl
@[go_sem] theorem ytW : ty 220 = some ⟨1, 8, .func, [], [.nilfn], none, []⟩ := rfl
@[go_sem] theorem yuO : ty 222 = some ⟨1, 8, .func, [], [.nilfn], none, []⟩ := rfl
@[go_sem] theorem yvd : ty 223 = some ⟨1, 8, .int .u64, [], [.int .u64 0], none, []⟩ := rfl
@[go_sem] theorem yvk : ty 224 = some ⟨1, 8, .func, [], [.nilfn], none, []⟩ := rfl
@[go_sem] theorem yva : ty 225 = some ⟨1, 8, .func, [], [.nilfn], none, []⟩ := rfl
@[go_sem] theorem yt0 : ty 226 = some ⟨1, 8, .func, [], [.nilfn], none, []⟩ := rfl
@[go_sem] theorem yt7 : ty 227 = some ⟨1, 8, .ptr 3, [], [.nilp], none, []⟩ := rfl
@[go_sem] theorem yua : ty 228 = some ⟨1, 8, .func, [], [.nilfn], none, []⟩ := rfl
@[go_sem] theorem yuC : ty 230 = some ⟨1, 8, .func, [], [.nilfn], none, []⟩ := rfl
@[go_sem] theorem yvu : ty 231 = some ⟨1, 8, .func, [], [.nilfn], none, []⟩ := rfl
@[go_sem] theorem yu3 : ty 232 = some ⟨1, 8, .func, [], [.nilfn], none, []⟩ := rfl
@[go_sem] theorem yt2 : ty 233 = some ⟨20, 160, .array 20 141, [], [.int .u64 0, .int .u64 0, .int .u64 0, .int .u64 0, .int .u64 0, .int .u64 0, .int .u64 0, .int .u64 0, .int .u64 0, .int .u64 0, .int .u64 0, .int .u64 0, .int .u64 0, .int .u64 0, .int .u64 0, .int .u64 0, .int .u64 0, .int .u64 0, .int .u64 0, .int .u64 0], none, []⟩ := rfl
@[go_sem] theorem yuD : ty 234 = some ⟨65, 65, .array 65 5, [], [.int .u8 0, .int .u8 0, .int .u8 0, .int .u8 0, .int .u8 0, .int .u8 0, .int .u8 0, .int .u8 0, .int .u8 0, .int .u8 0, .int .u8 0, .int .u8 0, .int .u8 0, .int .u8 0, .int .u8 0, .int .u8 0, .int .u8 0, .int .u8 0, .int .u8 0, .int .u8 0, .int .u8 0, .int .u8 0, .int .u8 0, .int .u8 0, .int .u8 0, .int .u8 0, .int .u8 0, .int .u8 0, .int .u8 0, .int .u8 0, .int .u8 0, .int .u8 0, .int .u8 0, .int .u8 0, .int .u8 0, .int .u8 0, .int .u8 0, .int .u8 0, .int .u8 0, .int .u8 0, .int .u8 0, .int .u8 0, .int .u8 0, .int .u8 0, .int .u8 0, .int .u8 0, .int .u8 0, .int .u8 0, .int .u8 0, .int .u8 0, .int .u8 0, .int .u8 0, .int .u8 0, .int .u8 0, .int .u8 0, .int .u8 0, .int .u8 0, .int .u8 0, .int .u8 0, .int .u8 0, .int .u8 0, .int .u8 0, .int .u8 0, .int .u8 0, .int .u8 0], none, []⟩ := rfl
@[go_sem] theorem yuk : ty 235 = some ⟨1, 8, .func, [], [.nilfn], none, []⟩ := rfl
@[go_sem] theorem yul : ty 236 = some ⟨1, 8, .ptr 223, [], [.nilp], none, []⟩ := rfl
@[go_sem] theorem yuI : ty 238 = some ⟨1, 8, .func, [], [.nilfn], none, []⟩ := rfl
@[go_sem] theorem ytl : ty 239 = some ⟨32, 32, .array 32 5, [], [.int .u8 0, .int .u8 0, .int .u8 0, .int .u8 0, .int .u8 0, .int .u8 0, .int .u8 0, .int .u8 0, .int .u8 0, .int .u8 0, .int .u8 0, .int .u8 0, .int .u8 0, .int .u8 0, .int .u8 0, .int .u8 0, .int .u8 0, .int .u8 0, .int .u8 0, .int .u8 0, .int .u8 0, .int .u8 0, .int .u8 0, .int .u8 0, .int .u8 0, .int .u8 0, .int .u8 0, .int .u8 0, .int .u8 0, .int .u8 0, .int .u8 0, .int .u8 0], none, []⟩ := rfl
@[go_sem] theorem ytA : ty 240 = some ⟨64, 64, .array 64 5, [], [.int .u8 0, .int .u8 0, .int .u8 0, .int .u8 0, .int .u8 0, .int .u8 0, .int .u8 0, .int .u8 0, .int .u8 0, .int .u8 0, .int .u8 0, .int .u8 0, .int .u8 0, .int .u8 0, .int .u8 0, .int .u8 0, .int .u8 0, .int .u8 0, .int .u8 0, .int .u8 0, .int .u8 0, .int .u8 0, .int .u8 0, .int .u8 0, .int .u8 0, .int .u8 0, .int .u8 0, .int .u8 0, .int .u8 0, .int .u8 0, .int .u8 0, .int .u8 0, .int .u8 0, .int .u8 0, .int .u8 0, .int .u8 0, .int .u8 0, .int .u8 0, .int .u8 0, .int .u8 0, .int .u8 0, .int .u8 0, .int .u8 0, .int .u8 0, .int .u8 0, .int .u8 0, .int .u8 0, .int .u8 0, .int .u8 0, .int .u8 0, .int .u8 0, .int .u8 0, .int .u8 0, .int .u8 0, .int .u8 0, .int .u8 0, .int .u8 0, .int .u8 0, .int .u8 0, .int .u8 0, .int .u8 0, .int .u8 0, .int .u8 0, .int .u8 0], none, []⟩ := rfl
@[go_sem] theorem yue : ty 241 = some ⟨4, 40, .struct, [(0, 1), (1, 1), (2, 1), (3, 1)], [.nilp, .nilp, .nilp, .str ⟨#[]⟩], none, [17, 17, 17, 9]⟩ := rfl
@[go_sem] theorem yuH : ty 242 = some ⟨4, 40, .struct, [(0, 1), (1, 1), (2, 1), (3, 1)], [.nilp, .nilp, .nilp, .str ⟨#[]⟩], none, [17, 17, 17, 9]⟩ := rfl
@[go_sem] theorem yu9 : ty 246 = some ⟨1, 8, .func, [], [.nilfn], none, []⟩ := rfl
@[go_sem] theorem ytL : ty 247 = some ⟨1, 1, .int .u8, [], [.int .u8 0], none, []⟩ := rfl
@[go_sem] theorem yup : ty 248 = some ⟨1, 1, .int .u8, [], [.int .u8 0], none, []⟩ := rfl
@[go_sem] theorem yuq : ty 249 = some ⟨1, 8, .func, [], [.nilfn], none, []⟩ := rfl
@[go_sem] theorem yt1 : ty 250 = some ⟨1, 8, .ptr 5, [], [.nilp], none, []⟩ := rfl
@[go_sem] theorem yuZ : ty 251 = some ⟨1, 4, .int .i32, [], [.int .i32 0], none, []⟩ := rfl
@[go_sem] theorem yts : ty 252 = some ⟨1, 4, .int .i32, [], [.int .i32 0], none, []⟩ := rfl
@[go_sem] theorem ytY : ty 253 = some ⟨11, 48, .struct, [(0, 1), (1, 1), (2, 1), (3, 1), (4, 1), (5, 1), (6, 1), (7, 1), (8, 1), (9, 1), (10, 1)], [.int .u64 0, .int .u64 0, .int .u32 0, .int .u8 0, .int .u8 0, .int .u8 0, .int .u8 0, .nilfn, .nilp, .int .i32 0, .int .i32 0], none, [12, 12, 216, 247, 5, 5, 248, 249, 250, 251, 252]⟩ := rfl
@[go_sem] theorem ytK : ty 254 = some ⟨11, 48, .struct, [(0, 1), (1, 1), (2, 1), (3, 1), (4, 1), (5, 1), (6, 1), (7, 1), (8, 1), (9, 1), (10, 1)], [.int .u64 0, .int .u64 0, .int .u32 0, .int .u8 0, .int .u8 0, .int .u8 0, .int .u8 0, .nilfn, .nilp, .int .i32 0, .int .i32 0], none, [12, 12, 216, 247, 5, 5, 248, 249, 250, 251, 252]⟩ := rfl
end Go.Proofs.YtigideidmcmfbaaGreatDoor

namespace Go.Proofs.YtigideidmcmfbaaGreatDoor
open Go Go.Aw
abbrev KR := WdO
section
variable {ρ : Option Nat} {sh : List Tmp} {σ0 : Store} {N : Nat} {s s' : St} {ops : Array Oper} {os : List Oper} {K : St → Prop}
theorem aR {id : Nat} {Q : Exit → St → Prop} (h : YT ty [] N ops.toList s = some s') (k : Q .normal s') : AWpR ρ Tryz.prog σ0 N (.region id ops false) Q s := yD tyOk h k
theorem aL (n : Nat) (h : YT ty [] N (os.take n) s = some s') (k : AOpsL Tryz.prog σ0 N ops (os.drop n) K s') : AOpsL Tryz.prog σ0 N ops os K s := Zx n tyOk h k
theorem aLG (n : Nat) (d : Tmp) (w : Bool) (h : runG ty [] (os.take n) s = some s') (k : AOpsL Tryz.prog σ0 N ops (os.drop n) K s') (hb : get s.T d = .pv (.bool w) := by simp [go_sem])
    (hg : YR ops d w (os.take n) = true := by simp [go_sem]) (hd : Zq N (os.take n) = true := by rfl) (hne : (os.take n).all (fun o => o.dst != some d) = true := by rfl) : AOpsL Tryz.prog σ0 N ops os K s := yqD n d w w tyOk hb rfl hg hd hne h k
theorem aK (n : Nat) (d : Tmp) (w : Bool) (k : AOpsL Tryz.prog σ0 N ops (os.drop n) K (yal (os.take n) s)) (hb : off (get s.T d) w = true := by simp [go_sem])
    (hg : YR ops d w (os.take n) = true := by simp [go_sem]) (hd : Zq N (os.take n) = true := by rfl) (hne : (os.take n).all (fun o => o.dst != some d) = true := by rfl) : AOpsL Tryz.prog σ0 N ops os K s := yp1 n d w hb hg hd hne k
theorem aF {dst : Option Tmp} {ars : Array Operand} {ats : Array TypeId} {t : TypeId} {pos : String} {af : Array Edge} {f : FuncId} {xs args : List AV} {r : AV} (hca : Callable Tryz.prog f) (h : zJ Tryz.prog s.σ f args r) (hargs : ars.toList.map (ev s) ++ [] = xs) (hw : WAs xs args)
    (k : AOpsL Tryz.prog σ0 N ops os K (s.put dst r)) (hnl : AV.noLs xs = true := by rfl) (hd : yJ N dst = true := by rfl) : AOpsL Tryz.prog σ0 N ops (⟨dst, .call ⟨.value (.func f), ars, ats⟩, t, pos, af, none⟩ :: os) K s := ycS rfl rfl rfl rfl hca h hargs hw hnl hd k
end
section
variable {ρ : Option Nat} {σ0 : Store} {N : Nat} {s s' : St} {ops : Array Oper} {os : List Oper} {K : St → Prop} {Q : Exit → St → Prop} {c c2 : Code} {id : Nat}
theorem aS (k : Q .normal s') (h : YT ty [] N ops.toList s = some s' := by simp [go_sem] <;> rfl) : AWpR ρ Tryz.prog σ0 N (.region id ops false) Q s := yD tyOk h k
theorem sS (k : Then (AWpR ρ Tryz.prog σ0 N c Q) Q .normal s') (h : YT ty [] N ops.toList s = some s' := by simp [go_sem] <;> rfl) : AWpR ρ Tryz.prog σ0 N (.seq (.region id ops false) c) Q s := ya (yD tyOk h k)
theorem sA (h : YT ty [] N ops.toList s = some s') (k : Then (AWpR ρ Tryz.prog σ0 N c Q) Q .normal s') : AWpR ρ Tryz.prog σ0 N (.seq (.region id ops false) c) Q s := ya (yD tyOk h k)
theorem sG (h : AOpsL Tryz.prog σ0 N ops ops.toList (Then (AWpR ρ Tryz.prog σ0 N c Q) Q .normal) s) : AWpR ρ Tryz.prog σ0 N (.seq (.region id ops false) c) Q s := ya (yS h)
theorem aT (n : Nat) (k : AOpsL Tryz.prog σ0 N ops (os.drop n) K s') (h : YT ty [] N (os.take n) s = some s' := by simp [go_sem] <;> rfl) : AOpsL Tryz.prog σ0 N ops os K s := Zx n tyOk h k
theorem eR {rs : List ResultVar} {R : AV → Store → Prop} {l : List AV} (k : R (yaz l) s.σ) (h : Y4 ty s rs = some l := by simp [go_sem] <;> rfl) (hn : AV.noLs l = true := by simp [go_sem]) : Go.Aw.Ends ty rs R .ret s := ybe h hn k
theorem aC {cd : Operand} {b : Bool} (ht : b = true → AWpR ρ Tryz.prog σ0 N c Q s) (hf : b = false → AWpR ρ Tryz.prog σ0 N c2 Q s) (hc : ev s cd = .pv (.bool b) := by first | rfl | (simp [go_sem] <;> rfl)) : AWpR ρ Tryz.prog σ0 N (.cond cd c c2) Q s := yc hc ht hf
theorem aG {dst : Option Tmp} {ars : Array Operand} {ats : Array TypeId} {t : TypeId} {pos : String} {af : Array Edge} {f : FuncId} {xs args : List AV} {r : AV} (hca : Callable Tryz.prog f) (h : zJ Tryz.prog s.σ f args r)
    (k : AOpsL Tryz.prog σ0 N ops os K (s.put dst r)) (hargs : ars.toList.map (ev s) ++ [] = xs := by simp [go_sem] <;> rfl) (hw : WAs xs args := by simp [go_sem]) (hnl : AV.noLs xs = true := by rfl) (hd : yJ N dst = true := by rfl) : AOpsL Tryz.prog σ0 N ops (⟨dst, .call ⟨.value (.func f), ars, ats⟩, t, pos, af, none⟩ :: os) K s := ycS rfl rfl rfl rfl hca h hargs hw hnl hd k
end
theorem bA (b : Bool) : (true || b) = true := rfl
theorem bB (b : Bool) : (b || true) = true := Bool.or_true b
theorem bC (b : Bool) : (false || b) = b := rfl
theorem bD (b : Bool) : (b || false) = b := Bool.or_false b
theorem bE (b : Bool) : (true && b) = b := rfl
theorem bF (b : Bool) : (b && true) = b := Bool.and_true b
theorem bG (b : Bool) : (false && b) = false := rfl
theorem bH (b : Bool) : (b && false) = false := Bool.and_false b
theorem bI : (!true) = false := rfl
theorem bJ : (!false) = true := rfl
theorem yrT : Callable Tryz.prog 12 := ⟨_, Tryz.func12, rfl, by decide⟩
theorem yr5 : Callable Tryz.prog 13 := ⟨_, Tryz.func13, rfl, by decide⟩
theorem yq4 : Callable Tryz.prog 15 := ⟨_, Tryz.func15, rfl, by decide⟩
theorem ygd : Callable Tryz.prog 16 := ⟨_, Tryz.func16, rfl, by decide⟩
theorem ymN : Callable Tryz.prog 18 := ⟨_, Tryz.func18, rfl, by decide⟩
theorem ylC : Callable Tryz.prog 19 := ⟨_, Tryz.func19, rfl, by decide⟩
theorem yi1 : Callable Tryz.prog 20 := ⟨_, Tryz.func20, rfl, by decide⟩
theorem yro : Callable Tryz.prog 22 := ⟨_, Tryz.func22, rfl, by decide⟩
theorem yru : Callable Tryz.prog 24 := ⟨_, Tryz.func24, rfl, by decide⟩
theorem ysb : Callable Tryz.prog 25 := ⟨_, Tryz.func25, rfl, by decide⟩
theorem ymO : Callable Tryz.prog 26 := ⟨_, Tryz.func26, rfl, by decide⟩
theorem yrw : Callable Tryz.prog 27 := ⟨_, Tryz.func27, rfl, by decide⟩
theorem yrc : Callable Tryz.prog 28 := ⟨_, Tryz.func28, rfl, by decide⟩
theorem yqR : Callable Tryz.prog 29 := ⟨_, Tryz.func29, rfl, by decide⟩
theorem yrB : Callable Tryz.prog 31 := ⟨_, Tryz.func31, rfl, by decide⟩
theorem yrU : Callable Tryz.prog 33 := ⟨_, Tryz.func33, rfl, by decide⟩
theorem yrp : Callable Tryz.prog 34 := ⟨_, Tryz.func34, rfl, by decide⟩
theorem yrQ : Callable Tryz.prog 39 := ⟨_, Tryz.func39, rfl, by decide⟩
theorem ymh : Callable Tryz.prog 40 := ⟨_, Tryz.func40, rfl, by decide⟩
theorem yse : Callable Tryz.prog 42 := ⟨_, Tryz.func42, rfl, by decide⟩
theorem ydV : Callable Tryz.prog 44 := ⟨_, Tryz.func44, rfl, by decide⟩
theorem yqW : Callable Tryz.prog 45 := ⟨_, Tryz.func45, rfl, by decide⟩
theorem yrh : Callable Tryz.prog 49 := ⟨_, Tryz.func49, rfl, by decide⟩
theorem ydX : Callable Tryz.prog 50 := ⟨_, Tryz.func50, rfl, by decide⟩
theorem ym7 : Callable Tryz.prog 52 := ⟨_, Tryz.func52, rfl, by decide⟩
theorem yrK : Callable Tryz.prog 53 := ⟨_, Tryz.func53, rfl, by decide⟩
theorem ycs : Callable Tryz.prog 54 := ⟨_, Tryz.func54, rfl, by decide⟩
theorem ylV : Callable Tryz.prog 55 := ⟨_, Tryz.func55, rfl, by decide⟩
theorem ymm : Callable Tryz.prog 56 := ⟨_, Tryz.func56, rfl, by decide⟩
theorem ym3 : Callable Tryz.prog 57 := ⟨_, Tryz.func57, rfl, by decide⟩
theorem yqT : Callable Tryz.prog 59 := ⟨_, Tryz.func59, rfl, by decide⟩
theorem yrq : Callable Tryz.prog 60 := ⟨_, Tryz.func60, rfl, by decide⟩
theorem yr1 : Callable Tryz.prog 61 := ⟨_, Tryz.func61, rfl, by decide⟩
theorem yaP : Callable Tryz.prog 62 := ⟨_, Tryz.func62, rfl, by decide⟩
theorem yrM : Callable Tryz.prog 63 := ⟨_, Tryz.func63, rfl, by decide⟩
theorem ynf : Callable Tryz.prog 64 := ⟨_, Tryz.func64, rfl, by decide⟩
theorem yrV : Callable Tryz.prog 65 := ⟨_, Tryz.func65, rfl, by decide⟩
theorem ylY : Callable Tryz.prog 66 := ⟨_, Tryz.func66, rfl, by decide⟩
theorem ym5 : Callable Tryz.prog 67 := ⟨_, Tryz.func67, rfl, by decide⟩
theorem yfI : Callable Tryz.prog 68 := ⟨_, Tryz.func68, rfl, by decide⟩
theorem ynn : Callable Tryz.prog 69 := ⟨_, Tryz.func69, rfl, by decide⟩
theorem yrs : Callable Tryz.prog 70 := ⟨_, Tryz.func70, rfl, by decide⟩
theorem Yj : Callable Tryz.prog 71 := ⟨_, Tryz.func71, rfl, by decide⟩
theorem yrN : Callable Tryz.prog 72 := ⟨_, Tryz.func72, rfl, by decide⟩
theorem yrY : Callable Tryz.prog 79 := ⟨_, Tryz.func79, rfl, by decide⟩
theorem yb9 : Callable Tryz.prog 80 := ⟨_, Tryz.func80, rfl, by decide⟩
theorem ynw : Callable Tryz.prog 81 := ⟨_, Tryz.func81, rfl, by decide⟩
theorem yrX : Callable Tryz.prog 82 := ⟨_, Tryz.func82, rfl, by decide⟩
theorem ylH : Callable Tryz.prog 83 := ⟨_, Tryz.func83, rfl, by decide⟩
theorem yim : Callable Tryz.prog 84 := ⟨_, Tryz.func84, rfl, by decide⟩
theorem yjk : Callable Tryz.prog 85 := ⟨_, Tryz.func85, rfl, by decide⟩
theorem yil : Callable Tryz.prog 86 := ⟨_, Tryz.func86, rfl, by decide⟩
theorem ylI : Callable Tryz.prog 87 := ⟨_, Tryz.func87, rfl, by decide⟩
theorem yrr : Callable Tryz.prog 88 := ⟨_, Tryz.func88, rfl, by decide⟩
theorem yrz : Callable Tryz.prog 89 := ⟨_, Tryz.func89, rfl, by decide⟩
theorem yl3 : Callable Tryz.prog 92 := ⟨_, Tryz.func92, rfl, by decide⟩
theorem yrC : Callable Tryz.prog 93 := ⟨_, Tryz.func93, rfl, by decide⟩
theorem ym0 : Callable Tryz.prog 94 := ⟨_, Tryz.func94, rfl, by decide⟩
theorem yrE : Callable Tryz.prog 95 := ⟨_, Tryz.func95, rfl, by decide⟩
theorem yra : Callable Tryz.prog 96 := ⟨_, Tryz.func96, rfl, by decide⟩
theorem ybm : Callable Tryz.prog 97 := ⟨_, Tryz.func97, rfl, by decide⟩
theorem yaJ : Callable Tryz.prog 99 := ⟨_, Tryz.func99, rfl, by decide⟩
theorem ypQ : Callable Tryz.prog 100 := ⟨_, Tryz.func100, rfl, by decide⟩
theorem y8 : Callable Tryz.prog 101 := ⟨_, Tryz.func101, rfl, by decide⟩
theorem ybW : Callable Tryz.prog 102 := ⟨_, Tryz.func102, rfl, by decide⟩
theorem ZQ : Callable Tryz.prog 103 := ⟨_, Tryz.func103, rfl, by decide⟩
theorem yca : Callable Tryz.prog 104 := ⟨_, Tryz.func104, rfl, by decide⟩
theorem yb3 : Callable Tryz.prog 105 := ⟨_, Tryz.func105, rfl, by decide⟩
theorem yp6 : Callable Tryz.prog 106 := ⟨_, Tryz.func106, rfl, by decide⟩
theorem yqt : Callable Tryz.prog 107 := ⟨_, Tryz.func107, rfl, by decide⟩
theorem ykg : Callable Tryz.prog 108 := ⟨_, Tryz.func108, rfl, by decide⟩
theorem yp7 : Callable Tryz.prog 109 := ⟨_, Tryz.func109, rfl, by decide⟩
theorem ZR : Callable Tryz.prog 115 := ⟨_, Tryz.func115, rfl, by decide⟩
theorem yb2 : Callable Tryz.prog 116 := ⟨_, Tryz.func116, rfl, by decide⟩
theorem yaY : Callable Tryz.prog 117 := ⟨_, Tryz.func117, rfl, by decide⟩
theorem yka : Callable Tryz.prog 118 := ⟨_, Tryz.func118, rfl, by decide⟩
theorem yb5 : Callable Tryz.prog 119 := ⟨_, Tryz.func119, rfl, by decide⟩
theorem ypK : Callable Tryz.prog 120 := ⟨_, Tryz.func120, rfl, by decide⟩
theorem ZS : Callable Tryz.prog 121 := ⟨_, Tryz.func121, rfl, by decide⟩
theorem yku : Callable Tryz.prog 122 := ⟨_, Tryz.func122, rfl, by decide⟩
theorem ypu : Callable Tryz.prog 123 := ⟨_, Tryz.func123, rfl, by decide⟩
theorem yp9 : Callable Tryz.prog 124 := ⟨_, Tryz.func124, rfl, by decide⟩
theorem ypA : Callable Tryz.prog 125 := ⟨_, Tryz.func125, rfl, by decide⟩
theorem ZI : Callable Tryz.prog 126 := ⟨_, Tryz.func126, rfl, by decide⟩
theorem yj6 : Callable Tryz.prog 127 := ⟨_, Tryz.func127, rfl, by decide⟩
theorem yek : Callable Tryz.prog 128 := ⟨_, Tryz.func128, rfl, by decide⟩
theorem yeb : Callable Tryz.prog 129 := ⟨_, Tryz.func129, rfl, by decide⟩
theorem yp4 : Callable Tryz.prog 130 := ⟨_, Tryz.func130, rfl, by decide⟩
theorem yd8 : Callable Tryz.prog 131 := ⟨_, Tryz.func131, rfl, by decide⟩
theorem ygz : Callable Tryz.prog 132 := ⟨_, Tryz.func132, rfl, by decide⟩
theorem ypY : Callable Tryz.prog 136 := ⟨_, Tryz.func136, rfl, by decide⟩
theorem yqN : Callable Tryz.prog 137 := ⟨_, Tryz.func137, rfl, by decide⟩
theorem ypL : Callable Tryz.prog 138 := ⟨_, Tryz.func138, rfl, by decide⟩
theorem yqJ : Callable Tryz.prog 139 := ⟨_, Tryz.func139, rfl, by decide⟩
theorem ygv : Callable Tryz.prog 140 := ⟨_, Tryz.func140, rfl, by decide⟩
theorem ypt : Callable Tryz.prog 141 := ⟨_, Tryz.func141, rfl, by decide⟩
theorem ypy : Callable Tryz.prog 142 := ⟨_, Tryz.func142, rfl, by decide⟩
theorem ygN : Callable Tryz.prog 144 := ⟨_, Tryz.func144, rfl, by decide⟩
theorem ykD : Callable Tryz.prog 145 := ⟨_, Tryz.func145, rfl, by decide⟩
theorem yp5 : Callable Tryz.prog 146 := ⟨_, Tryz.func146, rfl, by decide⟩
theorem ycb : Callable Tryz.prog 147 := ⟨_, Tryz.func147, rfl, by decide⟩
theorem ygp : Callable Tryz.prog 148 := ⟨_, Tryz.func148, rfl, by decide⟩
theorem ygK : Callable Tryz.prog 149 := ⟨_, Tryz.func149, rfl, by decide⟩
theorem ypD : Callable Tryz.prog 150 := ⟨_, Tryz.func150, rfl, by decide⟩
theorem ypE : Callable Tryz.prog 151 := ⟨_, Tryz.func151, rfl, by decide⟩
theorem ycm : Callable Tryz.prog 152 := ⟨_, Tryz.func152, rfl, by decide⟩
theorem yps : Callable Tryz.prog 153 := ⟨_, Tryz.func153, rfl, by decide⟩
theorem ykL : Callable Tryz.prog 154 := ⟨_, Tryz.func154, rfl, by decide⟩
theorem ygq : Callable Tryz.prog 155 := ⟨_, Tryz.func155, rfl, by decide⟩
theorem yqn : Callable Tryz.prog 156 := ⟨_, Tryz.func156, rfl, by decide⟩
theorem yb1 : Callable Tryz.prog 157 := ⟨_, Tryz.func157, rfl, by decide⟩
theorem ykK : Callable Tryz.prog 158 := ⟨_, Tryz.func158, rfl, by decide⟩
theorem ypB : Callable Tryz.prog 162 := ⟨_, Tryz.func162, rfl, by decide⟩
theorem ypU : Callable Tryz.prog 163 := ⟨_, Tryz.func163, rfl, by decide⟩
theorem yqr : Callable Tryz.prog 164 := ⟨_, Tryz.func164, rfl, by decide⟩
theorem yqg : Callable Tryz.prog 165 := ⟨_, Tryz.func165, rfl, by decide⟩
theorem ykh : Callable Tryz.prog 167 := ⟨_, Tryz.func167, rfl, by decide⟩
theorem yd5 : Callable Tryz.prog 168 := ⟨_, Tryz.func168, rfl, by decide⟩
theorem ypJ : Callable Tryz.prog 181 := ⟨_, Tryz.func181, rfl, by decide⟩
theorem ypH : Callable Tryz.prog 193 := ⟨_, Tryz.func193, rfl, by decide⟩
end Go.Proofs.YtigideidmcmfbaaGreatDoor

namespace Go.Proofs.YtigideidmcmfbaaGreatDoor
open Go Go.Aw
variable {kr : KR}
def GL (kr : KR) : List (Nat × PV) := [(0, .ptr [.map (wdK kr) (wdV kr)]), (1, .tab .u64 Lib.pow10Tab)]
set_option maxHeartbeats 1000000 in
theorem Zg (c : Int) : Pur Tryz.prog (GL kr) 131 [.pv (.int .u8 c)] (.pv (.bool (Zc c))) := by
 refine yB fun σ hgl => ?_
 refine yk tyOk Tryz.func131 rfl (by simp [Tryz.f131]) ?_
 refine sS ?_
 refine sG ?_
 refine aT 3 ?_
 refine yn 5 (by first | rfl | (simp [go_sem] <;> rfl)) (fun h0 => ?_) (fun h0 => ?_)
 ·refine aLG 2 5 true (by simp [go_sem] <;> rfl) ?_
  refine aT 2 ?_
  refine ye (yd (eR ?_))
  exact ⟨by simp [go_sem, h0, Zc], by simp [go_sem]⟩
 ·refine aK 2 5 true ?_
  refine aT 2 ?_
  refine ye (yd (eR ?_))
  exact ⟨by simp [go_sem, h0, Zc], by simp [go_sem]⟩

set_option maxHeartbeats 1000000 in
theorem Zd (c : Int) : Pur Tryz.prog (GL kr) 128 [.pv (.int .u8 c)] (.pv (.bool (Zc c))) := by
 refine yB fun σ hgl => ?_
 refine yk tyOk Tryz.func128 rfl (by simp [Tryz.f128]) ?_
 refine sS ?_
 refine sG ?_
 refine aT 3 ?_
 refine yn 5 (by first | rfl | (simp [go_sem] <;> rfl)) (fun h0 => ?_) (fun h0 => ?_)
 ·refine aLG 2 5 true (by simp [go_sem] <;> rfl) ?_
  refine aT 2 ?_
  refine ye (yd (eR ?_))
  exact ⟨by simp [go_sem, h0, Zc], by simp [go_sem]⟩
 ·refine aK 2 5 true ?_
  refine aT 2 ?_
  refine ye (yd (eR ?_))
  exact ⟨by simp [go_sem, h0, Zc], by simp [go_sem]⟩

def yrm : Go.Shelf.Ren := ⟨fun x => match x with | 137 => 158 | 217 => 169 | 266 => 186 | n => n, fun x => match x with | 3 => 3 | 5 => 5 | 9 => 9 | n => n, fun x => x⟩
theorem yp2 : Go.Proofs.Lays.n137 Tryz.prog yrm :=
  { mixed := Eq.refl true,
    f137 := Eq.trans Tryz.func158 (congrArg some (by kernel_rfl)),
    f217 := Eq.trans Tryz.func169 (congrArg some (by kernel_rfl)),
    f266 := Eq.trans Tryz.func186 (congrArg some (by kernel_rfl)),
    t3 := Tryz.underlying3, a3 := Tryz.isAgg3, z3 := Tryz.sizeOf3,
    v3 := Tryz.zeroValue3, t5 := Tryz.underlying5, a5 := Tryz.isAgg5,
    z5 := Tryz.sizeOf5, v5 := Tryz.zeroValue5, t9 := Tryz.underlying9,
    a9 := Tryz.isAgg9, z9 := Tryz.sizeOf9, v9 := Tryz.zeroValue9 }
theorem yeJ (s : ByteArray) (c : Int) : Pur Tryz.prog (GL kr) 158 [.pv (.str s), .pv (.int .u8 c)] (.pv (.int .i64 (Lib.indexByte s.data.toList c.toNat.toUInt8))) :=
  yjh (ps := [.str s, .int .u8 c]) [.str, .int .u8] rfl (.int .i64) rfl fun w => Go.Proofs.Any.strings_IndexByte yp2 s c w

set_option maxHeartbeats 1000000 in
theorem yan (c : Int) : Pur Tryz.prog (GL kr) 132 [.pv (.int .u8 c)] (.pv (.bool (zE c))) := by
 refine yB fun σ hgl => ?_
 refine yk tyOk Tryz.func132 rfl (by simp [Tryz.f132]) ?_
 refine sS ?_
 refine sG ?_
 refine aT 3 ?_
 refine yn 5 (by first | rfl | (simp [go_sem] <;> rfl)) (fun h0 => ?_) (fun h0 => ?_)
 ·refine aLG 2 5 true (by simp [go_sem] <;> rfl) ?_
  refine aT 2 ?_
  refine yn 9 (by first | rfl | (simp [go_sem] <;> rfl)) (fun h1 => ?_) (fun h1 => ?_)
  ·refine aK 2 9 false ?_
   refine aT 2 ?_
   refine aK 3 13 false ?_
   refine aT 2 ?_
   refine ye (yd (eR ?_))
   exact ⟨by simp [go_sem, h0, h1, zE, Zb], by simp [go_sem]⟩
  ·refine aLG 1 9 false (by simp [go_sem] <;> rfl) ?_
   refine yY 9 false false (by simp [go_sem]) rfl (by simp [go_sem]) rfl rfl (by simp [go_sem] <;> rfl) yd8 ((Zg c) _ (by exact hgl)) (by simp [go_sem] <;> rfl) (by simp [go_sem]) rfl rfl ?_
   refine aT 2 ?_
   refine yn 13 (by first | rfl | (simp [go_sem] <;> rfl)) (fun h2 => ?_) (fun h2 => ?_)
   ·refine aK 3 13 false ?_
    refine aT 2 ?_
    refine ye (yd (eR ?_))
    exact ⟨by simp [go_sem, h0, h1, h2, zE, Zb], by simp [go_sem]⟩
   ·refine aLG 1 13 false (by simp [go_sem] <;> rfl) ?_
    refine yY 13 false false (by simp [go_sem]) rfl (by simp [go_sem]) rfl rfl (by simp [go_sem] <;> rfl) ykK ((yeJ ⟨#[43, 45, 42, 47, 60, 61, 62, 63, 33, 95, 46]⟩ c) _ (by exact hgl)) (by simp [go_sem] <;> rfl) (by simp [go_sem]) rfl rfl ?_
    refine aLG 1 13 false (by simp [go_sem] <;> rfl) ?_
    refine aT 2 ?_
    refine ye (yd (eR ?_))
    exact ⟨by simp [go_sem, h0, h1, h2, zE, Zb], by simp [go_sem]⟩
 ·refine aK 2 5 true ?_
  refine aT 2 ?_
  refine aLG 1 9 false (by simp [go_sem] <;> rfl) ?_
  refine yY 9 false false (by simp [go_sem]) rfl (by simp [go_sem]) rfl rfl (by simp [go_sem] <;> rfl) yd8 ((Zg c) _ (by exact hgl)) (by simp [go_sem] <;> rfl) (by simp [go_sem]) rfl rfl ?_
  refine aT 2 ?_
  refine yn 13 (by first | rfl | (simp [go_sem] <;> rfl)) (fun h3 => ?_) (fun h3 => ?_)
  ·refine aK 3 13 false ?_
   refine aT 2 ?_
   refine ye (yd (eR ?_))
   exact ⟨by simp [go_sem, h0, h3, zE, Zb], by simp [go_sem]⟩
  ·refine aLG 1 13 false (by simp [go_sem] <;> rfl) ?_
   refine yY 13 false false (by simp [go_sem]) rfl (by simp [go_sem]) rfl rfl (by simp [go_sem] <;> rfl) ykK ((yeJ ⟨#[43, 45, 42, 47, 60, 61, 62, 63, 33, 95, 46]⟩ c) _ (by exact hgl)) (by simp [go_sem] <;> rfl) (by simp [go_sem]) rfl rfl ?_
   refine aLG 1 13 false (by simp [go_sem] <;> rfl) ?_
   refine aT 2 ?_
   refine ye (yd (eR ?_))
   exact ⟨by simp [go_sem, h0, h3, zE, Zb], by simp [go_sem]⟩

set_option maxHeartbeats 1000000 in
theorem Yl (c : Int) : Pur Tryz.prog (GL kr) 129 [.pv (.int .u8 c)] (.pv (.bool (letter c))) := by
 refine yB fun σ hgl => ?_
 refine yk tyOk Tryz.func129 rfl (by simp [Tryz.f129]) ?_
 refine sS ?_
 refine ya (sS ?_)
 refine yh (yq σ.objs.length σ.toks.length 0 [0, 2] (fun k : Nat => [(3, .pv (.int .i64 ↑k))]) (fun k => σ) (fun k => k ≤ 11 ∧ NotYet (fun k : Nat => c == Y6 yhW k) (List.range 11) k) (fun k => 11 - k) 0 (⟨Nat.zero_le _, .zero⟩) ⟨by simp [go_sem], rfl, by simp, by simp, by simp [go_sem], fun ob h => .inl (by simpa [go_sem] using h), by simp [go_sem]⟩ ?_)
 rintro k ⟨hk, hn⟩
 refine ya (sS ?_)
 refine aC (fun h0 => ?_) (fun h0 => ?_)
 ·have hlt : k < 11 := by simp at h0; omega
  have hw : IntKind.i64.wrap (↑k + 1) = (k : Int) + 1 := yv (by omega)
  have hr : (List.range 11)[k]? = some k := by simp [hlt]
  have hz : (↑k : Int) < 11 := by omega
  have hat : Y6 ⟨#[43, 45, 42, 47, 60, 61, 62, 63, 33, 95, 46]⟩ ↑k = Y6 yhW ↑k := rfl
  refine yg (ya (yh (sA (by simp [go_sem, hz, hat] <;> rfl) ?_)))
  refine yc (by first | rfl | (simp [go_sem, hz, hat] <;> rfl)) (fun h1 => ?_) (fun h1 => ?_)
  ·refine ya (aS ?_)
   refine yd (yi (yf (yf (yi (yf (eR ?_))))))
   have hany : ygG c = true := ZH (p := fun k : Nat => c == Y6 yhW k) hr h1
   exact ⟨by simp [go_sem, letter, hany], by simp [go_sem]⟩
  ·refine yg (aS ?_)
   exact yx (k + 1) σ.objs.length σ.toks.length 0 (⟨hlt, hn.succ hr (by simpa using h1)⟩) (by omega) ⟨by simp [go_sem], rfl, by simp, by simp, by simp [go_sem, hw], fun ob h => .inl (by simpa [go_sem, hz, hat, hw] using h), by simp [go_sem]⟩
 ·have hke : k = 11 := by simp at h0; omega
  subst hke
  have hany : ygG c = false := hn.any (l := List.range 11)
  refine yp (yj (yj (yl (sG ?_))))
  refine aT 1 ?_
  refine aG yek ((Zd c) _ (by exact hgl)) ?_
  refine aT 1 ?_
  refine yn 14 (by first | rfl | (simp [go_sem, hany] <;> rfl)) (fun h2 => ?_) (fun h2 => ?_)
  ·refine aK 3 14 false ?_
   refine aK 2 17 true ?_
   refine aK 1 14 false ?_
   refine aT 2 ?_
   refine ye (yd (eR ?_))
   exact ⟨by simp [go_sem, hany, h2, letter, Zb], by simp [go_sem]⟩
  ·refine aLG 3 14 false (by simp [go_sem] <;> rfl) ?_
   refine yn 17 (by first | rfl | (simp [go_sem, hany] <;> rfl)) (fun h3 => ?_) (fun h3 => ?_)
   ·refine aLG 2 17 true (by simp [go_sem] <;> rfl) ?_
    refine aLG 1 14 false (by simp [go_sem] <;> rfl) ?_
    refine aT 2 ?_
    refine ye (yd (eR ?_))
    exact ⟨by simp [go_sem, hany, h2, h3, letter, Zb], by simp [go_sem]⟩
   ·refine aK 2 17 true ?_
    refine aLG 1 14 false (by simp [go_sem] <;> rfl) ?_
    refine aT 2 ?_
    refine ye (yd (eR ?_))
    exact ⟨by simp [go_sem, hany, h2, h3, letter, Zb], by simp [go_sem]⟩

end Go.Proofs.YtigideidmcmfbaaGreatDoor

namespace Go.Proofs.YtigideidmcmfbaaGreatDoor
open Go Go.Aw
variable {kr : KR}
set_option maxHeartbeats 1000000 in
theorem ya6 (s : ByteArray) : Pur Tryz.prog (GL kr) 87 [.pv (.str s)] (.pv (.bool (zw zE s))) := by
 refine yB fun σ hgl => ?_
 refine yk tyOk Tryz.func87 rfl (by simp [Tryz.f87]) ?_
 refine sS ?_
 refine ya (sG ?_)
 refine aT 4 ?_
 refine yn 7 (by first | rfl | (simp [go_sem, bt0, bt1] <;> rfl)) (fun h0 => ?_) (fun h0 => ?_)
 ·refine aK 3 7 false ?_
  refine aT 2 ?_
  refine aK 3 12 false ?_
  refine aT 2 ?_
  refine aK 4 17 false ?_
  refine aK 3 21 true ?_
  refine aK 2 17 false ?_
  refine aK 3 26 true ?_
  refine aK 1 17 false ?_
  refine aT 1 ?_
  refine ye (yc (b := true) (by simp [go_sem]) (fun h => ?_) (fun h => ?_))
  rotate_left
  ·cases h
  refine sS ?_
  refine yd (yf (eR ?_))
  exact ⟨by simp only [zw, h0, bA, bG, bI]; simp [go_sem], by simp [go_sem]⟩
 ·have hp : 0 < s.size := by have := h0; simp only [beq_eq_false_iff_ne] at this; omega
  refine aLG 3 7 false (by simp [go_sem] <;> rfl) ?_
  refine aT 2 ?_
  refine yn 12 (by first | rfl | (simp [go_sem, bt0, bt1, hp] <;> rfl)) (fun h1 => ?_) (fun h1 => ?_)
  ·refine aK 3 12 false ?_
   refine aT 2 ?_
   refine aK 4 17 false ?_
   refine aK 3 21 true ?_
   refine aK 2 17 false ?_
   refine aK 3 26 true ?_
   refine aK 1 17 false ?_
   refine aT 1 ?_
   refine ye (yc (b := true) (by simp [go_sem]) (fun h => ?_) (fun h => ?_))
   rotate_left
   ·cases h
   refine sS ?_
   refine yd (yf (eR ?_))
   exact ⟨by simp only [zw, h0, h1, bA, bB, bG, bI]; simp [go_sem], by simp [go_sem]⟩
  ·have h40 : s.size ≤ 40 := by simp at h1; omega
   refine aLG 2 12 false (by simp [go_sem, bt0, hp] <;> rfl) ?_
   refine yY 12 false false (by simp [go_sem]) rfl (by simp [go_sem]) rfl rfl (by simp [go_sem] <;> rfl) yd8 ((Zg (bt s 0)) _ (by exact hgl)) (by simp [go_sem] <;> rfl) (by simp [go_sem]) rfl rfl ?_
   refine aT 2 ?_
   refine yn 17 (by first | rfl | (simp [go_sem, bt0, bt1, hp] <;> rfl)) (fun h2 => ?_) (fun h2 => ?_)
   ·refine aK 4 17 false ?_
    refine aK 3 21 true ?_
    refine aK 2 17 false ?_
    refine aK 3 26 true ?_
    refine aK 1 17 false ?_
    refine aT 1 ?_
    refine ye (yc (b := true) (by simp [go_sem]) (fun h => ?_) (fun h => ?_))
    rotate_left
    ·cases h
    refine sS ?_
    refine yd (yf (eR ?_))
    exact ⟨by simp only [zw, h0, h1, h2, bA, bB, bD, bG, bI]; simp [go_sem], by simp [go_sem]⟩
   ·refine aLG 4 17 false (by simp [go_sem, bt0, hp] <;> rfl) ?_
    refine yn 21 (by first | rfl | (simp [go_sem, bt0, bt1, hp] <;> rfl)) (fun h3 => ?_) (fun h3 => ?_)
    ·refine aLG 3 21 true (by simp [go_sem] <;> rfl) ?_
     refine aLG 2 17 false (by simp [go_sem] <;> rfl) ?_
     refine yn 26 (by first | rfl | (simp [go_sem, bt0, bt1, hp] <;> rfl)) (fun h4 => ?_) (fun h4 => ?_)
     ·have hp1 : (1 : Int) < s.size := by simpa using h4
      refine aLG 2 26 true (by simp [go_sem, bt1, hp1] <;> rfl) ?_
      refine yY 26 true true (by simp [go_sem]) rfl (by simp [go_sem]) rfl rfl (by simp [go_sem] <;> rfl) yd8 ((Zg (bt s 1)) _ (by exact hgl)) (by simp [go_sem] <;> rfl) (by simp [go_sem]) rfl rfl ?_
      refine aLG 1 17 false (by simp [go_sem] <;> rfl) ?_
      refine aT 1 ?_
      refine ye (yc (by first | rfl | (simp [go_sem, bt0, bt1, hp, hp1] <;> rfl)) (fun h5 => ?_) (fun h5 => ?_))
      ·refine ya (aS ?_)
       refine yd (yf (eR ?_))
       exact ⟨by simp only [zw, hp1, h0, h1, h2, h3, h5, bC, bD, bE, bF]; simp [go_sem], by simp [go_sem]⟩
      ·refine yg (ya (sS ?_))
       refine yh (yq σ.objs.length σ.toks.length 0 [0, 2, 33] (fun k : Nat => [(34, .pv (.int .i64 ↑k))]) (fun k => σ) (fun k => k ≤ s.size ∧ NotYet (fun i => !zE (bt s i)) (List.range s.size) k) (fun k => s.size - k) 0 (⟨Nat.zero_le _, .zero⟩) ⟨by simp [go_sem], rfl, by simp, by simp, by simp [go_sem], fun ob h => .inl (by simpa [go_sem, bt0, bt1, hp, hp1] using h), by simp [go_sem]⟩ ?_)
       rintro k ⟨hk, hn⟩
       refine sS ?_
       refine ya (yc (by first | rfl | (simp [go_sem, bt0, bt1, hp, hp1] <;> rfl)) (fun h6 => ?_) (fun h6 => ?_))
       ·have hlt : k < s.size := by simp at h6; omega
        have hw : IntKind.i64.wrap (↑k + 1) = (k : Int) + 1 := yv (by omega)
        have hr : (List.range s.size)[k]? = some k := by simp [hlt]
        have hz : (k : Int) < s.size := by omega
        refine yg (ya (yh (sS ?_)))
        refine sG ?_
        refine aL 3 (by simp [go_sem, hz, zA] <;> rfl) ?_
        refine aG ygz ((yan (bt s k)) _ (by exact hgl)) ?_
        refine aT 1 ?_
        refine ye (yc (by first | rfl | (simp [go_sem, bt0, bt1, hp, hp1, hz, zA] <;> rfl)) (fun h7 => ?_) (fun h7 => ?_))
        ·refine ya (aS ?_)
         refine yd (yi (yf (yf (yi (yf (eR ?_))))))
         have hall : (List.range s.size).all (fun i => zE (bt s i)) = false := ZP hlt (by simpa [zA] using h7)
         exact ⟨by simp only [zw, hall, bH]; simp [go_sem], by simp [go_sem]⟩
        ·refine yg (aS ?_)
         exact yx (k + 1) σ.objs.length σ.toks.length 0 (⟨hlt, hn.succ hr (by simpa [zA] using h7)⟩) (by omega) ⟨by simp [go_sem], rfl, by simp, by simp, by simp [go_sem, hw], fun ob h => .inl (by simpa [go_sem, bt0, bt1, hp, hp1, hz, zA, hw] using h), by simp [go_sem]⟩
       ·have hke : k = s.size := by simp at h6; omega
        subst hke
        have hall : (List.range s.size).all (fun i => zE (bt s i)) = true := YE hn
        refine yp (yj (yj (yl (sS ?_))))
        refine yd (eR ?_)
        exact ⟨by simp only [zw, hp1, hall, h0, h1, h2, h3, h5, bD, bE, bF, bH, bJ]; simp [go_sem], by simp [go_sem]⟩
     ·refine aK 3 26 true ?_
      refine aLG 1 17 false (by simp [go_sem] <;> rfl) ?_
      refine aT 1 ?_
      refine ye (yc (b := false) (by simp [go_sem]) (fun h => ?_) (fun h => ?_))
      ·cases h
      refine yg (ya (sS ?_))
      refine yh (yq σ.objs.length σ.toks.length 0 [0, 2, 33] (fun k : Nat => [(34, .pv (.int .i64 ↑k))]) (fun k => σ) (fun k => k ≤ s.size ∧ NotYet (fun i => !zE (bt s i)) (List.range s.size) k) (fun k => s.size - k) 0 (⟨Nat.zero_le _, .zero⟩) ⟨by simp [go_sem], rfl, by simp, by simp, by simp [go_sem], fun ob h => .inl (by simpa [go_sem, bt0, bt1, hp] using h), by simp [go_sem]⟩ ?_)
      rintro k ⟨hk, hn⟩
      refine sS ?_
      refine ya (yc (by first | rfl | (simp [go_sem, bt0, bt1, hp] <;> rfl)) (fun h8 => ?_) (fun h8 => ?_))
      ·have hlt : k < s.size := by simp at h8; omega
       have hw : IntKind.i64.wrap (↑k + 1) = (k : Int) + 1 := yv (by omega)
       have hr : (List.range s.size)[k]? = some k := by simp [hlt]
       have hz : (k : Int) < s.size := by omega
       refine yg (ya (yh (sS ?_)))
       refine sG ?_
       refine aL 3 (by simp [go_sem, hz, zA] <;> rfl) ?_
       refine aG ygz ((yan (bt s k)) _ (by exact hgl)) ?_
       refine aT 1 ?_
       refine ye (yc (by first | rfl | (simp [go_sem, bt0, bt1, hp, hz, zA] <;> rfl)) (fun h9 => ?_) (fun h9 => ?_))
       ·refine ya (aS ?_)
        refine yd (yi (yf (yf (yi (yf (eR ?_))))))
        have hall : (List.range s.size).all (fun i => zE (bt s i)) = false := ZP hlt (by simpa [zA] using h9)
        exact ⟨by simp only [zw, hall, bH]; simp [go_sem], by simp [go_sem]⟩
       ·refine yg (aS ?_)
        exact yx (k + 1) σ.objs.length σ.toks.length 0 (⟨hlt, hn.succ hr (by simpa [zA] using h9)⟩) (by omega) ⟨by simp [go_sem], rfl, by simp, by simp, by simp [go_sem, hw], fun ob h => .inl (by simpa [go_sem, bt0, bt1, hp, hz, zA, hw] using h), by simp [go_sem]⟩
      ·have hke : k = s.size := by simp at h8; omega
       subst hke
       have hall : (List.range s.size).all (fun i => zE (bt s i)) = true := YE hn
       refine yp (yj (yj (yl (sS ?_))))
       refine yd (eR ?_)
       exact ⟨by simp only [zw, hall, h0, h1, h2, h3, h4, bD, bF, bG, bH, bJ]; simp [go_sem], by simp [go_sem]⟩
    ·refine aK 3 21 true ?_
     refine aLG 2 17 false (by simp [go_sem] <;> rfl) ?_
     refine aK 3 26 true ?_
     refine aLG 1 17 false (by simp [go_sem] <;> rfl) ?_
     refine aT 1 ?_
     refine ye (yc (b := false) (by simp [go_sem]) (fun h => ?_) (fun h => ?_))
     ·cases h
     refine yg (ya (sS ?_))
     refine yh (yq σ.objs.length σ.toks.length 0 [0, 2, 33] (fun k : Nat => [(34, .pv (.int .i64 ↑k))]) (fun k => σ) (fun k => k ≤ s.size ∧ NotYet (fun i => !zE (bt s i)) (List.range s.size) k) (fun k => s.size - k) 0 (⟨Nat.zero_le _, .zero⟩) ⟨by simp [go_sem], rfl, by simp, by simp, by simp [go_sem], fun ob h => .inl (by simpa [go_sem, bt0, bt1, hp] using h), by simp [go_sem]⟩ ?_)
     rintro k ⟨hk, hn⟩
     refine sS ?_
     refine ya (yc (by first | rfl | (simp [go_sem, bt0, bt1, hp] <;> rfl)) (fun h10 => ?_) (fun h10 => ?_))
     ·have hlt : k < s.size := by simp at h10; omega
      have hw : IntKind.i64.wrap (↑k + 1) = (k : Int) + 1 := yv (by omega)
      have hr : (List.range s.size)[k]? = some k := by simp [hlt]
      have hz : (k : Int) < s.size := by omega
      refine yg (ya (yh (sS ?_)))
      refine sG ?_
      refine aL 3 (by simp [go_sem, hz, zA] <;> rfl) ?_
      refine aG ygz ((yan (bt s k)) _ (by exact hgl)) ?_
      refine aT 1 ?_
      refine ye (yc (by first | rfl | (simp [go_sem, bt0, bt1, hp, hz, zA] <;> rfl)) (fun h11 => ?_) (fun h11 => ?_))
      ·refine ya (aS ?_)
       refine yd (yi (yf (yf (yi (yf (eR ?_))))))
       have hall : (List.range s.size).all (fun i => zE (bt s i)) = false := ZP hlt (by simpa [zA] using h11)
       exact ⟨by simp only [zw, hall, bH]; simp [go_sem], by simp [go_sem]⟩
      ·refine yg (aS ?_)
       exact yx (k + 1) σ.objs.length σ.toks.length 0 (⟨hlt, hn.succ hr (by simpa [zA] using h11)⟩) (by omega) ⟨by simp [go_sem], rfl, by simp, by simp, by simp [go_sem, hw], fun ob h => .inl (by simpa [go_sem, bt0, bt1, hp, hz, zA, hw] using h), by simp [go_sem]⟩
     ·have hke : k = s.size := by simp at h10; omega
      subst hke
      have hall : (List.range s.size).all (fun i => zE (bt s i)) = true := YE hn
      refine yp (yj (yj (yl (sS ?_))))
      refine yd (eR ?_)
      exact ⟨by simp only [zw, hall, h0, h1, h2, h3, bD, bF, bG, bJ]; simp [go_sem], by simp [go_sem]⟩

set_option maxHeartbeats 1000000 in
theorem ZY (s : ByteArray) : Pur Tryz.prog (GL kr) 85 [.pv (.str s)] (.pv (.bool (zw letter s))) := by
 refine yB fun σ hgl => ?_
 refine yk tyOk Tryz.func85 rfl (by simp [Tryz.f85]) ?_
 refine sS ?_
 refine ya (sG ?_)
 refine aT 4 ?_
 refine yn 7 (by first | rfl | (simp [go_sem, bt0, bt1] <;> rfl)) (fun h0 => ?_) (fun h0 => ?_)
 ·have g0 : ((s.size : Int) == 0) = true := by have := h0; simp only [decide_eq_true_eq] at this; rw [beq_iff_eq]; omega
  refine aK 3 7 false ?_
  refine aT 2 ?_
  refine aK 3 12 false ?_
  refine aT 2 ?_
  refine aK 4 17 false ?_
  refine aK 3 21 true ?_
  refine aK 2 17 false ?_
  refine aK 3 26 true ?_
  refine aK 1 17 false ?_
  refine aT 1 ?_
  refine ye (yc (b := true) (by simp [go_sem]) (fun h => ?_) (fun h => ?_))
  rotate_left
  ·cases h
  refine sS ?_
  refine yd (yf (eR ?_))
  exact ⟨by simp only [zw, g0, bA, bG, bI]; simp [go_sem], by simp [go_sem]⟩
 ·have g0 : ((s.size : Int) == 0) = false := by have := h0; simp only [decide_eq_false_iff_not] at this; rw [beq_eq_false_iff_ne]; omega
  have hp : 0 < s.size := by have := h0; simp only [decide_eq_false_iff_not] at this; omega
  refine aLG 3 7 false (by simp [go_sem] <;> rfl) ?_
  refine aT 2 ?_
  refine yn 12 (by first | rfl | (simp [go_sem, bt0, bt1, hp] <;> rfl)) (fun h1 => ?_) (fun h1 => ?_)
  ·refine aK 3 12 false ?_
   refine aT 2 ?_
   refine aK 4 17 false ?_
   refine aK 3 21 true ?_
   refine aK 2 17 false ?_
   refine aK 3 26 true ?_
   refine aK 1 17 false ?_
   refine aT 1 ?_
   refine ye (yc (b := true) (by simp [go_sem]) (fun h => ?_) (fun h => ?_))
   rotate_left
   ·cases h
   refine sS ?_
   refine yd (yf (eR ?_))
   exact ⟨by simp only [zw, g0, h1, bA, bB, bG, bI]; simp [go_sem], by simp [go_sem]⟩
  ·have h40 : s.size ≤ 40 := by simp at h1; omega
   refine aLG 2 12 false (by simp [go_sem, bt0, hp] <;> rfl) ?_
   refine yY 12 false false (by simp [go_sem]) rfl (by simp [go_sem]) rfl rfl (by simp [go_sem] <;> rfl) yek ((Zd (bt s 0)) _ (by exact hgl)) (by simp [go_sem] <;> rfl) (by simp [go_sem]) rfl rfl ?_
   refine aT 2 ?_
   refine yn 17 (by first | rfl | (simp [go_sem, bt0, bt1, hp] <;> rfl)) (fun h2 => ?_) (fun h2 => ?_)
   ·refine aK 4 17 false ?_
    refine aK 3 21 true ?_
    refine aK 2 17 false ?_
    refine aK 3 26 true ?_
    refine aK 1 17 false ?_
    refine aT 1 ?_
    refine ye (yc (b := true) (by simp [go_sem]) (fun h => ?_) (fun h => ?_))
    rotate_left
    ·cases h
    refine sS ?_
    refine yd (yf (eR ?_))
    exact ⟨by simp only [zw, g0, h1, h2, bA, bB, bD, bG, bI]; simp [go_sem], by simp [go_sem]⟩
   ·refine aLG 4 17 false (by simp [go_sem, bt0, hp] <;> rfl) ?_
    refine yn 21 (by first | rfl | (simp [go_sem, bt0, bt1, hp] <;> rfl)) (fun h3 => ?_) (fun h3 => ?_)
    ·refine aLG 3 21 true (by simp [go_sem] <;> rfl) ?_
     refine aLG 2 17 false (by simp [go_sem] <;> rfl) ?_
     refine yn 26 (by first | rfl | (simp [go_sem, bt0, bt1, hp] <;> rfl)) (fun h4 => ?_) (fun h4 => ?_)
     ·have hp1 : (1 : Int) < s.size := by simpa using h4
      refine aLG 2 26 true (by simp [go_sem, bt1, hp1] <;> rfl) ?_
      refine yY 26 true true (by simp [go_sem]) rfl (by simp [go_sem]) rfl rfl (by simp [go_sem] <;> rfl) yek ((Zd (bt s 1)) _ (by exact hgl)) (by simp [go_sem] <;> rfl) (by simp [go_sem]) rfl rfl ?_
      refine aLG 1 17 false (by simp [go_sem] <;> rfl) ?_
      refine aT 1 ?_
      refine ye (yc (by first | rfl | (simp [go_sem, bt0, bt1, hp, hp1] <;> rfl)) (fun h5 => ?_) (fun h5 => ?_))
      ·refine ya (aS ?_)
       refine yd (yf (eR ?_))
       exact ⟨by simp only [zw, hp1, g0, h1, h2, h3, h5, bC, bD, bE, bF]; simp [go_sem], by simp [go_sem]⟩
      ·refine yg (ya (sS ?_))
       refine yh (yq σ.objs.length σ.toks.length 0 [0, 2] (fun k : Nat => [(3, .pv (.int .i64 ↑k))]) (fun k => σ) (fun k => k ≤ s.size ∧ NotYet (fun i => !letter (bt s i)) (List.range s.size) k) (fun k => s.size - k) 0 (⟨Nat.zero_le _, .zero⟩) ⟨by simp [go_sem], rfl, by simp, by simp, by simp [go_sem], fun ob h => .inl (by simpa [go_sem, bt0, bt1, hp, hp1] using h), by simp [go_sem]⟩ ?_)
       rintro k ⟨hk, hn⟩
       refine ya (sS ?_)
       refine yc (by first | rfl | (simp [go_sem, bt0, bt1, hp, hp1] <;> rfl)) (fun h6 => ?_) (fun h6 => ?_)
       ·have hlt : k < s.size := by simp at h6; omega
        have hw : IntKind.i64.wrap (↑k + 1) = (k : Int) + 1 := yv (by omega)
        have hr : (List.range s.size)[k]? = some k := by simp [hlt]
        have hz : (k : Int) < s.size := by omega
        refine yg (ya (yh (sG ?_)))
        refine aL 3 (by simp [go_sem, hz, zA] <;> rfl) ?_
        refine aG yeb ((Yl (bt s k)) _ (by exact hgl)) ?_
        refine aT 1 ?_
        refine ye (yc (by first | rfl | (simp [go_sem, bt0, bt1, hp, hp1, hz, zA] <;> rfl)) (fun h7 => ?_) (fun h7 => ?_))
        ·refine ya (aS ?_)
         refine yd (yi (yf (yf (yi (yf (eR ?_))))))
         have hall : (List.range s.size).all (fun i => letter (bt s i)) = false := ZP hlt (by simpa [zA] using h7)
         exact ⟨by simp only [zw, hall, bH]; simp [go_sem], by simp [go_sem]⟩
        ·refine yg (aS ?_)
         exact yx (k + 1) σ.objs.length σ.toks.length 0 (⟨hlt, hn.succ hr (by simpa [zA] using h7)⟩) (by omega) ⟨by simp [go_sem], rfl, by simp, by simp, by simp [go_sem, hw], fun ob h => .inl (by simpa [go_sem, bt0, bt1, hp, hp1, hz, zA, hw] using h), by simp [go_sem]⟩
       ·have hke : k = s.size := by simp at h6; omega
        subst hke
        have hall : (List.range s.size).all (fun i => letter (bt s i)) = true := YE hn
        refine yp (yj (yj (yl (sS ?_))))
        refine yd (eR ?_)
        exact ⟨by simp only [zw, hp1, hall, g0, h1, h2, h3, h5, bD, bE, bF, bH, bJ]; simp [go_sem], by simp [go_sem]⟩
     ·refine aK 3 26 true ?_
      refine aLG 1 17 false (by simp [go_sem] <;> rfl) ?_
      refine aT 1 ?_
      refine ye (yc (b := false) (by simp [go_sem]) (fun h => ?_) (fun h => ?_))
      ·cases h
      refine yg (ya (sS ?_))
      refine yh (yq σ.objs.length σ.toks.length 0 [0, 2] (fun k : Nat => [(3, .pv (.int .i64 ↑k))]) (fun k => σ) (fun k => k ≤ s.size ∧ NotYet (fun i => !letter (bt s i)) (List.range s.size) k) (fun k => s.size - k) 0 (⟨Nat.zero_le _, .zero⟩) ⟨by simp [go_sem], rfl, by simp, by simp, by simp [go_sem], fun ob h => .inl (by simpa [go_sem, bt0, bt1, hp] using h), by simp [go_sem]⟩ ?_)
      rintro k ⟨hk, hn⟩
      refine ya (sS ?_)
      refine yc (by first | rfl | (simp [go_sem, bt0, bt1, hp] <;> rfl)) (fun h8 => ?_) (fun h8 => ?_)
      ·have hlt : k < s.size := by simp at h8; omega
       have hw : IntKind.i64.wrap (↑k + 1) = (k : Int) + 1 := yv (by omega)
       have hr : (List.range s.size)[k]? = some k := by simp [hlt]
       have hz : (k : Int) < s.size := by omega
       refine yg (ya (yh (sG ?_)))
       refine aL 3 (by simp [go_sem, hz, zA] <;> rfl) ?_
       refine aG yeb ((Yl (bt s k)) _ (by exact hgl)) ?_
       refine aT 1 ?_
       refine ye (yc (by first | rfl | (simp [go_sem, bt0, bt1, hp, hz, zA] <;> rfl)) (fun h9 => ?_) (fun h9 => ?_))
       ·refine ya (aS ?_)
        refine yd (yi (yf (yf (yi (yf (eR ?_))))))
        have hall : (List.range s.size).all (fun i => letter (bt s i)) = false := ZP hlt (by simpa [zA] using h9)
        exact ⟨by simp only [zw, hall, bH]; simp [go_sem], by simp [go_sem]⟩
       ·refine yg (aS ?_)
        exact yx (k + 1) σ.objs.length σ.toks.length 0 (⟨hlt, hn.succ hr (by simpa [zA] using h9)⟩) (by omega) ⟨by simp [go_sem], rfl, by simp, by simp, by simp [go_sem, hw], fun ob h => .inl (by simpa [go_sem, bt0, bt1, hp, hz, zA, hw] using h), by simp [go_sem]⟩
      ·have hke : k = s.size := by simp at h8; omega
       subst hke
       have hall : (List.range s.size).all (fun i => letter (bt s i)) = true := YE hn
       refine yp (yj (yj (yl (sS ?_))))
       refine yd (eR ?_)
       exact ⟨by simp only [zw, hall, g0, h1, h2, h3, h4, bD, bF, bG, bH, bJ]; simp [go_sem], by simp [go_sem]⟩
    ·refine aK 3 21 true ?_
     refine aLG 2 17 false (by simp [go_sem] <;> rfl) ?_
     refine aK 3 26 true ?_
     refine aLG 1 17 false (by simp [go_sem] <;> rfl) ?_
     refine aT 1 ?_
     refine ye (yc (b := false) (by simp [go_sem]) (fun h => ?_) (fun h => ?_))
     ·cases h
     refine yg (ya (sS ?_))
     refine yh (yq σ.objs.length σ.toks.length 0 [0, 2] (fun k : Nat => [(3, .pv (.int .i64 ↑k))]) (fun k => σ) (fun k => k ≤ s.size ∧ NotYet (fun i => !letter (bt s i)) (List.range s.size) k) (fun k => s.size - k) 0 (⟨Nat.zero_le _, .zero⟩) ⟨by simp [go_sem], rfl, by simp, by simp, by simp [go_sem], fun ob h => .inl (by simpa [go_sem, bt0, bt1, hp] using h), by simp [go_sem]⟩ ?_)
     rintro k ⟨hk, hn⟩
     refine ya (sS ?_)
     refine yc (by first | rfl | (simp [go_sem, bt0, bt1, hp] <;> rfl)) (fun h10 => ?_) (fun h10 => ?_)
     ·have hlt : k < s.size := by simp at h10; omega
      have hw : IntKind.i64.wrap (↑k + 1) = (k : Int) + 1 := yv (by omega)
      have hr : (List.range s.size)[k]? = some k := by simp [hlt]
      have hz : (k : Int) < s.size := by omega
      refine yg (ya (yh (sG ?_)))
      refine aL 3 (by simp [go_sem, hz, zA] <;> rfl) ?_
      refine aG yeb ((Yl (bt s k)) _ (by exact hgl)) ?_
      refine aT 1 ?_
      refine ye (yc (by first | rfl | (simp [go_sem, bt0, bt1, hp, hz, zA] <;> rfl)) (fun h11 => ?_) (fun h11 => ?_))
      ·refine ya (aS ?_)
       refine yd (yi (yf (yf (yi (yf (eR ?_))))))
       have hall : (List.range s.size).all (fun i => letter (bt s i)) = false := ZP hlt (by simpa [zA] using h11)
       exact ⟨by simp only [zw, hall, bH]; simp [go_sem], by simp [go_sem]⟩
      ·refine yg (aS ?_)
       exact yx (k + 1) σ.objs.length σ.toks.length 0 (⟨hlt, hn.succ hr (by simpa [zA] using h11)⟩) (by omega) ⟨by simp [go_sem], rfl, by simp, by simp, by simp [go_sem, hw], fun ob h => .inl (by simpa [go_sem, bt0, bt1, hp, hz, zA, hw] using h), by simp [go_sem]⟩
     ·have hke : k = s.size := by simp at h10; omega
      subst hke
      have hall : (List.range s.size).all (fun i => letter (bt s i)) = true := YE hn
      refine yp (yj (yj (yl (sS ?_))))
      refine yd (eR ?_)
      exact ⟨by simp only [zw, hall, g0, h1, h2, h3, bD, bF, bG, bJ]; simp [go_sem], by simp [go_sem]⟩

set_option maxHeartbeats 1000000 in
theorem yjN (l : List D) (hl : l.length ≤ 1000000000) (σ : Store) (hgl : σ.gl = (GL kr)) (f : FuncId) (hc : Callable Tryz.prog f) (caps : List AV) (hcaps : AV.noLs caps = true) (p : D → Bool) (hp : ∀ x, x ∈ l → zJ Tryz.prog σ f (.pv (enc x) :: caps) (.pv (.bool (p x)))) : zJ Tryz.prog σ 165 [.pv (.slice (l.map enc)), .func (.func f) caps] (.pv (.int .i64 (yaA p l))) := by
 refine Y1 ?_
 refine yf8 tyOk Tryz.func165 rfl (by simp [Tryz.f165]) (by simp [go_sem, hcaps]) fun hclo => ?_
 simp [go_sem] at hclo
 refine sS ?_
 refine ya (sS ?_)
 refine yh (yq σ.objs.length σ.toks.length 0 [0, 1, 4, 7] (fun k : Nat => [(8, .pv (.int .i64 ↑k))]) (fun k => σ) (fun k => k ≤ l.length ∧ NotYet (p) l k) (fun k => l.length - k) 0 (⟨Nat.zero_le _, .zero⟩) ⟨by simp [go_sem], rfl, by simp, by simp, by simp [go_sem, hclo], fun ob h => .inl (by simpa [go_sem, hcaps, hclo, AV.clos] using h), by simp [go_sem]⟩ ?_)
 rintro k ⟨hk, hn⟩
 refine sS ?_
 refine ya (yc (by first | rfl | (simp [go_sem, hcaps, hclo] <;> rfl)) (fun h0 => ?_) (fun h0 => ?_))
 ·have hlt : k < l.length := by simp at h0; omega
  have hw : IntKind.i64.wrap (↑k + 1) = (k : Int) + 1 := yv (by omega)
  obtain ⟨x, hx, hxm⟩ := ym hlt
  refine yg (ya (yh (sS ?_)))
  refine sG ?_
  refine aL 5 (by simp [go_sem, hx] <;> rfl) ?_
  refine ycS rfl rfl rfl (by simp [go_sem] <;> rfl) hc (hp x hxm) (by simp [go_sem] <;> rfl) (by simp [go_sem]) (by simp [go_sem, hcaps]) rfl ?_
  refine ye (yc (by first | rfl | (simp [go_sem, hcaps, hclo, hx] <;> rfl)) (fun h1 => ?_) (fun h1 => ?_))
  ·refine ya (aS ?_)
   refine yd (yi (yf (yf (yi (yf (eR ?_))))))
   exact ⟨by simp [go_sem, yeI hn hx h1], by simp [go_sem]⟩
  ·refine yg (aS ?_)
   exact yx (k + 1) σ.objs.length σ.toks.length 0 (⟨hlt, hn.succ hx h1⟩) (by omega) ⟨by simp [go_sem], rfl, by simp, by simp, by simp [go_sem, hclo, hw], fun ob h => .inl (by simpa [go_sem, hcaps, hclo, hx, hw] using h), by simp [go_sem]⟩
 ·have hke : k = l.length := by simp at h0; omega
  subst hke
  have hno := ygh hn
  refine yp (yj (yj (yl (sS ?_))))
  refine yd (eR ?_)
  exact ⟨by simp [go_sem, hno], by simp [go_sem]⟩

set_option maxHeartbeats 1000000 in
theorem ygt (l : List D) (hl : l.length ≤ 1000000000) (σ : Store) (hgl : σ.gl = (GL kr)) (f : FuncId) (hc : Callable Tryz.prog f) (caps : List AV) (hcaps : AV.noLs caps = true) (p : D → Bool) (hp : ∀ x, x ∈ l → zJ Tryz.prog σ f (.pv (enc x) :: caps) (.pv (.bool (p x)))) : zJ Tryz.prog σ 138 [.pv (.slice (l.map enc)), .func (.func f) caps] (.pv (.bool (l.any p))) := by
 refine Y1 ?_
 refine yk tyOk Tryz.func138 rfl (by simp [Tryz.f138]) ?_
 refine sS ?_
 refine sG ?_
 refine aT 2 ?_
 refine ycS rfl rfl rfl (by simp [go_sem] <;> rfl) yqg (yjN l hl σ hgl f hc caps hcaps p hp) (by simp [go_sem] <;> rfl) (by simp [go_sem]) (by simp [go_sem, hcaps]) rfl ?_
 refine aT 2 ?_
 refine ye (yd (eR ?_))
 exact ⟨by simp [go_sem, ← yhs], by simp [go_sem]⟩

theorem yk5 : YU (GL kr) 0 = some (.ptr [.map (wdK kr) (wdV kr)]) := by simp [GL, YU]
end Go.Proofs.YtigideidmcmfbaaGreatDoor

namespace Go.Proofs.YtigideidmcmfbaaGreatDoor
open Go Go.Aw
variable {kr : KR}
set_option maxHeartbeats 1000000 in
theorem ylb (d : D) (h : Pur Tryz.prog (GL kr) 94 [.pv (enc d)] (.pv (.bool (formed d)))) : Pur Tryz.prog (GL kr) 139 [.pv (enc d)] (.pv (.bool (!formed d))) := by
 refine yB fun σ hgl => ?_
 refine yk tyOk Tryz.func139 rfl (by simp [Tryz.f139]) ?_
 refine sS ?_
 refine sG ?_
 refine aT 1 ?_
 refine aG ym0 ((h) _ (by exact hgl)) ?_
 refine aT 2 ?_
 refine ye (yd (eR ?_))
 exact ⟨by simp [go_sem], by simp [go_sem]⟩

set_option maxHeartbeats 1000000 in
theorem ygI (d : D) (hd : d.size ≤ 1000000000) : Pur Tryz.prog (GL kr) 94 [.pv (enc d)] (.pv (.bool (formed d))) := by
 induction d using D.ind with
 | _ kind num text kids ih =>
 generalize hD : D.mk kind num text kids = d at *
 have hk : d.kids = kids := by rw [← hD]; rfl
 clear hD
 subst hk
 have hkl := D.kids_length_lt d
 refine yB fun σ hgl => ?_
 refine yk tyOk Tryz.func94 rfl (by simp [Tryz.f94]) ?_
 refine sS ?_
 refine ya (sS ?_)
 refine yh (sS ?_)
 refine aC (fun h0 => ?_) (fun h0 => ?_)
 ·refine ya (yS ?_)
  refine aT 4 ?_
  refine yn 10 (by first | rfl | (simp [go_sem] <;> rfl)) (fun h1 => ?_) (fun h1 => ?_)
  ·refine aLG 4 10 true (by simp [go_sem] <;> rfl) ?_
   refine aT 2 ?_
   refine ye (yd (yi (yf (eR ?_))))
   have hs := zc d
   simp only [h0, h1, bE, bF, if_true] at hs
   exact ⟨by simp [go_sem, hs], by simp [go_sem]⟩
  ·refine aK 4 10 true ?_
   refine aT 2 ?_
   refine ye (yd (yi (yf (eR ?_))))
   have hs := zc d
   simp only [h0, h1, bG, bH, if_true] at hs
   exact ⟨by simp [go_sem, hs], by simp [go_sem]⟩
 ·refine ya (aS ?_)
  refine aC (fun h2 => ?_) (fun h2 => ?_)
  ·refine ya (yS ?_)
   refine aT 4 ?_
   refine yn 21 (by first | rfl | (simp [go_sem] <;> rfl)) (fun h3 => ?_) (fun h3 => ?_)
   ·refine aLG 4 21 true (by simp [go_sem] <;> rfl) ?_
    refine aT 2 ?_
    refine yn 27 (by first | rfl | (simp [go_sem] <;> rfl)) (fun h4 => ?_) (fun h4 => ?_)
    ·refine aLG 2 27 true (by simp [go_sem] <;> rfl) ?_
     refine yY 27 true true (by simp [go_sem]) rfl (by simp [go_sem]) rfl rfl (by simp [go_sem] <;> rfl) ylI ((ya6 d.text) _ (by exact hgl)) (by simp [go_sem] <;> rfl) (by simp [go_sem]) rfl rfl ?_
     refine aT 2 ?_
     refine ye (yd (yi (yf (eR ?_))))
     have hs := zc d
     simp only [h0, h2, h3, h4, bE, bF, Bool.false_eq_true, if_true, if_false] at hs
     exact ⟨by simp [go_sem, hs], by simp [go_sem]⟩
    ·refine aK 3 27 true ?_
     refine aT 2 ?_
     refine ye (yd (yi (yf (eR ?_))))
     have hs := zc d
     simp only [h0, h2, h3, h4, bE, bG, bH, Bool.false_eq_true, if_true, if_false] at hs
     exact ⟨by simp [go_sem, hs], by simp [go_sem]⟩
   ·refine aK 4 21 true ?_
    refine aT 2 ?_
    refine aK 3 27 true ?_
    refine aT 2 ?_
    refine ye (yd (yi (yf (eR ?_))))
    have hs := zc d
    simp only [h0, h2, h3, bG, Bool.false_eq_true, if_true, if_false] at hs
    exact ⟨by simp [go_sem, hs], by simp [go_sem]⟩
  ·refine ya (aS ?_)
   refine aC (fun h5 => ?_) (fun h5 => ?_)
   ·refine ya (yS ?_)
    refine aT 4 ?_
    refine yn 37 (by first | rfl | (simp [go_sem] <;> rfl)) (fun h6 => ?_) (fun h6 => ?_)
    ·refine aLG 3 37 true (by simp [go_sem] <;> rfl) ?_
     refine aT 2 ?_
     refine yn 42 (by first | rfl | (simp [go_sem] <;> rfl)) (fun h7 => ?_) (fun h7 => ?_)
     ·refine aLG 2 42 true (by simp [go_sem] <;> rfl) ?_
      refine yY 42 true true (by simp [go_sem]) rfl (by simp [go_sem]) rfl rfl (by simp [go_sem] <;> rfl) ypL (ygt d.kids (by omega) σ hgl 139 yqJ [] rfl (fun x => !formed x) (fun x hx => ylb x (ih x hx (by have := D.size_kid_lt hx; omega)) σ hgl)) (by simp [go_sem] <;> rfl) (by simp [go_sem]) rfl rfl ?_
      refine aLG 1 42 true (by simp [go_sem] <;> rfl) ?_
      refine aT 2 ?_
      refine ye (yd (yi (yf (eR ?_))))
      have hs := zc d
      simp only [h0, h2, h5, h6, h7, bE, bF, Bool.false_eq_true, if_true, if_false] at hs
      exact ⟨by simp [go_sem, hs], by simp [go_sem]⟩
     ·refine aK 4 42 true ?_
      refine aT 2 ?_
      refine ye (yd (yi (yf (eR ?_))))
      have hs := zc d
      simp only [h0, h2, h5, h6, h7, bE, bG, bH, Bool.false_eq_true, if_true, if_false] at hs
      exact ⟨by simp [go_sem, hs], by simp [go_sem]⟩
    ·refine aK 3 37 true ?_
     refine aT 2 ?_
     refine aK 4 42 true ?_
     refine aT 2 ?_
     refine ye (yd (yi (yf (eR ?_))))
     have hs := zc d
     simp only [h0, h2, h5, h6, bG, Bool.false_eq_true, if_true, if_false] at hs
     exact ⟨by simp [go_sem, hs], by simp [go_sem]⟩
   ·refine yg (sS ?_)
    refine yd (eR ?_)
    have hs := zc d
    simp only [h0, h2, h5, Bool.false_eq_true, if_false] at hs
    exact ⟨by simp [go_sem, hs], by simp [go_sem]⟩

end Go.Proofs.YtigideidmcmfbaaGreatDoor

namespace Go.Proofs.YtigideidmcmfbaaGreatDoor
open Go Go.Aw
variable {kr : KR}
end Go.Proofs.YtigideidmcmfbaaGreatDoor

namespace Go.Proofs.YtigideidmcmfbaaGreatDoor
open Go Go.Aw
variable {kr : KR}
end Go.Proofs.YtigideidmcmfbaaGreatDoor

namespace Go.Proofs.YtigideidmcmfbaaGreatDoor
open Go Go.Aw
variable {kr : KR}
set_option maxHeartbeats 1000000 in
theorem ymI (d : D) (po n cap oc : Nat) (c : Int) (σ : Store) (hgl : σ.gl = (GL kr)) (hn : n ≤ 1000000000) (hoc : σ.objs[oc]? = some (.box [.pv (.int .i64 c)])) : ACalls Tryz.prog 141 [.pv (enc d), .scr po n cap, .ptr oc 0] σ (yh2 oc (yam c n) σ) := by
 refine yk tyOk Tryz.func141 rfl (by simp [Tryz.f141]) ?_
 refine sS ?_
 refine sA (by simp [go_sem, hoc] <;> rfl) ?_
 refine sS ?_
 refine yd (eR ?_)
 exact ⟨by simp [go_sem], by simp [setC, yam, go_sem]⟩

set_option maxHeartbeats 1000000 in
theorem ynE (d : D) (po n cap oc : Nat) (c : Int) (σ : Store) (hgl : σ.gl = (GL kr)) (hn : n ≤ 1000000000) (hoc : σ.objs[oc]? = some (.box [.pv (.int .i64 c)])) : ACalls Tryz.prog 142 [.pv (enc d), .scr po n cap, .ptr oc 0] σ (yh2 oc (ybg c n) σ) := by
 refine yk tyOk Tryz.func142 rfl (by simp [Tryz.f142]) ?_
 refine sS ?_
 refine sA (by simp [go_sem, hoc] <;> rfl) ?_
 refine sS ?_
 refine yd (eR ?_)
 exact ⟨by simp [go_sem], by simp [setC, ybg, go_sem]⟩

set_option maxHeartbeats 1000000 in
theorem ymL (fy : FuncId) (hcy : Callable Tryz.prog fy) (st : Int → Nat → Int) (hy : ∀ (d : D) (po n cap oc : Nat) (c : Int) (σ : Store) (hgl : σ.gl = (GL kr)) (hn : n ≤ 1000000000) (hoc : σ.objs[oc]? = some (.box [.pv (.int .i64 c)])), ACalls Tryz.prog fy [.pv (enc d), .scr po n cap, .ptr oc 0] σ (yh2 oc (st c n) σ)) (d : D) : ∀ (po n cap oc : Nat) (c : Int) (σ : Store) (hgl : σ.gl = (GL kr)) (hn : n + d.size ≤ 1000000000) (hp : PathAt σ (.scr po n cap) n) (hoc : σ.objs[oc]? = some (.box [.pv (.int .i64 c)])), ACalls Tryz.prog 140 [.pv (enc d), .scr po n cap, .func (.func fy) [.ptr oc 0]] σ (yh2 oc (Z1 st c n d) σ) := by
 induction d using D.ind with
 | _ kind num text kids ih =>
 generalize hD : D.mk kind num text kids = d at *
 have hk : d.kids = kids := by rw [← hD]; rfl
 clear hD
 subst hk
 have hkl := D.kids_length_lt d
 intro po n cap oc c σ hgl hn hp hoc
 have hol := (List.getElem?_eq_some_iff.1 hoc).1
 refine yf8 tyOk Tryz.func140 rfl (by simp [Tryz.f140]) (by simp [go_sem]) fun hclo => ?_
 simp [go_sem] at hclo
 refine sS ?_
 refine ya (sG ?_)
 refine aT 3 ?_
 refine yy rfl rfl rfl (by simp [go_sem] <;> rfl) hcy (hy d po n cap oc c σ hgl (by omega) hoc) (by simp [go_sem] <;> rfl) (by simp [go_sem]) rfl rfl ?_
 rintro r σ' ⟨rfl, rfl⟩
 refine aT 1 ?_
 refine ye (yc (b := false) (by simp [go_sem]) (fun h => ?_) (fun h => ?_))
 ·cases h
 refine yg (ya (sS ?_))
 refine yh (yq σ.objs.length σ.toks.length 1 [1, 2, 6, 15, 16] (fun k : Nat => [(17, .pv (.int .i64 ↑k))]) (fun k => setC σ oc (Yh st (st c n) (n + 1) (d.kids.take k))) (fun k => k ≤ d.kids.length) (fun k => d.kids.length - k) 0 (Nat.zero_le _) ⟨by show setC σ oc _ = _; rw [List.take_zero, Yh]; exact ynL.symm, rfl, by simp, by simp, by simp [go_sem, hclo], fun ob h => ybp h _ _ _, by simp [go_sem]⟩ ?_)
 intro k hk
 refine sS ?_
 refine ya (yc (by first | rfl | (simp [go_sem, hclo, hol] <;> rfl)) (fun h0 => ?_) (fun h0 => ?_))
 ·have hlt : k < d.kids.length := by simp at h0; omega
  have hw : IntKind.i64.wrap (↑k + 1) = (k : Int) + 1 := yv (by omega)
  obtain ⟨x, hx, hxm⟩ := ym hlt
  have hxs := D.size_kid_lt hxm
  have ht : Yh st (st c n) (n + 1) (d.kids.take (k + 1)) = Z1 st (Yh st (st c n) (n + 1) (d.kids.take k)) (n + 1) x := by rw [yI hx, yeV]
  have hbn : (n + 1) * 8 ≤ 140737488355328 := by omega
  refine yg (ya (yh (sA (by simp [go_sem, hx] <;> rfl) ?_)))
  refine ya (yG tyOk tySz 6 (by kernel_rfl) (by decide) ?_)
  refine yo 4 (by simp [go_sem] <;> rfl) ?_
  refine ypN rfl (by simp [go_sem, hbn] <;> rfl) rfl (PathAt.setC hp hoc) ?_
  rintro x' objs' hobjs hpx
  obtain ⟨po', cap', rfl⟩ := hpx.scr
  refine yo 1 (by simp [go_sem] <;> rfl) ?_
  refine yF ?_
  refine yy rfl rfl rfl (by simp [go_sem] <;> rfl) ygv (ih x hxm po' (n + 1) cap' oc _ _ (by exact hgl) (by omega) hpx (ynX hobjs (ycT hoc))) (by simp [go_sem] <;> rfl) (by simp [go_sem]) rfl rfl ?_
  rintro r σ' ⟨rfl, rfl⟩
  refine aT 1 ?_
  refine ye (yc (b := false) (by simp [go_sem]) (fun h => ?_) (fun h => ?_))
  ·cases h
  refine yg (aS ?_)
  exact yx (k + 1) σ.objs.length σ.toks.length 1 (hlt) (by omega) ⟨by show setC σ oc _ = _; rw [ht]; exact (ynt hol hobjs).symm, rfl, by simp, by simp, by simp [go_sem, hclo, hw], fun ob h => ybp h _ _ _, by simp [go_sem]⟩
 ·have hke : k = d.kids.length := by simp at h0; omega
  subst hke
  have hta : d.kids.take d.kids.length = d.kids := List.take_length
  refine yp (yj (yj (yl (sS ?_))))
  refine yd (eR ?_)
  exact ⟨by simp [go_sem], by simp [go_sem, yo6]⟩

set_option maxHeartbeats 1000000 in
theorem yhU (d : D) (hd : d.size ≤ 1000000000) : Pur Tryz.prog (GL kr) 95 [.pv (enc d)] (.pv (.int .i64 d.size)) := by
 refine yB fun σ hgl => ?_
 refine yk tyOk Tryz.func95 rfl (by simp [Tryz.f95]) ?_
 refine sS ?_
 refine ya (yD (sh := [3]) tyOk (by simp [go_sem] <;> rfl) ?_)
 refine sG ?_
 refine aT 2 ?_
 refine yy rfl rfl rfl (by simp [go_sem] <;> rfl) ygv (ymL 141 ypt yam (fun d po n cap oc c σ hgl hn hoc => ymI d po n cap oc c σ hgl hn hoc) d 0 0 0 σ.objs.length 0 _ (by exact hgl) (by omega) (.inl ⟨0, rfl, rfl⟩) (by simp [go_sem])) (by simp [go_sem] <;> rfl) (by simp [go_sem]) rfl rfl ?_
 rintro r σ' ⟨rfl, rfl⟩
 refine ye (sA (by simp [go_sem, ydH] <;> rfl) ?_)
 refine yd ?_
 have hv : Z1 yam 0 0 d = (d.size : Int) := by have := yeC d 0 0 (by omega); simpa using this
 refine eR ?_
 exact ⟨by simp [go_sem]; exact hv, ydP⟩

set_option maxHeartbeats 1000000 in
theorem yis (d : D) (hd : d.size ≤ 1000000000) : Pur Tryz.prog (GL kr) 96 [.pv (enc d)] (.pv (.int .i64 d.deep)) := by
 have hdd := D.deep_le_size d
 refine yB fun σ hgl => ?_
 refine yk tyOk Tryz.func96 rfl (by simp [Tryz.f96]) ?_
 refine sS ?_
 refine ya (yD (sh := [3]) tyOk (by simp [go_sem] <;> rfl) ?_)
 refine sG ?_
 refine aT 2 ?_
 refine yy rfl rfl rfl (by simp [go_sem] <;> rfl) ygv (ymL 142 ypy ybg (fun d po n cap oc c σ hgl hn hoc => ynE d po n cap oc c σ hgl hn hoc) d 0 0 0 σ.objs.length 0 _ (by exact hgl) (by omega) (.inl ⟨0, rfl, rfl⟩) (by simp [go_sem])) (by simp [go_sem] <;> rfl) (by simp [go_sem]) rfl rfl ?_
 rintro r σ' ⟨rfl, rfl⟩
 refine ye (sA (by simp [go_sem, ydH] <;> rfl) ?_)
 refine yd ?_
 have hv : Z1 ybg 0 0 d = (d.deep : Int) := by have := yga d 0 0 (by omega); simpa using this
 refine eR ?_
 exact ⟨by simp [go_sem]; exact hv, ydP⟩

set_option maxHeartbeats 1000000 in
theorem ydn (d : D) (hd : d.size ≤ 1000000000) : Pur Tryz.prog (GL kr) 52 [.pv (enc d)] (.pv (.int .i64 (dcheck d))) := by
 refine yB fun σ hgl => ?_
 refine yk tyOk Tryz.func52 rfl (by simp [Tryz.f52]) ?_
 refine sS ?_
 refine ya (yh (sG ?_))
 refine aT 1 ?_
 refine aG ym0 ((ygI d hd) _ (by exact hgl)) ?_
 refine aT 2 ?_
 refine ye (aC (fun h0 => ?_) (fun h0 => ?_))
 ·refine ya (aS ?_)
  refine yd (yi (yf (eR ?_)))
  exact ⟨by simp only [dcheck, h0, if_true]; simp [go_sem], by simp [go_sem]⟩
 ·refine ya (yS ?_)
  refine aT 1 ?_
  refine aG yrE ((yhU d hd) _ (by exact hgl)) ?_
  refine aT 2 ?_
  refine yn 11 (by first | rfl | (simp [go_sem] <;> rfl)) (fun h1 => ?_) (fun h1 => ?_)
  ·refine aK 3 11 false ?_
   refine aT 2 ?_
   refine ye (yc (b := true) (by simp [go_sem]) (fun h => ?_) (fun h => ?_))
   rotate_left
   ·cases h
   refine sS ?_
   refine yd (yi (yf (eR ?_)))
   exact ⟨by simp only [dcheck, h0, h1, Bool.false_eq_true, if_true, if_false]; simp [go_sem], by simp [go_sem]⟩
  ·refine aLG 1 11 false (by simp [go_sem] <;> rfl) ?_
   refine yY 11 false false (by simp [go_sem]) rfl (by simp [go_sem]) rfl rfl (by simp [go_sem] <;> rfl) yra ((yis d hd) _ (by exact hgl)) (by simp [go_sem] <;> rfl) (by simp [go_sem]) rfl rfl ?_
   refine aLG 1 11 false (by simp [go_sem] <;> rfl) ?_
   refine aT 2 ?_
   refine ye (aC (fun h2 => ?_) (fun h2 => ?_))
   ·refine ya (aS ?_)
    refine yd (yi (yf (eR ?_)))
    exact ⟨by simp only [dcheck, h0, h1, h2, Bool.false_eq_true, if_true, if_false]; simp [go_sem], by simp [go_sem]⟩
   ·refine yg (sS ?_)
    refine yd (eR ?_)
    exact ⟨by simp only [dcheck, h0, h1, h2, Bool.false_eq_true, if_false]; simp [go_sem], by simp [go_sem]⟩

end Go.Proofs.YtigideidmcmfbaaGreatDoor

namespace Go.Proofs.YtigideidmcmfbaaGreatDoor
open Go Go.Aw
variable {kr : KR}
set_option maxHeartbeats 1000000 in
theorem ykH (d : D) : Pur Tryz.prog (GL kr) 145 [.pv (enc d)] (.pv (.bool (nmS d))) := by
 refine yB fun σ hgl => ?_
 have hgw : YU σ.gl 0 = some (.ptr [.map (wdK kr) (wdV kr)]) := by rw [hgl]; exact yk5
 have hlw := fun (s : St) (x : ByteArray) => ygs (W := kr) (ty := ty) (s := s) (t := 116) (x := x) rfl rfl rfl rfl rfl rfl rfl
 refine yk tyOk Tryz.func145 rfl (by simp [Tryz.f145]) ?_
 refine sS ?_
 refine sG ?_
 refine aT 4 ?_
 refine yn 6 (by first | rfl | (simp [go_sem, hgw, hlw] <;> rfl)) (fun h0 => ?_) (fun h0 => ?_)
 ·refine aLG 5 6 true (by simp [go_sem, hgw, hlw] <;> rfl) ?_
  refine aT 2 ?_
  refine ye (yd (eR ?_))
  exact ⟨by simp only [nmS, h0, bE]; simp [go_sem], by simp [go_sem]⟩
 ·refine aK 5 6 true ?_
  refine aT 2 ?_
  refine ye (yd (eR ?_))
  exact ⟨by simp only [nmS, h0, bG]; simp [go_sem], by simp [go_sem]⟩

set_option maxHeartbeats 1000000 in
theorem yix (l : List D) (hl : l.length ≤ 1000000000) (m : Int) : Pur Tryz.prog (GL kr) 167 [.pv (.slice (l.map enc)), .pv (.int .i64 m)] (.pv (.bool (Ye l m))) := by
 refine yB fun σ hgl => ?_
 refine yk tyOk Tryz.func167 rfl (by simp [Tryz.f167]) ?_
 refine sS ?_
 refine ya (sS ?_)
 refine yc (by first | rfl | (simp [go_sem, ya4] <;> rfl)) (fun h0 => ?_) (fun h0 => ?_)
 ·refine ya (aS ?_)
  refine yd (yf ?_)
  have hM : Ye l m = false := by unfold Ye; rw [if_pos h0]
  refine eR ?_
  exact ⟨by simp [go_sem, hM], by simp [go_sem]⟩
 ·refine yg (sS ?_)
  refine ya (sS ?_)
  refine yh (yq (σ.objs.length + 1) σ.toks.length 0 [4, 5, 13, 14] (fun k : Nat => [(15, .pv (.int .i64 ↑k))]) (fun k => { σ with objs := σ.objs ++ [.map (tK (((l.map D.text).take (k)).foldl addS [])) (tV (((l.map D.text).take (k)).foldl addS []))] }) (fun k => k ≤ l.length ∧ NotYet (YY l) (List.range l.length) k) (fun k => l.length - k) 0 (⟨Nat.zero_le _, .zero⟩) ⟨by simp [go_sem, ylK, ynr], rfl, by simp, by simp, by simp [go_sem, ylK, ynr], fun ob h => yi9 rfl h, by simp [go_sem]⟩ ?_)
  rintro k ⟨hk, hn⟩
  refine sS ?_
  refine ya (yc (by first | rfl | (simp [go_sem, ya4] <;> rfl)) (fun h1 => ?_) (fun h1 => ?_))
  ·have hlt : k < l.length := by simp at h1; omega
   have hw : IntKind.i64.wrap (↑k + 1) = (k : Int) + 1 := yv (by omega)
   obtain ⟨x, hx, hxm⟩ := ym hlt
   have hr : (List.range l.length)[k]? = some k := by simp [hlt]
   have hlk := fun (s : St) (ho : s.σ.objs[σ.objs.length]? = some (.map (tK (((l.map D.text).take (k)).foldl addS [])) (tV (((l.map D.text).take (k)).foldl addS [])))) => ya9 (ty := ty) (s := s) (t := 78) (S := (((l.map D.text).take (k)).foldl addS [])) (o := σ.objs.length) rfl rfl rfl rfl rfl rfl rfl ho x.text
   have hpk := fun (s : St) (ho : s.σ.objs[σ.objs.length]? = some (.map (tK (((l.map D.text).take (k)).foldl addS [])) (tV (((l.map D.text).take (k)).foldl addS [])))) => yck (ty := ty) (s := s) (t := 78) (o := σ.objs.length) rfl rfl rfl rfl ho x.text
   have htx : addS (((l.map D.text).take (k)).foldl addS []) x.text = (((l.map D.text).take (k + 1)).foldl addS []) := by rw [yI (l := l.map D.text) (k := k) (x := x.text) (by simp [hx])]; simp
   have hba := ynY hx
   refine yg (ya (yh (sA (by simp [go_sem, hx] <;> rfl) ?_)))
   refine ya (sG ?_)
   refine aT 1 ?_
   refine aG ykD ((ykH x) _ (by exact hgl)) ?_
   refine aT 2 ?_
   refine yn 22 (by first | rfl | (simp [go_sem, ya4, hx, hlk, hpk] <;> rfl)) (fun h2 => ?_) (fun h2 => ?_)
   ·refine aK 4 22 false ?_
    refine aT 1 ?_
    refine ye (yc (b := true) (by simp [go_sem]) (fun h => ?_) (fun h => ?_))
    rotate_left
    ·cases h
    refine sS ?_
    refine yd (yf (yi (yf (yf (yi (yf ?_))))))
    have hM : Ye l m = false := by unfold Ye; split; rfl; rw [show ((List.range l.length).any (YY l)) = true from List.any_eq_true.2 ⟨k, List.mem_range.2 hlt, by rw [hba]; simp only [h2, bA]⟩]; rfl
    refine eR ?_
    exact ⟨by simp [go_sem, hM], by simp [go_sem]⟩
   ·refine aLG 4 22 false (by simp [go_sem, hlk] <;> rfl) ?_
    refine aT 1 ?_
    refine ye (yc (by first | rfl | (simp [go_sem, ya4, hx, hlk, hpk] <;> rfl)) (fun h3 => ?_) (fun h3 => ?_))
    ·refine ya (aS ?_)
     refine yd (yf (yi (yf (yf (yi (yf ?_))))))
     have hM : Ye l m = false := by unfold Ye; split; rfl; rw [show ((List.range l.length).any (YY l)) = true from List.any_eq_true.2 ⟨k, List.mem_range.2 hlt, by rw [hba]; simp only [h2, h3, bB]⟩]; rfl
     refine eR ?_
     exact ⟨by simp [go_sem, hM], by simp [go_sem]⟩
    ·refine yg (aR (by simp [go_sem, ya4, hpk] <;> rfl) ?_)
     refine aS ?_
     exact yx (k + 1) (σ.objs.length + 1) σ.toks.length 0 (⟨hlt, hn.succ hr (by rw [hba]; simp only [h2, h3, bD])⟩) (by omega) ⟨by simp [go_sem, htx], rfl, by simp, by simp, by simp [go_sem, hw], fun ob h => yi9 rfl h, by simp [go_sem]⟩
  ·have hke : k = l.length := by simp at h1; omega
   subst hke
   have hany : ((List.range l.length).any (YY l)) = false := NotYet.any (by simpa using hn)
   refine yp (yj (yj (yl (sS ?_))))
   refine yd ?_
   have hM : Ye l m = true := by unfold Ye; rw [if_neg (by rw [h0]; decide), hany]; rfl
   refine eR ?_
   exact ⟨by simp [go_sem, hM], by simp [go_sem]⟩

set_option maxHeartbeats 1000000 in
theorem ydz (d : D) (hd : d.size ≤ 1000000000) (m : Int) : Pur Tryz.prog (GL kr) 144 [.pv (enc d), .pv (.int .i64 m)] (.pv (.bool (Yf d m))) := by
 have hkl := D.kids_length_lt d
 refine yB fun σ hgl => ?_
 refine yk tyOk Tryz.func144 rfl (by simp [Tryz.f144]) ?_
 refine sS ?_
 refine sG ?_
 refine aT 4 ?_
 refine yn 8 (by first | rfl | (simp [go_sem] <;> rfl)) (fun h0 => ?_) (fun h0 => ?_)
 ·refine aLG 3 8 true (by simp [go_sem] <;> rfl) ?_
  refine yY 8 true true (by simp [go_sem]) rfl (by simp [go_sem]) rfl rfl (by simp [go_sem] <;> rfl) ykh ((yix d.kids (by omega) m) _ (by exact hgl)) (by simp [go_sem] <;> rfl) (by simp [go_sem]) rfl rfl ?_
  refine aT 2 ?_
  refine ye (yd (eR ?_))
  exact ⟨by simp only [Yf, h0, bE]; simp [go_sem], by simp [go_sem]⟩
 ·refine aK 4 8 true ?_
  refine aT 2 ?_
  refine ye (yd (eR ?_))
  exact ⟨by simp only [Yf, h0, bG]; simp [go_sem], by simp [go_sem]⟩

set_option maxHeartbeats 1000000 in
theorem ym8 (d : D) (hd : d.size ≤ 1000000000) : Pur Tryz.prog (GL kr) 146 [.pv (enc d)] (.pv (.bool (zP d))) := by
 have hkl := D.kids_length_lt d
 refine yB fun σ hgl => ?_
 refine yk tyOk Tryz.func146 rfl (by simp [Tryz.f146]) ?_
 refine sS ?_
 refine ya (sG ?_)
 refine aT 4 ?_
 refine yn 9 (by first | rfl | (simp [go_sem] <;> rfl)) (fun h0 => ?_) (fun h0 => ?_)
 ·refine aK 4 9 false ?_
  refine aT 2 ?_
  refine aK 4 15 false ?_
  refine aT 1 ?_
  refine ye (yc (b := true) (by simp [go_sem]) (fun h => ?_) (fun h => ?_))
  rotate_left
  ·cases h
  refine sS ?_
  refine yd (yf ?_)
  have hM : zP d = false := by unfold zP; simp only [h0, bA, if_true]
  refine eR ?_
  exact ⟨by simp [go_sem, hM], by simp [go_sem]⟩
 ·refine aLG 4 9 false (by simp [go_sem] <;> rfl) ?_
  refine aT 2 ?_
  refine yn 15 (by first | rfl | (simp [go_sem] <;> rfl)) (fun h1 => ?_) (fun h1 => ?_)
  ·refine aK 4 15 false ?_
   refine aT 1 ?_
   refine ye (yc (b := true) (by simp [go_sem]) (fun h => ?_) (fun h => ?_))
   rotate_left
   ·cases h
   refine sS ?_
   refine yd (yf ?_)
   have hM : zP d = false := by unfold zP; simp only [h0, h1, bA, bB, if_true]
   refine eR ?_
   exact ⟨by simp [go_sem, hM], by simp [go_sem]⟩
  ·refine aLG 4 15 false (by simp [go_sem] <;> rfl) ?_
   refine aT 1 ?_
   refine ye (aC (fun h2 => ?_) (fun h2 => ?_))
   ·refine ya (aS ?_)
    refine yd (yf ?_)
    have hM : zP d = false := by unfold zP; simp only [h0, h1, h2, bB, bD, if_true]
    refine eR ?_
    exact ⟨by simp [go_sem, hM], by simp [go_sem]⟩
   ·refine yg (sS ?_)
    refine ya (sS ?_)
    refine zF 3 24 4 (by simp [go_sem] <;> rfl) ?_
    refine yh (yq σ.objs.length (σ.toks.length + 1) 1 [2, 22, 23] (fun k : Nat => [(3, .acc ((d.kids.map (enc ∘ D.head)).take k) σ.toks.length), (24, .pv (.int .i64 ↑k))]) (fun k => { σ with toks := σ.toks ++ [⟨k, 24, 4⟩] }) (fun k => k ≤ d.kids.length ∧ NotYet (zU) d.kids k) (fun k => d.kids.length - k) 0 (⟨Nat.zero_le _, .zero⟩) ⟨by simp [go_sem], rfl, by simp, by simp, by simp [go_sem], fun ob h => .inl (by simpa [go_sem] using h), by simp [go_sem]⟩ ?_)
    rintro k ⟨hk, hn⟩
    refine sS ?_
    refine ya (aC (fun h3 => ?_) (fun h3 => ?_))
    ·have hlt : k < d.kids.length := by simp at h3; omega
     have hw : IntKind.i64.wrap (↑k + 1) = (k : Int) + 1 := yv (by omega)
     obtain ⟨x, hx, hxm⟩ := ym hlt
     have ht : (d.kids.map (enc ∘ D.head)).take (k + 1) = (d.kids.map (enc ∘ D.head)).take k ++ [enc x.head] := yI (by simp [hx])
     have hm : min k d.kids.length = k := by omega
     have hb2 : (k + 1) * 56 ≤ 140737488355328 := by omega
     refine yg (ya (yh (sA (by simp [go_sem, hx] <;> rfl) ?_)))
     refine ya (sG ?_)
     refine aT 4 ?_
     refine yn 31 (by first | rfl | (simp [go_sem, hx, hm, hb2] <;> rfl)) (fun h4 => ?_) (fun h4 => ?_)
     ·refine aK 4 31 false ?_
      refine aT 2 ?_
      refine aK 6 37 false ?_
      refine aT 1 ?_
      refine ye (yc (b := true) (by simp [go_sem]) (fun h => ?_) (fun h => ?_))
      rotate_left
      ·cases h
      refine sS ?_
      refine yd (yf (yi (yf (yf (yi (yf ?_))))))
      have hany : d.kids.any zU = true := ZH hx (by unfold zU; first | (rw [hd1]; simp only [Bool.not_true, hx, hm, hb2, h0, h1, h2, h3, h4, bA, bB, bC, bD, bE, bF, bG, bH, bI, bJ, Bool.false_eq_true, if_true, if_false]; done) | simp only [h4, bA])
      have hM : zP d = false := by unfold zP; rw [hany]; split <;> rfl
      refine eR ?_
      exact ⟨by simp [go_sem, hM], by simp [go_sem]⟩
     ·refine aLG 4 31 false (by simp [go_sem] <;> rfl) ?_
      refine aT 2 ?_
      refine yn 37 (by first | rfl | (simp [go_sem, hx, hm, hb2] <;> rfl)) (fun h5 => ?_) (fun h5 => ?_)
      ·refine aK 6 37 false ?_
       refine aT 1 ?_
       refine ye (yc (b := true) (by simp [go_sem]) (fun h => ?_) (fun h => ?_))
       rotate_left
       ·cases h
       refine sS ?_
       refine yd (yf (yi (yf (yf (yi (yf ?_))))))
       have hany : d.kids.any zU = true := ZH hx (by unfold zU; first | (rw [hd1]; simp only [Bool.not_true, hx, hm, hb2, h0, h1, h2, h3, h4, h5, bA, bB, bC, bD, bE, bF, bG, bH, bI, bJ, Bool.false_eq_true, if_true, if_false]; done) | simp only [h4, h5, bA, bB])
       have hM : zP d = false := by unfold zP; rw [hany]; split <;> rfl
       refine eR ?_
       exact ⟨by simp [go_sem, hM], by simp [go_sem]⟩
      ·have hl3 : x.kids.length = 3 := by have h := h5; simp at h; omega
       obtain ⟨y1, hy1, hy1m⟩ := ym (l := x.kids) (k := 1) (by omega)
       have hd1 : d1 x.kids = y1 := yC hy1
       obtain ⟨y0, hy0, hy0m⟩ := ym (l := x.kids) (k := 0) (by omega)
       have hh0 : x.head = y0 := ybj hy0
       refine aLG 4 37 false (by simp [go_sem, hy1] <;> rfl) ?_
       refine yY 37 false false (by simp [go_sem]) rfl (by simp [go_sem]) rfl rfl (by simp [go_sem] <;> rfl) ygN ((ydz y1 (by have := D.size_kid_lt hxm; have := D.size_kid_lt hy1m; omega) 8) _ (by exact hgl)) (by simp [go_sem] <;> rfl) (by simp [go_sem]) rfl rfl ?_
       refine aLG 1 37 false (by simp [go_sem] <;> rfl) ?_
       refine aT 1 ?_
       refine ye (yc (by first | rfl | (simp [go_sem, hx, hm, hb2, hy1, hy0] <;> rfl)) (fun h6 => ?_) (fun h6 => ?_))
       ·refine ya (aS ?_)
        refine yd (yf (yi (yf (yf (yi (yf ?_))))))
        have hany : d.kids.any zU = true := ZH hx (by unfold zU; first | (rw [hd1]; simp only [h4, h5, h6, bB, bD]; done) | simp only [Bool.not_true, hx, hm, hb2, hy1, hy0, h0, h1, h2, h3, h4, h5, h6, bA, bB, bC, bD, bE, bF, bG, bH, bI, bJ, Bool.false_eq_true, if_true, if_false])
        have hM : zP d = false := by unfold zP; rw [hany]; split <;> rfl
        refine eR ?_
        exact ⟨by simp [go_sem, hM], by simp [go_sem]⟩
       ·refine yg (aR (by simp [go_sem, hm, hb2, hy0] <;> rfl) ?_)
        refine aS ?_
        exact yx (k + 1) σ.objs.length (σ.toks.length + 1) 1 (⟨hlt, hn.succ hx (by unfold zU; rw [hd1]; simp only [h4, h5, h6, bD])⟩) (by omega) ⟨by simp [go_sem, ht, hh0], rfl, by simp, by simp, by simp [go_sem, hw, ht, hh0], fun ob h => .inl (by simpa [go_sem, hx, hm, hb2, hy1, hy0, hw, ht, hh0] using h), by simp [go_sem]⟩
    ·have hke : k = d.kids.length := by simp at h3; omega
     subst hke
     have hany := hn.any
     refine yp (yj (yj (yl (sG ?_))))
     refine aT 1 ?_
     refine aG ykh ((yix (d.kids.map D.head) (by rw [List.length_map]; omega) 40) _ (by exact hgl)) ?_
     refine aT 1 ?_
     refine ye (yd ?_)
     have hM : zP d = Ye (d.kids.map D.head) 40 := by unfold zP; rw [if_neg (by simp only [h0, h1, h2, bD, Bool.false_eq_true]; decide), hany, if_neg (by decide)]
     refine eR ?_
     exact ⟨by simp [go_sem, hM], by simp [go_sem]⟩

set_option maxHeartbeats 4000000 in
theorem yaI (d : D) (hd : d.size ≤ 1000000000) : Pur Tryz.prog (GL kr) 99 [.pv (enc d)] (.pv (.int .i64 (yb d))) := by
 refine yB fun σ hgl => ?_
 have hgw : YU σ.gl 0 = some (.ptr [.map (wdK kr) (wdV kr)]) := by rw [hgl]; exact yk5
 have hlw := fun (s : St) (x : ByteArray) => ygs (W := kr) (ty := ty) (s := s) (t := 116) (x := x) rfl rfl rfl rfl rfl rfl rfl
 refine yk tyOk Tryz.func99 rfl (by simp [Tryz.f99]) ?_
 refine sS ?_
 refine ya (sS ?_)
 refine yh (sS ?_)
 refine yc (by first | rfl | (simp [go_sem, hgw, hlw] <;> rfl)) (fun h0 => ?_) (fun h0 => ?_)
 ·refine ya (aS ?_)
  refine yd (yi (yf (eR ?_)))
  exact ⟨by simp only [yb, fmOk, h0, if_true]; simp [go_sem], by simp [go_sem]⟩
 ·refine ya (aS ?_)
  refine yc (by first | rfl | (simp [go_sem, hgw, hlw] <;> rfl)) (fun h1 => ?_) (fun h1 => ?_)
  ·refine ya (sA (by simp [go_sem, hgw, hlw] <;> rfl) ?_)
   refine yc (by first | rfl | (simp [go_sem, hgw, hlw] <;> rfl)) (fun h2 => ?_) (fun h2 => ?_)
   ·refine ya (aS ?_)
    refine yd (yf (yi (yf (eR ?_))))
    exact ⟨by simp only [yb, fmOk, h0, h1, h2, Bool.false_eq_true, if_true, if_false]; simp [go_sem], by simp [go_sem]⟩
   ·refine yg (sS ?_)
    refine yd (yi (yf (eR ?_)))
    exact ⟨by simp only [yb, fmOk, h0, h1, h2, Bool.false_eq_true, if_true, if_false]; simp [go_sem], by simp [go_sem]⟩
  ·refine yg (ya (sS ?_))
   refine yc (by first | rfl | (simp [go_sem, hgw, hlw] <;> rfl)) (fun h3 => ?_) (fun h3 => ?_)
   ·refine ya (aS ?_)
    refine yd (yf (eR ?_))
    exact ⟨by simp only [yb, fmOk, h0, h1, h3, Bool.false_eq_true, if_true, if_false]; simp [go_sem], by simp [go_sem]⟩
   ·have hne : d.kids ≠ [] := by intro e; rw [e] at h3; cases h3
    obtain ⟨x0, r0, hks⟩ := ydx hne
    have hx0 : d.kids[0]? = some x0 := by rw [hks]; rfl
    have hh := yhb hks
    obtain ⟨f, hf⟩ : ∃ z, z = Yz d := ⟨_, rfl⟩
    have hff := hf.symm
    refine yg (ya (yG tyOk tySz 6 (by kernel_rfl) (by decide) ?_))
    refine yo 6 (by simp [go_sem] <;> rfl) ?_
    refine yF ?_
    refine aT 1 ?_
    refine ye (sS ?_)
    refine ya (sA (by simp [go_sem, hx0] <;> rfl) ?_)
    refine yc (by first | rfl | (simp [go_sem, hgw, hlw, hx0] <;> rfl)) (fun h4 => ?_) (fun h4 => ?_)
    ·have hfw : zz x0.text = f := by rw [hf]; unfold Yz; rw [hh, if_pos h4]
     refine yG tyOk tySz 5 (by kernel_rfl) (by decide) ?_
     refine yo 5 (by simp [go_sem, hgw, hx0] <;> rfl) ?_
     refine yF ?_
     refine aL 2 (by simp [go_sem, hlw, hfw] <;> rfl) ?_
     refine ye (sS ?_)
     refine ya (sS ?_)
     refine yh (sS ?_)
     refine yc (by first | rfl | (simp [go_sem, hgw, hlw, hx0, hfw] <;> rfl)) (fun h5 => ?_) (fun h5 => ?_)
     ·refine aS ?_
      refine ya (sS ?_)
      refine yc (by first | rfl | (simp [go_sem, hgw, hlw, hx0, hfw] <;> rfl)) (fun h6 => ?_) (fun h6 => ?_)
      ·have hq := h6
       first | rw [Bool.not_eq_true'] at hq | skip
       refine sS ?_
       refine yd (yf (eR ?_))
       exact ⟨by simp only [yb, fmOk, h0, h1, h3, hff, h5, hq, Bool.false_eq_true, if_true, if_false]; simp [go_sem], by simp [go_sem]⟩
      ·have hq := h6
       first | rw [Bool.not_eq_false'] at hq | skip
       refine yg (sS ?_)
       refine yd (eR ?_)
       exact ⟨by simp only [yb, fmOk, h0, h1, h3, hff, h5, hq, Bool.false_eq_true, if_true, if_false]; simp [go_sem], by simp [go_sem]⟩
     ·refine ya (aS ?_)
      refine yc (by first | rfl | (simp [go_sem, hgw, hlw, hx0, hfw] <;> rfl)) (fun h7 => ?_) (fun h7 => ?_)
      ·refine aS ?_
       refine ya (sS ?_)
       refine yc (by first | rfl | (simp [go_sem, hgw, hlw, hx0, hfw] <;> rfl)) (fun h8 => ?_) (fun h8 => ?_)
       ·have hq := h8
        first | rw [Bool.not_eq_true'] at hq | skip
        refine sS ?_
        refine yd (yf (eR ?_))
        exact ⟨by simp only [yb, fmOk, h0, h1, h3, hff, h5, h7, hq, Bool.false_eq_true, if_true, if_false]; simp [go_sem], by simp [go_sem]⟩
       ·have hq := h8
        first | rw [Bool.not_eq_false'] at hq | skip
        refine yg (sS ?_)
        refine yd (eR ?_)
        exact ⟨by simp only [yb, fmOk, h0, h1, h3, hff, h5, h7, hq, Bool.false_eq_true, if_true, if_false]; simp [go_sem], by simp [go_sem]⟩
      ·refine ya (aS ?_)
       refine yc (by first | rfl | (simp [go_sem, hgw, hlw, hx0, hfw] <;> rfl)) (fun h9 => ?_) (fun h9 => ?_)
       ·refine aS ?_
        refine ya (sS ?_)
        refine yc (by first | rfl | (simp [go_sem, hgw, hlw, hx0, hfw] <;> rfl)) (fun h10 => ?_) (fun h10 => ?_)
        ·have hq := h10
         first | rw [Bool.not_eq_true'] at hq | skip
         refine sS ?_
         refine yd (yf (eR ?_))
         exact ⟨by simp only [yb, fmOk, h0, h1, h3, hff, h5, h7, h9, hq, bG, Bool.false_eq_true, if_true, if_false]; simp [go_sem], by simp [go_sem]⟩
        ·have hq := h10
         first | rw [Bool.not_eq_false'] at hq | skip
         refine yg (sS ?_)
         refine yd (eR ?_)
         exact ⟨by simp only [yb, fmOk, h0, h1, h3, hff, h5, h7, h9, hq, bE, Bool.false_eq_true, if_true, if_false]; simp [go_sem], by simp [go_sem]⟩
       ·refine ya (aS ?_)
        refine yc (by first | rfl | (simp [go_sem, hgw, hlw, hx0, hfw] <;> rfl)) (fun h11 => ?_) (fun h11 => ?_)
        ·refine yS ?_
         refine aT 3 ?_
         refine yn 55 (by first | rfl | (simp [go_sem, hgw, hlw, hx0, hfw] <;> rfl)) (fun h12 => ?_) (fun h12 => ?_)
         ·have hlk : d.kids.length = 3 := by have h := h12; simp at h; omega
          obtain ⟨x1, hx1, hx1m⟩ := ym (l := d.kids) (k := 1) (by omega)
          have hd1 : d1 d.kids = x1 := yC hx1
          have hxs := D.size_kid_lt hx1m
          refine aLG 3 55 true (by simp [go_sem, hx1] <;> rfl) ?_
          refine yY 55 true true (by simp [go_sem]) rfl (by simp [go_sem]) rfl rfl (by simp [go_sem] <;> rfl) ygN ((ydz x1 (by omega) 8) _ (by exact hgl)) (by simp [go_sem] <;> rfl) (by simp [go_sem]) rfl rfl ?_
          refine aT 2 ?_
          refine ye (ya (sS ?_))
          refine yc (by first | rfl | (simp [go_sem, hgw, hlw, hx0, hfw, hx1] <;> rfl)) (fun h13 => ?_) (fun h13 => ?_)
          ·have hq := h13
           first | rw [Bool.not_eq_true'] at hq | skip
           refine sS ?_
           refine yd (yf (eR ?_))
           exact ⟨by simp only [yb, fmOk, h0, h1, h3, hff, h5, h7, h9, h11, h12, hd1, hq, bE, bH, Bool.false_eq_true, if_true, if_false]; simp [go_sem], by simp [go_sem]⟩
          ·have hq := h13
           first | rw [Bool.not_eq_false'] at hq | skip
           refine yg (sS ?_)
           refine yd (eR ?_)
           exact ⟨by simp only [yb, fmOk, h0, h1, h3, hff, h5, h7, h9, h11, h12, hd1, hq, bE, bF, Bool.false_eq_true, if_true, if_false]; simp [go_sem], by simp [go_sem]⟩
         ·refine aK 4 55 true ?_
          refine aT 2 ?_
          refine ye (ya (sS ?_))
          refine yc (b := true) (by simp [go_sem]) (fun h => ?_) (fun h => ?_)
          rotate_left
          ·cases h
          refine sS ?_
          refine yd (yf (eR ?_))
          exact ⟨by simp only [yb, fmOk, h0, h1, h3, hff, h5, h7, h9, h11, h12, bG, Bool.false_eq_true, if_true, if_false]; simp [go_sem], by simp [go_sem]⟩
        ·refine ya (aS ?_)
         refine yc (by first | rfl | (simp [go_sem, hgw, hlw, hx0, hfw] <;> rfl)) (fun h14 => ?_) (fun h14 => ?_)
         ·refine yS ?_
          refine aT 3 ?_
          refine yn 65 (by first | rfl | (simp [go_sem, hgw, hlw, hx0, hfw] <;> rfl)) (fun h15 => ?_) (fun h15 => ?_)
          ·have hlk : d.kids.length = 3 := by have h := h15; simp at h; omega
           obtain ⟨x1, hx1, hx1m⟩ := ym (l := d.kids) (k := 1) (by omega)
           have hd1 : d1 d.kids = x1 := yC hx1
           have hxs := D.size_kid_lt hx1m
           refine aLG 3 65 true (by simp [go_sem, hx1] <;> rfl) ?_
           refine yY 65 true true (by simp [go_sem]) rfl (by simp [go_sem]) rfl rfl (by simp [go_sem] <;> rfl) ygN ((ydz x1 (by omega) 3) _ (by exact hgl)) (by simp [go_sem] <;> rfl) (by simp [go_sem]) rfl rfl ?_
           refine aT 2 ?_
           refine yn 71 (by first | rfl | (simp [go_sem, hgw, hlw, hx0, hfw, hx1] <;> rfl)) (fun h16 => ?_) (fun h16 => ?_)
           ·refine aLG 6 71 true (by simp [go_sem, hx1] <;> rfl) ?_
            refine aT 2 ?_
            refine ye (ya (sS ?_))
            refine yc (by first | rfl | (simp [go_sem, hgw, hlw, hx0, hfw, hx1] <;> rfl)) (fun h17 => ?_) (fun h17 => ?_)
            ·have hq := h17
             first | rw [Bool.not_eq_true'] at hq | skip
             refine sS ?_
             refine yd (yf (eR ?_))
             exact ⟨by simp only [yb, fmOk, h0, h1, h3, hff, h5, h7, h9, h11, h14, h15, hd1, h16, hq, bE, bF, bH, Bool.false_eq_true, if_true, if_false]; simp [go_sem], by simp [go_sem]⟩
            ·have hq := h17
             first | rw [Bool.not_eq_false'] at hq | skip
             refine yg (sS ?_)
             refine yd (eR ?_)
             exact ⟨by simp only [yb, fmOk, h0, h1, h3, hff, h5, h7, h9, h11, h14, h15, hd1, h16, hq, bE, bF, Bool.false_eq_true, if_true, if_false]; simp [go_sem], by simp [go_sem]⟩
           ·refine aK 6 71 true ?_
            refine aT 2 ?_
            refine ye (ya (sS ?_))
            refine yc (b := true) (by simp [go_sem]) (fun h => ?_) (fun h => ?_)
            rotate_left
            ·cases h
            refine sS ?_
            refine yd (yf (eR ?_))
            exact ⟨by simp only [yb, fmOk, h0, h1, h3, hff, h5, h7, h9, h11, h14, h15, hd1, h16, bE, bG, bH, Bool.false_eq_true, if_true, if_false]; simp [go_sem], by simp [go_sem]⟩
          ·refine aK 4 65 true ?_
           refine aT 2 ?_
           refine aK 6 71 true ?_
           refine aT 2 ?_
           refine ye (ya (sS ?_))
           refine yc (b := true) (by simp [go_sem]) (fun h => ?_) (fun h => ?_)
           rotate_left
           ·cases h
           refine sS ?_
           refine yd (yf (eR ?_))
           exact ⟨by simp only [yb, fmOk, h0, h1, h3, hff, h5, h7, h9, h11, h14, h15, bG, Bool.false_eq_true, if_true, if_false]; simp [go_sem], by simp [go_sem]⟩
         ·refine ya (aS ?_)
          refine yc (by first | rfl | (simp [go_sem, hgw, hlw, hx0, hfw] <;> rfl)) (fun h18 => ?_) (fun h18 => ?_)
          ·refine yS ?_
           refine aT 3 ?_
           refine yn 83 (by first | rfl | (simp [go_sem, hgw, hlw, hx0, hfw] <;> rfl)) (fun h19 => ?_) (fun h19 => ?_)
           ·have hlk : d.kids.length = 4 := by have h := h19; simp at h; omega
            obtain ⟨x1, hx1, hx1m⟩ := ym (l := d.kids) (k := 1) (by omega)
            have hd1 : d1 d.kids = x1 := yC hx1
            have hxs := D.size_kid_lt hx1m
            refine aLG 3 83 true (by simp [go_sem, hx1] <;> rfl) ?_
            refine yY 83 true true (by simp [go_sem]) rfl (by simp [go_sem]) rfl rfl (by simp [go_sem] <;> rfl) ykD ((ykH x1) _ (by exact hgl)) (by simp [go_sem] <;> rfl) (by simp [go_sem]) rfl rfl ?_
            refine aT 2 ?_
            refine ye (ya (sS ?_))
            refine yc (by first | rfl | (simp [go_sem, hgw, hlw, hx0, hfw, hx1] <;> rfl)) (fun h20 => ?_) (fun h20 => ?_)
            ·have hq := h20
             first | rw [Bool.not_eq_true'] at hq | skip
             refine sS ?_
             refine yd (yf (eR ?_))
             exact ⟨by simp only [yb, fmOk, h0, h1, h3, hff, h5, h7, h9, h11, h14, h18, h19, hd1, hq, bH, Bool.false_eq_true, if_true, if_false]; simp [go_sem], by simp [go_sem]⟩
            ·have hq := h20
             first | rw [Bool.not_eq_false'] at hq | skip
             refine yg (sS ?_)
             refine yd (eR ?_)
             exact ⟨by simp only [yb, fmOk, h0, h1, h3, hff, h5, h7, h9, h11, h14, h18, h19, hd1, hq, bF, Bool.false_eq_true, if_true, if_false]; simp [go_sem], by simp [go_sem]⟩
           ·refine aK 4 83 true ?_
            refine aT 2 ?_
            refine ye (ya (sS ?_))
            refine yc (b := true) (by simp [go_sem]) (fun h => ?_) (fun h => ?_)
            rotate_left
            ·cases h
            refine sS ?_
            refine yd (yf (eR ?_))
            exact ⟨by simp only [yb, fmOk, h0, h1, h3, hff, h5, h7, h9, h11, h14, h18, h19, bG, Bool.false_eq_true, if_true, if_false]; simp [go_sem], by simp [go_sem]⟩
          ·refine ya (aS ?_)
           refine yc (by first | rfl | (simp [go_sem, hgw, hlw, hx0, hfw] <;> rfl)) (fun h21 => ?_) (fun h21 => ?_)
           ·refine aS ?_
            refine ya (sS ?_)
            refine yc (by first | rfl | (simp [go_sem, hgw, hlw, hx0, hfw] <;> rfl)) (fun h22 => ?_) (fun h22 => ?_)
            ·have hq := h22
             first | rw [Bool.not_eq_true'] at hq | skip
             refine sS ?_
             refine yd (yf (eR ?_))
             exact ⟨by simp only [yb, fmOk, h0, h1, h3, hff, h5, h7, h9, h11, h14, h18, h21, hq, bG, Bool.false_eq_true, if_true, if_false]; simp [go_sem], by simp [go_sem]⟩
            ·have hq := h22
             first | rw [Bool.not_eq_false'] at hq | skip
             refine yg (sS ?_)
             refine yd (eR ?_)
             exact ⟨by simp only [yb, fmOk, h0, h1, h3, hff, h5, h7, h9, h11, h14, h18, h21, hq, bE, Bool.false_eq_true, if_true, if_false]; simp [go_sem], by simp [go_sem]⟩
           ·refine ya (aS ?_)
            refine yc (by first | rfl | (simp [go_sem, hgw, hlw, hx0, hfw] <;> rfl)) (fun h23 => ?_) (fun h23 => ?_)
            ·refine yS ?_
             refine aT 3 ?_
             refine yn 97 (by first | rfl | (simp [go_sem, hgw, hlw, hx0, hfw] <;> rfl)) (fun h24 => ?_) (fun h24 => ?_)
             ·have hlk : d.kids.length = 3 := by have h := h24; simp at h; omega
              obtain ⟨x1, hx1, hx1m⟩ := ym (l := d.kids) (k := 1) (by omega)
              have hd1 : d1 d.kids = x1 := yC hx1
              have hxs := D.size_kid_lt hx1m
              refine aLG 3 97 true (by simp [go_sem, hx1] <;> rfl) ?_
              refine yY 97 true true (by simp [go_sem]) rfl (by simp [go_sem]) rfl rfl (by simp [go_sem] <;> rfl) yp5 ((ym8 x1 (by omega)) _ (by exact hgl)) (by simp [go_sem] <;> rfl) (by simp [go_sem]) rfl rfl ?_
              refine aT 2 ?_
              refine ye (ya (sS ?_))
              refine yc (by first | rfl | (simp [go_sem, hgw, hlw, hx0, hfw, hx1] <;> rfl)) (fun h25 => ?_) (fun h25 => ?_)
              ·have hq := h25
               first | rw [Bool.not_eq_true'] at hq | skip
               refine sS ?_
               refine yd (yf (eR ?_))
               exact ⟨by simp only [yb, fmOk, h0, h1, h3, hff, h5, h7, h9, h11, h14, h18, h21, h23, h24, hd1, hq, bE, bH, Bool.false_eq_true, if_true, if_false]; simp [go_sem], by simp [go_sem]⟩
              ·have hq := h25
               first | rw [Bool.not_eq_false'] at hq | skip
               refine yg (sS ?_)
               refine yd (eR ?_)
               exact ⟨by simp only [yb, fmOk, h0, h1, h3, hff, h5, h7, h9, h11, h14, h18, h21, h23, h24, hd1, hq, bE, bF, Bool.false_eq_true, if_true, if_false]; simp [go_sem], by simp [go_sem]⟩
             ·refine aK 4 97 true ?_
              refine aT 2 ?_
              refine ye (ya (sS ?_))
              refine yc (b := true) (by simp [go_sem]) (fun h => ?_) (fun h => ?_)
              rotate_left
              ·cases h
              refine sS ?_
              refine yd (yf (eR ?_))
              exact ⟨by simp only [yb, fmOk, h0, h1, h3, hff, h5, h7, h9, h11, h14, h18, h21, h23, h24, bG, Bool.false_eq_true, if_true, if_false]; simp [go_sem], by simp [go_sem]⟩
            ·refine yg (ya (sS ?_))
             refine yc (b := true) (by simp [go_sem]) (fun h => ?_) (fun h => ?_)
             rotate_left
             ·cases h
             refine sS ?_
             refine yd (yf (eR ?_))
             exact ⟨by simp only [yb, fmOk, h0, h1, h3, hff, h5, h7, h9, h11, h14, h18, h21, h23, Bool.false_eq_true, if_false]; simp [go_sem], by simp [go_sem]⟩
    ·have hf0 : f = 0 := by rw [hf]; unfold Yz; rw [hh, if_neg (by rw [h4]; decide)]
     subst hf0
     refine yg (sS ?_)
     refine ya (sS ?_)
     refine yh (sS ?_)
     refine yc (by first | rfl | (simp [go_sem, hgw, hlw, hx0] <;> rfl)) (fun h26 => ?_) (fun h26 => ?_)
     ·refine aS ?_
      refine ya (sS ?_)
      refine yc (by first | rfl | (simp [go_sem, hgw, hlw, hx0] <;> rfl)) (fun h27 => ?_) (fun h27 => ?_)
      ·have hq := h27
       first | rw [Bool.not_eq_true'] at hq | skip
       refine sS ?_
       refine yd (yf (eR ?_))
       exact ⟨by simp only [yb, fmOk, h0, h1, h3, hff, hq, Bool.false_eq_true, if_false]; simp [go_sem], by simp [go_sem]⟩
      ·have hq := h27
       first | rw [Bool.not_eq_false'] at hq | skip
       refine yg (sS ?_)
       refine yd (eR ?_)
       exact ⟨by simp only [yb, fmOk, h0, h1, h3, hff, hq, Bool.false_eq_true, if_true, if_false]; simp [go_sem], by simp [go_sem]⟩
     ·first | (cases h26; done) | (simp at h26; done)

end Go.Proofs.YtigideidmcmfbaaGreatDoor

namespace Go.Proofs.YtigideidmcmfbaaGreatDoor
open Go Go.Aw
variable {kr : KR}
def renG : Go.Shelf.Ren := ⟨fun x => match x with | 4 => 155 | n => n, fun x => match x with | 0 => 0 | 3 => 3 | 4 => 4 | 9 => 9 | 20 => 20 | 22 => 44 | 25 => 3 | n => n, fun x => match x with | n => n⟩
theorem yph : Go.Proofs.Lays8.n4 Tryz.prog renG :=
  {
    mixed := by kernel_rfl,
    f4 := ⟨Tryz.f155.name, by kernel_rfl, Eq.trans Tryz.func155 (congrArg some (by kernel_rfl))⟩,
    t0 := Tryz.underlying0,
    a0 := Tryz.isAgg0,
    z0 := Tryz.sizeOf0,
    v0 := Tryz.zeroValue0,
    t3 := Tryz.underlying3,
    a3 := Tryz.isAgg3,
    z3 := Tryz.sizeOf3,
    v3 := Tryz.zeroValue3,
    t4 := Tryz.underlying4,
    a4 := Tryz.isAgg4,
    z4 := Tryz.sizeOf4,
    v4 := Tryz.zeroValue4,
    t9 := Tryz.underlying9,
    a9 := Tryz.isAgg9,
    z9 := Tryz.sizeOf9,
    v9 := Tryz.zeroValue9,
    t20 := Tryz.underlying20,
    a20 := Tryz.isAgg20,
    z20 := Tryz.sizeOf20,
    v20 := Tryz.zeroValue20,
    t22 := Tryz.underlying44,
    a22 := Tryz.isAgg44,
    z22 := Tryz.sizeOf44,
    v22 := Tryz.zeroValue44 }
theorem yiZ (n : Nat) (hn : n ≤ 1000000000) (σ : Store) : ACalls Tryz.prog 155 [.pv .nils, .pv (.int .i64 n)] σ fun r σ' => r = .acc [] σ.toks.length ∧ σ' = { σ with toks := σ.toks ++ [⟨0, 3, 1⟩] } := by
  refine yj3 (e := 3) (fun w => Go.Proofs.Any8.slices_Grow_room yph none 0 0 0 w (by decide) (by decide) (by decide) (by decide)) (fun n w h0 h1 => ?_) n hn σ
  obtain ⟨i, z, k1, k2, k3, k4, k5, k6, k7⟩ := (tyOk _ _ ty3).info
  have hz1 : z.cells.size = 1 := k6
  refine (Go.Proofs.Any8.slices_Grow_grow yph i z k1 k4 (by rw [k2]; decide) none 0 0 n [] w (by omega) (by omega) (by rw [k3]; show (0 + n) * 8 ≤ _; omega) (by omega) (by simp) (fun _ => rfl) (fun a h => by cases h)).mono ?_
  rintro r w' ⟨rfl, rfl⟩
  have hge := grownCap_ge w (0 + n) 0 3
  have hcm : grownCap w (0 + n) 0 3 ≤ maxLen := grownCap_le_maxLen w _ 0 3 (by simp only [maxLen]; omega)
  refine ⟨_, _, rfl, rfl, ?_, hcm⟩
  simp only [Array.size_append, size_zeroCells, hz1, List.size_toArray, List.length_nil]
  show 0 + (0 + n - 0) * 1 + (grownCap w (0 + n) 0 3 - (0 + n)) * 1 = grownCap w (0 + n) 0 3
  omega

def ipv (p : List Int) : List PV := p.map (.int .i64)
theorem yA (p : List Int) : (ipv p).length = p.length := by simp [ipv]
@[go_sem] theorem ymp (p : List Int) : y4 1 (ipv p) = true := by
  unfold y4 ipv
  rw [List.all_map]
  exact List.all_eq_true.2 fun _ _ => rfl
theorem ygO : ipv [] = [] := rfl
theorem ycw (p q : List Int) : ipv (p ++ q) = ipv p ++ ipv q := by simp [ipv]

set_option maxHeartbeats 1000000 in
theorem ZJ (l : List D) (hl : l.length ≤ 1000000000) : Pur Tryz.prog (GL kr) 103 [.pv (.slice (l.map enc))] (.pv (.slice ((l.map D.text).map .str))) := by
 refine yB fun σ hgl => ?_
 refine yk tyOk Tryz.func103 rfl (by simp [Tryz.f103]) ?_
 refine sS ?_
 refine sS ?_
 refine ya (sS ?_)
 refine zF 3 9 1 (by simp [go_sem] <;> rfl) ?_
 refine yh (yq σ.objs.length (σ.toks.length + 1) 0 [2, 6, 7] (fun k : Nat => [(3, .acc ((l.map (PV.str ∘ D.text)).take k) σ.toks.length), (8, .pv (.int .i64 ↑k))]) (fun k => { σ with toks := σ.toks ++ [⟨k, 9, 1⟩] }) (fun k => k ≤ l.length) (fun k => l.length - k) 0 (Nat.zero_le _) ⟨by simp [go_sem], rfl, by simp, by simp, by simp [go_sem], fun ob h => .inl (by simpa [go_sem] using h), by simp [go_sem]⟩ ?_)
 intro k hk
 refine sS ?_
 refine ya (aC (fun h0 => ?_) (fun h0 => ?_))
 ·have hlt : k < l.length := by simp at h0; omega
  have hw : IntKind.i64.wrap (↑k + 1) = (k : Int) + 1 := yv (by omega)
  obtain ⟨x, hx, hxm⟩ := ym hlt
  have ht : (l.map (PV.str ∘ D.text)).take (k + 1) = (l.map (PV.str ∘ D.text)).take k ++ [.str x.text] := yI (by simp [hx])
  have hm : min k l.length = k := by omega
  have hb2 : (k + 1) * 16 ≤ 140737488355328 := by omega
  refine yg (ya (yh (sA (by simp [go_sem, hx] <;> rfl) ?_)))
  refine aR (by simp [go_sem, hm, hb2] <;> rfl) ?_
  refine aS ?_
  exact yx (k + 1) σ.objs.length (σ.toks.length + 1) 0 (hlt) (by omega) ⟨by simp [go_sem, ht], rfl, by simp, by simp, by simp [go_sem, hw, ht], fun ob h => .inl (by simpa [go_sem, hx, hm, hb2, hw, ht] using h), by simp [go_sem]⟩
 ·have hke : k = l.length := by simp at h0; omega
  subst hke
  refine yp (yj (yj (yl (sS ?_))))
  refine yd (eR ?_)
  exact ⟨by simp [go_sem], by simp [go_sem]⟩

set_option maxHeartbeats 1000000 in
theorem YO (d : D) (hd : d.size ≤ 1000000000) : Pur Tryz.prog (GL kr) 71 [.pv (enc d)] (.pv (.slice ((ownS d).map .str))) := by
 have hkl := D.kids_length_lt d
 have h5l := yZ d
 refine yB fun σ hgl => ?_
 refine yk tyOk Tryz.func71 rfl (by simp [Tryz.f71]) ?_
 refine sS ?_
 refine ya (sG ?_)
 refine aT 1 ?_
 refine aG yaJ ((yaI d hd) _ (by exact hgl)) ?_
 refine ye (yh (ya (sS ?_)))
 refine aC (fun h0 => ?_) (fun h0 => ?_)
 ·have hlen := h5l.1 (by first | exact .inl (by simpa using h0) | exact .inr (.inl (by simpa using h0)))
  obtain ⟨x1, hx1, hx1m⟩ := ym (l := d.kids) (k := 1) (by omega)
  have hd1 : d1 d.kids = x1 := yC hx1
  have hxs := D.size_kid_lt hx1m
  have hxl := D.kids_length_lt x1
  refine yg (yc (b := true) (by simp [go_sem, h0]) (fun h => ?_) (fun h => ?_))
  rotate_left
  ·cases h
  refine sG ?_
  refine aL 5 (by simp [go_sem, hx1] <;> rfl) ?_
  refine aG ZQ ((ZJ x1.kids (by omega)) _ (by exact hgl)) ?_
  refine aT 1 ?_
  refine ye (yd (yi (yf (eR ?_))))
  exact ⟨by simp only [ownS, h0, hd1, if_true]; simp [go_sem], by simp [go_sem]⟩
 ·refine aS ?_
  refine aC (fun h1 => ?_) (fun h1 => ?_)
  ·have hlen := h5l.1 (by first | exact .inl (by simpa using h1) | exact .inr (.inl (by simpa using h1)))
   obtain ⟨x1, hx1, hx1m⟩ := ym (l := d.kids) (k := 1) (by omega)
   have hd1 : d1 d.kids = x1 := yC hx1
   have hxs := D.size_kid_lt hx1m
   have hxl := D.kids_length_lt x1
   refine sG ?_
   refine aL 5 (by simp [go_sem, hx1] <;> rfl) ?_
   refine aG ZQ ((ZJ x1.kids (by omega)) _ (by exact hgl)) ?_
   refine aT 1 ?_
   refine ye (yd (yi (yf (eR ?_))))
   exact ⟨by simp only [ownS, h0, h1, hd1, Bool.false_eq_true, if_true, if_false]; simp [go_sem], by simp [go_sem]⟩
  ·refine ya (aS ?_)
   refine aC (fun h2 => ?_) (fun h2 => ?_)
   ·have hlen := h5l.2.1 (by simpa using h2)
    obtain ⟨x1, hx1, hx1m⟩ := ym (l := d.kids) (k := 1) (by omega)
    have hd1 : d1 d.kids = x1 := yC hx1
    have hxs := D.size_kid_lt hx1m
    have hxl := D.kids_length_lt x1
    have hT : (List.take 2 (List.map enc d.kids)).tail = [enc x1] := yn5 hx1
    have h2i : (2 : Int) ≤ d.kids.length := by omega
    refine sG ?_
    refine aL 3 (by simp [go_sem, hT, h2i] <;> rfl) ?_
    refine aG ZQ ((ZJ [x1] (by simp)) _ (by exact hgl)) ?_
    refine aT 1 ?_
    refine ye (yd (yi (yf (eR ?_))))
    exact ⟨by simp only [ownS, h0, h1, h2, hd1, Bool.false_eq_true, if_true, if_false]; simp [go_sem], by simp [go_sem]⟩
   ·refine ya (aS ?_)
    refine aC (fun h3 => ?_) (fun h3 => ?_)
    ·have hlen := h5l.1 (.inr (.inr (by simpa using h3)))
     obtain ⟨x1, hx1, hx1m⟩ := ym (l := d.kids) (k := 1) (by omega)
     have hd1 : d1 d.kids = x1 := yC hx1
     have hxs := D.size_kid_lt hx1m
     have hxl := D.kids_length_lt x1
     have hk3 := h5l.2.2 (by simpa using h3)
     rw [hd1] at hk3
     refine sS ?_
     refine ya (sA (by simp [go_sem, hx1] <;> rfl) ?_)
     refine zF 3 24 4 (by simp [go_sem] <;> rfl) ?_
     refine yh (yq σ.objs.length (σ.toks.length + 1) 1 [2, 29, 30] (fun k : Nat => [(3, .acc ((x1.kids.map (enc ∘ D.head)).take k) σ.toks.length), (31, .pv (.int .i64 ↑k))]) (fun k => { σ with toks := σ.toks ++ [⟨k, 24, 4⟩] }) (fun k => k ≤ x1.kids.length) (fun k => x1.kids.length - k) 0 (Nat.zero_le _) ⟨by simp [go_sem], rfl, by simp, by simp, by simp [go_sem], fun ob h => .inl (by simpa [go_sem, hx1] using h), by simp [go_sem]⟩ ?_)
     intro k hk
     refine sS ?_
     refine ya (yc (by first | rfl | (simp [go_sem, hx1] <;> rfl)) (fun h4 => ?_) (fun h4 => ?_))
     ·have hlt : k < x1.kids.length := by simp at h4; omega
      have hw : IntKind.i64.wrap (↑k + 1) = (k : Int) + 1 := yv (by omega)
      obtain ⟨x, hx, hxm⟩ := ym hlt
      obtain ⟨y0, hy0, hy0m⟩ := ym (l := x.kids) (k := 0) (by rw [hk3 x hxm]; decide)
      have hh0 : x.head = y0 := ybj hy0
      have ht : (x1.kids.map (enc ∘ D.head)).take (k + 1) = (x1.kids.map (enc ∘ D.head)).take k ++ [enc x.head] := yI (by simp [hx])
      have hm : min k x1.kids.length = k := by omega
      have hb2 : (k + 1) * 56 ≤ 140737488355328 := by omega
      refine yg (ya (yh (sA (by simp [go_sem, hx] <;> rfl) ?_)))
      refine aR (by simp [go_sem, hy0, hm, hb2] <;> rfl) ?_
      refine aS ?_
      exact yx (k + 1) σ.objs.length (σ.toks.length + 1) 1 (hlt) (by omega) ⟨by simp [go_sem, ht, hh0], rfl, by simp, by simp, by simp [go_sem, hw, ht, hh0], fun ob h => .inl (by simpa [go_sem, hx1, hx, hy0, hm, hb2, hw, ht, hh0] using h), by simp [go_sem]⟩
     ·have hke : k = x1.kids.length := by simp at h4; omega
      subst hke
      refine yp (yj (yj (yl (sG ?_))))
      refine aT 1 ?_
      refine aG ZQ ((ZJ (x1.kids.map D.head) (by rw [List.length_map]; omega)) _ (by exact hgl)) ?_
      refine aT 1 ?_
      refine ye (yd (yi (yf (eR ?_))))
      exact ⟨by simp only [ownS, h0, h1, h2, h3, hd1, Bool.false_eq_true, if_true, if_false]; simp [go_sem], by simp [go_sem]⟩
    ·refine yg (sS ?_)
     refine yd (eR ?_)
     exact ⟨by simp only [ownS, h0, h1, h2, h3, Bool.false_eq_true, if_false]; simp [go_sem], by simp [go_sem]⟩

set_option maxHeartbeats 1000000 in
theorem yio (ls : List (List Int)) (hl : ls.length ≤ 1000000) (hs : (ls.map List.length).sum ≤ 1000000000) : Pur Tryz.prog (GL kr) 108 [.pv (.slice (ls.map fun p => .slice (ipv p)))] (.pv (.slice (ipv ls.flatten))) := by
 have hs0 : ((ls.map List.length).take 0).sum = 0 := rfl
 have hsa : ((ls.map List.length).take ls.length).sum = (ls.map List.length).sum := by rw [List.take_of_length_le (by simp)]
 have hf0 : ipv (ls.take 0).flatten = [] := rfl
 have hfa : ipv (ls.take ls.length).flatten = ipv ls.flatten := by rw [List.take_length]
 have hsk := fun k => yjL ls k
 have hflat := fun k => yjZ ls k
 refine yB fun σ hgl => ?_
 refine yk tyOk Tryz.func108 rfl (by simp [Tryz.f108]) ?_
 refine sS ?_
 refine sS ?_
 refine ya (sS ?_)
 refine yh (yq σ.objs.length σ.toks.length 0 [0, 2, 9, 10] (fun k : Nat => [(3, .pv (.int .i64 (((((ls.map List.length).take k).sum : Nat) : Nat) : Int))), (11, .pv (.int .i64 ↑k))]) (fun k => σ) (fun k => k ≤ ls.length) (fun k => ls.length - k) 0 (Nat.zero_le _) ⟨by simp [go_sem], rfl, by simp, by simp, by simp [go_sem], fun ob h => .inl (by simpa [go_sem, hs0] using h), by simp [go_sem]⟩ ?_)
 intro k hk
 refine sS ?_
 refine ya (aC (fun h0 => ?_) (fun h0 => ?_))
 ·have hlt : k < ls.length := by simp at h0; omega
  have hw : IntKind.i64.wrap (↑k + 1) = (k : Int) + 1 := yv (by omega)
  obtain ⟨x, hx, hxm⟩ := ym hlt
  have hnx := ydf hx
  have hkk := hsk (k + 1)
  have hadd : IntKind.i64.wrap ((((((ls.map List.length).take k).sum : Nat) : Nat) : Int) + (x.length : Int)) = ((((ls.map List.length).take (k + 1)).sum : Nat) : Int) := by rw [yO (by omega) (by omega)]; omega
  refine yg (ya (yh (sA (by simp [go_sem, hx] <;> rfl) ?_)))
  refine sA (by simp [go_sem, yA, hadd] <;> rfl) ?_
  refine sS ?_
  refine yc (by first | rfl | (simp [go_sem, hx, yA, hadd] <;> rfl)) (fun h1 => ?_) (fun h1 => ?_)
  ·exfalso; have h := h1; simp at h; omega
  ·refine yg (aS ?_)
   exact yx (k + 1) σ.objs.length σ.toks.length 0 (hlt) (by omega) ⟨by simp [go_sem], rfl, by simp, by simp, by simp [go_sem, hw], fun ob h => .inl (by simpa [go_sem, hx, yA, hadd, hw] using h), by simp [go_sem]⟩
 ·have hke : k = ls.length := by simp at h0; omega
  subst hke
  refine yp (yj (yj (yl (sG ?_))))
  refine aT 1 ?_
  refine yy rfl rfl rfl (by simp [go_sem] <;> rfl) ygq (yiZ ((ls.map List.length).sum) (by omega) σ) (by simp [go_sem] <;> rfl) (by simp [go_sem]) rfl rfl ?_
  rintro r σ' ⟨rfl, rfl⟩
  refine aT 1 ?_
  refine ye (ya (sS ?_))
  refine yh (yq σ.objs.length (σ.toks.length + 1) 0 [2, 25, 26] (fun k : Nat => [(6, .acc (ipv (ls.take k).flatten) σ.toks.length), (27, .pv (.int .i64 ↑k))]) (fun k => { σ with toks := σ.toks ++ [⟨(ipv (ls.take k).flatten).length, 3, 1⟩] }) (fun k => k ≤ ls.length) (fun k => ls.length - k) 0 (Nat.zero_le _) ⟨by simp [go_sem, ygO], rfl, by simp, by simp, by simp [go_sem, ygO], fun ob h => .inl (by simpa [go_sem, hsa, hf0, yA, ygO] using h), by simp [go_sem]⟩ ?_)
  intro k hk
  refine sS ?_
  refine ya (yc (by first | rfl | (simp [go_sem, hsa] <;> rfl)) (fun h2 => ?_) (fun h2 => ?_))
  ·have hlt : k < ls.length := by simp at h2; omega
   have hw : IntKind.i64.wrap (↑k + 1) = (k : Int) + 1 := yv (by omega)
   obtain ⟨x, hx, hxm⟩ := ym hlt
   have hnx := ygM hx
   have hkk := hsk (k + 1)
   have hk2 := hflat (k + 1)
   have hk1 := hflat k
   have hsn := ydf hx
   have hb2 : ((ipv (ls.take k).flatten).length + (ipv x).length) * 8 ≤ 140737488355328 := by rw [yA, yA]; omega
   refine yg (ya (yh (sA (by simp [go_sem, hx] <;> rfl) ?_)))
   refine aR (by simp [go_sem, hb2] <;> rfl) ?_
   refine aS ?_
   exact yx (k + 1) σ.objs.length (σ.toks.length + 1) 0 (hlt) (by omega) ⟨by simp [go_sem, hnx, ycw, yA], rfl, by simp, by simp, by simp [go_sem, hw, hnx, ycw, yA], fun ob h => .inl (by simpa [go_sem, hsa, hx, hb2, hw, hnx, ycw, yA] using h), by simp [go_sem]⟩
  ·have hke : k = ls.length := by simp at h2; omega
   subst hke
   refine yp (yj (yj (yl (sS ?_))))
   refine yd (eR ?_)
   exact ⟨by simp [go_sem], by simp [go_sem]⟩

end Go.Proofs.YtigideidmcmfbaaGreatDoor

namespace Go.Proofs.YtigideidmcmfbaaGreatDoor
open Go Go.Aw
variable {kr : KR}
set_option maxHeartbeats 1000000 in
theorem yaO (d : D) (σ : Store) : ACalls Tryz.prog 104 [.pv (enc d)] σ (fun r σ' => r = .func (.func 147) [.ptr σ.objs.length 0] ∧ σ' = { σ with objs := σ.objs ++ [.box [.pv (.int .i64 d.kind), .pv (.int .i64 d.num), .pv (.str d.text), .pv (.slice (d.kids.map enc))]] }) := by
 refine yk tyOk Tryz.func104 rfl (by simp [Tryz.f104]) ?_
 refine ya (yD (sh := [1]) tyOk (by simp [go_sem] <;> rfl) ?_)
 refine sS ?_
 refine yd (eR ?_)
 exact ⟨by simp [go_sem], by simp [go_sem]⟩

set_option maxHeartbeats 4000000 in
theorem yaK (d : D) (hd : d.size ≤ 1000000000) (o l : Nat) (J : Nat → Store → Prop) (E : Store → Prop) (hJg : ∀ i τ, J i τ → τ.gl = (GL kr)) (hbox : ∀ i τ, J i τ → τ.objs[o]? = some (.box [.pv (.int .i64 d.kind), .pv (.int .i64 d.num), .pv (.str d.text), .pv (.slice (d.kids.map enc))])) (hround : ∀ i τ q, (subs d)[i]? = some q → J i τ → ACallsY Tryz.prog l [.pv (.slice (ipv q.1.p)), .pv (enc q.2)] τ fun r τ' => (r = .pv (.bool true) ∧ J (i + 1) τ') ∨ (r = .pv (.bool false) ∧ E τ')) (σ : Store) (hJ0 : J 0 σ) : ACalls Tryz.prog 147 [.func (.yield l) [], .ptr o 0] σ (fun _ σ' => J (subs d).length σ' ∨ E σ') := by
 have hb0 := hbox 0 σ hJ0
 have hgl := hJg 0 σ hJ0
 have hkl := D.kids_length_lt d
 have hsl := yZ d
 refine yk tyOk Tryz.func147 rfl (by simp [Tryz.f147]) ?_
 refine sS ?_
 refine ya (sG ?_)
 refine aL 1 (by simp [go_sem, hb0] <;> rfl) ?_
 refine aG yaJ ((yaI d hd) _ (by exact hgl)) ?_
 refine ye (yh (ya (sS ?_)))
 refine yc (by first | rfl | (simp [go_sem, hb0] <;> rfl)) (fun h0 => ?_) (fun h0 => ?_)
 ·obtain ⟨bs, hbs⟩ : ∃ z : Nat, z = 0 := ⟨_, rfl⟩
  have htl : z8 d 1 bs := by rw [hbs]; exact yhr (by first | exact .inl (by simpa using h0 : yb d = 4) | exact .inr (by simpa using h0 : yb d = 8))
  obtain ⟨htl1, htl2⟩ := htl
  have hfl : 1 ≤ d.kids.length := by have h := yi0 d (by first | exact .inl (by simpa using h0 : yb d = 4) | exact .inr (by simpa using h0 : yb d = 8)); omega
  have hJs : J bs σ := by rw [hbs]; exact hJ0
  refine yg (yc (b := true) (by simp [go_sem, h0]) (fun h => ?_) (fun h => ?_))
  rotate_left
  ·cases h
  refine aS ?_
  refine ya ?_
  have hfl2 : (1 : Int) ≤ (d.kids.length : Int) := by omega
  refine aR (by simp [go_sem, hb0, hfl2] <;> rfl) ?_
  refine yh (yN 0 [0, 3, 45, 46] (fun p : Nat × Store => [(47, .pv (.int .i64 (p.1 : Int)))]) (fun p => p.2) (fun p => p.1 ≤ (d.kids.drop 1).length ∧ J (bs + p.1) p.2) (fun p => (d.kids.drop 1).length - p.1) (0, σ) (⟨Nat.zero_le _, hJs⟩) ⟨rfl, rfl, by simp [go_sem], by simp [go_sem]⟩ ?_)
  rintro ⟨i3, τ3⟩ ⟨hi3, hJ3⟩
  have hb3 := hbox _ τ3 hJ3
  refine sS ?_
  refine ya (yc (by first | rfl | (simp [go_sem, hb0, hfl2, hb3] <;> rfl)) (fun h1 => ?_) (fun h1 => ?_))
  ·have hlt : i3 < (d.kids.drop 1).length := by simp at h1; simp; omega
   have hxl2 : (d.kids.drop 1).length ≤ d.kids.length := by simp
   obtain ⟨x, hx, hxm⟩ := ym hlt
   obtain ⟨q, hq, hqp, hq2⟩ := htl2 i3 x hx
   have hx3 : d.kids[1 + i3]? = some x := by rw [← hx, List.getElem?_drop]
   have hx4 := hx3
   have hx5 : d.kids[i3 + 1]? = some x := by rw [Nat.add_comm]; exact hx3
   try simp only [Nat.zero_add] at hx4
   have hqp2 := hqp
   simp at hqp2
   have hw4 : IntKind.i64.wrap (i3 : Int) = (i3 : Int) := yO (by omega) (by omega)
   have hw : IntKind.i64.wrap ((i3 : Int) + 1) = (i3 : Int) + 1 := yv (by omega)
   have hw3 : IntKind.i64.wrap ((1 : Int) + (i3 : Int)) = (1 : Int) + (i3 : Int) := yO (by omega) (by omega)
   refine yg (ya (yh (sA (by simp [go_sem, hx5] <;> rfl) ?_)))
   refine sG ?_
   refine aL 6 (by simp [go_sem, hw3] <;> rfl) ?_
   refine Zo rfl rfl rfl (by simp [go_sem] <;> rfl) (hround (bs + i3) τ3 q hq hJ3) (by simp [go_sem] <;> rfl) (by simp [go_sem, hqp2, hq2, ipv]) rfl rfl ?_
   rintro r τ4 (⟨rfl, hJ4⟩ | ⟨rfl, hE⟩)
   ·refine aT 1 ?_
    refine ye (yc (b := false) (by simp [go_sem]) (fun h => ?_) (fun h => ?_))
    ·cases h
    refine yg (aS ?_)
    exact ⟨(i3 + 1, τ4), ⟨by show i3 + 1 ≤ _; omega, hJ4⟩, by show (d.kids.drop 1).length - (i3 + 1) < (d.kids.drop 1).length - i3; omega, rfl, rfl, by simp [go_sem, hw], by simp [go_sem]⟩
   ·refine aT 1 ?_
    refine ye (yc (b := true) (by simp [go_sem]) (fun h => ?_) (fun h => ?_))
    rotate_left
    ·cases h
    refine yd (yi (yf (yf (yi (eR ?_)))))
    first | exact .inr hE | exact .inl (by rw [hs0]; exact hJ0) | exact .inl hJ3
  ·have hke : i3 = (d.kids.drop 1).length := by have e1 := h1; have e2 : (d.kids.drop 1).length = d.kids.length - 1 := List.length_drop; have e3 : i3 ≤ (d.kids.drop 1).length := hi3; simp only [decide_eq_false_iff_not] at e1; rw [e2] at e3 ⊢; omega
   subst hke
   rw [htl1] at hJ3
   refine yp (yj (yj (yl (yz (by simp [go_sem] <;> rfl) (by simp [go_sem]) ?_))))
   first | exact .inr hE | exact .inl (by rw [hs0]; exact hJ0) | exact .inl hJ3
 ·refine aS ?_
  refine yc (by first | rfl | (simp [go_sem, hb0] <;> rfl)) (fun h2 => ?_) (fun h2 => ?_)
  ·obtain ⟨bs, hbs⟩ : ∃ z : Nat, z = 0 := ⟨_, rfl⟩
   have htl : z8 d 1 bs := by rw [hbs]; exact yhr (by first | exact .inl (by simpa using h2 : yb d = 4) | exact .inr (by simpa using h2 : yb d = 8))
   obtain ⟨htl1, htl2⟩ := htl
   have hfl : 1 ≤ d.kids.length := by have h := yi0 d (by first | exact .inl (by simpa using h2 : yb d = 4) | exact .inr (by simpa using h2 : yb d = 8)); omega
   have hJs : J bs σ := by rw [hbs]; exact hJ0
   refine aS ?_
   refine ya ?_
   have hfl2 : (1 : Int) ≤ (d.kids.length : Int) := by omega
   refine aR (by simp [go_sem, hb0, hfl2] <;> rfl) ?_
   refine yh (yN 0 [0, 3, 45, 46] (fun p : Nat × Store => [(47, .pv (.int .i64 (p.1 : Int)))]) (fun p => p.2) (fun p => p.1 ≤ (d.kids.drop 1).length ∧ J (bs + p.1) p.2) (fun p => (d.kids.drop 1).length - p.1) (0, σ) (⟨Nat.zero_le _, hJs⟩) ⟨rfl, rfl, by simp [go_sem], by simp [go_sem]⟩ ?_)
   rintro ⟨i3, τ3⟩ ⟨hi3, hJ3⟩
   have hb3 := hbox _ τ3 hJ3
   refine sS ?_
   refine ya (yc (by first | rfl | (simp [go_sem, hb0, hfl2, hb3] <;> rfl)) (fun h3 => ?_) (fun h3 => ?_))
   ·have hlt : i3 < (d.kids.drop 1).length := by simp at h3; simp; omega
    have hxl2 : (d.kids.drop 1).length ≤ d.kids.length := by simp
    obtain ⟨x, hx, hxm⟩ := ym hlt
    obtain ⟨q, hq, hqp, hq2⟩ := htl2 i3 x hx
    have hx3 : d.kids[1 + i3]? = some x := by rw [← hx, List.getElem?_drop]
    have hx4 := hx3
    have hx5 : d.kids[i3 + 1]? = some x := by rw [Nat.add_comm]; exact hx3
    try simp only [Nat.zero_add] at hx4
    have hqp2 := hqp
    simp at hqp2
    have hw4 : IntKind.i64.wrap (i3 : Int) = (i3 : Int) := yO (by omega) (by omega)
    have hw : IntKind.i64.wrap ((i3 : Int) + 1) = (i3 : Int) + 1 := yv (by omega)
    have hw3 : IntKind.i64.wrap ((1 : Int) + (i3 : Int)) = (1 : Int) + (i3 : Int) := yO (by omega) (by omega)
    refine yg (ya (yh (sA (by simp [go_sem, hx5] <;> rfl) ?_)))
    refine sG ?_
    refine aL 6 (by simp [go_sem, hw3] <;> rfl) ?_
    refine Zo rfl rfl rfl (by simp [go_sem] <;> rfl) (hround (bs + i3) τ3 q hq hJ3) (by simp [go_sem] <;> rfl) (by simp [go_sem, hqp2, hq2, ipv]) rfl rfl ?_
    rintro r τ4 (⟨rfl, hJ4⟩ | ⟨rfl, hE⟩)
    ·refine aT 1 ?_
     refine ye (yc (b := false) (by simp [go_sem]) (fun h => ?_) (fun h => ?_))
     ·cases h
     refine yg (aS ?_)
     exact ⟨(i3 + 1, τ4), ⟨by show i3 + 1 ≤ _; omega, hJ4⟩, by show (d.kids.drop 1).length - (i3 + 1) < (d.kids.drop 1).length - i3; omega, rfl, rfl, by simp [go_sem, hw], by simp [go_sem]⟩
    ·refine aT 1 ?_
     refine ye (yc (b := true) (by simp [go_sem]) (fun h => ?_) (fun h => ?_))
     rotate_left
     ·cases h
     refine yd (yi (yf (yf (yi (eR ?_)))))
     first | exact .inr hE | exact .inl (by rw [hs0]; exact hJ0) | exact .inl hJ3
   ·have hke : i3 = (d.kids.drop 1).length := by have e1 := h3; have e2 : (d.kids.drop 1).length = d.kids.length - 1 := List.length_drop; have e3 : i3 ≤ (d.kids.drop 1).length := hi3; simp only [decide_eq_false_iff_not] at e1; rw [e2] at e3 ⊢; omega
    subst hke
    rw [htl1] at hJ3
    refine yp (yj (yj (yl (yz (by simp [go_sem] <;> rfl) (by simp [go_sem]) ?_))))
    first | exact .inr hE | exact .inl (by rw [hs0]; exact hJ0) | exact .inl hJ3
  ·refine ya (sS ?_)
   refine yc (by first | rfl | (simp [go_sem, hb0] <;> rfl)) (fun h4 => ?_) (fun h4 => ?_)
   ·obtain ⟨bs, hbs⟩ : ∃ z : Nat, z = 0 := ⟨_, rfl⟩
    have htl : z8 d 2 bs := by rw [hbs]; exact by first | exact yfv (by simpa using h4 : yb d = 6) | exact ya1 (.inl (by simpa using h4 : yb d = 5)) | exact ya1 (.inr (by simpa using h4 : yb d = 9))
    obtain ⟨htl1, htl2⟩ := htl
    have hfl : 2 ≤ d.kids.length := by have h := hsl.1; have h2 := hsl.2.1; have e := h4; simp at e; first | (have := h (.inl e); omega) | (have := h (.inr (.inl e)); omega) | (have := h2 e; omega)
    have hJs : J bs σ := by rw [hbs]; exact hJ0
    refine yg (yc (b := true) (by simp [go_sem, h4]) (fun h => ?_) (fun h => ?_))
    rotate_left
    ·cases h
    refine aS ?_
    refine ya ?_
    have hfl2 : (2 : Int) ≤ (d.kids.length : Int) := by omega
    refine aR (by simp [go_sem, hb0, hfl2] <;> rfl) ?_
    refine yh (yN 0 [0, 3, 45, 46] (fun p : Nat × Store => [(47, .pv (.int .i64 (p.1 : Int)))]) (fun p => p.2) (fun p => p.1 ≤ (d.kids.drop 2).length ∧ J (bs + p.1) p.2) (fun p => (d.kids.drop 2).length - p.1) (0, σ) (⟨Nat.zero_le _, hJs⟩) ⟨rfl, rfl, by simp [go_sem], by simp [go_sem]⟩ ?_)
    rintro ⟨i3, τ3⟩ ⟨hi3, hJ3⟩
    have hb3 := hbox _ τ3 hJ3
    refine sS ?_
    refine ya (yc (by first | rfl | (simp [go_sem, hb0, hfl2, hb3] <;> rfl)) (fun h5 => ?_) (fun h5 => ?_))
    ·have hlt : i3 < (d.kids.drop 2).length := by simp at h5; simp; omega
     have hxl2 : (d.kids.drop 2).length ≤ d.kids.length := by simp
     obtain ⟨x, hx, hxm⟩ := ym hlt
     obtain ⟨q, hq, hqp, hq2⟩ := htl2 i3 x hx
     have hx3 : d.kids[2 + i3]? = some x := by rw [← hx, List.getElem?_drop]
     have hx4 := hx3
     have hx5 : d.kids[i3 + 2]? = some x := by rw [Nat.add_comm]; exact hx3
     try simp only [Nat.zero_add] at hx4
     have hqp2 := hqp
     simp at hqp2
     have hw4 : IntKind.i64.wrap (i3 : Int) = (i3 : Int) := yO (by omega) (by omega)
     have hw : IntKind.i64.wrap ((i3 : Int) + 1) = (i3 : Int) + 1 := yv (by omega)
     have hw3 : IntKind.i64.wrap ((2 : Int) + (i3 : Int)) = (2 : Int) + (i3 : Int) := yO (by omega) (by omega)
     refine yg (ya (yh (sA (by simp [go_sem, hx3] <;> rfl) ?_)))
     refine sG ?_
     refine aL 6 (by simp [go_sem, hw3] <;> rfl) ?_
     refine Zo rfl rfl rfl (by simp [go_sem] <;> rfl) (hround (bs + i3) τ3 q hq hJ3) (by simp [go_sem] <;> rfl) (by simp [go_sem, hqp2, hq2, ipv]) rfl rfl ?_
     rintro r τ4 (⟨rfl, hJ4⟩ | ⟨rfl, hE⟩)
     ·refine aT 1 ?_
      refine ye (yc (b := false) (by simp [go_sem]) (fun h => ?_) (fun h => ?_))
      ·cases h
      refine yg (aS ?_)
      exact ⟨(i3 + 1, τ4), ⟨by show i3 + 1 ≤ _; omega, hJ4⟩, by show (d.kids.drop 2).length - (i3 + 1) < (d.kids.drop 2).length - i3; omega, rfl, rfl, by simp [go_sem, hw], by simp [go_sem]⟩
     ·refine aT 1 ?_
      refine ye (yc (b := true) (by simp [go_sem]) (fun h => ?_) (fun h => ?_))
      rotate_left
      ·cases h
      refine yd (yi (yf (yf (yi (eR ?_)))))
      first | exact .inr hE | exact .inl (by rw [hs0]; exact hJ0) | exact .inl hJ3
    ·have hke : i3 = (d.kids.drop 2).length := by have e1 := h5; have e2 : (d.kids.drop 2).length = d.kids.length - 2 := List.length_drop; have e3 : i3 ≤ (d.kids.drop 2).length := hi3; simp only [decide_eq_false_iff_not] at e1; rw [e2] at e3 ⊢; omega
     subst hke
     rw [htl1] at hJ3
     refine yp (yj (yj (yl (yz (by simp [go_sem] <;> rfl) (by simp [go_sem]) ?_))))
     first | exact .inr hE | exact .inl (by rw [hs0]; exact hJ0) | exact .inl hJ3
   ·refine ya (aS ?_)
    refine yc (by first | rfl | (simp [go_sem, hb0] <;> rfl)) (fun h6 => ?_) (fun h6 => ?_)
    ·obtain ⟨bs, hbs⟩ : ∃ z : Nat, z = 0 := ⟨_, rfl⟩
     have htl : z8 d 2 bs := by rw [hbs]; exact by first | exact yfv (by simpa using h6 : yb d = 6) | exact ya1 (.inl (by simpa using h6 : yb d = 5)) | exact ya1 (.inr (by simpa using h6 : yb d = 9))
     obtain ⟨htl1, htl2⟩ := htl
     have hfl : 2 ≤ d.kids.length := by have h := hsl.1; have h2 := hsl.2.1; have e := h6; simp at e; first | (have := h (.inl e); omega) | (have := h (.inr (.inl e)); omega) | (have := h2 e; omega)
     have hJs : J bs σ := by rw [hbs]; exact hJ0
     refine yg (yc (b := true) (by simp [go_sem, h6]) (fun h => ?_) (fun h => ?_))
     rotate_left
     ·cases h
     refine aS ?_
     refine ya ?_
     have hfl2 : (2 : Int) ≤ (d.kids.length : Int) := by omega
     refine aR (by simp [go_sem, hb0, hfl2] <;> rfl) ?_
     refine yh (yN 0 [0, 3, 45, 46] (fun p : Nat × Store => [(47, .pv (.int .i64 (p.1 : Int)))]) (fun p => p.2) (fun p => p.1 ≤ (d.kids.drop 2).length ∧ J (bs + p.1) p.2) (fun p => (d.kids.drop 2).length - p.1) (0, σ) (⟨Nat.zero_le _, hJs⟩) ⟨rfl, rfl, by simp [go_sem], by simp [go_sem]⟩ ?_)
     rintro ⟨i3, τ3⟩ ⟨hi3, hJ3⟩
     have hb3 := hbox _ τ3 hJ3
     refine sS ?_
     refine ya (yc (by first | rfl | (simp [go_sem, hb0, hfl2, hb3] <;> rfl)) (fun h7 => ?_) (fun h7 => ?_))
     ·have hlt : i3 < (d.kids.drop 2).length := by simp at h7; simp; omega
      have hxl2 : (d.kids.drop 2).length ≤ d.kids.length := by simp
      obtain ⟨x, hx, hxm⟩ := ym hlt
      obtain ⟨q, hq, hqp, hq2⟩ := htl2 i3 x hx
      have hx3 : d.kids[2 + i3]? = some x := by rw [← hx, List.getElem?_drop]
      have hx4 := hx3
      have hx5 : d.kids[i3 + 2]? = some x := by rw [Nat.add_comm]; exact hx3
      try simp only [Nat.zero_add] at hx4
      have hqp2 := hqp
      simp at hqp2
      have hw4 : IntKind.i64.wrap (i3 : Int) = (i3 : Int) := yO (by omega) (by omega)
      have hw : IntKind.i64.wrap ((i3 : Int) + 1) = (i3 : Int) + 1 := yv (by omega)
      have hw3 : IntKind.i64.wrap ((2 : Int) + (i3 : Int)) = (2 : Int) + (i3 : Int) := yO (by omega) (by omega)
      refine yg (ya (yh (sA (by simp [go_sem, hx3] <;> rfl) ?_)))
      refine sG ?_
      refine aL 6 (by simp [go_sem, hw3] <;> rfl) ?_
      refine Zo rfl rfl rfl (by simp [go_sem] <;> rfl) (hround (bs + i3) τ3 q hq hJ3) (by simp [go_sem] <;> rfl) (by simp [go_sem, hqp2, hq2, ipv]) rfl rfl ?_
      rintro r τ4 (⟨rfl, hJ4⟩ | ⟨rfl, hE⟩)
      ·refine aT 1 ?_
       refine ye (yc (b := false) (by simp [go_sem]) (fun h => ?_) (fun h => ?_))
       ·cases h
       refine yg (aS ?_)
       exact ⟨(i3 + 1, τ4), ⟨by show i3 + 1 ≤ _; omega, hJ4⟩, by show (d.kids.drop 2).length - (i3 + 1) < (d.kids.drop 2).length - i3; omega, rfl, rfl, by simp [go_sem, hw], by simp [go_sem]⟩
      ·refine aT 1 ?_
       refine ye (yc (b := true) (by simp [go_sem]) (fun h => ?_) (fun h => ?_))
       rotate_left
       ·cases h
       refine yd (yi (yf (yf (yi (eR ?_)))))
       first | exact .inr hE | exact .inl (by rw [hs0]; exact hJ0) | exact .inl hJ3
     ·have hke : i3 = (d.kids.drop 2).length := by have e1 := h7; have e2 : (d.kids.drop 2).length = d.kids.length - 2 := List.length_drop; have e3 : i3 ≤ (d.kids.drop 2).length := hi3; simp only [decide_eq_false_iff_not] at e1; rw [e2] at e3 ⊢; omega
      subst hke
      rw [htl1] at hJ3
      refine yp (yj (yj (yl (yz (by simp [go_sem] <;> rfl) (by simp [go_sem]) ?_))))
      first | exact .inr hE | exact .inl (by rw [hs0]; exact hJ0) | exact .inl hJ3
    ·refine aS ?_
     refine yc (by first | rfl | (simp [go_sem, hb0] <;> rfl)) (fun h8 => ?_) (fun h8 => ?_)
     ·obtain ⟨bs, hbs⟩ : ∃ z : Nat, z = 0 := ⟨_, rfl⟩
      have htl : z8 d 2 bs := by rw [hbs]; exact by first | exact yfv (by simpa using h8 : yb d = 6) | exact ya1 (.inl (by simpa using h8 : yb d = 5)) | exact ya1 (.inr (by simpa using h8 : yb d = 9))
      obtain ⟨htl1, htl2⟩ := htl
      have hfl : 2 ≤ d.kids.length := by have h := hsl.1; have h2 := hsl.2.1; have e := h8; simp at e; first | (have := h (.inl e); omega) | (have := h (.inr (.inl e)); omega) | (have := h2 e; omega)
      have hJs : J bs σ := by rw [hbs]; exact hJ0
      refine aS ?_
      refine ya ?_
      have hfl2 : (2 : Int) ≤ (d.kids.length : Int) := by omega
      refine aR (by simp [go_sem, hb0, hfl2] <;> rfl) ?_
      refine yh (yN 0 [0, 3, 45, 46] (fun p : Nat × Store => [(47, .pv (.int .i64 (p.1 : Int)))]) (fun p => p.2) (fun p => p.1 ≤ (d.kids.drop 2).length ∧ J (bs + p.1) p.2) (fun p => (d.kids.drop 2).length - p.1) (0, σ) (⟨Nat.zero_le _, hJs⟩) ⟨rfl, rfl, by simp [go_sem], by simp [go_sem]⟩ ?_)
      rintro ⟨i3, τ3⟩ ⟨hi3, hJ3⟩
      have hb3 := hbox _ τ3 hJ3
      refine sS ?_
      refine ya (yc (by first | rfl | (simp [go_sem, hb0, hfl2, hb3] <;> rfl)) (fun h9 => ?_) (fun h9 => ?_))
      ·have hlt : i3 < (d.kids.drop 2).length := by simp at h9; simp; omega
       have hxl2 : (d.kids.drop 2).length ≤ d.kids.length := by simp
       obtain ⟨x, hx, hxm⟩ := ym hlt
       obtain ⟨q, hq, hqp, hq2⟩ := htl2 i3 x hx
       have hx3 : d.kids[2 + i3]? = some x := by rw [← hx, List.getElem?_drop]
       have hx4 := hx3
       have hx5 : d.kids[i3 + 2]? = some x := by rw [Nat.add_comm]; exact hx3
       try simp only [Nat.zero_add] at hx4
       have hqp2 := hqp
       simp at hqp2
       have hw4 : IntKind.i64.wrap (i3 : Int) = (i3 : Int) := yO (by omega) (by omega)
       have hw : IntKind.i64.wrap ((i3 : Int) + 1) = (i3 : Int) + 1 := yv (by omega)
       have hw3 : IntKind.i64.wrap ((2 : Int) + (i3 : Int)) = (2 : Int) + (i3 : Int) := yO (by omega) (by omega)
       refine yg (ya (yh (sA (by simp [go_sem, hx3] <;> rfl) ?_)))
       refine sG ?_
       refine aL 6 (by simp [go_sem, hw3] <;> rfl) ?_
       refine Zo rfl rfl rfl (by simp [go_sem] <;> rfl) (hround (bs + i3) τ3 q hq hJ3) (by simp [go_sem] <;> rfl) (by simp [go_sem, hqp2, hq2, ipv]) rfl rfl ?_
       rintro r τ4 (⟨rfl, hJ4⟩ | ⟨rfl, hE⟩)
       ·refine aT 1 ?_
        refine ye (yc (b := false) (by simp [go_sem]) (fun h => ?_) (fun h => ?_))
        ·cases h
        refine yg (aS ?_)
        exact ⟨(i3 + 1, τ4), ⟨by show i3 + 1 ≤ _; omega, hJ4⟩, by show (d.kids.drop 2).length - (i3 + 1) < (d.kids.drop 2).length - i3; omega, rfl, rfl, by simp [go_sem, hw], by simp [go_sem]⟩
       ·refine aT 1 ?_
        refine ye (yc (b := true) (by simp [go_sem]) (fun h => ?_) (fun h => ?_))
        rotate_left
        ·cases h
        refine yd (yi (yf (yf (yi (eR ?_)))))
        first | exact .inr hE | exact .inl (by rw [hs0]; exact hJ0) | exact .inl hJ3
      ·have hke : i3 = (d.kids.drop 2).length := by have e1 := h9; have e2 : (d.kids.drop 2).length = d.kids.length - 2 := List.length_drop; have e3 : i3 ≤ (d.kids.drop 2).length := hi3; simp only [decide_eq_false_iff_not] at e1; rw [e2] at e3 ⊢; omega
       subst hke
       rw [htl1] at hJ3
       refine yp (yj (yj (yl (yz (by simp [go_sem] <;> rfl) (by simp [go_sem]) ?_))))
       first | exact .inr hE | exact .inl (by rw [hs0]; exact hJ0) | exact .inl hJ3
     ·refine ya (aS ?_)
      refine yc (by first | rfl | (simp [go_sem, hb0] <;> rfl)) (fun h10 => ?_) (fun h10 => ?_)
      ·have hk7 : yb d = 7 := by simpa using h10
       have hl3 := hsl.1 (.inr (.inr hk7))
       obtain ⟨x1, hx1, hx1m⟩ := ym (l := d.kids) (k := 1) (by omega)
       have hd1 : d1 d.kids = x1 := yC hx1
       have hxk := D.size_kid_lt hx1m
       have hx1l := D.kids_length_lt x1
       have hrk := hsl.2.2 hk7
       have hrp := fun (i : Nat) (x : D) => yoQ (d := d) (i := i) (x := x) hk7
       rw [hd1] at hrk hrp
       obtain ⟨bs, hbs⟩ : ∃ z : Nat, z = x1.kids.length := ⟨_, rfl⟩
       have htl : z8 d 2 bs := by rw [hbs]; exact hd1 ▸ yoS hk7
       obtain ⟨htl1, htl2⟩ := htl
       have hfl : 2 ≤ d.kids.length := by omega
       refine ya (sA (by simp [go_sem, hb0, hx1] <;> rfl) ?_)
       refine yh (yN 0 [0, 1, 3, 9, 23, 24] (fun p : Nat × Store => [(25, .pv (.int .i64 (p.1 : Int)))]) (fun p => p.2) (fun p => p.1 ≤ x1.kids.length ∧ J p.1 p.2) (fun p => x1.kids.length - p.1) (0, σ) (⟨Nat.zero_le _, hJ0⟩) ⟨rfl, rfl, by simp [go_sem], by simp [go_sem]⟩ ?_)
       rintro ⟨i, τ⟩ ⟨hi, hJ⟩
       have hbi := hbox i τ hJ
       refine sS ?_
       refine ya (yc (by first | rfl | (simp [go_sem, hb0, hx1, hbi] <;> rfl)) (fun h11 => ?_) (fun h11 => ?_))
       ·have hlt : i < x1.kids.length := by simp at h11; omega
        obtain ⟨x, hx, hxm⟩ := ym hlt
        obtain ⟨q, hq, hqp, hq2⟩ := hrp i x hx
        obtain ⟨y2, hy2, hy2m⟩ := ym (l := x.kids) (k := 2) (by rw [hrk x hxm]; decide)
        have hyd : d2 x.kids = y2 := yC hy2
        rw [hyd] at hq2
        have hw : IntKind.i64.wrap ((i : Int) + 1) = (i : Int) + 1 := yv (by omega)
        refine yg (ya (yh (sA (by simp [go_sem, hx] <;> rfl) ?_)))
        refine sG ?_
        refine aL 7 (by simp [go_sem, hy2] <;> rfl) ?_
        refine Zo rfl rfl rfl (by simp [go_sem] <;> rfl) (hround i τ q hq hJ) (by simp [go_sem] <;> rfl) (by simp [go_sem, hqp, hq2, ipv]) rfl rfl ?_
        rintro r τ2 (⟨rfl, hJ2⟩ | ⟨rfl, hE⟩)
        ·refine aT 1 ?_
         refine ye (yc (b := false) (by simp [go_sem]) (fun h => ?_) (fun h => ?_))
         ·cases h
         refine yg (aS ?_)
         exact ⟨(i + 1, τ2), ⟨by show i + 1 ≤ _; omega, hJ2⟩, by show x1.kids.length - (i + 1) < x1.kids.length - i; omega, rfl, rfl, by simp [go_sem, hw], by simp [go_sem]⟩
        ·refine aT 1 ?_
         refine ye (yc (b := true) (by simp [go_sem]) (fun h => ?_) (fun h => ?_))
         rotate_left
         ·cases h
         refine yd (yi (yf (yf (yi (yf (yi (yf (eR ?_))))))))
         first | exact .inr hE | exact .inl (by rw [hs0]; exact hJ0) | exact .inl hJ3
       ·have hke : i = x1.kids.length := by simp at h11; omega
        subst hke
        have hJs : J bs τ := by rw [hbs]; exact hJ
        refine yp (yj (yj (yl (aS ?_))))
        refine ya ?_
        have hfl2 : (2 : Int) ≤ (d.kids.length : Int) := by omega
        refine aR (by simp [go_sem, hbi, hfl2] <;> rfl) ?_
        refine yh (yN 0 [0, 3, 45, 46] (fun p : Nat × Store => [(47, .pv (.int .i64 (p.1 : Int)))]) (fun p => p.2) (fun p => p.1 ≤ (d.kids.drop 2).length ∧ J (bs + p.1) p.2) (fun p => (d.kids.drop 2).length - p.1) (0, τ) (⟨Nat.zero_le _, hJs⟩) ⟨rfl, rfl, by simp [go_sem], by simp [go_sem]⟩ ?_)
        rintro ⟨i3, τ3⟩ ⟨hi3, hJ3⟩
        have hb3 := hbox _ τ3 hJ3
        refine sS ?_
        refine ya (yc (by first | rfl | (simp [go_sem, hb0, hx1, hbi, hfl2, hb3] <;> rfl)) (fun h12 => ?_) (fun h12 => ?_))
        ·have hlt : i3 < (d.kids.drop 2).length := by simp at h12; simp; omega
         have hxl2 : (d.kids.drop 2).length ≤ d.kids.length := by simp
         obtain ⟨x, hx, hxm⟩ := ym hlt
         obtain ⟨q, hq, hqp, hq2⟩ := htl2 i3 x hx
         have hx3 : d.kids[2 + i3]? = some x := by rw [← hx, List.getElem?_drop]
         have hx4 := hx3
         have hx5 : d.kids[i3 + 2]? = some x := by rw [Nat.add_comm]; exact hx3
         try simp only [Nat.zero_add] at hx4
         have hqp2 := hqp
         simp at hqp2
         have hw4 : IntKind.i64.wrap (i3 : Int) = (i3 : Int) := yO (by omega) (by omega)
         have hw : IntKind.i64.wrap ((i3 : Int) + 1) = (i3 : Int) + 1 := yv (by omega)
         have hw3 : IntKind.i64.wrap ((2 : Int) + (i3 : Int)) = (2 : Int) + (i3 : Int) := yO (by omega) (by omega)
         refine yg (ya (yh (sA (by simp [go_sem, hx3] <;> rfl) ?_)))
         refine sG ?_
         refine aL 6 (by simp [go_sem, hw3] <;> rfl) ?_
         refine Zo rfl rfl rfl (by simp [go_sem] <;> rfl) (hround (bs + i3) τ3 q hq hJ3) (by simp [go_sem] <;> rfl) (by simp [go_sem, hqp2, hq2, ipv]) rfl rfl ?_
         rintro r τ4 (⟨rfl, hJ4⟩ | ⟨rfl, hE⟩)
         ·refine aT 1 ?_
          refine ye (yc (b := false) (by simp [go_sem]) (fun h => ?_) (fun h => ?_))
          ·cases h
          refine yg (aS ?_)
          exact ⟨(i3 + 1, τ4), ⟨by show i3 + 1 ≤ _; omega, hJ4⟩, by show (d.kids.drop 2).length - (i3 + 1) < (d.kids.drop 2).length - i3; omega, rfl, rfl, by simp [go_sem, hw], by simp [go_sem]⟩
         ·refine aT 1 ?_
          refine ye (yc (b := true) (by simp [go_sem]) (fun h => ?_) (fun h => ?_))
          rotate_left
          ·cases h
          refine yd (yi (yf (yf (yi (eR ?_)))))
          first | exact .inr hE | exact .inl (by rw [hs0]; exact hJ0) | exact .inl hJ3
        ·have hke : i3 = (d.kids.drop 2).length := by have e1 := h12; have e2 : (d.kids.drop 2).length = d.kids.length - 2 := List.length_drop; have e3 : i3 ≤ (d.kids.drop 2).length := hi3; simp only [decide_eq_false_iff_not] at e1; rw [e2] at e3 ⊢; omega
         subst hke
         rw [htl1] at hJ3
         refine yp (yj (yj (yl (yz (by simp [go_sem] <;> rfl) (by simp [go_sem]) ?_))))
         first | exact .inr hE | exact .inl (by rw [hs0]; exact hJ0) | exact .inl hJ3
      ·refine ya (aS ?_)
       refine yc (by first | rfl | (simp [go_sem, hb0] <;> rfl)) (fun h13 => ?_) (fun h13 => ?_)
       ·obtain ⟨bs, hbs⟩ : ∃ z : Nat, z = 0 := ⟨_, rfl⟩
        have htl : z8 d 0 bs := by rw [hbs]; exact yo4 (by simpa using h13 : yb d = 10)
        obtain ⟨htl1, htl2⟩ := htl
        have hfl : 0 ≤ d.kids.length := Nat.zero_le _
        have hJs : J bs σ := by rw [hbs]; exact hJ0
        refine yg (ya ?_)
        have hfl2 : (0 : Int) ≤ (d.kids.length : Int) := by omega
        refine aR (by simp [go_sem, hb0, hfl2] <;> rfl) ?_
        refine yh (yN 0 [0, 3, 45, 46] (fun p : Nat × Store => [(47, .pv (.int .i64 (p.1 : Int)))]) (fun p => p.2) (fun p => p.1 ≤ (d.kids.drop 0).length ∧ J (bs + p.1) p.2) (fun p => (d.kids.drop 0).length - p.1) (0, σ) (⟨Nat.zero_le _, hJs⟩) ⟨rfl, rfl, by simp [go_sem], by simp [go_sem]⟩ ?_)
        rintro ⟨i3, τ3⟩ ⟨hi3, hJ3⟩
        have hb3 := hbox _ τ3 hJ3
        refine sS ?_
        refine ya (yc (by first | rfl | (simp [go_sem, hb0, hfl2, hb3] <;> rfl)) (fun h14 => ?_) (fun h14 => ?_))
        ·have hlt : i3 < (d.kids.drop 0).length := by simp at h14; simp; omega
         have hxl2 : (d.kids.drop 0).length ≤ d.kids.length := by simp
         obtain ⟨x, hx, hxm⟩ := ym hlt
         obtain ⟨q, hq, hqp, hq2⟩ := htl2 i3 x hx
         have hx3 : d.kids[0 + i3]? = some x := by rw [← hx, List.getElem?_drop]
         have hx4 := hx3
         have hx5 : d.kids[i3 + 0]? = some x := by rw [Nat.add_comm]; exact hx3
         try simp only [Nat.zero_add] at hx4
         have hqp2 := hqp
         simp at hqp2
         have hw4 : IntKind.i64.wrap (i3 : Int) = (i3 : Int) := yO (by omega) (by omega)
         have hw : IntKind.i64.wrap ((i3 : Int) + 1) = (i3 : Int) + 1 := yv (by omega)
         have hw3 : IntKind.i64.wrap ((0 : Int) + (i3 : Int)) = (0 : Int) + (i3 : Int) := yO (by omega) (by omega)
         refine yg (ya (yh (sA (by simp [go_sem, hx4] <;> rfl) ?_)))
         refine sG ?_
         refine aL 6 (by simp [go_sem, hw4] <;> rfl) ?_
         refine Zo rfl rfl rfl (by simp [go_sem] <;> rfl) (hround (bs + i3) τ3 q hq hJ3) (by simp [go_sem] <;> rfl) (by simp [go_sem, hqp2, hq2, ipv]) rfl rfl ?_
         rintro r τ4 (⟨rfl, hJ4⟩ | ⟨rfl, hE⟩)
         ·refine aT 1 ?_
          refine ye (yc (b := false) (by simp [go_sem]) (fun h => ?_) (fun h => ?_))
          ·cases h
          refine yg (aS ?_)
          exact ⟨(i3 + 1, τ4), ⟨by show i3 + 1 ≤ _; omega, hJ4⟩, by show (d.kids.drop 0).length - (i3 + 1) < (d.kids.drop 0).length - i3; omega, rfl, rfl, by simp [go_sem, hw], by simp [go_sem]⟩
         ·refine aT 1 ?_
          refine ye (yc (b := true) (by simp [go_sem]) (fun h => ?_) (fun h => ?_))
          rotate_left
          ·cases h
          refine yd (yi (yf (yf (yi (eR ?_)))))
          first | exact .inr hE | exact .inl (by rw [hs0]; exact hJ0) | exact .inl hJ3
        ·have hke : i3 = (d.kids.drop 0).length := by have e1 := h14; have e2 : (d.kids.drop 0).length = d.kids.length - 0 := List.length_drop; have e3 : i3 ≤ (d.kids.drop 0).length := hi3; simp only [decide_eq_false_iff_not] at e1; rw [e2] at e3 ⊢; omega
         subst hke
         rw [htl1] at hJ3
         refine yp (yj (yj (yl (yz (by simp [go_sem] <;> rfl) (by simp [go_sem]) ?_))))
         first | exact .inr hE | exact .inl (by rw [hs0]; exact hJ0) | exact .inl hJ3
       ·have hs0 : subs d = [] := Yb (by have h := Go.Aw.shape d; cases h <;> simp_all)
        refine yd (yi (yf (eR ?_)))
        first | exact .inr hE | exact .inl (by rw [hs0]; exact hJ0) | exact .inl hJ3

end Go.Proofs.YtigideidmcmfbaaGreatDoor

namespace Go.Proofs.YtigideidmcmfbaaGreatDoor
open Go Go.Aw
variable {kr : KR}
set_option maxHeartbeats 1000000 in
theorem ylO (p : List Int) (hp : p.length ≤ 1000000000) : Pur Tryz.prog (GL kr) 108 [.pv (.slice [.slice (ipv p), .nils])] (.pv (.slice (ipv p))) := by
 have hw0 : IntKind.i64.wrap (p.length : Int) = (p.length : Int) := yO (by omega) (by omega)
 have hw1 : IntKind.i64.wrap 1 = 1 := by decide
 have hw2 : IntKind.i64.wrap 2 = 2 := by decide
 have hlp := yA p
 have hb8 : p.length * 8 ≤ 140737488355328 := by omega
 refine yB fun σ hgl => ?_
 refine yk tyOk Tryz.func108 rfl (by simp [Tryz.f108]) ?_
 refine sS ?_
 refine sS ?_
 refine ya (sS ?_)
 refine yh (YG (za ?_))
 refine sS ?_
 refine ya (yc (b := true) (by simp [go_sem]) (fun h => ?_) (fun h => ?_))
 rotate_left
 ·cases h
 refine yg (ya (yh (sS ?_)))
 refine sA (by simp [go_sem, hw0, hlp] <;> rfl) ?_
 refine sS ?_
 refine yc (by first | rfl | (simp [go_sem, hw0, hw1, hw2, hlp, hb8] <;> rfl)) (fun h0 => ?_) (fun h0 => ?_)
 ·exfalso; have h := h0; simp at h; omega
 ·refine yg (aR (by simp [go_sem, hw1] <;> rfl) ?_)
  refine za ?_
  refine sS ?_
  refine ya (yc (b := true) (by simp [go_sem]) (fun h => ?_) (fun h => ?_))
  rotate_left
  ·cases h
  refine yg (ya (yh (sS ?_)))
  refine sA (by simp [go_sem, hw0] <;> rfl) ?_
  refine sS ?_
  refine yc (by first | rfl | (simp [go_sem, hw0, hw1, hw2, hlp, hb8] <;> rfl)) (fun h1 => ?_) (fun h1 => ?_)
  ·exfalso; have h := h1; simp at h; omega
  ·refine yg (aR (by simp [go_sem, hw2] <;> rfl) ?_)
   refine za ?_
   refine sS ?_
   refine ya (yc (b := false) (by simp [go_sem]) (fun h => ?_) (fun h => ?_))
   ·cases h
   refine yp (yj (yj (yl (sG ?_))))
   refine aT 1 ?_
   refine yy rfl rfl rfl (by simp [go_sem] <;> rfl) ygq (yiZ p.length (by omega) σ) (by simp [go_sem] <;> rfl) (by simp [go_sem]) rfl rfl ?_
   rintro r σ' ⟨rfl, rfl⟩
   refine aT 1 ?_
   refine ye (ya (sS ?_))
   refine yh (YG (za ?_))
   refine sS ?_
   refine ya (yc (b := true) (by simp [go_sem]) (fun h => ?_) (fun h => ?_))
   rotate_left
   ·cases h
   refine yg (ya (yh (sS ?_)))
   refine aR (by simp [go_sem, hlp, hb8] <;> rfl) ?_
   refine aR (by simp [go_sem, hw1] <;> rfl) ?_
   refine za ?_
   refine sS ?_
   refine ya (yc (b := true) (by simp [go_sem]) (fun h => ?_) (fun h => ?_))
   rotate_left
   ·cases h
   refine yg (ya (yh (sS ?_)))
   refine aR (by simp [go_sem, hlp, hb8] <;> rfl) ?_
   refine aR (by simp [go_sem, hw2] <;> rfl) ?_
   refine za ?_
   refine sS ?_
   refine ya (yc (b := false) (by simp [go_sem]) (fun h => ?_) (fun h => ?_))
   ·cases h
   refine yp (yj (yj (yl (sS ?_))))
   refine yd (eR ?_)
   exact ⟨by simp [go_sem], by simp [go_sem]⟩

theorem ynA (q p : List Int) (hq : q.length ≤ 100000000) (hp : p.length ≤ 400000000) : Pur Tryz.prog (GL kr) 108 [.pv (.slice [.slice (ipv q), wPV p])] (.pv (.slice (ipv (q ++ p)))) := by
  by_cases h : p = []
  · subst h
    rw [List.append_nil]
    exact ylO q (by omega)
  · have e : wPV p = .slice (ipv p) := by unfold wPV; rw [if_neg h]; rfl
    have hf : q ++ p = [q, p].flatten := by simp
    rw [e, hf]
    exact yio [q, p] (by simp) (by simp; omega)
structure WrSt (σ : Store) (cs cs1 : List AV) (l : Nat) (st : LoopState) (pe : Option Code) (τ : Store) : Prop where
  gl : τ.gl = σ.gl
  toks : τ.toks = σ.toks
  low : τ.objs.take σ.objs.length = σ.objs
  b0 : τ.objs[σ.objs.length]? = some (.box cs)
  b1 : τ.objs[σ.objs.length + 1]? = some (.box cs1)
  loop : ∃ T N ps asg body, τ.objs[σ.objs.length + 3]? = some (.loop l st pe T N ps asg body)

set_option maxHeartbeats 1000000 in
theorem yqw (d : D) : ∀ (hd : d.size ≤ 100000000) (σ : Store) (hgl : σ.gl = (GL kr)), zJ Tryz.prog σ 67 [.pv (enc d)] (.tuple [.pv (wpath d), .pv (.bool (!Zs d))]) := by
 induction d using D.indS with
 | _ d ih =>
 intro hd σ hgl
 refine Y1 ?_
 refine yk tyOk Tryz.func67 rfl (by simp [Tryz.f67]) ?_
 refine ya (yD (sh := [2, 3]) tyOk (by simp [go_sem] <;> rfl) ?_)
 refine ya (sG ?_)
 refine aT 1 ?_
 refine aG yaJ ((yaI d (by omega)) _ (by exact hgl)) ?_
 refine aT 1 ?_
 refine ye (aC (fun h0 => ?_) (fun h0 => ?_))
 ·have hk0 : yb d = 0 := by simpa using h0
  refine sS ?_
  refine yd (yf ?_)
  have hM : swr d = some [] := by rw [yb8, if_pos (by simpa using hk0)]
  refine eR ?_
  exact ⟨by simp [go_sem, (ZK hM).1, (ZK hM).2, wPV], by simp [go_sem]⟩
 ·have hk0 : yb d ≠ 0 := by simpa using h0
  refine yg (ya (sG ?_))
  refine aT 1 ?_
  refine yy rfl rfl rfl (by simp [go_sem] <;> rfl) yca (yaO d _) (by simp [go_sem] <;> rfl) (by simp [go_sem]) rfl rfl ?_
  rintro r σ' ⟨rfl, rfl⟩
  refine ye (yh (Y9 [2, 3] (by simp [go_sem] <;> rfl) ycb (by simp [go_sem]) (by simp [go_sem, YH]) (by decide) fun l => ?_))
  refine Z6 ?_
  intro ST hST
  simp only [go_sem, YH, List.map_cons, List.map_nil, List.append_assoc, List.cons_append, List.nil_append] at hST
  have hb0 : ST.objs[σ.objs.length]? = some (.box [.pv .nils]) := by rw [hST]; simp [go_sem]
  have hb1 : ST.objs[σ.objs.length + 1]? = some (.box [.pv (.bool false)]) := by rw [hST]; simp [go_sem]
  have hb2 : ST.objs[σ.objs.length + 2]? = some (.box [.pv (.int .i64 d.kind), .pv (.int .i64 d.num), .pv (.str d.text), .pv (.slice (d.kids.map enc))]) := by rw [hST]; simp [go_sem]
  have hglS : ST.gl = σ.gl := by rw [hST]
  have hts : ST.toks = σ.toks := by rw [hST]
  have hlow : ST.objs.take σ.objs.length = σ.objs := by rw [hST]; simp [go_sem]
  have hlen : ST.objs.length = σ.objs.length + 4 := by rw [hST]; simp [go_sem]
  obtain ⟨T0, ps0, as0, bd0, hL⟩ : ∃ T0 ps0 as0 bd0, ST.objs[σ.objs.length + 3]? = some (.loop l .ready none T0 25 ps0 as0 bd0) := ⟨_, _, _, _, by rw [hST]; exact ycU⟩
  have hround : ∀ (i : Nat) (τ : Store) (q : Sub × D), (subs d)[i]? = some q → (τ = ST ∧ NoWr d i) → ACallsY Tryz.prog l [.pv (.slice (ipv q.1.p)), .pv (enc q.2)] τ fun r τ' => (r = .pv (.bool true) ∧ τ' = ST ∧ NoWr d (i + 1)) ∨ (r = .pv (.bool false) ∧ ∃ p : List Int, swr d = some p ∧ 1 ≤ p.length ∧ WrSt σ [.pv (.slice (ipv p))] [.pv (.bool true)] l .done (some .ret) τ') := by
   rintro i τ q hq ⟨hτ, hno⟩
   rw [hτ]
   have hqm : q ∈ subs d := List.mem_of_getElem? hq
   have hqs := Ys hqm
   have hqp := Yc hqm
   refine Z7 (o := σ.objs.length + 3) (by rw [hST]; exact ycU) rfl rfl ?_
   refine sS ?_
   refine aS ?_
   refine ⟨_, _, _, _, _, _, Eq.trans (b := some (.loop l .ready none T0 25 ps0 as0 bd0)) (by simp [go_sem, hL]) rfl, ?_⟩
   refine yh (sG ?_)
   refine aT 1 ?_
   refine aG ym5 (ih q hqm (by omega) _ (by exact hglS.trans hgl)) ?_
   refine aT 5 ?_
   refine ye (sS ?_)
   refine yc (by first | rfl | (simp [go_sem, hb0, hb1, hL, set_ne, Zn, Yo] <;> rfl)) (fun h1 => ?_) (fun h1 => ?_)
   ·obtain ⟨p2, hp2⟩ : ∃ p2, swr q.2 = some p2 := ylD (by simpa using h1)
    have hwp : wpath q.2 = wPV p2 := (ZK hp2).1
    have hpl := yko _ _ hp2
    have hcl := Zi p2
    have hcn := ycg p2
    unfold PV.nrm at hcn
    refine sG ?_
    refine aL 3 (by simp [go_sem, hwp, hcl, hcn] <;> rfl) ?_
    refine aG ykg ((ynA q.1.p p2 (by omega) (by omega)) _ (by exact hglS.trans hgl)) ?_
    refine aL 2 (by simp [go_sem, hb0, hb1] <;> rfl) ?_
    refine ye (yd (yi (⟨_, _, _, _, _, _, Eq.trans (b := some (.loop l .busy none T0 25 ps0 as0 bd0)) (by simp [go_sem, hL, Zn]) rfl, ?_⟩)))
    refine .inr ⟨rfl, q.1.p ++ p2, hno.found hk0 hq hp2, by rw [List.length_append]; omega, ?_⟩
    refine ⟨?_, ?_, ?_, ?_, ?_, ?_⟩
    · exact hglS
    · exact hts
    · simp [Store.rec_, go_sem, yax, hlow]
    · simp [Store.rec_, go_sem, Zn, hb0]
    · simp [Store.rec_, go_sem, Zn, hb1]
    · exact ⟨T0, 25, ps0, as0, bd0, by simp [Store.rec_, go_sem, Zn, hL]⟩
   ·refine yg (⟨_, _, _, _, _, _, Eq.trans (b := some (.loop l .busy none T0 25 ps0 as0 bd0)) (by simp [go_sem, hL, Zn]) rfl, ?_⟩)
    refine .inl ⟨rfl, ?_, hno.succ hq (ylB (by simpa using h1))⟩
    simp only [Store.rec_, List.set_set]
    rw [yii hL]
  refine (ACalls.args (yaK d (by omega) (σ.objs.length + 2) l (fun i τ => τ = ST ∧ NoWr d i) (fun τ => ∃ p : List Int, swr d = some p ∧ 1 ≤ p.length ∧ WrSt σ [.pv (.slice (ipv p))] [.pv (.bool true)] l .done (some .ret) τ) (fun i τ h => by rw [h.1]; exact hglS.trans hgl) (fun i τ h => by rw [h.1]; exact hb2) hround ST ⟨rfl, .zero⟩) (by simp [go_sem])).mono ?_
  rintro _ τ' (⟨hτ, hno⟩ | ⟨p, hp, hp1, hgl2, htk2, hlo2, hc0, hc1, T1, N1, ps1, as1, bd1, hc3⟩)
  ·rw [hτ]
   have hln := hno.all hk0
   refine ⟨_, _, _, _, _, _, _, Eq.trans (b := some (.loop l .ready none T0 25 ps0 as0 bd0)) (by simp [go_sem, hL]) rfl, by decide, ?_⟩
   refine sA (by simp [go_sem, hb0, hb1] <;> rfl) ?_
   refine yd (ybe (by simp [go_sem, hb0, hb1, Zn] <;> rfl) (by simp [go_sem]) ?_)
   exact ⟨by simp [go_sem, (ygw hln).1, (ygw hln).2], by simp [go_sem, yax, hlow, hts, hglS]⟩
  ·refine ⟨_, _, _, _, _, _, _, Eq.trans (b := some (.loop l .done (some .ret) T1 N1 ps1 as1 bd1)) (by simp [go_sem, hc3]) rfl, by decide, ?_⟩
   refine yd (yi (yf ?_))
   have hpw : wPV p = .slice (ipv p) := by unfold wPV; rw [if_neg (by intro e; rw [e] at hp1; simp at hp1)]; rfl
   refine ybe (by simp [go_sem, hc0, hc1] <;> rfl) (by simp [go_sem]) ?_
   exact ⟨by simp [go_sem, (ZK hp).1, (ZK hp).2, hpw], by simp [go_sem, yax, hlo2, htk2, hgl2]⟩

def schk (d : D) : PV × Int := if (dcheck d != 0) = true then (.nils, dcheck d) else if (!Zs d) = true then (wpath d, 4) else (.nils, 0)
def sis (d : D) : Int := (schk d).2

set_option maxHeartbeats 1000000 in
theorem yn8 (d : D) (hd : d.size ≤ 100000000) : Pur Tryz.prog (GL kr) 29 [.pv (enc d)] (.tuple [.pv (schk d).1, .pv (.int .i64 (schk d).2)]) := by
 refine yB fun σ hgl => ?_
 refine yk tyOk Tryz.func29 rfl (by simp [Tryz.f29]) ?_
 refine sS ?_
 refine ya (sG ?_)
 refine aT 1 ?_
 refine aG ym7 ((ydn d (by omega)) _ (by exact hgl)) ?_
 refine aT 1 ?_
 refine ye (sS ?_)
 refine aC (fun h0 => ?_) (fun h0 => ?_)
 ·refine ya (aS ?_)
  refine yd (yf (eR ?_))
  exact ⟨by simp only [schk, h0, if_true]; simp [go_sem], by simp [go_sem]⟩
 ·refine yg (ya (sG ?_))
  refine aT 1 ?_
  refine aG ym5 (yqw d hd _ (by exact hgl)) ?_
  refine aT 5 ?_
  refine ye (sS ?_)
  refine aC (fun h1 => ?_) (fun h1 => ?_)
  ·refine ya (aS ?_)
   refine yd (yf (eR ?_))
   exact ⟨by simp only [schk, h0, h1, Bool.false_eq_true, if_true, if_false]; simp [go_sem], by simp [go_sem]⟩
  ·refine yg (sS ?_)
   refine yd (eR ?_)
   exact ⟨by simp only [schk, h0, h1, Bool.false_eq_true, if_false]; simp [go_sem], by simp [go_sem]⟩

set_option maxHeartbeats 1000000 in
theorem yfM (d : D) (hd : d.size ≤ 100000000) : Pur Tryz.prog (GL kr) 44 [.pv (enc d)] (.pv (.int .i64 (sis d))) := by
 refine yB fun σ hgl => ?_
 refine yk tyOk Tryz.func44 rfl (by simp [Tryz.f44]) ?_
 refine sS ?_
 refine sG ?_
 refine aT 1 ?_
 refine aG yqR ((yn8 d hd) _ (by exact hgl)) ?_
 refine aT 5 ?_
 refine ye (sS ?_)
 refine yd (eR ?_)
 exact ⟨by simp only [sis]; simp [go_sem], by simp [go_sem]⟩

end Go.Proofs.YtigideidmcmfbaaGreatDoor

namespace Go.Proofs.YtigideidmcmfbaaGreatDoor
open Go Go.Aw
variable {kr : KR}
set_option maxHeartbeats 1000000 in
theorem c_of (l : List ByteArray) (x : ByteArray) : Pur Tryz.prog (GL kr) 156 [.pv (zO l), .pv (.str x)] (.tuple [.pv (.bool false), .pv (.bool (memB l x))]) := by
 have h0l : zO l = zO (l.drop 0) := rfl
 refine yB fun σ hgl => ?_
 refine yk tyOk Tryz.func156 rfl (by simp [Tryz.f156]) ?_
 refine sS ?_
 refine ya (yh (yq σ.objs.length σ.toks.length 0 [1, 4, 5] (fun k : Nat => [(0, .pv (zO (l.drop k)))]) (fun k => σ) (fun k => k ≤ l.length ∧ NotYet (fun y => decide (y = x)) l k) (fun k => l.length - k) 0 (⟨Nat.zero_le _, .zero⟩) ⟨by simp [go_sem, List.drop_zero], rfl, by simp, by simp, by simp [go_sem, List.drop_zero], fun ob h => .inl (by simpa [go_sem, List.drop_zero] using h), by simp [go_sem]⟩ ?_))
 rintro k ⟨hk, hn⟩
 refine ya (sG ?_)
 refine aT 1 ?_
 refine ycR tyOk (decide (k < l.length)) rfl rfl rfl rfl (yoY l k) rfl rfl ?_
 refine ye (aC (fun h0 => ?_) (fun h0 => ?_))
 ·have hlt : k < l.length := by simpa using h0
  obtain ⟨y, hy, hym⟩ := ym hlt
  have hyc := yiQ hy
  refine yg (ya (yh (sA (by simp [go_sem, hyc] <;> rfl) ?_)))
  refine yc (by first | rfl | (simp [go_sem, hyc] <;> rfl)) (fun h1 => ?_) (fun h1 => ?_)
  ·refine ya (aS ?_)
   refine yd (yi (yf (yf (yi (yf ?_)))))
   have hM : memB l x = true := by rw [ye1]; exact List.any_eq_true.2 ⟨y, hym, h1⟩
   refine eR ?_
   exact ⟨by simp [go_sem, hM], by simp [go_sem]⟩
  ·refine yg (aS ?_)
   exact yx (k + 1) σ.objs.length σ.toks.length 0 (⟨hlt, hn.succ hy h1⟩) (by omega) ⟨by simp [go_sem], rfl, by simp, by simp, by simp [go_sem], fun ob h => .inl (by simpa [go_sem, hyc] using h), by simp [go_sem]⟩
 ·have hke : k = l.length := by simp at h0; omega
  subst hke
  have hany := hn.any
  refine yp (yj (yj (yl (sS ?_))))
  refine sS ?_
  refine yd ?_
  have hM : memB l x = false := by rw [ye1]; exact hany
  refine eR ?_
  exact ⟨by simp [go_sem, hM], by simp [go_sem]⟩

set_option maxHeartbeats 1000000 in
theorem ybk (l ns : List ByteArray) (hn : ns.length ≤ 1000000000) : Pur Tryz.prog (GL kr) 157 [.pv (zO l), .pv (.slice (ns.map .str)), .full (List.replicate ns.length (.bool false))] (.pv (zO (ns.reverse ++ l))) := by
 refine yB fun σ hgl => ?_
 refine yk tyOk Tryz.func157 rfl (by simp [Tryz.f157]) ?_
 refine sS ?_
 refine ya (sS ?_)
 refine yh (yq σ.objs.length σ.toks.length 0 [2, 6, 9, 10] (fun k : Nat => [(0, .pv (zO ((ns.take k).reverse ++ l))), (11, .pv (.int .i64 ↑k))]) (fun k => σ) (fun k => k ≤ ns.length) (fun k => ns.length - k) 0 (Nat.zero_le _) ⟨by simp [go_sem], rfl, by simp, by simp, by simp [go_sem], fun ob h => .inl (by simpa [go_sem] using h), by simp [go_sem]⟩ ?_)
 intro k hk
 refine sS ?_
 refine ya (aC (fun h0 => ?_) (fun h0 => ?_))
 ·have hlt : k < ns.length := by simp at h0; omega
  have hw : IntKind.i64.wrap (↑k + 1) = (k : Int) + 1 := yv (by omega)
  obtain ⟨x, hx, hxm⟩ := ym hlt
  have hrg : (List.replicate ns.length (PV.bool false))[k]? = some (PV.bool false) := yqG hlt
  refine yg (ya (yh (sA (by simp [go_sem, hx] <;> rfl) ?_)))
  refine yD (sh := [23]) tyOk (by simp [go_sem, hrg] <;> rfl) ?_
  have hob : (⟨σ.gl, σ.objs ++ [.box [.pv (.str x), .pv (.bool false), .pv (zO ((ns.take k).reverse ++ l))]], σ.toks⟩ : Store).objs[σ.objs.length]? = some (.box (([.str x, .bool false, zO ((ns.take k).reverse ++ l)] : List PV).map .pv)) := by simp
  refine ybi 0 [2, 6, 9, 10, 11] σ (ob := σ.objs.length) (ps := [.str x, .bool false, zO ((ns.take k).reverse ++ l)]) (by simp [go_sem]) (by simp [go_sem]) (by simp [go_sem]) (Nat.le_refl _) (Nat.le_refl _) (by simp [go_sem]) (fun ob h => .inl h) (by simp [go_sem]) ?_
  rw [ylk hx]
  refine aS ?_
  exact yx (k + 1) σ.objs.length σ.toks.length 0 (hlt) (by omega) ⟨by simp [go_sem], rfl, by simp, by simp, by simp [go_sem, hw], fun ob h => .inl (by simpa [go_sem, hx, hrg, hw] using h), by simp [go_sem]⟩
 ·have hke : k = ns.length := by simp at h0; omega
  subst hke
  refine yp (yj (yj (yl (sS ?_))))
  refine yd (eR ?_)
  exact ⟨by simp [go_sem], by simp [go_sem]⟩

set_option maxHeartbeats 1000000 in
theorem ycl (d : D) (p : AV) (ns : List ByteArray) (hn : ns.length ≤ 1000000000) (n : Int) : Pur Tryz.prog (GL kr) 119 [.pv (enc d), p, .pv (.slice (ns.map .str)), .pv (.int .i64 n)] (.full (List.replicate ns.length (.bool false))) := by
 refine yB fun σ hgl => ?_
 refine yk tyOk Tryz.func119 rfl (by simp [Tryz.f119]) ?_
 refine sS ?_
 refine sG ?_
 refine aT 2 ?_
 refine yh7 tyOk (n := ns.length) (p := .bool false) rfl rfl rfl rfl rfl rfl rfl (by simp [go_sem]) (by simp [go_sem]) (by decide) hn rfl ?_
 refine aT 1 ?_
 refine ye (yd (eR ?_))
 exact ⟨by simp [go_sem], by simp [go_sem]⟩

set_option maxHeartbeats 1000000 in
theorem yqo (d : D) (p : AV) (v b : Bool) (S : List ByteArray) (ob om : Nat) (σ : Store) (hgl : σ.gl = (GL kr)) (hb : σ.objs[ob]? = some (.box [.map om])) (hm : σ.objs[om]? = some (.map (tK S) (tV S))) : ACalls Tryz.prog 120 [.pv (enc d), p, .pv (.bool v), .pv (.bool b), .ptr ob 0] σ (fun r σ' => r = .tuple [] ∧ σ' = setS σ om (if b = true then S else addS S d.text)) := by
 have hpk := fun (s : St) (x : ByteArray) (ho : s.σ.objs[om]? = some (.map (tK S) (tV S))) => yck (ty := ty) (s := s) (t := 78) (o := om) rfl rfl rfl rfl ho x
 refine yk tyOk Tryz.func120 rfl (by simp [Tryz.f120]) ?_
 refine sS ?_
 refine sS ?_
 refine yc (by first | rfl | (simp [go_sem, hb, hm, hpk] <;> rfl)) (fun h0 => ?_) (fun h0 => ?_)
 ·refine aR (by simp [go_sem, hb, hm, hpk] <;> rfl) ?_
  refine yz (by simp [go_sem] <;> rfl) (by simp [go_sem]) ?_
  have hbf : b = false := by simpa using h0
  exact ⟨by simp [go_sem], by rw [hbf]; simp [go_sem]⟩
 ·refine yg (yz (by simp [go_sem] <;> rfl) (by simp [go_sem]) ?_)
  have hbt : b = true := by simpa using h0
  exact ⟨by simp [go_sem], by rw [hbt, if_pos rfl, ybF hm]; try simp [go_sem]⟩

end Go.Proofs.YtigideidmcmfbaaGreatDoor

namespace Go.Proofs.YtigideidmcmfbaaGreatDoor
open Go Go.Aw
variable {kr : KR}
set_option maxHeartbeats 1000000 in
theorem ymY (p : List Int) (hp : p.length ≤ 1000000000) : Pur Tryz.prog (GL kr) 108 [.pv (.slice [.nils, .slice (ipv p)])] (.pv (.slice (ipv p))) := by
 have hw0 : IntKind.i64.wrap (p.length : Int) = (p.length : Int) := yO (by omega) (by omega)
 have hw1 : IntKind.i64.wrap 1 = 1 := by decide
 have hw2 : IntKind.i64.wrap 2 = 2 := by decide
 have hw00 : IntKind.i64.wrap 0 = 0 := by decide
 have hlp := yA p
 have hb8 : p.length * 8 ≤ 140737488355328 := by omega
 refine yB fun σ hgl => ?_
 refine yk tyOk Tryz.func108 rfl (by simp [Tryz.f108]) ?_
 refine sS ?_
 refine sS ?_
 refine ya (sS ?_)
 refine yh (YG (za ?_))
 refine sS ?_
 refine ya (yc (b := true) (by simp [go_sem]) (fun h => ?_) (fun h => ?_))
 rotate_left
 ·cases h
 refine yg (ya (yh (sS ?_)))
 refine sA (by simp [go_sem, hw00] <;> rfl) ?_
 refine sS ?_
 refine yc (by first | rfl | (simp [go_sem, hw0, hw1, hw2, hlp, hb8, hw00, Int.zero_add] <;> rfl)) (fun h0 => ?_) (fun h0 => ?_)
 ·exfalso; first | (have h := h0; simp at h; done) | (have h := h0; simp [hw00, hw0] at h; omega)
 ·refine yg (aR (by simp [go_sem, hw1, Int.zero_add] <;> rfl) ?_)
  refine za ?_
  refine sS ?_
  refine ya (yc (b := true) (by simp [go_sem]) (fun h => ?_) (fun h => ?_))
  rotate_left
  ·cases h
  refine yg (ya (yh (sS ?_)))
  refine sA (by simp [go_sem, hw0, hlp, Int.zero_add] <;> rfl) ?_
  refine sS ?_
  refine yc (by first | rfl | (simp [go_sem, hw0, hw1, hw2, hlp, hb8, hw00, Int.zero_add] <;> rfl)) (fun h1 => ?_) (fun h1 => ?_)
  ·exfalso; first | (have h := h1; simp at h; done) | (have h := h1; simp at h; omega)
  ·refine yg (aR (by simp [go_sem, hw2] <;> rfl) ?_)
   refine za ?_
   refine sS ?_
   refine ya (yc (b := false) (by simp [go_sem]) (fun h => ?_) (fun h => ?_))
   ·cases h
   refine yp (yj (yj (yl (sG ?_))))
   refine aT 1 ?_
   refine yy rfl rfl rfl (by simp [go_sem] <;> rfl) ygq (yiZ p.length (by omega) σ) (by simp [go_sem] <;> rfl) (by simp [go_sem]) rfl rfl ?_
   rintro r σ' ⟨rfl, rfl⟩
   refine aT 1 ?_
   refine ye (ya (sS ?_))
   refine yh (YG (za ?_))
   refine sS ?_
   refine ya (yc (b := true) (by simp [go_sem]) (fun h => ?_) (fun h => ?_))
   rotate_left
   ·cases h
   refine yg (ya (yh (sS ?_)))
   refine aS ?_
   refine aR (by simp [go_sem, hw1, Int.zero_add] <;> rfl) ?_
   refine za ?_
   refine sS ?_
   refine ya (yc (b := true) (by simp [go_sem]) (fun h => ?_) (fun h => ?_))
   rotate_left
   ·cases h
   refine yg (ya (yh (sS ?_)))
   refine aR (by simp [go_sem, hlp, hb8] <;> rfl) ?_
   refine aR (by simp [go_sem, hw2] <;> rfl) ?_
   refine za ?_
   refine sS ?_
   refine ya (yc (b := false) (by simp [go_sem]) (fun h => ?_) (fun h => ?_))
   ·cases h
   refine yp (yj (yj (yl (sS ?_))))
   refine yd (eR ?_)
   exact ⟨by simp [go_sem], by simp [go_sem]⟩

theorem yqb (q p : List Int) (hq : q.length ≤ 400000000) (hp : p.length ≤ 100000000) : Pur Tryz.prog (GL kr) 108 [.pv (.slice [wPV q, .slice (ipv p)])] (.pv (.slice (ipv (q ++ p)))) := by
  by_cases h : q = []
  · subst h
    exact ymY p (by omega)
  · have e : wPV q = .slice (ipv q) := by unfold wPV; rw [if_neg h]; rfl
    have hf : q ++ p = [q, p].flatten := by simp
    rw [e, hf]
    exact yio [q, p] (by simp) (by simp; omega)

set_option maxHeartbeats 1000000 in
theorem y7 (p q : List Int) (hp : p.length ≤ 400000000) (hq : q.length ≤ 100000000) (h1 : 1 ≤ q.length) : Pur Tryz.prog (GL kr) 101 [.pv (wPV p), .pv (.slice (ipv q))] (.pv (wPV (p ++ q))) := by
 have hcl := Zi p
 have hcn := ycg p
 unfold PV.nrm at hcn
 have hpq : wPV (p ++ q) = .slice (ipv (p ++ q)) := by unfold wPV; rw [if_neg (by intro e; rw [List.append_eq_nil_iff] at e; rw [e.2] at h1; simp at h1)]; rfl
 refine yB fun σ hgl => ?_
 refine yk tyOk Tryz.func101 rfl (by simp [Tryz.f101]) ?_
 refine sS ?_
 refine sG ?_
 refine aL 3 (by simp [go_sem, hcl, hcn] <;> rfl) ?_
 refine aG ykg ((yqb p q hp hq) _ (by exact hgl)) ?_
 refine aT 1 ?_
 refine ye (yd (eR ?_))
 exact ⟨by simp [go_sem, hpq], by simp [go_sem]⟩

set_option maxHeartbeats 4000000 in
theorem yrx (d : D) : ∀ (hd : d.size ≤ 100000000) (p : List Int) (hp : p.length + 3 * d.size ≤ 400000000) (sc S : List ByteArray) (σ : Store) (om ob ow : Nat) (hgl : σ.gl = (GL kr)) (hm : σ.objs[om]? = some (.map (tK S) (tV S))) (hb : σ.objs[ob]? = some (.box [.map om])) (hwk : σ.objs[ow]? = some (.box [.func (.func 119) [], .func (.func 120) [.ptr ob 0]])), ACalls Tryz.prog 121 [.ptr ow 0, .pv (enc d), .pv (wPV p), .pv (zO sc)] σ (fun r σ' => r = .tuple [] ∧ σ' = setS σ om (sfree d sc S)) := by
 induction d using D.indS with
 | _ d ih =>
 intro hd p hp sc S σ om ob ow hgl hm hb hwk
 have hol := (List.getElem?_eq_some_iff.1 hm).1
 have hbl := (List.getElem?_eq_some_iff.1 hb).1
 have hwl := (List.getElem?_eq_some_iff.1 hwk).1
 have hne1 : om ≠ ob := by intro e; rw [e, hb] at hm; cases hm
 have hne2 : om ≠ ow := by intro e; rw [e, hwk] at hm; cases hm
 have hAm : ∀ B, (σ.objs ++ B)[om]? = some (.map (tK S) (tV S)) := fun B => by rw [List.getElem?_append_left hol]; exact hm
 have hAb : ∀ B, (σ.objs ++ B)[ob]? = some (.box [.map om]) := fun B => by rw [List.getElem?_append_left hbl]; exact hb
 have hAw : ∀ B, (σ.objs ++ B)[ow]? = some (.box [.func (.func 119) [], .func (.func 120) [.ptr ob 0]]) := fun B => by rw [List.getElem?_append_left hwl]; exact hwk
 have hsb : ∀ X R, (setS X om R).objs[ob]? = X.objs[ob]? := fun X R => zn hne1
 have hsw : ∀ X R, (setS X om R).objs[ow]? = X.objs[ow]? := fun X R => zn hne2
 have hs0 : ∀ X R, (setS X om R).objs[σ.objs.length]? = X.objs[σ.objs.length]? := fun X R => zn (by omega)
 have hs1 : ∀ X R, (setS X om R).objs[σ.objs.length + 1]? = X.objs[σ.objs.length + 1]? := fun X R => zn (by omega)
 have hs2 : ∀ X R, (setS X om R).objs[σ.objs.length + 2]? = X.objs[σ.objs.length + 2]? := fun X R => zn (by omega)
 have hs4 : ∀ X R, (setS X om R).objs[σ.objs.length + 4]? = X.objs[σ.objs.length + 4]? := fun X R => zn (by omega)
 have hXm : ∀ B R, (setS ⟨σ.gl, σ.objs ++ B, σ.toks⟩ om R).objs[om]? = some (.map (tK R) (tV R)) := fun B R => yfj (by simp; omega)
 have hXb : ∀ B R, (setS ⟨σ.gl, σ.objs ++ B, σ.toks⟩ om R).objs[ob]? = some (.box [.map om]) := fun B R => (hsb _ _).trans (hAb B)
 have hXw : ∀ B R, (setS ⟨σ.gl, σ.objs ++ B, σ.toks⟩ om R).objs[ow]? = some (.box [.func (.func 119) [], .func (.func 120) [.ptr ob 0]]) := fun B R => (hsw _ _).trans (hAw B)
 have hwc := yar p
 have hkl := D.kids_length_lt d
 have hsl := yZ d
 have hon := yau d
 refine ynO ?_
 refine yk tyOk Tryz.func121 rfl (by simp [Tryz.f121]) ?_
 refine ya (yD (sh := [4, 6, 7]) tyOk (by simp [go_sem, hwc] <;> rfl) ?_)
 refine sG ?_
 refine aT 1 ?_
 refine aG yaJ ((yaI d (by omega)) _ (by exact hgl)) ?_
 refine ye (yh (sS ?_))
 refine yc (by first | rfl | (simp [go_sem, hAb, hAw, hAm, hsb, hsw, hs0, hs1, hs2, hs4, zm, zf, hwc] <;> rfl)) (fun h0 => ?_) (fun h0 => ?_)
 ·have hk : yb d = 2 := by simpa using h0
  have hfin := ykP (l := sc) (S := S) hk
  refine sG ?_
  refine aT 3 ?_
  refine aG yqn ((c_of sc d.text) _ (by exact hgl)) ?_
  refine aT 5 ?_
  refine ye (yG tyOk tySz 8 (by kernel_rfl) (by decide) ?_)
  refine yo 8 (by simp [go_sem, hAw] <;> rfl) ?_
  refine yF ?_
  refine yy rfl rfl rfl (by simp [go_sem] <;> rfl) ypK (yqo d (.pv (wPV p)) false (memB sc d.text) S ob om _ (by exact hgl) (hAb _) (hAm _)) (by simp [go_sem] <;> rfl) (by simp [go_sem]) rfl rfl ?_
  rintro r σ' ⟨rfl, rfl⟩
  refine ye ?_
  first | (show Go.Aw.Ends ty _ _ Go.Exit.normal _) | (simp only [yu]; done) | simp only [yu] | unfold yu
  refine yz (by first | rfl | (simp [go_sem] <;> rfl)) (by first | rfl | simp [go_sem]) ?_
  exact ⟨rfl, by rw [hfin]; first | exact Yn hol | (show Store.cut (setS (setS _ om _) om _) _ _ = _; rw [zf]; exact Yn hol)⟩
 ·have hk2 : yb d ≠ 2 := by simpa using h0
  refine ya (sS ?_)
  refine yc (by first | rfl | (simp [go_sem, hAb, hAw, hAm, hsb, hsw, hs0, hs1, hs2, hs4, zm, zf, hwc] <;> rfl)) (fun h1 => ?_) (fun h1 => ?_)
  ·have hk : yb d = 5 ∨ yb d = 9 := by first | exact .inl (by simpa using h1) | exact .inr (by simpa using h1)
   have hlen := hsl.1 (by omega)
   obtain ⟨x2, hx2, hx2m⟩ := ym (l := d.kids) (k := 2) (by omega)
   have hd2 : d2 d.kids = x2 := yC hx2
   have hxs := D.size_kid_lt hx2m
   have hq : subs d = [subL d 2 x2] := by rw [← hd2]; exact yU hk
   have hfin : sfree d sc S = sfree x2 ((ownS d).reverse ++ sc) S := by rw [yat, if_neg (by simp; omega), hq]; simp [subL, ya5]
   have ihx := ih (subL d 2 x2) (by rw [hq]; simp)
   simp only [subL] at ihx
   refine yg (yc (b := true) (by simp [go_sem, h1]) (fun h => ?_) (fun h => ?_))
   rotate_left
   ·cases h
   refine sG ?_
   refine aT 1 ?_
   refine aG Yj ((YO d (by omega)) _ (by exact hgl)) ?_
   refine aT 1 ?_
   refine ye (yG tyOk tySz 19 (by kernel_rfl) (by decide) ?_)
   refine yo 7 (by simp [go_sem, hx2] <;> rfl) ?_
   refine yQ (by first | (intro _ _ hh; exact hh) | simp [go_sem]) rfl rfl rfl rfl (by simp [go_sem] <;> rfl) y8 ((y7 p [2] (by omega) (by simp) (by simp)) _ (by exact hgl)) (by simp [go_sem] <;> rfl) (by simp [go_sem, ipv]) rfl rfl ?_
   refine yo 9 (by simp [go_sem, hAw] <;> rfl) ?_
   refine yQ (by first | (intro _ _ hh; exact hh) | simp [go_sem]) rfl rfl rfl rfl (by simp [go_sem] <;> rfl) yb5 ((ycl d (.pv (wPV p)) (ownS d) (by omega) (0)) _ (by exact hgl)) (by simp [go_sem] <;> rfl) (by simp [go_sem]) rfl rfl ?_
   refine yQ (by first | (intro _ _ hh; exact hh) | simp [go_sem]) rfl rfl rfl rfl (by simp [go_sem] <;> rfl) yb1 ((ybk (sc) (ownS d) (by omega)) _ (by exact hgl)) (by simp [go_sem] <;> rfl) (by simp [go_sem]) rfl rfl ?_
   refine yF ?_
   refine yy rfl rfl rfl (by simp [go_sem] <;> rfl) ZS (ihx (by show x2.size ≤ _; omega) (p ++ [2]) (by show _ + 3 * x2.size ≤ _; simp; omega) ((ownS d).reverse ++ sc) S _ om ob ow (by exact hgl) (hAm _) (hAb _) (hAw _)) (by simp [go_sem] <;> rfl) (by simp [go_sem]) rfl rfl ?_
   rintro r σ' ⟨rfl, rfl⟩
   refine ye ?_
   first | (show Go.Aw.Ends ty _ _ Go.Exit.normal _) | (simp only [yu]; done) | simp only [yu] | unfold yu
   refine yz (by first | rfl | (simp [go_sem] <;> rfl)) (by first | rfl | simp [go_sem]) ?_
   exact ⟨rfl, by rw [hfin]; first | exact Yn hol | (show Store.cut (setS (setS _ om _) om _) _ _ = _; rw [zf]; exact Yn hol)⟩
  ·refine aS ?_
   refine yc (by first | rfl | (simp [go_sem, hAb, hAw, hAm, hsb, hsw, hs0, hs1, hs2, hs4, zm, zf, hwc] <;> rfl)) (fun h2 => ?_) (fun h2 => ?_)
   ·have hk : yb d = 5 ∨ yb d = 9 := by first | exact .inl (by simpa using h2) | exact .inr (by simpa using h2)
    have hlen := hsl.1 (by omega)
    obtain ⟨x2, hx2, hx2m⟩ := ym (l := d.kids) (k := 2) (by omega)
    have hd2 : d2 d.kids = x2 := yC hx2
    have hxs := D.size_kid_lt hx2m
    have hq : subs d = [subL d 2 x2] := by rw [← hd2]; exact yU hk
    have hfin : sfree d sc S = sfree x2 ((ownS d).reverse ++ sc) S := by rw [yat, if_neg (by simp; omega), hq]; simp [subL, ya5]
    have ihx := ih (subL d 2 x2) (by rw [hq]; simp)
    simp only [subL] at ihx
    refine sG ?_
    refine aT 1 ?_
    refine aG Yj ((YO d (by omega)) _ (by exact hgl)) ?_
    refine aT 1 ?_
    refine ye (yG tyOk tySz 19 (by kernel_rfl) (by decide) ?_)
    refine yo 7 (by simp [go_sem, hx2] <;> rfl) ?_
    refine yQ (by first | (intro _ _ hh; exact hh) | simp [go_sem]) rfl rfl rfl rfl (by simp [go_sem] <;> rfl) y8 ((y7 p [2] (by omega) (by simp) (by simp)) _ (by exact hgl)) (by simp [go_sem] <;> rfl) (by simp [go_sem, ipv]) rfl rfl ?_
    refine yo 9 (by simp [go_sem, hAw] <;> rfl) ?_
    refine yQ (by first | (intro _ _ hh; exact hh) | simp [go_sem]) rfl rfl rfl rfl (by simp [go_sem] <;> rfl) yb5 ((ycl d (.pv (wPV p)) (ownS d) (by omega) (0)) _ (by exact hgl)) (by simp [go_sem] <;> rfl) (by simp [go_sem]) rfl rfl ?_
    refine yQ (by first | (intro _ _ hh; exact hh) | simp [go_sem]) rfl rfl rfl rfl (by simp [go_sem] <;> rfl) yb1 ((ybk (sc) (ownS d) (by omega)) _ (by exact hgl)) (by simp [go_sem] <;> rfl) (by simp [go_sem]) rfl rfl ?_
    refine yF ?_
    refine yy rfl rfl rfl (by simp [go_sem] <;> rfl) ZS (ihx (by show x2.size ≤ _; omega) (p ++ [2]) (by show _ + 3 * x2.size ≤ _; simp; omega) ((ownS d).reverse ++ sc) S _ om ob ow (by exact hgl) (hAm _) (hAb _) (hAw _)) (by simp [go_sem] <;> rfl) (by simp [go_sem]) rfl rfl ?_
    rintro r σ' ⟨rfl, rfl⟩
    refine ye ?_
    first | (show Go.Aw.Ends ty _ _ Go.Exit.normal _) | (simp only [yu]; done) | simp only [yu] | unfold yu
    refine yz (by first | rfl | (simp [go_sem] <;> rfl)) (by first | rfl | simp [go_sem]) ?_
    exact ⟨rfl, by rw [hfin]; first | exact Yn hol | (show Store.cut (setS (setS _ om _) om _) _ _ = _; rw [zf]; exact Yn hol)⟩
   ·refine ya (aS ?_)
    refine yc (by first | rfl | (simp [go_sem, hAb, hAw, hAm, hsb, hsw, hs0, hs1, hs2, hs4, zm, zf, hwc] <;> rfl)) (fun h3 => ?_) (fun h3 => ?_)
    ·have hk : yb d = 6 := by simpa using h3
     have hlen := hsl.2.1 hk
     obtain ⟨x2, hx2, hx2m⟩ := ym (l := d.kids) (k := 2) (by omega)
     have hd2 : d2 d.kids = x2 := yC hx2
     have hxs := D.size_kid_lt hx2m
     obtain ⟨x3, hx3, hx3m⟩ := ym (l := d.kids) (k := 3) (by omega)
     have hd3 : d.kids.getD 3 dnone = x3 := yC hx3
     have hxt := D.size_kid_lt hx3m
     have hq : subs d = [(⟨[2], []⟩, x2), subL d 3 x3] := by rw [← hd2, ← hd3]; exact yM hk
     have hfin : sfree d sc S = sfree x3 ((ownS d).reverse ++ sc) (sfree x2 sc S) := by rw [yat, if_neg (by simp; omega), hq]; simp [subL, ya5]
     have ihx := ih (⟨[2], []⟩, x2) (by rw [hq]; simp)
     have ihy := ih (subL d 3 x3) (by rw [hq]; simp)
     simp only [subL] at ihx ihy
     refine sG ?_
     refine aT 1 ?_
     refine aG Yj ((YO d (by omega)) _ (by exact hgl)) ?_
     refine aT 1 ?_
     refine ye (ya (yG tyOk tySz 7 (by kernel_rfl) (by decide) ?_))
     refine yo 7 (by simp [go_sem, hAw] <;> rfl) ?_
     refine yF ?_
     refine ycS rfl rfl rfl (by simp [go_sem] <;> rfl) yb5 ((ycl d (.pv (wPV p)) (ownS d) (by omega) (0)) _ (by exact hgl)) (by simp [go_sem] <;> rfl) (by simp [go_sem]) rfl rfl ?_
     refine aT 1 ?_
     refine ye (ya (yG tyOk tySz 9 (by kernel_rfl) (by decide) ?_))
     refine yo 7 (by simp [go_sem, hx2] <;> rfl) ?_
     refine yQ (by first | (intro _ _ hh; exact hh) | simp [go_sem]) rfl rfl rfl rfl (by simp [go_sem] <;> rfl) y8 ((y7 p [2] (by omega) (by simp) (by simp)) _ (by exact hgl)) (by simp [go_sem] <;> rfl) (by simp [go_sem, ipv]) rfl rfl ?_
     refine yo 1 (by simp [go_sem] <;> rfl) ?_
     refine yF ?_
     refine yy rfl rfl rfl (by simp [go_sem] <;> rfl) ZS (ihx (by show x2.size ≤ _; omega) (p ++ [2]) (by show _ + 3 * x2.size ≤ _; simp; omega) sc S _ om ob ow (by exact hgl) (hAm _) (hAb _) (hAw _)) (by simp [go_sem] <;> rfl) (by simp [go_sem]) rfl rfl ?_
     rintro r σ' ⟨rfl, rfl⟩
     refine ye (yG tyOk tySz 12 (by kernel_rfl) (by decide) ?_)
     refine yo 7 (by simp [go_sem, hs0, hs1, zm, hx3] <;> rfl) ?_
     refine yQ (by first | (intro _ _ hh; exact hh) | simp [go_sem]) rfl rfl rfl rfl (by simp [go_sem] <;> rfl) y8 ((y7 p [3] (by omega) (by simp) (by simp)) _ (by exact hgl)) (by simp [go_sem, zm] <;> rfl) (by simp [go_sem, ipv]) rfl rfl ?_
     refine yo 3 (by simp [go_sem, hs2, zm] <;> rfl) ?_
     refine yQ (by first | (intro _ _ hh; exact hh) | simp [go_sem]) rfl rfl rfl rfl (by simp [go_sem] <;> rfl) yb1 ((ybk (sc) (ownS d) (by omega)) _ (by exact hgl)) (by simp [go_sem, zm] <;> rfl) (by simp [go_sem]) rfl rfl ?_
     refine yF ?_
     refine yy rfl rfl rfl (by simp [go_sem] <;> rfl) ZS (ihy (by show x3.size ≤ _; omega) (p ++ [3]) (by show _ + 3 * x3.size ≤ _; simp; omega) ((ownS d).reverse ++ sc) _ _ om ob ow (by exact hgl) (hXm _ _) (hXb _ _) (hXw _ _)) (by simp [go_sem] <;> rfl) (by simp [go_sem]) rfl rfl ?_
     rintro r σ' ⟨rfl, rfl⟩
     refine ye ?_
     first | (show Go.Aw.Ends ty _ _ Go.Exit.normal _) | (simp only [yu]; done) | simp only [yu] | unfold yu
     refine yz (by first | rfl | (simp [go_sem] <;> rfl)) (by first | rfl | simp [go_sem]) ?_
     exact ⟨rfl, by rw [hfin]; first | exact Yn hol | (show Store.cut (setS (setS _ om _) om _) _ _ = _; rw [zf]; exact Yn hol)⟩
    ·refine ya (aS ?_)
     refine yc (by first | rfl | (simp [go_sem, hAb, hAw, hAm, hsb, hsw, hs0, hs1, hs2, hs4, zm, zf, hwc] <;> rfl)) (fun h4 => ?_) (fun h4 => ?_)
     ·have hk : yb d = 7 := by simpa using h4
      have hlen := hsl.1 (by omega)
      obtain ⟨x2, hx2, hx2m⟩ := ym (l := d.kids) (k := 2) (by omega)
      have hd2 : d2 d.kids = x2 := yC hx2
      have hxs := D.size_kid_lt hx2m
      obtain ⟨x1, hx1, hx1m⟩ := ym (l := d.kids) (k := 1) (by omega)
      have hd1 : d1 d.kids = x1 := yC hx1
      have hx1s := D.size_kid_lt hx1m
      have hx1l := D.kids_length_lt x1
      have hrk := hsl.2.2 hk
      have hrl := zR hk
      have hra := fun (i : Nat) (x : D) => zB (d := d) (i := i) (x := x) hk
      rw [hd1, hd2] at hrl
      rw [hd1] at hra hrk
      have hfin : sfree d sc S = sfree x2 ((ownS d).reverse ++ sc) (frd d sc S x1.kids.length) := by rw [← ykl hk2, hrl.2, yfk hrl.1]; simp [subL, ya5]
      have ihx := ih (subL d 2 x2) (List.mem_of_getElem? hrl.1)
      simp only [subL] at ihx
      refine sG ?_
      refine aT 1 ?_
      refine aG Yj ((YO d (by omega)) _ (by exact hgl)) ?_
      refine aT 1 ?_
      refine ye (ya (yG tyOk tySz 10 (by kernel_rfl) (by decide) ?_))
      refine yo 9 (by simp [go_sem, hAw] <;> rfl) ?_
      refine yQ (by first | (intro _ _ hh; exact hh) | simp [go_sem]) rfl rfl rfl rfl (by simp [go_sem] <;> rfl) yb5 ((ycl d (.pv (wPV p)) (ownS d) (by omega) (0)) _ (by exact hgl)) (by simp [go_sem] <;> rfl) (by simp [go_sem]) rfl rfl ?_
      refine yF ?_
      refine aG yb1 ((ybk (sc) (ownS d) (by omega)) _ (by exact hgl)) ?_
      refine aT 1 ?_
      refine ye (sS ?_)
      refine ya (sA (by simp [go_sem, hx1] <;> rfl) ?_)
      refine yh (yN 1 [4, 5, 6, 7, 14, 133, 134] (fun p3 : Nat × Int => [(15, .pv (.int .i64 p3.2)), (135, .pv (.int .i64 (p3.1 : Int)))]) (fun p3 => setS (⟨σ.gl, σ.objs ++ [.box [.ptr ow 0], .box [.pv (wPV p)], .box [.pv (zO sc)]], σ.toks⟩ : Store) om (frd d sc S p3.1)) (fun p3 => p3.1 ≤ x1.kids.length) (fun p3 => x1.kids.length - p3.1) (0, ((ownS d).length : Int)) (Nat.zero_le _) ⟨(by show setS _ om S = _; exact ybF (hAm _)), rfl, by simp [go_sem], by simp [go_sem]⟩ ?_)
      rintro ⟨i, fr⟩ hi
      refine sS ?_
      refine ya (yc (by first | rfl | (simp [go_sem, hAb, hAw, hAm, hsb, hsw, hs0, hs1, hs2, hs4, zm, zf, hwc, hx1, hx2] <;> rfl)) (fun h5 => ?_) (fun h5 => ?_))
      ·have hlt : i < x1.kids.length := by simp at h5; omega
       obtain ⟨x, hx, hxm⟩ := ym hlt
       have hl3 := hrk x hxm
       obtain ⟨y1, hy1, hy1m⟩ := ym (l := x.kids) (k := 1) (by omega)
       obtain ⟨y2, hy2, hy2m⟩ := ym (l := x.kids) (k := 2) (by omega)
       have hyd1 : d1 x.kids = y1 := yC hy1
       have hyd2 : d2 x.kids = y2 := yC hy2
       have hz0 := D.size_kid_lt hxm
       have hz1 := D.size_kid_lt hy1m
       have hz2 := D.size_kid_lt hy2m
       have hz3 := D.kids_length_lt y1
       have hpx : parS x = y1.kids.map D.text := by unfold parS; rw [hyd1]
       have hpl : (parS x).length = y1.kids.length := by rw [hpx, List.length_map]
       have hqi := hra i x hx
       have ihi := ih (subR d i x) (List.mem_of_getElem? hqi)
       simp only [subR, hyd2] at ihi
       have hfn : frd d sc S (i + 1) = sfree y2 ((parS x).reverse ++ ((ownS d).reverse ++ sc)) (frd d sc S i) := by rw [yfk hqi]; simp [subR, ya5, hyd2]
       have hw : IntKind.i64.wrap ((i : Int) + 1) = (i : Int) + 1 := yv (by omega)
       refine yg (ya (yh (sA (by simp [go_sem, hx] <;> rfl) ?_)))
       refine sG ?_
       refine aL 5 (by simp [go_sem, hy1] <;> rfl) ?_
       refine aG ZQ ((ZJ y1.kids (by omega)) _ (by exact hgl)) ?_
       refine aL 1 (by simp [go_sem, ← hpx] <;> rfl) ?_
       refine ye (ya (yG tyOk tySz 21 (by kernel_rfl) (by decide) ?_))
       refine yo 8 (by simp [go_sem, hs0, hs1, zm, hy2] <;> rfl) ?_
       refine yQ (by first | (intro _ _ hh; exact hh) | simp [go_sem]) rfl rfl rfl rfl (by simp [go_sem] <;> rfl) y8 ((y7 p [1, (i : Int), 2] (by omega) (by simp) (by simp)) _ (by exact hgl)) (by simp [go_sem, zm] <;> rfl) (by simp [go_sem, ipv]) rfl rfl ?_
       refine yo 10 (by simp [go_sem, hAw, hsw, hs0, hs1, zm] <;> rfl) ?_
       refine yQ (by first | (intro _ _ hh; exact hh) | simp [go_sem]) rfl rfl rfl rfl (by simp [go_sem, zm] <;> rfl) yb5 ((ycl d (.pv (wPV p)) (parS x) (by omega) (fr)) _ (by exact hgl)) (by simp [go_sem, zm] <;> rfl) (by simp [go_sem]) rfl rfl ?_
       refine yQ (by first | (intro _ _ hh; exact hh) | simp [go_sem]) rfl rfl rfl rfl (by simp [go_sem] <;> rfl) yb1 ((ybk (((ownS d).reverse ++ sc)) (parS x) (by omega)) _ (by exact hgl)) (by simp [go_sem, zm] <;> rfl) (by simp [go_sem]) rfl rfl ?_
       refine yF ?_
       refine yy rfl rfl rfl (by simp [go_sem] <;> rfl) ZS (ihi (by show y2.size ≤ _; omega) (p ++ [1, (i : Int), 2]) (by show _ + 3 * y2.size ≤ _; simp; omega) ((parS x).reverse ++ ((ownS d).reverse ++ sc)) _ _ om ob ow (by exact hgl) (hXm _ _) (hXb _ _) (hXw _ _)) (by simp [go_sem] <;> rfl) (by simp [go_sem]) rfl rfl ?_
       rintro r σ' ⟨rfl, rfl⟩
       refine ye (aR (by simp [go_sem, zf] <;> rfl) ?_)
       refine aS ?_
       exact ⟨(i + 1, IntKind.i64.wrap (fr + ((parS x).length : Int))), (by show i + 1 ≤ _; omega), (by show x1.kids.length - (i + 1) < x1.kids.length - i; omega), (by show setS _ om (frd d sc S (i + 1)) = _; rw [hfn]; try exact zf.symm), rfl, by simp [go_sem, hw], by simp [go_sem]⟩
      ·have hke : i = x1.kids.length := by simp at h5; omega
       subst hke
       refine yp (yj (yj (yl (yG tyOk tySz 9 (by kernel_rfl) (by decide) ?_))))
       refine yo 7 (by simp [go_sem, hs0, hs1, zm, hx2] <;> rfl) ?_
       refine yQ (by first | (intro _ _ hh; exact hh) | simp [go_sem]) rfl rfl rfl rfl (by simp [go_sem] <;> rfl) y8 ((y7 p [2] (by omega) (by simp) (by simp)) _ (by exact hgl)) (by simp [go_sem, zm] <;> rfl) (by simp [go_sem, ipv]) rfl rfl ?_
       refine yo 1 (by simp [go_sem, zm] <;> rfl) ?_
       refine yF ?_
       refine yy rfl rfl rfl (by simp [go_sem] <;> rfl) ZS (ihx (by show x2.size ≤ _; omega) (p ++ [2]) (by show _ + 3 * x2.size ≤ _; simp; omega) ((ownS d).reverse ++ sc) _ _ om ob ow (by exact hgl) (hXm _ _) (hXb _ _) (hXw _ _)) (by simp [go_sem] <;> rfl) (by simp [go_sem]) rfl rfl ?_
       rintro r σ' ⟨rfl, rfl⟩
       refine ye ?_
       first | (show Go.Aw.Ends ty _ _ Go.Exit.normal _) | (simp only [yu]; done) | simp only [yu] | unfold yu
       refine yz (by first | rfl | (simp [go_sem] <;> rfl)) (by first | rfl | simp [go_sem]) ?_
       exact ⟨rfl, by rw [hfin]; first | exact Yn hol | (show Store.cut (setS (setS _ om _) om _) _ _ = _; rw [zf]; exact Yn hol)⟩
     ·have hkk : yb d ≠ 5 ∧ yb d ≠ 9 ∧ yb d ≠ 6 ∧ yb d ≠ 7 := by simp_all
      refine sG ?_
      refine aT 1 ?_
      refine yy rfl rfl rfl (by simp [go_sem] <;> rfl) yca (yaO d _) (by simp [go_sem] <;> rfl) (by simp [go_sem]) rfl rfl ?_
      rintro r σ' ⟨rfl, rfl⟩
      refine ye (yh (Y9 [4, 6, 7] (by simp [go_sem] <;> rfl) ycb (by simp [go_sem]) (by simp [go_sem, YH]) (by decide) fun l => ?_))
      refine Z6 ?_
      intro ST hST
      simp only [go_sem, YH, List.map_cons, List.map_nil, List.append_assoc, List.cons_append, List.nil_append] at hST
      have hST2 : ST = ⟨σ.gl, ST.objs, σ.toks⟩ := by rw [hST]
      have hglS : ST.gl = σ.gl := by rw [hST]
      have hts : ST.toks = σ.toks := by rw [hST]
      have hlow : ST.objs.take σ.objs.length = σ.objs := by rw [hST]; simp [go_sem]
      have hlen : ST.objs.length = σ.objs.length + 5 := by rw [hST]; simp [go_sem]
      have f0 : ST.objs[σ.objs.length]? = some (.box [.ptr ow 0]) := by rw [hST]; simp [go_sem]
      have f1 : ST.objs[σ.objs.length + 1]? = some (.box [.pv (wPV p)]) := by rw [hST]; simp [go_sem]
      have f2 : ST.objs[σ.objs.length + 2]? = some (.box [.pv (zO sc)]) := by rw [hST]; simp [go_sem]
      have f3 : ST.objs[σ.objs.length + 3]? = some (.box [.pv (.int .i64 d.kind), .pv (.int .i64 d.num), .pv (.str d.text), .pv (.slice (d.kids.map enc))]) := by rw [hST]; simp [go_sem]
      have fm : ST.objs[om]? = some (.map (tK S) (tV S)) := by rw [hST]; exact hAm _
      have fb : ST.objs[ob]? = some (.box [.map om]) := by rw [hST]; exact hAb _
      have fw : ST.objs[ow]? = some (.box [.func (.func 119) [], .func (.func 120) [.ptr ob 0]]) := by rw [hST]; exact hAw _
      obtain ⟨T0, ps0, as0, bd0, hL⟩ : ∃ T0 ps0 as0 bd0, ST.objs[σ.objs.length + 4]? = some (.loop l .ready none T0 183 ps0 as0 bd0) := ⟨_, _, _, _, by rw [hST]; exact yao⟩
      have hround : ∀ (i : Nat) (τ : Store) (q : Sub × D), (subs d)[i]? = some q → (τ = setS ST om (frd d sc S i)) → ACallsY Tryz.prog l [.pv (.slice (ipv q.1.p)), .pv (enc q.2)] τ fun r τ' => (r = .pv (.bool true) ∧ τ' = setS ST om (frd d sc S (i + 1))) ∨ (r = .pv (.bool false) ∧ False) := by
       rintro i τ q hq hτ
       rw [hτ]
       have hqm : q ∈ subs d := List.mem_of_getElem? hq
       have hqs := Ys hqm
       have hqp := Yc hqm
       have hfn := yfk (l := sc) (S := S) hq
       rw [ye7 hkk hqm, List.map_nil, List.nil_append] at hfn
       rw [hfn]
       generalize frd d sc S i = R
       have e0 : (setS ST om R).objs[σ.objs.length]? = some (.box [.ptr ow 0]) := (zn (by omega)).trans f0
       have e1 : (setS ST om R).objs[σ.objs.length + 1]? = some (.box [.pv (wPV p)]) := (zn (by omega)).trans f1
       have e2 : (setS ST om R).objs[σ.objs.length + 2]? = some (.box [.pv (zO sc)]) := (zn (by omega)).trans f2
       have eL := (zn (σ := ST) (S := R) (show om ≠ σ.objs.length + 4 by omega)).trans hL
       have em : (setS ST om R).objs[om]? = some (.map (tK R) (tV R)) := yfj (by omega)
       have eb := (zn (σ := ST) (S := R) hne1).trans fb
       have ew := (zn (σ := ST) (S := R) hne2).trans fw
       refine Z7 (o := σ.objs.length + 4) ((zn (σ := ST) (S := R) (show om ≠ σ.objs.length + 4 by omega)).trans (by rw [hST]; exact yao)) rfl rfl ?_
       refine sS ?_
       refine aS ?_
       refine ⟨_, _, _, _, _, _, Eq.trans (b := some (.loop l .ready none T0 183 ps0 as0 bd0)) (by simp [go_sem, hs4, hL]) rfl, ?_⟩
       refine yh (yG tyOk tySz 6 (by kernel_rfl) (by decide) ?_)
       refine yo 4 (by simp [go_sem, hs0, hs1, zm, f0, f1] <;> rfl) ?_
       refine yQ (by first | (intro _ _ hh; exact hh) | simp [go_sem]) rfl rfl rfl rfl (by simp [go_sem] <;> rfl) y8 ((y7 p q.1.p (by omega) (by omega) hqp.1) _ (by exact hglS.trans hgl)) (by simp [go_sem, zm] <;> rfl) (by simp [go_sem]) rfl rfl ?_
       refine yo 1 (by simp [go_sem, hs2, zm, f2] <;> rfl) ?_
       refine yF ?_
       refine yy rfl rfl rfl (by simp [go_sem] <;> rfl) ZS (ih q hqm (by omega) (p ++ q.1.p) (by rw [List.length_append]; omega) sc R _ om ob ow (by exact hglS.trans hgl) ((List.getElem?_set_ne (by omega)).trans em) ((List.getElem?_set_ne (by omega)).trans eb) ((List.getElem?_set_ne (by omega)).trans ew)) (by simp [go_sem] <;> rfl) (by simp [go_sem]) rfl rfl ?_
       rintro r σ' ⟨rfl, rfl⟩
       refine ye (⟨_, _, _, _, _, _, Eq.trans (b := some (.loop l .busy none T0 183 ps0 as0 bd0)) (by simp [go_sem, hs4, hL, Zn]) rfl, ?_⟩)
       refine .inl ⟨rfl, ?_⟩
       exact (ynR (X := setS ST om R) (by omega) eL).trans zf
      refine (ACalls.args (yaK d (by omega) (σ.objs.length + 3) l (fun i τ => τ = setS ST om (frd d sc S i)) (fun _ => False) (fun i τ h => by rw [h]; exact hglS.trans hgl) (fun i τ h => by rw [h]; exact (zn (by omega)).trans f3) hround ST (ybF fm).symm) (by simp [go_sem])).mono ?_
      rintro _ τ' (hτ | ⟨⟨⟩⟩)
      ·rw [hτ, ykl hk2]
       have eL2 := (zn (σ := ST) (S := sfree d sc S) (show om ≠ σ.objs.length + 4 by omega)).trans hL
       refine ⟨_, _, _, _, _, _, _, Eq.trans (b := some (.loop l .ready none T0 183 ps0 as0 bd0)) (by simp [go_sem, hs4, hL]) rfl, by decide, ?_⟩
       first | (show Go.Aw.Ends ty _ _ Go.Exit.normal _) | (simp only [yu]; done) | simp only [yu] | unfold yu
       refine yz (by first | rfl | (simp [go_sem] <;> rfl)) (by first | rfl | simp [go_sem]) ?_
       exact ⟨rfl, by simp [go_sem, yax, setS, List.take_set, hlow, hts, hglS]⟩

end Go.Proofs.YtigideidmcmfbaaGreatDoor
