/- Part of the proof that the statement holds for every input that its row lets in: the contracts of the program's functions, printed by a program out of annotations; the statement itself stands at the end of the last part. -/
import Derived.Test.YtienmmfjjffjaaaDoorProg
import Derived.Test.YtienmmfjjffjaaaDoorZA2
import Derived.Shelf.LaysM
import Derived.Shelf.Small.Strs
set_option linter.unusedSimpArgs false
set_option linter.unusedVariables false
/- The types of this program that the proofs speak of, as a table, and that the table is right. -/
namespace Go.Proofs.YtienmmfjjffjaaaDoor
open Go Go.Aw
def tyL : List (Nat × TyI) :=
  [(1, ⟨1, 8, .func, [], [.nilfn], none⟩),
   (2, ⟨1, 8, .int .i64, [], [.int .i64 0], none⟩),
   (3, ⟨1, 8, .int .i64, [], [.int .i64 0], none⟩),
   (4, ⟨1, 1, .bool, [], [.bool false], none⟩),
   (5, ⟨1, 1, .int .u8, [], [.int .u8 0], none⟩),
   (6, ⟨1, 1, .int .u8, [], [.int .u8 0], none⟩),
   (7, ⟨4, 24, .struct, [(0, 1), (1, 1), (2, 1), (3, 1)], [.int .i64 0, .int .i64 0, .bool false, .int .u8 0], none⟩),
   (8, ⟨4, 24, .struct, [(0, 1), (1, 1), (2, 1), (3, 1)], [.int .i64 0, .int .i64 0, .bool false, .int .u8 0], none⟩),
   (9, ⟨1, 16, .str, [], [.str ⟨#[]⟩], some (.one (.str))⟩),
   (10, ⟨1, 16, .str, [], [.str ⟨#[]⟩], none⟩),
   (11, ⟨1, 16, .str, [], [.str ⟨#[]⟩], none⟩),
   (12, ⟨1, 8, .int .u64, [], [.int .u64 0], none⟩),
   (13, ⟨2, 24, .struct, [(0, 1), (1, 1)], [.str ⟨#[]⟩, .int .u64 0], none⟩),
   (14, ⟨2, 24, .struct, [(0, 1), (1, 1)], [.str ⟨#[]⟩, .int .u64 0], none⟩),
   (15, ⟨1, 8, .ptr 110, [], [.nilp], none⟩),
   (16, ⟨1, 8, .ptr 113, [], [.nilp], none⟩),
   (17, ⟨1, 8, .ptr 123, [], [.nilp], none⟩),
   (18, ⟨1, 8, .struct, [(0, 1)], [.nilp], none⟩),
   (19, ⟨1, 8, .struct, [(0, 1)], [.nilp], none⟩),
   (20, ⟨1, 16, .iface, [], [.nilif], none⟩),
   (21, ⟨1, 4, .int .i32, [], [.int .i32 0], none⟩),
   (22, ⟨1, 24, .slice 24, [], [.nils], none⟩),
   (23, ⟨4, 56, .struct, [(0, 1), (1, 1), (2, 1), (3, 1)], [.int .i64 0, .int .i64 0, .str ⟨#[]⟩, .nils], none⟩),
   (24, ⟨4, 56, .struct, [(0, 1), (1, 1), (2, 1), (3, 1)], [.int .i64 0, .int .i64 0, .str ⟨#[]⟩, .nils], none⟩),
   (25, ⟨1, 8, .func, [], [.nilfn], none⟩),
   (26, ⟨1, 8, .int .i64, [], [.int .i64 0], none⟩),
   (28, ⟨1, 8, .func, [], [.nilfn], none⟩),
   (29, ⟨1, 8, .func, [], [.nilfn], none⟩),
   (30, ⟨1, 8, .func, [], [.nilfn], none⟩),
   (31, ⟨1, 8, .func, [], [.nilfn], none⟩),
   (32, ⟨1, 8, .func, [], [.nilfn], none⟩),
   (33, ⟨1, 8, .func, [], [.nilfn], none⟩),
   (34, ⟨1, 8, .func, [], [.nilfn], none⟩),
   (35, ⟨1, 8, .func, [], [.nilfn], none⟩),
   (36, ⟨1, 8, .func, [], [.nilfn], none⟩),
   (37, ⟨1, 8, .func, [], [.nilfn], none⟩),
   (38, ⟨1, 8, .func, [], [.nilfn], none⟩),
   (40, ⟨1, 8, .func, [], [.nilfn], none⟩),
   (42, ⟨1, 8, .func, [], [.nilfn], none⟩),
   (43, ⟨8, 112, .array 2 24, [], [.int .i64 0, .int .i64 0, .str ⟨#[]⟩, .nils, .int .i64 0, .int .i64 0, .str ⟨#[]⟩, .nils], none⟩),
   (45, ⟨1, 8, .func, [], [.nilfn], none⟩),
   (46, ⟨1, 8, .ptr 71, [], [.nilp], none⟩),
   (48, ⟨1, 8, .func, [], [.nilfn], none⟩),
   (49, ⟨1, 24, .slice 9, [], [.nils], none⟩),
   (51, ⟨1, 8, .func, [], [.nilfn], none⟩),
   (52, ⟨1, 8, .func, [], [.nilfn], none⟩),
   (53, ⟨1, 8, .ptr 55, [], [.nilp], none⟩),
   (54, ⟨1, 8, .struct, [(0, 1)], [.int .i64 0], none⟩),
   (55, ⟨1, 8, .struct, [(0, 1)], [.int .i64 0], none⟩),
   (56, ⟨1, 8, .func, [], [.nilfn], none⟩),
   (57, ⟨1, 8, .func, [], [.nilfn], none⟩),
   (58, ⟨1, 8, .map 60 3, [], [.nilmap], none⟩),
   (59, ⟨2, 24, .struct, [(0, 1), (1, 1)], [.int .i64 0, .str ⟨#[]⟩], none⟩),
   (60, ⟨2, 24, .struct, [(0, 1), (1, 1)], [.int .i64 0, .str ⟨#[]⟩], some (.many [.int .i64, .str])⟩),
   (61, ⟨1, 8, .func, [], [.nilfn], none⟩),
   (62, ⟨1, 8, .ptr 64, [], [.nilp], none⟩),
   (63, ⟨3, 24, .struct, [(0, 1), (1, 1), (2, 1)], [.nilfn, .nilfn, .bool false], none⟩),
   (64, ⟨3, 24, .struct, [(0, 1), (1, 1), (2, 1)], [.nilfn, .nilfn, .bool false], none⟩),
   (66, ⟨1, 8, .func, [], [.nilfn], none⟩),
   (67, ⟨1, 8, .func, [], [.nilfn], none⟩),
   (68, ⟨1, 8, .func, [], [.nilfn], none⟩),
   (69, ⟨1, 8, .func, [], [.nilfn], none⟩),
   (70, ⟨1, 8, .struct, [(0, 1)], [.nilmap], none⟩),
   (71, ⟨1, 8, .struct, [(0, 1)], [.nilmap], none⟩),
   (72, ⟨1, 8, .func, [], [.nilfn], none⟩),
   (73, ⟨1, 8, .func, [], [.nilfn], none⟩),
   (74, ⟨1, 8, .func, [], [.nilfn], none⟩),
   (76, ⟨1, 8, .func, [], [.nilfn], none⟩),
   (77, ⟨1, 8, .map 60 24, [], [.nilmap], none⟩),
   (78, ⟨1, 8, .func, [], [.nilfn], none⟩),
   (79, ⟨1, 8, .map 60 4, [], [.nilmap], none⟩),
   (80, ⟨1, 8, .func, [], [.nilfn], none⟩),
   (81, ⟨1, 24, .slice 83, [], [.nils], none⟩),
   (82, ⟨5, 64, .struct, [(0, 1), (1, 1), (2, 1), (3, 1), (4, 1)], [.int .i64 0, .int .i64 0, .str ⟨#[]⟩, .nils, .int .i64 0], none⟩),
   (83, ⟨5, 64, .struct, [(0, 1), (1, 1), (2, 1), (3, 1), (4, 1)], [.int .i64 0, .int .i64 0, .str ⟨#[]⟩, .nils, .int .i64 0], none⟩),
   (85, ⟨1, 8, .func, [], [.nilfn], none⟩),
   (86, ⟨1, 8, .func, [], [.nilfn], none⟩),
   (87, ⟨1, 8, .func, [], [.nilfn], none⟩),
   (88, ⟨1, 8, .func, [], [.nilfn], none⟩),
   (89, ⟨1, 8, .func, [], [.nilfn], none⟩),
   (90, ⟨1, 24, .slice 3, [], [.nils], none⟩),
   (91, ⟨1, 8, .func, [], [.nilfn], none⟩),
   (92, ⟨1, 8, .func, [], [.nilfn], none⟩),
   (93, ⟨1, 8, .map 9 4, [], [.nilmap], none⟩),
   (94, ⟨1, 8, .func, [], [.nilfn], none⟩),
   (95, ⟨1, 24, .slice 96, [], [.nils], none⟩),
   (96, ⟨2, 24, .struct, [(0, 1), (1, 1)], [.str ⟨#[]⟩, .int .i64 0], none⟩),
   (97, ⟨1, 8, .ptr 99, [], [.nilp], none⟩),
   (98, ⟨4, 40, .struct, [(0, 1), (1, 1), (2, 1), (3, 1)], [.str ⟨#[]⟩, .int .i64 0, .int .i64 0, .int .i64 0], none⟩),
   (99, ⟨4, 40, .struct, [(0, 1), (1, 1), (2, 1), (3, 1)], [.str ⟨#[]⟩, .int .i64 0, .int .i64 0, .int .i64 0], none⟩),
   (100, ⟨1, 8, .func, [], [.nilfn], none⟩),
   (101, ⟨1, 8, .func, [], [.nilfn], none⟩),
   (102, ⟨1, 8, .func, [], [.nilfn], none⟩),
   (103, ⟨1, 8, .func, [], [.nilfn], none⟩),
   (104, ⟨1, 8, .func, [], [.nilfn], none⟩),
   (106, ⟨1, 8, .func, [], [.nilfn], none⟩),
   (107, ⟨1, 8, .int .u64, [], [.int .u64 0], none⟩),
   (108, ⟨1, 8, .func, [], [.nilfn], none⟩),
   (109, ⟨4, 40, .struct, [(0, 1), (1, 1), (2, 1), (3, 1)], [.nilp, .nilp, .nilp, .str ⟨#[]⟩], none⟩),
   (110, ⟨4, 40, .struct, [(0, 1), (1, 1), (2, 1), (3, 1)], [.nilp, .nilp, .nilp, .str ⟨#[]⟩], none⟩),
   (114, ⟨1, 8, .func, [], [.nilfn], none⟩),
   (115, ⟨1, 4, .int .u32, [], [.int .u32 0], none⟩),
   (116, ⟨1, 1, .int .u8, [], [.int .u8 0], none⟩),
   (117, ⟨1, 1, .int .u8, [], [.int .u8 0], none⟩),
   (118, ⟨1, 8, .func, [], [.nilfn], none⟩),
   (119, ⟨1, 8, .ptr 5, [], [.nilp], none⟩),
   (120, ⟨1, 4, .int .i32, [], [.int .i32 0], none⟩),
   (121, ⟨1, 4, .int .i32, [], [.int .i32 0], none⟩),
   (122, ⟨11, 48, .struct, [(0, 1), (1, 1), (2, 1), (3, 1), (4, 1), (5, 1), (6, 1), (7, 1), (8, 1), (9, 1), (10, 1)], [.int .u64 0, .int .u64 0, .int .u32 0, .int .u8 0, .int .u8 0, .int .u8 0, .int .u8 0, .nilfn, .nilp, .int .i32 0, .int .i32 0], none⟩),
   (123, ⟨11, 48, .struct, [(0, 1), (1, 1), (2, 1), (3, 1), (4, 1), (5, 1), (6, 1), (7, 1), (8, 1), (9, 1), (10, 1)], [.int .u64 0, .int .u64 0, .int .u32 0, .int .u8 0, .int .u8 0, .int .u8 0, .int .u8 0, .nilfn, .nilp, .int .i32 0, .int .i32 0], none⟩)]
def ty : TyT := fun t => (tyL.find? fun p => p.1 == t).map (·.2)
set_option maxRecDepth 100000
theorem tyL_ok : (tyL.all fun p => tyChk Tryd.prog p.1 p.2) = true := by kernel_rfl
theorem tyOk : TyOk Tryd.prog ty := by
  intro t ti h
  obtain ⟨p, hp, rfl⟩ := Option.map_eq_some_iff.1 h
  have h1 := List.find?_some hp
  have h2 := List.mem_of_find?_eq_some hp
  have h3 := List.all_eq_true.1 tyL_ok p h2
  simp only [beq_iff_eq] at h1
  rw [← h1]
  exact tyF_of h3
theorem tySz : ∀ t ti, ty t = some ti → ti.size ≠ 0 := by
  intro t ti h
  obtain ⟨p, hp, rfl⟩ := Option.map_eq_some_iff.1 h
  have h2 := List.mem_of_find?_eq_some hp
  have h3 : (tyL.all fun p => p.2.size != 0) = true := by kernel_rfl
  simpa using List.all_eq_true.1 h3 p h2
@[go_sem] theorem ty1 : ty 1 = some ⟨1, 8, .func, [], [.nilfn], none⟩ := rfl
@[go_sem] theorem ty2 : ty 2 = some ⟨1, 8, .int .i64, [], [.int .i64 0], none⟩ := rfl
@[go_sem] theorem ty3 : ty 3 = some ⟨1, 8, .int .i64, [], [.int .i64 0], none⟩ := rfl
@[go_sem] theorem ty4 : ty 4 = some ⟨1, 1, .bool, [], [.bool false], none⟩ := rfl
@[go_sem] theorem ty5 : ty 5 = some ⟨1, 1, .int .u8, [], [.int .u8 0], none⟩ := rfl
@[go_sem] theorem ty6 : ty 6 = some ⟨1, 1, .int .u8, [], [.int .u8 0], none⟩ := rfl
@[go_sem] theorem ty7 : ty 7 = some ⟨4, 24, .struct, [(0, 1), (1, 1), (2, 1), (3, 1)], [.int .i64 0, .int .i64 0, .bool false, .int .u8 0], none⟩ := rfl
@[go_sem] theorem ty8 : ty 8 = some ⟨4, 24, .struct, [(0, 1), (1, 1), (2, 1), (3, 1)], [.int .i64 0, .int .i64 0, .bool false, .int .u8 0], none⟩ := rfl
@[go_sem] theorem ty9 : ty 9 = some ⟨1, 16, .str, [], [.str ⟨#[]⟩], some (.one (.str))⟩ := rfl
@[go_sem] theorem ty10 : ty 10 = some ⟨1, 16, .str, [], [.str ⟨#[]⟩], none⟩ := rfl
@[go_sem] theorem ty11 : ty 11 = some ⟨1, 16, .str, [], [.str ⟨#[]⟩], none⟩ := rfl
@[go_sem] theorem ty12 : ty 12 = some ⟨1, 8, .int .u64, [], [.int .u64 0], none⟩ := rfl
@[go_sem] theorem ty13 : ty 13 = some ⟨2, 24, .struct, [(0, 1), (1, 1)], [.str ⟨#[]⟩, .int .u64 0], none⟩ := rfl
@[go_sem] theorem ty14 : ty 14 = some ⟨2, 24, .struct, [(0, 1), (1, 1)], [.str ⟨#[]⟩, .int .u64 0], none⟩ := rfl
@[go_sem] theorem ty15 : ty 15 = some ⟨1, 8, .ptr 110, [], [.nilp], none⟩ := rfl
@[go_sem] theorem ty16 : ty 16 = some ⟨1, 8, .ptr 113, [], [.nilp], none⟩ := rfl
@[go_sem] theorem ty17 : ty 17 = some ⟨1, 8, .ptr 123, [], [.nilp], none⟩ := rfl
@[go_sem] theorem ty18 : ty 18 = some ⟨1, 8, .struct, [(0, 1)], [.nilp], none⟩ := rfl
@[go_sem] theorem ty19 : ty 19 = some ⟨1, 8, .struct, [(0, 1)], [.nilp], none⟩ := rfl
@[go_sem] theorem ty20 : ty 20 = some ⟨1, 16, .iface, [], [.nilif], none⟩ := rfl
@[go_sem] theorem ty21 : ty 21 = some ⟨1, 4, .int .i32, [], [.int .i32 0], none⟩ := rfl
@[go_sem] theorem ty22 : ty 22 = some ⟨1, 24, .slice 24, [], [.nils], none⟩ := rfl
@[go_sem] theorem ty23 : ty 23 = some ⟨4, 56, .struct, [(0, 1), (1, 1), (2, 1), (3, 1)], [.int .i64 0, .int .i64 0, .str ⟨#[]⟩, .nils], none⟩ := rfl
@[go_sem] theorem ty24 : ty 24 = some ⟨4, 56, .struct, [(0, 1), (1, 1), (2, 1), (3, 1)], [.int .i64 0, .int .i64 0, .str ⟨#[]⟩, .nils], none⟩ := rfl
@[go_sem] theorem ty25 : ty 25 = some ⟨1, 8, .func, [], [.nilfn], none⟩ := rfl
@[go_sem] theorem ty26 : ty 26 = some ⟨1, 8, .int .i64, [], [.int .i64 0], none⟩ := rfl
@[go_sem] theorem ty28 : ty 28 = some ⟨1, 8, .func, [], [.nilfn], none⟩ := rfl
@[go_sem] theorem ty29 : ty 29 = some ⟨1, 8, .func, [], [.nilfn], none⟩ := rfl
@[go_sem] theorem ty30 : ty 30 = some ⟨1, 8, .func, [], [.nilfn], none⟩ := rfl
@[go_sem] theorem ty31 : ty 31 = some ⟨1, 8, .func, [], [.nilfn], none⟩ := rfl
@[go_sem] theorem ty32 : ty 32 = some ⟨1, 8, .func, [], [.nilfn], none⟩ := rfl
@[go_sem] theorem ty33 : ty 33 = some ⟨1, 8, .func, [], [.nilfn], none⟩ := rfl
@[go_sem] theorem ty34 : ty 34 = some ⟨1, 8, .func, [], [.nilfn], none⟩ := rfl
@[go_sem] theorem ty35 : ty 35 = some ⟨1, 8, .func, [], [.nilfn], none⟩ := rfl
@[go_sem] theorem ty36 : ty 36 = some ⟨1, 8, .func, [], [.nilfn], none⟩ := rfl
@[go_sem] theorem ty37 : ty 37 = some ⟨1, 8, .func, [], [.nilfn], none⟩ := rfl
@[go_sem] theorem ty38 : ty 38 = some ⟨1, 8, .func, [], [.nilfn], none⟩ := rfl
@[go_sem] theorem ty40 : ty 40 = some ⟨1, 8, .func, [], [.nilfn], none⟩ := rfl
@[go_sem] theorem ty42 : ty 42 = some ⟨1, 8, .func, [], [.nilfn], none⟩ := rfl
@[go_sem] theorem ty43 : ty 43 = some ⟨8, 112, .array 2 24, [], [.int .i64 0, .int .i64 0, .str ⟨#[]⟩, .nils, .int .i64 0, .int .i64 0, .str ⟨#[]⟩, .nils], none⟩ := rfl
@[go_sem] theorem ty45 : ty 45 = some ⟨1, 8, .func, [], [.nilfn], none⟩ := rfl
@[go_sem] theorem ty46 : ty 46 = some ⟨1, 8, .ptr 71, [], [.nilp], none⟩ := rfl
@[go_sem] theorem ty48 : ty 48 = some ⟨1, 8, .func, [], [.nilfn], none⟩ := rfl
@[go_sem] theorem ty49 : ty 49 = some ⟨1, 24, .slice 9, [], [.nils], none⟩ := rfl
@[go_sem] theorem ty51 : ty 51 = some ⟨1, 8, .func, [], [.nilfn], none⟩ := rfl
@[go_sem] theorem ty52 : ty 52 = some ⟨1, 8, .func, [], [.nilfn], none⟩ := rfl
@[go_sem] theorem ty53 : ty 53 = some ⟨1, 8, .ptr 55, [], [.nilp], none⟩ := rfl
@[go_sem] theorem ty54 : ty 54 = some ⟨1, 8, .struct, [(0, 1)], [.int .i64 0], none⟩ := rfl
@[go_sem] theorem ty55 : ty 55 = some ⟨1, 8, .struct, [(0, 1)], [.int .i64 0], none⟩ := rfl
@[go_sem] theorem ty56 : ty 56 = some ⟨1, 8, .func, [], [.nilfn], none⟩ := rfl
@[go_sem] theorem ty57 : ty 57 = some ⟨1, 8, .func, [], [.nilfn], none⟩ := rfl
@[go_sem] theorem ty58 : ty 58 = some ⟨1, 8, .map 60 3, [], [.nilmap], none⟩ := rfl
@[go_sem] theorem ty59 : ty 59 = some ⟨2, 24, .struct, [(0, 1), (1, 1)], [.int .i64 0, .str ⟨#[]⟩], none⟩ := rfl
@[go_sem] theorem ty60 : ty 60 = some ⟨2, 24, .struct, [(0, 1), (1, 1)], [.int .i64 0, .str ⟨#[]⟩], some (.many [.int .i64, .str])⟩ := rfl
@[go_sem] theorem ty61 : ty 61 = some ⟨1, 8, .func, [], [.nilfn], none⟩ := rfl
@[go_sem] theorem ty62 : ty 62 = some ⟨1, 8, .ptr 64, [], [.nilp], none⟩ := rfl
@[go_sem] theorem ty63 : ty 63 = some ⟨3, 24, .struct, [(0, 1), (1, 1), (2, 1)], [.nilfn, .nilfn, .bool false], none⟩ := rfl
@[go_sem] theorem ty64 : ty 64 = some ⟨3, 24, .struct, [(0, 1), (1, 1), (2, 1)], [.nilfn, .nilfn, .bool false], none⟩ := rfl
@[go_sem] theorem ty66 : ty 66 = some ⟨1, 8, .func, [], [.nilfn], none⟩ := rfl
@[go_sem] theorem ty67 : ty 67 = some ⟨1, 8, .func, [], [.nilfn], none⟩ := rfl
@[go_sem] theorem ty68 : ty 68 = some ⟨1, 8, .func, [], [.nilfn], none⟩ := rfl
@[go_sem] theorem ty69 : ty 69 = some ⟨1, 8, .func, [], [.nilfn], none⟩ := rfl
@[go_sem] theorem ty70 : ty 70 = some ⟨1, 8, .struct, [(0, 1)], [.nilmap], none⟩ := rfl
@[go_sem] theorem ty71 : ty 71 = some ⟨1, 8, .struct, [(0, 1)], [.nilmap], none⟩ := rfl
@[go_sem] theorem ty72 : ty 72 = some ⟨1, 8, .func, [], [.nilfn], none⟩ := rfl
@[go_sem] theorem ty73 : ty 73 = some ⟨1, 8, .func, [], [.nilfn], none⟩ := rfl
@[go_sem] theorem ty74 : ty 74 = some ⟨1, 8, .func, [], [.nilfn], none⟩ := rfl
@[go_sem] theorem ty76 : ty 76 = some ⟨1, 8, .func, [], [.nilfn], none⟩ := rfl
@[go_sem] theorem ty77 : ty 77 = some ⟨1, 8, .map 60 24, [], [.nilmap], none⟩ := rfl
@[go_sem] theorem ty78 : ty 78 = some ⟨1, 8, .func, [], [.nilfn], none⟩ := rfl
@[go_sem] theorem ty79 : ty 79 = some ⟨1, 8, .map 60 4, [], [.nilmap], none⟩ := rfl
@[go_sem] theorem ty80 : ty 80 = some ⟨1, 8, .func, [], [.nilfn], none⟩ := rfl
@[go_sem] theorem ty81 : ty 81 = some ⟨1, 24, .slice 83, [], [.nils], none⟩ := rfl
@[go_sem] theorem ty82 : ty 82 = some ⟨5, 64, .struct, [(0, 1), (1, 1), (2, 1), (3, 1), (4, 1)], [.int .i64 0, .int .i64 0, .str ⟨#[]⟩, .nils, .int .i64 0], none⟩ := rfl
@[go_sem] theorem ty83 : ty 83 = some ⟨5, 64, .struct, [(0, 1), (1, 1), (2, 1), (3, 1), (4, 1)], [.int .i64 0, .int .i64 0, .str ⟨#[]⟩, .nils, .int .i64 0], none⟩ := rfl
@[go_sem] theorem ty85 : ty 85 = some ⟨1, 8, .func, [], [.nilfn], none⟩ := rfl
@[go_sem] theorem ty86 : ty 86 = some ⟨1, 8, .func, [], [.nilfn], none⟩ := rfl
@[go_sem] theorem ty87 : ty 87 = some ⟨1, 8, .func, [], [.nilfn], none⟩ := rfl
@[go_sem] theorem ty88 : ty 88 = some ⟨1, 8, .func, [], [.nilfn], none⟩ := rfl
@[go_sem] theorem ty89 : ty 89 = some ⟨1, 8, .func, [], [.nilfn], none⟩ := rfl
@[go_sem] theorem ty90 : ty 90 = some ⟨1, 24, .slice 3, [], [.nils], none⟩ := rfl
@[go_sem] theorem ty91 : ty 91 = some ⟨1, 8, .func, [], [.nilfn], none⟩ := rfl
@[go_sem] theorem ty92 : ty 92 = some ⟨1, 8, .func, [], [.nilfn], none⟩ := rfl
@[go_sem] theorem ty93 : ty 93 = some ⟨1, 8, .map 9 4, [], [.nilmap], none⟩ := rfl
@[go_sem] theorem ty94 : ty 94 = some ⟨1, 8, .func, [], [.nilfn], none⟩ := rfl
@[go_sem] theorem ty95 : ty 95 = some ⟨1, 24, .slice 96, [], [.nils], none⟩ := rfl
@[go_sem] theorem ty96 : ty 96 = some ⟨2, 24, .struct, [(0, 1), (1, 1)], [.str ⟨#[]⟩, .int .i64 0], none⟩ := rfl
@[go_sem] theorem ty97 : ty 97 = some ⟨1, 8, .ptr 99, [], [.nilp], none⟩ := rfl
@[go_sem] theorem ty98 : ty 98 = some ⟨4, 40, .struct, [(0, 1), (1, 1), (2, 1), (3, 1)], [.str ⟨#[]⟩, .int .i64 0, .int .i64 0, .int .i64 0], none⟩ := rfl
@[go_sem] theorem ty99 : ty 99 = some ⟨4, 40, .struct, [(0, 1), (1, 1), (2, 1), (3, 1)], [.str ⟨#[]⟩, .int .i64 0, .int .i64 0, .int .i64 0], none⟩ := rfl
@[go_sem] theorem ty100 : ty 100 = some ⟨1, 8, .func, [], [.nilfn], none⟩ := rfl
@[go_sem] theorem ty101 : ty 101 = some ⟨1, 8, .func, [], [.nilfn], none⟩ := rfl
@[go_sem] theorem ty102 : ty 102 = some ⟨1, 8, .func, [], [.nilfn], none⟩ := rfl
@[go_sem] theorem ty103 : ty 103 = some ⟨1, 8, .func, [], [.nilfn], none⟩ := rfl
@[go_sem] theorem ty104 : ty 104 = some ⟨1, 8, .func, [], [.nilfn], none⟩ := rfl
@[go_sem] theorem ty106 : ty 106 = some ⟨1, 8, .func, [], [.nilfn], none⟩ := rfl
@[go_sem] theorem ty107 : ty 107 = some ⟨1, 8, .int .u64, [], [.int .u64 0], none⟩ := rfl
@[go_sem] theorem ty108 : ty 108 = some ⟨1, 8, .func, [], [.nilfn], none⟩ := rfl
@[go_sem] theorem ty109 : ty 109 = some ⟨4, 40, .struct, [(0, 1), (1, 1), (2, 1), (3, 1)], [.nilp, .nilp, .nilp, .str ⟨#[]⟩], none⟩ := rfl
@[go_sem] theorem ty110 : ty 110 = some ⟨4, 40, .struct, [(0, 1), (1, 1), (2, 1), (3, 1)], [.nilp, .nilp, .nilp, .str ⟨#[]⟩], none⟩ := rfl
@[go_sem] theorem ty114 : ty 114 = some ⟨1, 8, .func, [], [.nilfn], none⟩ := rfl
@[go_sem] theorem ty115 : ty 115 = some ⟨1, 4, .int .u32, [], [.int .u32 0], none⟩ := rfl
@[go_sem] theorem ty116 : ty 116 = some ⟨1, 1, .int .u8, [], [.int .u8 0], none⟩ := rfl
@[go_sem] theorem ty117 : ty 117 = some ⟨1, 1, .int .u8, [], [.int .u8 0], none⟩ := rfl
@[go_sem] theorem ty118 : ty 118 = some ⟨1, 8, .func, [], [.nilfn], none⟩ := rfl
@[go_sem] theorem ty119 : ty 119 = some ⟨1, 8, .ptr 5, [], [.nilp], none⟩ := rfl
@[go_sem] theorem ty120 : ty 120 = some ⟨1, 4, .int .i32, [], [.int .i32 0], none⟩ := rfl
@[go_sem] theorem ty121 : ty 121 = some ⟨1, 4, .int .i32, [], [.int .i32 0], none⟩ := rfl
@[go_sem] theorem ty122 : ty 122 = some ⟨11, 48, .struct, [(0, 1), (1, 1), (2, 1), (3, 1), (4, 1), (5, 1), (6, 1), (7, 1), (8, 1), (9, 1), (10, 1)], [.int .u64 0, .int .u64 0, .int .u32 0, .int .u8 0, .int .u8 0, .int .u8 0, .int .u8 0, .nilfn, .nilp, .int .i32 0, .int .i32 0], none⟩ := rfl
@[go_sem] theorem ty123 : ty 123 = some ⟨11, 48, .struct, [(0, 1), (1, 1), (2, 1), (3, 1), (4, 1), (5, 1), (6, 1), (7, 1), (8, 1), (9, 1), (10, 1)], [.int .u64 0, .int .u64 0, .int .u32 0, .int .u8 0, .int .u8 0, .int .u8 0, .int .u8 0, .nilfn, .nilp, .int .i32 0, .int .i32 0], none⟩ := rfl
end Go.Proofs.YtienmmfjjffjaaaDoor

/- The functions that can be called. -/
namespace Go.Proofs.YtienmmfjjffjaaaDoor
open Go Go.Aw
theorem call2 : Callable Tryd.prog 2 := ⟨_, Tryd.func2, rfl, by decide⟩
theorem call3 : Callable Tryd.prog 3 := ⟨_, Tryd.func3, rfl, by decide⟩
theorem call4 : Callable Tryd.prog 4 := ⟨_, Tryd.func4, rfl, by decide⟩
theorem call5 : Callable Tryd.prog 5 := ⟨_, Tryd.func5, rfl, by decide⟩
theorem call6 : Callable Tryd.prog 6 := ⟨_, Tryd.func6, rfl, by decide⟩
theorem call7 : Callable Tryd.prog 7 := ⟨_, Tryd.func7, rfl, by decide⟩
theorem call8 : Callable Tryd.prog 8 := ⟨_, Tryd.func8, rfl, by decide⟩
theorem call9 : Callable Tryd.prog 9 := ⟨_, Tryd.func9, rfl, by decide⟩
theorem call10 : Callable Tryd.prog 10 := ⟨_, Tryd.func10, rfl, by decide⟩
theorem call11 : Callable Tryd.prog 11 := ⟨_, Tryd.func11, rfl, by decide⟩
theorem call12 : Callable Tryd.prog 12 := ⟨_, Tryd.func12, rfl, by decide⟩
theorem call13 : Callable Tryd.prog 13 := ⟨_, Tryd.func13, rfl, by decide⟩
theorem call14 : Callable Tryd.prog 14 := ⟨_, Tryd.func14, rfl, by decide⟩
theorem call15 : Callable Tryd.prog 15 := ⟨_, Tryd.func15, rfl, by decide⟩
theorem call16 : Callable Tryd.prog 16 := ⟨_, Tryd.func16, rfl, by decide⟩
theorem call17 : Callable Tryd.prog 17 := ⟨_, Tryd.func17, rfl, by decide⟩
theorem call18 : Callable Tryd.prog 18 := ⟨_, Tryd.func18, rfl, by decide⟩
theorem call19 : Callable Tryd.prog 19 := ⟨_, Tryd.func19, rfl, by decide⟩
theorem call20 : Callable Tryd.prog 20 := ⟨_, Tryd.func20, rfl, by decide⟩
theorem call21 : Callable Tryd.prog 21 := ⟨_, Tryd.func21, rfl, by decide⟩
theorem call22 : Callable Tryd.prog 22 := ⟨_, Tryd.func22, rfl, by decide⟩
theorem call23 : Callable Tryd.prog 23 := ⟨_, Tryd.func23, rfl, by decide⟩
theorem call24 : Callable Tryd.prog 24 := ⟨_, Tryd.func24, rfl, by decide⟩
theorem call25 : Callable Tryd.prog 25 := ⟨_, Tryd.func25, rfl, by decide⟩
theorem call26 : Callable Tryd.prog 26 := ⟨_, Tryd.func26, rfl, by decide⟩
theorem call27 : Callable Tryd.prog 27 := ⟨_, Tryd.func27, rfl, by decide⟩
theorem call28 : Callable Tryd.prog 28 := ⟨_, Tryd.func28, rfl, by decide⟩
theorem call29 : Callable Tryd.prog 29 := ⟨_, Tryd.func29, rfl, by decide⟩
theorem call30 : Callable Tryd.prog 30 := ⟨_, Tryd.func30, rfl, by decide⟩
theorem call31 : Callable Tryd.prog 31 := ⟨_, Tryd.func31, rfl, by decide⟩
theorem call32 : Callable Tryd.prog 32 := ⟨_, Tryd.func32, rfl, by decide⟩
theorem call33 : Callable Tryd.prog 33 := ⟨_, Tryd.func33, rfl, by decide⟩
theorem call34 : Callable Tryd.prog 34 := ⟨_, Tryd.func34, rfl, by decide⟩
theorem call35 : Callable Tryd.prog 35 := ⟨_, Tryd.func35, rfl, by decide⟩
theorem call36 : Callable Tryd.prog 36 := ⟨_, Tryd.func36, rfl, by decide⟩
theorem call37 : Callable Tryd.prog 37 := ⟨_, Tryd.func37, rfl, by decide⟩
theorem call38 : Callable Tryd.prog 38 := ⟨_, Tryd.func38, rfl, by decide⟩
theorem call39 : Callable Tryd.prog 39 := ⟨_, Tryd.func39, rfl, by decide⟩
theorem call40 : Callable Tryd.prog 40 := ⟨_, Tryd.func40, rfl, by decide⟩
theorem call41 : Callable Tryd.prog 41 := ⟨_, Tryd.func41, rfl, by decide⟩
theorem call42 : Callable Tryd.prog 42 := ⟨_, Tryd.func42, rfl, by decide⟩
theorem call43 : Callable Tryd.prog 43 := ⟨_, Tryd.func43, rfl, by decide⟩
theorem call44 : Callable Tryd.prog 44 := ⟨_, Tryd.func44, rfl, by decide⟩
theorem call45 : Callable Tryd.prog 45 := ⟨_, Tryd.func45, rfl, by decide⟩
theorem call46 : Callable Tryd.prog 46 := ⟨_, Tryd.func46, rfl, by decide⟩
theorem call47 : Callable Tryd.prog 47 := ⟨_, Tryd.func47, rfl, by decide⟩
theorem call48 : Callable Tryd.prog 48 := ⟨_, Tryd.func48, rfl, by decide⟩
theorem call49 : Callable Tryd.prog 49 := ⟨_, Tryd.func49, rfl, by decide⟩
theorem call50 : Callable Tryd.prog 50 := ⟨_, Tryd.func50, rfl, by decide⟩
theorem call51 : Callable Tryd.prog 51 := ⟨_, Tryd.func51, rfl, by decide⟩
theorem call52 : Callable Tryd.prog 52 := ⟨_, Tryd.func52, rfl, by decide⟩
theorem call53 : Callable Tryd.prog 53 := ⟨_, Tryd.func53, rfl, by decide⟩
theorem call54 : Callable Tryd.prog 54 := ⟨_, Tryd.func54, rfl, by decide⟩
theorem call55 : Callable Tryd.prog 55 := ⟨_, Tryd.func55, rfl, by decide⟩
theorem call56 : Callable Tryd.prog 56 := ⟨_, Tryd.func56, rfl, by decide⟩
theorem call57 : Callable Tryd.prog 57 := ⟨_, Tryd.func57, rfl, by decide⟩
theorem call58 : Callable Tryd.prog 58 := ⟨_, Tryd.func58, rfl, by decide⟩
theorem call59 : Callable Tryd.prog 59 := ⟨_, Tryd.func59, rfl, by decide⟩
theorem call60 : Callable Tryd.prog 60 := ⟨_, Tryd.func60, rfl, by decide⟩
theorem call61 : Callable Tryd.prog 61 := ⟨_, Tryd.func61, rfl, by decide⟩
theorem call62 : Callable Tryd.prog 62 := ⟨_, Tryd.func62, rfl, by decide⟩
theorem call63 : Callable Tryd.prog 63 := ⟨_, Tryd.func63, rfl, by decide⟩
theorem call64 : Callable Tryd.prog 64 := ⟨_, Tryd.func64, rfl, by decide⟩
theorem call65 : Callable Tryd.prog 65 := ⟨_, Tryd.func65, rfl, by decide⟩
theorem call66 : Callable Tryd.prog 66 := ⟨_, Tryd.func66, rfl, by decide⟩
theorem call67 : Callable Tryd.prog 67 := ⟨_, Tryd.func67, rfl, by decide⟩
theorem call68 : Callable Tryd.prog 68 := ⟨_, Tryd.func68, rfl, by decide⟩
theorem call69 : Callable Tryd.prog 69 := ⟨_, Tryd.func69, rfl, by decide⟩
theorem call70 : Callable Tryd.prog 70 := ⟨_, Tryd.func70, rfl, by decide⟩
theorem call71 : Callable Tryd.prog 71 := ⟨_, Tryd.func71, rfl, by decide⟩
theorem call72 : Callable Tryd.prog 72 := ⟨_, Tryd.func72, rfl, by decide⟩
theorem call73 : Callable Tryd.prog 73 := ⟨_, Tryd.func73, rfl, by decide⟩
theorem call74 : Callable Tryd.prog 74 := ⟨_, Tryd.func74, rfl, by decide⟩
end Go.Proofs.YtienmmfjjffjaaaDoor

/- Contracts of small functions. -/
namespace Go.Proofs.YtienmmfjjffjaaaDoor
open Go Go.Aw
variable {kr : ResO}
def GL (kr : ResO) : List (Nat × PV) := flatG kr 0 1
set_option maxHeartbeats 1000000 in
theorem c_flat_Num (n : Int) : Pur Tryd.prog (GL kr) 14 [.pv (.int .i64 n)] (.pv (enc (dnum n))) := by
  refine pur_of fun σ hgl => ?_
  refine acalls_of tyOk Tryd.func14 rfl (by simp [Tryd.f14]) ?_
  refine awp_seq ?_
  refine awp_region_run (sh := []) tyOk (by simp [go_sem] <;> rfl) ?_
  refine awp_seq ?_
  refine awp_region_run (sh := []) tyOk (by simp [go_sem] <;> rfl) ?_
  refine awp_ret ?_
  refine ends_ret (by simp [go_sem] <;> rfl) (by simp [go_sem]) ?_
  exact ⟨by simp [go_sem, enc_num], by simp [go_sem]⟩

set_option maxHeartbeats 1000000 in
theorem c_pagodaref01_Num (n : Int) : Pur Tryd.prog (GL kr) 19 [.pv (.int .i64 n)] (.pv (enc (dnum n))) := by
  refine pur_of fun σ hgl => ?_
  refine acalls_of tyOk Tryd.func19 rfl (by simp [Tryd.f19]) ?_
  refine awp_seq ?_
  refine awp_region_run (sh := []) tyOk (by simp [go_sem] <;> rfl) ?_
  refine awp_seq ?_
  refine awp_region_run (sh := []) tyOk (by simp [go_sem] <;> rfl) ?_
  refine awp_ret ?_
  refine ends_ret (by simp [go_sem] <;> rfl) (by simp [go_sem]) ?_
  exact ⟨by simp [go_sem, enc_num], by simp [go_sem]⟩

set_option maxHeartbeats 1000000 in
theorem c_flat_List (l : List D) : Pur Tryd.prog (GL kr) 11 [.pv (.slice (l.map enc))] (.pv (enc (dlist l))) := by
  refine pur_of fun σ hgl => ?_
  refine acalls_of tyOk Tryd.func11 rfl (by simp [Tryd.f11]) ?_
  refine awp_seq ?_
  refine awp_region_run (sh := []) tyOk (by simp [go_sem] <;> rfl) ?_
  refine awp_seq ?_
  refine awp_region_run (sh := []) tyOk (by simp [go_sem] <;> rfl) ?_
  refine awp_ret ?_
  refine ends_ret (by simp [go_sem] <;> rfl) (by simp [go_sem]) ?_
  exact ⟨by simp [go_sem, enc_list], by simp [go_sem]⟩

set_option maxHeartbeats 1000000 in
theorem c_flat_Canon_1 (n : Int) : Pur Tryd.prog (GL kr) 13 [.pv (.int .i64 n)] (.pv (enc (dnum n))) := by
  refine pur_of fun σ hgl => ?_
  refine acalls_of tyOk Tryd.func13 rfl (by simp [Tryd.f13]) ?_
  refine awp_seq ?_
  refine awp_region_run (sh := []) tyOk (by simp [go_sem] <;> rfl) ?_
  refine awp_seq ?_
  refine awp_reg ?_
  refine al_run 1 (sh := []) tyOk (by simp [go_sem] <;> rfl) ?_
  refine al_fn rfl rfl rfl (by simp [go_sem] <;> rfl) call14 ((c_flat_Num n) _ (by exact hgl)) (by simp [go_sem] <;> rfl) (by simp [go_sem]) rfl rfl ?_
  refine al_run 1 (sh := []) tyOk (by simp [go_sem] <;> rfl) ?_
  refine al_nil ?_
  refine awp_ret ?_
  refine ends_ret (by simp [go_sem] <;> rfl) (by simp [go_sem]) ?_
  exact ⟨by simp [go_sem], by simp [go_sem]⟩

set_option maxHeartbeats 1000000 in
theorem c_flat_Canon_2 (d : D) : Pur Tryd.prog (GL kr) 15 [.pv (enc d)] (.pv (enc d)) := by
  refine pur_of fun σ hgl => ?_
  refine acalls_of tyOk Tryd.func15 rfl (by simp [Tryd.f15]) ?_
  refine awp_seq ?_
  refine awp_region_run (sh := []) tyOk (by simp [go_sem] <;> rfl) ?_
  refine awp_seq ?_
  refine awp_region_run (sh := []) tyOk (by simp [go_sem] <;> rfl) ?_
  refine awp_ret ?_
  refine ends_ret (by simp [go_sem] <;> rfl) (by simp [go_sem]) ?_
  exact ⟨by simp [go_sem], by simp [go_sem]⟩

set_option maxHeartbeats 1000000 in
theorem c_flat_keyOf (d : D) : Pur Tryd.prog (GL kr) 28 [.pv (enc d)] (.pv (keyPV d)) := by
  refine pur_of fun σ hgl => ?_
  refine acalls_of tyOk Tryd.func28 rfl (by simp [Tryd.f28]) ?_
  refine awp_seq ?_
  refine awp_region_run (sh := []) tyOk (by simp [go_sem] <;> rfl) ?_
  refine awp_seq ?_
  refine awp_region_run (sh := []) tyOk (by simp [go_sem] <;> rfl) ?_
  refine awp_ret ?_
  refine ends_ret (by simp [go_sem] <;> rfl) (by simp [go_sem]) ?_
  exact ⟨by simp [go_sem, keyPV], by simp [go_sem]⟩

set_option maxHeartbeats 1000000 in
theorem c_datum_IsDigit (c : Int) : Pur Tryd.prog (GL kr) 66 [.pv (.int .u8 c)] (.pv (.bool (isDigit c))) := by
  refine pur_of fun σ hgl => ?_
  refine acalls_of tyOk Tryd.func66 rfl (by simp [Tryd.f66]) ?_
  refine awp_seq ?_
  refine awp_region_run (sh := []) tyOk (by simp [go_sem] <;> rfl) ?_
  refine awp_seq ?_
  refine awp_reg ?_
  refine al_run 3 (sh := []) tyOk (by simp [go_sem] <;> rfl) ?_
  refine al_splitT 5 (by first | rfl | (simp [go_sem] <;> rfl)) (fun h0 => ?_) (fun h0 => ?_)
  · refine al_runG (sh := []) 2 5 true true tyOk (by simp [go_sem]) rfl (by simp [go_sem]) rfl rfl (by simp [go_sem] <;> rfl) ?_
    refine al_run 2 (sh := []) tyOk (by simp [go_sem] <;> rfl) ?_
    refine al_nil ?_
    refine awp_ret ?_
    refine ends_ret (by simp [go_sem] <;> rfl) (by simp [go_sem]) ?_
    exact ⟨by simp [go_sem, h0, isDigit], by simp [go_sem]⟩
  · refine al_skip 2 5 true (by simp [go_sem]) (by simp [go_sem]) rfl rfl ?_
    refine al_run 2 (sh := []) tyOk (by simp [go_sem] <;> rfl) ?_
    refine al_nil ?_
    refine awp_ret ?_
    refine ends_ret (by simp [go_sem] <;> rfl) (by simp [go_sem]) ?_
    exact ⟨by simp [go_sem, h0, isDigit], by simp [go_sem]⟩

set_option maxHeartbeats 1000000 in
theorem c_pagodaref01_digit (c : Int) : Pur Tryd.prog (GL kr) 71 [.pv (.int .u8 c)] (.pv (.bool (isDigit c))) := by
  refine pur_of fun σ hgl => ?_
  refine acalls_of tyOk Tryd.func71 rfl (by simp [Tryd.f71]) ?_
  refine awp_seq ?_
  refine awp_region_run (sh := []) tyOk (by simp [go_sem] <;> rfl) ?_
  refine awp_seq ?_
  refine awp_reg ?_
  refine al_run 3 (sh := []) tyOk (by simp [go_sem] <;> rfl) ?_
  refine al_splitT 5 (by first | rfl | (simp [go_sem] <;> rfl)) (fun h0 => ?_) (fun h0 => ?_)
  · refine al_runG (sh := []) 2 5 true true tyOk (by simp [go_sem]) rfl (by simp [go_sem]) rfl rfl (by simp [go_sem] <;> rfl) ?_
    refine al_run 2 (sh := []) tyOk (by simp [go_sem] <;> rfl) ?_
    refine al_nil ?_
    refine awp_ret ?_
    refine ends_ret (by simp [go_sem] <;> rfl) (by simp [go_sem]) ?_
    exact ⟨by simp [go_sem, h0, isDigit], by simp [go_sem]⟩
  · refine al_skip 2 5 true (by simp [go_sem]) (by simp [go_sem]) rfl rfl ?_
    refine al_run 2 (sh := []) tyOk (by simp [go_sem] <;> rfl) ?_
    refine al_nil ?_
    refine awp_ret ?_
    refine ends_ret (by simp [go_sem] <;> rfl) (by simp [go_sem]) ?_
    exact ⟨by simp [go_sem, h0, isDigit], by simp [go_sem]⟩

set_option maxHeartbeats 1000000 in
theorem c_flat_IsCall (d : D) (h : d.kind = 3 → d.kids ≠ []) : Pur Tryd.prog (GL kr) 62 [.pv (enc d)] (.pv (.bool (isCall d))) := by
  refine pur_of fun σ hgl => ?_
  refine acalls_of tyOk Tryd.func62 rfl (by simp [Tryd.f62]) ?_
  refine awp_seq ?_
  refine awp_region_run (sh := []) tyOk (by simp [go_sem] <;> rfl) ?_
  refine awp_seq ?_
  refine awp_reg ?_
  refine al_run 4 (sh := []) tyOk (by simp [go_sem] <;> rfl) ?_
  refine al_splitT 6 (by first | rfl | (simp [go_sem] <;> rfl)) (fun h0 => ?_) (fun h0 => ?_)
  · obtain ⟨x, r, hx⟩ := kids_cons (h (by simpa using h0))
    refine al_runG (sh := []) 6 6 true true tyOk (by simp [go_sem]) rfl (by simp [go_sem]) rfl rfl (by simp [go_sem, hx] <;> rfl) ?_
    refine al_run 2 (sh := []) tyOk (by simp [go_sem, hx] <;> rfl) ?_
    refine al_nil ?_
    refine awp_ret ?_
    refine ends_ret (by simp [go_sem, hx] <;> rfl) (by simp [go_sem]) ?_
    exact ⟨by simp [go_sem, hx, h0, isCall, D.head, sCall], by simp [go_sem]⟩
  · refine al_skip 6 6 true (by simp [go_sem]) (by simp [go_sem]) rfl rfl ?_
    refine al_run 2 (sh := []) tyOk (by simp [go_sem] <;> rfl) ?_
    refine al_nil ?_
    refine awp_ret ?_
    refine ends_ret (by simp [go_sem] <;> rfl) (by simp [go_sem]) ?_
    exact ⟨by simp [go_sem, h0, isCall, D.head, sCall], by simp [go_sem]⟩

def ren137 : Go.Shelf.Ren := ⟨fun x => match x with | 137 => 70 | 217 => 74 | 266 => 75 | n => n, fun x => match x with | 3 => 3 | 5 => 5 | 9 => 9 | n => n, fun x => x⟩
theorem lays137 : Go.Proofs.Lays.n137 Tryd.prog ren137 :=
  { mixed := Eq.refl true,
    f137 := Eq.trans Tryd.func70 (congrArg some (by kernel_rfl)),
    f217 := Eq.trans Tryd.func74 (congrArg some (by kernel_rfl)),
    f266 := Eq.trans Tryd.func75 (congrArg some (by kernel_rfl)),
    t3 := Tryd.underlying3, a3 := Tryd.isAgg3, z3 := Tryd.sizeOf3,
    v3 := Tryd.zeroValue3, t5 := Tryd.underlying5, a5 := Tryd.isAgg5,
    z5 := Tryd.sizeOf5, v5 := Tryd.zeroValue5, t9 := Tryd.underlying9,
    a9 := Tryd.isAgg9, z9 := Tryd.sizeOf9, v9 := Tryd.zeroValue9 }
theorem c_IndexByte (s : ByteArray) (c : Int) : Pur Tryd.prog (GL kr) 70 [.pv (.str s), .pv (.int .u8 c)] (.pv (.int .i64 (Lib.indexByte s.data.toList c.toNat.toUInt8))) :=
  pur_of_calls (ps := [.str s, .int .u8 c]) [.str, .int .u8] rfl (.int .i64) rfl fun w => Go.Proofs.Any.strings_IndexByte lays137 s c w

set_option maxHeartbeats 1000000 in
theorem c_datum_IsAtom (c : Int) : Pur Tryd.prog (GL kr) 67 [.pv (.int .u8 c)] (.pv (.bool (isAtom c))) := by
  refine pur_of fun σ hgl => ?_
  refine acalls_of tyOk Tryd.func67 rfl (by simp [Tryd.f67]) ?_
  refine awp_seq ?_
  refine awp_region_run (sh := []) tyOk (by simp [go_sem] <;> rfl) ?_
  refine awp_seq ?_
  refine awp_reg ?_
  refine al_run 3 (sh := []) tyOk (by simp [go_sem] <;> rfl) ?_
  refine al_splitT 5 (by first | rfl | (simp [go_sem] <;> rfl)) (fun h0 => ?_) (fun h0 => ?_)
  · refine al_runG (sh := []) 2 5 true true tyOk (by simp [go_sem]) rfl (by simp [go_sem]) rfl rfl (by simp [go_sem] <;> rfl) ?_
    refine al_run 2 (sh := []) tyOk (by simp [go_sem] <;> rfl) ?_
    refine al_splitT 9 (by first | rfl | (simp [go_sem] <;> rfl)) (fun h1 => ?_) (fun h1 => ?_)
    · refine al_skip 2 9 false (by simp [go_sem]) (by simp [go_sem]) rfl rfl ?_
      refine al_run 2 (sh := []) tyOk (by simp [go_sem] <;> rfl) ?_
      refine al_skip 3 13 false (by simp [go_sem]) (by simp [go_sem]) rfl rfl ?_
      refine al_run 2 (sh := []) tyOk (by simp [go_sem] <;> rfl) ?_
      refine al_nil ?_
      refine awp_ret ?_
      refine ends_ret (by simp [go_sem] <;> rfl) (by simp [go_sem]) ?_
      exact ⟨by simp [go_sem, h0, h1, isAtom, isLower], by simp [go_sem]⟩
    · refine al_runG (sh := []) 1 9 false false tyOk (by simp [go_sem]) rfl (by simp [go_sem]) rfl rfl (by simp [go_sem] <;> rfl) ?_
      refine al_fnG 9 false false (by simp [go_sem]) rfl (by simp [go_sem]) rfl rfl (by simp [go_sem] <;> rfl) call66 ((c_datum_IsDigit c) _ (by exact hgl)) (by simp [go_sem] <;> rfl) (by simp [go_sem]) rfl rfl ?_
      refine al_run 2 (sh := []) tyOk (by simp [go_sem] <;> rfl) ?_
      refine al_splitT 13 (by first | rfl | (simp [go_sem] <;> rfl)) (fun h2 => ?_) (fun h2 => ?_)
      · refine al_skip 3 13 false (by simp [go_sem]) (by simp [go_sem]) rfl rfl ?_
        refine al_run 2 (sh := []) tyOk (by simp [go_sem] <;> rfl) ?_
        refine al_nil ?_
        refine awp_ret ?_
        refine ends_ret (by simp [go_sem] <;> rfl) (by simp [go_sem]) ?_
        exact ⟨by simp [go_sem, h0, h1, h2, isAtom, isLower], by simp [go_sem]⟩
      · refine al_runG (sh := []) 1 13 false false tyOk (by simp [go_sem]) rfl (by simp [go_sem]) rfl rfl (by simp [go_sem] <;> rfl) ?_
        refine al_fnG 13 false false (by simp [go_sem]) rfl (by simp [go_sem]) rfl rfl (by simp [go_sem] <;> rfl) call70 ((c_IndexByte ⟨#[43, 45, 42, 47, 60, 61, 62, 63, 33, 95, 46]⟩ c) _ (by exact hgl)) (by simp [go_sem] <;> rfl) (by simp [go_sem]) rfl rfl ?_
        refine al_runG (sh := []) 1 13 false false tyOk (by simp [go_sem]) rfl (by simp [go_sem]) rfl rfl (by simp [go_sem] <;> rfl) ?_
        refine al_run 2 (sh := []) tyOk (by simp [go_sem] <;> rfl) ?_
        refine al_nil ?_
        refine awp_ret ?_
        refine ends_ret (by simp [go_sem] <;> rfl) (by simp [go_sem]) ?_
        exact ⟨by simp [go_sem, h0, h1, h2, isAtom, isLower], by simp [go_sem]⟩
  · refine al_skip 2 5 true (by simp [go_sem]) (by simp [go_sem]) rfl rfl ?_
    refine al_run 2 (sh := []) tyOk (by simp [go_sem] <;> rfl) ?_
    refine al_runG (sh := []) 1 9 false false tyOk (by simp [go_sem]) rfl (by simp [go_sem]) rfl rfl (by simp [go_sem] <;> rfl) ?_
    refine al_fnG 9 false false (by simp [go_sem]) rfl (by simp [go_sem]) rfl rfl (by simp [go_sem] <;> rfl) call66 ((c_datum_IsDigit c) _ (by exact hgl)) (by simp [go_sem] <;> rfl) (by simp [go_sem]) rfl rfl ?_
    refine al_run 2 (sh := []) tyOk (by simp [go_sem] <;> rfl) ?_
    refine al_splitT 13 (by first | rfl | (simp [go_sem] <;> rfl)) (fun h3 => ?_) (fun h3 => ?_)
    · refine al_skip 3 13 false (by simp [go_sem]) (by simp [go_sem]) rfl rfl ?_
      refine al_run 2 (sh := []) tyOk (by simp [go_sem] <;> rfl) ?_
      refine al_nil ?_
      refine awp_ret ?_
      refine ends_ret (by simp [go_sem] <;> rfl) (by simp [go_sem]) ?_
      exact ⟨by simp [go_sem, h0, h3, isAtom, isLower], by simp [go_sem]⟩
    · refine al_runG (sh := []) 1 13 false false tyOk (by simp [go_sem]) rfl (by simp [go_sem]) rfl rfl (by simp [go_sem] <;> rfl) ?_
      refine al_fnG 13 false false (by simp [go_sem]) rfl (by simp [go_sem]) rfl rfl (by simp [go_sem] <;> rfl) call70 ((c_IndexByte ⟨#[43, 45, 42, 47, 60, 61, 62, 63, 33, 95, 46]⟩ c) _ (by exact hgl)) (by simp [go_sem] <;> rfl) (by simp [go_sem]) rfl rfl ?_
      refine al_runG (sh := []) 1 13 false false tyOk (by simp [go_sem]) rfl (by simp [go_sem]) rfl rfl (by simp [go_sem] <;> rfl) ?_
      refine al_run 2 (sh := []) tyOk (by simp [go_sem] <;> rfl) ?_
      refine al_nil ?_
      refine awp_ret ?_
      refine ends_ret (by simp [go_sem] <;> rfl) (by simp [go_sem]) ?_
      exact ⟨by simp [go_sem, h0, h3, isAtom, isLower], by simp [go_sem]⟩

set_option maxHeartbeats 1000000 in
theorem c_pagodaref01_Letter (c : Int) : Pur Tryd.prog (GL kr) 68 [.pv (.int .u8 c)] (.pv (.bool (letter c))) := by
  refine pur_of fun σ hgl => ?_
  refine acalls_of tyOk Tryd.func68 rfl (by simp [Tryd.f68]) ?_
  refine awp_seq ?_
  refine awp_region_run (sh := []) tyOk (by simp [go_sem] <;> rfl) ?_
  refine awp_seq ?_
  refine awp_seq ?_
  refine awp_region_run (sh := []) tyOk (by simp [go_sem] <;> rfl) ?_
  refine awp_block ?_
  refine awp_loop_headK σ.objs.length σ.toks.length 0 [0, 2] (fun k : Nat => [(3, .pv (.int .i64 ↑k))]) (fun k => σ) (fun k => k ≤ 11 ∧ NotYet (fun k : Nat => c == byteAt atomS k) (List.range 11) k) (fun k => 11 - k) 0 (⟨Nat.zero_le _, .zero⟩) ⟨by simp [go_sem], rfl, by simp, by simp, by simp [go_sem], fun ob h => .inl (by simpa [go_sem] using h), by simp [go_sem]⟩ ?_
  rintro k ⟨hk, hn⟩
  refine awp_seq ?_
  refine awp_seq ?_
  refine awp_region_run (sh := []) tyOk (by simp [go_sem] <;> rfl) ?_
  refine awp_cond (by first | rfl | (simp [go_sem] <;> rfl)) (fun h0 => ?_) (fun h0 => ?_)
  · have hlt : k < 11 := by simp at h0; omega
    have hw : IntKind.i64.wrap (↑k + 1) = (k : Int) + 1 := wrap_succ (by omega)
    have hr : (List.range 11)[k]? = some k := by simp [hlt]
    have hz : (↑k : Int) < 11 := by omega
    have hat : byteAt ⟨#[43, 45, 42, 47, 60, 61, 62, 63, 33, 95, 46]⟩ ↑k = byteAt atomS ↑k := rfl
    refine awp_skip ?_
    refine awp_seq ?_
    refine awp_block ?_
    refine awp_seq ?_
    refine awp_region_run (sh := []) tyOk (by simp [go_sem, hz, hat] <;> rfl) ?_
    refine awp_cond (by first | rfl | (simp [go_sem, hz, hat] <;> rfl)) (fun h1 => ?_) (fun h1 => ?_)
    · refine awp_seq ?_
      refine awp_region_run (sh := []) tyOk (by simp [go_sem, hz, hat] <;> rfl) ?_
      refine awp_ret ?_
      refine inBlock_ret ?_
      refine then_ret ?_
      refine then_ret ?_
      refine inBlock_ret ?_
      refine then_ret ?_
      refine ends_ret (by simp [go_sem] <;> rfl) (by simp [go_sem]) ?_
      have hany : inAtoms c = true := any_found (p := fun k : Nat => c == byteAt atomS k) hr h1
      exact ⟨by simp [go_sem, letter, hany], by simp [go_sem]⟩
    · refine awp_skip ?_
      refine awp_region_run (sh := []) tyOk (by simp [go_sem, hz, hat] <;> rfl) ?_
      exact next_intro (k + 1) σ.objs.length σ.toks.length 0 (⟨hlt, hn.succ hr (by simpa using h1)⟩) (by omega) ⟨by simp [go_sem, hz, hat, hw], rfl, by simp, by simp, by simp [go_sem, hz, hat, hw], fun ob h => .inl (by simpa [go_sem, hz, hat, hw] using h), by simp [go_sem]⟩
  · have hke : k = 11 := by simp at h0; omega
    subst hke
    have hany : inAtoms c = false := hn.any (l := List.range 11)
    refine awp_exit ?_
    refine then_exit ?_
    refine then_exit ?_
    refine inBlock_hit ?_
    refine awp_seq ?_
    refine awp_reg ?_
    refine al_run 1 (sh := []) tyOk (by simp [go_sem, hany] <;> rfl) ?_
    refine al_fn rfl rfl rfl (by simp [go_sem, hany] <;> rfl) call71 ((c_pagodaref01_digit c) _ (by exact hgl)) (by simp [go_sem, hany] <;> rfl) (by simp [go_sem, hany]) rfl rfl ?_
    refine al_run 1 (sh := []) tyOk (by simp [go_sem, hany] <;> rfl) ?_
    refine al_splitT 14 (by first | rfl | (simp [go_sem, hany] <;> rfl)) (fun h2 => ?_) (fun h2 => ?_)
    · refine al_skip 3 14 false (by simp [go_sem]) (by simp [go_sem]) rfl rfl ?_
      refine al_skip 2 17 true (by simp [go_sem]) (by simp [go_sem]) rfl rfl ?_
      refine al_skip 1 14 false (by simp [go_sem]) (by simp [go_sem]) rfl rfl ?_
      refine al_run 2 (sh := []) tyOk (by simp [go_sem, hany] <;> rfl) ?_
      refine al_nil ?_
      refine awp_ret ?_
      refine ends_ret (by simp [go_sem, hany] <;> rfl) (by simp [go_sem]) ?_
      exact ⟨by simp [go_sem, hany, h2, letter, isLower], by simp [go_sem]⟩
    · refine al_runG (sh := []) 3 14 false false tyOk (by simp [go_sem]) rfl (by simp [go_sem]) rfl rfl (by simp [go_sem, hany] <;> rfl) ?_
      refine al_splitT 17 (by first | rfl | (simp [go_sem, hany] <;> rfl)) (fun h3 => ?_) (fun h3 => ?_)
      · refine al_runG (sh := []) 2 17 true true tyOk (by simp [go_sem]) rfl (by simp [go_sem]) rfl rfl (by simp [go_sem, hany] <;> rfl) ?_
        refine al_runG (sh := []) 1 14 false false tyOk (by simp [go_sem]) rfl (by simp [go_sem]) rfl rfl (by simp [go_sem, hany] <;> rfl) ?_
        refine al_run 2 (sh := []) tyOk (by simp [go_sem, hany] <;> rfl) ?_
        refine al_nil ?_
        refine awp_ret ?_
        refine ends_ret (by simp [go_sem, hany] <;> rfl) (by simp [go_sem]) ?_
        exact ⟨by simp [go_sem, hany, h2, h3, letter, isLower], by simp [go_sem]⟩
      · refine al_skip 2 17 true (by simp [go_sem]) (by simp [go_sem]) rfl rfl ?_
        refine al_runG (sh := []) 1 14 false false tyOk (by simp [go_sem]) rfl (by simp [go_sem]) rfl rfl (by simp [go_sem, hany] <;> rfl) ?_
        refine al_run 2 (sh := []) tyOk (by simp [go_sem, hany] <;> rfl) ?_
        refine al_nil ?_
        refine awp_ret ?_
        refine ends_ret (by simp [go_sem, hany] <;> rfl) (by simp [go_sem]) ?_
        exact ⟨by simp [go_sem, hany, h2, h3, letter, isLower], by simp [go_sem]⟩

end Go.Proofs.YtienmmfjjffjaaaDoor

/- Contracts of small functions, two. -/
namespace Go.Proofs.YtienmmfjjffjaaaDoor
open Go Go.Aw
variable {kr : ResO}
set_option maxHeartbeats 1000000 in
theorem c_datum_IsSymbol (s : ByteArray) : Pur Tryd.prog (GL kr) 53 [.pv (.str s)] (.pv (.bool (isSym isAtom s))) := by
  refine pur_of fun σ hgl => ?_
  refine acalls_of tyOk Tryd.func53 rfl (by simp [Tryd.f53]) ?_
  refine awp_seq ?_
  refine awp_region_run (sh := []) tyOk (by simp [go_sem, bt0, bt1] <;> rfl) ?_
  refine awp_seq ?_
  refine awp_seq ?_
  refine awp_reg ?_
  refine al_run 4 (sh := []) tyOk (by simp [go_sem, bt0, bt1] <;> rfl) ?_
  refine al_splitT 7 (by first | rfl | (simp [go_sem, bt0, bt1] <;> rfl)) (fun h0 => ?_) (fun h0 => ?_)
  · refine al_skip 3 7 false (by simp [go_sem]) (by simp [go_sem]) rfl rfl ?_
    refine al_run 2 (sh := []) tyOk (by simp [go_sem, bt0, bt1] <;> rfl) ?_
    refine al_skip 3 12 false (by simp [go_sem]) (by simp [go_sem]) rfl rfl ?_
    refine al_run 2 (sh := []) tyOk (by simp [go_sem, bt0, bt1] <;> rfl) ?_
    refine al_skip 4 17 false (by simp [go_sem]) (by simp [go_sem]) rfl rfl ?_
    refine al_skip 3 21 true (by simp [go_sem]) (by simp [go_sem]) rfl rfl ?_
    refine al_skip 2 17 false (by simp [go_sem]) (by simp [go_sem]) rfl rfl ?_
    refine al_skip 3 26 true (by simp [go_sem]) (by simp [go_sem]) rfl rfl ?_
    refine al_skip 1 17 false (by simp [go_sem]) (by simp [go_sem]) rfl rfl ?_
    refine al_run 1 (sh := []) tyOk (by simp [go_sem, bt0, bt1] <;> rfl) ?_
    refine al_nil ?_
    refine awp_cond (b := true) (by simp [go_sem, bt0, bt1, h0]) (fun h => ?_) (fun h => ?_)
    rotate_left
    · cases h
    refine awp_seq ?_
    refine awp_region_run (sh := []) tyOk (by simp [go_sem, bt0, bt1] <;> rfl) ?_
    refine awp_ret ?_
    refine then_ret ?_
    refine ends_ret (by simp [go_sem, bt0, bt1] <;> rfl) (by simp [go_sem]) ?_
    exact ⟨by simp only [isSym, bt0, bt1, h0, Bool.true_or, Bool.or_true, Bool.false_or, Bool.or_false, Bool.true_and, Bool.and_true, Bool.false_and, Bool.and_false, Bool.not_true, Bool.not_false, Bool.false_eq_true, if_true, if_false]; simp [go_sem], by simp [go_sem]⟩
  · have hp : 0 < s.size := by have := h0; simp only [beq_eq_false_iff_ne, decide_eq_false_iff_not] at this; omega
    refine al_runG (sh := []) 3 7 false false tyOk (by simp [go_sem]) rfl (by simp [go_sem]) rfl rfl (by simp [go_sem, bt0, bt1, hp] <;> rfl) ?_
    refine al_run 2 (sh := []) tyOk (by simp [go_sem, bt0, bt1, hp] <;> rfl) ?_
    refine al_splitT 12 (by first | rfl | (simp [go_sem, bt0, bt1, hp] <;> rfl)) (fun h1 => ?_) (fun h1 => ?_)
    · refine al_skip 3 12 false (by simp [go_sem]) (by simp [go_sem]) rfl rfl ?_
      refine al_run 2 (sh := []) tyOk (by simp [go_sem, bt0, bt1, hp] <;> rfl) ?_
      refine al_skip 4 17 false (by simp [go_sem]) (by simp [go_sem]) rfl rfl ?_
      refine al_skip 3 21 true (by simp [go_sem]) (by simp [go_sem]) rfl rfl ?_
      refine al_skip 2 17 false (by simp [go_sem]) (by simp [go_sem]) rfl rfl ?_
      refine al_skip 3 26 true (by simp [go_sem]) (by simp [go_sem]) rfl rfl ?_
      refine al_skip 1 17 false (by simp [go_sem]) (by simp [go_sem]) rfl rfl ?_
      refine al_run 1 (sh := []) tyOk (by simp [go_sem, bt0, bt1, hp] <;> rfl) ?_
      refine al_nil ?_
      refine awp_cond (b := true) (by simp [go_sem, bt0, bt1, hp, h0, h1]) (fun h => ?_) (fun h => ?_)
      rotate_left
      · cases h
      refine awp_seq ?_
      refine awp_region_run (sh := []) tyOk (by simp [go_sem, bt0, bt1, hp] <;> rfl) ?_
      refine awp_ret ?_
      refine then_ret ?_
      refine ends_ret (by simp [go_sem, bt0, bt1, hp] <;> rfl) (by simp [go_sem]) ?_
      exact ⟨by simp only [isSym, bt0, bt1, hp, h0, h1, Bool.true_or, Bool.or_true, Bool.false_or, Bool.or_false, Bool.true_and, Bool.and_true, Bool.false_and, Bool.and_false, Bool.not_true, Bool.not_false, Bool.false_eq_true, if_true, if_false]; simp [go_sem], by simp [go_sem]⟩
    · have h40 : s.size ≤ 40 := by simp at h1; omega
      refine al_runG (sh := []) 2 12 false false tyOk (by simp [go_sem]) rfl (by simp [go_sem]) rfl rfl (by simp [go_sem, bt0, bt1, hp] <;> rfl) ?_
      refine al_fnG 12 false false (by simp [go_sem]) rfl (by simp [go_sem]) rfl rfl (by simp [go_sem, bt0, bt1, hp] <;> rfl) call66 ((c_datum_IsDigit (bt s 0)) _ (by exact hgl)) (by simp [go_sem, bt0, bt1, hp] <;> rfl) (by simp [go_sem, bt0, bt1, hp]) rfl rfl ?_
      refine al_run 2 (sh := []) tyOk (by simp [go_sem, bt0, bt1, hp] <;> rfl) ?_
      refine al_splitT 17 (by first | rfl | (simp [go_sem, bt0, bt1, hp] <;> rfl)) (fun h2 => ?_) (fun h2 => ?_)
      · refine al_skip 4 17 false (by simp [go_sem]) (by simp [go_sem]) rfl rfl ?_
        refine al_skip 3 21 true (by simp [go_sem]) (by simp [go_sem]) rfl rfl ?_
        refine al_skip 2 17 false (by simp [go_sem]) (by simp [go_sem]) rfl rfl ?_
        refine al_skip 3 26 true (by simp [go_sem]) (by simp [go_sem]) rfl rfl ?_
        refine al_skip 1 17 false (by simp [go_sem]) (by simp [go_sem]) rfl rfl ?_
        refine al_run 1 (sh := []) tyOk (by simp [go_sem, bt0, bt1, hp] <;> rfl) ?_
        refine al_nil ?_
        refine awp_cond (b := true) (by simp [go_sem, bt0, bt1, hp, h0, h1, h2]) (fun h => ?_) (fun h => ?_)
        rotate_left
        · cases h
        refine awp_seq ?_
        refine awp_region_run (sh := []) tyOk (by simp [go_sem, bt0, bt1, hp] <;> rfl) ?_
        refine awp_ret ?_
        refine then_ret ?_
        refine ends_ret (by simp [go_sem, bt0, bt1, hp] <;> rfl) (by simp [go_sem]) ?_
        exact ⟨by simp only [isSym, bt0, bt1, hp, h0, h1, h2, Bool.true_or, Bool.or_true, Bool.false_or, Bool.or_false, Bool.true_and, Bool.and_true, Bool.false_and, Bool.and_false, Bool.not_true, Bool.not_false, Bool.false_eq_true, if_true, if_false]; simp [go_sem], by simp [go_sem]⟩
      · refine al_runG (sh := []) 4 17 false false tyOk (by simp [go_sem]) rfl (by simp [go_sem]) rfl rfl (by simp [go_sem, bt0, bt1, hp] <;> rfl) ?_
        refine al_splitT 21 (by first | rfl | (simp [go_sem, bt0, bt1, hp] <;> rfl)) (fun h3 => ?_) (fun h3 => ?_)
        · refine al_runG (sh := []) 3 21 true true tyOk (by simp [go_sem]) rfl (by simp [go_sem]) rfl rfl (by simp [go_sem, bt0, bt1, hp] <;> rfl) ?_
          refine al_runG (sh := []) 2 17 false false tyOk (by simp [go_sem]) rfl (by simp [go_sem]) rfl rfl (by simp [go_sem, bt0, bt1, hp] <;> rfl) ?_
          refine al_splitT 26 (by first | rfl | (simp [go_sem, bt0, bt1, hp] <;> rfl)) (fun h4 => ?_) (fun h4 => ?_)
          · have hp1 : (1 : Int) < s.size := by simpa using h4
            refine al_runG (sh := []) 2 26 true true tyOk (by simp [go_sem]) rfl (by simp [go_sem]) rfl rfl (by simp [go_sem, bt0, bt1, hp, hp1] <;> rfl) ?_
            refine al_fnG 26 true true (by simp [go_sem]) rfl (by simp [go_sem]) rfl rfl (by simp [go_sem, bt0, bt1, hp, hp1] <;> rfl) call66 ((c_datum_IsDigit (bt s 1)) _ (by exact hgl)) (by simp [go_sem, bt0, bt1, hp, hp1] <;> rfl) (by simp [go_sem, bt0, bt1, hp, hp1]) rfl rfl ?_
            refine al_runG (sh := []) 1 17 false false tyOk (by simp [go_sem]) rfl (by simp [go_sem]) rfl rfl (by simp [go_sem, bt0, bt1, hp, hp1] <;> rfl) ?_
            refine al_run 1 (sh := []) tyOk (by simp [go_sem, bt0, bt1, hp, hp1] <;> rfl) ?_
            refine al_nil ?_
            refine awp_cond (by first | rfl | (simp [go_sem, bt0, bt1, hp, hp1] <;> rfl)) (fun h5 => ?_) (fun h5 => ?_)
            · refine awp_seq ?_
              refine awp_region_run (sh := []) tyOk (by simp [go_sem, bt0, bt1, hp, hp1] <;> rfl) ?_
              refine awp_ret ?_
              refine then_ret ?_
              refine ends_ret (by simp [go_sem, bt0, bt1, hp, hp1] <;> rfl) (by simp [go_sem]) ?_
              exact ⟨by simp only [isSym, bt0, bt1, hp, hp1, h0, h1, h2, h3, h4, h5, Bool.true_or, Bool.or_true, Bool.false_or, Bool.or_false, Bool.true_and, Bool.and_true, Bool.false_and, Bool.and_false, Bool.not_true, Bool.not_false, Bool.false_eq_true, if_true, if_false]; simp [go_sem], by simp [go_sem]⟩
            · refine awp_skip ?_
              refine awp_seq ?_
              refine awp_seq ?_
              refine awp_region_run (sh := []) tyOk (by simp [go_sem, bt0, bt1, hp, hp1] <;> rfl) ?_
              refine awp_block ?_
              refine awp_loop_headK σ.objs.length σ.toks.length 0 [0, 2, 33] (fun k : Nat => [(34, .pv (.int .i64 ↑k))]) (fun k => σ) (fun k => k ≤ s.size ∧ NotYet (fun i => !isAtom (bt s i)) (List.range s.size) k) (fun k => s.size - k) 0 (⟨Nat.zero_le _, .zero⟩) ⟨by simp [go_sem, bt0, bt1, hp, hp1], rfl, by simp, by simp, by simp [go_sem, bt0, bt1, hp, hp1], fun ob h => .inl (by simpa [go_sem, bt0, bt1, hp, hp1] using h), by simp [go_sem]⟩ ?_
              rintro k ⟨hk, hn⟩
              refine awp_seq ?_
              refine awp_region_run (sh := []) tyOk (by simp [go_sem, bt0, bt1, hp, hp1] <;> rfl) ?_
              refine awp_seq ?_
              refine awp_cond (by first | rfl | (simp [go_sem, bt0, bt1, hp, hp1] <;> rfl)) (fun h6 => ?_) (fun h6 => ?_)
              · have hlt : k < s.size := by simp at h6; omega
                have hw : IntKind.i64.wrap (↑k + 1) = (k : Int) + 1 := wrap_succ (by omega)
                have hr : (List.range s.size)[k]? = some k := by simp [hlt]
                have hz : (k : Int) < s.size := by omega
                refine awp_skip ?_
                refine awp_seq ?_
                refine awp_block ?_
                refine awp_seq ?_
                refine awp_region_run (sh := []) tyOk (by simp [go_sem, bt0, bt1, hp, hp1, hz, bt_eq] <;> rfl) ?_
                refine awp_seq ?_
                refine awp_reg ?_
                refine al_run 3 (sh := []) tyOk (by simp [go_sem, bt0, bt1, hp, hp1, hz, bt_eq] <;> rfl) ?_
                refine al_fn rfl rfl rfl (by simp [go_sem, bt0, bt1, hp, hp1, hz, bt_eq] <;> rfl) call67 ((c_datum_IsAtom (bt s k)) _ (by exact hgl)) (by simp [go_sem, bt0, bt1, hp, hp1, hz, bt_eq] <;> rfl) (by simp [go_sem, bt0, bt1, hp, hp1, hz, bt_eq]) rfl rfl ?_
                refine al_run 1 (sh := []) tyOk (by simp [go_sem, bt0, bt1, hp, hp1, hz, bt_eq] <;> rfl) ?_
                refine al_nil ?_
                refine awp_cond (by first | rfl | (simp [go_sem, bt0, bt1, hp, hp1, hz, bt_eq] <;> rfl)) (fun h7 => ?_) (fun h7 => ?_)
                · refine awp_seq ?_
                  refine awp_region_run (sh := []) tyOk (by simp [go_sem, bt0, bt1, hp, hp1, hz, bt_eq] <;> rfl) ?_
                  refine awp_ret ?_
                  refine inBlock_ret ?_
                  refine then_ret ?_
                  refine then_ret ?_
                  refine inBlock_ret ?_
                  refine then_ret ?_
                  refine ends_ret (by simp [go_sem] <;> rfl) (by simp [go_sem]) ?_
                  have hall : (List.range s.size).all (fun i => isAtom (bt s i)) = false := all_found hlt (by simpa [bt_eq] using h7)
                  exact ⟨by simp only [isSym, hall, Bool.true_or, Bool.or_true, Bool.false_or, Bool.or_false, Bool.true_and, Bool.and_true, Bool.false_and, Bool.and_false, Bool.not_true, Bool.not_false, Bool.false_eq_true, if_true, if_false]; simp [go_sem], by simp [go_sem]⟩
                · refine awp_skip ?_
                  refine awp_region_run (sh := []) tyOk (by simp [go_sem, bt0, bt1, hp, hp1, hz, bt_eq] <;> rfl) ?_
                  exact next_intro (k + 1) σ.objs.length σ.toks.length 0 (⟨hlt, hn.succ hr (by simpa [bt_eq] using h7)⟩) (by omega) ⟨by simp [go_sem, bt0, bt1, hp, hp1, hz, bt_eq, hw], rfl, by simp, by simp, by simp [go_sem, bt0, bt1, hp, hp1, hz, bt_eq, hw], fun ob h => .inl (by simpa [go_sem, bt0, bt1, hp, hp1, hz, bt_eq, hw] using h), by simp [go_sem]⟩
              · have hke : k = s.size := by simp at h6; omega
                subst hke
                have hall : (List.range s.size).all (fun i => isAtom (bt s i)) = true := all_of_notYet hn
                refine awp_exit ?_
                refine then_exit ?_
                refine then_exit ?_
                refine inBlock_hit ?_
                refine awp_seq ?_
                refine awp_region_run (sh := []) tyOk (by simp [go_sem, bt0, bt1, hp, hp1, hall] <;> rfl) ?_
                refine awp_ret ?_
                refine ends_ret (by simp [go_sem, bt0, bt1, hp, hp1, hall] <;> rfl) (by simp [go_sem]) ?_
                exact ⟨by simp only [isSym, bt0, bt1, hp, hp1, hall, h0, h1, h2, h3, h4, h5, Bool.true_or, Bool.or_true, Bool.false_or, Bool.or_false, Bool.true_and, Bool.and_true, Bool.false_and, Bool.and_false, Bool.not_true, Bool.not_false, Bool.false_eq_true, if_true, if_false]; simp [go_sem], by simp [go_sem]⟩
          · refine al_skip 3 26 true (by simp [go_sem]) (by simp [go_sem]) rfl rfl ?_
            refine al_runG (sh := []) 1 17 false false tyOk (by simp [go_sem]) rfl (by simp [go_sem]) rfl rfl (by simp [go_sem, bt0, bt1, hp] <;> rfl) ?_
            refine al_run 1 (sh := []) tyOk (by simp [go_sem, bt0, bt1, hp] <;> rfl) ?_
            refine al_nil ?_
            refine awp_cond (b := false) (by simp [go_sem, bt0, bt1, hp, h0, h1, h2, h3, h4]) (fun h => ?_) (fun h => ?_)
            · cases h
            refine awp_skip ?_
            refine awp_seq ?_
            refine awp_seq ?_
            refine awp_region_run (sh := []) tyOk (by simp [go_sem, bt0, bt1, hp] <;> rfl) ?_
            refine awp_block ?_
            refine awp_loop_headK σ.objs.length σ.toks.length 0 [0, 2, 33] (fun k : Nat => [(34, .pv (.int .i64 ↑k))]) (fun k => σ) (fun k => k ≤ s.size ∧ NotYet (fun i => !isAtom (bt s i)) (List.range s.size) k) (fun k => s.size - k) 0 (⟨Nat.zero_le _, .zero⟩) ⟨by simp [go_sem, bt0, bt1, hp], rfl, by simp, by simp, by simp [go_sem, bt0, bt1, hp], fun ob h => .inl (by simpa [go_sem, bt0, bt1, hp] using h), by simp [go_sem]⟩ ?_
            rintro k ⟨hk, hn⟩
            refine awp_seq ?_
            refine awp_region_run (sh := []) tyOk (by simp [go_sem, bt0, bt1, hp] <;> rfl) ?_
            refine awp_seq ?_
            refine awp_cond (by first | rfl | (simp [go_sem, bt0, bt1, hp] <;> rfl)) (fun h8 => ?_) (fun h8 => ?_)
            · have hlt : k < s.size := by simp at h8; omega
              have hw : IntKind.i64.wrap (↑k + 1) = (k : Int) + 1 := wrap_succ (by omega)
              have hr : (List.range s.size)[k]? = some k := by simp [hlt]
              have hz : (k : Int) < s.size := by omega
              refine awp_skip ?_
              refine awp_seq ?_
              refine awp_block ?_
              refine awp_seq ?_
              refine awp_region_run (sh := []) tyOk (by simp [go_sem, bt0, bt1, hp, hz, bt_eq] <;> rfl) ?_
              refine awp_seq ?_
              refine awp_reg ?_
              refine al_run 3 (sh := []) tyOk (by simp [go_sem, bt0, bt1, hp, hz, bt_eq] <;> rfl) ?_
              refine al_fn rfl rfl rfl (by simp [go_sem, bt0, bt1, hp, hz, bt_eq] <;> rfl) call67 ((c_datum_IsAtom (bt s k)) _ (by exact hgl)) (by simp [go_sem, bt0, bt1, hp, hz, bt_eq] <;> rfl) (by simp [go_sem, bt0, bt1, hp, hz, bt_eq]) rfl rfl ?_
              refine al_run 1 (sh := []) tyOk (by simp [go_sem, bt0, bt1, hp, hz, bt_eq] <;> rfl) ?_
              refine al_nil ?_
              refine awp_cond (by first | rfl | (simp [go_sem, bt0, bt1, hp, hz, bt_eq] <;> rfl)) (fun h9 => ?_) (fun h9 => ?_)
              · refine awp_seq ?_
                refine awp_region_run (sh := []) tyOk (by simp [go_sem, bt0, bt1, hp, hz, bt_eq] <;> rfl) ?_
                refine awp_ret ?_
                refine inBlock_ret ?_
                refine then_ret ?_
                refine then_ret ?_
                refine inBlock_ret ?_
                refine then_ret ?_
                refine ends_ret (by simp [go_sem] <;> rfl) (by simp [go_sem]) ?_
                have hall : (List.range s.size).all (fun i => isAtom (bt s i)) = false := all_found hlt (by simpa [bt_eq] using h9)
                exact ⟨by simp only [isSym, hall, Bool.true_or, Bool.or_true, Bool.false_or, Bool.or_false, Bool.true_and, Bool.and_true, Bool.false_and, Bool.and_false, Bool.not_true, Bool.not_false, Bool.false_eq_true, if_true, if_false]; simp [go_sem], by simp [go_sem]⟩
              · refine awp_skip ?_
                refine awp_region_run (sh := []) tyOk (by simp [go_sem, bt0, bt1, hp, hz, bt_eq] <;> rfl) ?_
                exact next_intro (k + 1) σ.objs.length σ.toks.length 0 (⟨hlt, hn.succ hr (by simpa [bt_eq] using h9)⟩) (by omega) ⟨by simp [go_sem, bt0, bt1, hp, hz, bt_eq, hw], rfl, by simp, by simp, by simp [go_sem, bt0, bt1, hp, hz, bt_eq, hw], fun ob h => .inl (by simpa [go_sem, bt0, bt1, hp, hz, bt_eq, hw] using h), by simp [go_sem]⟩
            · have hke : k = s.size := by simp at h8; omega
              subst hke
              have hall : (List.range s.size).all (fun i => isAtom (bt s i)) = true := all_of_notYet hn
              refine awp_exit ?_
              refine then_exit ?_
              refine then_exit ?_
              refine inBlock_hit ?_
              refine awp_seq ?_
              refine awp_region_run (sh := []) tyOk (by simp [go_sem, bt0, bt1, hp, hall] <;> rfl) ?_
              refine awp_ret ?_
              refine ends_ret (by simp [go_sem, bt0, bt1, hp, hall] <;> rfl) (by simp [go_sem]) ?_
              exact ⟨by simp only [isSym, bt0, bt1, hp, hall, h0, h1, h2, h3, h4, Bool.true_or, Bool.or_true, Bool.false_or, Bool.or_false, Bool.true_and, Bool.and_true, Bool.false_and, Bool.and_false, Bool.not_true, Bool.not_false, Bool.false_eq_true, if_true, if_false]; simp [go_sem], by simp [go_sem]⟩
        · refine al_skip 3 21 true (by simp [go_sem]) (by simp [go_sem]) rfl rfl ?_
          refine al_runG (sh := []) 2 17 false false tyOk (by simp [go_sem]) rfl (by simp [go_sem]) rfl rfl (by simp [go_sem, bt0, bt1, hp] <;> rfl) ?_
          refine al_skip 3 26 true (by simp [go_sem]) (by simp [go_sem]) rfl rfl ?_
          refine al_runG (sh := []) 1 17 false false tyOk (by simp [go_sem]) rfl (by simp [go_sem]) rfl rfl (by simp [go_sem, bt0, bt1, hp] <;> rfl) ?_
          refine al_run 1 (sh := []) tyOk (by simp [go_sem, bt0, bt1, hp] <;> rfl) ?_
          refine al_nil ?_
          refine awp_cond (b := false) (by simp [go_sem, bt0, bt1, hp, h0, h1, h2, h3]) (fun h => ?_) (fun h => ?_)
          · cases h
          refine awp_skip ?_
          refine awp_seq ?_
          refine awp_seq ?_
          refine awp_region_run (sh := []) tyOk (by simp [go_sem, bt0, bt1, hp] <;> rfl) ?_
          refine awp_block ?_
          refine awp_loop_headK σ.objs.length σ.toks.length 0 [0, 2, 33] (fun k : Nat => [(34, .pv (.int .i64 ↑k))]) (fun k => σ) (fun k => k ≤ s.size ∧ NotYet (fun i => !isAtom (bt s i)) (List.range s.size) k) (fun k => s.size - k) 0 (⟨Nat.zero_le _, .zero⟩) ⟨by simp [go_sem, bt0, bt1, hp], rfl, by simp, by simp, by simp [go_sem, bt0, bt1, hp], fun ob h => .inl (by simpa [go_sem, bt0, bt1, hp] using h), by simp [go_sem]⟩ ?_
          rintro k ⟨hk, hn⟩
          refine awp_seq ?_
          refine awp_region_run (sh := []) tyOk (by simp [go_sem, bt0, bt1, hp] <;> rfl) ?_
          refine awp_seq ?_
          refine awp_cond (by first | rfl | (simp [go_sem, bt0, bt1, hp] <;> rfl)) (fun h10 => ?_) (fun h10 => ?_)
          · have hlt : k < s.size := by simp at h10; omega
            have hw : IntKind.i64.wrap (↑k + 1) = (k : Int) + 1 := wrap_succ (by omega)
            have hr : (List.range s.size)[k]? = some k := by simp [hlt]
            have hz : (k : Int) < s.size := by omega
            refine awp_skip ?_
            refine awp_seq ?_
            refine awp_block ?_
            refine awp_seq ?_
            refine awp_region_run (sh := []) tyOk (by simp [go_sem, bt0, bt1, hp, hz, bt_eq] <;> rfl) ?_
            refine awp_seq ?_
            refine awp_reg ?_
            refine al_run 3 (sh := []) tyOk (by simp [go_sem, bt0, bt1, hp, hz, bt_eq] <;> rfl) ?_
            refine al_fn rfl rfl rfl (by simp [go_sem, bt0, bt1, hp, hz, bt_eq] <;> rfl) call67 ((c_datum_IsAtom (bt s k)) _ (by exact hgl)) (by simp [go_sem, bt0, bt1, hp, hz, bt_eq] <;> rfl) (by simp [go_sem, bt0, bt1, hp, hz, bt_eq]) rfl rfl ?_
            refine al_run 1 (sh := []) tyOk (by simp [go_sem, bt0, bt1, hp, hz, bt_eq] <;> rfl) ?_
            refine al_nil ?_
            refine awp_cond (by first | rfl | (simp [go_sem, bt0, bt1, hp, hz, bt_eq] <;> rfl)) (fun h11 => ?_) (fun h11 => ?_)
            · refine awp_seq ?_
              refine awp_region_run (sh := []) tyOk (by simp [go_sem, bt0, bt1, hp, hz, bt_eq] <;> rfl) ?_
              refine awp_ret ?_
              refine inBlock_ret ?_
              refine then_ret ?_
              refine then_ret ?_
              refine inBlock_ret ?_
              refine then_ret ?_
              refine ends_ret (by simp [go_sem] <;> rfl) (by simp [go_sem]) ?_
              have hall : (List.range s.size).all (fun i => isAtom (bt s i)) = false := all_found hlt (by simpa [bt_eq] using h11)
              exact ⟨by simp only [isSym, hall, Bool.true_or, Bool.or_true, Bool.false_or, Bool.or_false, Bool.true_and, Bool.and_true, Bool.false_and, Bool.and_false, Bool.not_true, Bool.not_false, Bool.false_eq_true, if_true, if_false]; simp [go_sem], by simp [go_sem]⟩
            · refine awp_skip ?_
              refine awp_region_run (sh := []) tyOk (by simp [go_sem, bt0, bt1, hp, hz, bt_eq] <;> rfl) ?_
              exact next_intro (k + 1) σ.objs.length σ.toks.length 0 (⟨hlt, hn.succ hr (by simpa [bt_eq] using h11)⟩) (by omega) ⟨by simp [go_sem, bt0, bt1, hp, hz, bt_eq, hw], rfl, by simp, by simp, by simp [go_sem, bt0, bt1, hp, hz, bt_eq, hw], fun ob h => .inl (by simpa [go_sem, bt0, bt1, hp, hz, bt_eq, hw] using h), by simp [go_sem]⟩
          · have hke : k = s.size := by simp at h10; omega
            subst hke
            have hall : (List.range s.size).all (fun i => isAtom (bt s i)) = true := all_of_notYet hn
            refine awp_exit ?_
            refine then_exit ?_
            refine then_exit ?_
            refine inBlock_hit ?_
            refine awp_seq ?_
            refine awp_region_run (sh := []) tyOk (by simp [go_sem, bt0, bt1, hp, hall] <;> rfl) ?_
            refine awp_ret ?_
            refine ends_ret (by simp [go_sem, bt0, bt1, hp, hall] <;> rfl) (by simp [go_sem]) ?_
            exact ⟨by simp only [isSym, bt0, bt1, hp, hall, h0, h1, h2, h3, Bool.true_or, Bool.or_true, Bool.false_or, Bool.or_false, Bool.true_and, Bool.and_true, Bool.false_and, Bool.and_false, Bool.not_true, Bool.not_false, Bool.false_eq_true, if_true, if_false]; simp [go_sem], by simp [go_sem]⟩

set_option maxHeartbeats 1000000 in
theorem c_pagodaref01_Symbol (s : ByteArray) : Pur Tryd.prog (GL kr) 73 [.pv (.str s)] (.pv (.bool (isSym letter s))) := by
  refine pur_of fun σ hgl => ?_
  refine acalls_of tyOk Tryd.func73 rfl (by simp [Tryd.f73]) ?_
  refine awp_seq ?_
  refine awp_region_run (sh := []) tyOk (by simp [go_sem, bt0, bt1] <;> rfl) ?_
  refine awp_seq ?_
  refine awp_seq ?_
  refine awp_reg ?_
  refine al_run 4 (sh := []) tyOk (by simp [go_sem, bt0, bt1] <;> rfl) ?_
  refine al_splitT 7 (by first | rfl | (simp [go_sem, bt0, bt1] <;> rfl)) (fun h0 => ?_) (fun h0 => ?_)
  · have g0 : ((s.size : Int) == 0) = true := by have := h0; simp only [decide_eq_true_eq] at this; rw [beq_iff_eq]; omega
    refine al_skip 3 7 false (by simp [go_sem]) (by simp [go_sem]) rfl rfl ?_
    refine al_run 2 (sh := []) tyOk (by simp [go_sem, bt0, bt1] <;> rfl) ?_
    refine al_skip 3 12 false (by simp [go_sem]) (by simp [go_sem]) rfl rfl ?_
    refine al_run 2 (sh := []) tyOk (by simp [go_sem, bt0, bt1] <;> rfl) ?_
    refine al_skip 4 17 false (by simp [go_sem]) (by simp [go_sem]) rfl rfl ?_
    refine al_skip 3 21 true (by simp [go_sem]) (by simp [go_sem]) rfl rfl ?_
    refine al_skip 2 17 false (by simp [go_sem]) (by simp [go_sem]) rfl rfl ?_
    refine al_skip 3 26 true (by simp [go_sem]) (by simp [go_sem]) rfl rfl ?_
    refine al_skip 1 17 false (by simp [go_sem]) (by simp [go_sem]) rfl rfl ?_
    refine al_run 1 (sh := []) tyOk (by simp [go_sem, bt0, bt1] <;> rfl) ?_
    refine al_nil ?_
    refine awp_cond (b := true) (by simp [go_sem, bt0, bt1, h0, g0]) (fun h => ?_) (fun h => ?_)
    rotate_left
    · cases h
    refine awp_seq ?_
    refine awp_region_run (sh := []) tyOk (by simp [go_sem, bt0, bt1] <;> rfl) ?_
    refine awp_ret ?_
    refine then_ret ?_
    refine ends_ret (by simp [go_sem, bt0, bt1] <;> rfl) (by simp [go_sem]) ?_
    exact ⟨by simp only [isSym, bt0, bt1, h0, g0, Bool.true_or, Bool.or_true, Bool.false_or, Bool.or_false, Bool.true_and, Bool.and_true, Bool.false_and, Bool.and_false, Bool.not_true, Bool.not_false, Bool.false_eq_true, if_true, if_false]; simp [go_sem], by simp [go_sem]⟩
  · have g0 : ((s.size : Int) == 0) = false := by have := h0; simp only [decide_eq_false_iff_not] at this; rw [beq_eq_false_iff_ne]; omega
    have hp : 0 < s.size := by have := h0; simp only [beq_eq_false_iff_ne, decide_eq_false_iff_not] at this; omega
    refine al_runG (sh := []) 3 7 false false tyOk (by simp [go_sem]) rfl (by simp [go_sem]) rfl rfl (by simp [go_sem, bt0, bt1, hp] <;> rfl) ?_
    refine al_run 2 (sh := []) tyOk (by simp [go_sem, bt0, bt1, hp] <;> rfl) ?_
    refine al_splitT 12 (by first | rfl | (simp [go_sem, bt0, bt1, hp] <;> rfl)) (fun h1 => ?_) (fun h1 => ?_)
    · refine al_skip 3 12 false (by simp [go_sem]) (by simp [go_sem]) rfl rfl ?_
      refine al_run 2 (sh := []) tyOk (by simp [go_sem, bt0, bt1, hp] <;> rfl) ?_
      refine al_skip 4 17 false (by simp [go_sem]) (by simp [go_sem]) rfl rfl ?_
      refine al_skip 3 21 true (by simp [go_sem]) (by simp [go_sem]) rfl rfl ?_
      refine al_skip 2 17 false (by simp [go_sem]) (by simp [go_sem]) rfl rfl ?_
      refine al_skip 3 26 true (by simp [go_sem]) (by simp [go_sem]) rfl rfl ?_
      refine al_skip 1 17 false (by simp [go_sem]) (by simp [go_sem]) rfl rfl ?_
      refine al_run 1 (sh := []) tyOk (by simp [go_sem, bt0, bt1, hp] <;> rfl) ?_
      refine al_nil ?_
      refine awp_cond (b := true) (by simp [go_sem, bt0, bt1, hp, h0, g0, h1]) (fun h => ?_) (fun h => ?_)
      rotate_left
      · cases h
      refine awp_seq ?_
      refine awp_region_run (sh := []) tyOk (by simp [go_sem, bt0, bt1, hp] <;> rfl) ?_
      refine awp_ret ?_
      refine then_ret ?_
      refine ends_ret (by simp [go_sem, bt0, bt1, hp] <;> rfl) (by simp [go_sem]) ?_
      exact ⟨by simp only [isSym, bt0, bt1, hp, h0, g0, h1, Bool.true_or, Bool.or_true, Bool.false_or, Bool.or_false, Bool.true_and, Bool.and_true, Bool.false_and, Bool.and_false, Bool.not_true, Bool.not_false, Bool.false_eq_true, if_true, if_false]; simp [go_sem], by simp [go_sem]⟩
    · have h40 : s.size ≤ 40 := by simp at h1; omega
      refine al_runG (sh := []) 2 12 false false tyOk (by simp [go_sem]) rfl (by simp [go_sem]) rfl rfl (by simp [go_sem, bt0, bt1, hp] <;> rfl) ?_
      refine al_fnG 12 false false (by simp [go_sem]) rfl (by simp [go_sem]) rfl rfl (by simp [go_sem, bt0, bt1, hp] <;> rfl) call71 ((c_pagodaref01_digit (bt s 0)) _ (by exact hgl)) (by simp [go_sem, bt0, bt1, hp] <;> rfl) (by simp [go_sem, bt0, bt1, hp]) rfl rfl ?_
      refine al_run 2 (sh := []) tyOk (by simp [go_sem, bt0, bt1, hp] <;> rfl) ?_
      refine al_splitT 17 (by first | rfl | (simp [go_sem, bt0, bt1, hp] <;> rfl)) (fun h2 => ?_) (fun h2 => ?_)
      · refine al_skip 4 17 false (by simp [go_sem]) (by simp [go_sem]) rfl rfl ?_
        refine al_skip 3 21 true (by simp [go_sem]) (by simp [go_sem]) rfl rfl ?_
        refine al_skip 2 17 false (by simp [go_sem]) (by simp [go_sem]) rfl rfl ?_
        refine al_skip 3 26 true (by simp [go_sem]) (by simp [go_sem]) rfl rfl ?_
        refine al_skip 1 17 false (by simp [go_sem]) (by simp [go_sem]) rfl rfl ?_
        refine al_run 1 (sh := []) tyOk (by simp [go_sem, bt0, bt1, hp] <;> rfl) ?_
        refine al_nil ?_
        refine awp_cond (b := true) (by simp [go_sem, bt0, bt1, hp, h0, g0, h1, h2]) (fun h => ?_) (fun h => ?_)
        rotate_left
        · cases h
        refine awp_seq ?_
        refine awp_region_run (sh := []) tyOk (by simp [go_sem, bt0, bt1, hp] <;> rfl) ?_
        refine awp_ret ?_
        refine then_ret ?_
        refine ends_ret (by simp [go_sem, bt0, bt1, hp] <;> rfl) (by simp [go_sem]) ?_
        exact ⟨by simp only [isSym, bt0, bt1, hp, h0, g0, h1, h2, Bool.true_or, Bool.or_true, Bool.false_or, Bool.or_false, Bool.true_and, Bool.and_true, Bool.false_and, Bool.and_false, Bool.not_true, Bool.not_false, Bool.false_eq_true, if_true, if_false]; simp [go_sem], by simp [go_sem]⟩
      · refine al_runG (sh := []) 4 17 false false tyOk (by simp [go_sem]) rfl (by simp [go_sem]) rfl rfl (by simp [go_sem, bt0, bt1, hp] <;> rfl) ?_
        refine al_splitT 21 (by first | rfl | (simp [go_sem, bt0, bt1, hp] <;> rfl)) (fun h3 => ?_) (fun h3 => ?_)
        · refine al_runG (sh := []) 3 21 true true tyOk (by simp [go_sem]) rfl (by simp [go_sem]) rfl rfl (by simp [go_sem, bt0, bt1, hp] <;> rfl) ?_
          refine al_runG (sh := []) 2 17 false false tyOk (by simp [go_sem]) rfl (by simp [go_sem]) rfl rfl (by simp [go_sem, bt0, bt1, hp] <;> rfl) ?_
          refine al_splitT 26 (by first | rfl | (simp [go_sem, bt0, bt1, hp] <;> rfl)) (fun h4 => ?_) (fun h4 => ?_)
          · have hp1 : (1 : Int) < s.size := by simpa using h4
            refine al_runG (sh := []) 2 26 true true tyOk (by simp [go_sem]) rfl (by simp [go_sem]) rfl rfl (by simp [go_sem, bt0, bt1, hp, hp1] <;> rfl) ?_
            refine al_fnG 26 true true (by simp [go_sem]) rfl (by simp [go_sem]) rfl rfl (by simp [go_sem, bt0, bt1, hp, hp1] <;> rfl) call71 ((c_pagodaref01_digit (bt s 1)) _ (by exact hgl)) (by simp [go_sem, bt0, bt1, hp, hp1] <;> rfl) (by simp [go_sem, bt0, bt1, hp, hp1]) rfl rfl ?_
            refine al_runG (sh := []) 1 17 false false tyOk (by simp [go_sem]) rfl (by simp [go_sem]) rfl rfl (by simp [go_sem, bt0, bt1, hp, hp1] <;> rfl) ?_
            refine al_run 1 (sh := []) tyOk (by simp [go_sem, bt0, bt1, hp, hp1] <;> rfl) ?_
            refine al_nil ?_
            refine awp_cond (by first | rfl | (simp [go_sem, bt0, bt1, hp, hp1] <;> rfl)) (fun h5 => ?_) (fun h5 => ?_)
            · refine awp_seq ?_
              refine awp_region_run (sh := []) tyOk (by simp [go_sem, bt0, bt1, hp, hp1] <;> rfl) ?_
              refine awp_ret ?_
              refine then_ret ?_
              refine ends_ret (by simp [go_sem, bt0, bt1, hp, hp1] <;> rfl) (by simp [go_sem]) ?_
              exact ⟨by simp only [isSym, bt0, bt1, hp, hp1, h0, g0, h1, h2, h3, h4, h5, Bool.true_or, Bool.or_true, Bool.false_or, Bool.or_false, Bool.true_and, Bool.and_true, Bool.false_and, Bool.and_false, Bool.not_true, Bool.not_false, Bool.false_eq_true, if_true, if_false]; simp [go_sem], by simp [go_sem]⟩
            · refine awp_skip ?_
              refine awp_seq ?_
              refine awp_seq ?_
              refine awp_region_run (sh := []) tyOk (by simp [go_sem, bt0, bt1, hp, hp1] <;> rfl) ?_
              refine awp_block ?_
              refine awp_loop_headK σ.objs.length σ.toks.length 0 [0, 2] (fun k : Nat => [(3, .pv (.int .i64 ↑k))]) (fun k => σ) (fun k => k ≤ s.size ∧ NotYet (fun i => !letter (bt s i)) (List.range s.size) k) (fun k => s.size - k) 0 (⟨Nat.zero_le _, .zero⟩) ⟨by simp [go_sem, bt0, bt1, hp, hp1], rfl, by simp, by simp, by simp [go_sem, bt0, bt1, hp, hp1], fun ob h => .inl (by simpa [go_sem, bt0, bt1, hp, hp1] using h), by simp [go_sem]⟩ ?_
              rintro k ⟨hk, hn⟩
              refine awp_seq ?_
              refine awp_seq ?_
              refine awp_region_run (sh := []) tyOk (by simp [go_sem, bt0, bt1, hp, hp1] <;> rfl) ?_
              refine awp_cond (by first | rfl | (simp [go_sem, bt0, bt1, hp, hp1] <;> rfl)) (fun h6 => ?_) (fun h6 => ?_)
              · have hlt : k < s.size := by simp at h6; omega
                have hw : IntKind.i64.wrap (↑k + 1) = (k : Int) + 1 := wrap_succ (by omega)
                have hr : (List.range s.size)[k]? = some k := by simp [hlt]
                have hz : (k : Int) < s.size := by omega
                refine awp_skip ?_
                refine awp_seq ?_
                refine awp_block ?_
                refine awp_seq ?_
                refine awp_reg ?_
                refine al_run 3 (sh := []) tyOk (by simp [go_sem, bt0, bt1, hp, hp1, hz, bt_eq] <;> rfl) ?_
                refine al_fn rfl rfl rfl (by simp [go_sem, bt0, bt1, hp, hp1, hz, bt_eq] <;> rfl) call68 ((c_pagodaref01_Letter (bt s k)) _ (by exact hgl)) (by simp [go_sem, bt0, bt1, hp, hp1, hz, bt_eq] <;> rfl) (by simp [go_sem, bt0, bt1, hp, hp1, hz, bt_eq]) rfl rfl ?_
                refine al_run 1 (sh := []) tyOk (by simp [go_sem, bt0, bt1, hp, hp1, hz, bt_eq] <;> rfl) ?_
                refine al_nil ?_
                refine awp_cond (by first | rfl | (simp [go_sem, bt0, bt1, hp, hp1, hz, bt_eq] <;> rfl)) (fun h7 => ?_) (fun h7 => ?_)
                · refine awp_seq ?_
                  refine awp_region_run (sh := []) tyOk (by simp [go_sem, bt0, bt1, hp, hp1, hz, bt_eq] <;> rfl) ?_
                  refine awp_ret ?_
                  refine inBlock_ret ?_
                  refine then_ret ?_
                  refine then_ret ?_
                  refine inBlock_ret ?_
                  refine then_ret ?_
                  refine ends_ret (by simp [go_sem] <;> rfl) (by simp [go_sem]) ?_
                  have hall : (List.range s.size).all (fun i => letter (bt s i)) = false := all_found hlt (by simpa [bt_eq] using h7)
                  exact ⟨by simp only [isSym, hall, Bool.true_or, Bool.or_true, Bool.false_or, Bool.or_false, Bool.true_and, Bool.and_true, Bool.false_and, Bool.and_false, Bool.not_true, Bool.not_false, Bool.false_eq_true, if_true, if_false]; simp [go_sem], by simp [go_sem]⟩
                · refine awp_skip ?_
                  refine awp_region_run (sh := []) tyOk (by simp [go_sem, bt0, bt1, hp, hp1, hz, bt_eq] <;> rfl) ?_
                  exact next_intro (k + 1) σ.objs.length σ.toks.length 0 (⟨hlt, hn.succ hr (by simpa [bt_eq] using h7)⟩) (by omega) ⟨by simp [go_sem, bt0, bt1, hp, hp1, hz, bt_eq, hw], rfl, by simp, by simp, by simp [go_sem, bt0, bt1, hp, hp1, hz, bt_eq, hw], fun ob h => .inl (by simpa [go_sem, bt0, bt1, hp, hp1, hz, bt_eq, hw] using h), by simp [go_sem]⟩
              · have hke : k = s.size := by simp at h6; omega
                subst hke
                have hall : (List.range s.size).all (fun i => letter (bt s i)) = true := all_of_notYet hn
                refine awp_exit ?_
                refine then_exit ?_
                refine then_exit ?_
                refine inBlock_hit ?_
                refine awp_seq ?_
                refine awp_region_run (sh := []) tyOk (by simp [go_sem, bt0, bt1, hp, hp1, hall] <;> rfl) ?_
                refine awp_ret ?_
                refine ends_ret (by simp [go_sem, bt0, bt1, hp, hp1, hall] <;> rfl) (by simp [go_sem]) ?_
                exact ⟨by simp only [isSym, bt0, bt1, hp, hp1, hall, h0, g0, h1, h2, h3, h4, h5, Bool.true_or, Bool.or_true, Bool.false_or, Bool.or_false, Bool.true_and, Bool.and_true, Bool.false_and, Bool.and_false, Bool.not_true, Bool.not_false, Bool.false_eq_true, if_true, if_false]; simp [go_sem], by simp [go_sem]⟩
          · refine al_skip 3 26 true (by simp [go_sem]) (by simp [go_sem]) rfl rfl ?_
            refine al_runG (sh := []) 1 17 false false tyOk (by simp [go_sem]) rfl (by simp [go_sem]) rfl rfl (by simp [go_sem, bt0, bt1, hp] <;> rfl) ?_
            refine al_run 1 (sh := []) tyOk (by simp [go_sem, bt0, bt1, hp] <;> rfl) ?_
            refine al_nil ?_
            refine awp_cond (b := false) (by simp [go_sem, bt0, bt1, hp, h0, g0, h1, h2, h3, h4]) (fun h => ?_) (fun h => ?_)
            · cases h
            refine awp_skip ?_
            refine awp_seq ?_
            refine awp_seq ?_
            refine awp_region_run (sh := []) tyOk (by simp [go_sem, bt0, bt1, hp] <;> rfl) ?_
            refine awp_block ?_
            refine awp_loop_headK σ.objs.length σ.toks.length 0 [0, 2] (fun k : Nat => [(3, .pv (.int .i64 ↑k))]) (fun k => σ) (fun k => k ≤ s.size ∧ NotYet (fun i => !letter (bt s i)) (List.range s.size) k) (fun k => s.size - k) 0 (⟨Nat.zero_le _, .zero⟩) ⟨by simp [go_sem, bt0, bt1, hp], rfl, by simp, by simp, by simp [go_sem, bt0, bt1, hp], fun ob h => .inl (by simpa [go_sem, bt0, bt1, hp] using h), by simp [go_sem]⟩ ?_
            rintro k ⟨hk, hn⟩
            refine awp_seq ?_
            refine awp_seq ?_
            refine awp_region_run (sh := []) tyOk (by simp [go_sem, bt0, bt1, hp] <;> rfl) ?_
            refine awp_cond (by first | rfl | (simp [go_sem, bt0, bt1, hp] <;> rfl)) (fun h8 => ?_) (fun h8 => ?_)
            · have hlt : k < s.size := by simp at h8; omega
              have hw : IntKind.i64.wrap (↑k + 1) = (k : Int) + 1 := wrap_succ (by omega)
              have hr : (List.range s.size)[k]? = some k := by simp [hlt]
              have hz : (k : Int) < s.size := by omega
              refine awp_skip ?_
              refine awp_seq ?_
              refine awp_block ?_
              refine awp_seq ?_
              refine awp_reg ?_
              refine al_run 3 (sh := []) tyOk (by simp [go_sem, bt0, bt1, hp, hz, bt_eq] <;> rfl) ?_
              refine al_fn rfl rfl rfl (by simp [go_sem, bt0, bt1, hp, hz, bt_eq] <;> rfl) call68 ((c_pagodaref01_Letter (bt s k)) _ (by exact hgl)) (by simp [go_sem, bt0, bt1, hp, hz, bt_eq] <;> rfl) (by simp [go_sem, bt0, bt1, hp, hz, bt_eq]) rfl rfl ?_
              refine al_run 1 (sh := []) tyOk (by simp [go_sem, bt0, bt1, hp, hz, bt_eq] <;> rfl) ?_
              refine al_nil ?_
              refine awp_cond (by first | rfl | (simp [go_sem, bt0, bt1, hp, hz, bt_eq] <;> rfl)) (fun h9 => ?_) (fun h9 => ?_)
              · refine awp_seq ?_
                refine awp_region_run (sh := []) tyOk (by simp [go_sem, bt0, bt1, hp, hz, bt_eq] <;> rfl) ?_
                refine awp_ret ?_
                refine inBlock_ret ?_
                refine then_ret ?_
                refine then_ret ?_
                refine inBlock_ret ?_
                refine then_ret ?_
                refine ends_ret (by simp [go_sem] <;> rfl) (by simp [go_sem]) ?_
                have hall : (List.range s.size).all (fun i => letter (bt s i)) = false := all_found hlt (by simpa [bt_eq] using h9)
                exact ⟨by simp only [isSym, hall, Bool.true_or, Bool.or_true, Bool.false_or, Bool.or_false, Bool.true_and, Bool.and_true, Bool.false_and, Bool.and_false, Bool.not_true, Bool.not_false, Bool.false_eq_true, if_true, if_false]; simp [go_sem], by simp [go_sem]⟩
              · refine awp_skip ?_
                refine awp_region_run (sh := []) tyOk (by simp [go_sem, bt0, bt1, hp, hz, bt_eq] <;> rfl) ?_
                exact next_intro (k + 1) σ.objs.length σ.toks.length 0 (⟨hlt, hn.succ hr (by simpa [bt_eq] using h9)⟩) (by omega) ⟨by simp [go_sem, bt0, bt1, hp, hz, bt_eq, hw], rfl, by simp, by simp, by simp [go_sem, bt0, bt1, hp, hz, bt_eq, hw], fun ob h => .inl (by simpa [go_sem, bt0, bt1, hp, hz, bt_eq, hw] using h), by simp [go_sem]⟩
            · have hke : k = s.size := by simp at h8; omega
              subst hke
              have hall : (List.range s.size).all (fun i => letter (bt s i)) = true := all_of_notYet hn
              refine awp_exit ?_
              refine then_exit ?_
              refine then_exit ?_
              refine inBlock_hit ?_
              refine awp_seq ?_
              refine awp_region_run (sh := []) tyOk (by simp [go_sem, bt0, bt1, hp, hall] <;> rfl) ?_
              refine awp_ret ?_
              refine ends_ret (by simp [go_sem, bt0, bt1, hp, hall] <;> rfl) (by simp [go_sem]) ?_
              exact ⟨by simp only [isSym, bt0, bt1, hp, hall, h0, g0, h1, h2, h3, h4, Bool.true_or, Bool.or_true, Bool.false_or, Bool.or_false, Bool.true_and, Bool.and_true, Bool.false_and, Bool.and_false, Bool.not_true, Bool.not_false, Bool.false_eq_true, if_true, if_false]; simp [go_sem], by simp [go_sem]⟩
        · refine al_skip 3 21 true (by simp [go_sem]) (by simp [go_sem]) rfl rfl ?_
          refine al_runG (sh := []) 2 17 false false tyOk (by simp [go_sem]) rfl (by simp [go_sem]) rfl rfl (by simp [go_sem, bt0, bt1, hp] <;> rfl) ?_
          refine al_skip 3 26 true (by simp [go_sem]) (by simp [go_sem]) rfl rfl ?_
          refine al_runG (sh := []) 1 17 false false tyOk (by simp [go_sem]) rfl (by simp [go_sem]) rfl rfl (by simp [go_sem, bt0, bt1, hp] <;> rfl) ?_
          refine al_run 1 (sh := []) tyOk (by simp [go_sem, bt0, bt1, hp] <;> rfl) ?_
          refine al_nil ?_
          refine awp_cond (b := false) (by simp [go_sem, bt0, bt1, hp, h0, g0, h1, h2, h3]) (fun h => ?_) (fun h => ?_)
          · cases h
          refine awp_skip ?_
          refine awp_seq ?_
          refine awp_seq ?_
          refine awp_region_run (sh := []) tyOk (by simp [go_sem, bt0, bt1, hp] <;> rfl) ?_
          refine awp_block ?_
          refine awp_loop_headK σ.objs.length σ.toks.length 0 [0, 2] (fun k : Nat => [(3, .pv (.int .i64 ↑k))]) (fun k => σ) (fun k => k ≤ s.size ∧ NotYet (fun i => !letter (bt s i)) (List.range s.size) k) (fun k => s.size - k) 0 (⟨Nat.zero_le _, .zero⟩) ⟨by simp [go_sem, bt0, bt1, hp], rfl, by simp, by simp, by simp [go_sem, bt0, bt1, hp], fun ob h => .inl (by simpa [go_sem, bt0, bt1, hp] using h), by simp [go_sem]⟩ ?_
          rintro k ⟨hk, hn⟩
          refine awp_seq ?_
          refine awp_seq ?_
          refine awp_region_run (sh := []) tyOk (by simp [go_sem, bt0, bt1, hp] <;> rfl) ?_
          refine awp_cond (by first | rfl | (simp [go_sem, bt0, bt1, hp] <;> rfl)) (fun h10 => ?_) (fun h10 => ?_)
          · have hlt : k < s.size := by simp at h10; omega
            have hw : IntKind.i64.wrap (↑k + 1) = (k : Int) + 1 := wrap_succ (by omega)
            have hr : (List.range s.size)[k]? = some k := by simp [hlt]
            have hz : (k : Int) < s.size := by omega
            refine awp_skip ?_
            refine awp_seq ?_
            refine awp_block ?_
            refine awp_seq ?_
            refine awp_reg ?_
            refine al_run 3 (sh := []) tyOk (by simp [go_sem, bt0, bt1, hp, hz, bt_eq] <;> rfl) ?_
            refine al_fn rfl rfl rfl (by simp [go_sem, bt0, bt1, hp, hz, bt_eq] <;> rfl) call68 ((c_pagodaref01_Letter (bt s k)) _ (by exact hgl)) (by simp [go_sem, bt0, bt1, hp, hz, bt_eq] <;> rfl) (by simp [go_sem, bt0, bt1, hp, hz, bt_eq]) rfl rfl ?_
            refine al_run 1 (sh := []) tyOk (by simp [go_sem, bt0, bt1, hp, hz, bt_eq] <;> rfl) ?_
            refine al_nil ?_
            refine awp_cond (by first | rfl | (simp [go_sem, bt0, bt1, hp, hz, bt_eq] <;> rfl)) (fun h11 => ?_) (fun h11 => ?_)
            · refine awp_seq ?_
              refine awp_region_run (sh := []) tyOk (by simp [go_sem, bt0, bt1, hp, hz, bt_eq] <;> rfl) ?_
              refine awp_ret ?_
              refine inBlock_ret ?_
              refine then_ret ?_
              refine then_ret ?_
              refine inBlock_ret ?_
              refine then_ret ?_
              refine ends_ret (by simp [go_sem] <;> rfl) (by simp [go_sem]) ?_
              have hall : (List.range s.size).all (fun i => letter (bt s i)) = false := all_found hlt (by simpa [bt_eq] using h11)
              exact ⟨by simp only [isSym, hall, Bool.true_or, Bool.or_true, Bool.false_or, Bool.or_false, Bool.true_and, Bool.and_true, Bool.false_and, Bool.and_false, Bool.not_true, Bool.not_false, Bool.false_eq_true, if_true, if_false]; simp [go_sem], by simp [go_sem]⟩
            · refine awp_skip ?_
              refine awp_region_run (sh := []) tyOk (by simp [go_sem, bt0, bt1, hp, hz, bt_eq] <;> rfl) ?_
              exact next_intro (k + 1) σ.objs.length σ.toks.length 0 (⟨hlt, hn.succ hr (by simpa [bt_eq] using h11)⟩) (by omega) ⟨by simp [go_sem, bt0, bt1, hp, hz, bt_eq, hw], rfl, by simp, by simp, by simp [go_sem, bt0, bt1, hp, hz, bt_eq, hw], fun ob h => .inl (by simpa [go_sem, bt0, bt1, hp, hz, bt_eq, hw] using h), by simp [go_sem]⟩
          · have hke : k = s.size := by simp at h10; omega
            subst hke
            have hall : (List.range s.size).all (fun i => letter (bt s i)) = true := all_of_notYet hn
            refine awp_exit ?_
            refine then_exit ?_
            refine then_exit ?_
            refine inBlock_hit ?_
            refine awp_seq ?_
            refine awp_region_run (sh := []) tyOk (by simp [go_sem, bt0, bt1, hp, hall] <;> rfl) ?_
            refine awp_ret ?_
            refine ends_ret (by simp [go_sem, bt0, bt1, hp, hall] <;> rfl) (by simp [go_sem]) ?_
            exact ⟨by simp only [isSym, bt0, bt1, hp, hall, h0, g0, h1, h2, h3, Bool.true_or, Bool.or_true, Bool.false_or, Bool.or_false, Bool.true_and, Bool.and_true, Bool.false_and, Bool.and_false, Bool.not_true, Bool.not_false, Bool.false_eq_true, if_true, if_false]; simp [go_sem], by simp [go_sem]⟩

set_option maxHeartbeats 1000000 in
theorem c_IndexFunc (l : List D) (hl : l.length ≤ 1000000000) (σ : Store) (hgl : σ.gl = (GL kr)) (f : FuncId) (hc : Callable Tryd.prog f) (caps : List AV) (hcaps : AV.noLs caps = true) (p : D → Bool) (hp : ∀ x, x ∈ l → PurAt Tryd.prog σ f (.pv (enc x) :: caps) (.pv (.bool (p x)))) : PurAt Tryd.prog σ 33 [.pv (.slice (l.map enc)), .func (.func f) caps] (.pv (.int .i64 (idxOf p l))) := by
  refine purAt_of ?_
  refine acalls_ofC tyOk Tryd.func33 rfl (by simp [Tryd.f33]) (by simp [go_sem, hcaps]) fun hclo => ?_
  simp [go_sem] at hclo
  refine awp_seq ?_
  refine awp_region_run (sh := []) tyOk (by simp [go_sem, hcaps, hclo] <;> rfl) ?_
  refine awp_seq ?_
  refine awp_seq ?_
  refine awp_region_run (sh := []) tyOk (by simp [go_sem, hcaps, hclo] <;> rfl) ?_
  refine awp_block ?_
  refine awp_loop_headK σ.objs.length σ.toks.length 0 [0, 1, 4, 7] (fun k : Nat => [(8, .pv (.int .i64 ↑k))]) (fun k => σ) (fun k => k ≤ l.length ∧ NotYet (p) l k) (fun k => l.length - k) 0 (⟨Nat.zero_le _, .zero⟩) ⟨by simp [go_sem, hcaps, hclo, AV.clos], rfl, by simp, by simp, by simp [go_sem, hcaps, hclo, AV.clos], fun ob h => .inl (by simpa [go_sem, hcaps, hclo, AV.clos] using h), by simp [go_sem]⟩ ?_
  rintro k ⟨hk, hn⟩
  refine awp_seq ?_
  refine awp_region_run (sh := []) tyOk (by simp [go_sem, hcaps, hclo] <;> rfl) ?_
  refine awp_seq ?_
  refine awp_cond (by first | rfl | (simp [go_sem, hcaps, hclo] <;> rfl)) (fun h0 => ?_) (fun h0 => ?_)
  · have hlt : k < l.length := by simp at h0; omega
    have hw : IntKind.i64.wrap (↑k + 1) = (k : Int) + 1 := wrap_succ (by omega)
    obtain ⟨x, hx, hxm⟩ := get_lt hlt
    refine awp_skip ?_
    refine awp_seq ?_
    refine awp_block ?_
    refine awp_seq ?_
    refine awp_region_run (sh := []) tyOk (by simp [go_sem, hcaps, hclo, hx] <;> rfl) ?_
    refine awp_seq ?_
    refine awp_reg ?_
    refine al_run 5 (sh := []) tyOk (by simp [go_sem, hcaps, hclo, hx] <;> rfl) ?_
    refine al_fn rfl rfl rfl (by simp [go_sem, hcaps, hclo, hx] <;> rfl) hc (hp x hxm) (by simp [go_sem, hcaps, hclo, hx] <;> rfl) (by simp [go_sem, hcaps, hclo, hx]) (by simp [go_sem, hcaps]) rfl ?_
    refine al_nil ?_
    refine awp_cond (by first | rfl | (simp [go_sem, hcaps, hclo, hx] <;> rfl)) (fun h1 => ?_) (fun h1 => ?_)
    · refine awp_seq ?_
      refine awp_region_run (sh := []) tyOk (by simp [go_sem, hcaps, hclo, hx] <;> rfl) ?_
      refine awp_ret ?_
      refine inBlock_ret ?_
      refine then_ret ?_
      refine then_ret ?_
      refine inBlock_ret ?_
      refine then_ret ?_
      refine ends_ret (by simp [go_sem] <;> rfl) (by simp [go_sem]) ?_
      exact ⟨by simp [go_sem, idxOf_found hn hx h1], by simp [go_sem]⟩
    · refine awp_skip ?_
      refine awp_region_run (sh := []) tyOk (by simp [go_sem, hcaps, hclo, hx] <;> rfl) ?_
      exact next_intro (k + 1) σ.objs.length σ.toks.length 0 (⟨hlt, hn.succ hx h1⟩) (by omega) ⟨by simp [go_sem, hcaps, hclo, hx, hw], rfl, by simp, by simp, by simp [go_sem, hcaps, hclo, hx, hw], fun ob h => .inl (by simpa [go_sem, hcaps, hclo, hx, hw] using h), by simp [go_sem]⟩
  · have hke : k = l.length := by simp at h0; omega
    subst hke
    have hno := idxOf_none hn
    refine awp_exit ?_
    refine then_exit ?_
    refine then_exit ?_
    refine inBlock_hit ?_
    refine awp_seq ?_
    refine awp_region_run (sh := []) tyOk (by simp [go_sem, hcaps, hclo] <;> rfl) ?_
    refine awp_ret ?_
    refine ends_ret (by simp [go_sem] <;> rfl) (by simp [go_sem]) ?_
    exact ⟨by simp [go_sem, hno], by simp [go_sem]⟩

set_option maxHeartbeats 1000000 in
theorem c_ContainsFunc (l : List D) (hl : l.length ≤ 1000000000) (σ : Store) (hgl : σ.gl = (GL kr)) (f : FuncId) (hc : Callable Tryd.prog f) (caps : List AV) (hcaps : AV.noLs caps = true) (p : D → Bool) (hp : ∀ x, x ∈ l → PurAt Tryd.prog σ f (.pv (enc x) :: caps) (.pv (.bool (p x)))) : PurAt Tryd.prog σ 54 [.pv (.slice (l.map enc)), .func (.func f) caps] (.pv (.bool (l.any p))) := by
  refine purAt_of ?_
  refine acalls_of tyOk Tryd.func54 rfl (by simp [Tryd.f54]) ?_
  refine awp_seq ?_
  refine awp_region_run (sh := []) tyOk (by simp [go_sem] <;> rfl) ?_
  refine awp_seq ?_
  refine awp_reg ?_
  refine al_run 2 (sh := []) tyOk (by simp [go_sem] <;> rfl) ?_
  refine al_fn rfl rfl rfl (by simp [go_sem] <;> rfl) call33 (c_IndexFunc l hl σ hgl f hc caps hcaps p hp) (by simp [go_sem] <;> rfl) (by simp [go_sem]) (by simp [go_sem, hcaps]) rfl ?_
  refine al_run 2 (sh := []) tyOk (by simp [go_sem] <;> rfl) ?_
  refine al_nil ?_
  refine awp_ret ?_
  refine ends_ret (by simp [go_sem] <;> rfl) (by simp [go_sem]) ?_
  exact ⟨by simp [go_sem, ← idxOf_any], by simp [go_sem]⟩

set_option maxHeartbeats 1000000 in
theorem c_Index (l : List ByteArray) (hl : l.length ≤ 1000000000) (t : ByteArray) : Pur Tryd.prog (GL kr) 61 [.pv (.slice (l.map .str)), .pv (.str t)] (.pv (.int .i64 (idxOf (fun x => decide (t = x)) l))) := by
  refine pur_of fun σ hgl => ?_
  refine acalls_of tyOk Tryd.func61 rfl (by simp [Tryd.f61]) ?_
  refine awp_seq ?_
  refine awp_region_run (sh := []) tyOk (by simp [go_sem] <;> rfl) ?_
  refine awp_seq ?_
  refine awp_seq ?_
  refine awp_region_run (sh := []) tyOk (by simp [go_sem] <;> rfl) ?_
  refine awp_block ?_
  refine awp_loop_headK σ.objs.length σ.toks.length 0 [0, 1, 4, 7] (fun k : Nat => [(8, .pv (.int .i64 ↑k))]) (fun k => σ) (fun k => k ≤ l.length ∧ NotYet (fun x => decide (t = x)) l k) (fun k => l.length - k) 0 (⟨Nat.zero_le _, .zero⟩) ⟨by simp [go_sem], rfl, by simp, by simp, by simp [go_sem], fun ob h => .inl (by simpa [go_sem] using h), by simp [go_sem]⟩ ?_
  rintro k ⟨hk, hn⟩
  refine awp_seq ?_
  refine awp_region_run (sh := []) tyOk (by simp [go_sem] <;> rfl) ?_
  refine awp_seq ?_
  refine awp_cond (by first | rfl | (simp [go_sem] <;> rfl)) (fun h0 => ?_) (fun h0 => ?_)
  · have hlt : k < l.length := by simp at h0; omega
    have hw : IntKind.i64.wrap (↑k + 1) = (k : Int) + 1 := wrap_succ (by omega)
    obtain ⟨x, hx, hxm⟩ := get_lt hlt
    refine awp_skip ?_
    refine awp_seq ?_
    refine awp_block ?_
    refine awp_seq ?_
    refine awp_region_run (sh := []) tyOk (by simp [go_sem, hx] <;> rfl) ?_
    refine awp_seq ?_
    refine awp_region_run (sh := []) tyOk (by simp [go_sem, hx] <;> rfl) ?_
    refine awp_cond (by first | rfl | (simp [go_sem, hx] <;> rfl)) (fun h1 => ?_) (fun h1 => ?_)
    · refine awp_seq ?_
      refine awp_region_run (sh := []) tyOk (by simp [go_sem, hx] <;> rfl) ?_
      refine awp_ret ?_
      refine inBlock_ret ?_
      refine then_ret ?_
      refine then_ret ?_
      refine inBlock_ret ?_
      refine then_ret ?_
      refine ends_ret (by simp [go_sem] <;> rfl) (by simp [go_sem]) ?_
      exact ⟨by simp [go_sem, idxOf_found hn hx h1], by simp [go_sem]⟩
    · refine awp_skip ?_
      refine awp_region_run (sh := []) tyOk (by simp [go_sem, hx] <;> rfl) ?_
      exact next_intro (k + 1) σ.objs.length σ.toks.length 0 (⟨hlt, hn.succ hx h1⟩) (by omega) ⟨by simp [go_sem, hx, hw], rfl, by simp, by simp, by simp [go_sem, hx, hw], fun ob h => .inl (by simpa [go_sem, hx, hw] using h), by simp [go_sem]⟩
  · have hke : k = l.length := by simp at h0; omega
    subst hke
    have hno := idxOf_none hn
    refine awp_exit ?_
    refine then_exit ?_
    refine then_exit ?_
    refine inBlock_hit ?_
    refine awp_seq ?_
    refine awp_region_run (sh := []) tyOk (by simp [go_sem] <;> rfl) ?_
    refine awp_ret ?_
    refine ends_ret (by simp [go_sem] <;> rfl) (by simp [go_sem]) ?_
    exact ⟨by simp [go_sem, hno], by simp [go_sem]⟩

set_option maxHeartbeats 1000000 in
theorem c_Contains (l : List ByteArray) (hl : l.length ≤ 1000000000) (t : ByteArray) : Pur Tryd.prog (GL kr) 41 [.pv (.slice (l.map .str)), .pv (.str t)] (.pv (.bool (l.any fun x => decide (t = x)))) := by
  refine pur_of fun σ hgl => ?_
  refine acalls_of tyOk Tryd.func41 rfl (by simp [Tryd.f41]) ?_
  refine awp_seq ?_
  refine awp_region_run (sh := []) tyOk (by simp [go_sem] <;> rfl) ?_
  refine awp_seq ?_
  refine awp_reg ?_
  refine al_run 2 (sh := []) tyOk (by simp [go_sem] <;> rfl) ?_
  refine al_fn rfl rfl rfl (by simp [go_sem] <;> rfl) call61 ((c_Index l hl t) _ (by exact hgl)) (by simp [go_sem] <;> rfl) (by simp [go_sem]) rfl rfl ?_
  refine al_run 2 (sh := []) tyOk (by simp [go_sem] <;> rfl) ?_
  refine al_nil ?_
  refine awp_ret ?_
  refine ends_ret (by simp [go_sem] <;> rfl) (by simp [go_sem]) ?_
  exact ⟨by simp [go_sem, ← idxOf_any], by simp [go_sem]⟩

theorem gl_res : lookupG (GL kr) 0 = some (.ptr [.map kr.l resV]) := lookupG_res _ _ _
theorem gl_prim : lookupG (GL kr) 1 = some (.ptr [.slice (primL.map encPrim)]) := lookupG_prim _ _ _ (by decide)
theorem look_named {s : St} {x : ByteArray} : lookAV ty s 93 (.pv (.map kr.l resV)) (.pv (.str x)) false = some (.pv (.bool (isRes x))) := look_res rfl rfl rfl rfl rfl rfl rfl

end Go.Proofs.YtienmmfjjffjaaaDoor

/- Contracts of functions on data. -/
namespace Go.Proofs.YtienmmfjjffjaaaDoor
open Go Go.Aw
variable {kr : ResO}
set_option maxHeartbeats 1000000 in
theorem c_formed_1 (d : D) (h : Pur Tryd.prog (GL kr) 36 [.pv (enc d)] (.pv (.bool (formed d)))) : Pur Tryd.prog (GL kr) 55 [.pv (enc d)] (.pv (.bool (!formed d))) := by
  refine pur_of fun σ hgl => ?_
  refine acalls_of tyOk Tryd.func55 rfl (by simp [Tryd.f55]) ?_
  refine awp_seq ?_
  refine awp_region_run (sh := []) tyOk (by simp [go_sem] <;> rfl) ?_
  refine awp_seq ?_
  refine awp_reg ?_
  refine al_run 1 (sh := []) tyOk (by simp [go_sem] <;> rfl) ?_
  refine al_fn rfl rfl rfl (by simp [go_sem] <;> rfl) call36 ((h) _ (by exact hgl)) (by simp [go_sem] <;> rfl) (by simp [go_sem]) rfl rfl ?_
  refine al_run 2 (sh := []) tyOk (by simp [go_sem] <;> rfl) ?_
  refine al_nil ?_
  refine awp_ret ?_
  refine ends_ret (by simp [go_sem] <;> rfl) (by simp [go_sem]) ?_
  exact ⟨by simp [go_sem], by simp [go_sem]⟩

set_option maxHeartbeats 1000000 in
theorem c_datum_formed (d : D) (hd : d.size ≤ 1000000000) : Pur Tryd.prog (GL kr) 36 [.pv (enc d)] (.pv (.bool (formed d))) := by
  induction d using D.ind with
  | _ kind num text kids ih =>
  generalize hD : D.mk kind num text kids = d at *
  have hk : d.kids = kids := by rw [← hD]; rfl
  clear hD
  subst hk
  have hkl := D.kids_length_lt d
  refine pur_of fun σ hgl => ?_
  refine acalls_of tyOk Tryd.func36 rfl (by simp [Tryd.f36]) ?_
  refine awp_seq ?_
  refine awp_region_run (sh := []) tyOk (by simp [go_sem] <;> rfl) ?_
  refine awp_seq ?_
  refine awp_seq ?_
  refine awp_region_run (sh := []) tyOk (by simp [go_sem] <;> rfl) ?_
  refine awp_block ?_
  refine awp_seq ?_
  refine awp_region_run (sh := []) tyOk (by simp [go_sem] <;> rfl) ?_
  refine awp_cond (by first | rfl | (simp [go_sem] <;> rfl)) (fun h0 => ?_) (fun h0 => ?_)
  · refine awp_seq ?_
    refine awp_reg ?_
    refine al_run 4 (sh := []) tyOk (by simp [go_sem] <;> rfl) ?_
    refine al_splitT 10 (by first | rfl | (simp [go_sem] <;> rfl)) (fun h1 => ?_) (fun h1 => ?_)
    · refine al_runG (sh := []) 4 10 true true tyOk (by simp [go_sem]) rfl (by simp [go_sem]) rfl rfl (by simp [go_sem] <;> rfl) ?_
      refine al_run 2 (sh := []) tyOk (by simp [go_sem] <;> rfl) ?_
      refine al_nil ?_
      refine awp_ret ?_
      refine inBlock_ret ?_
      refine then_ret ?_
      refine ends_ret (by simp [go_sem] <;> rfl) (by simp [go_sem]) ?_
      have hs := formed_eq d
      simp only [Bool.not_true, h0, h1, Bool.true_or, Bool.or_true, Bool.false_or, Bool.or_false, Bool.true_and, Bool.and_true, Bool.false_and, Bool.and_false, Bool.not_true, Bool.not_false, Bool.false_eq_true, if_true, if_false] at hs
      exact ⟨by simp [go_sem, hs], by simp [go_sem]⟩
    · refine al_skip 4 10 true (by simp [go_sem]) (by simp [go_sem]) rfl rfl ?_
      refine al_run 2 (sh := []) tyOk (by simp [go_sem] <;> rfl) ?_
      refine al_nil ?_
      refine awp_ret ?_
      refine inBlock_ret ?_
      refine then_ret ?_
      refine ends_ret (by simp [go_sem] <;> rfl) (by simp [go_sem]) ?_
      have hs := formed_eq d
      simp only [Bool.not_true, h0, h1, Bool.true_or, Bool.or_true, Bool.false_or, Bool.or_false, Bool.true_and, Bool.and_true, Bool.false_and, Bool.and_false, Bool.not_true, Bool.not_false, Bool.false_eq_true, if_true, if_false] at hs
      exact ⟨by simp [go_sem, hs], by simp [go_sem]⟩
  · refine awp_seq ?_
    refine awp_region_run (sh := []) tyOk (by simp [go_sem] <;> rfl) ?_
    refine awp_cond (by first | rfl | (simp [go_sem] <;> rfl)) (fun h2 => ?_) (fun h2 => ?_)
    · refine awp_seq ?_
      refine awp_reg ?_
      refine al_run 4 (sh := []) tyOk (by simp [go_sem] <;> rfl) ?_
      refine al_splitT 21 (by first | rfl | (simp [go_sem] <;> rfl)) (fun h3 => ?_) (fun h3 => ?_)
      · refine al_runG (sh := []) 4 21 true true tyOk (by simp [go_sem]) rfl (by simp [go_sem]) rfl rfl (by simp [go_sem] <;> rfl) ?_
        refine al_run 2 (sh := []) tyOk (by simp [go_sem] <;> rfl) ?_
        refine al_splitT 27 (by first | rfl | (simp [go_sem] <;> rfl)) (fun h4 => ?_) (fun h4 => ?_)
        · refine al_runG (sh := []) 2 27 true true tyOk (by simp [go_sem]) rfl (by simp [go_sem]) rfl rfl (by simp [go_sem] <;> rfl) ?_
          refine al_fnG 27 true true (by simp [go_sem]) rfl (by simp [go_sem]) rfl rfl (by simp [go_sem] <;> rfl) call53 ((c_datum_IsSymbol d.text) _ (by exact hgl)) (by simp [go_sem] <;> rfl) (by simp [go_sem]) rfl rfl ?_
          refine al_run 2 (sh := []) tyOk (by simp [go_sem] <;> rfl) ?_
          refine al_nil ?_
          refine awp_ret ?_
          refine inBlock_ret ?_
          refine then_ret ?_
          refine ends_ret (by simp [go_sem] <;> rfl) (by simp [go_sem]) ?_
          have hs := formed_eq d
          simp only [Bool.not_true, h0, h2, h3, h4, Bool.true_or, Bool.or_true, Bool.false_or, Bool.or_false, Bool.true_and, Bool.and_true, Bool.false_and, Bool.and_false, Bool.not_true, Bool.not_false, Bool.false_eq_true, if_true, if_false] at hs
          exact ⟨by simp [go_sem, hs], by simp [go_sem]⟩
        · refine al_skip 3 27 true (by simp [go_sem]) (by simp [go_sem]) rfl rfl ?_
          refine al_run 2 (sh := []) tyOk (by simp [go_sem] <;> rfl) ?_
          refine al_nil ?_
          refine awp_ret ?_
          refine inBlock_ret ?_
          refine then_ret ?_
          refine ends_ret (by simp [go_sem] <;> rfl) (by simp [go_sem]) ?_
          have hs := formed_eq d
          simp only [Bool.not_true, h0, h2, h3, h4, Bool.true_or, Bool.or_true, Bool.false_or, Bool.or_false, Bool.true_and, Bool.and_true, Bool.false_and, Bool.and_false, Bool.not_true, Bool.not_false, Bool.false_eq_true, if_true, if_false] at hs
          exact ⟨by simp [go_sem, hs], by simp [go_sem]⟩
      · refine al_skip 4 21 true (by simp [go_sem]) (by simp [go_sem]) rfl rfl ?_
        refine al_run 2 (sh := []) tyOk (by simp [go_sem] <;> rfl) ?_
        refine al_skip 3 27 true (by simp [go_sem]) (by simp [go_sem]) rfl rfl ?_
        refine al_run 2 (sh := []) tyOk (by simp [go_sem] <;> rfl) ?_
        refine al_nil ?_
        refine awp_ret ?_
        refine inBlock_ret ?_
        refine then_ret ?_
        refine ends_ret (by simp [go_sem] <;> rfl) (by simp [go_sem]) ?_
        have hs := formed_eq d
        simp only [Bool.not_true, h0, h2, h3, Bool.true_or, Bool.or_true, Bool.false_or, Bool.or_false, Bool.true_and, Bool.and_true, Bool.false_and, Bool.and_false, Bool.not_true, Bool.not_false, Bool.false_eq_true, if_true, if_false] at hs
        exact ⟨by simp [go_sem, hs], by simp [go_sem]⟩
    · refine awp_seq ?_
      refine awp_region_run (sh := []) tyOk (by simp [go_sem] <;> rfl) ?_
      refine awp_cond (by first | rfl | (simp [go_sem] <;> rfl)) (fun h5 => ?_) (fun h5 => ?_)
      · refine awp_seq ?_
        refine awp_reg ?_
        refine al_run 4 (sh := []) tyOk (by simp [go_sem] <;> rfl) ?_
        refine al_splitT 37 (by first | rfl | (simp [go_sem] <;> rfl)) (fun h6 => ?_) (fun h6 => ?_)
        · refine al_runG (sh := []) 3 37 true true tyOk (by simp [go_sem]) rfl (by simp [go_sem]) rfl rfl (by simp [go_sem] <;> rfl) ?_
          refine al_run 2 (sh := []) tyOk (by simp [go_sem] <;> rfl) ?_
          refine al_splitT 42 (by first | rfl | (simp [go_sem] <;> rfl)) (fun h7 => ?_) (fun h7 => ?_)
          · refine al_runG (sh := []) 2 42 true true tyOk (by simp [go_sem]) rfl (by simp [go_sem]) rfl rfl (by simp [go_sem] <;> rfl) ?_
            refine al_fnG 42 true true (by simp [go_sem]) rfl (by simp [go_sem]) rfl rfl (by simp [go_sem] <;> rfl) call54 (c_ContainsFunc d.kids (by omega) σ hgl 55 call55 [] rfl (fun x => !formed x) (fun x hx => c_formed_1 x (ih x hx (by have := D.size_kid_lt hx; omega)) σ hgl)) (by simp [go_sem] <;> rfl) (by simp [go_sem]) rfl rfl ?_
            refine al_runG (sh := []) 1 42 true true tyOk (by simp [go_sem]) rfl (by simp [go_sem]) rfl rfl (by simp [go_sem] <;> rfl) ?_
            refine al_run 2 (sh := []) tyOk (by simp [go_sem] <;> rfl) ?_
            refine al_nil ?_
            refine awp_ret ?_
            refine inBlock_ret ?_
            refine then_ret ?_
            refine ends_ret (by simp [go_sem] <;> rfl) (by simp [go_sem]) ?_
            have hs := formed_eq d
            simp only [Bool.not_true, h0, h2, h5, h6, h7, Bool.true_or, Bool.or_true, Bool.false_or, Bool.or_false, Bool.true_and, Bool.and_true, Bool.false_and, Bool.and_false, Bool.not_true, Bool.not_false, Bool.false_eq_true, if_true, if_false] at hs
            exact ⟨by simp [go_sem, hs], by simp [go_sem]⟩
          · refine al_skip 4 42 true (by simp [go_sem]) (by simp [go_sem]) rfl rfl ?_
            refine al_run 2 (sh := []) tyOk (by simp [go_sem] <;> rfl) ?_
            refine al_nil ?_
            refine awp_ret ?_
            refine inBlock_ret ?_
            refine then_ret ?_
            refine ends_ret (by simp [go_sem] <;> rfl) (by simp [go_sem]) ?_
            have hs := formed_eq d
            simp only [Bool.not_true, h0, h2, h5, h6, h7, Bool.true_or, Bool.or_true, Bool.false_or, Bool.or_false, Bool.true_and, Bool.and_true, Bool.false_and, Bool.and_false, Bool.not_true, Bool.not_false, Bool.false_eq_true, if_true, if_false] at hs
            exact ⟨by simp [go_sem, hs], by simp [go_sem]⟩
        · refine al_skip 3 37 true (by simp [go_sem]) (by simp [go_sem]) rfl rfl ?_
          refine al_run 2 (sh := []) tyOk (by simp [go_sem] <;> rfl) ?_
          refine al_skip 4 42 true (by simp [go_sem]) (by simp [go_sem]) rfl rfl ?_
          refine al_run 2 (sh := []) tyOk (by simp [go_sem] <;> rfl) ?_
          refine al_nil ?_
          refine awp_ret ?_
          refine inBlock_ret ?_
          refine then_ret ?_
          refine ends_ret (by simp [go_sem] <;> rfl) (by simp [go_sem]) ?_
          have hs := formed_eq d
          simp only [Bool.not_true, h0, h2, h5, h6, Bool.true_or, Bool.or_true, Bool.false_or, Bool.or_false, Bool.true_and, Bool.and_true, Bool.false_and, Bool.and_false, Bool.not_true, Bool.not_false, Bool.false_eq_true, if_true, if_false] at hs
          exact ⟨by simp [go_sem, hs], by simp [go_sem]⟩
      · refine awp_skip ?_
        refine awp_seq ?_
        refine awp_region_run (sh := []) tyOk (by simp [go_sem] <;> rfl) ?_
        refine awp_ret ?_
        refine ends_ret (by simp [go_sem] <;> rfl) (by simp [go_sem]) ?_
        have hs := formed_eq d
        simp only [Bool.not_true, h0, h2, h5, Bool.true_or, Bool.or_true, Bool.false_or, Bool.or_false, Bool.true_and, Bool.and_true, Bool.false_and, Bool.and_false, Bool.not_true, Bool.not_false, Bool.false_eq_true, if_true, if_false] at hs
        exact ⟨by simp [go_sem, hs], by simp [go_sem]⟩

set_option maxHeartbeats 1000000 in
theorem c_flat_Kids (d : D) (n : Int) (more : Bool) : Pur Tryd.prog (GL kr) 59 [.pv (enc d), .pv (.int .i64 n), .pv (.bool more)] (.pv (encO (kidsOf d n more))) := by
  refine pur_of fun σ hgl => ?_
  refine acalls_of tyOk Tryd.func59 rfl (by simp [Tryd.f59]) ?_
  refine awp_seq ?_
  refine awp_region_run (sh := []) tyOk (by simp [go_sem] <;> rfl) ?_
  refine awp_seq ?_
  refine awp_seq ?_
  refine awp_reg ?_
  refine al_run 4 (sh := []) tyOk (by simp [go_sem] <;> rfl) ?_
  refine al_splitT 10 (by first | rfl | (simp [go_sem] <;> rfl)) (fun h0 => ?_) (fun h0 => ?_)
  · refine al_skip 5 10 false (by simp [go_sem]) (by simp [go_sem]) rfl rfl ?_
    refine al_run 2 (sh := []) tyOk (by simp [go_sem] <;> rfl) ?_
    refine al_skip 3 17 false (by simp [go_sem]) (by simp [go_sem]) rfl rfl ?_
    refine al_skip 5 20 true (by simp [go_sem]) (by simp [go_sem]) rfl rfl ?_
    refine al_skip 1 17 false (by simp [go_sem]) (by simp [go_sem]) rfl rfl ?_
    refine al_run 1 (sh := []) tyOk (by simp [go_sem] <;> rfl) ?_
    refine al_nil ?_
    refine awp_cond (b := true) (by simp [go_sem, h0]) (fun h => ?_) (fun h => ?_)
    rotate_left
    · cases h
    refine awp_seq ?_
    refine awp_region_run (sh := []) tyOk (by simp [go_sem] <;> rfl) ?_
    refine awp_ret ?_
    refine then_ret ?_
    refine ends_ret (by simp [go_sem] <;> rfl) (by simp [go_sem]) ?_
    have hs : kidsOf d n more = _ := rfl
    unfold kidsOf at hs
    simp only [Bool.not_true, h0, Bool.true_or, Bool.or_true, Bool.false_or, Bool.or_false, Bool.true_and, Bool.and_true, Bool.false_and, Bool.and_false, Bool.not_true, Bool.not_false, Bool.false_eq_true, if_true, if_false] at hs
    exact ⟨by simp [go_sem, kidsOf, encO, h0], by simp [go_sem]⟩
  · refine al_runG (sh := []) 5 10 false false tyOk (by simp [go_sem]) rfl (by simp [go_sem]) rfl rfl (by simp [go_sem] <;> rfl) ?_
    refine al_run 2 (sh := []) tyOk (by simp [go_sem] <;> rfl) ?_
    refine al_splitT 17 (by first | rfl | (simp [go_sem] <;> rfl)) (fun h1 => ?_) (fun h1 => ?_)
    · refine al_skip 3 17 false (by simp [go_sem]) (by simp [go_sem]) rfl rfl ?_
      refine al_skip 5 20 true (by simp [go_sem]) (by simp [go_sem]) rfl rfl ?_
      refine al_skip 1 17 false (by simp [go_sem]) (by simp [go_sem]) rfl rfl ?_
      refine al_run 1 (sh := []) tyOk (by simp [go_sem] <;> rfl) ?_
      refine al_nil ?_
      refine awp_cond (b := true) (by simp [go_sem, h0, h1]) (fun h => ?_) (fun h => ?_)
      rotate_left
      · cases h
      refine awp_seq ?_
      refine awp_region_run (sh := []) tyOk (by simp [go_sem] <;> rfl) ?_
      refine awp_ret ?_
      refine then_ret ?_
      refine ends_ret (by simp [go_sem] <;> rfl) (by simp [go_sem]) ?_
      have hs : kidsOf d n more = _ := rfl
      unfold kidsOf at hs
      simp only [Bool.not_true, h0, h1, Bool.true_or, Bool.or_true, Bool.false_or, Bool.or_false, Bool.true_and, Bool.and_true, Bool.false_and, Bool.and_false, Bool.not_true, Bool.not_false, Bool.false_eq_true, if_true, if_false] at hs
      exact ⟨by simp [go_sem, kidsOf, encO, h0, h1], by simp [go_sem]⟩
    · refine al_runG (sh := []) 3 17 false false tyOk (by simp [go_sem]) rfl (by simp [go_sem]) rfl rfl (by simp [go_sem] <;> rfl) ?_
      refine al_splitT 20 (by first | rfl | (simp [go_sem] <;> rfl)) (fun h2 => ?_) (fun h2 => ?_)
      · refine al_runG (sh := []) 5 20 true true tyOk (by simp [go_sem]) rfl (by simp [go_sem]) rfl rfl (by simp [go_sem] <;> rfl) ?_
        refine al_runG (sh := []) 1 17 false false tyOk (by simp [go_sem]) rfl (by simp [go_sem]) rfl rfl (by simp [go_sem] <;> rfl) ?_
        refine al_run 1 (sh := []) tyOk (by simp [go_sem] <;> rfl) ?_
        refine al_nil ?_
        refine awp_cond (by first | rfl | (simp [go_sem] <;> rfl)) (fun h3 => ?_) (fun h3 => ?_)
        · refine awp_seq ?_
          refine awp_region_run (sh := []) tyOk (by simp [go_sem] <;> rfl) ?_
          refine awp_ret ?_
          refine then_ret ?_
          refine ends_ret (by simp [go_sem] <;> rfl) (by simp [go_sem]) ?_
          have hs : kidsOf d n more = _ := rfl
          unfold kidsOf at hs
          simp only [Bool.not_true, h0, h1, h2, h3, Bool.true_or, Bool.or_true, Bool.false_or, Bool.or_false, Bool.true_and, Bool.and_true, Bool.false_and, Bool.and_false, Bool.not_true, Bool.not_false, Bool.false_eq_true, if_true, if_false] at hs
          exact ⟨by simp [go_sem, kidsOf, encO, h0, h1, h2, h3], by simp [go_sem]⟩
        · refine awp_skip ?_
          refine awp_seq ?_
          refine awp_region_run (sh := []) tyOk (by simp [go_sem] <;> rfl) ?_
          refine awp_ret ?_
          refine ends_ret (by simp [go_sem] <;> rfl) (by simp [go_sem]) ?_
          have hs : kidsOf d n more = _ := rfl
          unfold kidsOf at hs
          simp only [Bool.not_true, h0, h1, h2, h3, Bool.true_or, Bool.or_true, Bool.false_or, Bool.or_false, Bool.true_and, Bool.and_true, Bool.false_and, Bool.and_false, Bool.not_true, Bool.not_false, Bool.false_eq_true, if_true, if_false] at hs
          exact ⟨by simp [go_sem, kidsOf, encO, h0, h1, h2, h3], by simp [go_sem]⟩
      · refine al_skip 5 20 true (by simp [go_sem]) (by simp [go_sem]) rfl rfl ?_
        refine al_runG (sh := []) 1 17 false false tyOk (by simp [go_sem]) rfl (by simp [go_sem]) rfl rfl (by simp [go_sem] <;> rfl) ?_
        refine al_run 1 (sh := []) tyOk (by simp [go_sem] <;> rfl) ?_
        refine al_nil ?_
        refine awp_cond (b := false) (by simp [go_sem, h0, h1, h2]) (fun h => ?_) (fun h => ?_)
        · cases h
        refine awp_skip ?_
        refine awp_seq ?_
        refine awp_region_run (sh := []) tyOk (by simp [go_sem] <;> rfl) ?_
        refine awp_ret ?_
        refine ends_ret (by simp [go_sem] <;> rfl) (by simp [go_sem]) ?_
        have hs : kidsOf d n more = _ := rfl
        unfold kidsOf at hs
        simp only [Bool.not_true, h0, h1, h2, Bool.true_or, Bool.or_true, Bool.false_or, Bool.or_false, Bool.true_and, Bool.and_true, Bool.false_and, Bool.and_false, Bool.not_true, Bool.not_false, Bool.false_eq_true, if_true, if_false] at hs
        exact ⟨by simp [go_sem, kidsOf, encO, h0, h1, h2], by simp [go_sem]⟩

set_option maxHeartbeats 1000000 in
theorem c_node_IsName (d : D) : Pur Tryd.prog (GL kr) 40 [.pv (enc d)] (.pv (.bool (isName d))) := by
  refine pur_of fun σ hgl => ?_
  refine acalls_of tyOk Tryd.func40 rfl (by simp [Tryd.f40]) ?_
  refine awp_seq ?_
  refine awp_region_run (sh := []) tyOk (by simp [go_sem] <;> rfl) ?_
  refine awp_seq ?_
  have hg0 : lookupG σ.gl 0 = some (.ptr [.map kr.l resV]) := by rw [hgl]; exact gl_res
  refine awp_reg ?_
  refine al_run 4 (sh := []) tyOk (by simp [go_sem, hg0, look_named] <;> rfl) ?_
  refine al_splitT 6 (by first | rfl | (simp [go_sem, hg0, look_named] <;> rfl)) (fun h0 => ?_) (fun h0 => ?_)
  · refine al_runG (sh := []) 5 6 true true tyOk (by simp [go_sem]) rfl (by simp [go_sem]) rfl rfl (by simp [go_sem, hg0, look_named] <;> rfl) ?_
    refine al_run 2 (sh := []) tyOk (by simp [go_sem, hg0, look_named] <;> rfl) ?_
    refine al_nil ?_
    refine awp_ret ?_
    refine ends_ret (by simp [go_sem, hg0, look_named] <;> rfl) (by simp [go_sem]) ?_
    exact ⟨by simp [go_sem, hg0, look_named, h0, isName], by simp [go_sem]⟩
  · refine al_skip 5 6 true (by simp [go_sem]) (by simp [go_sem]) rfl rfl ?_
    refine al_run 2 (sh := []) tyOk (by simp [go_sem, hg0, look_named] <;> rfl) ?_
    refine al_nil ?_
    refine awp_ret ?_
    refine ends_ret (by simp [go_sem, hg0, look_named] <;> rfl) (by simp [go_sem]) ?_
    exact ⟨by simp [go_sem, hg0, look_named, h0, isName], by simp [go_sem]⟩

set_option maxHeartbeats 1000000 in
theorem c_node_Label (d : D) : Pur Tryd.prog (GL kr) 60 [.pv (enc d)] (.pv (.bool (isLabel d))) := by
  refine pur_of fun σ hgl => ?_
  refine acalls_of tyOk Tryd.func60 rfl (by simp [Tryd.f60]) ?_
  refine awp_seq ?_
  refine awp_region_run (sh := []) tyOk (by simp [go_sem] <;> rfl) ?_
  refine awp_seq ?_
  refine awp_seq ?_
  refine awp_region_run (sh := []) tyOk (by simp [go_sem] <;> rfl) ?_
  refine awp_cond (by first | rfl | (simp [go_sem] <;> rfl)) (fun h0 => ?_) (fun h0 => ?_)
  · refine awp_seq ?_
    refine awp_reg ?_
    refine al_run 4 (sh := []) tyOk (by simp [go_sem] <;> rfl) ?_
    refine al_splitT 9 (by first | rfl | (simp [go_sem] <;> rfl)) (fun h1 => ?_) (fun h1 => ?_)
    · refine al_runG (sh := []) 3 9 true true tyOk (by simp [go_sem]) rfl (by simp [go_sem]) rfl rfl (by simp [go_sem] <;> rfl) ?_
      refine al_run 2 (sh := []) tyOk (by simp [go_sem] <;> rfl) ?_
      refine al_nil ?_
      refine awp_ret ?_
      refine then_ret ?_
      refine ends_ret (by simp [go_sem] <;> rfl) (by simp [go_sem]) ?_
      exact ⟨by simp only [isLabel, h0, h1, Bool.true_or, Bool.or_true, Bool.false_or, Bool.or_false, Bool.true_and, Bool.and_true, Bool.false_and, Bool.and_false, Bool.not_true, Bool.not_false, Bool.false_eq_true, if_true, if_false]; simp [go_sem], by simp [go_sem]⟩
    · refine al_skip 3 9 true (by simp [go_sem]) (by simp [go_sem]) rfl rfl ?_
      refine al_run 2 (sh := []) tyOk (by simp [go_sem] <;> rfl) ?_
      refine al_nil ?_
      refine awp_ret ?_
      refine then_ret ?_
      refine ends_ret (by simp [go_sem] <;> rfl) (by simp [go_sem]) ?_
      exact ⟨by simp only [isLabel, h0, h1, Bool.true_or, Bool.or_true, Bool.false_or, Bool.or_false, Bool.true_and, Bool.and_true, Bool.false_and, Bool.and_false, Bool.not_true, Bool.not_false, Bool.false_eq_true, if_true, if_false]; simp [go_sem], by simp [go_sem]⟩
  · refine awp_skip ?_
    refine awp_seq ?_
    refine awp_reg ?_
    refine al_run 1 (sh := []) tyOk (by simp [go_sem] <;> rfl) ?_
    refine al_fn rfl rfl rfl (by simp [go_sem] <;> rfl) call40 ((c_node_IsName d) _ (by exact hgl)) (by simp [go_sem] <;> rfl) (by simp [go_sem]) rfl rfl ?_
    refine al_run 1 (sh := []) tyOk (by simp [go_sem] <;> rfl) ?_
    refine al_nil ?_
    refine awp_ret ?_
    refine ends_ret (by simp [go_sem] <;> rfl) (by simp [go_sem]) ?_
    exact ⟨by simp only [isLabel, h0, Bool.true_or, Bool.or_true, Bool.false_or, Bool.or_false, Bool.true_and, Bool.and_true, Bool.false_and, Bool.and_false, Bool.not_true, Bool.not_false, Bool.false_eq_true, if_true, if_false]; simp [go_sem], by simp [go_sem]⟩

set_option maxHeartbeats 1000000 in
theorem c_flat_Parts (d : D) (h : d.kind = 3 → d.kids ≠ []) (hp2 : d.kind = 3 → d.head.text = sLet ∨ d.head.text = sCall → 2 ≤ d.kids.length) : Pur Tryd.prog (GL kr) 51 [.pv (enc d)] (.pv (.slice ((parts d).map enc))) := by
  refine pur_of fun σ hgl => ?_
  refine acalls_of tyOk Tryd.func51 rfl (by simp [Tryd.f51]) ?_
  refine awp_seq ?_
  refine awp_region_run (sh := []) tyOk (by simp [go_sem] <;> rfl) ?_
  refine awp_seq ?_
  refine awp_seq ?_
  refine awp_region_run (sh := []) tyOk (by simp [go_sem] <;> rfl) ?_
  refine awp_cond (by first | rfl | (simp [go_sem] <;> rfl)) (fun h0 => ?_) (fun h0 => ?_)
  · refine awp_seq ?_
    refine awp_region_run (sh := []) tyOk (by simp [go_sem] <;> rfl) ?_
    refine awp_ret ?_
    refine then_ret ?_
    refine ends_ret (by simp [go_sem] <;> rfl) (by simp [go_sem]) ?_
    exact ⟨by simp only [parts, h0, Bool.true_or, Bool.or_true, Bool.false_or, Bool.or_false, Bool.true_and, Bool.and_true, Bool.false_and, Bool.and_false, Bool.not_true, Bool.not_false, Bool.false_eq_true, if_true, if_false]; simp [go_sem], by simp [go_sem]⟩
  · refine awp_skip ?_
    refine awp_seq ?_
    refine awp_seq ?_
    have hk3 : d.kind = 3 := by simpa using h0
    obtain ⟨x, r, hx⟩ := kids_cons (h hk3)
    have hh : d.head = x := by simp [D.head, hx]
    rw [hh] at hp2
    have hr0 : (0 : Int) ≤ r.length := by omega
    have hr1 : (1 : Int) ≤ (r.length : Int) + 1 := by omega
    refine awp_region_run (sh := []) tyOk (by simp [go_sem, hx, hr1] <;> rfl) ?_
    refine awp_block ?_
    refine awp_seq ?_
    refine awp_region_run (sh := []) tyOk (by simp [go_sem, hx, hr1] <;> rfl) ?_
    refine awp_cond (by first | rfl | (simp [go_sem, hx, hr1] <;> rfl)) (fun h1 => ?_) (fun h1 => ?_)
    · refine awp_seq ?_
      refine awp_region_run (sh := []) tyOk (by simp [go_sem, hx, hr1] <;> rfl) ?_
      refine awp_ret ?_
      refine inBlock_ret ?_
      refine then_ret ?_
      refine ends_ret (by simp [go_sem] <;> rfl) (by simp [go_sem]) ?_
      exact ⟨by simp only [parts, hh, sQuote, sLet, sCall, hx, hr1, h0, h1, Bool.true_or, Bool.or_true, Bool.false_or, Bool.or_false, Bool.true_and, Bool.and_true, Bool.false_and, Bool.and_false, Bool.not_true, Bool.not_false, Bool.false_eq_true, if_true, if_false, hx, List.drop_succ_cons, List.drop_zero]; simp [go_sem], by simp [go_sem]⟩
    · refine awp_seq ?_
      refine awp_seq ?_
      refine awp_region_run (sh := []) tyOk (by simp [go_sem, hx, hr1] <;> rfl) ?_
      refine awp_cond (by first | rfl | (simp [go_sem, hx, hr1] <;> rfl)) (fun h2 => ?_) (fun h2 => ?_)
      · refine awp_skip ?_
        refine awp_cond (b := true) (by simp [go_sem, hx, hr1, h0, h1, h2]) (fun h => ?_) (fun h => ?_)
        rotate_left
        · cases h
        refine awp_seq ?_
        have hr2 : (2 : Int) ≤ (r.length : Int) + 1 := by have h3 := hp2 hk3 (by first | exact .inl (of_decide_eq_true h2) | exact .inr (of_decide_eq_true h2)); rw [hx] at h3; simp at h3; omega
        refine awp_region_run (sh := []) tyOk (by simp [go_sem, hx, hr1, hr2] <;> rfl) ?_
        refine awp_ret ?_
        refine inBlock_ret ?_
        refine then_ret ?_
        refine ends_ret (by simp [go_sem] <;> rfl) (by simp [go_sem]) ?_
        exact ⟨by simp only [parts, hh, sQuote, sLet, sCall, hx, hr1, hr2, h0, h1, h2, Bool.true_or, Bool.or_true, Bool.false_or, Bool.or_false, Bool.true_and, Bool.and_true, Bool.false_and, Bool.and_false, Bool.not_true, Bool.not_false, Bool.false_eq_true, if_true, if_false, hx, List.drop_succ_cons, List.drop_zero]; simp [go_sem], by simp [go_sem]⟩
      · refine awp_region_run (sh := []) tyOk (by simp [go_sem, hx, hr1] <;> rfl) ?_
        refine awp_cond (by first | rfl | (simp [go_sem, hx, hr1] <;> rfl)) (fun h3 => ?_) (fun h3 => ?_)
        · refine awp_seq ?_
          have hr2 : (2 : Int) ≤ (r.length : Int) + 1 := by have h3 := hp2 hk3 (by first | exact .inl (of_decide_eq_true h3) | exact .inr (of_decide_eq_true h3)); rw [hx] at h3; simp at h3; omega
          refine awp_region_run (sh := []) tyOk (by simp [go_sem, hx, hr1, hr2] <;> rfl) ?_
          refine awp_ret ?_
          refine inBlock_ret ?_
          refine then_ret ?_
          refine ends_ret (by simp [go_sem] <;> rfl) (by simp [go_sem]) ?_
          exact ⟨by simp only [parts, hh, sQuote, sLet, sCall, hx, hr1, hr2, h0, h1, h2, h3, Bool.true_or, Bool.or_true, Bool.false_or, Bool.or_false, Bool.true_and, Bool.and_true, Bool.false_and, Bool.and_false, Bool.not_true, Bool.not_false, Bool.false_eq_true, if_true, if_false, hx, List.drop_succ_cons, List.drop_zero]; simp [go_sem], by simp [go_sem]⟩
        · refine awp_skip ?_
          refine awp_seq ?_
          refine awp_region_run (sh := []) tyOk (by simp [go_sem, hx, hr1] <;> rfl) ?_
          refine awp_ret ?_
          refine ends_ret (by simp [go_sem] <;> rfl) (by simp [go_sem]) ?_
          exact ⟨by simp only [parts, hh, sQuote, sLet, sCall, hx, hr1, h0, h1, h2, h3, Bool.true_or, Bool.or_true, Bool.false_or, Bool.or_false, Bool.true_and, Bool.and_true, Bool.false_and, Bool.and_false, Bool.not_true, Bool.not_false, Bool.false_eq_true, if_true, if_false, hx, List.drop_succ_cons, List.drop_zero]; simp [go_sem], by simp [go_sem]⟩

end Go.Proofs.YtienmmfjjffjaaaDoor

/- Contracts of functions on data, two. -/
namespace Go.Proofs.YtienmmfjjffjaaaDoor
open Go Go.Aw
variable {kr : ResO}
set_option maxHeartbeats 1000000 in
theorem c_own_acc (d : D) (hd : d.size ≤ 1000000000) : ∀ σ : Store, σ.gl = (GL kr) → ACalls Tryd.prog 20 [.pv (enc d)] σ (ownR 24 d σ) := by
  induction d using D.ind with
  | _ kind num text kids ih =>
  generalize hD : D.mk kind num text kids = d at *
  have hk : d.kids = kids := by rw [← hD]; rfl
  clear hD
  subst hk
  have hkl := D.kids_length_lt d
  intro σ hgl
  refine acalls_of tyOk Tryd.func20 rfl (by simp [Tryd.f20]) ?_
  refine awp_seq ?_
  refine awp_region_run (sh := []) tyOk (by simp [go_sem] <;> rfl) ?_
  refine awp_seq ?_
  refine awp_region_run (sh := []) tyOk (by simp [go_sem] <;> rfl) ?_
  refine awp_seq ?_
  refine awp_seq ?_
  refine awp_region_run (sh := []) tyOk (by simp [go_sem] <;> rfl) ?_
  refine awp_adopt' 3 24 4 (by simp [go_sem] <;> rfl) ?_
  refine awp_block ?_
  refine awp_loop_headK σ.objs.length (σ.toks.length + 1) 2 [1, 2, 7, 8] (fun k : Nat => [(3, .acc ((d.kids.map enc).take k) σ.toks.length), (9, .pv (.int .i64 ↑k))]) (fun k => { σ with toks := σ.toks ++ [⟨k, 24, 4⟩] }) (fun k => k ≤ d.kids.length) (fun k => d.kids.length - k) 0 (Nat.zero_le _) ⟨by simp [go_sem], rfl, by simp, by simp, by simp [go_sem], fun ob h => .inl (by simpa [go_sem] using h), by simp [go_sem]⟩ ?_
  intro k hk
  refine awp_seq ?_
  refine awp_region_run (sh := []) tyOk (by simp [go_sem] <;> rfl) ?_
  refine awp_seq ?_
  refine awp_cond (by first | rfl | (simp [go_sem] <;> rfl)) (fun h0 => ?_) (fun h0 => ?_)
  · have hlt : k < d.kids.length := by simp at h0; omega
    have hw : IntKind.i64.wrap (↑k + 1) = (k : Int) + 1 := wrap_succ (by omega)
    obtain ⟨x, hx, hxm⟩ := get_lt hlt
    have hxs := D.size_kid_lt hxm
    have ht : (d.kids.map enc).take (k + 1) = (d.kids.map enc).take k ++ [enc x] := take_next (by simp [hx])
    have hm : min k d.kids.length = k := by omega
    have hb : (k + 1) * 56 ≤ 140737488355328 := by omega
    refine awp_skip ?_
    refine awp_seq ?_
    refine awp_block ?_
    refine awp_seq ?_
    refine awp_region_run (sh := []) tyOk (by simp [go_sem, hx, hm, hb] <;> rfl) ?_
    refine awp_reg ?_
    refine al_run 2 (sh := []) tyOk (by simp [go_sem, hx, hm, hb] <;> rfl) ?_
    refine al_callW rfl rfl rfl (by simp [go_sem, hx, hm, hb] <;> rfl) call20 (ih x hxm (by omega) _ hgl) (by simp [go_sem, hx, hm, hb] <;> rfl) (by simp [go_sem, hx, hm, hb]) rfl rfl ?_
    rintro r σ' ⟨rfl, rfl⟩
    refine al_run 3 (sh := []) tyOk (by simp [go_sem, hx, hm, hb] <;> rfl) ?_
    refine al_nil ?_
    refine awp_region_run (sh := []) tyOk (by simp [go_sem, hx, hm, hb] <;> rfl) ?_
    exact next_intro (k + 1) σ.objs.length (σ.toks.length + 1) 2 (hlt) (by omega) ⟨by simp [go_sem, hx, hm, hb, hw, ht], rfl, by simp, by simp, by simp [go_sem, hx, hm, hb, hw, ht], fun ob h => .inl (by simpa [go_sem, hx, hm, hb, hw, ht] using h), by simp [go_sem]⟩
  · have hke : k = d.kids.length := by simp at h0; omega
    subst hke
    refine awp_exit ?_
    refine then_exit ?_
    refine then_exit ?_
    refine inBlock_hit ?_
    refine awp_seq ?_
    refine awp_region_run (sh := []) tyOk (by simp [go_sem] <;> rfl) ?_
    refine awp_seq ?_
    refine awp_region_run (sh := []) tyOk (by simp [go_sem] <;> rfl) ?_
    refine awp_ret ?_
    refine ends_ret (by simp [go_sem] <;> rfl) (by simp [go_sem]) ?_
    simp [ownR, go_sem, take_all]

theorem c_own (d : D) (hd : d.size ≤ 1000000000) : Pur Tryd.prog (GL kr) 20 [.pv (enc d)] (.pv (enc d)) := by
  intro σ hgl
  refine (c_own_acc d hd σ hgl).less ?_
  rintro r σ' ⟨rfl, rfl⟩
  exact ⟨σ.objs.length, σ.toks.length, _, by simp [go_sem], Nat.le_refl _, Nat.le_refl _, fun ob h => .inl (by simpa using h), rfl, by simp [Store.cut]⟩

set_option maxHeartbeats 1000000 in
theorem c_EqualFunc (a b : List D) (hl : a.length ≤ 1000000000) (σ : Store) (hgl : σ.gl = (GL kr)) (f : FuncId) (hc : Callable Tryd.prog f) (p : D → D → Bool) (hp : ∀ x y, x ∈ a → y ∈ b → PurAt Tryd.prog σ f [.pv (enc x), .pv (enc y)] (.pv (.bool (p x y)))) : PurAt Tryd.prog σ 52 [.pv (.slice (a.map enc)), .pv (.slice (b.map enc)), .func (.func f) []] (.pv (.bool (eqf p a b))) := by
  refine purAt_of ?_
  refine acalls_of tyOk Tryd.func52 rfl (by simp [Tryd.f52]) ?_
  refine awp_seq ?_
  refine awp_region_run (sh := []) tyOk (by simp [go_sem] <;> rfl) ?_
  refine awp_seq ?_
  refine awp_seq ?_
  refine awp_region_run (sh := []) tyOk (by simp [go_sem] <;> rfl) ?_
  refine awp_cond (by first | rfl | (simp [go_sem] <;> rfl)) (fun h0 => ?_) (fun h0 => ?_)
  · refine awp_seq ?_
    refine awp_region_run (sh := []) tyOk (by simp [go_sem] <;> rfl) ?_
    refine awp_ret ?_
    refine then_ret ?_
    refine ends_ret (by simp [go_sem] <;> rfl) (by simp [go_sem]) ?_
    exact ⟨by simp only [eqf, h0, Bool.true_or, Bool.or_true, Bool.false_or, Bool.or_false, Bool.true_and, Bool.and_true, Bool.false_and, Bool.and_false, Bool.not_true, Bool.not_false, Bool.false_eq_true, if_true, if_false]; simp [go_sem], by simp [go_sem]⟩
  · have hlen : a.length = b.length := by have := h0; simp only [bne_eq_false_iff_eq] at this; omega
    have hzl : (a.zip b).length = a.length := by simp; omega
    refine awp_skip ?_
    refine awp_seq ?_
    refine awp_seq ?_
    refine awp_region_run (sh := []) tyOk (by simp [go_sem] <;> rfl) ?_
    refine awp_block ?_
    refine awp_loop_headK σ.objs.length σ.toks.length 0 [1, 2, 6, 15, 16] (fun k : Nat => [(17, .pv (.int .i64 ↑k))]) (fun k => σ) (fun k => k ≤ a.length ∧ NotYet (fun x => !p x.1 x.2) (a.zip b) k) (fun k => a.length - k) 0 (⟨Nat.zero_le _, .zero⟩) ⟨by simp [go_sem], rfl, by simp, by simp, by simp [go_sem], fun ob h => .inl (by simpa [go_sem] using h), by simp [go_sem]⟩ ?_
    rintro k ⟨hk, hn⟩
    refine awp_seq ?_
    refine awp_region_run (sh := []) tyOk (by simp [go_sem] <;> rfl) ?_
    refine awp_seq ?_
    refine awp_cond (by first | rfl | (simp [go_sem] <;> rfl)) (fun h1 => ?_) (fun h1 => ?_)
    · have hlt : k < a.length := by simp at h1; omega
      have hw : IntKind.i64.wrap (↑k + 1) = (k : Int) + 1 := wrap_succ (by omega)
      obtain ⟨x, hx, hxm⟩ := get_lt hlt
      obtain ⟨y, hy, hym⟩ := get_lt (l := b) (k := k) (by omega)
      refine awp_skip ?_
      refine awp_seq ?_
      refine awp_block ?_
      refine awp_seq ?_
      refine awp_region_run (sh := []) tyOk (by simp [go_sem, hx, hy] <;> rfl) ?_
      refine awp_seq ?_
      refine awp_region_run (sh := []) tyOk (by simp [go_sem, hx, hy] <;> rfl) ?_
      refine awp_seq ?_
      refine awp_reg ?_
      refine al_run 3 (sh := []) tyOk (by simp [go_sem, hx, hy] <;> rfl) ?_
      refine al_fn rfl rfl rfl (by simp [go_sem, hx, hy] <;> rfl) hc (hp x y hxm hym) (by simp [go_sem, hx, hy] <;> rfl) (by simp [go_sem, hx, hy]) rfl rfl ?_
      refine al_run 1 (sh := []) tyOk (by simp [go_sem, hx, hy] <;> rfl) ?_
      refine al_nil ?_
      refine awp_cond (by first | rfl | (simp [go_sem, hx, hy] <;> rfl)) (fun h2 => ?_) (fun h2 => ?_)
      · refine awp_seq ?_
        refine awp_region_run (sh := []) tyOk (by simp [go_sem, hx, hy] <;> rfl) ?_
        refine awp_ret ?_
        refine inBlock_ret ?_
        refine then_ret ?_
        refine then_ret ?_
        refine inBlock_ret ?_
        refine then_ret ?_
        refine ends_ret (by simp [go_sem] <;> rfl) (by simp [go_sem]) ?_
        have hall : (a.zip b).all (fun x => p x.1 x.2) = false := by rw [List.all_eq_false]; exact ⟨(x, y), List.mem_of_getElem? (zip_get hx hy), by simpa using h2⟩
        exact ⟨by simp only [eqf, hall, hx, hy, h0, h1, h2, Bool.true_or, Bool.or_true, Bool.false_or, Bool.or_false, Bool.true_and, Bool.and_true, Bool.false_and, Bool.and_false, Bool.not_true, Bool.not_false, Bool.false_eq_true, if_true, if_false]; simp [go_sem], by simp [go_sem]⟩
      · refine awp_skip ?_
        refine awp_region_run (sh := []) tyOk (by simp [go_sem, hx, hy] <;> rfl) ?_
        exact next_intro (k + 1) σ.objs.length σ.toks.length 0 (⟨hlt, hn.succ (zip_get hx hy) (by simpa using h2)⟩) (by omega) ⟨by simp [go_sem, hx, hy, hw], rfl, by simp, by simp, by simp [go_sem, hx, hy, hw], fun ob h => .inl (by simpa [go_sem, hx, hy, hw] using h), by simp [go_sem]⟩
    · have hke : k = a.length := by simp at h1; omega
      subst hke
      have hall : (a.zip b).all (fun x => p x.1 x.2) = true := by have := (hzl ▸ hn : NotYet _ (a.zip b) (a.zip b).length).all; rw [List.all_eq_true]; intro z hz; simpa using this z hz
      refine awp_exit ?_
      refine then_exit ?_
      refine then_exit ?_
      refine inBlock_hit ?_
      refine awp_seq ?_
      refine awp_region_run (sh := []) tyOk (by simp [go_sem] <;> rfl) ?_
      refine awp_ret ?_
      refine ends_ret (by simp [go_sem] <;> rfl) (by simp [go_sem]) ?_
      exact ⟨by simp only [eqf, hall, h0, Bool.true_or, Bool.or_true, Bool.false_or, Bool.or_false, Bool.true_and, Bool.and_true, Bool.false_and, Bool.and_false, Bool.not_true, Bool.not_false, Bool.false_eq_true, if_true, if_false]; simp [go_sem], by simp [go_sem]⟩

set_option maxHeartbeats 1000000 in
theorem c_datum_Equal (d : D) (hd : d.size ≤ 1000000000) : ∀ e : D, Pur Tryd.prog (GL kr) 35 [.pv (enc d), .pv (enc e)] (.pv (.bool (deq d e))) := by
  induction d using D.ind with
  | _ kind num text kids ih =>
  generalize hD : D.mk kind num text kids = d at *
  have hk : d.kids = kids := by rw [← hD]; rfl
  clear hD
  subst hk
  have hkl := D.kids_length_lt d
  intro e
  refine pur_of fun σ hgl => ?_
  refine acalls_of tyOk Tryd.func35 rfl (by simp [Tryd.f35]) ?_
  refine awp_seq ?_
  refine awp_region_run (sh := []) tyOk (by simp [go_sem] <;> rfl) ?_
  refine awp_seq ?_
  refine awp_reg ?_
  refine al_run 6 (sh := []) tyOk (by simp [go_sem] <;> rfl) ?_
  refine al_splitT 10 (by first | rfl | (simp [go_sem] <;> rfl)) (fun h0 => ?_) (fun h0 => ?_)
  · refine al_runG (sh := []) 5 10 true true tyOk (by simp [go_sem]) rfl (by simp [go_sem]) rfl rfl (by simp [go_sem] <;> rfl) ?_
    refine al_run 2 (sh := []) tyOk (by simp [go_sem] <;> rfl) ?_
    refine al_splitT 17 (by first | rfl | (simp [go_sem] <;> rfl)) (fun h1 => ?_) (fun h1 => ?_)
    · refine al_runG (sh := []) 5 17 true true tyOk (by simp [go_sem]) rfl (by simp [go_sem]) rfl rfl (by simp [go_sem] <;> rfl) ?_
      refine al_run 2 (sh := []) tyOk (by simp [go_sem] <;> rfl) ?_
      refine al_splitT 24 (by first | rfl | (simp [go_sem] <;> rfl)) (fun h2 => ?_) (fun h2 => ?_)
      · refine al_runG (sh := []) 4 24 true true tyOk (by simp [go_sem]) rfl (by simp [go_sem]) rfl rfl (by simp [go_sem] <;> rfl) ?_
        refine al_fnG 24 true true (by simp [go_sem]) rfl (by simp [go_sem]) rfl rfl (by simp [go_sem] <;> rfl) call52 (c_EqualFunc d.kids e.kids (by omega) σ hgl 35 call35 deq (fun x y hx _ => ih x hx (by have := D.size_kid_lt hx; omega) y σ hgl)) (by simp [go_sem] <;> rfl) (by simp [go_sem]) rfl rfl ?_
        refine al_run 2 (sh := []) tyOk (by simp [go_sem] <;> rfl) ?_
        refine al_nil ?_
        refine awp_ret ?_
        refine ends_ret (by simp [go_sem] <;> rfl) (by simp [go_sem]) ?_
        have hs := deq_eq d e
        simp only [Bool.not_true, h0, h1, h2, Bool.true_or, Bool.or_true, Bool.false_or, Bool.or_false, Bool.true_and, Bool.and_true, Bool.false_and, Bool.and_false, Bool.not_true, Bool.not_false, Bool.false_eq_true, if_true, if_false] at hs
        exact ⟨by simp [go_sem, hs], by simp [go_sem]⟩
      · refine al_skip 5 24 true (by simp [go_sem]) (by simp [go_sem]) rfl rfl ?_
        refine al_run 2 (sh := []) tyOk (by simp [go_sem] <;> rfl) ?_
        refine al_nil ?_
        refine awp_ret ?_
        refine ends_ret (by simp [go_sem] <;> rfl) (by simp [go_sem]) ?_
        have hs := deq_eq d e
        simp only [Bool.not_true, h0, h1, h2, Bool.true_or, Bool.or_true, Bool.false_or, Bool.or_false, Bool.true_and, Bool.and_true, Bool.false_and, Bool.and_false, Bool.not_true, Bool.not_false, Bool.false_eq_true, if_true, if_false] at hs
        exact ⟨by simp [go_sem, hs], by simp [go_sem]⟩
    · refine al_skip 5 17 true (by simp [go_sem]) (by simp [go_sem]) rfl rfl ?_
      refine al_run 2 (sh := []) tyOk (by simp [go_sem] <;> rfl) ?_
      refine al_skip 5 24 true (by simp [go_sem]) (by simp [go_sem]) rfl rfl ?_
      refine al_run 2 (sh := []) tyOk (by simp [go_sem] <;> rfl) ?_
      refine al_nil ?_
      refine awp_ret ?_
      refine ends_ret (by simp [go_sem] <;> rfl) (by simp [go_sem]) ?_
      have hs := deq_eq d e
      simp only [Bool.not_true, h0, h1, Bool.true_or, Bool.or_true, Bool.false_or, Bool.or_false, Bool.true_and, Bool.and_true, Bool.false_and, Bool.and_false, Bool.not_true, Bool.not_false, Bool.false_eq_true, if_true, if_false] at hs
      exact ⟨by simp [go_sem, hs], by simp [go_sem]⟩
  · refine al_skip 5 10 true (by simp [go_sem]) (by simp [go_sem]) rfl rfl ?_
    refine al_run 2 (sh := []) tyOk (by simp [go_sem] <;> rfl) ?_
    refine al_skip 5 17 true (by simp [go_sem]) (by simp [go_sem]) rfl rfl ?_
    refine al_run 2 (sh := []) tyOk (by simp [go_sem] <;> rfl) ?_
    refine al_skip 5 24 true (by simp [go_sem]) (by simp [go_sem]) rfl rfl ?_
    refine al_run 2 (sh := []) tyOk (by simp [go_sem] <;> rfl) ?_
    refine al_nil ?_
    refine awp_ret ?_
    refine ends_ret (by simp [go_sem] <;> rfl) (by simp [go_sem]) ?_
    have hs := deq_eq d e
    simp only [Bool.not_true, h0, Bool.true_or, Bool.or_true, Bool.false_or, Bool.or_false, Bool.true_and, Bool.and_true, Bool.false_and, Bool.and_false, Bool.not_true, Bool.not_false, Bool.false_eq_true, if_true, if_false] at hs
    exact ⟨by simp [go_sem, hs], by simp [go_sem]⟩

end Go.Proofs.YtienmmfjjffjaaaDoor

/- Contracts of functions on data, three. -/
namespace Go.Proofs.YtienmmfjjffjaaaDoor
open Go Go.Aw
variable {kr : ResO}
set_option maxHeartbeats 1000000 in
theorem c_find_1 (d f : D) (hd : d.size ≤ 1000000000) (hk : d.kids ≠ []) (σ : Store) (hgl : σ.gl = (GL kr)) (o : Nat) (ho : σ.objs[o]? = some (.box [.pv (.int .i64 f.kind), .pv (.int .i64 f.num), .pv (.str f.text), .pv (.slice (f.kids.map enc))])) : PurAt Tryd.prog σ 34 [.pv (enc d), .ptr o 0] (.pv (.bool (deq d.head f))) := by
  refine purAt_of ?_
  refine acalls_of tyOk Tryd.func34 rfl (by simp [Tryd.f34]) ?_
  refine awp_seq ?_
  refine awp_region_run (sh := []) tyOk (by simp [go_sem] <;> rfl) ?_
  refine awp_seq ?_
  obtain ⟨x, r, hx⟩ := kids_cons hk
  have hh : d.head = x := by simp [D.head, hx]
  have hxs : x.size < d.size := D.size_kid_lt (by rw [hx]; simp)
  refine awp_regDP tyOk tySz 5 (by kernel_rfl) (by decide) ?_
  refine ul_run 5 (by simp [go_sem, hx, ho] <;> rfl) ?_
  refine ul_nil ?_
  refine al_fn rfl rfl rfl (by simp [go_sem, hx, ho] <;> rfl) call35 ((c_datum_Equal x (by omega) f) _ (by exact hgl)) (by simp [go_sem, hx, ho] <;> rfl) (by simp [go_sem, hx, ho]) rfl rfl ?_
  refine al_run 1 (sh := []) tyOk (by simp [go_sem, hx, ho] <;> rfl) ?_
  refine al_nil ?_
  refine awp_ret ?_
  refine ends_ret (by simp [go_sem, hx, ho] <;> rfl) (by simp [go_sem]) ?_
  exact ⟨by simp [go_sem, hx, ho, hh], by simp [go_sem]⟩

set_option maxHeartbeats 1000000 in
theorem c_flat_find (p f : D) (hp : p.size ≤ 1000000000) (hk : ∀ x, x ∈ p.kids → x.kids ≠ []) : Pur Tryd.prog (GL kr) 21 [.pv (enc p), .pv (enc f)] (.tuple [.pv (enc (findD p.kids f).1), .pv (.bool (findD p.kids f).2)]) := by
  refine pur_of fun σ hgl => ?_
  refine acalls_of tyOk Tryd.func21 rfl (by simp [Tryd.f21]) ?_
  refine awp_seq ?_
  refine awp_region_run (sh := [3]) tyOk (by simp [go_sem] <;> rfl) ?_
  refine awp_seq ?_
  refine awp_reg ?_
  refine al_run 3 (sh := []) tyOk (by simp [go_sem] <;> rfl) ?_
  refine al_fn rfl rfl rfl (by simp [go_sem] <;> rfl) call33 (c_IndexFunc p.kids (by have := D.kids_length_lt p; omega) _ (by exact hgl) 34 call34 [.ptr σ.objs.length 0] rfl (fun d => deq d.head f) (fun x hx => c_find_1 x f (by have := D.size_kid_lt hx; omega) (hk x hx) _ (by exact hgl) σ.objs.length (by simp [go_sem]))) (by simp [go_sem] <;> rfl) (by simp [go_sem]) rfl rfl ?_
  refine al_run 1 (sh := []) tyOk (by simp [go_sem] <;> rfl) ?_
  refine al_nil ?_
  refine awp_seq ?_
  refine awp_seq ?_
  refine awp_region_run (sh := []) tyOk (by simp [go_sem] <;> rfl) ?_
  refine awp_cond (by first | rfl | (simp [go_sem] <;> rfl)) (fun h0 => ?_) (fun h0 => ?_)
  · have hn : p.kids.find? (fun d => deq d.head f) = none := idxOf_neg (by simpa using h0)
    refine awp_seq ?_
    refine awp_region_run (sh := []) tyOk (by simp [go_sem] <;> rfl) ?_
    refine awp_ret ?_
    refine then_ret ?_
    refine ends_ret (by simp [go_sem] <;> rfl) (by simp [go_sem]) ?_
    exact ⟨by simp [go_sem, findD, hn, enc_none], by simp [go_sem]⟩
  · obtain ⟨hi0, y, hy, hfy⟩ := idxOf_get (p := fun d => deq d.head f) (l := p.kids) (by simpa using h0)
    refine awp_skip ?_
    refine awp_seq ?_
    refine awp_region_run (sh := []) tyOk (by simp [go_sem, hi0, hy] <;> rfl) ?_
    refine awp_ret ?_
    refine ends_ret (by simp [go_sem] <;> rfl) (by simp [go_sem]) ?_
    exact ⟨by simp [go_sem, findD, hfy], by simp [go_sem]⟩

set_option maxHeartbeats 1000000 in
theorem c_Clip (l : List ByteArray) : Pur Tryd.prog (GL kr) 43 [.pv (.slice (l.map .str))] (.full (l.map .str)) := by
  refine pur_of fun σ hgl => ?_
  refine acalls_of tyOk Tryd.func43 rfl (by simp [Tryd.f43]) ?_
  refine awp_seq ?_
  refine awp_region_run (sh := []) tyOk (by simp [go_sem, allSz_str] <;> rfl) ?_
  refine awp_seq ?_
  refine awp_region_run (sh := []) tyOk (by simp [go_sem, allSz_str] <;> rfl) ?_
  refine awp_ret ?_
  refine ends_ret (by simp [go_sem, allSz_str] <;> rfl) (by simp [go_sem]) ?_
  exact ⟨by simp [go_sem, allSz_str], by simp [go_sem]⟩

set_option maxHeartbeats 1000000 in
theorem c_prim_Arity (s : ByteArray) : Pur Tryd.prog (GL kr) 45 [.pv (.str s)] (.tuple [.pv (.int .i64 (arity s).1), .pv (.bool (arity s).2)]) := by
  refine pur_of fun σ hgl => ?_
  refine acalls_of tyOk Tryd.func45 rfl (by simp [Tryd.f45]) ?_
  refine awp_seq ?_
  refine awp_region_run (sh := []) tyOk (by simp [go_sem] <;> rfl) ?_
  refine awp_seq ?_
  refine awp_seq ?_
  have hg0 : lookupG σ.gl 1 = some (.ptr [.slice (primL.map encPrim)]) := by rw [hgl]; exact gl_prim
  refine awp_region_run (sh := []) tyOk (by simp [go_sem, hg0, encPrim_cells] <;> rfl) ?_
  refine awp_block ?_
  refine awp_loop_headK σ.objs.length σ.toks.length 0 [0, 2, 3, 6, 7] (fun k : Nat => [(8, .pv (.int .i64 ↑k))]) (fun k => σ) (fun k => k ≤ primL.length ∧ NotYet (fun p => decide (p.1 = s)) primL k) (fun k => primL.length - k) 0 (⟨Nat.zero_le _, .zero⟩) ⟨by simp [go_sem, hg0, encPrim_cells], rfl, by simp, by simp, by simp [go_sem, hg0, encPrim_cells], fun ob h => .inl (by simpa [go_sem, hg0, encPrim_cells] using h), by simp [go_sem]⟩ ?_
  rintro k ⟨hk, hn⟩
  have hpl := primL_length
  refine awp_seq ?_
  refine awp_region_run (sh := []) tyOk (by simp [go_sem, hg0, encPrim_cells] <;> rfl) ?_
  refine awp_seq ?_
  refine awp_cond (by first | rfl | (simp [go_sem, hg0, encPrim_cells] <;> rfl)) (fun h0 => ?_) (fun h0 => ?_)
  · have hlt : k < primL.length := by simp at h0; omega
    have hw : IntKind.i64.wrap (↑k + 1) = (k : Int) + 1 := wrap_succ (by omega)
    obtain ⟨x, hx, hxm⟩ := get_lt hlt
    refine awp_skip ?_
    refine awp_seq ?_
    refine awp_block ?_
    refine awp_seq ?_
    refine awp_region_run (sh := []) tyOk (by simp [go_sem, hg0, encPrim_cells, hx] <;> rfl) ?_
    refine awp_seq ?_
    refine awp_region_run (sh := []) tyOk (by simp [go_sem, hg0, encPrim_cells, hx] <;> rfl) ?_
    refine awp_cond (by first | rfl | (simp [go_sem, hg0, encPrim_cells, hx] <;> rfl)) (fun h1 => ?_) (fun h1 => ?_)
    · refine awp_seq ?_
      refine awp_region_run (sh := []) tyOk (by simp [go_sem, hg0, encPrim_cells, hx] <;> rfl) ?_
      refine awp_ret ?_
      refine inBlock_ret ?_
      refine then_ret ?_
      refine then_ret ?_
      refine inBlock_ret ?_
      refine then_ret ?_
      refine ends_ret (by simp [go_sem] <;> rfl) (by simp [go_sem]) ?_
      have hs := arity_found hn hx h1
      exact ⟨by simp [go_sem, hs], by simp [go_sem]⟩
    · refine awp_skip ?_
      refine awp_region_run (sh := []) tyOk (by simp [go_sem, hg0, encPrim_cells, hx] <;> rfl) ?_
      exact next_intro (k + 1) σ.objs.length σ.toks.length 0 (⟨hlt, hn.succ hx h1⟩) (by omega) ⟨by simp [go_sem, hg0, encPrim_cells, hx, hw], rfl, by simp, by simp, by simp [go_sem, hg0, encPrim_cells, hx, hw], fun ob h => .inl (by simpa [go_sem, hg0, encPrim_cells, hx, hw] using h), by simp [go_sem]⟩
  · have hke : k = primL.length := by simp at h0; omega
    subst hke
    refine awp_exit ?_
    refine then_exit ?_
    refine then_exit ?_
    refine inBlock_hit ?_
    refine awp_seq ?_
    refine awp_region_run (sh := []) tyOk (by simp [go_sem, hg0, encPrim_cells] <;> rfl) ?_
    refine awp_ret ?_
    refine ends_ret (by simp [go_sem] <;> rfl) (by simp [go_sem]) ?_
    have hs := arity_none hn
    exact ⟨by simp [go_sem, hs], by simp [go_sem]⟩

set_option maxHeartbeats 1000000 in
theorem c_flat_Names (d : D) (hd : d.size ≤ 1000000000) : Pur Tryd.prog (GL kr) 24 [.pv (enc d)] (.tuple [.pv (encN (names d)), .pv (.bool (names d).isSome)]) := by
  have hkl := D.kids_length_lt d
  refine pur_of fun σ hgl => ?_
  refine acalls_of tyOk Tryd.func24 rfl (by simp [Tryd.f24]) ?_
  refine awp_seq ?_
  refine awp_region_run (sh := []) tyOk (by simp [go_sem] <;> rfl) ?_
  refine awp_seq ?_
  refine awp_seq ?_
  refine awp_region_run (sh := []) tyOk (by simp [go_sem] <;> rfl) ?_
  refine awp_cond (by first | rfl | (simp [go_sem] <;> rfl)) (fun h0 => ?_) (fun h0 => ?_)
  · refine awp_seq ?_
    refine awp_region_run (sh := []) tyOk (by simp [go_sem] <;> rfl) ?_
    refine awp_ret ?_
    refine then_ret ?_
    refine ends_ret (by simp [go_sem] <;> rfl) (by simp [go_sem]) ?_
    exact ⟨by simp only [names, encN, h0, Bool.true_or, Bool.or_true, Bool.false_or, Bool.or_false, Bool.true_and, Bool.and_true, Bool.false_and, Bool.and_false, Bool.not_true, Bool.not_false, Bool.false_eq_true, if_true, if_false]; simp [go_sem], by simp [go_sem]⟩
  · refine awp_skip ?_
    refine awp_seq ?_
    refine awp_region_run (sh := []) tyOk (by simp [go_sem] <;> rfl) ?_
    refine awp_seq ?_
    refine awp_seq ?_
    refine awp_region_run (sh := []) tyOk (by simp [go_sem] <;> rfl) ?_
    refine awp_adopt' 4 9 1 (by simp [go_sem] <;> rfl) ?_
    refine awp_block ?_
    refine awp_loop_headK σ.objs.length (σ.toks.length + 1) 1 [2, 3, 12, 13] (fun k : Nat => [(4, .acc ((textsL (d.kids.take k)).map .str) σ.toks.length), (14, .pv (.int .i64 ↑k))]) (fun k => { σ with toks := σ.toks ++ [⟨k, 9, 1⟩] }) (fun k => k ≤ d.kids.length ∧ names d = namesGo (textsL (d.kids.take k)) (d.kids.drop k)) (fun k => d.kids.length - k) 0 (⟨Nat.zero_le _, by simp only [names, h0, Bool.false_eq_true, if_false]; rfl⟩) ⟨by simp [go_sem, textsL_nil], rfl, by simp, by simp, by simp [go_sem, textsL_nil], fun ob h => .inl (by simpa [go_sem, textsL_nil] using h), by simp [go_sem]⟩ ?_
    rintro k ⟨hk, hn⟩
    refine awp_seq ?_
    refine awp_region_run (sh := []) tyOk (by simp [go_sem] <;> rfl) ?_
    refine awp_seq ?_
    refine awp_cond (by first | rfl | (simp [go_sem] <;> rfl)) (fun h1 => ?_) (fun h1 => ?_)
    · have hlt : k < d.kids.length := by simp at h1; omega
      have hw : IntKind.i64.wrap (↑k + 1) = (k : Int) + 1 := wrap_succ (by omega)
      obtain ⟨x, hx, hxm⟩ := get_lt hlt
      have ht := textsL_next hx
      have htl : (textsL (d.kids.take k)).length = k := by rw [textsL_length, List.length_take]; omega
      have hb : (k + 1) * 16 ≤ 140737488355328 := by omega
      have hst := namesGo_step hx
      refine awp_skip ?_
      refine awp_seq ?_
      refine awp_block ?_
      refine awp_seq ?_
      refine awp_region_run (sh := []) tyOk (by simp [go_sem, hx, htl, hb, allSz_str] <;> rfl) ?_
      refine awp_seq ?_
      refine awp_seq ?_
      refine awp_reg ?_
      refine al_run 1 (sh := []) tyOk (by simp [go_sem, hx, htl, hb, allSz_str] <;> rfl) ?_
      refine al_fn rfl rfl rfl (by simp [go_sem, hx, htl, hb, allSz_str] <;> rfl) call40 ((c_node_IsName x) _ (by exact hgl)) (by simp [go_sem, hx, htl, hb, allSz_str] <;> rfl) (by simp [go_sem, hx, htl, hb, allSz_str]) rfl rfl ?_
      refine al_run 2 (sh := []) tyOk (by simp [go_sem, hx, htl, hb, allSz_str] <;> rfl) ?_
      refine al_splitT 21 (by first | rfl | (simp [go_sem, hx, htl, hb, allSz_str] <;> rfl)) (fun h2 => ?_) (fun h2 => ?_)
      · refine al_skip 4 21 false (by simp [go_sem]) (by simp [go_sem]) rfl rfl ?_
        refine al_run 1 (sh := []) tyOk (by simp [go_sem, hx, htl, hb, allSz_str] <;> rfl) ?_
        refine al_nil ?_
        refine awp_cond (b := true) (by simp [go_sem, hx, htl, hb, allSz_str, h0, h1, h2]) (fun h => ?_) (fun h => ?_)
        rotate_left
        · cases h
        refine awp_seq ?_
        refine awp_region_run (sh := []) tyOk (by simp [go_sem, hx, htl, hb, allSz_str] <;> rfl) ?_
        refine awp_ret ?_
        refine then_ret ?_
        refine inBlock_ret ?_
        refine then_ret ?_
        refine then_ret ?_
        refine inBlock_ret ?_
        refine then_ret ?_
        refine ends_ret (by simp [go_sem] <;> rfl) (by simp [go_sem]) ?_
        have hs : names d = none := by rw [hn, hst]; simp only [Bool.not_true, hx, htl, hb, allSz_str, h0, h1, h2, Bool.true_or, Bool.or_true, Bool.false_or, Bool.or_false, Bool.true_and, Bool.and_true, Bool.false_and, Bool.and_false, Bool.not_true, Bool.not_false, Bool.false_eq_true, if_true, if_false]
        exact ⟨by simp [go_sem, hs, encN], by simp [go_sem]⟩
      · refine al_runG (sh := []) 3 21 false false tyOk (by simp [go_sem]) rfl (by simp [go_sem]) rfl rfl (by simp [go_sem, hx, htl, hb, allSz_str] <;> rfl) ?_
        refine al_fnG 21 false false (by simp [go_sem]) rfl (by simp [go_sem]) rfl rfl (by simp [go_sem, hx, htl, hb, allSz_str] <;> rfl) call41 ((c_Contains (textsL (d.kids.take k)) (by omega) x.text) _ (by exact hgl)) (by simp [go_sem, hx, htl, hb, allSz_str] <;> rfl) (by simp [go_sem, hx, htl, hb, allSz_str]) rfl rfl ?_
        refine al_run 1 (sh := []) tyOk (by simp [go_sem, hx, htl, hb, allSz_str] <;> rfl) ?_
        refine al_nil ?_
        refine awp_cond (by first | rfl | (simp [go_sem, hx, htl, hb, allSz_str] <;> rfl)) (fun h3 => ?_) (fun h3 => ?_)
        · refine awp_seq ?_
          refine awp_region_run (sh := []) tyOk (by simp [go_sem, hx, htl, hb, allSz_str] <;> rfl) ?_
          refine awp_ret ?_
          refine then_ret ?_
          refine inBlock_ret ?_
          refine then_ret ?_
          refine then_ret ?_
          refine inBlock_ret ?_
          refine then_ret ?_
          refine ends_ret (by simp [go_sem] <;> rfl) (by simp [go_sem]) ?_
          have hs : names d = none := by rw [hn, hst]; simp only [Bool.not_true, hx, htl, hb, allSz_str, h0, h1, h2, h3, Bool.true_or, Bool.or_true, Bool.false_or, Bool.or_false, Bool.true_and, Bool.and_true, Bool.false_and, Bool.and_false, Bool.not_true, Bool.not_false, Bool.false_eq_true, if_true, if_false]
          exact ⟨by simp [go_sem, hs, encN], by simp [go_sem]⟩
        · refine awp_skip ?_
          refine awp_region_run (sh := []) tyOk (by simp [go_sem, hx, htl, hb, allSz_str] <;> rfl) ?_
          refine awp_region_run (sh := []) tyOk (by simp [go_sem, hx, htl, hb, allSz_str] <;> rfl) ?_
          exact next_intro (k + 1) σ.objs.length (σ.toks.length + 1) 1 (⟨hlt, by rw [hn, hst]; simp only [h0, h1, h2, h3, Bool.true_or, Bool.or_true, Bool.false_or, Bool.or_false, Bool.true_and, Bool.and_true, Bool.false_and, Bool.and_false, Bool.not_true, Bool.not_false, Bool.false_eq_true, if_true, if_false]⟩) (by omega) ⟨by simp [go_sem, hx, htl, hb, allSz_str, hw, ht], rfl, by simp, by simp, by simp [go_sem, hx, htl, hb, allSz_str, hw, ht], fun ob h => .inl (by simpa [go_sem, hx, htl, hb, allSz_str, hw, ht] using h), by simp [go_sem]⟩
    · have hke : k = d.kids.length := by simp at h1; omega
      subst hke
      have htl : (textsL (d.kids.take d.kids.length)) = textsL d.kids := by rw [List.take_length]
      refine awp_exit ?_
      refine then_exit ?_
      refine then_exit ?_
      refine inBlock_hit ?_
      refine awp_seq ?_
      refine awp_region_run (sh := []) tyOk (by simp [go_sem] <;> rfl) ?_
      refine awp_ret ?_
      refine ends_ret (by simp [go_sem] <;> rfl) (by simp [go_sem]) ?_
      have hs : names d = some (textsL d.kids) := by rw [hn, namesGo_end, htl]
      exact ⟨by simp [go_sem, hs, encN, htl], by simp [go_sem]⟩

end Go.Proofs.YtienmmfjjffjaaaDoor

/- Going through data: each, Parts, Deep, Check. -/
namespace Go.Proofs.YtienmmfjjffjaaaDoor
open Go Go.Aw
variable {kr : ResO}
set_option maxHeartbeats 1000000 in
theorem c_Parts_1 (d : D) (po n cap oc : Nat) (c : Int) (σ : Store) (hgl : σ.gl = (GL kr)) (hn : n ≤ 1000000000) (hoc : σ.objs[oc]? = some (.box [.pv (.int .i64 c)])) : ACalls Tryd.prog 57 [.pv (enc d), .scr po n cap, .ptr oc 0] σ (EachR oc (stParts c n) σ) := by
  refine acalls_of tyOk Tryd.func57 rfl (by simp [Tryd.f57]) ?_
  refine awp_seq ?_
  refine awp_region_run (sh := []) tyOk (by simp [go_sem, hoc] <;> rfl) ?_
  refine awp_seq ?_
  refine awp_region_run (sh := []) tyOk (by simp [go_sem, hoc] <;> rfl) ?_
  refine awp_seq ?_
  refine awp_region_run (sh := []) tyOk (by simp [go_sem, hoc] <;> rfl) ?_
  refine awp_ret ?_
  refine ends_ret (by simp [go_sem] <;> rfl) (by simp [go_sem]) ?_
  exact ⟨by simp [go_sem], by simp [setC, stParts, stDeep, go_sem]⟩

set_option maxHeartbeats 1000000 in
theorem c_Deep_1 (d : D) (po n cap oc : Nat) (c : Int) (σ : Store) (hgl : σ.gl = (GL kr)) (hn : n ≤ 1000000000) (hoc : σ.objs[oc]? = some (.box [.pv (.int .i64 c)])) : ACalls Tryd.prog 58 [.pv (enc d), .scr po n cap, .ptr oc 0] σ (EachR oc (stDeep c n) σ) := by
  refine acalls_of tyOk Tryd.func58 rfl (by simp [Tryd.f58]) ?_
  refine awp_seq ?_
  refine awp_region_run (sh := []) tyOk (by simp [go_sem, hoc] <;> rfl) ?_
  refine awp_seq ?_
  refine awp_region_run (sh := []) tyOk (by simp [go_sem, hoc] <;> rfl) ?_
  refine awp_seq ?_
  refine awp_region_run (sh := []) tyOk (by simp [go_sem, hoc] <;> rfl) ?_
  refine awp_ret ?_
  refine ends_ret (by simp [go_sem] <;> rfl) (by simp [go_sem]) ?_
  exact ⟨by simp [go_sem], by simp [setC, stParts, stDeep, go_sem]⟩

set_option maxHeartbeats 1000000 in
theorem c_each (fy : FuncId) (hcy : Callable Tryd.prog fy) (st : Int → Nat → Int) (hy : ∀ (d : D) (po n cap oc : Nat) (c : Int) (σ : Store) (hgl : σ.gl = (GL kr)) (hn : n ≤ 1000000000) (hoc : σ.objs[oc]? = some (.box [.pv (.int .i64 c)])), ACalls Tryd.prog fy [.pv (enc d), .scr po n cap, .ptr oc 0] σ (EachR oc (st c n) σ)) (d : D) : ∀ (po n cap oc : Nat) (c : Int) (σ : Store) (hgl : σ.gl = (GL kr)) (hn : n + d.size ≤ 1000000000) (hp : PathAt σ (.scr po n cap) n) (hoc : σ.objs[oc]? = some (.box [.pv (.int .i64 c)])), ACalls Tryd.prog 56 [.pv (enc d), .scr po n cap, .func (.func fy) [.ptr oc 0]] σ (EachR oc (eachF st c n d) σ) := by
  induction d using D.ind with
  | _ kind num text kids ih =>
  generalize hD : D.mk kind num text kids = d at *
  have hk : d.kids = kids := by rw [← hD]; rfl
  clear hD
  subst hk
  have hkl := D.kids_length_lt d
  intro po n cap oc c σ hgl hn hp hoc
  have hol := (List.getElem?_eq_some_iff.1 hoc).1
  refine acalls_ofC tyOk Tryd.func56 rfl (by simp [Tryd.f56]) (by simp [go_sem]) fun hclo => ?_
  simp [go_sem] at hclo
  refine awp_seq ?_
  refine awp_region_run (sh := []) tyOk (by simp [go_sem, hclo, hol] <;> rfl) ?_
  refine awp_seq ?_
  refine awp_seq ?_
  refine awp_reg ?_
  refine al_run 3 (sh := []) tyOk (by simp [go_sem, hclo, hol] <;> rfl) ?_
  refine al_callW rfl rfl rfl (by simp [go_sem, hclo, hol] <;> rfl) hcy (hy d po n cap oc c σ hgl (by omega) hoc) (by simp [go_sem, hclo, hol] <;> rfl) (by simp [go_sem, hclo, hol]) rfl rfl ?_
  rintro r σ' ⟨rfl, rfl⟩
  refine al_run 1 (sh := []) tyOk (by simp [go_sem, hclo, hol] <;> rfl) ?_
  refine al_nil ?_
  refine awp_cond (b := false) (by simp [go_sem, hclo, hol]) (fun h => ?_) (fun h => ?_)
  · cases h
  refine awp_skip ?_
  refine awp_seq ?_
  refine awp_seq ?_
  refine awp_region_run (sh := []) tyOk (by simp [go_sem, hclo, hol] <;> rfl) ?_
  refine awp_block ?_
  refine awp_loop_headK σ.objs.length σ.toks.length 1 [1, 2, 6, 15, 16] (fun k : Nat => [(17, .pv (.int .i64 ↑k))]) (fun k => setC σ oc (eachFs st (st c n) (n + 1) (d.kids.take k))) (fun k => k ≤ d.kids.length) (fun k => d.kids.length - k) 0 (Nat.zero_le _) ⟨by show setC σ oc _ = _; rw [List.take_zero, eachFs]; exact setC_cut.symm, rfl, by simp, by simp, by simp [go_sem, hclo, hol], fun ob h => setC_mem h _ _ _, by simp [go_sem]⟩ ?_
  intro k hk
  refine awp_seq ?_
  refine awp_region_run (sh := []) tyOk (by simp [go_sem, hclo, hol] <;> rfl) ?_
  refine awp_seq ?_
  refine awp_cond (by first | rfl | (simp [go_sem, hclo, hol] <;> rfl)) (fun h0 => ?_) (fun h0 => ?_)
  · have hlt : k < d.kids.length := by simp at h0; omega
    have hw : IntKind.i64.wrap (↑k + 1) = (k : Int) + 1 := wrap_succ (by omega)
    obtain ⟨x, hx, hxm⟩ := get_lt hlt
    have hxs := D.size_kid_lt hxm
    have ht : eachFs st (st c n) (n + 1) (d.kids.take (k + 1)) = eachF st (eachFs st (st c n) (n + 1) (d.kids.take k)) (n + 1) x := by rw [take_next hx, eachFs_snoc]
    have hbn : (n + 1) * 8 ≤ 140737488355328 := by omega
    refine awp_skip ?_
    refine awp_seq ?_
    refine awp_block ?_
    refine awp_seq ?_
    refine awp_region_run (sh := []) tyOk (by simp [go_sem, hclo, hol, hx] <;> rfl) ?_
    refine awp_seq ?_
    refine awp_regDP tyOk tySz 6 (by kernel_rfl) (by decide) ?_
    refine ul_run 4 (by simp [go_sem, hclo, hol, hx] <;> rfl) ?_
    refine ul_path rfl (by simp [go_sem, hbn] <;> rfl) rfl (PathAt.setC hp hoc) ?_
    rintro x' objs' hobjs hpx
    obtain ⟨po', cap', rfl⟩ := hpx.scr
    refine ul_run 1 (by simp [go_sem, hclo, hol, hx] <;> rfl) ?_
    refine ul_nil ?_
    refine al_callW rfl rfl rfl (by simp [go_sem, hclo, hol, hx] <;> rfl) call56 (ih x hxm po' (n + 1) cap' oc _ _ (by exact hgl) (by omega) hpx (path_get hobjs (setC_get hoc))) (by simp [go_sem, hclo, hol, hx] <;> rfl) (by simp [go_sem, hclo, hol, hx]) rfl rfl ?_
    rintro r σ' ⟨rfl, rfl⟩
    refine al_run 1 (sh := []) tyOk (by simp [go_sem, hclo, hol, hx] <;> rfl) ?_
    refine al_nil ?_
    refine awp_cond (b := false) (by simp [go_sem, hclo, hol, hx, h0]) (fun h => ?_) (fun h => ?_)
    · cases h
    refine awp_skip ?_
    refine awp_region_run (sh := []) tyOk (by simp [go_sem, hclo, hol, hx] <;> rfl) ?_
    exact next_intro (k + 1) σ.objs.length σ.toks.length 1 (hlt) (by omega) ⟨by show setC σ oc _ = _; rw [ht]; exact (setC_path hol hobjs).symm, rfl, by simp, by simp, by simp [go_sem, hclo, hol, hx, hw], fun ob h => setC_mem h _ _ _, by simp [go_sem]⟩
  · have hke : k = d.kids.length := by simp at h0; omega
    subst hke
    have hta : d.kids.take d.kids.length = d.kids := List.take_length
    refine awp_exit ?_
    refine then_exit ?_
    refine then_exit ?_
    refine inBlock_hit ?_
    refine awp_seq ?_
    refine awp_region_run (sh := []) tyOk (by simp [go_sem, hclo, hol] <;> rfl) ?_
    refine awp_ret ?_
    refine ends_ret (by simp [go_sem] <;> rfl) (by simp [go_sem]) ?_
    exact ⟨by simp [go_sem], by simp [go_sem, eachF_eq, hta]⟩

set_option maxHeartbeats 1000000 in
theorem c_datum_Parts (d : D) (hd : d.size ≤ 1000000000) : Pur Tryd.prog (GL kr) 37 [.pv (enc d)] (.pv (.int .i64 d.size)) := by
  refine pur_of fun σ hgl => ?_
  refine acalls_of tyOk Tryd.func37 rfl (by simp [Tryd.f37]) ?_
  refine awp_seq ?_
  refine awp_region_run (sh := []) tyOk (by simp [go_sem] <;> rfl) ?_
  refine awp_seq ?_
  refine awp_region_run (sh := [3]) tyOk (by simp [go_sem] <;> rfl) ?_
  refine awp_seq ?_
  refine awp_reg ?_
  refine al_run 2 (sh := []) tyOk (by simp [go_sem] <;> rfl) ?_
  refine al_callW rfl rfl rfl (by simp [go_sem] <;> rfl) call56 (c_each 57 call57 stParts (fun d po n cap oc c σ hgl hn hoc => c_Parts_1 d po n cap oc c σ hgl hn hoc) d 0 0 0 σ.objs.length 0 _ (by exact hgl) (by omega) (.inl ⟨0, rfl, rfl⟩) (by simp [go_sem])) (by simp [go_sem] <;> rfl) (by simp [go_sem]) rfl rfl ?_
  rintro r σ' ⟨rfl, rfl⟩
  refine al_nil ?_
  refine awp_seq ?_
  refine awp_region_run (sh := []) tyOk (by simp [go_sem, setC_new_get, setC_new_cut] <;> rfl) ?_
  refine awp_ret ?_
  have hv : eachF stParts 0 0 d = (d.size : Int) := by have := eachF_parts d 0 0 (by omega); simpa using this
  refine ends_ret (by simp [go_sem, setC_new_get] <;> rfl) (by simp [go_sem]) ?_
  exact ⟨by simp [go_sem]; exact hv, setC_new_cut⟩

set_option maxHeartbeats 1000000 in
theorem c_datum_Deep (d : D) (hd : d.size ≤ 1000000000) : Pur Tryd.prog (GL kr) 38 [.pv (enc d)] (.pv (.int .i64 d.deep)) := by
  have hdd := D.deep_le_size d
  refine pur_of fun σ hgl => ?_
  refine acalls_of tyOk Tryd.func38 rfl (by simp [Tryd.f38]) ?_
  refine awp_seq ?_
  refine awp_region_run (sh := []) tyOk (by simp [go_sem] <;> rfl) ?_
  refine awp_seq ?_
  refine awp_region_run (sh := [3]) tyOk (by simp [go_sem] <;> rfl) ?_
  refine awp_seq ?_
  refine awp_reg ?_
  refine al_run 2 (sh := []) tyOk (by simp [go_sem] <;> rfl) ?_
  refine al_callW rfl rfl rfl (by simp [go_sem] <;> rfl) call56 (c_each 58 call58 stDeep (fun d po n cap oc c σ hgl hn hoc => c_Deep_1 d po n cap oc c σ hgl hn hoc) d 0 0 0 σ.objs.length 0 _ (by exact hgl) (by omega) (.inl ⟨0, rfl, rfl⟩) (by simp [go_sem])) (by simp [go_sem] <;> rfl) (by simp [go_sem]) rfl rfl ?_
  rintro r σ' ⟨rfl, rfl⟩
  refine al_nil ?_
  refine awp_seq ?_
  refine awp_region_run (sh := []) tyOk (by simp [go_sem, setC_new_get, setC_new_cut] <;> rfl) ?_
  refine awp_ret ?_
  have hv : eachF stDeep 0 0 d = (d.deep : Int) := by have := eachF_deep d 0 0 (by omega); simpa using this
  refine ends_ret (by simp [go_sem, setC_new_get] <;> rfl) (by simp [go_sem]) ?_
  exact ⟨by simp [go_sem]; exact hv, setC_new_cut⟩

set_option maxHeartbeats 1000000 in
theorem c_datum_Check (d : D) (hd : d.size ≤ 1000000000) : Pur Tryd.prog (GL kr) 22 [.pv (enc d)] (.pv (.int .i64 (dcheck d))) := by
  refine pur_of fun σ hgl => ?_
  refine acalls_of tyOk Tryd.func22 rfl (by simp [Tryd.f22]) ?_
  refine awp_seq ?_
  refine awp_region_run (sh := []) tyOk (by simp [go_sem] <;> rfl) ?_
  refine awp_seq ?_
  refine awp_block ?_
  refine awp_seq ?_
  refine awp_reg ?_
  refine al_run 1 (sh := []) tyOk (by simp [go_sem] <;> rfl) ?_
  refine al_fn rfl rfl rfl (by simp [go_sem] <;> rfl) call36 ((c_datum_formed d hd) _ (by exact hgl)) (by simp [go_sem] <;> rfl) (by simp [go_sem]) rfl rfl ?_
  refine al_run 2 (sh := []) tyOk (by simp [go_sem] <;> rfl) ?_
  refine al_nil ?_
  refine awp_cond (by first | rfl | (simp [go_sem] <;> rfl)) (fun h0 => ?_) (fun h0 => ?_)
  · refine awp_seq ?_
    refine awp_region_run (sh := []) tyOk (by simp [go_sem] <;> rfl) ?_
    refine awp_ret ?_
    refine inBlock_ret ?_
    refine then_ret ?_
    refine ends_ret (by simp [go_sem] <;> rfl) (by simp [go_sem]) ?_
    exact ⟨by simp only [dcheck, h0, Bool.true_or, Bool.or_true, Bool.false_or, Bool.or_false, Bool.true_and, Bool.and_true, Bool.false_and, Bool.and_false, Bool.not_true, Bool.not_false, Bool.false_eq_true, if_true, if_false]; simp [go_sem], by simp [go_sem]⟩
  · refine awp_seq ?_
    refine awp_reg ?_
    refine al_run 1 (sh := []) tyOk (by simp [go_sem] <;> rfl) ?_
    refine al_fn rfl rfl rfl (by simp [go_sem] <;> rfl) call37 ((c_datum_Parts d hd) _ (by exact hgl)) (by simp [go_sem] <;> rfl) (by simp [go_sem]) rfl rfl ?_
    refine al_run 2 (sh := []) tyOk (by simp [go_sem] <;> rfl) ?_
    refine al_splitT 11 (by first | rfl | (simp [go_sem] <;> rfl)) (fun h1 => ?_) (fun h1 => ?_)
    · refine al_skip 3 11 false (by simp [go_sem]) (by simp [go_sem]) rfl rfl ?_
      refine al_run 2 (sh := []) tyOk (by simp [go_sem] <;> rfl) ?_
      refine al_nil ?_
      refine awp_cond (b := true) (by simp [go_sem, h0, h1]) (fun h => ?_) (fun h => ?_)
      rotate_left
      · cases h
      refine awp_seq ?_
      refine awp_region_run (sh := []) tyOk (by simp [go_sem] <;> rfl) ?_
      refine awp_ret ?_
      refine inBlock_ret ?_
      refine then_ret ?_
      refine ends_ret (by simp [go_sem] <;> rfl) (by simp [go_sem]) ?_
      exact ⟨by simp only [dcheck, h0, h1, Bool.true_or, Bool.or_true, Bool.false_or, Bool.or_false, Bool.true_and, Bool.and_true, Bool.false_and, Bool.and_false, Bool.not_true, Bool.not_false, Bool.false_eq_true, if_true, if_false]; simp [go_sem], by simp [go_sem]⟩
    · refine al_runG (sh := []) 1 11 false false tyOk (by simp [go_sem]) rfl (by simp [go_sem]) rfl rfl (by simp [go_sem] <;> rfl) ?_
      refine al_fnG 11 false false (by simp [go_sem]) rfl (by simp [go_sem]) rfl rfl (by simp [go_sem] <;> rfl) call38 ((c_datum_Deep d hd) _ (by exact hgl)) (by simp [go_sem] <;> rfl) (by simp [go_sem]) rfl rfl ?_
      refine al_runG (sh := []) 1 11 false false tyOk (by simp [go_sem]) rfl (by simp [go_sem]) rfl rfl (by simp [go_sem] <;> rfl) ?_
      refine al_run 2 (sh := []) tyOk (by simp [go_sem] <;> rfl) ?_
      refine al_nil ?_
      refine awp_cond (by first | rfl | (simp [go_sem] <;> rfl)) (fun h2 => ?_) (fun h2 => ?_)
      · refine awp_seq ?_
        refine awp_region_run (sh := []) tyOk (by simp [go_sem] <;> rfl) ?_
        refine awp_ret ?_
        refine inBlock_ret ?_
        refine then_ret ?_
        refine ends_ret (by simp [go_sem] <;> rfl) (by simp [go_sem]) ?_
        exact ⟨by simp only [dcheck, h0, h1, h2, Bool.true_or, Bool.or_true, Bool.false_or, Bool.or_false, Bool.true_and, Bool.and_true, Bool.false_and, Bool.and_false, Bool.not_true, Bool.not_false, Bool.false_eq_true, if_true, if_false]; simp [go_sem], by simp [go_sem]⟩
      · refine awp_skip ?_
        refine awp_seq ?_
        refine awp_region_run (sh := []) tyOk (by simp [go_sem] <;> rfl) ?_
        refine awp_ret ?_
        refine ends_ret (by simp [go_sem] <;> rfl) (by simp [go_sem]) ?_
        exact ⟨by simp only [dcheck, h0, h1, h2, Bool.true_or, Bool.or_true, Bool.false_or, Bool.or_false, Bool.true_and, Bool.and_true, Bool.false_and, Bool.and_false, Bool.not_true, Bool.not_false, Bool.false_eq_true, if_true, if_false]; simp [go_sem], by simp [go_sem]⟩

end Go.Proofs.YtienmmfjjffjaaaDoor

/- The checker. -/
namespace Go.Proofs.YtienmmfjjffjaaaDoor
open Go Go.Aw
variable {kr : ResO}
theorem look_par {s : St} {om : Nat} {ps : List (D × Int)} (ho : s.σ.objs[om]? = some (.map (mapK ps) (mapV pint ps))) (d : D) :
    lookAV ty s 58 (.map om) (.pv (keyPV d)) true = some (.tuple [.pv (.int .i64 (kpar ps d).1), .pv (.bool (kpar ps d).2)]) := by
  rw [look_map (f := pint) rfl rfl rfl rfl rfl ho]
  unfold kpar
  cases kget ps d <;> rfl

theorem put_par {s : St} {om : Nat} {ps : List (D × Int)} (ho : s.σ.objs[om]? = some (.map (mapK ps) (mapV pint ps))) (d : D) (v : Int) :
    putAV ty s 58 (.map om) (.pv (keyPV d)) (.pv (.int .i64 v)) = some { s.σ with objs := s.σ.objs.set om (.map (mapK (kset ps d v)) (mapV pint (kset ps d v))) } :=
  put_map (f := pint) rfl rfl rfl rfl ho d v rfl

set_option maxHeartbeats 1000000 in
theorem c_all (σ : Store) (hgl : σ.gl = (GL kr)) (oc : Nat) (ps : List (D × Int)) (b : List ByteArray) (l : List D) (hl : l.length ≤ 1000000000) (hE : ∀ x, x ∈ l → PurAt Tryd.prog σ 25 [.ptr oc 0, .pv (enc x), .pv (.slice (b.map .str))] (.pv (.int .i64 (cexpr ps b x)))) : PurAt Tryd.prog σ 42 [.ptr oc 0, .pv (.slice (l.map enc)), .pv (.slice (b.map .str))] (.pv (.int .i64 (cll ps b l))) := by
  refine purAt_of ?_
  refine acalls_ofC tyOk Tryd.func42 rfl (by simp [Tryd.f42]) (by simp [go_sem]) fun hclo => ?_
  simp [go_sem] at hclo
  refine awp_seq ?_
  refine awp_region_run (sh := []) tyOk (by simp [go_sem, hclo] <;> rfl) ?_
  refine awp_seq ?_
  refine awp_seq ?_
  refine awp_region_run (sh := []) tyOk (by simp [go_sem, hclo] <;> rfl) ?_
  refine awp_block ?_
  refine awp_loop_headK σ.objs.length σ.toks.length 0 [0, 2, 6, 10, 11] (fun k : Nat => [(12, .pv (.int .i64 ↑k))]) (fun k => σ) (fun k => k ≤ l.length ∧ cll ps b l = cll ps b (l.drop k)) (fun k => l.length - k) 0 (⟨Nat.zero_le _, rfl⟩) ⟨by simp [go_sem, hclo], rfl, by simp, by simp, by simp [go_sem, hclo], fun ob h => .inl (by simpa [go_sem, hclo] using h), by simp [go_sem]⟩ ?_
  rintro k ⟨hk, hn⟩
  refine awp_seq ?_
  refine awp_region_run (sh := []) tyOk (by simp [go_sem, hclo] <;> rfl) ?_
  refine awp_seq ?_
  refine awp_cond (by first | rfl | (simp [go_sem, hclo] <;> rfl)) (fun h0 => ?_) (fun h0 => ?_)
  · have hlt : k < l.length := by simp at h0; omega
    have hw : IntKind.i64.wrap (↑k + 1) = (k : Int) + 1 := wrap_succ (by omega)
    obtain ⟨x, hx, hxm⟩ := get_lt hlt
    have hst : cll ps b l = if (cexpr ps b x != 0) = true then cexpr ps b x else cll ps b (l.drop (k + 1)) := by rw [hn, drop_cons hx, cll_cons]
    refine awp_skip ?_
    refine awp_seq ?_
    refine awp_block ?_
    refine awp_seq ?_
    refine awp_region_run (sh := []) tyOk (by simp [go_sem, hclo, hx] <;> rfl) ?_
    refine awp_seq ?_
    refine awp_reg ?_
    refine al_run 3 (sh := []) tyOk (by simp [go_sem, hclo, hx] <;> rfl) ?_
    refine al_fn rfl rfl rfl (by simp [go_sem, hclo, hx] <;> rfl) call25 (hE x hxm) (by simp [go_sem, hclo, hx] <;> rfl) (by simp [go_sem, hclo, hx]) rfl rfl ?_
    refine al_run 1 (sh := []) tyOk (by simp [go_sem, hclo, hx] <;> rfl) ?_
    refine al_nil ?_
    refine awp_seq ?_
    refine awp_region_run (sh := []) tyOk (by simp [go_sem, hclo, hx] <;> rfl) ?_
    refine awp_cond (by first | rfl | (simp [go_sem, hclo, hx] <;> rfl)) (fun h1 => ?_) (fun h1 => ?_)
    · refine awp_seq ?_
      refine awp_region_run (sh := []) tyOk (by simp [go_sem, hclo, hx] <;> rfl) ?_
      refine awp_ret ?_
      refine inBlock_ret ?_
      refine then_ret ?_
      refine then_ret ?_
      refine inBlock_ret ?_
      refine then_ret ?_
      refine ends_ret (by simp [go_sem] <;> rfl) (by simp [go_sem]) ?_
      have hs : cll ps b l = cexpr ps b x := by rw [hst]; simp only [Bool.not_true, hclo, hx, h0, h1, Bool.true_or, Bool.or_true, Bool.false_or, Bool.or_false, Bool.true_and, Bool.and_true, Bool.false_and, Bool.and_false, Bool.not_true, Bool.not_false, Bool.false_eq_true, if_true, if_false]
      exact ⟨by simp [go_sem, hs], by simp [go_sem]⟩
    · refine awp_skip ?_
      refine awp_region_run (sh := []) tyOk (by simp [go_sem, hclo, hx] <;> rfl) ?_
      exact next_intro (k + 1) σ.objs.length σ.toks.length 0 (⟨hlt, by rw [hst]; simp only [h0, h1, Bool.true_or, Bool.or_true, Bool.false_or, Bool.or_false, Bool.true_and, Bool.and_true, Bool.false_and, Bool.and_false, Bool.not_true, Bool.not_false, Bool.false_eq_true, if_true, if_false]⟩) (by omega) ⟨by simp [go_sem, hclo, hx, hw], rfl, by simp, by simp, by simp [go_sem, hclo, hx, hw], fun ob h => .inl (by simpa [go_sem, hclo, hx, hw] using h), by simp [go_sem]⟩
  · have hke : k = l.length := by simp at h0; omega
    subst hke
    have hz : cll ps b l = 0 := by rw [hn, List.drop_length]; rfl
    refine awp_exit ?_
    refine then_exit ?_
    refine then_exit ?_
    refine inBlock_hit ?_
    refine awp_seq ?_
    refine awp_region_run (sh := []) tyOk (by simp [go_sem, hclo] <;> rfl) ?_
    refine awp_ret ?_
    refine ends_ret (by simp [go_sem] <;> rfl) (by simp [go_sem]) ?_
    exact ⟨by simp [go_sem, hz], by simp [go_sem]⟩

set_option maxHeartbeats 1000000 in
theorem c_call (σ : Store) (hgl : σ.gl = (GL kr)) (oc : Nat) (ps : List (D × Int)) (b : List ByteArray) (om : Nat) (hck : CkAt σ oc om ps) (l : List D) (hl : l.length ≤ 1000000000) (hE : ∀ x, x ∈ l → PurAt Tryd.prog σ 25 [.ptr oc 0, .pv (enc x), .pv (.slice (b.map .str))] (.pv (.int .i64 (cexpr ps b x)))) : PurAt Tryd.prog σ 44 [.ptr oc 0, .pv (.slice (l.map enc)), .pv (.slice (b.map .str))] (.pv (.int .i64 (ccall ps b l))) := by
  obtain ⟨hoc, hom⟩ := hck
  refine purAt_of ?_
  refine acalls_of tyOk Tryd.func44 rfl (by simp [Tryd.f44]) ?_
  refine awp_seq ?_
  refine awp_region_run (sh := []) tyOk (by simp [go_sem, hoc] <;> rfl) ?_
  refine awp_seq ?_
  refine awp_seq ?_
  refine awp_reg ?_
  refine al_run 4 (sh := []) tyOk (by simp [go_sem, hoc] <;> rfl) ?_
  refine al_splitT 12 (by first | rfl | (simp [go_sem, hoc] <;> rfl)) (fun h0 => ?_) (fun h0 => ?_)
  · refine al_skip 5 12 false (by simp [go_sem]) (by simp [go_sem]) rfl rfl ?_
    refine al_run 1 (sh := []) tyOk (by simp [go_sem, hoc] <;> rfl) ?_
    refine al_nil ?_
    refine awp_cond (b := true) (by simp [go_sem, hoc, h0]) (fun h => ?_) (fun h => ?_)
    rotate_left
    · cases h
    refine awp_seq ?_
    refine awp_region_run (sh := []) tyOk (by simp [go_sem, hoc] <;> rfl) ?_
    refine awp_ret ?_
    refine then_ret ?_
    refine ends_ret (by simp [go_sem, hoc] <;> rfl) (by simp [go_sem]) ?_
    exact ⟨by simp only [ccall, hoc, h0, Bool.true_or, Bool.or_true, Bool.false_or, Bool.or_false, Bool.true_and, Bool.and_true, Bool.false_and, Bool.and_false, Bool.not_true, Bool.not_false, Bool.false_eq_true, if_true, if_false]; simp [go_sem], by simp [go_sem]⟩
  · have h2l : (2 : Int) ≤ l.length := by simp at h0; omega
    obtain ⟨x1, hx1, hx1m⟩ := get_lt (l := l) (k := 1) (by omega)
    have hg1 : l.getD 1 dnone = x1 := by simp [List.getD, hx1]
    have hwr : IntKind.i64.wrap ((l.length : Int) - 2) = l.length - 2 := wrap_id (by omega) (by omega)
    refine al_runG (sh := []) 3 12 false false tyOk (by simp [go_sem]) rfl (by simp [go_sem]) rfl rfl (by simp [go_sem, hoc, h2l, hx1, hwr] <;> rfl) ?_
    refine al_fnG 12 false false (by simp [go_sem]) rfl (by simp [go_sem]) rfl rfl (by simp [go_sem, hoc, h2l, hx1, hwr] <;> rfl) call60 ((c_node_Label x1) _ (by exact hgl)) (by simp [go_sem, hoc, h2l, hx1, hwr] <;> rfl) (by simp [go_sem, hoc, h2l, hx1, hwr]) rfl rfl ?_
    refine al_runG (sh := []) 1 12 false false tyOk (by simp [go_sem]) rfl (by simp [go_sem]) rfl rfl (by simp [go_sem, hoc, h2l, hx1, hwr] <;> rfl) ?_
    refine al_run 1 (sh := []) tyOk (by simp [go_sem, hoc, h2l, hx1, hwr] <;> rfl) ?_
    refine al_nil ?_
    refine awp_cond (by first | rfl | (simp [go_sem, hoc, h2l, hx1, hwr] <;> rfl)) (fun h1 => ?_) (fun h1 => ?_)
    · refine awp_seq ?_
      refine awp_region_run (sh := []) tyOk (by simp [go_sem, hoc, h2l, hx1, hwr] <;> rfl) ?_
      refine awp_ret ?_
      refine then_ret ?_
      refine ends_ret (by simp [go_sem, hoc, h2l, hx1, hwr] <;> rfl) (by simp [go_sem]) ?_
      exact ⟨by simp only [ccall, hoc, h2l, hx1, hwr, h0, hg1, h1, Bool.true_or, Bool.or_true, Bool.false_or, Bool.or_false, Bool.true_and, Bool.and_true, Bool.false_and, Bool.and_false, Bool.not_true, Bool.not_false, Bool.false_eq_true, if_true, if_false]; simp [go_sem], by simp [go_sem]⟩
    · refine awp_skip ?_
      refine awp_seq ?_
      have hlk := fun (s : St) (d : D) (ho : s.σ.objs[om]? = some (.map (mapK ps) (mapV pint ps))) => look_par ho d
      refine awp_regDP tyOk tySz 13 (by kernel_rfl) (by decide) ?_
      refine ul_run 7 (by simp [go_sem, hoc, h2l, hx1, hwr, hom, hlk] <;> rfl) ?_
      refine ul_fn (by first | (intro _ _ hh; exact hh) | simp [go_sem]) rfl rfl rfl rfl (by simp [go_sem, hoc, h2l, hx1, hwr, hom, hlk] <;> rfl) call28 ((c_flat_keyOf x1) _ (by exact hgl)) (by simp [go_sem, hoc, h2l, hx1, hwr, hom, hlk] <;> rfl) (by simp [go_sem, hoc, h2l, hx1, hwr, hom, hlk]) rfl rfl ?_
      refine ul_run 5 (by simp [go_sem, hoc, h2l, hx1, hwr, hom, hlk] <;> rfl) ?_
      refine ul_nil ?_
      refine al_run 1 (sh := []) tyOk (by simp [go_sem, hoc, h2l, hx1, hwr, hom, hlk] <;> rfl) ?_
      refine al_nil ?_
      refine awp_seq ?_
      refine awp_block ?_
      refine awp_seq ?_
      refine awp_region_run (sh := []) tyOk (by simp [go_sem, hoc, h2l, hx1, hwr, hom, hlk] <;> rfl) ?_
      refine awp_cond (by first | rfl | (simp [go_sem, hoc, h2l, hx1, hwr, hom, hlk] <;> rfl)) (fun h2 => ?_) (fun h2 => ?_)
      · refine awp_seq ?_
        refine awp_region_run (sh := []) tyOk (by simp [go_sem, hoc, h2l, hx1, hwr, hom, hlk] <;> rfl) ?_
        refine awp_ret ?_
        refine inBlock_ret ?_
        refine then_ret ?_
        refine ends_ret (by simp [go_sem, hoc, h2l, hx1, hwr, hom, hlk] <;> rfl) (by simp [go_sem]) ?_
        exact ⟨by simp only [ccall, hoc, h2l, hx1, hwr, hom, hlk, h0, hg1, h1, h2, Bool.true_or, Bool.or_true, Bool.false_or, Bool.or_false, Bool.true_and, Bool.and_true, Bool.false_and, Bool.and_false, Bool.not_true, Bool.not_false, Bool.false_eq_true, if_true, if_false]; simp [go_sem], by simp [go_sem]⟩
      · refine awp_seq ?_
        refine awp_region_run (sh := []) tyOk (by simp [go_sem, hoc, h2l, hx1, hwr, hom, hlk] <;> rfl) ?_
        refine awp_cond (by first | rfl | (simp [go_sem, hoc, h2l, hx1, hwr, hom, hlk] <;> rfl)) (fun h3 => ?_) (fun h3 => ?_)
        · refine awp_seq ?_
          refine awp_region_run (sh := []) tyOk (by simp [go_sem, hoc, h2l, hx1, hwr, hom, hlk] <;> rfl) ?_
          refine awp_ret ?_
          refine inBlock_ret ?_
          refine then_ret ?_
          refine ends_ret (by simp [go_sem, hoc, h2l, hx1, hwr, hom, hlk] <;> rfl) (by simp [go_sem]) ?_
          exact ⟨by simp only [ccall, hoc, h2l, hx1, hwr, hom, hlk, h0, hg1, h1, h2, h3, Bool.true_or, Bool.or_true, Bool.false_or, Bool.or_false, Bool.true_and, Bool.and_true, Bool.false_and, Bool.and_false, Bool.not_true, Bool.not_false, Bool.false_eq_true, if_true, if_false]; simp [go_sem], by simp [go_sem]⟩
        · refine awp_skip ?_
          refine awp_seq ?_
          refine awp_reg ?_
          refine al_run 4 (sh := []) tyOk (by simp [go_sem, hoc, h2l, hx1, hwr, hom, hlk] <;> rfl) ?_
          refine al_fn rfl rfl rfl (by simp [go_sem, hoc, h2l, hx1, hwr, hom, hlk] <;> rfl) call42 (c_all σ hgl oc ps b (l.drop 2) (by simp; omega) (fun x hx => hE x (List.mem_of_mem_drop hx))) (by simp [go_sem, hoc, h2l, hx1, hwr, hom, hlk] <;> rfl) (by simp [go_sem, hoc, h2l, hx1, hwr, hom, hlk, List.map_drop]) rfl rfl ?_
          refine al_run 1 (sh := []) tyOk (by simp [go_sem, hoc, h2l, hx1, hwr, hom, hlk] <;> rfl) ?_
          refine al_nil ?_
          refine awp_ret ?_
          refine ends_ret (by simp [go_sem, hoc, h2l, hx1, hwr, hom, hlk] <;> rfl) (by simp [go_sem]) ?_
          exact ⟨by simp only [ccall, hoc, h2l, hx1, hwr, hom, hlk, h0, hg1, h1, h2, h3, Bool.true_or, Bool.or_true, Bool.false_or, Bool.or_false, Bool.true_and, Bool.and_true, Bool.false_and, Bool.and_false, Bool.not_true, Bool.not_false, Bool.false_eq_true, if_true, if_false]; simp [go_sem], by simp [go_sem]⟩

set_option maxHeartbeats 1000000 in
theorem c_expr (oc om : Nat) (ps : List (D × Int)) (d : D) : ∀ (b : List ByteArray) (σ : Store) (hgl : σ.gl = (GL kr)) (hck : CkAt σ oc om ps) (hb : b.length + d.size ≤ 1000000000), PurAt Tryd.prog σ 25 [.ptr oc 0, .pv (enc d), .pv (.slice (b.map .str))] (.pv (.int .i64 (cexpr ps b d))) := by
  induction d using D.ind with
  | _ kind num text kids ih =>
  generalize hD : D.mk kind num text kids = d at *
  have hk : d.kids = kids := by rw [← hD]; rfl
  clear hD
  subst hk
  have hkl := D.kids_length_lt d
  intro b σ hgl hck hb
  refine purAt_of ?_
  refine acalls_of tyOk Tryd.func25 rfl (by simp [Tryd.f25]) ?_
  refine awp_seq ?_
  refine awp_region_run (sh := []) tyOk (by simp [go_sem] <;> rfl) ?_
  refine awp_seq ?_
  refine awp_block ?_
  refine awp_seq ?_
  refine awp_region_run (sh := []) tyOk (by simp [go_sem] <;> rfl) ?_
  refine awp_cond (by first | rfl | (simp [go_sem] <;> rfl)) (fun h0 => ?_) (fun h0 => ?_)
  · refine awp_seq ?_
    refine awp_region_run (sh := []) tyOk (by simp [go_sem] <;> rfl) ?_
    refine awp_ret ?_
    refine inBlock_ret ?_
    refine then_ret ?_
    refine ends_ret (by simp [go_sem] <;> rfl) (by simp [go_sem]) ?_
    exact ⟨by rw [cexpr_eq ps b d]; simp only [Bool.not_true, h0, Bool.true_or, Bool.or_true, Bool.false_or, Bool.or_false, Bool.true_and, Bool.and_true, Bool.false_and, Bool.and_false, Bool.not_true, Bool.not_false, Bool.false_eq_true, if_true, if_false, sQuote, sIf, sLet, sCall, bne_self_eq_false]; simp [go_sem], by simp [go_sem]⟩
  · refine awp_seq ?_
    refine awp_reg ?_
    refine al_run 4 (sh := []) tyOk (by simp [go_sem] <;> rfl) ?_
    refine al_splitT 19 (by first | rfl | (simp [go_sem] <;> rfl)) (fun h1 => ?_) (fun h1 => ?_)
    · refine al_runG (sh := []) 1 19 true true tyOk (by simp [go_sem]) rfl (by simp [go_sem]) rfl rfl (by simp [go_sem] <;> rfl) ?_
      refine al_fnG 19 true true (by simp [go_sem]) rfl (by simp [go_sem]) rfl rfl (by simp [go_sem] <;> rfl) call40 ((c_node_IsName d) _ (by exact hgl)) (by simp [go_sem] <;> rfl) (by simp [go_sem]) rfl rfl ?_
      refine al_runG (sh := []) 1 19 true true tyOk (by simp [go_sem]) rfl (by simp [go_sem]) rfl rfl (by simp [go_sem] <;> rfl) ?_
      refine al_run 2 (sh := []) tyOk (by simp [go_sem] <;> rfl) ?_
      refine al_nil ?_
      refine awp_cond (by first | rfl | (simp [go_sem] <;> rfl)) (fun h2 => ?_) (fun h2 => ?_)
      · refine awp_seq ?_
        refine awp_region_run (sh := []) tyOk (by simp [go_sem] <;> rfl) ?_
        refine awp_ret ?_
        refine inBlock_ret ?_
        refine then_ret ?_
        refine ends_ret (by simp [go_sem] <;> rfl) (by simp [go_sem]) ?_
        exact ⟨by rw [cexpr_eq ps b d]; simp only [Bool.not_true, h0, h1, h2, Bool.true_or, Bool.or_true, Bool.false_or, Bool.or_false, Bool.true_and, Bool.and_true, Bool.false_and, Bool.and_false, Bool.not_true, Bool.not_false, Bool.false_eq_true, if_true, if_false, sQuote, sIf, sLet, sCall, bne_self_eq_false]; simp [go_sem], by simp [go_sem]⟩
      · refine awp_seq ?_
        refine awp_reg ?_
        refine al_run 4 (sh := []) tyOk (by simp [go_sem] <;> rfl) ?_
        refine al_splitT 28 (by first | rfl | (simp [go_sem] <;> rfl)) (fun h3 => ?_) (fun h3 => ?_)
        · refine al_runG (sh := []) 3 28 true true tyOk (by simp [go_sem]) rfl (by simp [go_sem]) rfl rfl (by simp [go_sem] <;> rfl) ?_
          refine al_fnG 28 true true (by simp [go_sem]) rfl (by simp [go_sem]) rfl rfl (by simp [go_sem] <;> rfl) call41 ((c_Contains b (by omega) d.text) _ (by exact hgl)) (by simp [go_sem] <;> rfl) (by simp [go_sem]) rfl rfl ?_
          refine al_runG (sh := []) 1 28 true true tyOk (by simp [go_sem]) rfl (by simp [go_sem]) rfl rfl (by simp [go_sem] <;> rfl) ?_
          refine al_run 2 (sh := []) tyOk (by simp [go_sem] <;> rfl) ?_
          refine al_nil ?_
          refine awp_cond (by first | rfl | (simp [go_sem] <;> rfl)) (fun h4 => ?_) (fun h4 => ?_)
          · refine awp_seq ?_
            refine awp_region_run (sh := []) tyOk (by simp [go_sem] <;> rfl) ?_
            refine awp_ret ?_
            refine inBlock_ret ?_
            refine then_ret ?_
            refine ends_ret (by simp [go_sem] <;> rfl) (by simp [go_sem]) ?_
            exact ⟨by rw [cexpr_eq ps b d]; simp only [Bool.not_true, h0, h1, h2, h3, h4, Bool.true_or, Bool.or_true, Bool.false_or, Bool.or_false, Bool.true_and, Bool.and_true, Bool.false_and, Bool.and_false, Bool.not_true, Bool.not_false, Bool.false_eq_true, if_true, if_false, sQuote, sIf, sLet, sCall, bne_self_eq_false]; simp [go_sem], by simp [go_sem]⟩
          · refine awp_seq ?_
            refine awp_region_run (sh := []) tyOk (by simp [go_sem] <;> rfl) ?_
            refine awp_cond (by first | rfl | (simp [go_sem] <;> rfl)) (fun h5 => ?_) (fun h5 => ?_)
            · refine awp_seq ?_
              refine awp_region_run (sh := []) tyOk (by simp [go_sem] <;> rfl) ?_
              refine awp_ret ?_
              refine inBlock_ret ?_
              refine then_ret ?_
              refine ends_ret (by simp [go_sem] <;> rfl) (by simp [go_sem]) ?_
              exact ⟨by rw [cexpr_eq ps b d]; simp only [Bool.not_true, h0, h1, h2, h3, h4, h5, Bool.true_or, Bool.or_true, Bool.false_or, Bool.or_false, Bool.true_and, Bool.and_true, Bool.false_and, Bool.and_false, Bool.not_true, Bool.not_false, Bool.false_eq_true, if_true, if_false, sQuote, sIf, sLet, sCall, bne_self_eq_false]; simp [go_sem], by simp [go_sem]⟩
            · exact nomatch h1.symm.trans h5
        · exact nomatch h1.symm.trans h3
    · refine al_skip 3 19 true (by simp [go_sem]) (by simp [go_sem]) rfl rfl ?_
      refine al_run 2 (sh := []) tyOk (by simp [go_sem] <;> rfl) ?_
      refine al_nil ?_
      refine awp_cond (b := false) (by simp [go_sem, h0, h1]) (fun h => ?_) (fun h => ?_)
      · cases h
      refine awp_seq ?_
      refine awp_reg ?_
      refine al_run 4 (sh := []) tyOk (by simp [go_sem] <;> rfl) ?_
      refine al_splitT 28 (by first | rfl | (simp [go_sem] <;> rfl)) (fun h6 => ?_) (fun h6 => ?_)
      · exact nomatch h6.symm.trans h1
      · refine al_skip 5 28 true (by simp [go_sem]) (by simp [go_sem]) rfl rfl ?_
        refine al_run 2 (sh := []) tyOk (by simp [go_sem] <;> rfl) ?_
        refine al_nil ?_
        refine awp_cond (b := false) (by simp [go_sem, h0, h1, h6]) (fun h => ?_) (fun h => ?_)
        · cases h
        refine awp_seq ?_
        refine awp_region_run (sh := []) tyOk (by simp [go_sem] <;> rfl) ?_
        refine awp_cond (by first | rfl | (simp [go_sem] <;> rfl)) (fun h7 => ?_) (fun h7 => ?_)
        · exact nomatch h7.symm.trans h1
        · refine awp_seq ?_
          refine awp_reg ?_
          refine al_run 5 (sh := []) tyOk (by simp [go_sem] <;> rfl) ?_
          refine al_splitT 44 (by first | rfl | (simp [go_sem] <;> rfl)) (fun h8 => ?_) (fun h8 => ?_)
          · refine al_skip 6 44 false (by simp [go_sem]) (by simp [go_sem]) rfl rfl ?_
            refine al_run 2 (sh := []) tyOk (by simp [go_sem] <;> rfl) ?_
            refine al_nil ?_
            refine awp_cond (b := true) (by simp [go_sem, h0, h1, h6, h7, h8]) (fun h => ?_) (fun h => ?_)
            rotate_left
            · cases h
            refine awp_seq ?_
            refine awp_region_run (sh := []) tyOk (by simp [go_sem] <;> rfl) ?_
            refine awp_ret ?_
            refine inBlock_ret ?_
            refine then_ret ?_
            refine ends_ret (by simp [go_sem] <;> rfl) (by simp [go_sem]) ?_
            exact ⟨by rw [cexpr_eq ps b d]; simp only [Bool.not_true, h0, h1, h6, h7, h8, Bool.true_or, Bool.or_true, Bool.false_or, Bool.or_false, Bool.true_and, Bool.and_true, Bool.false_and, Bool.and_false, Bool.not_true, Bool.not_false, Bool.false_eq_true, if_true, if_false, sQuote, sIf, sLet, sCall, bne_self_eq_false]; simp [go_sem], by simp [go_sem]⟩
          · have hl1 : (1 : Int) ≤ d.kids.length := by have := h8; simp only [beq_eq_false_iff_ne] at this; omega
            obtain ⟨x, hx0, hx0m⟩ := get_lt (l := d.kids) (k := 0) (by omega)
            have hh := D.head_of hx0
            have hwr : IntKind.i64.wrap ((d.kids.length : Int) - 1) = d.kids.length - 1 := wrap_id (by omega) (by omega)
            refine al_runG (sh := []) 6 44 false false tyOk (by simp [go_sem]) rfl (by simp [go_sem]) rfl rfl (by simp [go_sem, hx0, hl1, hwr] <;> rfl) ?_
            refine al_run 2 (sh := []) tyOk (by simp [go_sem, hx0, hl1, hwr] <;> rfl) ?_
            refine al_nil ?_
            refine awp_cond (by first | rfl | (simp [go_sem, hx0, hl1, hwr] <;> rfl)) (fun h9 => ?_) (fun h9 => ?_)
            · refine awp_seq ?_
              refine awp_region_run (sh := []) tyOk (by simp [go_sem, hx0, hl1, hwr] <;> rfl) ?_
              refine awp_ret ?_
              refine inBlock_ret ?_
              refine then_ret ?_
              refine ends_ret (by simp [go_sem, hx0, hl1, hwr] <;> rfl) (by simp [go_sem]) ?_
              exact ⟨by rw [cexpr_eq ps b d]; simp only [Bool.not_true, hx0, hl1, hwr, h0, h1, h6, h7, h8, hh, h9, Bool.true_or, Bool.or_true, Bool.false_or, Bool.or_false, Bool.true_and, Bool.and_true, Bool.false_and, Bool.and_false, Bool.not_true, Bool.not_false, Bool.false_eq_true, if_true, if_false, sQuote, sIf, sLet, sCall, bne_self_eq_false]; simp [go_sem], by simp [go_sem]⟩
            · refine awp_skip ?_
              refine awp_seq ?_
              refine awp_seq ?_
              refine awp_region_run (sh := []) tyOk (by simp [go_sem, hx0, hl1, hwr] <;> rfl) ?_
              refine awp_seq ?_
              refine awp_region_run (sh := []) tyOk (by simp [go_sem, hx0, hl1, hwr] <;> rfl) ?_
              refine awp_block ?_
              refine awp_seq ?_
              refine awp_region_run (sh := []) tyOk (by simp [go_sem, hx0, hl1, hwr] <;> rfl) ?_
              refine awp_cond (by first | rfl | (simp [go_sem, hx0, hl1, hwr] <;> rfl)) (fun h10 => ?_) (fun h10 => ?_)
              · refine awp_seq ?_
                refine awp_seq ?_
                refine awp_region_run (sh := []) tyOk (by simp [go_sem, hx0, hl1, hwr] <;> rfl) ?_
                refine awp_cond (by first | rfl | (simp [go_sem, hx0, hl1, hwr] <;> rfl)) (fun h11 => ?_) (fun h11 => ?_)
                · refine awp_seq ?_
                  refine awp_region_run (sh := []) tyOk (by simp [go_sem, hx0, hl1, hwr] <;> rfl) ?_
                  refine awp_ret ?_
                  refine then_ret ?_
                  refine inBlock_ret ?_
                  refine then_ret ?_
                  refine ends_ret (by simp [go_sem, hx0, hl1, hwr] <;> rfl) (by simp [go_sem]) ?_
                  exact ⟨by rw [cexpr_eq ps b d]; simp only [Bool.not_true, hx0, hl1, hwr, h0, h1, h6, h7, h8, hh, h9, h10, h11, Bool.true_or, Bool.or_true, Bool.false_or, Bool.or_false, Bool.true_and, Bool.and_true, Bool.false_and, Bool.and_false, Bool.not_true, Bool.not_false, Bool.false_eq_true, if_true, if_false, sQuote, sIf, sLet, sCall, bne_self_eq_false]; simp [go_sem], by simp [go_sem]⟩
                · refine awp_skip ?_
                  refine awp_seq ?_
                  refine awp_region_run (sh := []) tyOk (by simp [go_sem, hx0, hl1, hwr] <;> rfl) ?_
                  refine awp_ret ?_
                  refine inBlock_ret ?_
                  refine then_ret ?_
                  refine ends_ret (by simp [go_sem, hx0, hl1, hwr] <;> rfl) (by simp [go_sem]) ?_
                  exact ⟨by rw [cexpr_eq ps b d]; simp only [Bool.not_true, hx0, hl1, hwr, h0, h1, h6, h7, h8, hh, h9, h10, h11, Bool.true_or, Bool.or_true, Bool.false_or, Bool.or_false, Bool.true_and, Bool.and_true, Bool.false_and, Bool.and_false, Bool.not_true, Bool.not_false, Bool.false_eq_true, if_true, if_false, sQuote, sIf, sLet, sCall, bne_self_eq_false]; simp [go_sem], by simp [go_sem]⟩
              · refine awp_seq ?_
                refine awp_region_run (sh := []) tyOk (by simp [go_sem, hx0, hl1, hwr] <;> rfl) ?_
                refine awp_cond (by first | rfl | (simp [go_sem, hx0, hl1, hwr] <;> rfl)) (fun h12 => ?_) (fun h12 => ?_)
                · refine awp_seq ?_
                  refine awp_seq ?_
                  refine awp_region_run (sh := []) tyOk (by simp [go_sem, hx0, hl1, hwr] <;> rfl) ?_
                  refine awp_cond (by first | rfl | (simp [go_sem, hx0, hl1, hwr] <;> rfl)) (fun h13 => ?_) (fun h13 => ?_)
                  · refine awp_seq ?_
                    refine awp_region_run (sh := []) tyOk (by simp [go_sem, hx0, hl1, hwr] <;> rfl) ?_
                    refine awp_ret ?_
                    refine then_ret ?_
                    refine inBlock_ret ?_
                    refine then_ret ?_
                    refine ends_ret (by simp [go_sem, hx0, hl1, hwr] <;> rfl) (by simp [go_sem]) ?_
                    exact ⟨by rw [cexpr_eq ps b d]; simp only [Bool.not_true, hx0, hl1, hwr, h0, h1, h6, h7, h8, hh, h9, h10, h12, h13, Bool.true_or, Bool.or_true, Bool.false_or, Bool.or_false, Bool.true_and, Bool.and_true, Bool.false_and, Bool.and_false, Bool.not_true, Bool.not_false, Bool.false_eq_true, if_true, if_false, sQuote, sIf, sLet, sCall, bne_self_eq_false]; simp [go_sem], by simp [go_sem]⟩
                  · refine awp_skip ?_
                    refine awp_seq ?_
                    refine awp_reg ?_
                    refine al_run 4 (sh := []) tyOk (by simp [go_sem, hx0, hl1, hwr] <;> rfl) ?_
                    refine al_fn rfl rfl rfl (by simp [go_sem, hx0, hl1, hwr] <;> rfl) call42 (c_all σ hgl oc ps b (d.kids.drop 1) (by simp; omega) (fun x hx => ih x (List.mem_of_mem_drop hx) b σ hgl hck (by have := D.size_kid_lt (d := d) (k := x) (List.mem_of_mem_drop hx); omega))) (by simp [go_sem, hx0, hl1, hwr] <;> rfl) (by simp [go_sem, hx0, hl1, hwr, List.map_drop]) rfl rfl ?_
                    refine al_run 1 (sh := []) tyOk (by simp [go_sem, hx0, hl1, hwr] <;> rfl) ?_
                    refine al_nil ?_
                    refine awp_ret ?_
                    refine inBlock_ret ?_
                    refine then_ret ?_
                    refine ends_ret (by simp [go_sem, hx0, hl1, hwr] <;> rfl) (by simp [go_sem]) ?_
                    exact ⟨by rw [cexpr_eq ps b d]; simp only [Bool.not_true, hx0, hl1, hwr, h0, h1, h6, h7, h8, hh, h9, h10, h12, h13, Bool.true_or, Bool.or_true, Bool.false_or, Bool.or_false, Bool.true_and, Bool.and_true, Bool.false_and, Bool.and_false, Bool.not_true, Bool.not_false, Bool.false_eq_true, if_true, if_false, sQuote, sIf, sLet, sCall, bne_self_eq_false]; simp [go_sem], by simp [go_sem]⟩
                · refine awp_seq ?_
                  refine awp_region_run (sh := []) tyOk (by simp [go_sem, hx0, hl1, hwr] <;> rfl) ?_
                  refine awp_cond (by first | rfl | (simp [go_sem, hx0, hl1, hwr] <;> rfl)) (fun h14 => ?_) (fun h14 => ?_)
                  · refine awp_seq ?_
                    refine awp_seq ?_
                    refine awp_reg ?_
                    refine al_run 4 (sh := []) tyOk (by simp [go_sem, hx0, hl1, hwr] <;> rfl) ?_
                    refine al_splitT 78 (by first | rfl | (simp [go_sem, hx0, hl1, hwr] <;> rfl)) (fun h15 => ?_) (fun h15 => ?_)
                    · refine al_skip 5 78 false (by simp [go_sem]) (by simp [go_sem]) rfl rfl ?_
                      refine al_run 1 (sh := []) tyOk (by simp [go_sem, hx0, hl1, hwr] <;> rfl) ?_
                      refine al_nil ?_
                      refine awp_cond (b := true) (by simp [go_sem, hx0, hl1, hwr, h0, h1, h6, h7, h8, hh, h9, h10, h12, h14, h15]) (fun h => ?_) (fun h => ?_)
                      rotate_left
                      · cases h
                      refine awp_seq ?_
                      refine awp_region_run (sh := []) tyOk (by simp [go_sem, hx0, hl1, hwr] <;> rfl) ?_
                      refine awp_ret ?_
                      refine then_ret ?_
                      refine inBlock_ret ?_
                      refine then_ret ?_
                      refine ends_ret (by simp [go_sem, hx0, hl1, hwr] <;> rfl) (by simp [go_sem]) ?_
                      exact ⟨by rw [cexpr_eq ps b d]; simp only [Bool.not_true, hx0, hl1, hwr, h0, h1, h6, h7, h8, hh, h9, h10, h12, h14, h15, Bool.true_or, Bool.or_true, Bool.false_or, Bool.or_false, Bool.true_and, Bool.and_true, Bool.false_and, Bool.and_false, Bool.not_true, Bool.not_false, Bool.false_eq_true, if_true, if_false, sQuote, sIf, sLet, sCall, bne_self_eq_false]; simp [go_sem], by simp [go_sem]⟩
                    · have hl4 : d.kids.length = 4 := by have := h15; simp only [bne_eq_false_iff_eq] at this; omega
                      obtain ⟨y1, hy1, hy1m⟩ := get_lt (l := d.kids) (k := 1) (by omega)
                      obtain ⟨y2, hy2, hy2m⟩ := get_lt (l := d.kids) (k := 2) (by omega)
                      obtain ⟨y3, hy3, hy3m⟩ := get_lt (l := d.kids) (k := 3) (by omega)
                      have hg1 := getD_of hy1
                      have hg2 := cnth_get ps b 2 d.kids y2 hy2
                      have hg3 := cnth_get ps (b ++ [y1.text]) 3 d.kids y3 hy3
                      have hs2 := D.size_kid_lt hy2m
                      have hs3 := D.size_kid_lt hy3m
                      have hbb : (b.length + 1) * 16 ≤ 140737488355328 := by omega
                      refine al_runG (sh := []) 3 78 false false tyOk (by simp [go_sem]) rfl (by simp [go_sem]) rfl rfl (by simp [go_sem, hx0, hl1, hwr, hy1, hy2, hy3, hbb, allSz_str] <;> rfl) ?_
                      refine al_fnG 78 false false (by simp [go_sem]) rfl (by simp [go_sem]) rfl rfl (by simp [go_sem, hx0, hl1, hwr, hy1, hy2, hy3, hbb, allSz_str] <;> rfl) call40 ((c_node_IsName y1) _ (by exact hgl)) (by simp [go_sem, hx0, hl1, hwr, hy1, hy2, hy3, hbb, allSz_str] <;> rfl) (by simp [go_sem, hx0, hl1, hwr, hy1, hy2, hy3, hbb, allSz_str]) rfl rfl ?_
                      refine al_runG (sh := []) 1 78 false false tyOk (by simp [go_sem]) rfl (by simp [go_sem]) rfl rfl (by simp [go_sem, hx0, hl1, hwr, hy1, hy2, hy3, hbb, allSz_str] <;> rfl) ?_
                      refine al_run 1 (sh := []) tyOk (by simp [go_sem, hx0, hl1, hwr, hy1, hy2, hy3, hbb, allSz_str] <;> rfl) ?_
                      refine al_nil ?_
                      refine awp_cond (by first | rfl | (simp [go_sem, hx0, hl1, hwr, hy1, hy2, hy3, hbb, allSz_str] <;> rfl)) (fun h16 => ?_) (fun h16 => ?_)
                      · refine awp_seq ?_
                        refine awp_region_run (sh := []) tyOk (by simp [go_sem, hx0, hl1, hwr, hy1, hy2, hy3, hbb, allSz_str] <;> rfl) ?_
                        refine awp_ret ?_
                        refine then_ret ?_
                        refine inBlock_ret ?_
                        refine then_ret ?_
                        refine ends_ret (by simp [go_sem, hx0, hl1, hwr, hy1, hy2, hy3, hbb, allSz_str] <;> rfl) (by simp [go_sem]) ?_
                        exact ⟨by rw [cexpr_eq ps b d]; simp only [Bool.not_true, hx0, hl1, hwr, hy1, hy2, hy3, hbb, allSz_str, h0, h1, h6, h7, h8, hh, h9, h10, h12, h14, h15, hg1, hg2, hg3, h16, Bool.true_or, Bool.or_true, Bool.false_or, Bool.or_false, Bool.true_and, Bool.and_true, Bool.false_and, Bool.and_false, Bool.not_true, Bool.not_false, Bool.false_eq_true, if_true, if_false, sQuote, sIf, sLet, sCall, bne_self_eq_false]; simp [go_sem], by simp [go_sem]⟩
                      · refine awp_skip ?_
                        refine awp_seq ?_
                        refine awp_seq ?_
                        refine awp_reg ?_
                        refine al_run 5 (sh := []) tyOk (by simp [go_sem, hx0, hl1, hwr, hy1, hy2, hy3, hbb, allSz_str] <;> rfl) ?_
                        refine al_fn rfl rfl rfl (by simp [go_sem, hx0, hl1, hwr, hy1, hy2, hy3, hbb, allSz_str] <;> rfl) call25 (ih y2 hy2m b σ hgl hck (by omega)) (by simp [go_sem, hx0, hl1, hwr, hy1, hy2, hy3, hbb, allSz_str] <;> rfl) (by simp [go_sem, hx0, hl1, hwr, hy1, hy2, hy3, hbb, allSz_str]) rfl rfl ?_
                        refine al_run 1 (sh := []) tyOk (by simp [go_sem, hx0, hl1, hwr, hy1, hy2, hy3, hbb, allSz_str] <;> rfl) ?_
                        refine al_nil ?_
                        refine awp_seq ?_
                        refine awp_region_run (sh := []) tyOk (by simp [go_sem, hx0, hl1, hwr, hy1, hy2, hy3, hbb, allSz_str] <;> rfl) ?_
                        refine awp_cond (by first | rfl | (simp [go_sem, hx0, hl1, hwr, hy1, hy2, hy3, hbb, allSz_str] <;> rfl)) (fun h17 => ?_) (fun h17 => ?_)
                        · refine awp_seq ?_
                          refine awp_region_run (sh := []) tyOk (by simp [go_sem, hx0, hl1, hwr, hy1, hy2, hy3, hbb, allSz_str] <;> rfl) ?_
                          refine awp_ret ?_
                          refine then_ret ?_
                          refine inBlock_ret ?_
                          refine then_ret ?_
                          refine ends_ret (by simp [go_sem, hx0, hl1, hwr, hy1, hy2, hy3, hbb, allSz_str] <;> rfl) (by simp [go_sem]) ?_
                          exact ⟨by rw [cexpr_eq ps b d]; simp only [Bool.not_true, hx0, hl1, hwr, hy1, hy2, hy3, hbb, allSz_str, h0, h1, h6, h7, h8, hh, h9, h10, h12, h14, h15, hg1, hg2, hg3, h16, h17, Bool.true_or, Bool.or_true, Bool.false_or, Bool.or_false, Bool.true_and, Bool.and_true, Bool.false_and, Bool.and_false, Bool.not_true, Bool.not_false, Bool.false_eq_true, if_true, if_false, sQuote, sIf, sLet, sCall, bne_self_eq_false]; simp [go_sem], by simp [go_sem]⟩
                        · refine awp_skip ?_
                          refine awp_seq ?_
                          refine awp_regDC tyOk tySz 12 (by kernel_rfl) (by decide) ?_
                          refine ul_run 5 (by simp [go_sem, hx0, hl1, hwr, hy1, hy2, hy3, hbb, allSz_str] <;> rfl) ?_
                          refine ul_fn (by first | (intro _ _ hh; exact hh) | simp [go_sem]) rfl rfl rfl rfl (by simp [go_sem, hx0, hl1, hwr, hy1, hy2, hy3, hbb, allSz_str] <;> rfl) call43 ((c_Clip b) _ (by exact hgl)) (by simp [go_sem, hx0, hl1, hwr, hy1, hy2, hy3, hbb, allSz_str] <;> rfl) (by simp [go_sem, hx0, hl1, hwr, hy1, hy2, hy3, hbb, allSz_str]) rfl rfl ?_
                          refine ul_run 6 (by simp [go_sem, hx0, hl1, hwr, hy1, hy2, hy3, hbb, allSz_str] <;> rfl) ?_
                          refine ul_nil ?_
                          refine al_fn rfl rfl rfl (by simp [go_sem, hx0, hl1, hwr, hy1, hy2, hy3, hbb, allSz_str] <;> rfl) call25 (ih y3 hy3m (b ++ [y1.text]) _ (by exact hgl) (by exact hck) (by simp; omega)) (by simp [go_sem, hx0, hl1, hwr, hy1, hy2, hy3, hbb, allSz_str] <;> rfl) (by simp [go_sem, hx0, hl1, hwr, hy1, hy2, hy3, hbb, allSz_str]) rfl rfl ?_
                          refine al_run 1 (sh := []) tyOk (by simp [go_sem, hx0, hl1, hwr, hy1, hy2, hy3, hbb, allSz_str] <;> rfl) ?_
                          refine al_nil ?_
                          refine awp_ret ?_
                          refine inBlock_ret ?_
                          refine then_ret ?_
                          refine ends_ret (by simp [go_sem, hx0, hl1, hwr, hy1, hy2, hy3, hbb, allSz_str] <;> rfl) (by simp [go_sem]) ?_
                          exact ⟨by rw [cexpr_eq ps b d]; simp only [Bool.not_true, hx0, hl1, hwr, hy1, hy2, hy3, hbb, allSz_str, h0, h1, h6, h7, h8, hh, h9, h10, h12, h14, h15, hg1, hg2, hg3, h16, h17, Bool.true_or, Bool.or_true, Bool.false_or, Bool.or_false, Bool.true_and, Bool.and_true, Bool.false_and, Bool.and_false, Bool.not_true, Bool.not_false, Bool.false_eq_true, if_true, if_false, sQuote, sIf, sLet, sCall, bne_self_eq_false]; simp [go_sem], by simp [go_sem]⟩
                  · refine awp_seq ?_
                    refine awp_region_run (sh := []) tyOk (by simp [go_sem, hx0, hl1, hwr] <;> rfl) ?_
                    refine awp_cond (by first | rfl | (simp [go_sem, hx0, hl1, hwr] <;> rfl)) (fun h18 => ?_) (fun h18 => ?_)
                    · refine awp_seq ?_
                      refine awp_reg ?_
                      refine al_run 3 (sh := []) tyOk (by simp [go_sem, hx0, hl1, hwr] <;> rfl) ?_
                      refine al_fn rfl rfl rfl (by simp [go_sem, hx0, hl1, hwr] <;> rfl) call44 (c_call σ hgl oc ps b om hck d.kids (by omega) (fun x hx => ih x hx b σ hgl hck (by have := D.size_kid_lt (d := d) (k := x) hx; omega))) (by simp [go_sem, hx0, hl1, hwr] <;> rfl) (by simp [go_sem, hx0, hl1, hwr]) rfl rfl ?_
                      refine al_run 1 (sh := []) tyOk (by simp [go_sem, hx0, hl1, hwr] <;> rfl) ?_
                      refine al_nil ?_
                      refine awp_ret ?_
                      refine inBlock_ret ?_
                      refine then_ret ?_
                      refine ends_ret (by simp [go_sem, hx0, hl1, hwr] <;> rfl) (by simp [go_sem]) ?_
                      exact ⟨by rw [cexpr_eq ps b d]; simp only [Bool.not_true, hx0, hl1, hwr, h0, h1, h6, h7, h8, hh, h9, h10, h12, h14, h18, Bool.true_or, Bool.or_true, Bool.false_or, Bool.or_false, Bool.true_and, Bool.and_true, Bool.false_and, Bool.and_false, Bool.not_true, Bool.not_false, Bool.false_eq_true, if_true, if_false, sQuote, sIf, sLet, sCall, bne_self_eq_false]; simp [go_sem], by simp [go_sem]⟩
                    · refine awp_skip ?_
                      refine awp_seq ?_
                      refine awp_reg ?_
                      refine al_run 5 (sh := []) tyOk (by simp [go_sem, hx0, hl1, hwr] <;> rfl) ?_
                      refine al_fn rfl rfl rfl (by simp [go_sem, hx0, hl1, hwr] <;> rfl) call45 ((c_prim_Arity x.text) _ (by exact hgl)) (by simp [go_sem, hx0, hl1, hwr] <;> rfl) (by simp [go_sem, hx0, hl1, hwr]) rfl rfl ?_
                      refine al_run 5 (sh := []) tyOk (by simp [go_sem, hx0, hl1, hwr] <;> rfl) ?_
                      refine al_nil ?_
                      refine awp_seq ?_
                      refine awp_block ?_
                      refine awp_seq ?_
                      refine awp_region_run (sh := []) tyOk (by simp [go_sem, hx0, hl1, hwr] <;> rfl) ?_
                      refine awp_cond (by first | rfl | (simp [go_sem, hx0, hl1, hwr] <;> rfl)) (fun h19 => ?_) (fun h19 => ?_)
                      · refine awp_seq ?_
                        refine awp_region_run (sh := []) tyOk (by simp [go_sem, hx0, hl1, hwr] <;> rfl) ?_
                        refine awp_ret ?_
                        refine inBlock_ret ?_
                        refine then_ret ?_
                        refine ends_ret (by simp [go_sem, hx0, hl1, hwr] <;> rfl) (by simp [go_sem]) ?_
                        exact ⟨by rw [cexpr_eq ps b d]; simp only [Bool.not_true, hx0, hl1, hwr, h0, h1, h6, h7, h8, hh, h9, h10, h12, h14, h18, h19, Bool.true_or, Bool.or_true, Bool.false_or, Bool.or_false, Bool.true_and, Bool.and_true, Bool.false_and, Bool.and_false, Bool.not_true, Bool.not_false, Bool.false_eq_true, if_true, if_false, sQuote, sIf, sLet, sCall, bne_self_eq_false]; simp [go_sem], by simp [go_sem]⟩
                      · refine awp_seq ?_
                        refine awp_region_run (sh := []) tyOk (by simp [go_sem, hx0, hl1, hwr] <;> rfl) ?_
                        refine awp_cond (by first | rfl | (simp [go_sem, hx0, hl1, hwr] <;> rfl)) (fun h20 => ?_) (fun h20 => ?_)
                        · refine awp_seq ?_
                          refine awp_region_run (sh := []) tyOk (by simp [go_sem, hx0, hl1, hwr] <;> rfl) ?_
                          refine awp_ret ?_
                          refine inBlock_ret ?_
                          refine then_ret ?_
                          refine ends_ret (by simp [go_sem, hx0, hl1, hwr] <;> rfl) (by simp [go_sem]) ?_
                          exact ⟨by rw [cexpr_eq ps b d]; simp only [Bool.not_true, hx0, hl1, hwr, h0, h1, h6, h7, h8, hh, h9, h10, h12, h14, h18, h19, h20, Bool.true_or, Bool.or_true, Bool.false_or, Bool.or_false, Bool.true_and, Bool.and_true, Bool.false_and, Bool.and_false, Bool.not_true, Bool.not_false, Bool.false_eq_true, if_true, if_false, sQuote, sIf, sLet, sCall, bne_self_eq_false]; simp [go_sem], by simp [go_sem]⟩
                        · refine awp_skip ?_
                          refine awp_seq ?_
                          refine awp_reg ?_
                          refine al_run 5 (sh := []) tyOk (by simp [go_sem, hx0, hl1, hwr] <;> rfl) ?_
                          refine al_fn rfl rfl rfl (by simp [go_sem, hx0, hl1, hwr] <;> rfl) call42 (c_all σ hgl oc ps b (d.kids.drop 1) (by simp; omega) (fun x hx => ih x (List.mem_of_mem_drop hx) b σ hgl hck (by have := D.size_kid_lt (d := d) (k := x) (List.mem_of_mem_drop hx); omega))) (by simp [go_sem, hx0, hl1, hwr] <;> rfl) (by simp [go_sem, hx0, hl1, hwr, List.map_drop]) rfl rfl ?_
                          refine al_run 1 (sh := []) tyOk (by simp [go_sem, hx0, hl1, hwr] <;> rfl) ?_
                          refine al_nil ?_
                          refine awp_ret ?_
                          refine ends_ret (by simp [go_sem, hx0, hl1, hwr] <;> rfl) (by simp [go_sem]) ?_
                          exact ⟨by rw [cexpr_eq ps b d]; simp only [Bool.not_true, hx0, hl1, hwr, h0, h1, h6, h7, h8, hh, h9, h10, h12, h14, h18, h19, h20, Bool.true_or, Bool.or_true, Bool.false_or, Bool.or_false, Bool.true_and, Bool.and_true, Bool.false_and, Bool.and_false, Bool.not_true, Bool.not_false, Bool.false_eq_true, if_true, if_false, sQuote, sIf, sLet, sCall, bne_self_eq_false]; simp [go_sem], by simp [go_sem]⟩

set_option maxHeartbeats 1000000 in
theorem c_head_none (oc om : Nat) (ps : List (D × Int)) (d : D) (hd : d.size ≤ 1000000000) (σ : Store) (hgl : σ.gl = (GL kr)) (hck : CkAt σ oc om ps) (hkd : kidsOf d 3 false = none) : ACalls Tryd.prog 39 [.ptr oc 0, .pv (enc d)] σ (fun r σ' => r = .pv (.int .i64 (chead ps d).1) ∧ σ' = setM σ om (chead ps d).2) := by
  have hkl := D.kids_length_lt d
  obtain ⟨hoc, hom⟩ := id hck
  refine acalls_of tyOk Tryd.func39 rfl (by simp [Tryd.f39]) ?_
  refine awp_seq ?_
  refine awp_region_run (sh := []) tyOk (by simp [go_sem, hoc, hkd, encO] <;> rfl) ?_
  refine awp_seq ?_
  refine awp_reg ?_
  refine al_run 1 (sh := []) tyOk (by simp [go_sem, hoc, hkd, encO] <;> rfl) ?_
  refine al_fn rfl rfl rfl (by simp [go_sem, hoc, hkd, encO] <;> rfl) call59 ((c_flat_Kids d 3 false) _ (by exact hgl)) (by simp [go_sem, hoc, hkd, encO] <;> rfl) (by simp [go_sem, hoc, hkd, encO]) rfl rfl ?_
  refine al_run 1 (sh := []) tyOk (by simp [go_sem, hoc, hkd, encO] <;> rfl) ?_
  refine al_nil ?_
  refine awp_seq ?_
  refine awp_seq ?_
  refine awp_reg ?_
  refine al_run 3 (sh := []) tyOk (by simp [go_sem, hoc, hkd, encO] <;> rfl) ?_
  refine al_splitT 14 (by first | rfl | (simp [go_sem, hoc, hkd, encO] <;> rfl)) (fun h0 => ?_) (fun h0 => ?_)
  · refine al_skip 5 14 false (by simp [go_sem]) (by simp [go_sem]) rfl rfl ?_
    refine al_run 1 (sh := []) tyOk (by simp [go_sem, hoc, hkd, encO] <;> rfl) ?_
    refine al_nil ?_
    refine awp_cond (b := true) (by simp [go_sem, hoc, hkd, encO, h0]) (fun h => ?_) (fun h => ?_)
    rotate_left
    · cases h
    refine awp_seq ?_
    refine awp_region_run (sh := []) tyOk (by simp [go_sem, hoc, hkd, encO] <;> rfl) ?_
    refine awp_ret ?_
    refine then_ret ?_
    refine ends_ret (by simp [go_sem] <;> rfl) (by simp [go_sem]) ?_
    have hs : chead ps d = (4, ps) := by simp only [chead, hkd]
    rw [hs]
    exact ⟨rfl, (setM_self hck).symm⟩
  · exact nomatch h0

set_option maxHeartbeats 1000000 in
theorem c_head_some (oc om : Nat) (ps : List (D × Int)) (d : D) (hd : d.size ≤ 1000000000) (σ : Store) (hgl : σ.gl = (GL kr)) (hck : CkAt σ oc om ps) (x0 x1 x2 : D) (hkd : kidsOf d 3 false = some [x0, x1, x2]) (hx1 : x1.size ≤ 1000000000) : ACalls Tryd.prog 39 [.ptr oc 0, .pv (enc d)] σ (fun r σ' => r = .pv (.int .i64 (chead ps d).1) ∧ σ' = setM σ om (chead ps d).2) := by
  have hkl := D.kids_length_lt d
  obtain ⟨hoc, hom⟩ := id hck
  have hg0 : ([x0, x1, x2] : List D).getD 0 dnone = x0 := rfl
  have hg1 : ([x0, x1, x2] : List D).getD 1 dnone = x1 := rfl
  refine acalls_of tyOk Tryd.func39 rfl (by simp [Tryd.f39]) ?_
  refine awp_seq ?_
  refine awp_region_run (sh := []) tyOk (by simp [go_sem, hoc, hkd, encO] <;> rfl) ?_
  refine awp_seq ?_
  refine awp_reg ?_
  refine al_run 1 (sh := []) tyOk (by simp [go_sem, hoc, hkd, encO] <;> rfl) ?_
  refine al_fn rfl rfl rfl (by simp [go_sem, hoc, hkd, encO] <;> rfl) call59 ((c_flat_Kids d 3 false) _ (by exact hgl)) (by simp [go_sem, hoc, hkd, encO] <;> rfl) (by simp [go_sem, hoc, hkd, encO]) rfl rfl ?_
  refine al_run 1 (sh := []) tyOk (by simp [go_sem, hoc, hkd, encO] <;> rfl) ?_
  refine al_nil ?_
  refine awp_seq ?_
  refine awp_seq ?_
  refine awp_reg ?_
  refine al_run 3 (sh := []) tyOk (by simp [go_sem, hoc, hkd, encO] <;> rfl) ?_
  refine al_splitT 14 (by first | rfl | (simp [go_sem, hoc, hkd, encO] <;> rfl)) (fun h0 => ?_) (fun h0 => ?_)
  · exact nomatch h0
  · refine al_runG (sh := []) 3 14 false false tyOk (by simp [go_sem]) rfl (by simp [go_sem]) rfl rfl (by simp [go_sem, hoc, hkd, encO] <;> rfl) ?_
    refine al_fnG 14 false false (by simp [go_sem]) rfl (by simp [go_sem]) rfl rfl (by simp [go_sem, hoc, hkd, encO] <;> rfl) call60 ((c_node_Label x0) _ (by exact hgl)) (by simp [go_sem, hoc, hkd, encO] <;> rfl) (by simp [go_sem, hoc, hkd, encO]) rfl rfl ?_
    refine al_runG (sh := []) 1 14 false false tyOk (by simp [go_sem]) rfl (by simp [go_sem]) rfl rfl (by simp [go_sem, hoc, hkd, encO] <;> rfl) ?_
    refine al_run 1 (sh := []) tyOk (by simp [go_sem, hoc, hkd, encO] <;> rfl) ?_
    refine al_nil ?_
    refine awp_cond (by first | rfl | (simp [go_sem, hoc, hkd, encO] <;> rfl)) (fun h1 => ?_) (fun h1 => ?_)
    · refine awp_seq ?_
      refine awp_region_run (sh := []) tyOk (by simp [go_sem, hoc, hkd, encO] <;> rfl) ?_
      refine awp_ret ?_
      refine then_ret ?_
      refine ends_ret (by simp [go_sem] <;> rfl) (by simp [go_sem]) ?_
      have hs : chead ps d = (4, ps) := by simp only [chead, hkd, d0, d1, hg0, hg1, Bool.not_true, hoc, hkd, encO, h0, h1, Bool.true_or, Bool.or_true, Bool.false_or, Bool.or_false, Bool.true_and, Bool.and_true, Bool.false_and, Bool.and_false, Bool.not_true, Bool.not_false, Bool.false_eq_true, if_true, if_false]
      rw [hs]
      exact ⟨rfl, (setM_self hck).symm⟩
    · refine awp_skip ?_
      refine awp_seq ?_
      have hlk := fun (s : St) (d : D) (ho : s.σ.objs[om]? = some (.map (mapK ps) (mapV pint ps))) => look_par ho d
      refine awp_regDP tyOk tySz 13 (by kernel_rfl) (by decide) ?_
      refine ul_run 7 (by simp [go_sem, hoc, hkd, encO, hom, hlk] <;> rfl) ?_
      refine ul_fn (by first | (intro _ _ hh; exact hh) | simp [go_sem]) rfl rfl rfl rfl (by simp [go_sem, hoc, hkd, encO, hom, hlk] <;> rfl) call28 ((c_flat_keyOf x0) _ (by exact hgl)) (by simp [go_sem, hoc, hkd, encO, hom, hlk] <;> rfl) (by simp [go_sem, hoc, hkd, encO, hom, hlk]) rfl rfl ?_
      refine ul_run 5 (by simp [go_sem, hoc, hkd, encO, hom, hlk] <;> rfl) ?_
      refine ul_nil ?_
      refine al_run 1 (sh := []) tyOk (by simp [go_sem, hoc, hkd, encO, hom, hlk] <;> rfl) ?_
      refine al_nil ?_
      refine awp_seq ?_
      refine awp_reg ?_
      refine al_run 3 (sh := []) tyOk (by simp [go_sem, hoc, hkd, encO, hom, hlk] <;> rfl) ?_
      refine al_fn rfl rfl rfl (by simp [go_sem, hoc, hkd, encO, hom, hlk] <;> rfl) call24 ((c_flat_Names x1 hx1) _ (by exact hgl)) (by simp [go_sem, hoc, hkd, encO, hom, hlk] <;> rfl) (by simp [go_sem, hoc, hkd, encO, hom, hlk]) rfl rfl ?_
      refine al_run 5 (sh := []) tyOk (by simp [go_sem, hoc, hkd, encO, hom, hlk] <;> rfl) ?_
      refine al_nil ?_
      refine awp_seq ?_
      refine awp_block ?_
      refine awp_seq ?_
      refine awp_reg ?_
      refine al_run 2 (sh := []) tyOk (by simp [go_sem, hoc, hkd, encO, hom, hlk] <;> rfl) ?_
      refine al_splitT 42 (by first | rfl | (simp [go_sem, hoc, hkd, encO, hom, hlk] <;> rfl)) (fun h2 => ?_) (fun h2 => ?_)
      · refine al_skip 2 42 false (by simp [go_sem]) (by simp [go_sem]) rfl rfl ?_
        refine al_run 2 (sh := []) tyOk (by simp [go_sem, hoc, hkd, encO, hom, hlk] <;> rfl) ?_
        refine al_nil ?_
        refine awp_cond (b := true) (by simp [go_sem, hoc, hkd, encO, hom, hlk, h0, h1, h2]) (fun h => ?_) (fun h => ?_)
        rotate_left
        · cases h
        refine awp_seq ?_
        refine awp_region_run (sh := []) tyOk (by simp [go_sem, hoc, hkd, encO, hom, hlk] <;> rfl) ?_
        refine awp_ret ?_
        refine inBlock_ret ?_
        refine then_ret ?_
        refine ends_ret (by simp [go_sem] <;> rfl) (by simp [go_sem]) ?_
        have hs : chead ps d = (4, ps) := by simp only [chead, hkd, d0, d1, hg0, hg1, Bool.not_true, hoc, hkd, encO, hom, hlk, h0, h1, h2, Bool.true_or, Bool.or_true, Bool.false_or, Bool.or_false, Bool.true_and, Bool.and_true, Bool.false_and, Bool.and_false, Bool.not_true, Bool.not_false, Bool.false_eq_true, if_true, if_false]
        rw [hs]
        exact ⟨rfl, (setM_self hck).symm⟩
      · refine al_runG (sh := []) 2 42 false false tyOk (by simp [go_sem]) rfl (by simp [go_sem]) rfl rfl (by simp [go_sem, hoc, hkd, encO, hom, hlk] <;> rfl) ?_
        refine al_run 2 (sh := []) tyOk (by simp [go_sem, hoc, hkd, encO, hom, hlk] <;> rfl) ?_
        refine al_nil ?_
        refine awp_cond (by first | rfl | (simp [go_sem, hoc, hkd, encO, hom, hlk] <;> rfl)) (fun h3 => ?_) (fun h3 => ?_)
        · have hnn : names x1 = none := by simpa using h3
          refine awp_seq ?_
          refine awp_region_run (sh := []) tyOk (by simp [go_sem, hoc, hkd, encO, hom, hlk] <;> rfl) ?_
          refine awp_ret ?_
          refine inBlock_ret ?_
          refine then_ret ?_
          refine ends_ret (by simp [go_sem] <;> rfl) (by simp [go_sem]) ?_
          have hs : chead ps d = (4, ps) := by simp only [chead, hkd, d0, d1, hg0, hg1, Bool.not_true, hoc, hkd, encO, hom, hlk, h0, h1, h2, h3, hnn, Bool.true_or, Bool.or_true, Bool.false_or, Bool.or_false, Bool.true_and, Bool.and_true, Bool.false_and, Bool.and_false, Bool.not_true, Bool.not_false, Bool.false_eq_true, if_true, if_false]
          rw [hs]
          exact ⟨rfl, (setM_self hck).symm⟩
        · obtain ⟨ns, hns⟩ : ∃ ns, names x1 = some ns := Option.isSome_iff_exists.1 (by simpa using h3)
          have hpt := fun (s : St) (d : D) (v : Int) (ho : s.σ.objs[om]? = some (.map (mapK ps) (mapV pint ps))) => put_par ho d v
          refine awp_seq ?_
          refine awp_region_run (sh := []) tyOk (by simp [go_sem, hoc, hkd, encO, hom, hlk, hns, encN] <;> rfl) ?_
          refine awp_cond (by first | rfl | (simp [go_sem, hoc, hkd, encO, hom, hlk, hns, encN] <;> rfl)) (fun h4 => ?_) (fun h4 => ?_)
          · refine awp_seq ?_
            refine awp_region_run (sh := []) tyOk (by simp [go_sem, hoc, hkd, encO, hom, hlk, hns, encN] <;> rfl) ?_
            refine awp_ret ?_
            refine inBlock_ret ?_
            refine then_ret ?_
            refine ends_ret (by simp [go_sem] <;> rfl) (by simp [go_sem]) ?_
            have hs : chead ps d = (3, ps) := by simp only [chead, hkd, d0, d1, hg0, hg1, Bool.not_true, hoc, hkd, encO, hom, hlk, hns, encN, h0, h1, h2, h3, hns, h4, Bool.true_or, Bool.or_true, Bool.false_or, Bool.or_false, Bool.true_and, Bool.and_true, Bool.false_and, Bool.and_false, Bool.not_true, Bool.not_false, Bool.false_eq_true, if_true, if_false]
            rw [hs]
            exact ⟨rfl, (setM_self hck).symm⟩
          · refine awp_skip ?_
            refine awp_seq ?_
            refine awp_regDP tyOk tySz 10 (by kernel_rfl) (by decide) ?_
            refine ul_run 7 (by simp [go_sem, hoc, hkd, encO, hom, hlk, hns, encN, hpt] <;> rfl) ?_
            refine ul_fn (by first | (intro _ _ hh; exact hh) | simp [go_sem]) rfl rfl rfl rfl (by simp [go_sem, hoc, hkd, encO, hom, hlk, hns, encN, hpt] <;> rfl) call28 ((c_flat_keyOf x0) _ (by exact hgl)) (by simp [go_sem, hoc, hkd, encO, hom, hlk, hns, encN, hpt] <;> rfl) (by simp [go_sem, hoc, hkd, encO, hom, hlk, hns, encN, hpt]) rfl rfl ?_
            refine ul_run 2 (by simp [go_sem, hoc, hkd, encO, hom, hlk, hns, encN, hpt] <;> rfl) ?_
            refine ul_nil ?_
            refine al_run 1 (sh := []) tyOk (by simp [go_sem, hoc, hkd, encO, hom, hlk, hns, encN, hpt] <;> rfl) ?_
            refine al_nil ?_
            refine awp_seq ?_
            refine awp_region_run (sh := []) tyOk (by simp [go_sem, hoc, hkd, encO, hom, hlk, hns, encN, hpt] <;> rfl) ?_
            refine awp_ret ?_
            refine ends_ret (by simp [go_sem] <;> rfl) (by simp [go_sem]) ?_
            have hs : chead ps d = (0, kset ps x0 ns.length) := by simp only [chead, hkd, d0, d1, hg0, hg1, Bool.not_true, hoc, hkd, encO, hom, hlk, hns, encN, hpt, h0, h1, h2, h3, hns, h4, Bool.true_or, Bool.or_true, Bool.false_or, Bool.or_false, Bool.true_and, Bool.and_true, Bool.false_and, Bool.and_false, Bool.not_true, Bool.not_false, Bool.false_eq_true, if_true, if_false]
            rw [hs]
            exact ⟨rfl, rfl⟩

end Go.Proofs.YtienmmfjjffjaaaDoor
