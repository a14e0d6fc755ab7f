/- A part of the proof: a layer of abstract values over the kit's walks, an evaluator over it, and walks of functions. -/
import Derived.Test.YtpopmiodjibljaaGreatDoorProg
import Derived.KernelRfl
import Derived.Shelf.GgSortFunc.RowK
import Derived.Sort.Grow
import Derived.Shelf.SlSortFuncK.WholeK
import Derived.Shelf.Lay
import Derived.Ground.GgsProg
import Derived.Ground.NamesProg
import Derived.Shelf.GgSortFunc.SmallK
import Derived.Shelf.GgSortFunc.Tiny
import Derived.Deep.QuietTactic
import Derived.Test.YtpopmiodjibljaaGreatDoorPclD
set_option linter.unusedVariables false
set_option linter.unusedSimpArgs false

namespace Go.Proofs.YtpopmiodjibljaaGreatDoor
open Go Go.Abs
def L : Lay := [
  (1, ⟨.func, 1, 8, [.nilf]⟩),
  (2, ⟨(.int .i64), 1, 8, [.int .i64 (0)]⟩),
  (3, ⟨(.int .i64), 1, 8, [.int .i64 (0)]⟩),
  (4, ⟨.bool, 1, 1, [.bool false]⟩),
  (5, ⟨(.int .u8), 1, 1, [.int .u8 (0)]⟩),
  (6, ⟨(.int .u8), 1, 1, [.int .u8 (0)]⟩),
  (7, ⟨(.struct [(0, 2), (1, 3), (2, 4), (3, 6)]), 4, 24, [.int .i64 (0), .int .i64 (0), .bool false, .int .u8 (0)]⟩),
  (8, ⟨(.struct [(0, 2), (1, 3), (2, 4), (3, 6)]), 4, 24, [.int .i64 (0), .int .i64 (0), .bool false, .int .u8 (0)]⟩),
  (9, ⟨.string, 1, 16, [.str []]⟩),
  (10, ⟨.string, 1, 16, [.str []]⟩),
  (11, ⟨.string, 1, 16, [.str []]⟩),
  (12, ⟨(.int .u64), 1, 8, [.int .u64 (0)]⟩),
  (13, ⟨(.struct [(0, 9), (1, 12)]), 2, 24, [.str [], .int .u64 (0)]⟩),
  (14, ⟨(.struct [(0, 9), (1, 12)]), 2, 24, [.str [], .int .u64 (0)]⟩),
  (15, ⟨(.pointer 367), 1, 8, [.nilp]⟩),
  (16, ⟨(.pointer 370), 1, 8, [.nilp]⟩),
  (17, ⟨(.pointer 377), 1, 8, [.nilp]⟩),
  (18, ⟨(.struct [(0, 17)]), 1, 8, [.nilp]⟩),
  (19, ⟨(.struct [(0, 17)]), 1, 8, [.nilp]⟩),
  (20, ⟨.iface, 1, 16, [.nili]⟩),
  (21, ⟨(.int .i32), 1, 4, [.int .i32 (0)]⟩),
  (22, ⟨(.slice 166), 1, 24, [.nils]⟩),
  (23, ⟨(.slice 25), 1, 24, [.nils]⟩),
  (24, ⟨(.struct [(0, 3), (1, 3), (2, 3), (3, 3), (4, 9), (5, 22), (6, 23)]), 7, 96, [.int .i64 (0), .int .i64 (0), .int .i64 (0), .int .i64 (0), .str [], .nils, .nils]⟩),
  (25, ⟨(.struct [(0, 3), (1, 3), (2, 3), (3, 3), (4, 9), (5, 22), (6, 23)]), 7, 96, [.int .i64 (0), .int .i64 (0), .int .i64 (0), .int .i64 (0), .str [], .nils, .nils]⟩),
  (26, ⟨.func, 1, 8, [.nilf]⟩),
  (27, ⟨.func, 1, 8, [.nilf]⟩),
  (28, ⟨(.int .i64), 1, 8, [.int .i64 (0)]⟩),
  (30, ⟨.func, 1, 8, [.nilf]⟩),
  (31, ⟨.func, 1, 8, [.nilf]⟩),
  (32, ⟨(.struct [(0, 9), (1, 9), (2, 3)]), 3, 40, [.str [], .str [], .int .i64 (0)]⟩),
  (33, ⟨(.struct [(0, 9), (1, 9), (2, 3)]), 3, 40, [.str [], .str [], .int .i64 (0)]⟩),
  (34, ⟨.func, 1, 8, [.nilf]⟩),
  (35, ⟨(.slice 98), 1, 24, [.nils]⟩),
  (36, ⟨(.struct [(0, 3), (1, 3), (2, 35)]), 3, 40, [.int .i64 (0), .int .i64 (0), .nils]⟩),
  (37, ⟨(.struct [(0, 3), (1, 3), (2, 35)]), 3, 40, [.int .i64 (0), .int .i64 (0), .nils]⟩),
  (38, ⟨(.struct [(0, 37), (3, 4), (4, 3)]), 5, 56, [.int .i64 (0), .int .i64 (0), .nils, .bool false, .int .i64 (0)]⟩),
  (39, ⟨(.struct [(0, 37), (3, 4), (4, 3)]), 5, 56, [.int .i64 (0), .int .i64 (0), .nils, .bool false, .int .i64 (0)]⟩),
  (41, ⟨.func, 1, 8, [.nilf]⟩),
  (43, ⟨.func, 1, 8, [.nilf]⟩),
  (45, ⟨.func, 1, 8, [.nilf]⟩),
  (46, ⟨.func, 1, 8, [.nilf]⟩),
  (47, ⟨(.slice 3), 1, 24, [.nils]⟩),
  (49, ⟨.func, 1, 8, [.nilf]⟩),
  (51, ⟨.func, 1, 8, [.nilf]⟩),
  (52, ⟨.func, 1, 8, [.nilf]⟩),
  (53, ⟨.func, 1, 8, [.nilf]⟩),
  (55, ⟨.func, 1, 8, [.nilf]⟩),
  (57, ⟨.func, 1, 8, [.nilf]⟩),
  (58, ⟨.func, 1, 8, [.nilf]⟩),
  (59, ⟨(.slice 37), 1, 24, [.nils]⟩),
  (61, ⟨.func, 1, 8, [.nilf]⟩),
  (63, ⟨.func, 1, 8, [.nilf]⟩),
  (64, ⟨.func, 1, 8, [.nilf]⟩),
  (66, ⟨.func, 1, 8, [.nilf]⟩),
  (67, ⟨.func, 1, 8, [.nilf]⟩),
  (68, ⟨(.slice 9), 1, 24, [.nils]⟩),
  (70, ⟨.func, 1, 8, [.nilf]⟩),
  (71, ⟨.func, 1, 8, [.nilf]⟩),
  (72, ⟨.func, 1, 8, [.nilf]⟩),
  (73, ⟨.func, 1, 8, [.nilf]⟩),
  (75, ⟨.func, 1, 8, [.nilf]⟩),
  (77, ⟨.func, 1, 8, [.nilf]⟩),
  (79, ⟨.func, 1, 8, [.nilf]⟩),
  (80, ⟨(.struct [(0, 3), (1, 3), (2, 3)]), 3, 24, [.int .i64 (0), .int .i64 (0), .int .i64 (0)]⟩),
  (81, ⟨(.struct [(0, 3), (1, 3), (2, 3)]), 3, 24, [.int .i64 (0), .int .i64 (0), .int .i64 (0)]⟩),
  (82, ⟨.func, 1, 8, [.nilf]⟩),
  (83, ⟨.func, 1, 8, [.nilf]⟩),
  (85, ⟨.func, 1, 8, [.nilf]⟩),
  (86, ⟨.func, 1, 8, [.nilf]⟩),
  (87, ⟨.func, 1, 8, [.nilf]⟩),
  (88, ⟨.func, 1, 8, [.nilf]⟩),
  (89, ⟨.func, 1, 8, [.nilf]⟩),
  (90, ⟨.func, 1, 8, [.nilf]⟩),
  (91, ⟨.func, 1, 8, [.nilf]⟩),
  (92, ⟨.func, 1, 8, [.nilf]⟩),
  (93, ⟨.func, 1, 8, [.nilf]⟩),
  (94, ⟨(.slice 5), 1, 24, [.nils]⟩),
  (95, ⟨.func, 1, 8, [.nilf]⟩),
  (96, ⟨.func, 1, 8, [.nilf]⟩),
  (97, ⟨.func, 1, 8, [.nilf]⟩),
  (98, ⟨(.array 2 3), 2, 16, [.int .i64 (0), .int .i64 (0)]⟩),
  (99, ⟨.func, 1, 8, [.nilf]⟩),
  (100, ⟨(.pointer 111), 1, 8, [.nilp]⟩),
  (101, ⟨.func, 1, 8, [.nilf]⟩),
  (102, ⟨(.slice 47), 1, 24, [.nils]⟩),
  (103, ⟨(.int .u64), 1, 8, [.int .u64 (0)]⟩),
  (104, ⟨(.pointer 171), 1, 8, [.nilp]⟩),
  (105, ⟨(.array 10 98), 20, 160, [.int .i64 (0), .int .i64 (0), .int .i64 (0), .int .i64 (0), .int .i64 (0), .int .i64 (0), .int .i64 (0), .int .i64 (0), .int .i64 (0), .int .i64 (0), .int .i64 (0), .int .i64 (0), .int .i64 (0), .int .i64 (0), .int .i64 (0), .int .i64 (0), .int .i64 (0), .int .i64 (0), .int .i64 (0), .int .i64 (0)]⟩),
  (106, ⟨(.pointer 258), 1, 8, [.nilp]⟩),
  (107, ⟨(.struct [(0, 3), (1, 3), (2, 105), (22, 106)]), 23, 184, [.int .i64 (0), .int .i64 (0), .int .i64 (0), .int .i64 (0), .int .i64 (0), .int .i64 (0), .int .i64 (0), .int .i64 (0), .int .i64 (0), .int .i64 (0), .int .i64 (0), .int .i64 (0), .int .i64 (0), .int .i64 (0), .int .i64 (0), .int .i64 (0), .int .i64 (0), .int .i64 (0), .int .i64 (0), .int .i64 (0), .int .i64 (0), .int .i64 (0), .nilp]⟩),
  (108, ⟨(.struct [(0, 3), (1, 3), (2, 105), (22, 106)]), 23, 184, [.int .i64 (0), .int .i64 (0), .int .i64 (0), .int .i64 (0), .int .i64 (0), .int .i64 (0), .int .i64 (0), .int .i64 (0), .int .i64 (0), .int .i64 (0), .int .i64 (0), .int .i64 (0), .int .i64 (0), .int .i64 (0), .int .i64 (0), .int .i64 (0), .int .i64 (0), .int .i64 (0), .int .i64 (0), .int .i64 (0), .int .i64 (0), .int .i64 (0), .nilp]⟩),
  (109, ⟨(.slice 4), 1, 24, [.nils]⟩),
  (110, ⟨(.struct [(0, 25), (7, 9), (8, 47), (9, 102), (10, 3), (11, 4), (12, 103), (13, 47), (14, 104), (15, 108), (38, 109), (39, 3), (40, 3), (41, 4), (42, 3), (43, 4)]), 44, 464, [.int .i64 (0), .int .i64 (0), .int .i64 (0), .int .i64 (0), .str [], .nils, .nils, .str [], .nils, .nils, .int .i64 (0), .bool false, .int .u64 (0), .nils, .nilp, .int .i64 (0), .int .i64 (0), .int .i64 (0), .int .i64 (0), .int .i64 (0), .int .i64 (0), .int .i64 (0), .int .i64 (0), .int .i64 (0), .int .i64 (0), .int .i64 (0), .int .i64 (0), .int .i64 (0), .int .i64 (0), .int .i64 (0), .int .i64 (0), .int .i64 (0), .int .i64 (0), .int .i64 (0), .int .i64 (0), .int .i64 (0), .int .i64 (0), .nilp, .nils, .int .i64 (0), .int .i64 (0), .bool false, .int .i64 (0), .bool false]⟩),
  (111, ⟨(.struct [(0, 25), (7, 9), (8, 47), (9, 102), (10, 3), (11, 4), (12, 103), (13, 47), (14, 104), (15, 108), (38, 109), (39, 3), (40, 3), (41, 4), (42, 3), (43, 4)]), 44, 464, [.int .i64 (0), .int .i64 (0), .int .i64 (0), .int .i64 (0), .str [], .nils, .nils, .str [], .nils, .nils, .int .i64 (0), .bool false, .int .u64 (0), .nils, .nilp, .int .i64 (0), .int .i64 (0), .int .i64 (0), .int .i64 (0), .int .i64 (0), .int .i64 (0), .int .i64 (0), .int .i64 (0), .int .i64 (0), .int .i64 (0), .int .i64 (0), .int .i64 (0), .int .i64 (0), .int .i64 (0), .int .i64 (0), .int .i64 (0), .int .i64 (0), .int .i64 (0), .int .i64 (0), .int .i64 (0), .int .i64 (0), .int .i64 (0), .nilp, .nils, .int .i64 (0), .int .i64 (0), .bool false, .int .i64 (0), .bool false]⟩),
  (112, ⟨.func, 1, 8, [.nilf]⟩),
  (113, ⟨(.pointer 125), 1, 8, [.nilp]⟩),
  (115, ⟨.func, 1, 8, [.nilf]⟩),
  (116, ⟨.func, 1, 8, [.nilf]⟩),
  (118, ⟨.func, 1, 8, [.nilf]⟩),
  (119, ⟨.func, 1, 8, [.nilf]⟩),
  (120, ⟨(.map 3 25), 1, 8, [.nilm]⟩),
  (121, ⟨(.map 9 22), 1, 8, [.nilm]⟩),
  (122, ⟨.func, 1, 8, [.nilf]⟩),
  (123, ⟨.func, 1, 8, [.nilf]⟩),
  (124, ⟨(.struct [(0, 25), (7, 120), (8, 121), (9, 47), (10, 4), (11, 4), (12, 4), (13, 3), (14, 47), (15, 3), (16, 3), (17, 3), (18, 123)]), 19, 208, [.int .i64 (0), .int .i64 (0), .int .i64 (0), .int .i64 (0), .str [], .nils, .nils, .nilm, .nilm, .nils, .bool false, .bool false, .bool false, .int .i64 (0), .nils, .int .i64 (0), .int .i64 (0), .int .i64 (0), .nilf]⟩),
  (125, ⟨(.struct [(0, 25), (7, 120), (8, 121), (9, 47), (10, 4), (11, 4), (12, 4), (13, 3), (14, 47), (15, 3), (16, 3), (17, 3), (18, 123)]), 19, 208, [.int .i64 (0), .int .i64 (0), .int .i64 (0), .int .i64 (0), .str [], .nils, .nils, .nilm, .nilm, .nils, .bool false, .bool false, .bool false, .int .i64 (0), .nils, .int .i64 (0), .int .i64 (0), .int .i64 (0), .nilf]⟩),
  (126, ⟨.func, 1, 8, [.nilf]⟩),
  (127, ⟨.func, 1, 8, [.nilf]⟩),
  (128, ⟨.func, 1, 8, [.nilf]⟩),
  (129, ⟨.func, 1, 8, [.nilf]⟩),
  (130, ⟨.func, 1, 8, [.nilf]⟩),
  (131, ⟨.func, 1, 8, [.nilf]⟩),
  (133, ⟨.func, 1, 8, [.nilf]⟩),
  (134, ⟨.func, 1, 8, [.nilf]⟩),
  (135, ⟨.func, 1, 8, [.nilf]⟩),
  (136, ⟨.func, 1, 8, [.nilf]⟩),
  (137, ⟨.func, 1, 8, [.nilf]⟩),
  (138, ⟨.func, 1, 8, [.nilf]⟩),
  (139, ⟨(.pointer 147), 1, 8, [.nilp]⟩),
  (140, ⟨.func, 1, 8, [.nilf]⟩),
  (141, ⟨.func, 1, 8, [.nilf]⟩),
  (142, ⟨(.struct [(0, 3)]), 1, 8, [.int .i64 (0)]⟩),
  (143, ⟨(.struct [(0, 3)]), 1, 8, [.int .i64 (0)]⟩),
  (145, ⟨.func, 1, 8, [.nilf]⟩),
  (146, ⟨(.struct [(0, 94), (1, 47), (2, 3), (3, 3), (4, 68), (5, 4)]), 6, 96, [.nils, .nils, .int .i64 (0), .int .i64 (0), .nils, .bool false]⟩),
  (147, ⟨(.struct [(0, 94), (1, 47), (2, 3), (3, 3), (4, 68), (5, 4)]), 6, 96, [.nils, .nils, .int .i64 (0), .int .i64 (0), .nils, .bool false]⟩),
  (148, ⟨.func, 1, 8, [.nilf]⟩),
  (149, ⟨.func, 1, 8, [.nilf]⟩),
  (150, ⟨.func, 1, 8, [.nilf]⟩),
  (151, ⟨.func, 1, 8, [.nilf]⟩),
  (152, ⟨.func, 1, 8, [.nilf]⟩),
  (153, ⟨.func, 1, 8, [.nilf]⟩),
  (154, ⟨.func, 1, 8, [.nilf]⟩),
  (155, ⟨(.struct [(0, 3), (1, 3), (2, 3)]), 3, 24, [.int .i64 (0), .int .i64 (0), .int .i64 (0)]⟩),
  (156, ⟨(.struct [(0, 3), (1, 3), (2, 3)]), 3, 24, [.int .i64 (0), .int .i64 (0), .int .i64 (0)]⟩),
  (157, ⟨.func, 1, 8, [.nilf]⟩),
  (158, ⟨.func, 1, 8, [.nilf]⟩),
  (159, ⟨.func, 1, 8, [.nilf]⟩),
  (160, ⟨(.array 7 9), 7, 112, [.str [], .str [], .str [], .str [], .str [], .str [], .str []]⟩),
  (161, ⟨.func, 1, 8, [.nilf]⟩),
  (162, ⟨(.map 9 4), 1, 8, [.nilm]⟩),
  (163, ⟨.func, 1, 8, [.nilf]⟩),
  (164, ⟨.func, 1, 8, [.nilf]⟩),
  (165, ⟨(.struct [(0, 3), (1, 3)]), 2, 16, [.int .i64 (0), .int .i64 (0)]⟩),
  (166, ⟨(.struct [(0, 3), (1, 3)]), 2, 16, [.int .i64 (0), .int .i64 (0)]⟩),
  (167, ⟨.func, 1, 8, [.nilf]⟩),
  (168, ⟨.func, 1, 8, [.nilf]⟩),
  (169, ⟨.func, 1, 8, [.nilf]⟩),
  (170, ⟨(.struct [(0, 3), (1, 25), (8, 3), (9, 3), (10, 108), (33, 104)]), 34, 312, [.int .i64 (0), .int .i64 (0), .int .i64 (0), .int .i64 (0), .int .i64 (0), .str [], .nils, .nils, .int .i64 (0), .int .i64 (0), .int .i64 (0), .int .i64 (0), .int .i64 (0), .int .i64 (0), .int .i64 (0), .int .i64 (0), .int .i64 (0), .int .i64 (0), .int .i64 (0), .int .i64 (0), .int .i64 (0), .int .i64 (0), .int .i64 (0), .int .i64 (0), .int .i64 (0), .int .i64 (0), .int .i64 (0), .int .i64 (0), .int .i64 (0), .int .i64 (0), .int .i64 (0), .int .i64 (0), .nilp, .nilp]⟩),
  (171, ⟨(.struct [(0, 3), (1, 25), (8, 3), (9, 3), (10, 108), (33, 104)]), 34, 312, [.int .i64 (0), .int .i64 (0), .int .i64 (0), .int .i64 (0), .int .i64 (0), .str [], .nils, .nils, .int .i64 (0), .int .i64 (0), .int .i64 (0), .int .i64 (0), .int .i64 (0), .int .i64 (0), .int .i64 (0), .int .i64 (0), .int .i64 (0), .int .i64 (0), .int .i64 (0), .int .i64 (0), .int .i64 (0), .int .i64 (0), .int .i64 (0), .int .i64 (0), .int .i64 (0), .int .i64 (0), .int .i64 (0), .int .i64 (0), .int .i64 (0), .int .i64 (0), .int .i64 (0), .int .i64 (0), .nilp, .nilp]⟩),
  (172, ⟨.func, 1, 8, [.nilf]⟩),
  (173, ⟨.func, 1, 8, [.nilf]⟩),
  (174, ⟨(.array 10 98), 20, 160, [.int .i64 (0), .int .i64 (0), .int .i64 (0), .int .i64 (0), .int .i64 (0), .int .i64 (0), .int .i64 (0), .int .i64 (0), .int .i64 (0), .int .i64 (0), .int .i64 (0), .int .i64 (0), .int .i64 (0), .int .i64 (0), .int .i64 (0), .int .i64 (0), .int .i64 (0), .int .i64 (0), .int .i64 (0), .int .i64 (0)]⟩),
  (175, ⟨(.slice 295), 1, 24, [.nils]⟩),
  (176, ⟨.func, 1, 8, [.nilf]⟩),
  (177, ⟨.func, 1, 8, [.nilf]⟩),
  (178, ⟨(.struct [(0, 3), (1, 3), (2, 174), (22, 175), (23, 3), (24, 177)]), 25, 216, [.int .i64 (0), .int .i64 (0), .int .i64 (0), .int .i64 (0), .int .i64 (0), .int .i64 (0), .int .i64 (0), .int .i64 (0), .int .i64 (0), .int .i64 (0), .int .i64 (0), .int .i64 (0), .int .i64 (0), .int .i64 (0), .int .i64 (0), .int .i64 (0), .int .i64 (0), .int .i64 (0), .int .i64 (0), .int .i64 (0), .int .i64 (0), .int .i64 (0), .nils, .int .i64 (0), .nilf]⟩),
  (179, ⟨(.struct [(0, 3), (1, 3), (2, 174), (22, 175), (23, 3), (24, 177)]), 25, 216, [.int .i64 (0), .int .i64 (0), .int .i64 (0), .int .i64 (0), .int .i64 (0), .int .i64 (0), .int .i64 (0), .int .i64 (0), .int .i64 (0), .int .i64 (0), .int .i64 (0), .int .i64 (0), .int .i64 (0), .int .i64 (0), .int .i64 (0), .int .i64 (0), .int .i64 (0), .int .i64 (0), .int .i64 (0), .int .i64 (0), .int .i64 (0), .int .i64 (0), .nils, .int .i64 (0), .nilf]⟩),
  (180, ⟨.func, 1, 8, [.nilf]⟩),
  (181, ⟨.func, 1, 8, [.nilf]⟩),
  (183, ⟨.func, 1, 8, [.nilf]⟩),
  (184, ⟨.func, 1, 8, [.nilf]⟩),
  (185, ⟨.func, 1, 8, [.nilf]⟩),
  (186, ⟨.func, 1, 8, [.nilf]⟩),
  (187, ⟨.func, 1, 8, [.nilf]⟩),
  (188, ⟨(.pointer 25), 1, 8, [.nilp]⟩),
  (189, ⟨(.pointer 191), 1, 8, [.nilp]⟩),
  (190, ⟨(.struct [(0, 189), (1, 94)]), 2, 32, [.nilp, .nils]⟩),
  (191, ⟨(.struct [(0, 189), (1, 94)]), 2, 32, [.nilp, .nils]⟩),
  (192, ⟨.iface, 1, 16, [.nili]⟩),
  (193, ⟨.iface, 1, 16, [.nili]⟩),
  (195, ⟨.func, 1, 8, [.nilf]⟩),
  (196, ⟨.func, 1, 8, [.nilf]⟩),
  (197, ⟨.func, 1, 8, [.nilf]⟩),
  (198, ⟨.func, 1, 8, [.nilf]⟩),
  (199, ⟨.func, 1, 8, [.nilf]⟩),
  (200, ⟨.func, 1, 8, [.nilf]⟩),
  (201, ⟨.func, 1, 8, [.nilf]⟩),
  (202, ⟨.func, 1, 8, [.nilf]⟩),
  (203, ⟨.func, 1, 8, [.nilf]⟩),
  (204, ⟨.func, 1, 8, [.nilf]⟩),
  (205, ⟨.func, 1, 8, [.nilf]⟩),
  (207, ⟨.func, 1, 8, [.nilf]⟩),
  (208, ⟨.func, 1, 8, [.nilf]⟩),
  (209, ⟨.func, 1, 8, [.nilf]⟩),
  (210, ⟨.func, 1, 8, [.nilf]⟩),
  (211, ⟨.func, 1, 8, [.nilf]⟩),
  (212, ⟨.func, 1, 8, [.nilf]⟩),
  (213, ⟨.func, 1, 8, [.nilf]⟩),
  (214, ⟨.func, 1, 8, [.nilf]⟩),
  (215, ⟨.func, 1, 8, [.nilf]⟩),
  (216, ⟨.func, 1, 8, [.nilf]⟩),
  (217, ⟨.func, 1, 8, [.nilf]⟩),
  (218, ⟨.func, 1, 8, [.nilf]⟩),
  (219, ⟨.func, 1, 8, [.nilf]⟩),
  (221, ⟨.func, 1, 8, [.nilf]⟩),
  (222, ⟨.func, 1, 8, [.nilf]⟩),
  (223, ⟨.func, 1, 8, [.nilf]⟩),
  (224, ⟨(.pointer 5), 1, 8, [.nilp]⟩),
  (225, ⟨.func, 1, 8, [.nilf]⟩),
  (226, ⟨(.int .i64), 1, 8, [.int .i64 (0)]⟩),
  (228, ⟨.func, 1, 8, [.nilf]⟩),
  (229, ⟨.func, 1, 8, [.nilf]⟩),
  (230, ⟨.func, 1, 8, [.nilf]⟩),
  (231, ⟨.func, 1, 8, [.nilf]⟩),
  (232, ⟨.func, 1, 8, [.nilf]⟩),
  (233, ⟨(.int .u32), 1, 4, [.int .u32 (0)]⟩),
  (234, ⟨.func, 1, 8, [.nilf]⟩),
  (235, ⟨(.int .u64), 1, 8, [.int .u64 (0)]⟩),
  (236, ⟨.func, 1, 8, [.nilf]⟩),
  (237, ⟨.func, 1, 8, [.nilf]⟩),
  (238, ⟨.func, 1, 8, [.nilf]⟩),
  (240, ⟨.func, 1, 8, [.nilf]⟩),
  (241, ⟨.func, 1, 8, [.nilf]⟩),
  (242, ⟨.func, 1, 8, [.nilf]⟩),
  (243, ⟨.func, 1, 8, [.nilf]⟩),
  (244, ⟨.func, 1, 8, [.nilf]⟩),
  (246, ⟨(.int .u64), 1, 8, [.int .u64 (0)]⟩),
  (247, ⟨(.struct [(0, 17), (1, 245), (2, 246)]), 3, 24, [.nilp, .nilp, .int .u64 (0)]⟩),
  (248, ⟨(.struct [(0, 17), (1, 245), (2, 246)]), 3, 24, [.nilp, .nilp, .int .u64 (0)]⟩),
  (249, ⟨.func, 1, 8, [.nilf]⟩),
  (250, ⟨.func, 1, 8, [.nilf]⟩),
  (251, ⟨.func, 1, 8, [.nilf]⟩),
  (252, ⟨.func, 1, 8, [.nilf]⟩),
  (253, ⟨.func, 1, 8, [.nilf]⟩),
  (254, ⟨(.struct [(0, 154), (1, 250)]), 2, 16, [.nilf, .nilf]⟩),
  (255, ⟨(.struct [(0, 154), (1, 250)]), 2, 16, [.nilf, .nilf]⟩),
  (256, ⟨.func, 1, 8, [.nilf]⟩),
  (257, ⟨(.struct [(0, 3), (1, 3), (2, 106), (3, 3)]), 4, 32, [.int .i64 (0), .int .i64 (0), .nilp, .int .i64 (0)]⟩),
  (258, ⟨(.struct [(0, 3), (1, 3), (2, 106), (3, 3)]), 4, 32, [.int .i64 (0), .int .i64 (0), .nilp, .int .i64 (0)]⟩),
  (259, ⟨.func, 1, 8, [.nilf]⟩),
  (260, ⟨.func, 1, 8, [.nilf]⟩),
  (261, ⟨.func, 1, 8, [.nilf]⟩),
  (262, ⟨.func, 1, 8, [.nilf]⟩),
  (263, ⟨.func, 1, 8, [.nilf]⟩),
  (264, ⟨.func, 1, 8, [.nilf]⟩),
  (265, ⟨.func, 1, 8, [.nilf]⟩),
  (266, ⟨(.int .u64), 1, 8, [.int .u64 (0)]⟩),
  (267, ⟨.func, 1, 8, [.nilf]⟩),
  (268, ⟨.func, 1, 8, [.nilf]⟩),
  (269, ⟨.func, 1, 8, [.nilf]⟩),
  (270, ⟨(.pointer 3), 1, 8, [.nilp]⟩),
  (271, ⟨.func, 1, 8, [.nilf]⟩),
  (272, ⟨.func, 1, 8, [.nilf]⟩),
  (274, ⟨.func, 1, 8, [.nilf]⟩),
  (275, ⟨(.map 9 9), 1, 8, [.nilm]⟩),
  (276, ⟨.func, 1, 8, [.nilf]⟩),
  (277, ⟨.func, 1, 8, [.nilf]⟩),
  (278, ⟨(.struct [(0, 17)]), 1, 8, [.nilp]⟩),
  (279, ⟨(.struct [(0, 17)]), 1, 8, [.nilp]⟩),
  (280, ⟨(.pointer 379), 1, 8, [.nilp]⟩),
  (281, ⟨.func, 1, 8, [.nilf]⟩),
  (282, ⟨(.int .i64), 1, 8, [.int .i64 (0)]⟩),
  (284, ⟨.func, 1, 8, [.nilf]⟩),
  (285, ⟨.func, 1, 8, [.nilf]⟩),
  (286, ⟨.func, 1, 8, [.nilf]⟩),
  (287, ⟨.func, 1, 8, [.nilf]⟩),
  (288, ⟨.func, 1, 8, [.nilf]⟩),
  (289, ⟨.func, 1, 8, [.nilf]⟩),
  (290, ⟨.func, 1, 8, [.nilf]⟩),
  (291, ⟨.func, 1, 8, [.nilf]⟩),
  (293, ⟨.func, 1, 8, [.nilf]⟩),
  (294, ⟨(.struct [(0, 3), (1, 3)]), 2, 16, [.int .i64 (0), .int .i64 (0)]⟩),
  (295, ⟨(.struct [(0, 3), (1, 3)]), 2, 16, [.int .i64 (0), .int .i64 (0)]⟩),
  (296, ⟨.func, 1, 8, [.nilf]⟩),
  (297, ⟨.func, 1, 8, [.nilf]⟩),
  (298, ⟨(.array 256 5), 256, 256, [.int .u8 (0), .int .u8 (0), .int .u8 (0), .int .u8 (0), .int .u8 (0), .int .u8 (0), .int .u8 (0), .int .u8 (0), .int .u8 (0), .int .u8 (0), .int .u8 (0), .int .u8 (0), .int .u8 (0), .int .u8 (0), .int .u8 (0), .int .u8 (0), .int .u8 (0), .int .u8 (0), .int .u8 (0), .int .u8 (0), .int .u8 (0), .int .u8 (0), .int .u8 (0), .int .u8 (0), .int .u8 (0), .int .u8 (0), .int .u8 (0), .int .u8 (0), .int .u8 (0), .int .u8 (0), .int .u8 (0), .int .u8 (0), .int .u8 (0), .int .u8 (0), .int .u8 (0), .int .u8 (0), .int .u8 (0), .int .u8 (0), .int .u8 (0), .int .u8 (0), .int .u8 (0), .int .u8 (0), .int .u8 (0), .int .u8 (0), .int .u8 (0), .int .u8 (0), .int .u8 (0), .int .u8 (0), .int .u8 (0), .int .u8 (0), .int .u8 (0), .int .u8 (0), .int .u8 (0), .int .u8 (0), .int .u8 (0), .int .u8 (0), .int .u8 (0), .int .u8 (0), .int .u8 (0), .int .u8 (0), .int .u8 (0), .int .u8 (0), .int .u8 (0), .int .u8 (0), .int .u8 (0), .int .u8 (0), .int .u8 (0), .int .u8 (0), .int .u8 (0), .int .u8 (0), .int .u8 (0), .int .u8 (0), .int .u8 (0), .int .u8 (0), .int .u8 (0), .int .u8 (0), .int .u8 (0), .int .u8 (0), .int .u8 (0), .int .u8 (0), .int .u8 (0), .int .u8 (0), .int .u8 (0), .int .u8 (0), .int .u8 (0), .int .u8 (0), .int .u8 (0), .int .u8 (0), .int .u8 (0), .int .u8 (0), .int .u8 (0), .int .u8 (0), .int .u8 (0), .int .u8 (0), .int .u8 (0), .int .u8 (0), .int .u8 (0), .int .u8 (0), .int .u8 (0), .int .u8 (0), .int .u8 (0), .int .u8 (0), .int .u8 (0), .int .u8 (0), .int .u8 (0), .int .u8 (0), .int .u8 (0), .int .u8 (0), .int .u8 (0), .int .u8 (0), .int .u8 (0), .int .u8 (0), .int .u8 (0), .int .u8 (0), .int .u8 (0), .int .u8 (0), .int .u8 (0), .int .u8 (0), .int .u8 (0), .int .u8 (0), .int .u8 (0), .int .u8 (0), .int .u8 (0), .int .u8 (0), .int .u8 (0), .int .u8 (0), .int .u8 (0), .int .u8 (0), .int .u8 (0), .int .u8 (0), .int .u8 (0), .int .u8 (0), .int .u8 (0), .int .u8 (0), .int .u8 (0), .int .u8 (0), .int .u8 (0), .int .u8 (0), .int .u8 (0), .int .u8 (0), .int .u8 (0), .int .u8 (0), .int .u8 (0), .int .u8 (0), .int .u8 (0), .int .u8 (0), .int .u8 (0), .int .u8 (0), .int .u8 (0), .int .u8 (0), .int .u8 (0), .int .u8 (0), .int .u8 (0), .int .u8 (0), .int .u8 (0), .int .u8 (0), .int .u8 (0), .int .u8 (0), .int .u8 (0), .int .u8 (0), .int .u8 (0), .int .u8 (0), .int .u8 (0), .int .u8 (0), .int .u8 (0), .int .u8 (0), .int .u8 (0), .int .u8 (0), .int .u8 (0), .int .u8 (0), .int .u8 (0), .int .u8 (0), .int .u8 (0), .int .u8 (0), .int .u8 (0), .int .u8 (0), .int .u8 (0), .int .u8 (0), .int .u8 (0), .int .u8 (0), .int .u8 (0), .int .u8 (0), .int .u8 (0), .int .u8 (0), .int .u8 (0), .int .u8 (0), .int .u8 (0), .int .u8 (0), .int .u8 (0), .int .u8 (0), .int .u8 (0), .int .u8 (0), .int .u8 (0), .int .u8 (0), .int .u8 (0), .int .u8 (0), .int .u8 (0), .int .u8 (0), .int .u8 (0), .int .u8 (0), .int .u8 (0), .int .u8 (0), .int .u8 (0), .int .u8 (0), .int .u8 (0), .int .u8 (0), .int .u8 (0), .int .u8 (0), .int .u8 (0), .int .u8 (0), .int .u8 (0), .int .u8 (0), .int .u8 (0), .int .u8 (0), .int .u8 (0), .int .u8 (0), .int .u8 (0), .int .u8 (0), .int .u8 (0), .int .u8 (0), .int .u8 (0), .int .u8 (0), .int .u8 (0), .int .u8 (0), .int .u8 (0), .int .u8 (0), .int .u8 (0), .int .u8 (0), .int .u8 (0), .int .u8 (0), .int .u8 (0), .int .u8 (0), .int .u8 (0), .int .u8 (0), .int .u8 (0), .int .u8 (0), .int .u8 (0), .int .u8 (0), .int .u8 (0), .int .u8 (0), .int .u8 (0), .int .u8 (0), .int .u8 (0), .int .u8 (0), .int .u8 (0), .int .u8 (0), .int .u8 (0), .int .u8 (0), .int .u8 (0), .int .u8 (0), .int .u8 (0), .int .u8 (0), .int .u8 (0), .int .u8 (0), .int .u8 (0), .int .u8 (0)]⟩),
  (299, ⟨(.struct [(0, 5), (1, 5)]), 2, 2, [.int .u8 (0), .int .u8 (0)]⟩),
  (300, ⟨(.struct [(0, 5), (1, 5)]), 2, 2, [.int .u8 (0), .int .u8 (0)]⟩),
  (301, ⟨(.array 16 300), 32, 32, [.int .u8 (0), .int .u8 (0), .int .u8 (0), .int .u8 (0), .int .u8 (0), .int .u8 (0), .int .u8 (0), .int .u8 (0), .int .u8 (0), .int .u8 (0), .int .u8 (0), .int .u8 (0), .int .u8 (0), .int .u8 (0), .int .u8 (0), .int .u8 (0), .int .u8 (0), .int .u8 (0), .int .u8 (0), .int .u8 (0), .int .u8 (0), .int .u8 (0), .int .u8 (0), .int .u8 (0), .int .u8 (0), .int .u8 (0), .int .u8 (0), .int .u8 (0), .int .u8 (0), .int .u8 (0), .int .u8 (0), .int .u8 (0)]⟩),
  (302, ⟨(.pointer 266), 1, 8, [.nilp]⟩),
  (303, ⟨.func, 1, 8, [.nilf]⟩),
  (305, ⟨.func, 1, 8, [.nilf]⟩),
  (306, ⟨(.array 24 5), 24, 24, [.int .u8 (0), .int .u8 (0), .int .u8 (0), .int .u8 (0), .int .u8 (0), .int .u8 (0), .int .u8 (0), .int .u8 (0), .int .u8 (0), .int .u8 (0), .int .u8 (0), .int .u8 (0), .int .u8 (0), .int .u8 (0), .int .u8 (0), .int .u8 (0), .int .u8 (0), .int .u8 (0), .int .u8 (0), .int .u8 (0), .int .u8 (0), .int .u8 (0), .int .u8 (0), .int .u8 (0)]⟩),
  (307, ⟨.func, 1, 8, [.nilf]⟩),
  (309, ⟨.func, 1, 8, [.nilf]⟩),
  (310, ⟨.func, 1, 8, [.nilf]⟩),
  (311, ⟨(.int .u64), 1, 8, [.int .u64 (0)]⟩),
  (312, ⟨.func, 1, 8, [.nilf]⟩),
  (313, ⟨.func, 1, 8, [.nilf]⟩),
  (315, ⟨.func, 1, 8, [.nilf]⟩),
  (316, ⟨.func, 1, 8, [.nilf]⟩),
  (317, ⟨.func, 1, 8, [.nilf]⟩),
  (318, ⟨.func, 1, 8, [.nilf]⟩),
  (320, ⟨.func, 1, 8, [.nilf]⟩),
  (321, ⟨.func, 1, 8, [.nilf]⟩),
  (322, ⟨.func, 1, 8, [.nilf]⟩),
  (323, ⟨.func, 1, 8, [.nilf]⟩),
  (324, ⟨.func, 1, 8, [.nilf]⟩),
  (325, ⟨(.array 20 235), 20, 160, [.int .u64 (0), .int .u64 (0), .int .u64 (0), .int .u64 (0), .int .u64 (0), .int .u64 (0), .int .u64 (0), .int .u64 (0), .int .u64 (0), .int .u64 (0), .int .u64 (0), .int .u64 (0), .int .u64 (0), .int .u64 (0), .int .u64 (0), .int .u64 (0), .int .u64 (0), .int .u64 (0), .int .u64 (0), .int .u64 (0)]⟩),
  (326, ⟨(.array 65 5), 65, 65, [.int .u8 (0), .int .u8 (0), .int .u8 (0), .int .u8 (0), .int .u8 (0), .int .u8 (0), .int .u8 (0), .int .u8 (0), .int .u8 (0), .int .u8 (0), .int .u8 (0), .int .u8 (0), .int .u8 (0), .int .u8 (0), .int .u8 (0), .int .u8 (0), .int .u8 (0), .int .u8 (0), .int .u8 (0), .int .u8 (0), .int .u8 (0), .int .u8 (0), .int .u8 (0), .int .u8 (0), .int .u8 (0), .int .u8 (0), .int .u8 (0), .int .u8 (0), .int .u8 (0), .int .u8 (0), .int .u8 (0), .int .u8 (0), .int .u8 (0), .int .u8 (0), .int .u8 (0), .int .u8 (0), .int .u8 (0), .int .u8 (0), .int .u8 (0), .int .u8 (0), .int .u8 (0), .int .u8 (0), .int .u8 (0), .int .u8 (0), .int .u8 (0), .int .u8 (0), .int .u8 (0), .int .u8 (0), .int .u8 (0), .int .u8 (0), .int .u8 (0), .int .u8 (0), .int .u8 (0), .int .u8 (0), .int .u8 (0), .int .u8 (0), .int .u8 (0), .int .u8 (0), .int .u8 (0), .int .u8 (0), .int .u8 (0), .int .u8 (0), .int .u8 (0), .int .u8 (0), .int .u8 (0)]⟩),
  (327, ⟨.func, 1, 8, [.nilf]⟩),
  (328, ⟨(.array 9 98), 18, 144, [.int .i64 (0), .int .i64 (0), .int .i64 (0), .int .i64 (0), .int .i64 (0), .int .i64 (0), .int .i64 (0), .int .i64 (0), .int .i64 (0), .int .i64 (0), .int .i64 (0), .int .i64 (0), .int .i64 (0), .int .i64 (0), .int .i64 (0), .int .i64 (0), .int .i64 (0), .int .i64 (0)]⟩),
  (329, ⟨(.array 9 98), 18, 144, [.int .i64 (0), .int .i64 (0), .int .i64 (0), .int .i64 (0), .int .i64 (0), .int .i64 (0), .int .i64 (0), .int .i64 (0), .int .i64 (0), .int .i64 (0), .int .i64 (0), .int .i64 (0), .int .i64 (0), .int .i64 (0), .int .i64 (0), .int .i64 (0), .int .i64 (0), .int .i64 (0)]⟩),
  (330, ⟨(.map 9 329), 1, 8, [.nilm]⟩),
  (331, ⟨.func, 1, 8, [.nilf]⟩),
  (332, ⟨.func, 1, 8, [.nilf]⟩),
  (333, ⟨.func, 1, 8, [.nilf]⟩),
  (334, ⟨.func, 1, 8, [.nilf]⟩),
  (335, ⟨(.pointer 311), 1, 8, [.nilp]⟩),
  (336, ⟨.func, 1, 8, [.nilf]⟩),
  (337, ⟨.func, 1, 8, [.nilf]⟩),
  (338, ⟨(.map 5 9), 1, 8, [.nilm]⟩),
  (339, ⟨.func, 1, 8, [.nilf]⟩),
  (340, ⟨.func, 1, 8, [.nilf]⟩),
  (341, ⟨(.array 32 5), 32, 32, [.int .u8 (0), .int .u8 (0), .int .u8 (0), .int .u8 (0), .int .u8 (0), .int .u8 (0), .int .u8 (0), .int .u8 (0), .int .u8 (0), .int .u8 (0), .int .u8 (0), .int .u8 (0), .int .u8 (0), .int .u8 (0), .int .u8 (0), .int .u8 (0), .int .u8 (0), .int .u8 (0), .int .u8 (0), .int .u8 (0), .int .u8 (0), .int .u8 (0), .int .u8 (0), .int .u8 (0), .int .u8 (0), .int .u8 (0), .int .u8 (0), .int .u8 (0), .int .u8 (0), .int .u8 (0), .int .u8 (0), .int .u8 (0)]⟩),
  (342, ⟨(.array 64 5), 64, 64, [.int .u8 (0), .int .u8 (0), .int .u8 (0), .int .u8 (0), .int .u8 (0), .int .u8 (0), .int .u8 (0), .int .u8 (0), .int .u8 (0), .int .u8 (0), .int .u8 (0), .int .u8 (0), .int .u8 (0), .int .u8 (0), .int .u8 (0), .int .u8 (0), .int .u8 (0), .int .u8 (0), .int .u8 (0), .int .u8 (0), .int .u8 (0), .int .u8 (0), .int .u8 (0), .int .u8 (0), .int .u8 (0), .int .u8 (0), .int .u8 (0), .int .u8 (0), .int .u8 (0), .int .u8 (0), .int .u8 (0), .int .u8 (0), .int .u8 (0), .int .u8 (0), .int .u8 (0), .int .u8 (0), .int .u8 (0), .int .u8 (0), .int .u8 (0), .int .u8 (0), .int .u8 (0), .int .u8 (0), .int .u8 (0), .int .u8 (0), .int .u8 (0), .int .u8 (0), .int .u8 (0), .int .u8 (0), .int .u8 (0), .int .u8 (0), .int .u8 (0), .int .u8 (0), .int .u8 (0), .int .u8 (0), .int .u8 (0), .int .u8 (0), .int .u8 (0), .int .u8 (0), .int .u8 (0), .int .u8 (0), .int .u8 (0), .int .u8 (0), .int .u8 (0), .int .u8 (0)]⟩),
  (343, ⟨.func, 1, 8, [.nilf]⟩),
  (344, ⟨.func, 1, 8, [.nilf]⟩),
  (345, ⟨.func, 1, 8, [.nilf]⟩),
  (346, ⟨.func, 1, 8, [.nilf]⟩),
  (347, ⟨.func, 1, 8, [.nilf]⟩),
  (348, ⟨.func, 1, 8, [.nilf]⟩),
  (349, ⟨.func, 1, 8, [.nilf]⟩),
  (350, ⟨.func, 1, 8, [.nilf]⟩),
  (351, ⟨.func, 1, 8, [.nilf]⟩),
  (352, ⟨.func, 1, 8, [.nilf]⟩),
  (353, ⟨.func, 1, 8, [.nilf]⟩),
  (354, ⟨.func, 1, 8, [.nilf]⟩),
  (355, ⟨.func, 1, 8, [.nilf]⟩),
  (357, ⟨.func, 1, 8, [.nilf]⟩),
  (358, ⟨(.slice 365), 1, 24, [.nils]⟩),
  (359, ⟨(.pointer 365), 1, 8, [.nilp]⟩),
  (360, ⟨.func, 1, 8, [.nilf]⟩),
  (361, ⟨.func, 1, 8, [.nilf]⟩),
  (362, ⟨(.array 3 21), 3, 12, [.int .i32 (0), .int .i32 (0), .int .i32 (0)]⟩),
  (363, ⟨(.array 3 21), 3, 12, [.int .i32 (0), .int .i32 (0), .int .i32 (0)]⟩),
  (364, ⟨(.struct [(0, 233), (1, 233), (2, 363)]), 5, 20, [.int .u32 (0), .int .u32 (0), .int .i32 (0), .int .i32 (0), .int .i32 (0)]⟩),
  (365, ⟨(.struct [(0, 233), (1, 233), (2, 363)]), 5, 20, [.int .u32 (0), .int .u32 (0), .int .i32 (0), .int .i32 (0), .int .i32 (0)]⟩),
  (366, ⟨(.struct [(0, 17), (1, 17), (2, 17), (3, 9)]), 4, 40, [.nilp, .nilp, .nilp, .str []]⟩),
  (367, ⟨(.struct [(0, 17), (1, 17), (2, 17), (3, 9)]), 4, 40, [.nilp, .nilp, .nilp, .str []]⟩),
  (368, ⟨(.array 0 16), 0, 0, []⟩),
  (369, ⟨(.struct [(0, 368)]), 0, 0, []⟩),
  (370, ⟨(.struct [(0, 368)]), 0, 0, []⟩),
  (371, ⟨(.int .u8), 1, 1, [.int .u8 (0)]⟩),
  (372, ⟨(.int .u8), 1, 1, [.int .u8 (0)]⟩),
  (373, ⟨.func, 1, 8, [.nilf]⟩),
  (374, ⟨(.int .i32), 1, 4, [.int .i32 (0)]⟩),
  (375, ⟨(.int .i32), 1, 4, [.int .i32 (0)]⟩),
  (376, ⟨(.struct [(0, 12), (1, 12), (2, 233), (3, 371), (4, 5), (5, 5), (6, 372), (7, 373), (8, 224), (9, 374), (10, 375)]), 11, 48, [.int .u64 (0), .int .u64 (0), .int .u32 (0), .int .u8 (0), .int .u8 (0), .int .u8 (0), .int .u8 (0), .nilf, .nilp, .int .i32 (0), .int .i32 (0)]⟩),
  (377, ⟨(.struct [(0, 12), (1, 12), (2, 233), (3, 371), (4, 5), (5, 5), (6, 372), (7, 373), (8, 224), (9, 374), (10, 375)]), 11, 48, [.int .u64 (0), .int .u64 (0), .int .u32 (0), .int .u8 (0), .int .u8 (0), .int .u8 (0), .int .u8 (0), .nilf, .nilp, .int .i32 (0), .int .i32 (0)]⟩),
  (378, ⟨(.struct [(0, 9), (1, 372)]), 2, 24, [.str [], .int .u8 (0)]⟩),
  (379, ⟨(.struct [(0, 9), (1, 372)]), 2, 24, [.str [], .int .u8 (0)]⟩)]
theorem okL : LayOk Tryz.prog L := LayOk.of_check (by kernel_rfl)
theorem hmix : Tryz.prog.follows .mixedOrders = true := by kernel_rfl
end Go.Proofs.YtpopmiodjibljaaGreatDoor


namespace Go.Abs
open Go
abbrev i64 (n : Int) : A := .int .i64 n
inductive Pat where
  | mk (op n min max : Int) (name : List UInt8) (set : List (Int × Int)) (l : List Pat)
  deriving Inhabited
namespace Pat
def op : Pat → Int | .mk a _ _ _ _ _ _ => a
def n : Pat → Int | .mk _ a _ _ _ _ _ => a
def min : Pat → Int | .mk _ _ a _ _ _ _ => a
def max : Pat → Int | .mk _ _ _ a _ _ _ => a
def name : Pat → List UInt8 | .mk _ _ _ _ a _ _ => a
def set : Pat → List (Int × Int) | .mk _ _ _ _ _ a _ => a
def l : Pat → List Pat | .mk _ _ _ _ _ _ a => a
end Pat
def spanC (s : Int × Int) : List A := [i64 s.1, i64 s.2]
mutual
def Pat.cells : Pat → List A
  | .mk op n mn mx nm st l => [i64 op, i64 n, i64 mn, i64 mx, .str nm, .ds (st.map spanC), .ds (Pat.cellsL l)]
def Pat.cellsL : List Pat → List (List A)
  | [] => []
  | x :: l => x.cells :: Pat.cellsL l
end
theorem Pat.cellsL_eq (l : List Pat) : Pat.cellsL l = l.map Pat.cells := by
  induction l with
  | nil => rfl
  | cons x l ih => simp [Pat.cellsL, ih]
/-- A pattern's cells, laid open. -/
def Pat.C (x : Pat) : List A := [i64 x.op, i64 x.n, i64 x.min, i64 x.max, .str x.name, .ds (x.set.map spanC), .ds (x.l.map Pat.cells)]
theorem Pat.cells_eq (x : Pat) : x.cells = x.C := by
  cases x; simp [Pat.cells, Pat.C, Pat.cellsL_eq, Pat.op, Pat.n, Pat.min, Pat.max, Pat.name, Pat.set, Pat.l]
theorem Pat.ind {M : Pat → Prop} (h : ∀ x : Pat, (∀ y ∈ x.l, M y) → M x) (x : Pat) : M x :=
  Pat.rec (motive_1 := M) (motive_2 := fun l => ∀ y ∈ l, M y) (fun op n mn mx nm st l ih => h (.mk op n mn mx nm st l) ih) (fun y hy => by cases hy) (fun a l ha hl y hy => by
    rcases List.mem_cons.1 hy with rfl | hy
    · exact ha
    · exact hl y hy) x
theorem getC {l : List Pat} {k : Nat} {y : Pat} (h : l[k]? = some y) : (l.map Pat.cells)[((k : Nat) : Int).toNat]? = some y.C := by simp [h, Pat.cells_eq]
theorem getS {l : List (Int × Int)} {k : Nat} {y : Int × Int} (h : l[k]? = some y) : (l.map spanC)[((k : Nat) : Int).toNat]? = some (spanC y) := by simp [h]
theorem drop_get {α : Type} {l : List α} {k : Nat} {y : α} (h : l[k]? = some y) : l.drop k = y :: l.drop (k + 1) := by
  obtain ⟨hk, rfl⟩ := List.getElem?_eq_some_iff.1 h
  exact List.drop_eq_getElem_cons hk
end Go.Abs


namespace Go.Abs
open Go
set_option linter.unusedVariables false
/-! Spans: canonical lists and what they hold. -/
/-- Spans ascend from a number on, none touching another one. -/
def rowM : Int → List (Int × Int) → Bool
  | _, [] => true
  | nx, x :: l => !(decide (x.1 < nx) || decide (x.2 < x.1) || decide (x.2 > 1114111)) && rowM (x.2 + 2) l
theorem rowM_step {nx : Int} {x : Int × Int} {l : List (Int × Int)} (h : rowM nx (x :: l) = true) : nx ≤ x.1 ∧ x.1 ≤ x.2 ∧ x.2 ≤ 1114111 ∧ rowM (x.2 + 2) l = true := by
  simp only [rowM, Bool.and_eq_true, Bool.not_eq_true', Bool.or_eq_false_iff, decide_eq_false_iff_not] at h
  exact ⟨by omega, by omega, by omega, h.2⟩
theorem rowM_cons {nx : Int} {x : Int × Int} {l : List (Int × Int)} (h : nx ≤ x.1 ∧ x.1 ≤ x.2 ∧ x.2 ≤ 1114111 ∧ rowM (x.2 + 2) l = true) : rowM nx (x :: l) = true := by
  simp only [rowM, Bool.and_eq_true, Bool.not_eq_true', Bool.or_eq_false_iff, decide_eq_false_iff_not]
  exact ⟨⟨⟨by omega, by omega⟩, by omega⟩, h.2.2.2⟩
theorem rowM_mono {a b : Int} : ∀ {l : List (Int × Int)}, rowM a l = true → b ≤ a → rowM b l = true
  | [], _, _ => rfl
  | x :: l, h, hb => by have := rowM_step h; exact rowM_cons ⟨by omega, this.2⟩
def inS (x : Int × Int) (n : Int) : Bool := decide (x.1 ≤ n) && decide (n ≤ x.2)
def inM (l : List (Int × Int)) (n : Int) : Bool := l.any fun x => inS x n
theorem inM_cons (x : Int × Int) (l : List (Int × Int)) (n : Int) : inM (x :: l) n = (inS x n || inM l n) := rfl
theorem inM_nil (n : Int) : inM [] n = false := rfl
theorem inS_iff (x : Int × Int) (n : Int) : inS x n = true ↔ x.1 ≤ n ∧ n ≤ x.2 := by simp [inS]
theorem rowM_lb {n : Int} : ∀ {l : List (Int × Int)} {nx : Int}, rowM nx l = true → inM l n = true → nx ≤ n ∧ n ≤ 1114111
  | [], nx, _, h => by cases h
  | x :: l, nx, h, hn => by
    obtain ⟨h1, h2, h3, h4⟩ := rowM_step h
    rw [inM_cons, Bool.or_eq_true] at hn
    rcases hn with hn | hn
    · rw [inS_iff] at hn; omega
    · have := rowM_lb h4 hn; omega
theorem inM_low {n nx : Int} {l : List (Int × Int)} (h : rowM nx l = true) (hn : n < nx) : inM l n = false := by
  cases e : inM l n with
  | false => rfl
  | true => have := rowM_lb h e; omega
theorem canon : ∀ {l1 l2 : List (Int × Int)} {nx : Int}, rowM nx l1 = true → rowM nx l2 = true → (∀ n, inM l1 n = inM l2 n) → l1 = l2
  | [], [], _, _, _, _ => rfl
  | [], y :: t, nx, h1, h2, h => by
    have a := rowM_step h2
    have := h y.1
    rw [inM_cons, (inS_iff y y.1).2 ⟨Int.le_refl _, a.2.1⟩] at this
    cases this
  | x :: t, [], nx, h1, h2, h => by
    have a := rowM_step h1
    have := h x.1
    rw [inM_cons, (inS_iff x x.1).2 ⟨Int.le_refl _, a.2.1⟩] at this
    cases this
  | x :: t1, y :: t2, nx, h1, h2, h => by
    have a := rowM_step h1
    have b := rowM_step h2
    have xin : inM (x :: t1) x.1 = true := by rw [inM_cons, (inS_iff x x.1).2 ⟨Int.le_refl _, a.2.1⟩]; rfl
    have yin : inM (y :: t2) y.1 = true := by rw [inM_cons, (inS_iff y y.1).2 ⟨Int.le_refl _, b.2.1⟩]; rfl
    have e1 : x.1 = y.1 := by
      have p := rowM_lb (rowM_cons (nx := y.1) ⟨Int.le_refl _, b.2⟩) ((h x.1).symm.trans xin)
      have q := rowM_lb (rowM_cons (nx := x.1) ⟨Int.le_refl _, a.2⟩) ((h y.1).trans yin)
      omega
    have e2 : x.2 = y.2 := by
      rcases Int.lt_trichotomy x.2 y.2 with hl | hl | hl
      · have p : inM (y :: t2) (x.2 + 1) = true := by rw [inM_cons, (inS_iff y (x.2 + 1)).2 ⟨by omega, by omega⟩]; rfl
        rw [← h (x.2 + 1), inM_cons, Bool.or_eq_true, inS_iff] at p
        rcases p with p | p
        · omega
        · have := rowM_lb a.2.2.2 p; omega
      · exact hl
      · have p : inM (x :: t1) (y.2 + 1) = true := by rw [inM_cons, (inS_iff x (y.2 + 1)).2 ⟨by omega, by omega⟩]; rfl
        rw [h (y.2 + 1), inM_cons, Bool.or_eq_true, inS_iff] at p
        rcases p with p | p
        · omega
        · have := rowM_lb b.2.2.2 p; omega
    have e : x = y := Prod.ext e1 e2
    subst e
    have := canon a.2.2.2 b.2.2.2 fun n => by
      by_cases hn : n < x.2 + 2
      · rw [inM_low a.2.2.2 hn, inM_low b.2.2.2 hn]
      · have := h n
        rw [inM_cons, inM_cons] at this
        have hx : inS x n = false := by
          cases e : inS x n with
          | false => rfl
          | true => rw [inS_iff] at e; omega
        rw [hx] at this
        exact this
    rw [this]
/-! Joining what is sorted. -/
def mergeF (y : Int × Int) : List (Int × Int) → List (Int × Int)
  | [] => [y]
  | x :: l => if x.1 ≤ y.2 + 1 then mergeF (y.1, max y.2 x.2) l else y :: mergeF x l
def joinM : List (Int × Int) → List (Int × Int)
  | [] => []
  | x :: l => mergeF x l
def okS' (x : Int × Int) : Prop := x.1 ≤ x.2 ∧ x.2 ≤ 1114111
def asc (l : List (Int × Int)) : Prop := l.Pairwise fun x y => x.1 ≤ y.1
theorem mergeF_row : ∀ {l : List (Int × Int)} {y : Int × Int} {nx : Int}, nx ≤ y.1 → okS' y → (∀ x ∈ l, okS' x) → asc (y :: l) → rowM nx (mergeF y l) = true
  | [], y, nx, h, hy, _, _ => rowM_cons ⟨h, hy.1, hy.2, rfl⟩
  | x :: l, y, nx, h, hy, hl, hs => by
    have hx := hl x List.mem_cons_self
    unfold okS' at hx hy
    obtain ⟨hs1, hs2⟩ := List.pairwise_cons.1 hs
    have h1 := hs1 x List.mem_cons_self
    simp only [mergeF]
    split
    · refine mergeF_row (by exact h) ⟨by simp only; omega, by simp only; omega⟩ (fun z hz => hl z (List.mem_cons_of_mem _ hz)) (List.pairwise_cons.2 ⟨fun z hz => hs1 z (List.mem_cons_of_mem _ hz), (List.pairwise_cons.1 hs2).2⟩)
    · exact rowM_cons ⟨h, hy.1, hy.2, mergeF_row (by omega) hx (fun z hz => hl z (List.mem_cons_of_mem _ hz)) hs2⟩
theorem mergeF_in (n : Int) : ∀ {l : List (Int × Int)} {y : Int × Int}, okS' y → (∀ x ∈ l, okS' x) → asc (y :: l) → inM (mergeF y l) n = (inS y n || inM l n)
  | [], y, _, _, _ => by simp [mergeF, inM]
  | x :: l, y, hy, hl, hs => by
    have hx := hl x List.mem_cons_self
    unfold okS' at hx hy
    obtain ⟨hs1, hs2⟩ := List.pairwise_cons.1 hs
    have h1 := hs1 x List.mem_cons_self
    simp only [mergeF]
    split
    · rename_i hc
      rw [mergeF_in n (y := (y.1, max y.2 x.2)) ⟨by simp only; omega, by simp only; omega⟩ (fun z hz => hl z (List.mem_cons_of_mem _ hz)) (List.pairwise_cons.2 ⟨fun z hz => hs1 z (List.mem_cons_of_mem _ hz), (List.pairwise_cons.1 hs2).2⟩), inM_cons, ← Bool.or_assoc]
      congr 1
      rw [Bool.eq_iff_iff, Bool.or_eq_true, inS_iff, inS_iff, inS_iff]
      simp only
      omega
    · rw [inM_cons, mergeF_in n hx (fun z hz => hl z (List.mem_cons_of_mem _ hz)) hs2, inM_cons]
theorem joinM_row {l : List (Int × Int)} (hl : ∀ x ∈ l, 0 ≤ x.1 ∧ okS' x) (hs : asc l) : rowM 0 (joinM l) = true := by
  cases l with
  | nil => rfl
  | cons x l => exact mergeF_row (hl x List.mem_cons_self).1 (hl x List.mem_cons_self).2 (fun z hz => (hl z (List.mem_cons_of_mem _ hz)).2) hs
theorem joinM_in {l : List (Int × Int)} (hl : ∀ x ∈ l, okS' x) (hs : asc l) (n : Int) : inM (joinM l) n = inM l n := by
  cases l with
  | nil => rfl
  | cons x l => exact mergeF_in n (hl x List.mem_cons_self) (fun z hz => hl z (List.mem_cons_of_mem _ hz)) hs
theorem inM_perm {l l' : List (Int × Int)} (h : l.Perm l') (n : Int) : inM l n = inM l' n := by
  rw [Bool.eq_iff_iff]
  simp only [inM, List.any_eq_true]
  exact ⟨fun ⟨x, hx, hn⟩ => ⟨x, h.mem_iff.1 hx, hn⟩, fun ⟨x, hx, hn⟩ => ⟨x, h.mem_iff.2 hx, hn⟩⟩
theorem inM_append (a b : List (Int × Int)) (n : Int) : inM (a ++ b) n = (inM a n || inM b n) := by simp [inM]
theorem rowM_ok : ∀ {l : List (Int × Int)} {nx : Int}, rowM nx l = true → ∀ x ∈ l, nx ≤ x.1 ∧ okS' x
  | [], _, _, x, hx => by cases hx
  | y :: l, nx, h, x, hx => by
    have a := rowM_step h
    rcases List.mem_cons.1 hx with rfl | hx
    · exact ⟨a.1, a.2.1, a.2.2.1⟩
    · have := rowM_ok a.2.2.2 x hx
      exact ⟨by omega, this.2⟩
/-! All others. -/
def otherM : Int → List (Int × Int) → List (Int × Int)
  | nx, [] => if nx ≤ 1114111 then [(nx, 1114111)] else []
  | nx, x :: l => (if x.1 > nx then [(nx, x.1 - 1)] else []) ++ otherM (x.2 + 1) l
theorem otherM_row : ∀ {l : List (Int × Int)} {nx : Int}, rowM nx l = true → rowM nx (otherM nx l) = true
  | [], nx, _ => by
    simp only [otherM]
    split
    · exact rowM_cons ⟨Int.le_refl _, by simp only; omega, by simp only; omega, rfl⟩
    · rfl
  | x :: l, nx, h => by
    have a := rowM_step h
    have ih := otherM_row (rowM_mono (b := x.2 + 1) a.2.2.2 (by omega))
    simp only [otherM]
    split
    · exact rowM_cons ⟨Int.le_refl _, by simp only; omega, by simp only; omega, rowM_mono ih (by simp only; omega)⟩
    · exact rowM_mono ih (by omega)
theorem otherM_in (n : Int) : ∀ {l : List (Int × Int)} {nx : Int}, rowM nx l = true → inM (otherM nx l) n = (decide (nx ≤ n) && decide (n ≤ 1114111) && !inM l n)
  | [], nx, _ => by
    simp only [otherM]
    split
    · simp [inM, inS]
    · have : ¬ (nx ≤ n ∧ n ≤ 1114111) := by omega
      rw [inM_nil, Bool.eq_iff_iff]
      simp [inM]; omega
  | x :: l, nx, h => by
    have a := rowM_step h
    have hr := rowM_mono (b := x.2 + 1) a.2.2.2 (by omega)
    have ih := otherM_in n hr
    have hlo : n < x.2 + 1 → inM l n = false := fun hn => inM_low hr hn
    simp only [otherM]
    rw [inM_append, ih, inM_cons]
    rw [Bool.eq_iff_iff]
    cases hi : inM l n with
    | true =>
      have := rowM_lb a.2.2.2 hi
      split <;> simp [inM, inS] <;> omega
    | false =>
      split <;> simp [inM, inS] <;> omega
end Go.Abs


namespace Go.Abs
open Go
set_option linter.unusedVariables false
/-! The reference's way: elementary pieces between borders. -/
def wantB (want : Int) (x y : Bool) : Bool := !((decide (want = 0) && (x || y)) || (decide (want = 1) && (!x && !y)) || (decide (want = 2) && (!x || !y)))
def takes (a b : List (Int × Int)) (want p q : Int) : Bool := !(decide (p > q) || decide (p > 1114111)) && wantB want (inM a p) (inM b p)
def segs (a b : List (Int × Int)) (want : Int) : List Int → List (Int × Int)
  | p :: q :: s => (if takes a b want p (q - 1) = true then [(p, q - 1)] else []) ++ segs a b want (q :: s)
  | _ => []
def borders (a b : List (Int × Int)) : List Int := [0, 1114112] ++ a.flatMap (fun x => [x.1, x.2 + 1]) ++ b.flatMap (fun x => [x.1, x.2 + 1])
section
variable {a b : List (Int × Int)} {want : Int}
def ascN (s : List Int) : Prop := s.Pairwise (· ≤ ·)
theorem segs_lo : ∀ {s : List Int} {p : Int}, ascN (p :: s) → ∀ x ∈ segs a b want (p :: s), p ≤ x.1
  | [], p, _, x, hx => by simp [segs] at hx
  | q :: s, p, hs, x, hx => by
    obtain ⟨h1, h2⟩ := List.pairwise_cons.1 hs
    have hpq := h1 q List.mem_cons_self
    simp only [segs] at hx
    rcases List.mem_append.1 hx with hx | hx
    · split at hx
      · rw [List.mem_singleton.1 hx]; exact Int.le_refl _
      · cases hx
    · have := segs_lo h2 x hx; omega
theorem segs_in (n : Int) (hn : n ≤ 1114111) : ∀ {s : List Int} {p : Int}, ascN (p :: s) → p ≤ n → (∃ t ∈ p :: s, n < t) →
    (∀ p' ∈ p :: s, p' ≤ n → (∀ t ∈ p :: s, t ≤ p' ∨ n < t) → wantB want (inM a p') (inM b p') = wantB want (inM a n) (inM b n)) →
    inM (segs a b want (p :: s)) n = wantB want (inM a n) (inM b n)
  | [], p, _, hp, ⟨t, ht, hlt⟩, _ => by rw [List.mem_singleton.1 ht] at hlt; omega
  | q :: s, p, hs, hp, ht, hc => by
    obtain ⟨h1, h2⟩ := List.pairwise_cons.1 hs
    have hpq := h1 q List.mem_cons_self
    simp only [segs]
    rw [inM_append]
    by_cases hq : n < q
    · have hrest : inM (segs a b want (q :: s)) n = false := by
        cases e : inM (segs a b want (q :: s)) n with
        | false => rfl
        | true =>
          simp only [inM, List.any_eq_true] at e
          obtain ⟨x, hx, hxn⟩ := e
          have := segs_lo h2 x hx
          rw [inS_iff] at hxn
          omega
      have hw := hc p List.mem_cons_self hp fun t ht => by
        rcases List.mem_cons.1 ht with rfl | ht
        · exact .inl (Int.le_refl _)
        · rcases List.mem_cons.1 ht with rfl | ht
          · exact .inr hq
          · have := (List.pairwise_cons.1 h2).1 t ht
            exact .inr (by omega)
      rw [hrest, Bool.or_false, ← hw]
      have ht : takes a b want p (q - 1) = wantB want (inM a p) (inM b p) := by
        unfold takes
        have e1 : decide (p > q - 1) = false := decide_eq_false (by omega)
        have e2 : decide (p > 1114111) = false := decide_eq_false (by omega)
        rw [e1, e2]; rfl
      rw [ht]
      cases hw2 : wantB want (inM a p) (inM b p) with
      | true =>
        rw [if_pos rfl]
        rw [inM_cons, (inS_iff (p, q - 1) n).2 ⟨hp, by simp only; omega⟩]; rfl
      | false => rfl
    · have hfirst : inM (if takes a b want p (q - 1) = true then [(p, q - 1)] else []) n = false := by
        split
        · rw [inM_cons, inM_nil, Bool.or_false]
          cases e : inS (p, q - 1) n with
          | false => rfl
          | true => rw [inS_iff] at e; simp only at e; omega
        · rfl
      rw [hfirst, Bool.false_or]
      refine segs_in n hn h2 (by omega) ?_ fun p' hp' hle hall => hc p' (List.mem_cons_of_mem _ hp') hle fun t ht => ?_
      · obtain ⟨t, ht, hlt⟩ := ht
        rcases List.mem_cons.1 ht with rfl | ht
        · omega
        · exact ⟨t, ht, hlt⟩
      · rcases List.mem_cons.1 ht with rfl | ht
        · rcases List.mem_cons.1 hp' with rfl | hp'
          · exact .inl hpq
          · have := (List.pairwise_cons.1 h2).1 p' hp'; exact .inl (by omega)
        · exact hall t ht
theorem borders_const {p n : Int} (hp : p ≤ n) : ∀ {a : List (Int × Int)}, (∀ t ∈ a.flatMap (fun x => [x.1, x.2 + 1]), t ≤ p ∨ n < t) → inM a p = inM a n
  | [], _ => rfl
  | x :: a, h => by
    have ih := borders_const hp (a := a) fun t ht => h t (by rw [List.flatMap_cons]; exact List.mem_append_right _ ht)
    have h1 := h x.1 (by simp)
    have h2 := h (x.2 + 1) (by simp)
    rw [inM_cons, inM_cons, ih]
    congr 1
    rw [Bool.eq_iff_iff, inS_iff, inS_iff]
    omega
theorem made_in {s : List Int} (hp : s.Perm (borders a b)) (hs : ascN s) (n : Int) (h0 : 0 ≤ n) (h1 : n ≤ 1114111) (ha : rowM 0 a = true) (hb : rowM 0 b = true) : inM (segs a b want s) n = wantB want (inM a n) (inM b n) := by
  have hz : (0 : Int) ∈ s := hp.mem_iff.2 (by simp [borders])
  have ht : (1114112 : Int) ∈ s := hp.mem_iff.2 (by simp [borders])
  cases s with
  | nil => cases hz
  | cons p s =>
    have hp0 : p ≤ 0 := by
      rcases List.mem_cons.1 hz with h | h
      · omega
      · exact (List.pairwise_cons.1 hs).1 0 h
    refine segs_in n h1 hs (by omega) ⟨_, ht, by omega⟩ fun p' hp' hle hall => ?_
    have hall' : ∀ t ∈ borders a b, t ≤ p' ∨ n < t := fun t ht => hall t (hp.mem_iff.2 ht)
    rw [borders_const hle (a := a) fun t ht => hall' t (by simp only [borders, List.mem_append]; exact .inl (.inr ht)), borders_const hle (a := b) fun t ht => hall' t (by simp only [borders, List.mem_append]; exact .inr ht)]
/-- The pieces, in order and apart. -/
theorem segs_ok : ∀ {s : List Int} {p : Int}, 0 ≤ p → ascN (p :: s) → (∀ t ∈ p :: s, t ≤ 1114112) → (∀ x ∈ segs a b want (p :: s), p ≤ x.1 ∧ okS' x) ∧ (segs a b want (p :: s)).Pairwise fun x y => x.2 < y.1
  | [], p, _, _, _ => ⟨fun x hx => by simp [segs] at hx, by simp [segs]⟩
  | q :: s, p, h0, hs, hm => by
    obtain ⟨h1, h2⟩ := List.pairwise_cons.1 hs
    have hpq := h1 q List.mem_cons_self
    obtain ⟨i1, i2⟩ := segs_ok (s := s) (p := q) (by omega) h2 fun t ht => hm t (List.mem_cons_of_mem _ ht)
    have hq := hm q (by simp)
    simp only [segs]
    split
    · rename_i ht
      unfold takes at ht
      simp only [Bool.and_eq_true, Bool.not_eq_true', Bool.or_eq_false_iff, decide_eq_false_iff_not] at ht
      refine ⟨fun x hx => ?_, ?_⟩
      · rcases List.mem_cons.1 hx with rfl | hx
        · exact ⟨Int.le_refl _, by unfold okS'; simp only; omega⟩
        · have := i1 x hx; exact ⟨by omega, this.2⟩
      · refine List.pairwise_cons.2 ⟨fun y hy => ?_, i2⟩
        have := i1 y hy
        simp only; omega
    · exact ⟨fun x hx => by have := i1 x hx; exact ⟨by omega, this.2⟩, i2⟩
theorem segs_asc {l : List (Int × Int)} (h : ∀ x ∈ l, okS' x) (hp : l.Pairwise fun x y => x.2 < y.1) : asc l := by
  induction l with
  | nil => exact List.Pairwise.nil
  | cons x l ih =>
    obtain ⟨h1, h2⟩ := List.pairwise_cons.1 hp
    refine List.pairwise_cons.2 ⟨fun y hy => ?_, ih (fun z hz => h z (List.mem_cons_of_mem _ hz)) h2⟩
    have := h1 y hy
    have := (h x List.mem_cons_self).1
    omega
/-- What the reference makes. -/
def madeL (a b : List (Int × Int)) (want : Int) (s : List Int) : List (Int × Int) := joinM (segs a b want s)
theorem made_row {s : List Int} (hp : s.Perm (borders a b)) (hs : ascN s) (ha : rowM 0 a = true) (hb : rowM 0 b = true) : rowM 0 (madeL a b want s) = true ∧ ∀ n, inM (madeL a b want s) n = (decide (0 ≤ n) && decide (n ≤ 1114111) && wantB want (inM a n) (inM b n)) := by
  have hbd : ∀ t ∈ borders a b, 0 ≤ t ∧ t ≤ 1114112 := fun t ht => by
    simp only [borders, List.mem_append, List.mem_cons, List.not_mem_nil, or_false, List.mem_flatMap] at ht
    rcases ht with ((rfl | rfl) | ⟨x, hx, rfl | rfl⟩) | ⟨x, hx, rfl | rfl⟩
    · omega
    · omega
    · have := rowM_ok ha x hx; unfold okS' at this; omega
    · have := rowM_ok ha x hx; unfold okS' at this; omega
    · have := rowM_ok hb x hx; unfold okS' at this; omega
    · have := rowM_ok hb x hx; unfold okS' at this; omega
  have hbs : ∀ t ∈ s, 0 ≤ t ∧ t ≤ 1114112 := fun t ht => hbd t (hp.mem_iff.1 ht)
  have hne : s ≠ [] := fun e => by have : (0 : Int) ∈ s := hp.mem_iff.2 (by simp [borders]); rw [e] at this; cases this
  cases s with
  | nil => exact absurd rfl hne
  | cons p s =>
    have hp0 := hbs p List.mem_cons_self
    obtain ⟨i1, i2⟩ := segs_ok (a := a) (b := b) (want := want) hp0.1 hs fun t ht => (hbs t ht).2
    have i3 := segs_asc (fun x hx => (i1 x hx).2) i2
    have hrow : rowM 0 (madeL a b want (p :: s)) = true := joinM_row (fun x hx => ⟨by have := (i1 x hx).1; omega, (i1 x hx).2⟩) i3
    refine ⟨hrow, fun n => ?_⟩
    by_cases hn : 0 ≤ n ∧ n ≤ 1114111
    · rw [madeL, joinM_in (fun x hx => (i1 x hx).2) i3, made_in hp hs n hn.1 hn.2 ha hb]
      simp [hn.1, hn.2]
    · cases e : inM (madeL a b want (p :: s)) n with
      | true => have := rowM_lb hrow e; omega
      | false =>
        have : (decide (0 ≤ n) && decide (n ≤ 1114111)) = false := by
          rw [Bool.eq_false_iff]; simp; omega
        rw [this]; rfl
theorem join_same {s : List Int} {l : List (Int × Int)} (hp : s.Perm (borders a b)) (hs : ascN s) (ha : rowM 0 a = true) (hb : rowM 0 b = true) (hl : l.Perm (a ++ b)) (hla : asc l) : joinM l = madeL a b 1 s := by
  obtain ⟨h1, h2⟩ := made_row (want := 1) hp hs ha hb
  have hok : ∀ x ∈ l, 0 ≤ x.1 ∧ okS' x := fun x hx => by
    rcases List.mem_append.1 (hl.mem_iff.1 hx) with h | h
    · exact rowM_ok ha x h
    · exact rowM_ok hb x h
  refine canon (joinM_row hok hla) h1 fun n => ?_
  rw [joinM_in (fun x hx => (hok x hx).2) hla, inM_perm hl, inM_append, h2]
  cases e : inM a n with
  | true => have := rowM_lb ha e; simp [wantB, this.1, this.2]
  | false =>
    cases e2 : inM b n with
    | true => have := rowM_lb hb e2; simp [wantB, this.1, this.2]
    | false => simp [wantB]
theorem other_same {s : List Int} (hp : s.Perm (borders a [])) (hs : ascN s) (ha : rowM 0 a = true) : otherM 0 a = madeL a [] 0 s := by
  obtain ⟨h1, h2⟩ := made_row (want := 0) hp hs ha rfl
  refine canon (otherM_row ha) h1 fun n => ?_
  rw [otherM_in n ha, h2]
  simp [wantB, inM_nil]
theorem both_same {s : List Int} {l : List (Int × Int)} (hp : s.Perm (borders a b)) (hs : ascN s) (ha : rowM 0 a = true) (hb : rowM 0 b = true) (hl : l.Perm (otherM 0 a ++ otherM 0 b)) (hla : asc l) : otherM 0 (joinM l) = madeL a b 2 s := by
  obtain ⟨h1, h2⟩ := made_row (want := 2) hp hs ha hb
  have hok : ∀ x ∈ l, 0 ≤ x.1 ∧ okS' x := fun x hx => by
    rcases List.mem_append.1 (hl.mem_iff.1 hx) with h | h
    · exact rowM_ok (otherM_row ha) x h
    · exact rowM_ok (otherM_row hb) x h
  refine canon (otherM_row (joinM_row hok hla)) h1 fun n => ?_
  rw [otherM_in n (joinM_row hok hla), joinM_in (fun x hx => (hok x hx).2) hla, inM_perm hl, inM_append, otherM_in n ha, otherM_in n hb, h2]
  by_cases hn : 0 ≤ n ∧ n ≤ 1114111
  · simp [wantB, hn.1, hn.2]
  · have e1 : inM a n = false := by
      cases e : inM a n with
      | false => rfl
      | true => have := rowM_lb ha e; omega
    have : (decide (0 ≤ n) && decide (n ≤ 1114111)) = false := by rw [Bool.eq_false_iff]; simp; omega
    rw [this]; rfl
end
end Go.Abs


namespace Go.Proofs.YtpopmiodjibljaaGreatDoor
open Go Go.Abs
set_option linter.unusedVariables false
theorem ag {N : NN} {Q : Exit → Env → Heap → Prop} {H : Heap} (n : Nat) {f f' : Foc} {k k' : List Fr} {T T' : Env} (h : stN L N true n f k T = some (f', k', T')) (c : AC Tryz.prog N L f' k' Q T' H) : AC Tryz.prog N L f k Q T H := AC.g n okL h c
section
variable {N : NN} {Q : Exit → Env → Heap → Prop} {H : Heap} {T : Env} {k : List Fr}
theorem ae {c : Code} (h : AC Tryz.prog N L (.code c) k Q T H) : AWp Tryz.prog N c (kQ Tryz.prog N k Q) T H := h.out
theorem ae0 {c : Code} (h : AC Tryz.prog N L (.code c) [] Q T H) : AWp Tryz.prog N c Q T H := h.out
theorem ab {all rest : List Oper} (h : AC Tryz.prog N L (.ops all rest) k Q T H) : AOps Tryz.prog N all rest (kQ Tryz.prog N k Q) T H := h.out
theorem ab0 {all rest : List Oper} (h : AC Tryz.prog N L (.ops all rest) [] Q T H) : AOps Tryz.prog N all rest Q T H := h.out
theorem ap {ops : Array Oper} {rest : List Oper} (h : AC Tryz.prog N L (.pl ops rest) k Q T H) : Pl Tryz.prog N L ops (kQ Tryz.prog N k Q .normal) rest T H := h.out
theorem ax {e : Exit} (h : AC Tryz.prog N L (.ex e) k Q T H) : kQ Tryz.prog N k Q e T H := h.out
end
def w64 (n : Int) : Int := IntKind.i64.wrap n
theorem w64_id {n : Int} (h1 : -9223372036854775808 ≤ n) (h2 : n ≤ 9223372036854775807) : w64 n = n := wrap64_id h1 h2
theorem wr_id {n : Int} (h : -9223372036854775808 ≤ n ∧ n ≤ 9223372036854775807) : IntKind.i64.wrap n = n := wrap64_id h.1 h.2
theorem take_succ_get {α : Type} {l : List α} {k : Nat} {y : α} (h : l[k]? = some y) : l.take (k + 1) = l.take k ++ [y] := by rw [List.take_add_one, h]; rfl
theorem get_bt {s : List UInt8} {i : Nat} (h : i < s.length) : s[((i : Nat) : Int).toNat]? = some (s.getD i 0) := by
  simp [List.getD_eq_getElem?_getD, h]
def nC (c : Nat) : List A := [i64 (c : Int)]
def zC (c : Int) : List A := [i64 c]
def sC (s : List UInt8) : List A := [.str s]
theorem snoc_ne {α : Type} {r : Nat} {l : List α} : some r = none → l = [] := fun h => by cases h
def chM (c : Int) : Bool := decide (c ≥ 0) && (decide (c ≤ 1114111) && (decide (c < 55296) || decide (c > 57343)))
theorem refIsChar_tr (c : Int) : PTr Tryz.prog 55 [i64 c] (.bool (chM c)) := by
  refine PTr.of_body (N := 18) Tryz.func55 rfl rfl rfl ?_
  refine ae0 (ag 10 rfl (AC.toOps ?_))
  refine AOps.guardCase rfl rfl rfl (fun h => ?_) (fun h => ?_)
  · refine ab (ag 4 rfl (AC.toOps ?_))
    refine AOps.guardCase rfl rfl rfl (fun h => ?_) (fun h => ?_)
    · refine ab (ag 3 rfl (AC.toOps ?_))
      refine AOps.guardCase rfl rfl rfl (fun h => ?_) (fun h => ?_)
      · refine ab (ag 9 rfl (AC.nilE ?_))
        refine bodyQ_r (ResOk.one rfl rfl) ?_; (simp_all [chM] <;> ((rw [Bool.eq_iff_iff]; simp <;> omega)))
      · refine ab (ag 9 rfl (AC.nilE ?_))
        refine bodyQ_r (ResOk.one rfl rfl) ?_; (simp_all [chM] <;> first | omega | (rw [Bool.eq_iff_iff]; simp <;> omega))
    · refine ab (ag 12 rfl (AC.nilE ?_))
      refine bodyQ_r (ResOk.one rfl rfl) ?_; (simp_all [chM] <;> (omega))
  · refine ab (ag 16 rfl (AC.nilE ?_))
    refine bodyQ_r (ResOk.one rfl rfl) ?_; (simp_all [chM] <;> (omega))
theorem charsIsChar_tr (c : Int) : PTr Tryz.prog 137 [i64 c] (.bool (chM c)) := by
  refine PTr.of_body (N := 17) Tryz.func137 rfl rfl rfl ?_
  refine ae0 (ag 10 rfl (AC.toOps ?_))
  refine AOps.guardCase rfl rfl rfl (fun h => ?_) (fun h => ?_)
  · refine ab (ag 4 rfl (AC.toOps ?_))
    refine AOps.guardCase rfl rfl rfl (fun h => ?_) (fun h => ?_)
    · refine ab (ag 3 rfl (AC.toOps ?_))
      refine AOps.guardCase rfl rfl rfl (fun h => ?_) (fun h => ?_)
      · refine ab (ag 8 rfl (AC.nilE ?_))
        refine bodyQ_r (ResOk.one rfl rfl) ?_; (simp_all [chM] <;> first | omega | (rw [Bool.eq_iff_iff]; simp <;> omega))
      · refine ab (ag 8 rfl (AC.nilE ?_))
        refine bodyQ_r (ResOk.one rfl rfl) ?_; (simp_all [chM] <;> (omega))
    · refine ab (ag 11 rfl (AC.nilE ?_))
      refine bodyQ_r (ResOk.one rfl rfl) ?_; (simp_all [chM] <;> (omega))
  · refine ab (ag 15 rfl (AC.nilE ?_))
    refine bodyQ_r (ResOk.one rfl rfl) ?_; (simp_all [chM] <;> (omega))
end Go.Proofs.YtpopmiodjibljaaGreatDoor


namespace Go.Proofs.YtpopmiodjibljaaGreatDoor
open Go Go.Abs
set_option linter.unusedVariables false

mutual
def countP : Pat → Int → Int
  | .mk _ _ _ _ nm st l, deep => if deep > 100 then 1048576 else countL l deep (IntKind.i64.wrap (IntKind.i64.wrap (1 + st.length) + nm.length))
def countL : List Pat → Int → Int → Int
  | [], _, n => n
  | y :: l, deep, n => if n < 1048576 then countL l deep (IntKind.i64.wrap (n + countP y (IntKind.i64.wrap (deep + 1)))) else n
end
theorem countP_eq (x : Pat) (deep : Int) : countP x deep = if deep > 100 then 1048576 else countL x.l deep (IntKind.i64.wrap (IntKind.i64.wrap (1 + x.set.length) + x.name.length)) := by
  cases x; simp [countP, Pat.l, Pat.set, Pat.name]

end Go.Proofs.YtpopmiodjibljaaGreatDoor


namespace Go.Proofs.YtpopmiodjibljaaGreatDoor
open Go Go.Abs
set_option linter.unusedVariables false

def mxI (a b : Int) : Int := if b > a then b else a
mutual
/-- Nodes, groups and depth of a pattern. -/
def szP : Pat → Int × Int × Int
  | .mk op _ _ _ _ _ l => let a := szL l (1, if op = 7 then 1 else 0, 0); (a.1, a.2.1, w64 (a.2.2 + 1))
def szL : List Pat → Int × Int × Int → Int × Int × Int
  | [], a => a
  | y :: l, a => szL l (w64 (a.1 + (szP y).1), w64 (a.2.1 + (szP y).2.1), mxI a.2.2 (szP y).2.2)
end
theorem szP_eq (x : Pat) : szP x = ((szL x.l (1, if x.op = 7 then 1 else 0, 0)).1, (szL x.l (1, if x.op = 7 then 1 else 0, 0)).2.1, w64 ((szL x.l (1, if x.op = 7 then 1 else 0, 0)).2.2 + 1)) := by
  cases x; rw [szP]; rfl
set_option maxRecDepth 100000 in
theorem ref12Size_tr (x : Pat) : PTr Tryz.prog 48 [.agg x.C] (.agg [i64 (szP x).1, i64 (szP x).2.2, i64 (szP x).2.1]) := by
  induction x using Pat.ind with | h x IH => _
  refine PTr.of_body (N := 47) Tryz.func48 rfl rfl rfl ?_
  refine AWp.know (t := 0) rfl (Known.agg (x := .ds (x.l.map Pat.cells)) (by simp [Pat.C]) (Known.ds _)) fun hlen => ?_
  rw [List.length_map] at hlen
  refine ae0 (ag 2 rfl (AC.pln (AOp.box rfl rfl (isVal_or rfl) rfl rfl (fun _ _ => (ab (AC.pln (AOp.alloc okL rfl rfl rfl (fun _ _ => (ab (ag 5 rfl (AC.pln (AOp.alloc okL rfl rfl rfl (fun _ _ => (ab (AC.pln (AOp.store okL rfl rfl rfl (isVal_or rfl) rfl rfl rfl .here rfl rfl rfl (ab (ag 6 rfl (AC.pln (AOp.load okL rfl (.tail _ (.tail _ (.head _))) rfl rfl rfl rfl (ab (ag 3 rfl (AC.toCode ?_)))))))))))))))))))))))
  rename_i r1 _ r2 _ r3 _
  refine AWp.join (α := Int) (fun _ => [(1, .ptr r1 7 0 0), (2, .ptr r2 3 0 0), (3, .ptr r3 3 0 0)])
    (fun g => [(r3, .row 81 3 [[i64 1, i64 0, i64 g]]), (r2, .row 81 3 [[i64 0, i64 0, i64 0]]), (r1, .row 25 7 [x.C])])
    (fun g => g = if x.op = 7 then 1 else 0) ?_ fun R K hR => ?_
  · intro g hg
    refine ae (ag 7 rfl (AC.toCode ?_))
    refine AWp.loopM (α := Nat × Int × Int × Int) (fun a => x.l.length - a.1) (fun a => [(1, .ptr r1 7 0 0), (2, .ptr r2 3 0 0), (3, .ptr r3 3 0 0), (4, i64 a.1)])
      (fun a => [(r3, .row 81 3 [[i64 a.2.1, i64 a.2.2.2, i64 a.2.2.1]]), (r2, .row 81 3 [[i64 0, i64 0, i64 0]]), (r1, .row 25 7 [x.C])])
      (fun a => a.1 ≤ x.l.length ∧ szL (x.l.drop a.1) a.2 = szL x.l (1, if x.op = 7 then 1 else 0, 0)) (0, 1, g, 0) ⟨Nat.zero_le _, by rw [← hg]; rfl⟩ ?_ (List.Perm.refl _) ?_
    · simp only [AllIn]
      refine ⟨rfl, rfl, rfl, rfl, trivial⟩
    rintro ⟨k, m⟩ ⟨hk, hm⟩ ih
    simp only at hk hm
    refine ae0 (ag 5 rfl (AC.pln (AOp.load okL rfl (.tail _ (.tail _ (.head _))) rfl rfl rfl rfl (ab (ag 4 rfl (AC.toCode ?_))))))
    (refine AWp.condCase rfl (fun h => ?_) (fun h => ?_))
    · have h := of_decide_eq_true h
      simp only [List.length_map] at h
      obtain ⟨y, hy⟩ : ∃ y, x.l[k]? = some y := ⟨x.l[k], by simp [show k < x.l.length by omega]⟩
      rw [drop_get hy, szL] at hm
      refine ae (ag 7 rfl (AC.pln (AOp.load okL rfl (.tail _ (.tail _ (.head _))) rfl rfl rfl rfl (ab (ag 1 rfl (AC.toOps ?_))))))
      (refine AOps.simple okL rfl (sOp_idxD rfl rfl rfl rfl rfl ((by omega)) (getC hy) rfl) rfl ?_)
      refine ab (ag 1 rfl (AC.pln (AOp.callP rfl rfl rfl (IH y (List.mem_of_getElem? hy)) (ab (AC.pln (AOp.alloc okL rfl rfl rfl (fun _ _ => (ab (AC.pln (AOp.store okL rfl rfl rfl (isVal_or rfl) rfl rfl rfl .here rfl rfl rfl (ab (ag 5 rfl (AC.pln (AOp.load okL rfl (.tail _ (.head _)) rfl rfl rfl rfl (ab (ag 1 rfl (AC.pln (AOp.load okL rfl (.head _) rfl rfl rfl rfl (ab (ag 2 rfl (AC.pln (AOp.store okL rfl rfl rfl (isVal_or rfl) rfl rfl rfl (.there .here) rfl rfl rfl (ab (ag 5 rfl (AC.pln (AOp.load okL rfl (.tail _ (.head _)) rfl rfl rfl rfl (ab (ag 1 rfl (AC.pln (AOp.load okL rfl (.head _) rfl rfl rfl rfl (ab (ag 2 rfl (AC.pln (AOp.store okL rfl rfl rfl (isVal_or rfl) rfl rfl rfl (.there .here) rfl rfl rfl (ab (ag 4 rfl (AC.pln (AOp.load okL rfl (.tail _ (.head _)) rfl rfl rfl rfl (ab (ag 1 rfl (AC.pln (AOp.load okL rfl (.head _) rfl rfl rfl rfl (ab (ag 2 rfl (AC.pln (AOp.store okL rfl rfl rfl (isVal_or rfl) rfl rfl rfl (.there .here) rfl rfl rfl (ab (ag 8 rfl (AC.nilE (seqQ_n ?_))))))))))))))))))))))))))))))))))))))))))))))))))
      refine AIn.nextN 1 (ih (k + 1, _) ⟨by omega, hm⟩ (by simp only; omega)) ?_ rfl
      simp only [AllIn]
      refine ⟨rfl, rfl, rfl, ?_, trivial⟩
      exact congrArg some (nxt (by omega) hlen)
    · have h := of_decide_eq_false h
      simp only [List.length_map] at h
      rw [List.drop_eq_nil_of_le (by omega), szL] at hm
      refine ae (ag 2 rfl (AC.nilE (ae (ag 3 rfl (AC.pln (AOp.load okL rfl (.head _) rfl rfl rfl rfl (ab (ag 2 rfl (AC.pln (AOp.store okL rfl rfl rfl (isVal_or rfl) rfl rfl rfl .here rfl rfl rfl (ab (ag 4 rfl (AC.pln (AOp.load okL rfl (.head _) rfl rfl rfl rfl (ab (AC.pln (AOp.store okL rfl rfl rfl (isVal_or rfl) rfl rfl rfl (.there .here) rfl rfl rfl (ab (ag 3 rfl (AC.nilE ?_))))))))))))))))))))
      refine bodyQ_r (ResOk.cell okL rfl rfl (.tail _ (.head _)) rfl rfl rfl) ?_
      rw [szP_eq, ← hm]; rfl
  (refine AWp.condCase rfl (fun h => ?_) (fun h => ?_))
  · refine ae0 (ag 2 rfl (AC.pln (AOp.store okL rfl rfl rfl (isVal_or rfl) rfl rfl rfl .here rfl rfl rfl (ab (ag 1 rfl (AC.nilE ?_))))))
    (refine K (1) (by rw [if_pos (of_decide_eq_true h)]) 0 _ _ ?_ rfl; repeat (first | exact trivial | refine ⟨rfl, ?_⟩))
  · refine ae0 (ag 1 rfl (AC.nilE ?_))
    (refine K (0) (by rw [if_neg (of_decide_eq_false h)]) 0 _ _ ?_ rfl; repeat (first | exact trivial | refine ⟨rfl, ?_⟩))

set_option maxRecDepth 100000 in
theorem measure_tr (x : Pat) : PTr Tryz.prog 111 [.agg x.C] (.agg [i64 (szP x).1, i64 (szP x).2.1, i64 (szP x).2.2]) := by
  induction x using Pat.ind with | h x IH => _
  refine PTr.of_body (N := 43) Tryz.func111 rfl rfl rfl ?_
  refine AWp.know (t := 0) rfl (Known.agg (x := .ds (x.l.map Pat.cells)) (by simp [Pat.C]) (Known.ds _)) fun hlen => ?_
  rw [List.length_map] at hlen
  refine ae0 (ag 2 rfl (AC.pln (AOp.box rfl rfl (isVal_or rfl) rfl rfl (fun _ _ => (ab (AC.pln (AOp.alloc okL rfl rfl rfl (fun _ _ => (ab (ag 5 rfl (AC.pln (AOp.alloc okL rfl rfl rfl (fun _ _ => (ab (AC.pln (AOp.store okL rfl rfl rfl (isVal_or rfl) rfl rfl rfl .here rfl rfl rfl (ab (ag 6 rfl (AC.pln (AOp.load okL rfl (.tail _ (.tail _ (.head _))) rfl rfl rfl rfl (ab (ag 3 rfl (AC.toCode ?_)))))))))))))))))))))))
  rename_i r1 _ r2 _ r3 _
  refine AWp.join (α := Int) (fun _ => [(1, .ptr r1 7 0 0), (2, .ptr r2 3 0 0), (3, .ptr r3 3 0 0)])
    (fun g => [(r3, .row 156 3 [[i64 1, i64 g, i64 0]]), (r2, .row 156 3 [[i64 0, i64 0, i64 0]]), (r1, .row 25 7 [x.C])])
    (fun g => g = if x.op = 7 then 1 else 0) ?_ fun R K hR => ?_
  · intro g hg
    refine ae (ag 4 rfl (AC.pln (AOp.load okL rfl (.tail _ (.tail _ (.head _))) rfl rfl rfl rfl (ab (ag 5 rfl (AC.toCode ?_))))))
    refine AWp.loopM (α := Nat × Int × Int × Int) (fun a => x.l.length - a.1) (fun a => [(1, .ptr r1 7 0 0), (2, .ptr r2 3 0 0), (3, .ptr r3 3 0 0), (13, .ds (x.l.map Pat.cells)), (14, i64 (x.l.map Pat.cells).length), (15, i64 a.1)])
      (fun a => [(r3, .row 156 3 [[i64 a.2.1, i64 a.2.2.1, i64 a.2.2.2]]), (r2, .row 156 3 [[i64 0, i64 0, i64 0]]), (r1, .row 25 7 [x.C])])
      (fun a => a.1 ≤ x.l.length ∧ szL (x.l.drop a.1) a.2 = szL x.l (1, if x.op = 7 then 1 else 0, 0)) (0, 1, g, 0) ⟨Nat.zero_le _, by rw [← hg]; rfl⟩ ?_ (List.Perm.refl _) ?_
    · simp only [AllIn]
      refine ⟨rfl, rfl, rfl, rfl, rfl, rfl, trivial⟩
    rintro ⟨k, m⟩ ⟨hk, hm⟩ ih
    simp only at hk hm
    refine ae0 (ag 6 rfl (AC.toCode ?_))
    (refine AWp.condCase rfl (fun h => ?_) (fun h => ?_))
    · have h := of_decide_eq_true h
      simp only [List.length_map] at h
      obtain ⟨y, hy⟩ : ∃ y, x.l[k]? = some y := ⟨x.l[k], by simp [show k < x.l.length by omega]⟩
      rw [drop_get hy, szL] at hm
      refine ae (ag 6 rfl (AC.toOps ?_))
      (refine AOps.simple okL rfl (sOp_idxD rfl rfl rfl rfl rfl ((by omega)) (getC hy) rfl) rfl ?_)
      refine ab (ag 1 rfl (AC.pln (AOp.alloc okL rfl rfl rfl (fun _ _ => (ab (AC.pln (AOp.store okL rfl rfl rfl (isVal_or rfl) rfl rfl rfl .here rfl rfl rfl (ab (ag 4 rfl (AC.pln (AOp.load okL rfl (.head _) rfl rfl rfl rfl (ab (AC.pln (AOp.callP rfl rfl rfl (IH y (List.mem_of_getElem? hy)) (ab (AC.pln (AOp.alloc okL rfl rfl rfl (fun _ _ => (ab (AC.pln (AOp.store okL rfl rfl rfl (isVal_or rfl) rfl rfl rfl .here rfl rfl rfl (ab (ag 4 rfl (AC.pln (AOp.load okL rfl (.tail _ (.tail _ (.head _))) rfl rfl rfl rfl (ab (ag 1 rfl (AC.pln (AOp.load okL rfl (.head _) rfl rfl rfl rfl (ab (ag 2 rfl (AC.pln (AOp.load okL rfl (.tail _ (.tail _ (.head _))) rfl rfl rfl rfl (ab (ag 1 rfl (AC.pln (AOp.load okL rfl (.head _) rfl rfl rfl rfl (ab (ag 2 rfl (AC.pln (AOp.load okL rfl (.tail _ (.tail _ (.head _))) rfl rfl rfl rfl (ab (ag 1 rfl (AC.pln (AOp.load okL rfl (.head _) rfl rfl rfl rfl (ab (ag 2 rfl (AC.pln (AOp.store okL rfl rfl rfl (isVal_or rfl) rfl rfl rfl (.there (.there .here)) rfl rfl rfl (ab (ag 7 rfl (AC.nilE (seqQ_n ?_)))))))))))))))))))))))))))))))))))))))))))))))))))))
      refine AIn.nextN 2 (ih (k + 1, _) ⟨by omega, hm⟩ (by simp only; omega)) ?_ rfl
      simp only [AllIn]
      refine ⟨rfl, rfl, rfl, rfl, rfl, ?_, trivial⟩
      exact congrArg some (nxt (by omega) hlen)
    · have h := of_decide_eq_false h
      simp only [List.length_map] at h
      rw [List.drop_eq_nil_of_le (by omega), szL] at hm
      refine ae (ag 2 rfl (AC.nilE (ae (ag 3 rfl (AC.pln (AOp.load okL rfl (.head _) rfl rfl rfl rfl (ab (ag 2 rfl (AC.pln (AOp.store okL rfl rfl rfl (isVal_or rfl) rfl rfl rfl .here rfl rfl rfl (ab (ag 4 rfl (AC.pln (AOp.load okL rfl (.head _) rfl rfl rfl rfl (ab (AC.pln (AOp.store okL rfl rfl rfl (isVal_or rfl) rfl rfl rfl (.there .here) rfl rfl rfl (ab (ag 3 rfl (AC.nilE ?_))))))))))))))))))))
      refine bodyQ_r (ResOk.cell okL rfl rfl (.tail _ (.head _)) rfl rfl rfl) ?_
      rw [szP_eq, ← hm]; rfl
  (refine AWp.condCase rfl (fun h => ?_) (fun h => ?_))
  · refine ae0 (ag 2 rfl (AC.pln (AOp.store okL rfl rfl rfl (isVal_or rfl) rfl rfl rfl .here rfl rfl rfl (ab (ag 1 rfl (AC.nilE ?_))))))
    (refine K (1) (by rw [if_pos (of_decide_eq_true h)]) 0 _ _ ?_ rfl; repeat (first | exact trivial | refine ⟨rfl, ?_⟩))
  · refine ae0 (ag 1 rfl (AC.nilE ?_))
    (refine K (0) (by rw [if_neg (of_decide_eq_false h)]) 0 _ _ ?_ rfl; repeat (first | exact trivial | refine ⟨rfl, ?_⟩))
end Go.Proofs.YtpopmiodjibljaaGreatDoor


namespace Go.Proofs.YtpopmiodjibljaaGreatDoor
open Go Go.Abs
set_option linter.unusedVariables false
set_option maxRecDepth 100000
set_option linter.unusedSimpArgs false

theorem patIsChar_tr (c : Int) : PTr Tryz.prog 60 [i64 c] (.bool (chM c)) := by
  refine PTr.of_body (N := 17) Tryz.func60 rfl rfl rfl ?_
  refine ae0 (ag 10 rfl (AC.toOps ?_))
  refine AOps.guardCase rfl rfl rfl (fun h => ?_) (fun h => ?_)
  · refine ab (ag 4 rfl (AC.toOps ?_))
    refine AOps.guardCase rfl rfl rfl (fun h => ?_) (fun h => ?_)
    · refine ab (ag 3 rfl (AC.toOps ?_))
      refine AOps.guardCase rfl rfl rfl (fun h => ?_) (fun h => ?_)
      · refine ab (ag 8 rfl (AC.nilE ?_))
        refine bodyQ_r (ResOk.one rfl rfl) ?_; (simp_all [chM] <;> first | omega | (rw [Bool.eq_iff_iff]; simp <;> omega))
      · refine ab (ag 8 rfl (AC.nilE ?_))
        refine bodyQ_r (ResOk.one rfl rfl) ?_; (simp_all [chM] <;> (omega))
    · refine ab (ag 11 rfl (AC.nilE ?_))
      refine bodyQ_r (ResOk.one rfl rfl) ?_; (simp_all [chM] <;> (omega))
  · refine ab (ag 15 rfl (AC.nilE ?_))
    refine bodyQ_r (ResOk.one rfl rfl) ?_; (simp_all [chM] <;> (omega))
def wiM (n lo hi : Int) : Bool := decide (n ≥ lo) && decide (n ≤ hi)
theorem patWithin_tr (n lo hi : Int) : PTr Tryz.prog 211 [i64 n, i64 lo, i64 hi] (.bool (wiM n lo hi)) := by
  refine PTr.of_body (N := 15) Tryz.func211 rfl rfl rfl ?_
  refine ae0 (ag 11 rfl (AC.toOps ?_))
  refine AOps.guardCase rfl rfl rfl (fun h => ?_) (fun h => ?_)
  · refine ab (ag 8 rfl (AC.nilE ?_))
    refine bodyQ_r (ResOk.one rfl rfl) ?_; (simp_all [wiM] <;> first | omega | (rw [Bool.eq_iff_iff]; simp <;> omega))
  · refine ab (ag 8 rfl (AC.nilE ?_))
    refine bodyQ_r (ResOk.one rfl rfl) ?_; (simp_all [wiM] <;> (omega))
theorem refWithin_tr (n lo hi : Int) : PTr Tryz.prog 157 [i64 n, i64 lo, i64 hi] (.bool (wiM n lo hi)) := by
  refine PTr.of_body (N := 15) Tryz.func157 rfl rfl rfl ?_
  refine ae0 (ag 11 rfl (AC.toOps ?_))
  refine AOps.guardCase rfl rfl rfl (fun h => ?_) (fun h => ?_)
  · refine ab (ag 8 rfl (AC.nilE ?_))
    refine bodyQ_r (ResOk.one rfl rfl) ?_; (simp_all [wiM] <;> first | omega | (rw [Bool.eq_iff_iff]; simp <;> omega))
  · refine ab (ag 8 rfl (AC.nilE ?_))
    refine bodyQ_r (ResOk.one rfl rfl) ?_; (simp_all [wiM] <;> (omega))
def ltM (c : Int) : Bool := decide (c ≥ 97) && decide (c ≤ 122) || decide (c ≥ 65) && decide (c ≤ 90)
theorem patIsLetter_tr (c : Int) : PTr Tryz.prog 260 [.int .u8 c] (.bool (ltM c)) := by
  refine PTr.of_body (N := 17) Tryz.func260 rfl rfl rfl ?_
  refine ae0 (ag 10 rfl (AC.toOps ?_))
  refine AOps.guardCase rfl rfl rfl (fun h => ?_) (fun h => ?_)
  · refine ab (ag 4 rfl (AC.toOps ?_))
    refine AOps.guardCase rfl rfl rfl (fun h => ?_) (fun h => ?_)
    · refine ab (ag 11 rfl (AC.nilE ?_))
      refine bodyQ_r (ResOk.one rfl rfl) ?_; (simp_all [ltM] <;> first | omega | (rw [Bool.eq_iff_iff]; simp <;> omega))
    · refine ab (ag 3 rfl (AC.toOps ?_))
      refine AOps.guardCase rfl rfl rfl (fun h => ?_) (fun h => ?_)
      · refine ab (ag 8 rfl (AC.nilE ?_))
        refine bodyQ_r (ResOk.one rfl rfl) ?_; (simp_all [ltM] <;> (omega))
      · refine ab (ag 8 rfl (AC.nilE ?_))
        refine bodyQ_r (ResOk.one rfl rfl) ?_; (simp_all [ltM] <;> (omega))
  · refine ab (ag 7 rfl (AC.toOps ?_))
    refine AOps.guardCase rfl rfl rfl (fun h => ?_) (fun h => ?_)
    · refine ab (ag 8 rfl (AC.nilE ?_))
      refine bodyQ_r (ResOk.one rfl rfl) ?_; (simp_all [ltM] <;> (omega))
    · refine ab (ag 8 rfl (AC.nilE ?_))
      refine bodyQ_r (ResOk.one rfl rfl) ?_; (simp_all [ltM] <;> (omega))
theorem refIsLetter_tr (c : Int) : PTr Tryz.prog 208 [.int .u8 c] (.bool (ltM c)) := by
  refine PTr.of_body (N := 17) Tryz.func208 rfl rfl rfl ?_
  refine ae0 (ag 10 rfl (AC.toOps ?_))
  refine AOps.guardCase rfl rfl rfl (fun h => ?_) (fun h => ?_)
  · refine ab (ag 4 rfl (AC.toOps ?_))
    refine AOps.guardCase rfl rfl rfl (fun h => ?_) (fun h => ?_)
    · refine ab (ag 11 rfl (AC.nilE ?_))
      refine bodyQ_r (ResOk.one rfl rfl) ?_; (simp_all [ltM] <;> first | omega | (rw [Bool.eq_iff_iff]; simp <;> omega))
    · refine ab (ag 3 rfl (AC.toOps ?_))
      refine AOps.guardCase rfl rfl rfl (fun h => ?_) (fun h => ?_)
      · refine ab (ag 8 rfl (AC.nilE ?_))
        refine bodyQ_r (ResOk.one rfl rfl) ?_; (simp_all [ltM] <;> (omega))
      · refine ab (ag 8 rfl (AC.nilE ?_))
        refine bodyQ_r (ResOk.one rfl rfl) ?_; (simp_all [ltM] <;> (omega))
  · refine ab (ag 7 rfl (AC.toOps ?_))
    refine AOps.guardCase rfl rfl rfl (fun h => ?_) (fun h => ?_)
    · refine ab (ag 8 rfl (AC.nilE ?_))
      refine bodyQ_r (ResOk.one rfl rfl) ?_; (simp_all [ltM] <;> (omega))
    · refine ab (ag 8 rfl (AC.nilE ?_))
      refine bodyQ_r (ResOk.one rfl rfl) ?_; (simp_all [ltM] <;> (omega))
def timesM (n l : Int) : Int := if n = 0 ∨ l = 0 then 0 else if n < 0 ∨ l < 0 then -1 else w64 (n * l)
theorem times_tr (n l : Int) : PTr Tryz.prog 215 [i64 n, i64 l] (i64 (timesM n l)) := by
  refine PTr.of_body (N := 22) Tryz.func215 rfl rfl rfl ?_
  refine ae0 (ag 12 rfl (AC.toOps ?_))
  refine AOps.guardCase rfl rfl rfl (fun h => ?_) (fun h => ?_)
  · refine ab (ag 15 rfl (AC.nilE ?_))
    refine bodyQ_r (ResOk.one rfl rfl) ?_; (simp_all [timesM, w64] <;> first | omega | (rw [Bool.eq_iff_iff]; simp <;> omega))
  · refine ab (ag 6 rfl (AC.toCode ?_))
    refine AWp.condCase rfl (fun h => ?_) (fun h => ?_)
    · refine ae (ag 8 rfl (AC.nilE ?_))
      refine bodyQ_r (ResOk.one rfl rfl) ?_; (simp_all [timesM, w64] <;> first | omega | (rw [Bool.eq_iff_iff]; simp <;> omega))
    · refine ae (ag 5 rfl (AC.toOps ?_))
      refine AOps.guardCase rfl rfl rfl (fun h => ?_) (fun h => ?_)
      · refine ab (ag 15 rfl (AC.nilE ?_))
        refine bodyQ_r (ResOk.one rfl rfl) ?_; (simp_all [timesM, w64] <;> first | omega | (rw [Bool.eq_iff_iff]; simp <;> omega))
      · refine ab (ag 6 rfl (AC.toCode ?_))
        refine AWp.condCase rfl (fun h => ?_) (fun h => ?_)
        · refine ae (ag 8 rfl (AC.nilE ?_))
          refine bodyQ_r (ResOk.one rfl rfl) ?_; (simp_all [timesM, w64] <;> first | omega | (rw [Bool.eq_iff_iff]; simp <;> omega))
        · refine ae (ag 12 rfl (AC.nilE ?_))
          refine bodyQ_r (ResOk.one rfl rfl) ?_; (simp_all [timesM, w64] <;> (omega))
def plusM (a b : Int) : Int := if a < 0 ∨ b < 0 then -1 else w64 (a + b)
theorem plus_tr (a b : Int) : PTr Tryz.prog 216 [i64 a, i64 b] (i64 (plusM a b)) := by
  refine PTr.of_body (N := 14) Tryz.func216 rfl rfl rfl ?_
  refine ae0 (ag 11 rfl (AC.toOps ?_))
  refine AOps.guardCase rfl rfl rfl (fun h => ?_) (fun h => ?_)
  · refine ab (ag 13 rfl (AC.nilE ?_))
    refine bodyQ_r (ResOk.one rfl rfl) ?_; (simp_all [plusM, w64] <;> first | omega | (rw [Bool.eq_iff_iff]; simp <;> omega))
  · refine ab (ag 5 rfl (AC.toCode ?_))
    refine AWp.condCase rfl (fun h => ?_) (fun h => ?_)
    · refine ae (ag 7 rfl (AC.nilE ?_))
      refine bodyQ_r (ResOk.one rfl rfl) ?_; (simp_all [plusM, w64] <;> first | omega | (rw [Bool.eq_iff_iff]; simp <;> omega))
    · refine ae (ag 11 rfl (AC.nilE ?_))
      refine bodyQ_r (ResOk.one rfl rfl) ?_; (simp_all [plusM, w64] <;> (omega))
def besideM (x y : Pat) : Bool := if x.op = 4 then !decide (y.op = 4) && !decide (y.op = 0) else if x.op = 5 then !decide (y.op = 5) else true
theorem isBeside_tr (x y : Pat) : PTr Tryz.prog 165 [.agg x.C, .agg y.C] (.bool (besideM x y)) := by
  refine PTr.of_body (N := 22) Tryz.func165 rfl rfl rfl ?_
  refine ae0 (ag 2 rfl (AC.pln (AOp.box rfl rfl (isVal_or rfl) rfl rfl (fun _ _ => (ab (AC.pln (AOp.box rfl rfl (isVal_or rfl) rfl rfl (fun _ _ => (ab (ag 7 rfl (AC.pln (AOp.load okL rfl (.tail _ (.head _)) rfl rfl rfl rfl (ab (ag 9 rfl (AC.toCode ?_)))))))))))))))
  refine AWp.condCase rfl (fun h => ?_) (fun h => ?_)
  · refine ae (ag 3 rfl (AC.pln (AOp.load okL rfl (.head _) rfl rfl rfl rfl (ab (ag 2 rfl (AC.toOps ?_))))))
    refine AOps.guardCase rfl rfl rfl (fun h => ?_) (fun h => ?_)
    · refine ab (ag 1 rfl (AC.wtd rfl rfl rfl (AOp.load okL rfl (.head _) rfl rfl rfl rfl (ab (ag 8 rfl (AC.nilE ?_))))))
      refine bodyQ_r (ResOk.one rfl rfl) ?_; (simp_all [besideM] <;> ((rw [Bool.eq_iff_iff]; simp <;> omega)))
    · refine ab (ag 10 rfl (AC.nilE ?_))
      refine bodyQ_r (ResOk.one rfl rfl) ?_; (simp_all [besideM] <;> first | omega | (rw [Bool.eq_iff_iff]; simp <;> omega))
  · refine ae (ag 6 rfl (AC.toCode ?_))
    refine AWp.condCase rfl (fun h => ?_) (fun h => ?_)
    · refine ae (ag 3 rfl (AC.pln (AOp.load okL rfl (.head _) rfl rfl rfl rfl (ab (ag 7 rfl (AC.nilE ?_))))))
      refine bodyQ_r (ResOk.one rfl rfl) ?_; (simp_all [besideM] <;> ((rw [Bool.eq_iff_iff]; simp <;> omega)))
    · refine ae (ag 9 rfl (AC.nilE ?_))
      refine bodyQ_r (ResOk.one rfl rfl) ?_; (simp_all [besideM] <;> first | omega | (rw [Bool.eq_iff_iff]; simp <;> omega))
def partsM (op : Int) : Int × Int := if op = 4 ∨ op = 5 then (2, 60) else if op = 6 ∨ op = 7 ∨ op = 8 ∨ op = 9 then (1, 1) else if op = 15 then (2, 2) else (0, 0)
theorem parts_tr (op : Int) : PTr Tryz.prog 156 [i64 op] (.tup [i64 (partsM op).1, i64 (partsM op).2]) := by
  refine PTr.of_body (N := 15) Tryz.func156 rfl rfl rfl ?_
  refine ae0 (ag 20 rfl (AC.toCode ?_))
  refine AWp.condCase rfl (fun h => ?_) (fun h => ?_)
  · refine ae (ag 12 rfl (AC.nilE ?_))
    refine bodyQ_r (ResOk.two rfl rfl rfl) ?_; (simp_all [partsM] <;> first | omega | (rw [Bool.eq_iff_iff]; simp <;> omega))
  · refine ae (ag 5 rfl (AC.toCode ?_))
    refine AWp.condCase rfl (fun h => ?_) (fun h => ?_)
    · refine ae (ag 9 rfl (AC.nilE ?_))
      refine bodyQ_r (ResOk.two rfl rfl rfl) ?_; (simp_all [partsM] <;> first | omega | (rw [Bool.eq_iff_iff]; simp <;> omega))
    · refine ae (ag 7 rfl (AC.toCode ?_))
      refine AWp.condCase rfl (fun h => ?_) (fun h => ?_)
      · refine ae (ag 12 rfl (AC.nilE ?_))
        refine bodyQ_r (ResOk.two rfl rfl rfl) ?_; (simp_all [partsM] <;> first | omega | (rw [Bool.eq_iff_iff]; simp <;> omega))
      · refine ae (ag 6 rfl (AC.toCode ?_))
        refine AWp.condCase rfl (fun h => ?_) (fun h => ?_)
        · refine ae (ag 12 rfl (AC.nilE ?_))
          refine bodyQ_r (ResOk.two rfl rfl rfl) ?_; (simp_all [partsM] <;> first | omega | (rw [Bool.eq_iff_iff]; simp <;> omega))
        · refine ae (ag 6 rfl (AC.toCode ?_))
          refine AWp.condCase rfl (fun h => ?_) (fun h => ?_)
          · refine ae (ag 12 rfl (AC.nilE ?_))
            refine bodyQ_r (ResOk.two rfl rfl rfl) ?_; (simp_all [partsM] <;> first | omega | (rw [Bool.eq_iff_iff]; simp <;> omega))
          · refine ae (ag 5 rfl (AC.toCode ?_))
            refine AWp.condCase rfl (fun h => ?_) (fun h => ?_)
            · refine ae (ag 9 rfl (AC.nilE ?_))
              refine bodyQ_r (ResOk.two rfl rfl rfl) ?_; (simp_all [partsM] <;> first | omega | (rw [Bool.eq_iff_iff]; simp <;> omega))
            · refine ae (ag 6 rfl (AC.toCode ?_))
              refine AWp.condCase rfl (fun h => ?_) (fun h => ?_)
              · refine ae (ag 9 rfl (AC.nilE ?_))
                refine bodyQ_r (ResOk.two rfl rfl rfl) ?_; (simp_all [partsM] <;> first | omega | (rw [Bool.eq_iff_iff]; simp <;> omega))
              · refine ae (ag 10 rfl (AC.nilE ?_))
                refine bodyQ_r (ResOk.two rfl rfl rfl) ?_; (simp_all [partsM] <;> first | omega | (rw [Bool.eq_iff_iff]; simp <;> omega))
def numM (x : Pat) (g : Int) : Bool :=
  if x.op = 1 then chM x.n else if x.op = 3 ∨ x.op = 13 then wiM x.n 0 1 else if x.op = 6 ∨ x.op = 16 then wiM x.n 0 2 else if x.op = 7 ∨ x.op = 10 ∨ x.op = 15 then wiM x.n 1 g
  else if x.op = 14 then wiM x.n 0 g else if x.op = 9 then wiM x.n 0 3 else if x.op = 17 then wiM x.n 0 9 else decide (x.n = 0)
theorem isNumber_tr (x : Pat) (g : Int) : PTr Tryz.prog 158 [.agg x.C, i64 g] (.bool (numM x g)) := by
  refine PTr.of_body (N := 51) Tryz.func158 rfl rfl rfl ?_
  refine ae0 (ag 2 rfl (AC.pln (AOp.box rfl rfl (isVal_or rfl) rfl rfl (fun _ _ => (ab (ag 7 rfl (AC.pln (AOp.load okL rfl (.head _) rfl rfl rfl rfl (ab (ag 9 rfl (AC.toCode ?_)))))))))))
  refine AWp.condCase rfl (fun h => ?_) (fun h => ?_)
  · refine ae (ag 3 rfl (AC.pln (AOp.load okL rfl (.head _) rfl rfl rfl rfl (ab (AC.pln (AOp.callP rfl rfl rfl (refIsChar_tr _) (ab (ag 6 rfl (AC.nilE ?_)))))))))
    refine bodyQ_r (ResOk.one rfl rfl) ?_; (simp_all [numM] <;> first | omega | (rw [Bool.eq_iff_iff]; simp <;> omega))
  · refine ae (ag 7 rfl (AC.toCode ?_))
    refine AWp.condCase rfl (fun h => ?_) (fun h => ?_)
    · refine ae (ag 6 rfl (AC.pln (AOp.load okL rfl (.head _) rfl rfl rfl rfl (ab (AC.pln (AOp.callP rfl rfl rfl (refWithin_tr _ _ _) (ab (ag 6 rfl (AC.nilE ?_)))))))))
      refine bodyQ_r (ResOk.one rfl rfl) ?_; (simp_all [numM] <;> first | omega | (rw [Bool.eq_iff_iff]; simp <;> omega))
    · refine ae (ag 5 rfl (AC.toCode ?_))
      refine AWp.condCase rfl (fun h => ?_) (fun h => ?_)
      · refine ae (ag 3 rfl (AC.pln (AOp.load okL rfl (.head _) rfl rfl rfl rfl (ab (AC.pln (AOp.callP rfl rfl rfl (refWithin_tr _ _ _) (ab (ag 6 rfl (AC.nilE ?_)))))))))
        refine bodyQ_r (ResOk.one rfl rfl) ?_; (simp_all [numM] <;> first | omega | (rw [Bool.eq_iff_iff]; simp <;> omega))
      · refine ae (ag 7 rfl (AC.toCode ?_))
        refine AWp.condCase rfl (fun h => ?_) (fun h => ?_)
        · refine ae (ag 6 rfl (AC.pln (AOp.load okL rfl (.head _) rfl rfl rfl rfl (ab (AC.pln (AOp.callP rfl rfl rfl (refWithin_tr _ _ _) (ab (ag 6 rfl (AC.nilE ?_)))))))))
          refine bodyQ_r (ResOk.one rfl rfl) ?_; (simp_all [numM] <;> first | omega | (rw [Bool.eq_iff_iff]; simp <;> omega))
        · refine ae (ag 5 rfl (AC.toCode ?_))
          refine AWp.condCase rfl (fun h => ?_) (fun h => ?_)
          · refine ae (ag 3 rfl (AC.pln (AOp.load okL rfl (.head _) rfl rfl rfl rfl (ab (AC.pln (AOp.callP rfl rfl rfl (refWithin_tr _ _ _) (ab (ag 6 rfl (AC.nilE ?_)))))))))
            refine bodyQ_r (ResOk.one rfl rfl) ?_; (simp_all [numM] <;> first | omega | (rw [Bool.eq_iff_iff]; simp <;> omega))
          · refine ae (ag 7 rfl (AC.toCode ?_))
            refine AWp.condCase rfl (fun h => ?_) (fun h => ?_)
            · refine ae (ag 6 rfl (AC.pln (AOp.load okL rfl (.head _) rfl rfl rfl rfl (ab (ag 1 rfl (AC.pln (AOp.callP rfl rfl rfl (refWithin_tr _ _ _) (ab (ag 6 rfl (AC.nilE ?_))))))))))
              refine bodyQ_r (ResOk.one rfl rfl) ?_; (simp_all [numM] <;> first | omega | (rw [Bool.eq_iff_iff]; simp <;> omega))
            · refine ae (ag 6 rfl (AC.toCode ?_))
              refine AWp.condCase rfl (fun h => ?_) (fun h => ?_)
              · refine ae (ag 6 rfl (AC.pln (AOp.load okL rfl (.head _) rfl rfl rfl rfl (ab (ag 1 rfl (AC.pln (AOp.callP rfl rfl rfl (refWithin_tr _ _ _) (ab (ag 6 rfl (AC.nilE ?_))))))))))
                refine bodyQ_r (ResOk.one rfl rfl) ?_; (simp_all [numM] <;> first | omega | (rw [Bool.eq_iff_iff]; simp <;> omega))
              · refine ae (ag 5 rfl (AC.toCode ?_))
                refine AWp.condCase rfl (fun h => ?_) (fun h => ?_)
                · refine ae (ag 3 rfl (AC.pln (AOp.load okL rfl (.head _) rfl rfl rfl rfl (ab (ag 1 rfl (AC.pln (AOp.callP rfl rfl rfl (refWithin_tr _ _ _) (ab (ag 6 rfl (AC.nilE ?_))))))))))
                  refine bodyQ_r (ResOk.one rfl rfl) ?_; (simp_all [numM] <;> first | omega | (rw [Bool.eq_iff_iff]; simp <;> omega))
                · refine ae (ag 6 rfl (AC.toCode ?_))
                  refine AWp.condCase rfl (fun h => ?_) (fun h => ?_)
                  · refine ae (ag 3 rfl (AC.pln (AOp.load okL rfl (.head _) rfl rfl rfl rfl (ab (ag 1 rfl (AC.pln (AOp.callP rfl rfl rfl (refWithin_tr _ _ _) (ab (ag 6 rfl (AC.nilE ?_))))))))))
                    refine bodyQ_r (ResOk.one rfl rfl) ?_; (simp_all [numM] <;> first | omega | (rw [Bool.eq_iff_iff]; simp <;> omega))
                  · refine ae (ag 6 rfl (AC.toCode ?_))
                    refine AWp.condCase rfl (fun h => ?_) (fun h => ?_)
                    · refine ae (ag 3 rfl (AC.pln (AOp.load okL rfl (.head _) rfl rfl rfl rfl (ab (AC.pln (AOp.callP rfl rfl rfl (refWithin_tr _ _ _) (ab (ag 6 rfl (AC.nilE ?_)))))))))
                      refine bodyQ_r (ResOk.one rfl rfl) ?_; (simp_all [numM] <;> first | omega | (rw [Bool.eq_iff_iff]; simp <;> omega))
                    · refine ae (ag 6 rfl (AC.toCode ?_))
                      refine AWp.condCase rfl (fun h => ?_) (fun h => ?_)
                      · refine ae (ag 3 rfl (AC.pln (AOp.load okL rfl (.head _) rfl rfl rfl rfl (ab (AC.pln (AOp.callP rfl rfl rfl (refWithin_tr _ _ _) (ab (ag 6 rfl (AC.nilE ?_)))))))))
                        refine bodyQ_r (ResOk.one rfl rfl) ?_; (simp_all [numM] <;> first | omega | (rw [Bool.eq_iff_iff]; simp <;> omega))
                      · refine ae (ag 6 rfl (AC.pln (AOp.load okL rfl (.head _) rfl rfl rfl rfl (ab (ag 5 rfl (AC.nilE ?_))))))
                        refine bodyQ_r (ResOk.one rfl rfl) ?_; (simp_all [numM] <;> ((rw [Bool.eq_iff_iff]; simp <;> omega)))
end Go.Proofs.YtpopmiodjibljaaGreatDoor


namespace Go.Proofs.YtpopmiodjibljaaGreatDoor
open Go Go.Abs
set_option linter.unusedVariables false
set_option maxRecDepth 100000
set_option linter.unusedSimpArgs false
theorem charsWithin_tr (n lo hi : Int) : PTr Tryz.prog 114 [i64 n, i64 lo, i64 hi] (.bool (wiM n lo hi)) := by
  refine PTr.of_body (N := 15) Tryz.func114 rfl rfl rfl ?_
  refine ae0 (ag 11 rfl (AC.toOps ?_))
  refine AOps.guardCase rfl rfl rfl (fun h => ?_) (fun h => ?_)
  · refine ab (ag 8 rfl (AC.nilE ?_))
    refine bodyQ_r (ResOk.one rfl rfl) ?_; (simp_all [wiM] <;> first | omega | (rw [Bool.eq_iff_iff]; simp <;> omega))
  · refine ab (ag 8 rfl (AC.nilE ?_))
    refine bodyQ_r (ResOk.one rfl rfl) ?_; (simp_all [wiM] <;> (omega))
theorem charsWithin_of {n lo hi : Int} {b : Bool} (h : wiM n lo hi = b) : PTr Tryz.prog 114 [i64 n, i64 lo, i64 hi] (.bool b) := h ▸ charsWithin_tr n lo hi
end Go.Proofs.YtpopmiodjibljaaGreatDoor


namespace Go.Proofs.YtpopmiodjibljaaGreatDoor
open Go Go.Abs
theorem hext : ExtOk Tryz.prog (extC [240] [295]) := extC_ok (fun f hf => by
    obtain rfl := List.mem_singleton.1 hf
    exact ⟨Tryz.f240, by kernel_rfl, by kernel_rfl, by kernel_rfl, by kernel_rfl, by kernel_rfl⟩) (fun f hf => by
    obtain rfl := List.mem_singleton.1 hf
    exact ⟨Tryz.f295, by kernel_rfl, by kernel_rfl, by kernel_rfl, by kernel_rfl, by kernel_rfl⟩)
end Go.Proofs.YtpopmiodjibljaaGreatDoor


namespace Go.Proofs.YtpopmiodjibljaaGreatDoor
open Go Go.Abs
set_option linter.unusedVariables false
set_option maxRecDepth 100000
set_option linter.unusedSimpArgs false
def smallM (c : Int) : Int := if wiM c 65 90 = true then w64 (c + 32) else if wiM c 192 222 = true ∧ c ≠ 215 then w64 (c + 32) else if wiM c 913 937 = true ∧ c ≠ 930 then w64 (c + 32) else if wiM c 1040 1071 = true then w64 (c + 32) else if c = 7838 then 223 else if c = 8490 then 107 else if c = 8491 then 229 else c
theorem wi_hi {c lo hi : Int} (h : wiM c lo hi = true) : lo ≤ c ∧ c ≤ hi := by
  unfold wiM at h
  rw [Bool.and_eq_true, decide_eq_true_eq, decide_eq_true_eq] at h
  exact h
theorem small_tr (c : Int) : PTr Tryz.prog 115 [i64 c] (i64 (smallM c)) := by
  refine PTr.of_body (N := 32) Tryz.func115 rfl rfl rfl ?_
  cases h1 : wiM c 65 90 with
  | true =>
    rw [show smallM c = w64 (c + 32) from if_pos h1]
    refine ae0 (ag 11 rfl (AC.pln (AOp.callP rfl rfl rfl (charsWithin_of h1) (ab (ag 17 rfl (AC.nilE ?_))))))
    refine bodyQ_r (ResOk.one rfl rfl) ?_
    rfl
  | false =>
  have n1 : ¬ wiM c 65 90 = true := by rw [h1]; exact Bool.false_ne_true
  cases h2 : (wiM c 192 222) with
  | true =>
    refine ae0 (ag 11 rfl (AC.pln (AOp.callP rfl rfl rfl (charsWithin_of h1) (ab (ag 7 rfl (AC.pln (AOp.callP rfl rfl rfl (charsWithin_of h2) (ab (ag 7 rfl (AC.toCode ?_))))))))))
    (refine AWp.condCase rfl (fun h => ?_) (fun h => ?_))
    · have hc : c ≠ 215 := by simpa using h
      rw [show smallM c = w64 (c + 32) by rw [smallM, if_neg n1, if_pos ⟨h2, hc⟩]]
      refine ae (ag 13 rfl (AC.nilE ?_))
      refine bodyQ_r (ResOk.one rfl rfl) ?_
      rfl
    · have hc : c = 215 := by simpa using h
      subst hc
      refine ae (ag 3 rfl (AC.pln (AOp.callP rfl rfl rfl (charsWithin_tr _ _ _) (ab (ag 10 rfl (AC.pln (AOp.callP rfl rfl rfl (charsWithin_tr _ _ _) (ab (ag 38 rfl (AC.nilE ?_))))))))))
      refine bodyQ_r (ResOk.one rfl rfl) ?_
      rfl
  | false =>
  have n2 : ¬ (wiM c 192 222 = true ∧ c ≠ 215) := by rw [h2]; exact fun h => Bool.false_ne_true h.1
  cases h3 : (wiM c 913 937) with
  | true =>
    refine ae0 (ag 11 rfl (AC.pln (AOp.callP rfl rfl rfl (charsWithin_of h1) (ab (ag 7 rfl (AC.pln (AOp.callP rfl rfl rfl (charsWithin_of h2) (ab (ag 11 rfl (AC.pln (AOp.callP rfl rfl rfl (charsWithin_of h3) (ab (ag 7 rfl (AC.toCode ?_))))))))))))))
    (refine AWp.condCase rfl (fun h => ?_) (fun h => ?_))
    · have hc : c ≠ 930 := by simpa using h
      rw [show smallM c = w64 (c + 32) by rw [smallM, if_neg n1, if_neg n2, if_pos ⟨h3, hc⟩]]
      refine ae (ag 13 rfl (AC.nilE ?_))
      refine bodyQ_r (ResOk.one rfl rfl) ?_
      rfl
    · have hc : c = 930 := by simpa using h
      subst hc
      refine ae (ag 2 rfl (AC.pln (AOp.callP rfl rfl rfl (charsWithin_tr _ _ _) (ab (ag 38 rfl (AC.nilE ?_))))))
      refine bodyQ_r (ResOk.one rfl rfl) ?_
      rfl
  | false =>
  have n3 : ¬ (wiM c 913 937 = true ∧ c ≠ 930) := by rw [h3]; exact fun h => Bool.false_ne_true h.1
  cases h4 : (wiM c 1040 1071) with
  | true =>
    rw [show smallM c = w64 (c + 32) by rw [smallM, if_neg n1, if_neg n2, if_neg n3, if_pos h4]]
    refine ae0 (ag 11 rfl (AC.pln (AOp.callP rfl rfl rfl (charsWithin_of h1) (ab (ag 7 rfl (AC.pln (AOp.callP rfl rfl rfl (charsWithin_of h2) (ab (ag 11 rfl (AC.pln (AOp.callP rfl rfl rfl (charsWithin_of h3) (ab (ag 10 rfl (AC.pln (AOp.callP rfl rfl rfl (charsWithin_of h4) (ab (ag 14 rfl (AC.nilE ?_))))))))))))))))))
    refine bodyQ_r (ResOk.one rfl rfl) ?_
    rfl
  | false =>
  have n4 : ¬ (wiM c 1040 1071 = true) := by rw [h4]; exact Bool.false_ne_true
  rw [show smallM c = if c = 7838 then 223 else if c = 8490 then 107 else if c = 8491 then 229 else c by rw [smallM, if_neg n1, if_neg n2, if_neg n3, if_neg n4]]
  refine ae0 (ag 11 rfl (AC.pln (AOp.callP rfl rfl rfl (charsWithin_of h1) (ab (ag 7 rfl (AC.pln (AOp.callP rfl rfl rfl (charsWithin_of h2) (ab (ag 11 rfl (AC.pln (AOp.callP rfl rfl rfl (charsWithin_of h3) (ab (ag 10 rfl (AC.pln (AOp.callP rfl rfl rfl (charsWithin_of h4) (ab (ag 11 rfl (AC.toCode ?_))))))))))))))))))
  (refine AWp.condCase rfl (fun h => ?_) (fun h => ?_))
  · have h : c = 7838 := by simpa using h
    subst h
    refine ae (ag 8 rfl (AC.nilE ?_))
    refine bodyQ_r (ResOk.one rfl rfl) ?_
    rfl
  have h : c ≠ 7838 := by simpa using h
  rw [if_neg h]
  refine ae (ag 7 rfl (AC.toCode ?_))
  (refine AWp.condCase rfl (fun g => ?_) (fun g => ?_))
  · have g : c = 8490 := by simpa using g
    subst g
    refine ae (ag 8 rfl (AC.nilE ?_))
    refine bodyQ_r (ResOk.one rfl rfl) ?_
    rfl
  have g : c ≠ 8490 := by simpa using g
  rw [if_neg g]
  refine ae (ag 7 rfl (AC.toCode ?_))
  (refine AWp.condCase rfl (fun q => ?_) (fun q => ?_))
  · have q : c = 8491 := by simpa using q
    subst q
    refine ae (ag 8 rfl (AC.nilE ?_))
    refine bodyQ_r (ResOk.one rfl rfl) ?_
    rfl
  have q : c ≠ 8491 := by simpa using q
  rw [if_neg q]
  refine ae (ag 10 rfl (AC.nilE ?_))
  refine bodyQ_r (ResOk.one rfl rfl) ?_
  rfl
def ligs : List (List UInt8) := [[102, 102], [102, 105], [102, 108], [102, 102, 105], [102, 102, 108], [115, 116], [115, 116]]
def foldS (c : Int) : List UInt8 := if c = 181 then [206, 188] else if c = 223 ∨ c = 7838 then [115, 115] else if c = 329 then [202, 188, 110] else if c = 383 then [115] else if c = 962 then [207, 131] else
  if wiM c 64256 64262 = true then ligs.getD (c - 64256).toNat [] else encL (IntKind.i32.wrap (smallM c))
theorem foldOf_tr (c : Int) : PTr Tryz.prog 62 [i64 c] (.str (foldS c)) := by
  cases h1 : wiM c 64256 64262 with
  | true =>
    have hc := wi_hi h1
    have : c = 64256 ∨ c = 64257 ∨ c = 64258 ∨ c = 64259 ∨ c = 64260 ∨ c = 64261 ∨ c = 64262 := by omega
    rcases this with rfl | rfl | rfl | rfl | rfl | rfl | rfl <;> exact PTr.runA (fuel := 1000) okL hmix hext noM_ok 100 rfl rfl (by kernel_rfl)
  | false =>
  have n1 : ¬ wiM c 64256 64262 = true := by rw [h1]; exact Bool.false_ne_true
  by_cases ha : c = 181 ∨ c = 223 ∨ c = 7838 ∨ c = 329 ∨ c = 383 ∨ c = 962
  · rcases ha with rfl | rfl | rfl | rfl | rfl | rfl <;> exact PTr.runA (fuel := 1000) okL hmix hext noM_ok 100 rfl rfl (by kernel_rfl)
  have a1 : (c == 181) = false := by rw [beq_eq_false_iff_ne]; omega
  have a2 : (c == 223) = false := by rw [beq_eq_false_iff_ne]; omega
  have a3 : (c == 7838) = false := by rw [beq_eq_false_iff_ne]; omega
  have a4 : (c == 329) = false := by rw [beq_eq_false_iff_ne]; omega
  have a5 : (c == 383) = false := by rw [beq_eq_false_iff_ne]; omega
  have a6 : (c == 962) = false := by rw [beq_eq_false_iff_ne]; omega
  refine PTr.of_body (N := 33) Tryz.func62 rfl rfl rfl ?_
  rw [show foldS c = encL (IntKind.i32.wrap (smallM c)) by rw [foldS, if_neg (by omega), if_neg (by omega), if_neg (by omega), if_neg (by omega), if_neg (by omega), if_neg n1]]
  refine ae0 (ag 14 rfl (AC.toCode ?_))
  rw [a1]
  refine ae (ag 6 rfl (AC.toOps ?_))
  rw [a2]
  refine ab (ag 6 rfl (AC.toCode ?_))
  rw [a3]
  refine ae (ag 8 rfl (AC.toCode ?_))
  rw [a4]
  refine ae (ag 8 rfl (AC.toCode ?_))
  rw [a5]
  refine ae (ag 8 rfl (AC.toCode ?_))
  rw [a6]
  refine ae (ag 4 rfl (AC.pln (AOp.callP rfl rfl rfl (charsWithin_of h1) (ab (ag 10 rfl (AC.pln (AOp.callP rfl rfl rfl (small_tr _) (ab (ag 6 rfl (AC.nilE ?_))))))))))
  refine bodyQ_r (ResOk.one rfl rfl) ?_
  rfl
end Go.Proofs.YtpopmiodjibljaaGreatDoor


namespace Go.Proofs.YtpopmiodjibljaaGreatDoor
open Go Go.Abs
set_option linter.unusedVariables false
set_option maxRecDepth 100000
set_option linter.unusedSimpArgs false
def inP (c : Int) (x : Int × Int) : Bool := decide (c ≥ x.1) && decide (c ≤ x.2)
def idxM (p : Int × Int → Bool) (l : List (Int × Int)) : Int := match l.findIdx? p with | some i => (i : Int) | none => -1
theorem indexFunc_tr (l : List (Int × Int)) (p : Int × Int → Bool) (f : FuncId) (cap : List A) (hl : l.length ≤ maxLen) (hp : ∀ x, x ∈ l → PTr Tryz.prog f ([.agg (spanC x)] ++ cap) (.bool (p x))) :
    PTr Tryz.prog 169 [.ds (l.map spanC), .fn f [] cap] (i64 (idxM p l)) := by
  refine PTr.of_body (N := 19) Tryz.func169 rfl rfl rfl ?_
  refine ae0 (ag 14 rfl (AC.toCode ?_))
  refine AWp.loopM (α := Nat) (fun k => l.length - k) (fun k => [(0, .ds (l.map spanC)), (1, .fn f [] cap), (7, i64 (l.map spanC).length), (8, i64 k)]) (fun k => [])
    (fun k => k ≤ l.length ∧ ∀ i x, i < k → l[i]? = some x → p x = false) 0 ⟨Nat.zero_le _, fun i x h => absurd h (Nat.not_lt_zero _)⟩ ?_ (List.Perm.refl _) ?_
  · simp only [AllIn]
    refine ⟨rfl, rfl, rfl, rfl, trivial⟩
  rintro k ⟨hk, hm⟩ ih
  refine ae0 (ag 6 rfl (AC.toCode ?_))
  (refine AWp.condCase rfl (fun h => ?_) (fun h => ?_))
  · have h := of_decide_eq_true h
    simp only [List.length_map] at h
    obtain ⟨x, hx⟩ : ∃ x, l[k]? = some x := ⟨l[k], by simp [show k < l.length by omega]⟩
    have nx := nxt (k := k) (n := l.length) (by omega) hl
    have hc : (l.map spanC)[((k : Nat) : Int).toNat]? = some (spanC x) := by simp [hx]
    refine ae (ag 15 rfl (AC.sim okL (sOp_idxD rfl rfl rfl rfl rfl (by omega) (hc) rfl) rfl (ag 1 rfl (AC.toOps ?_))))
    refine AOps.pln (AOp.callPG rfl rfl rfl (hp x (List.mem_of_getElem? hx)).g ?_)
    refine ab (ag 2 rfl (AC.toCode ?_))
    cases hpx : p x with
    | true =>
      have e : idxM p l = k := by
        have : l.findIdx? p = some k := List.findIdx?_eq_some_iff_getElem.2 ⟨by omega, by rw [List.getElem?_eq_getElem (by omega : k < l.length)] at hx; cases hx; exact hpx, fun j hj => by
          have := hm j l[j] hj (List.getElem?_eq_getElem (by omega)); simp [this]⟩
        unfold idxM; rw [this]
      rw [e]
      refine ae (ag 10 rfl (AC.nilE (ax (ag 2 rfl (AC.nilE ?_)))))
      refine bodyQ_r (ResOk.one rfl rfl) ?_
      rfl
    | false =>
      refine ae (ag 8 rfl (AC.nilE (seqQ_n ?_)))
      (refine AIn.nextN 0 (ih (k + 1) (⟨by omega, fun i z hi hz => by rcases Nat.lt_succ_iff_lt_or_eq.1 hi with hi | rfl; exact hm i z hi hz; rw [hx] at hz; cases hz; exact hpx⟩) (by omega)) ?_ rfl; repeat (first | exact trivial | refine ⟨rfl, ?_⟩ | refine ⟨congrArg some nx, ?_⟩))
  · have h := of_decide_eq_false h
    simp only [List.length_map] at h
    have hkk : k = l.length := by omega
    have e : idxM p l = -1 := by
      have : l.findIdx? p = none := List.findIdx?_eq_none_iff.2 fun x hx => by
        obtain ⟨i, hi⟩ := List.getElem?_of_mem hx
        have hil : i < l.length := by
          by_cases hil : i < l.length
          · exact hil
          · rw [List.getElem?_eq_none (by omega)] at hi; cases hi
        rw [hm i x (by omega) hi]
      unfold idxM; rw [this]
    rw [e]
    refine ae (ag 2 rfl (AC.nilE (ae (ag 6 rfl (AC.nilE ?_)))))
    refine bodyQ_r (ResOk.one rfl rfl) ?_
    rfl
theorem containsFunc_tr (l : List (Int × Int)) (p : Int × Int → Bool) (f : FuncId) (cap : List A) (hl : l.length ≤ maxLen) (hp : ∀ x, x ∈ l → PTr Tryz.prog f ([.agg (spanC x)] ++ cap) (.bool (p x))) :
    PTr Tryz.prog 121 [.ds (l.map spanC), .fn f [] cap] (.bool (l.any p)) := by
  refine PTr.of_body (N := 9) Tryz.func121 rfl rfl rfl ?_
  refine ae0 (ag 9 rfl (AC.pln (AOp.callP rfl rfl rfl (indexFunc_tr l p f cap hl hp) (ab (ag 5 rfl (AC.nilE ?_))))))
  refine bodyQ_r (ResOk.one rfl rfl) ?_
  have : l.any p = decide (idxM p l ≥ 0) := by
    unfold idxM
    cases h : l.findIdx? p with
    | none =>
      have := List.findIdx?_eq_none_iff.1 h
      simp only []
      rw [show l.any p = false from by rw [List.any_eq_false]; intro x hx; rw [this x hx]; exact Bool.false_ne_true]
      rfl
    | some i =>
      obtain ⟨h1, h2, _⟩ := List.findIdx?_eq_some_iff_getElem.1 h
      simp only []
      rw [show l.any p = true from List.any_eq_true.2 ⟨l[i], List.getElem_mem _, h2⟩, decide_eq_true (by omega)]
  rw [this]
end Go.Proofs.YtpopmiodjibljaaGreatDoor


namespace Go.Proofs.YtpopmiodjibljaaGreatDoor
open Go Go.Abs
set_option linter.unusedVariables false
set_option maxRecDepth 100000
set_option linter.unusedSimpArgs false
theorem isIn1_tr (c : Int) (x : Int × Int) : PTr Tryz.prog 122 ([.agg (spanC x)] ++ [.dp [i64 c]]) (.bool (inP c x)) := by
  refine PTr.of_body (N := 14) Tryz.func122 rfl rfl rfl ?_
  unfold inP
  refine ae0 (ag 2 rfl (AC.pln (AOp.boxD 2 rfl rfl (isVal_or rfl) rfl (ab (ag 10 rfl (AC.toOps ?_))))))
  by_cases h : c ≥ x.1
  · rw [decide_eq_true h]
    refine ab (ag 9 rfl (AC.nilE ?_))
    refine bodyQ_r (ResOk.one rfl rfl) ?_
    rfl
  · rw [decide_eq_false h]
    refine ab (ag 9 rfl (AC.nilE ?_))
    refine bodyQ_r (ResOk.one rfl rfl) ?_
    rfl
theorem isIn_tr (l : List (Int × Int)) (hl : l.length ≤ maxLen) (c : Int) : PTr Tryz.prog 64 [.ds (l.map spanC), i64 c] (.bool (l.any (inP c))) := by
  refine PTr.of_body (N := 8) Tryz.func64 rfl rfl rfl ?_
  refine ae0 (ag 2 rfl (AC.pln (AOp.boxD 3 rfl rfl (isVal_or rfl) rfl (ab (ag 7 rfl (AC.toOps ?_))))))
  refine AOps.pln (AOp.callPG rfl rfl rfl (containsFunc_tr l (inP c) _ _ hl fun x _ => isIn1_tr c x).g ?_)
  refine ab (ag 4 rfl (AC.nilE ?_))
  refine bodyQ_r (ResOk.one rfl rfl) ?_
  rfl
theorem cloneS_tr (l : List (Int × Int)) (hst : l.length ≤ 1000000) : TrG [] Tryz.prog 118 [.ds (l.map spanC)] [] fun v H' => ∃ g, (g = none → l = []) ∧ v = outV 2 g (l.map spanC).length ∧ H' = outH 166 2 g (l.map spanC) := by
  refine TrG.of_body (N := 8) Tryz.func118 rfl rfl rfl ?_
  refine ae0 (ag 9 rfl (AC.toOps ?_))
  refine AOps.pln (AOp.eqNilDs okL rfl rfl rfl rfl fun b hb => ?_)
  refine ab (ag 2 rfl (AC.toCode ?_))
  (refine AWp.condCase rfl (fun h => ?_) (fun h => ?_))
  · have h0 : l = [] := List.map_eq_nil_iff.1 (hb h)
    refine ae (ag 7 rfl (AC.nilE ?_))
    refine bodyQ_r (ResOk.one rfl rfl) ?_
    exact ⟨none, fun _ => h0, by rw [h0]; rfl, by rw [h0]; rfl⟩
  · refine ae (ag 4 rfl (AC.pln (AOp.buildSlice okL rfl rfl rfl rfl rfl rfl rfl rfl rfl rfl rfl (fun _ _ => (ab (ag 1 rfl (AC.toOps ?_)))))))
    rename_i rb _
    refine AOps.pln (AOp.appendG (g := some rb) (elems := []) (news := l.map spanC) (pre := []) okL rfl (fun h => by cases h) rfl rfl (.ds _) rfl rfl rfl rfl (fun c hc => by obtain ⟨y, _, rfl⟩ := List.mem_map.1 hc; rfl) (fun c hc => by obtain ⟨y, _, rfl⟩ := List.mem_map.1 hc; rfl) (by simp only [List.length_map, List.length_nil, maxLen]; omega) (by simp only [List.length_map, List.length_nil]; omega) rfl fun g' hg' => ?_)
    rw [List.nil_append] at hg' ⊢
    refine ab (ag 4 rfl (AC.nilE ?_))
    refine bodyQ_r (ResOk.one rfl rfl) ?_
    exact ⟨g', fun e => List.map_eq_nil_iff.1 (hg' e), rfl, rfl⟩
/-- The characters whose folds are looked at. -/
def foldAt (k : Nat) : Int := if k < 8192 then k else if k = 8192 then 8490 else if k = 8193 then 8491 else 64256 + ((k : Int) - 8194)
theorem folded_tr (f : FuncId) (cap : List A) (RA : Nat → Heap → Prop) (H : Heap) (h0 : RA 0 H)
    (hs : ∀ k H, k < 8201 → RA k H → TrG [] Tryz.prog f ([i64 (foldAt k)] ++ cap) H fun v H' => RA (k + 1) H') : TrG [] Tryz.prog 116 [.fn f [] cap] H fun v H' => RA 8201 H' := by
  refine TrG.of_body (N := 22) Tryz.func116 rfl rfl rfl ?_
  refine ae0 (ag 7 rfl (AC.toCode ?_))
  refine AWp.loopM (α := Nat × Heap) (fun k => 8192 - k.1) (fun k => [(0, .fn f [] cap), (4, i64 k.1)]) (fun k => k.2)
    (fun k => k.1 ≤ 8192 ∧ RA k.1 k.2) (0, H) ⟨Nat.zero_le _, h0⟩ ?_ (List.Perm.refl _) ?_
  · simp only [AllIn]
    refine ⟨rfl, rfl, trivial⟩
  rintro ⟨k, Hk⟩ ⟨hk, hm⟩ ih
  simp only at hk hm
  refine ae0 (ag 6 rfl (AC.toCode ?_))
  (refine AWp.condCase rfl (fun h => ?_) (fun h => ?_))
  · have h : (k : Int) < 8192 := of_decide_eq_true h
    have nx := nxt (k := k) (n := 8192) (by omega) (by decide)
    have hk1 : foldAt k = (k : Int) := if_pos (by omega)
    have st := hs k Hk (by omega) hm
    rw [hk1] at st
    refine ae (ag 13 rfl (AC.toOps ?_))
    refine AOps.pln (AOp.callH rfl rfl rfl st fun v H' hr => ?_)
    refine ab (ag 7 rfl (AC.nilE (seqQ_n ?_)))
    (refine AIn.nextN 0 (ih ((k + 1, H')) (⟨by simp only; omega, hr⟩) (by omega)) ?_ rfl; repeat (first | exact trivial | refine ⟨rfl, ?_⟩ | refine ⟨congrArg some nx, ?_⟩))
  have h : ¬ (k : Int) < 8192 := of_decide_eq_false h
  have hk8 : k = 8192 := by omega
  subst hk8
  refine ae (ag 2 rfl (AC.nilE (ae (ag 3 rfl (AC.toOps ?_)))))
  refine AOps.pln (AOp.callH rfl rfl rfl (hs 8192 Hk (by omega) hm) fun v H' hr => ?_)
  refine ab (ag 5 rfl (AC.toOps ?_))
  refine AOps.pln (AOp.callH rfl rfl rfl (hs 8193 H' (by omega) hr) fun v2 H2 hr2 => ?_)
  refine ab (ag 8 rfl (AC.toCode ?_))
  refine AWp.loopM (α := Nat × Heap) (fun k => 7 - k.1) (fun k => [(0, .fn f [] cap), (3, i64 (64256 + (k.1 : Int)))]) (fun k => k.2)
    (fun k => k.1 ≤ 7 ∧ RA (8194 + k.1) k.2) (0, H2) ⟨Nat.zero_le _, hr2⟩ ?_ (List.Perm.refl _) ?_
  · simp only [AllIn]
    refine ⟨rfl, rfl, trivial⟩
  rintro ⟨j, Hj⟩ ⟨hj, hmj⟩ ih
  simp only at hj hmj
  refine ae0 (ag 7 rfl (AC.toCode ?_))
  (refine AWp.condCase rfl (fun g => ?_) (fun g => ?_))
  · have g : 64256 + (j : Int) ≤ 64262 := of_decide_eq_true g
    have hj1 : foldAt (8194 + j) = 64256 + (j : Int) := by
      unfold foldAt
      rw [if_neg (by omega), if_neg (by omega), if_neg (by omega)]
      omega
    have st := hs (8194 + j) Hj (by omega) hmj
    rw [hj1] at st
    have hwj : A.int .i64 (IntKind.i64.wrap (64256 + (j : Int) + 1)) = .int .i64 (64256 + ((j + 1 : Nat) : Int)) := by rw [wr_id ⟨by omega, by omega⟩]; congr 1
    refine ae (ag 7 rfl (AC.toOps ?_))
    refine AOps.pln (AOp.callH rfl rfl rfl st fun v3 H3 hr3 => ?_)
    refine ab (ag 8 rfl (AC.nilE (seqQ_n ?_)))
    rw [hwj]
    (refine AIn.nextN 0 (ih ((j + 1, H3)) (⟨by simp only; omega, hr3⟩) (by omega)) ?_ rfl; repeat (first | exact trivial | refine ⟨rfl, ?_⟩))
  · have g : ¬ 64256 + (j : Int) ≤ 64262 := of_decide_eq_false g
    have hj7 : j = 7 := by omega
    subst hj7
    refine ae (ag 2 rfl (AC.nilE (ax (ag 1 rfl (AC.nilE ?_)))))
    refine bodyQ_r (ResOk.none rfl) ?_
    exact hmj
end Go.Proofs.YtpopmiodjibljaaGreatDoor


namespace Go.Proofs.YtpopmiodjibljaaGreatDoor
open Go Go.Abs
set_option linter.unusedVariables false
set_option maxRecDepth 100000
set_option linter.unusedSimpArgs false
def mkE (k : List UInt8) : A × A := (.str k, .bool true)
def idxK (k : List UInt8) : List (List UInt8) → Option Nat
  | [] => none
  | x :: l => if (k == x) = true then some 0 else (idxK k l).map (· + 1)
theorem findM_str (k : List UInt8) : ∀ ks, findM (.str k) (ks.map mkE) = some ((idxK k ks).map fun i => (i, .bool true))
  | [] => rfl
  | x :: l => by
    have e : findM (.str k) ((x :: l).map mkE) = match some (k == x) with
      | some true => some (some (0, .bool true))
      | some false => match findM (.str k) (l.map mkE) with
        | some (some (i, u)) => some (some (i + 1, u))
        | some none => some none
        | none => none
      | none => none := rfl
    have e2 : idxK k (x :: l) = if (k == x) = true then some 0 else (idxK k l).map (· + 1) := rfl
    rw [e, findM_str k l, e2]
    cases h : (k == x) with
    | true => rfl
    | false =>
      rw [if_neg Bool.false_ne_true]
      cases idxK k l <;> rfl
theorem idxK_mem (k : List UInt8) : ∀ ks, (idxK k ks).isSome = true ↔ k ∈ ks
  | [] => by simp [idxK]
  | x :: l => by
    unfold idxK
    cases h : (k == x) with
    | true => have : k = x := by simpa using h
              simp [this]
    | false =>
      have : k ≠ x := by simpa using h
      rw [if_neg Bool.false_ne_true, Option.isSome_map, idxK_mem k l, List.mem_cons]
      exact ⟨.inr, fun hh => hh.resolve_left this⟩
theorem idxK_set (k : List UInt8) : ∀ (ks : List (List UInt8)) (i : Nat), idxK k ks = some i → ks.set i k = ks
  | [], i, h => by cases h
  | x :: l, i, h => by
    unfold idxK at h
    cases hk : (k == x) with
    | true =>
      rw [hk, if_pos rfl] at h
      have : k = x := by simpa using hk
      cases h
      rw [this]
      rfl
    | false =>
      rw [hk, if_neg Bool.false_ne_true, Option.map_eq_some_iff] at h
      obtain ⟨j, hj, rfl⟩ := h
      rw [List.set_cons_succ, idxK_set k l j hj]
def addK (ks : List (List UInt8)) (k : List UInt8) : List (List UInt8) := if (idxK k ks).isSome = true then ks else ks ++ [k]
theorem mem_addK {ks : List (List UInt8)} {k x : List UInt8} : x ∈ addK ks k ↔ x ∈ ks ∨ x = k := by
  unfold addK
  by_cases h : (idxK k ks).isSome = true
  · rw [if_pos h]
    have := (idxK_mem k ks).1 h
    exact ⟨.inl, fun hh => hh.elim id fun e => e ▸ this⟩
  · rw [if_neg h]
    simp
theorem putM_str (ks : List (List UInt8)) (k : List UInt8) : putM (ks.map mkE) (.str k) (.bool true) = some ((addK ks k).map mkE) := by
  unfold putM addK
  rw [findM_str]
  cases h : idxK k ks with
  | none => simp [mkE]
  | some i =>
    simp only [Option.map_some, Option.isSome_some, if_true]
    rw [show ((A.str k, A.bool true) : A × A) = mkE k from rfl, ← List.map_set, idxK_set k ks i h]
def stepK (l : List (Int × Int)) (ks : List (List UInt8)) (c : Int) : List (List UInt8) := if l.any (inP c) = true then addK ks (foldS c) else ks
abbrev cellM (rm : Nat) : Blk := .row 162 1 [[.map rm]]
/-- Calls and lookups read, an update writes. -/
def foldK (o : Oper) : Nat := match o.op with | .load 162 _ => 1 | .call .. => 1 | .lookup .. => 1 | .mapUpdate .. => 2 | _ => 0
theorem widened1_tr (l : List (Int × Int)) (hl : l.length ≤ maxLen) (rm r3 : Nat) (ks : List (List UInt8)) (c : Int) :
    TrG [] Tryz.prog 117 ([i64 c] ++ [.dp [.ds (l.map spanC)], .ptr r3 1 0 0]) [(r3, cellM rm), (rm, .map (ks.map mkE))] fun v H' => H' = [(r3, cellM rm), (rm, .map ((stepK l ks c).map mkE))] := by
  refine TrG.of_body (N := 10) Tryz.func117 rfl rfl rfl ?_
  unfold stepK
  refine ae0 (ag 4 rfl (AC.pln (AOp.callP rfl rfl rfl (isIn_tr l hl _) (ab (ag 2 rfl (AC.toCode ?_))))))
  cases h : l.any (inP c) with
  | false =>
    refine ae (ag 2 rfl (AC.nilE ?_))
    refine bodyQ_n (ResOk.none rfl) ?_
    rfl
  | true =>
    refine ae (ag 1 rfl (AC.toCode ?_))
    refine Flex.AWp.draw foldK (fun _ => default) okL hmix (by kernel_rfl) ?_
    (repeat (first | refine Flex.Plan.pure rfl rfl rfl ?_ | refine Flex.Plan.quiet rfl rfl (.inl rfl) (AOp.load okL rfl (.head _) rfl rfl rfl rfl (AOps.nil (Flex.Qn_n ⟨rfl, rfl⟩))) ?_))
    refine Flex.Plan.quiet rfl rfl (.inl rfl) (AOp.callPG rfl rfl rfl (foldOf_tr _).g (AOps.nil (Flex.Qn_n ⟨rfl, rfl⟩))) ?_
    refine Flex.Plan.eff (R := fun v H' => v = .tup [] ∧ H' = [(r3, cellM rm), (rm, .map ((addK ks (foldS c)).map mkE))]) rfl rfl rfl ⟨_, _, rfl, rfl⟩ (AOp.mapUpdate okL rfl rfl rfl rfl rfl rfl rfl (putM_str _ _) (.there .here) rfl (AOps.nil (Flex.Qn_n ⟨rfl, rfl⟩))) ?_
    rintro v H' ⟨rfl, rfl⟩
    refine Flex.Plan.nil ?_
    refine ax (AC.nilE ?_)
    refine bodyQ_n (ResOk.none rfl) ?_
    rfl
def cellO2 (g : Option Nat) (n : Nat) : List A := [outV 2 g n]
def stepO (ks : List (List UInt8)) (out : List (Int × Int)) (c : Int) : List (Int × Int) := if (idxK (foldS c) ks).isSome = true then out ++ [(c, c)] else out
theorem widened2_tr (rm r3 : Nat) (ks : List (List UInt8)) (r4 : Nat) (g : Option Nat) (out : List (Int × Int)) (hg : g = none → out = []) (ho : out.length ≤ 1000000) (c : Int) :
    TrG [] Tryz.prog 119 ([i64 c] ++ [.ptr r3 1 0 0, .ptr r4 1 0 0]) ((r4, .row 22 1 [cellO2 g out.length]) :: (r3, cellM rm) :: (rm, .map (ks.map mkE)) :: outH 166 2 g (out.map spanC))
      fun v H' => ∃ g', (g' = none → stepO ks out c = []) ∧ H' = (r4, .row 22 1 [cellO2 g' (stepO ks out c).length]) :: (r3, cellM rm) :: (rm, .map (ks.map mkE)) :: outH 166 2 g' ((stepO ks out c).map spanC) := by
  refine TrG.of_body (N := 14) Tryz.func119 rfl rfl rfl ?_
  unfold stepO
  refine ae0 (ag 1 rfl (AC.toCode ?_))
  refine Flex.AWp.draw foldK (fun _ => default) okL hmix (by kernel_rfl) ?_
  (repeat (first | refine Flex.Plan.pure rfl rfl rfl ?_ | refine Flex.Plan.quiet rfl rfl (.inl rfl) (AOp.load okL rfl (.tail _ (.head _)) rfl rfl rfl rfl (AOps.nil (Flex.Qn_n ⟨rfl, rfl⟩))) ?_))
  refine Flex.Plan.quiet rfl rfl (.inl rfl) (AOp.callPG rfl rfl rfl (foldOf_tr _).g (AOps.nil (Flex.Qn_n ⟨rfl, rfl⟩))) ?_
  refine Flex.Plan.quiet rfl rfl (.inl rfl) (AOp.lookup okL rfl (.tail _ (.tail _ (.head _))) rfl rfl rfl rfl rfl rfl (findM_str _ _) rfl (AOps.nil (Flex.Qn_n ⟨rfl, rfl⟩))) ?_
  refine Flex.Plan.nil ?_
  cases h : idxK (foldS c) ks with
  | none =>
    refine ae (ag 2 rfl (AC.nilE ?_))
    refine bodyQ_n (ResOk.none rfl) ?_
    exact ⟨g, hg, rfl⟩
  | some i =>
    refine ae (ag 2 rfl (AC.pln (AOp.load okL rfl (.head _) rfl rfl rfl rfl (ab (ag 3 rfl (AC.pln (AOp.buildSlice okL rfl rfl rfl rfl rfl rfl rfl rfl rfl rfl rfl (fun _ _ => (ab (AC.toOps ?_))))))))))
    refine AOps.pln (AOp.pushM spanC g out (c, c) [_, _, _] okL hg rfl rfl rfl rfl rfl rfl rfl rfl rfl (by omega) rfl rfl fun r' => ?_)
    refine ab (AC.pln (AOp.store okL rfl rfl rfl (isVal_or rfl) rfl rfl rfl .here rfl rfl rfl (ab (ag 1 rfl (AC.nilE ?_)))))
    refine bodyQ_n (ResOk.none rfl) ?_
    exact ⟨some r', (fun h => nomatch h), rfl⟩
end Go.Proofs.YtpopmiodjibljaaGreatDoor


namespace Go.Abs
open Go Go.Sort
set_option linter.unusedVariables false
/-! A block of spans, sorted: the kit's words for the world behind it. -/
def encSp (x : Int × Int) : List Value := [.int .i64 x.1, .int .i64 x.2]
theorem spans_in {fr : Nat → Prop} {H : Heap} {w : World} {r e : Nat} {l : List (Int × Int)} (h : BlkOk w (own fr H) r (.row e 2 (l.map spanC))) :
    ∃ c : Array Value, w.heap[r]? = some (.cells c e (0, 0)) ∧ l.length * 2 ≤ c.size ∧ ∀ i (hi : i < l.length), c[i * 2]? = some (.int .i64 l[i].1) ∧ c[i * 2 + 1]? = some (.int .i64 l[i].2) ∧ inR .i64 l[i].1 ∧ inR .i64 l[i].2 := by
  obtain ⟨c, h1, h2, h3, h4⟩ := h
  refine ⟨c, h1, by simpa using h2, fun i hi => ?_⟩
  obtain ⟨v, a1, a2, _⟩ := h4 i (by simpa using hi) 0 (by simp [spanC])
  obtain ⟨u, b1, b2, _⟩ := h4 i (by simpa using hi) 1 (by simp [spanC])
  simp only [List.getElem_map, spanC, List.getElem_cons_zero, List.getElem_cons_succ] at a2 b2
  cases a2 with
  | int _ _ ha =>
  cases b2 with
  | int _ _ hb =>
  exact ⟨a1, b1, ha, hb⟩
theorem flat_at (d : Array (Int × Int)) (i : Nat) (hi : i < d.size) : (flatK encSp 2 d)[i * 2]! = .int .i64 d[i].1 ∧ (flatK encSp 2 d)[i * 2 + 1]! = .int .i64 d[i].2 := by
  have e1 : i * 2 / 2 = i := by omega
  have e2 : i * 2 % 2 = 0 := by omega
  have e3 : (i * 2 + 1) / 2 = i := by omega
  have e4 : (i * 2 + 1) % 2 = 1 := by omega
  constructor
  · rw [get_flatK _ _ _ _ (by omega), e1, e2, getElem!_pos d i hi]; rfl
  · rw [get_flatK _ _ _ _ (by omega), e3, e4, getElem!_pos d i hi]; rfl
theorem holds_spans {fr : Nat → Prop} {H : Heap} {w : World} {r e : Nat} {l : List (Int × Int)} (h : BlkOk w (own fr H) r (.row e 2 (l.map spanC))) : HoldsK encSp 2 w r 0 l.toArray := by
  obtain ⟨c, h1, h2, h3⟩ := spans_in h
  intro j hj
  rw [size_flatK] at hj
  simp only [List.size_toArray] at hj
  have hc : w.cell? ⟨r, 0 + j, none⟩ = c[j]? := by
    rw [Nat.zero_add]
    simp only [World.cell?, h1]
    rfl
  have hf : w.frozen? ⟨r, 0 + j, none⟩ = false := by
    simp only [World.frozen?, h1]
    simp
  refine ⟨?_, hf⟩
  rw [hc]
  have hi : j / 2 < l.length := by omega
  have hk := h3 (j / 2) hi
  have hfl := flat_at l.toArray (j / 2) (by simpa using hi)
  simp only [List.getElem_toArray] at hfl
  rcases Nat.mod_two_eq_zero_or_one j with h0 | h0
  · have e : j / 2 * 2 = j := by omega
    rw [e] at hk hfl
    rw [hfl.1]; exact hk.1
  · have e : j / 2 * 2 + 1 = j := by omega
    rw [e] at hk hfl
    rw [hfl.2]; exact hk.2.1
theorem sorted_world {fr : Nat → Prop} {w : World} {r e n : Nat} {l l' : List (Int × Int)} {os : Array Obj} (s : Sim fr [(r, .row e 2 (l.map spanC))] w) (hp : l'.Perm l) :
    Sim fr [(r, .row e 2 (l'.map spanC))] (grow (putRowK encSp 2 (Sort.ahead w n) r 0 l'.toArray) os) ∧ Ext [(r, .row e 2 (l.map spanC))] w [(r, .row e 2 (l'.map spanC))] (grow (putRowK encSp 2 (Sort.ahead w n) r 0 l'.toArray) os) := by
  have hlen := hp.length_eq
  obtain ⟨c, h1, h2, h3⟩ := spans_in (s.ok _ List.mem_cons_self)
  have hlt : r < w.heap.size := (Array.getElem?_eq_some_iff.1 h1).1
  have hheap : ∀ k, k < w.heap.size → (grow (putRowK encSp 2 (Sort.ahead w n) r 0 l'.toArray) os).heap[k]? = if r = k then some (.cells (putCells id 0 (flatK encSp 2 l'.toArray) c) e (0, 0)) else w.heap[k]? := fun k hk => by
    simp only [grow, putRowK, putRow, mapBlock, Sort.ahead]
    rw [Array.getElem?_append_left (by simpa using hk), Array.getElem?_modify]
    split
    · rename_i hrk
      subst hrk
      rw [h1]; rfl
    · rfl
  have hsize : w.heap.size ≤ (grow (putRowK encSp 2 (Sort.ahead w n) r 0 l'.toArray) os).heap.size := by
    simp [grow, putRowK, putRow, mapBlock, Sort.ahead]
  have hcs : (putCells id 0 (flatK encSp 2 l'.toArray) c).size = c.size := by simp [putCells]
  have hcell : ∀ t, t < l'.length * 2 → (putCells id 0 (flatK encSp 2 l'.toArray) c)[t]? = some ((flatK encSp 2 l'.toArray)[t]!) := fun t ht => by
    simp only [putCells, Array.getElem?_mapIdx]
    rw [Array.getElem?_eq_getElem (show t < c.size by omega)]
    simp only [Option.map_some, Nat.zero_add, Nat.sub_zero, id]
    rw [if_pos ⟨Nat.zero_le _, by rw [size_flatK]; simpa using ht⟩]
  have hrange : ∀ x ∈ l', inR .i64 x.1 ∧ inR .i64 x.2 := fun x hx => by
    obtain ⟨i, hi, rfl⟩ := List.mem_iff_getElem.1 (hp.mem_iff.1 hx)
    exact (h3 i hi).2.2
  refine ⟨⟨s.nodup, s.apart, fun k hk => Nat.lt_of_lt_of_le (s.old k hk) hsize, fun p hp' => ?_⟩, ⟨rfl, rfl, rfl, hsize, fun k hk hn => ?_, fun k hk => .inl hk, fun k hk c' T' f h => ?_⟩⟩
  · rw [List.mem_singleton.1 hp']
    refine ⟨putCells id 0 (flatK encSp 2 l'.toArray) c, ?_, by rw [hcs]; simp; omega, fun i hi => by simp [spanC], fun i hi j hj => ?_⟩
    · rw [hheap r hlt, if_pos rfl]
    · have hi' : i < l'.length := by simpa using hi
      have hfl := flat_at l'.toArray i (by simpa using hi')
      simp only [List.getElem_toArray] at hfl
      have hr := hrange l'[i] (List.getElem_mem _)
      simp only [List.getElem_map, spanC, List.length_cons, List.length_nil] at hj ⊢
      match j, hj with
      | 0, _ => exact ⟨_, by rw [Nat.add_zero, hcell _ (by omega), hfl.1], .int _ _ hr.1, rfl⟩
      | 1, _ => exact ⟨_, by rw [hcell _ (by omega), hfl.2], .int _ _ hr.2, rfl⟩
  · rw [hheap k hk, if_neg (fun e => hn (by subst e; simp [keys]))]
  · rw [hheap k hk] at h
    split at h
    · rename_i hrk
      subst hrk
      cases h
      exact ⟨c, _, h1, hcs.symm⟩
    · exact ⟨c', f, h, rfl⟩
end Go.Abs


namespace Go.Proofs.YtpopmiodjibljaaGreatDoor
open Go Go.Abs Go.Lib Go.Sort Go.Shelf Go.RowKit
set_option linter.unusedVariables false
shelf_lay LaysGg.n6 Ggs 6 at Tryz as Tryz.sortSl
noncomputable def svT : TypeInfo := (Tryz.prog.info? 22).get (by kernel_rfl)
noncomputable def svE : TypeInfo := (Tryz.prog.info? 166).get (by kernel_rfl)
theorem svK (n : Nat) (h2 : 2 ≤ n) : Lib.swapperK n svE 25 = 9 := by
  have a : svE.hasPointers = false := by kernel_rfl
  have b : svE.bytes = 16 := by kernel_rfl
  have c : (n == 0) = false := by simp; omega
  have d : (n == 1) = false := by simp; omega
  simp [Lib.swapperK, a, b, c, d]
def ltLo2 (x y : Int × Int) : Bool := decide (x.1 < y.1)
theorem swo_ltLo2 : SWO ltLo2 where
  irrefl x := by simp [ltLo2]
  trans x y z h1 h2 := by simp [ltLo2] at *; omega
  ntrans x y z h1 h2 := by simp [ltLo2] at *; omega
end Go.Proofs.YtpopmiodjibljaaGreatDoor


namespace Go.Proofs.YtpopmiodjibljaaGreatDoor
open Go Go.Abs Go.Lib Go.Sort Go.Shelf Go.RowKit
set_option linter.unusedVariables false
set_option maxHeartbeats 2000000 in
theorem lessSp (blk off c Bs size : Nat) (W : World) (G : Nat → Int) (hs : W.cell? ⟨Bs, 0, none⟩ = some (.slice (some ⟨blk, off, none⟩) size c))
    (hc : ∀ t, t < size → W.cell? ⟨blk, off + t * 2, none⟩ = some (.int .i64 (G t))) (i j : Nat) (hi : i < size) (hj : j < size) (_hsz : size < 4611686018427387904) :
    Calls Tryz.prog 168 #[.int .i64 i, .int .i64 j, .pointer (some ⟨Bs, 0, none⟩)] W fun e w' => e = .returned (.bool (decide (G i < G j))) ∧ ∃ q, w' = W.drewN q := by
  have ci := hc i hi
  have cj := hc j hj
  go_enter Tryz.func168, Tryz.ntmps168
  go_wp2
  go_quiet (fail)
  go_wp2
  go_ret
  exact ⟨rfl, nq, rfl⟩
end Go.Proofs.YtpopmiodjibljaaGreatDoor


namespace Go.Proofs.YtpopmiodjibljaaGreatDoor
open Go Go.Abs Go.Lib Go.Sort Go.Shelf Go.RowKit
set_option linter.unusedVariables false
theorem sortCan : Callable Tryz.prog 167 := ⟨Tryz.f167, by kernel_rfl, by kernel_rfl, by kernel_rfl⟩
theorem sortBig (blk off c Bs c1 : Nat) (d : Array (Int × Int)) (h2 : 2 ≤ d.size) (hsz : d.size < 4611686018427387904) (w : World) (hH : HoldsK encSp 2 w blk off d) (hblk : blk < w.heap.size)
    (hBs : w.cell? ⟨Bs, 0, none⟩ = some (.slice (some ⟨blk, off, none⟩) d.size c1)) (hB1 : Bs < w.heap.size) (hB2 : Bs ≠ blk) :
    Calls Tryz.prog 167 #[.iface 22 (.slice (some ⟨blk, off, none⟩) d.size c), .func (.func 168) #[] #[.pointer (some ⟨Bs, 0, none⟩)]] w fun e w' =>
      e = .returned (.tuple #[]) ∧ ∃ d' n os, PermIn 0 d.size d d' ∧ SortedIn ltLo2 0 d.size d' ∧ w' = grow (putRowK encSp 2 (Sort.ahead w n) blk off d') os := by
  have hless : LessReadsK Tryz.prog 168 #[.pointer (some ⟨Bs, 0, none⟩)] encSp 2 ltLo2 blk off d.size w := by
    intro m os dk hs i j hi hj
    have e : sortWorldK encSp 2 w blk off m dk os = putRowK encSp 2 (grow (Sort.ahead w m) os) blk off dk := by
      unfold sortWorldK; rw [putRowK_grow _ _ (Sort.ahead w m) _ blk off _ hblk]
    have hHg : HoldsK encSp 2 (grow (Sort.ahead w m) os) blk off d := holdsK_grow _ _ _ _ blk off d hblk (holdsK_ahead _ _ _ _ _ _ _ hH)
    refine lessSp blk off c1 Bs d.size _ (fun t => dk[t]!.1) ?_ (fun t ht => ?_) i j hi hj (by omega)
    · rw [e, cell?_putRowK_other _ _ _ blk off dk _ (by exact hB2), cell?_grow _ _ _ (by exact hB1)]; exact hBs
    · rw [e]; exact ((holdsK_putRowK _ _ _ blk off d dk hHg hs).cell (i := t) (c := 0) (by omega) (by omega)).1
  exact Any.sort_Slice_cells_sorted Tryz.sortSl 22 166 svT svE (by kernel_rfl) (by kernel_rfl) (by kernel_rfl) (by kernel_rfl) 25 (fun _ => by kernel_rfl) encSp 2 (fun _ => rfl) (by kernel_rfl) (fun _ => by kernel_rfl)
    (fun x v hv => by simp [encSp] at hv; rcases hv with rfl | rfl <;> rfl) ltLo2 swo_ltLo2 168 _
    (enters_of Tryz.func168 (by kernel_rfl) rfl) blk off c d h2 hsz 269 (by rw [svK _ h2]; kernel_rfl) false
    (fun args W => run_callFunc_extern Tryz.func269 (by kernel_rfl) (by kernel_rfl) (by kernel_rfl) (e := Extern.ReflectliteSwapper.swap false) (by kernel_rfl) args W) w hless hH hblk
theorem sortTiny (p : Option Addr) (n c : Nat) (h1 : n ≤ 1) (w : World) (lb : Array Value) :
    Calls Tryz.prog 167 #[.iface 22 (.slice p n c), .func (.func 168) #[] lb] w fun e w' => e = .returned (.tuple #[]) ∧ ∃ os, w' = grow w os := by
  have hK : Lib.swapperK n svE 25 = n + 1 := by
    rcases Nat.eq_zero_or_pos n with h | h
    · subst h; simp [Lib.swapperK]
    · obtain rfl : n = 1 := by omega
      simp [Lib.swapperK]
  exact Any.sort_Slice_tiny Tryz.sortSl 22 166 svT svE (by kernel_rfl) (by kernel_rfl) (by kernel_rfl) (by kernel_rfl) 25 (fun _ => by kernel_rfl) p n c h1 (261 + n) (by
    rw [hK]
    rcases Nat.eq_zero_or_pos n with h | h
    · subst h; kernel_rfl
    · obtain rfl : n = 1 := by omega
      kernel_rfl) _ _ _ w
end Go.Proofs.YtpopmiodjibljaaGreatDoor


namespace Go.Proofs.YtpopmiodjibljaaGreatDoor
open Go Go.Abs Go.Lib Go.Sort Go.Shelf Go.RowKit
set_option linter.unusedVariables false
theorem asc_of {l : List (Int × Int)} {d' : Array (Int × Int)} (p1 : l.length = d'.size) (hs : SortedIn ltLo2 0 l.length d') : asc d'.toList := by
  refine List.pairwise_iff_getElem.2 fun i j hi hj hij => ?_
  have hi' : i < d'.size := by simpa using hi
  have hj' : j < d'.size := by simpa using hj
  have := hs i j (Nat.zero_le _) hij (by omega)
  rw [ltLo2, getElem!_pos d' i hi', getElem!_pos d' j hj'] at this
  have := of_decide_eq_false this
  simp only [Array.getElem_toList]
  omega
theorem sortSl_tr (r r1 : Nat) (l : List (Int × Int)) (hl : l.length ≤ 1000000) :
    Tr Tryz.prog 167 [.iface 22 (.os r 2 0 l.length), .fn 168 [] [.ptr r1 1 0 0]] ([(r, .row 166 2 (l.map spanC))] ++ [(r1, .row 22 1 [[.os r 2 0 l.length]])])
      fun v H' => v = .tup [] ∧ ∃ l' : List (Int × Int), l'.Perm l ∧ asc l' ∧ H' = [(r, .row 166 2 (l'.map spanC))] ++ [(r1, .row 22 1 [[.os r 2 0 l.length]])] := by
  refine ⟨sortCan, fun fr w vs s hr => ?_⟩
  have s1 := s.split
  have hrow : BlkOk w (own (fun k => fr k ∨ k ∈ keys [(r1, Blk.row 22 1 [[A.os r 2 0 l.length]])]) [(r, .row 166 2 (l.map spanC))]) r (.row 166 2 (l.map spanC)) := s1.ok _ List.mem_cons_self
  have hblk : r < w.heap.size := hrow.lt
  have hcell := s.ok (r1, .row 22 1 [[.os r 2 0 l.length]]) (by simp)
  obtain ⟨cc, e1, e2, e3, e4⟩ := hcell
  obtain ⟨v1, f1, f2, _⟩ := e4 0 (by simp) 0 (by simp)
  simp only [List.getElem_cons_zero] at f2
  have hne : r1 ≠ r := by
    have := s.nodup
    simp [keys] at this
    exact fun e => this e.symm
  have hB1 : r1 < w.heap.size := (Array.getElem?_eq_some_iff.1 e1).1
  cases hr with
  | cons h1 ht =>
  cases ht with
  | cons h2 ht =>
  cases ht
  obtain ⟨fs, cs, rfl, q1, q2⟩ := h2.fn_inv
  have g1 : fs = #[] := by
    generalize hq : fs.toList = q at q1
    cases q1
    have := congrArg List.toArray hq
    simpa using this
  have g2 : cs = #[.pointer (some ⟨r1, 0, none⟩)] := by
    generalize hq : cs.toList = q at q2
    cases q2 with
    | cons k1 k2 =>
    cases k2
    cases k1
    have := congrArg List.toArray hq
    simpa using this
  subst g1 g2
  cases h1 with
  | iface _ _ _ h1 =>
  cases h1 with
  | os _ _ _ _ cap hrr hcap hmax hroom =>
  cases f2 with
  | os _ _ _ _ cap1 hrr1 hcap1 hmax1 hroom1 =>
  have hBs : w.cell? ⟨r1, 0, none⟩ = some (.slice (some ⟨r, 0, none⟩) l.length cap1) := by
    have : w.cell? ⟨r1, 0, none⟩ = cc[0]? := by
      simp only [World.cell?, e1]
      rfl
    rw [this]
    simpa using f1
  simp only [Nat.zero_mul]
  have fin : ∀ (w' : World), (∃ l' : List (Int × Int), l'.Perm l ∧ asc l' ∧ ∃ n os, w' = grow (putRowK encSp 2 (Sort.ahead w n) r 0 l'.toArray) os) → ∃ r' H' v, (Ending.returned (Value.tuple #[])) = .returned v ∧ (r' = .tup [] ∧ ∃ l' : List (Int × Int), l'.Perm l ∧ asc l' ∧ H' = [(r, Blk.row 166 2 (l'.map spanC))] ++ [(r1, .row 22 1 [[.os r 2 0 l.length]])]) ∧ Sim fr H' w' ∧ Rep w' (own fr H') r' v ∧ Ext ([(r, Blk.row 166 2 (l.map spanC))] ++ [(r1, .row 22 1 [[.os r 2 0 l.length]])]) w H' w' := by
    rintro w' ⟨l', hp, ha, n, os, rfl⟩
    obtain ⟨s', x'⟩ := sorted_world (n := n) (os := os) s1 hp
    exact ⟨.tup [], _, _, rfl, ⟨rfl, l', hp, ha, rfl⟩, Sim.join s s' x', Rep.tup_of .nil, x'.frame⟩
  by_cases hn : 2 ≤ l.length
  · have hc := sortBig r 0 cap r1 cap1 l.toArray (by simpa using hn) (by simp; omega) w (holds_spans hrow) hblk (by simpa using hBs) hB1 hne
    simp only [List.size_toArray] at hc
    refine hc.mono ?_
    rintro e w' ⟨rfl, d', n, os, hp, hs, rfl⟩
    obtain ⟨p1, _, p3⟩ := hp
    simp only [List.size_toArray] at p1
    have e1 : (d'.extract 0 l.length).toList = d'.toList := by simp [← p1]
    have e2 : (l.toArray.extract 0 l.length).toList = l := by simp
    rw [e1, e2] at p3
    exact fin _ ⟨d'.toList, p3, asc_of p1.symm hs, n, os, by simp⟩
  · have hc := sortTiny (some ⟨r, 0, none⟩) l.length cap (by omega) w #[.pointer (some ⟨r1, 0, none⟩)]
    refine hc.mono ?_
    rintro e w' ⟨rfl, os, rfl⟩
    refine fin _ ⟨l, List.Perm.refl _, ?_, 0, os, ?_⟩
    · match l, hn with
      | [], _ => exact List.Pairwise.nil
      | [x], _ => exact List.pairwise_singleton _ _
      | _ :: _ :: _, hn => exact absurd (by simp) hn
    · have : putRowK encSp 2 (Sort.ahead w 0) r 0 l.toArray = w := by
        show putRow id w r 0 (flatK encSp 2 l.toArray) = w
        exact putRow_self _ _ r 0 _ (holds_spans hrow)
      rw [this]
end Go.Proofs.YtpopmiodjibljaaGreatDoor


namespace Go.Proofs.YtpopmiodjibljaaGreatDoor
open Go Go.Abs Go.Lib Go.Sort Go.Shelf Go.RowKit
set_option linter.unusedVariables false
theorem grown {fr : Nat → Prop} {w : World} (s : Sim fr [] w) (os : Array Obj) : Sim fr [] (grow w os) ∧ Ext [] w [] (grow w os) := by
  have hs : w.heap.size ≤ (grow w os).heap.size := by simp [grow]
  have hh : ∀ k, k < w.heap.size → (grow w os).heap[k]? = w.heap[k]? := fun k hk => by
    simp only [grow]
    rw [Array.getElem?_append_left hk]
  refine ⟨⟨List.nodup_nil, fun k hk => (by cases hk), fun k hk => Nat.lt_of_lt_of_le (s.old k hk) hs, fun p hp => (by cases hp)⟩, ⟨rfl, rfl, rfl, hs, fun k hk _ => hh k hk, fun k hk => (by cases hk), fun k hk c T f h => ?_⟩⟩
  rw [hh k hk] at h
  exact ⟨c, f, h, rfl⟩
theorem sortNil_tr (r1 : Nat) (b : Blk) : Tr Tryz.prog 167 [.iface 22 .nils, .fn 168 [] [.ptr r1 1 0 0]] [(r1, b)] fun v H' => v = .tup [] ∧ H' = [(r1, b)] := by
  refine ⟨sortCan, fun fr w vs s hr => ?_⟩
  have s0 : Sim fr ([] ++ [(r1, b)]) w := s
  have s1 := s0.split
  cases hr with
  | cons h1 ht =>
  cases ht with
  | cons h2 ht =>
  cases ht
  obtain ⟨fs, cs, rfl, q1, q2⟩ := h2.fn_inv
  have g1 : fs = #[] := by
    generalize hq : fs.toList = q at q1
    cases q1
    have := congrArg List.toArray hq
    simpa using this
  subst g1
  cases h1 with
  | iface _ _ _ h1 =>
  cases h1
  have hc := sortTiny none 0 0 (by omega) w cs
  refine hc.mono ?_
  rintro e w' ⟨rfl, os, rfl⟩
  obtain ⟨s', x'⟩ := grown s1 os
  exact ⟨.tup [], _, _, rfl, ⟨rfl, rfl⟩, Sim.join s0 s' x', Rep.tup_of .nil, x'.frame⟩
end Go.Proofs.YtpopmiodjibljaaGreatDoor


namespace Go.Abs
open Go
set_option linter.unusedVariables false
/-! The insertion sort. -/
theorem perm_asc_eq : ∀ {l1 l2 : List Int}, ascN l1 → ascN l2 → l1.Perm l2 → l1 = l2
  | [], l2, _, _, h => (List.nil_perm.1 h).symm
  | x :: l1, [], _, _, h => absurd (List.perm_nil.1 h) (by simp)
  | x :: l1, y :: l2, h1, h2, h => by
    obtain ⟨a1, a2⟩ := List.pairwise_cons.1 h1
    obtain ⟨b1, b2⟩ := List.pairwise_cons.1 h2
    have e : x = y := by
      have hx : x ∈ y :: l2 := h.mem_iff.1 List.mem_cons_self
      have hy : y ∈ x :: l1 := h.mem_iff.2 List.mem_cons_self
      rcases List.mem_cons.1 hx with rfl | hx
      · rfl
      · rcases List.mem_cons.1 hy with rfl | hy
        · rfl
        · have := b1 x hx; have := a1 y hy; omega
    subst e
    rw [perm_asc_eq a2 b2 h.cons_inv]
def srt (l : List Int) : List Int := l.mergeSort fun a b => decide (a ≤ b)
theorem srt_perm (l : List Int) : (srt l).Perm l := List.mergeSort_perm _ _
theorem srt_asc (l : List Int) : ascN (srt l) := by
  have := List.pairwise_mergeSort (le := fun a b : Int => decide (a ≤ b)) (by intro a b c h1 h2; simp at *; omega) (by intro a b; simp; omega) l
  exact this.imp fun h => by simpa using h
theorem srt_eq {s l : List Int} (hp : s.Perm l) (hs : ascN s) : s = srt l := perm_asc_eq hs (srt_asc l) (hp.trans (srt_perm l).symm)
def sInv (s : List Int) (i k : Nat) : Prop := ∀ p q, p < q → q ≤ i → q ≠ k → s.getD p 0 ≤ s.getD q 0
theorem swap_at {s : List Int} {m : Nat} (h : m + 1 < s.length) : ∃ pre x y post, s = pre ++ x :: y :: post ∧ pre.length = m := by
  refine ⟨s.take m, s[m], s[m + 1], s.drop (m + 2), ?_, by simp; omega⟩
  conv => lhs; rw [← List.take_append_drop m s, List.drop_eq_getElem_cons (show m < s.length by omega), List.drop_eq_getElem_cons h]
theorem swap_set (pre : List Int) (x y : Int) (post : List Int) : ((pre ++ x :: y :: post).set (pre.length + 1) x).set pre.length y = pre ++ y :: x :: post := by
  simp [List.set_append]
theorem getD_pre (pre : List Int) (x y : Int) (post : List Int) (p : Nat) : (pre ++ x :: y :: post).getD p 0 = if p = pre.length then x else if p = pre.length + 1 then y else if p < pre.length then pre.getD p 0 else post.getD (p - pre.length - 2) 0 := by
  simp only [List.getD_eq_getElem?_getD, List.getElem?_append]
  split
  · rename_i h
    rw [if_neg (by omega), if_neg (by omega)]
  · rename_i h
    obtain ⟨d, rfl⟩ : ∃ d, p = pre.length + d := ⟨p - pre.length, by omega⟩
    rw [Nat.add_sub_cancel_left]
    match d with
    | 0 => simp
    | 1 => simp
    | d + 2 => simp
theorem sInv_swap {pre : List Int} {x y : Int} {post : List Int} {i : Nat} (h : sInv (pre ++ x :: y :: post) i (pre.length + 1)) (hxy : y < x) (hi : pre.length + 1 ≤ i) : sInv (pre ++ y :: x :: post) i pre.length := by
  intro p q hpq hq hne
  have key := h
  have g1 := fun p => getD_pre pre x y post p
  have g2 := fun p => getD_pre pre y x post p
  by_cases h1 : q = pre.length + 1
  · subst h1
    by_cases h2 : p = pre.length
    · subst h2
      rw [g2, g2]; simp; omega
    · have := h p pre.length (by omega) (by omega) (by omega)
      rw [g1, g1] at this
      rw [g2, g2]
      simp at this ⊢
      rw [if_neg h2, if_neg (by omega), if_pos (by omega)] at *
      exact this
  · by_cases h2 : p = pre.length
    · subst h2
      have := h (pre.length + 1) q (by omega) hq h1
      rw [g1, g1] at this
      rw [g2, g2]
      simp at this ⊢
      rw [if_neg (by omega), if_neg (by omega), if_neg (by omega)] at *
      exact this
    · by_cases h3 : p = pre.length + 1
      · subst h3
        have := h pre.length q (by omega) hq h1
        rw [g1, g1] at this
        rw [g2, g2]
        simp at this ⊢
        rw [if_neg (by omega), if_neg (by omega), if_neg (by omega)] at *
        exact this
      · have := h p q hpq hq h1
        rw [g1, g1] at this
        rw [g2, g2]
        rw [if_neg h2, if_neg h3, if_neg hne, if_neg h1] at *
        exact this
theorem sInv_stop {s : List Int} {i k : Nat} (h : sInv s i k) (hk : k = 0 ∨ (k ≤ i ∧ s.getD (k - 1) 0 ≤ s.getD k 0)) : sInv s (i + 1) (i + 1) := by
  intro p q hpq hq hne
  by_cases hqk : q = k
  · subst hqk
    rcases hk with rfl | ⟨hk, hle⟩
    · omega
    · by_cases hp : p = q - 1
      · subst hp; exact hle
      · have := h p (q - 1) (by omega) (by omega) (by omega)
        omega
  · exact h p q hpq (by omega) hqk
theorem sInv_asc {s : List Int} (h : sInv s s.length s.length) : ascN s := by
  refine List.pairwise_iff_getElem.2 fun i j hi hj hij => ?_
  have := h i j hij (by omega) (by omega)
  simpa [List.getD_eq_getElem?_getD, hi, hj] using this
end Go.Abs


namespace Go.Abs
open Go
set_option linter.unusedVariables false
/-! What is made so far, and what is to come. -/
def contM (o rest : List (Int × Int)) : List (Int × Int) := match o.getLast? with
  | none => joinM rest
  | some y => o.dropLast ++ mergeF y rest
theorem contM_nil (rest : List (Int × Int)) : contM [] rest = joinM rest := rfl
theorem contM_snoc (pre : List (Int × Int)) (y : Int × Int) (rest : List (Int × Int)) : contM (pre ++ [y]) rest = pre ++ mergeF y rest := by
  simp [contM]
theorem contM_new (x : Int × Int) (rest : List (Int × Int)) : contM [] (x :: rest) = contM ([] ++ [x]) rest := rfl
theorem contM_end (o : List (Int × Int)) : contM o [] = o := by
  rcases List.eq_nil_or_concat o with rfl | ⟨pre, y, rfl⟩
  · rfl
  · rw [List.concat_eq_append, contM_snoc]; rfl
theorem contM_glue {pre : List (Int × Int)} {y x : Int × Int} {rest : List (Int × Int)} (h : x.1 ≤ y.2 + 1) : contM (pre ++ [y]) (x :: rest) = contM (pre ++ [(y.1, max y.2 x.2)]) rest := by
  rw [contM_snoc, contM_snoc, mergeF, if_pos h]
theorem contM_apart {pre : List (Int × Int)} {y x : Int × Int} {rest : List (Int × Int)} (h : ¬ x.1 ≤ y.2 + 1) : contM (pre ++ [y]) (x :: rest) = contM (pre ++ [y] ++ [x]) rest := by
  rw [contM_snoc, contM_snoc, mergeF, if_neg h, List.append_assoc]; rfl
theorem set_last {α : Type} (pre : List α) (y z : α) : (pre ++ [y]).set pre.length z = pre ++ [z] := by simp [List.set_append]
end Go.Abs


namespace Go.Proofs.YtpopmiodjibljaaGreatDoor
open Go Go.Abs
set_option linter.unusedVariables false
set_option maxRecDepth 100000
set_option linter.unusedSimpArgs false
def srtS (l : List (Int × Int)) : List (Int × Int) := l.mergeSort fun x y => decide (x.1 ≤ y.1)
theorem srtS_perm (l : List (Int × Int)) : (srtS l).Perm l := List.mergeSort_perm _ _
theorem srtS_asc (l : List (Int × Int)) : asc (srtS l) := by
  have := List.pairwise_mergeSort (le := fun x y : Int × Int => decide (x.1 ≤ y.1)) (by intro a b c h1 h2; simp at *; omega) (by intro a b; simp; omega) l
  exact this.imp fun h => by simpa using h
theorem joinM_srt {l l' : List (Int × Int)} (hp : l'.Perm l) (ha : asc l') (hok : ∀ x ∈ l, 0 ≤ x.1 ∧ okS' x) : joinM l' = joinM (srtS l) := by
  have hok1 : ∀ x ∈ l', 0 ≤ x.1 ∧ okS' x := fun x hx => hok x (hp.mem_iff.1 hx)
  have hok2 : ∀ x ∈ srtS l, 0 ≤ x.1 ∧ okS' x := fun x hx => hok x ((srtS_perm l).mem_iff.1 hx)
  refine canon (joinM_row hok1 ha) (joinM_row hok2 (srtS_asc l)) fun n => ?_
  rw [joinM_in (fun x hx => (hok1 x hx).2) ha, joinM_in (fun x hx => (hok2 x hx).2) (srtS_asc l), inM_perm hp, inM_perm (srtS_perm l)]
/-- Loads read, stores write. -/
def readK (o : Oper) : Nat := match o.op with | .load .. => 1 | .store .. => 2 | _ => 0
theorem joinedP_tr (l0 : List (Int × Int)) (hok : ∀ x ∈ l0, 0 ≤ x.1 ∧ okS' x) (hl0 : l0.length ≤ 1000000) : PTr Tryz.prog 120 [.ds (l0.map spanC)] (.ds ((joinM (srtS l0)).map spanC)) := by
  refine PTr.of_body (N := 55) Tryz.func120 rfl rfl rfl ?_
  refine ae0 (ag 2 rfl (AC.pln (AOp.box rfl rfl (isVal_or rfl) rfl rfl (fun _ _ => (ab (ag 5 rfl (AC.pln (AOp.load okL rfl (.head _) rfl rfl rfl rfl (ab (AC.toOps ?_))))))))))
  rename_i r1 _
  refine AOps.pln (AOp.callK [_] rfl rfl rfl rfl (cloneS_tr l0 hl0) fun v H' hv => ?_)
  obtain ⟨g, hg, rfl, rfl⟩ := hv
  cases g with
  | none =>
    have h0 := hg rfl
    subst h0
    refine ab (AC.pln (AOp.store okL rfl rfl rfl (isVal_or rfl) rfl rfl rfl .here rfl rfl rfl (ab (ag 4 rfl (AC.pln (AOp.load okL rfl (.head _) rfl rfl rfl rfl (ab (ag 2 rfl (AC.toOps ?_)))))))))
    refine AOps.pln (AOp.callH rfl rfl rfl (Tr.g (sortNil_tr r1 _)) fun v H' hv => ?_)
    obtain ⟨rfl, rfl⟩ := hv
    refine ab (ag 10 rfl (AC.pln (AOp.load okL rfl (.head _) rfl rfl rfl rfl (ab (ag 5 rfl (AC.toCode ?_))))))
    refine AWp.freezeM (f := spanC) (g := none) (l := []) (pre := [(r1, _)]) (t := 3) (sz := 2) (e := 166) rfl rfl (fun _ => rfl) ?_
    refine AWp.loopM (α := Unit) (fun _ => 0) (fun _ => [(14, i64 0), (15, i64 0), (3, .ds [])]) (fun _ => [(r1, _)]) (fun _ => True) () trivial ?_ (List.Perm.refl _) ?_
    · simp only [AllIn]
      refine ⟨rfl, rfl, rfl, trivial⟩
    rintro _ _ ih
    refine ae0 (ag 9 rfl (AC.nilE (ae (ag 7 rfl (AC.nilE ?_)))))
    refine bodyQ_r (ResOk.one rfl rfl) ?_
    have : srtS [] = [] := by simp [srtS]
    rw [this]
    rfl
  | some r =>
    refine ab (AC.pln (AOp.store okL rfl rfl rfl (isVal_or rfl) rfl rfl rfl .here rfl rfl rfl (ab (ag 4 rfl (AC.pln (AOp.load okL rfl (.head _) rfl rfl rfl rfl (ab (ag 2 rfl (AC.toOps ?_)))))))))
    have st := sortSl_tr r r1 l0 hl0
    have e0 : l0.length = (l0.map spanC).length := (List.length_map ..).symm
    rw [e0] at st
    refine AOps.pln (AOp.callG (F := []) rfl rfl rfl (by rw [List.append_nil]; exact List.Perm.swap _ _ _) (Tr.g st) fun v H' hv => ?_)
    obtain ⟨rfl, l, hl, hla, rfl⟩ := hv
    have hll := hl.length_eq
    have hok1 : ∀ x ∈ l, 0 ≤ x.1 ∧ okS' x := fun x hx => hok x (hl.mem_iff.1 hx)
    have hjoin := joinM_srt hl hla hok
    have hln : l.length ≤ 1000000 := by rw [hll]; exact hl0
    rw [← hjoin, List.append_nil]
    have elen : (l0.map spanC).length = l.length := by rw [List.length_map, hll]
    rw [elen]
    refine ab (ag 10 rfl (AC.pln (AOp.load okL rfl (.tail _ (.head _)) rfl rfl rfl rfl (ab (ag 5 rfl (AC.toCode ?_))))))
    refine AWp.perm (List.Perm.swap _ _ _) ?_
    refine AWp.freezeM (t := 13) (f := spanC) (g := some r) (l := l) (pre := [(r1, _)]) (sz := 2) (e := 166) rfl rfl (fun h => nomatch h) ?_
    refine AWp.loopM (α := Nat × Option Nat × List (Int × Int)) (fun s => l.length - s.1) (fun s => [(13, .ds (l.map spanC)), (14, i64 l.length), (15, i64 s.1), (3, outV 2 s.2.1 s.2.2.length)]) (fun s => (r1, .row 22 1 [[.os r 2 0 l.length]]) :: outH 166 2 s.2.1 (s.2.2.map spanC))
      (fun s => s.1 ≤ l.length ∧ (s.2.1 = none → s.2.2 = []) ∧ contM s.2.2 (l.drop s.1) = joinM l ∧ s.2.2.length ≤ s.1 ∧ ∀ z ∈ s.2.2, 0 ≤ z.1 ∧ okS' z) (0, none, []) ⟨Nat.zero_le _, fun _ => rfl, rfl, Nat.le_refl _, fun z hz => (by cases hz)⟩ ?_ (List.Perm.refl _) ?_
    · simp only [AllIn]
      refine ⟨rfl, rfl, rfl, rfl, trivial⟩
    rintro ⟨k, g3, o⟩ ⟨hk, hg3, hv, hol, hoo⟩ ih
    simp only at hk hg3 hv hol hoo
    refine ae0 (ag 6 rfl (AC.toCode ?_))
    (refine AWp.condCase rfl (fun h => ?_) (fun h => ?_))
    · have h : (k : Int) < l.length := of_decide_eq_true h
      obtain ⟨x, hx⟩ : ∃ x, l[k]? = some x := ⟨l[k], by simp [show k < l.length by omega]⟩
      have nx := nxt (k := k) (n := l.length) (by omega) (by unfold maxLen; omega)
      have hxo := hok1 x (List.mem_of_getElem? hx)
      rw [drop_get hx] at hv
      refine ae (ag 6 rfl (AC.sim okL (sOp_idxD rfl rfl rfl rfl rfl (by omega) (getS hx) rfl) rfl (ag 1 rfl (AC.pln (AOp.alloc okL rfl rfl rfl (fun _ _ => (ab (AC.pln (AOp.store okL rfl rfl rfl (isVal_or rfl) rfl rfl rfl .here rfl rfl rfl (ab (ag 6 rfl (AC.toOps ?_))))))))))))
      rename_i r6 _
      rcases List.eq_nil_or_concat o with rfl | ⟨pre, y, rfl⟩
      · cases g3 with
        | none =>
          refine ab (ag 5 rfl (AC.drawn okL hmix (by kernel_rfl) (ag 21 rfl (AC.pln (AOp.load okL rfl (.head _) rfl rfl rfl rfl (ab (AC.pln (AOp.buildSlice okL rfl rfl rfl rfl rfl rfl rfl rfl rfl rfl rfl (fun _ _ => (ab (AC.toOps ?_)))))))))))
          refine AOps.pln (AOp.pushL spanC none [] [x] [(r6, .row 166 2 [spanC x]), (r1, _)] okL (fun _ => rfl) rfl rfl rfl (by simp) rfl rfl rfl rfl (fun a _ => rfl) (fun a _ => rfl) (by simp) rfl rfl fun r' _ => ?_)
          refine ab (ag 8 rfl (AC.nilE (seqQ_n ?_)))
          (refine AIn.nextN 1 (ih ((k + 1, some r', [] ++ [x])) (⟨by simp only; omega, fun h => (by cases h), hv, by simp, fun z hz => (by simp at hz; subst hz; exact hxo)⟩) (by omega)) ?_ rfl; repeat (first | exact trivial | refine ⟨rfl, ?_⟩ | refine ⟨congrArg some nx, ?_⟩))
        | some r3 =>
          refine ab (ag 5 rfl (AC.drawn okL hmix (by kernel_rfl) (ag 21 rfl (AC.pln (AOp.load okL rfl (.head _) rfl rfl rfl rfl (ab (AC.pln (AOp.buildSlice okL rfl rfl rfl rfl rfl rfl rfl rfl rfl rfl rfl (fun _ _ => (ab (AC.toOps ?_)))))))))))
          refine AOps.pln (AOp.pushL spanC (some r3) [] [x] [(r6, .row 166 2 [spanC x]), (r1, _)] okL (fun h => by cases h) rfl rfl rfl (by simp) rfl rfl rfl rfl (fun a _ => rfl) (fun a _ => rfl) (by simp) rfl rfl fun r' _ => ?_)
          refine ab (ag 8 rfl (AC.nilE (seqQ_n ?_)))
          (refine AIn.nextN 1 (ih ((k + 1, some r', [] ++ [x])) (⟨by simp only; omega, fun h => (by cases h), hv, by simp, fun z hz => (by simp at hz; subst hz; exact hxo)⟩) (by omega)) ?_ rfl; repeat (first | exact trivial | refine ⟨rfl, ?_⟩ | refine ⟨congrArg some nx, ?_⟩))
      · rw [List.concat_eq_append] at *
        cases g3 with
        | none => exact absurd (hg3 rfl) (by simp)
        | some r3 =>
          have hy := hoo y (by simp)
          unfold okS' at hy hxo
          have hpl : (pre ++ [y]).length = pre.length + 1 := by simp
          have hwl : IntKind.i64.wrap (((pre ++ [y]).length : Int) - 1) = (pre.length : Int) := by rw [wr_id ⟨by omega, by omega⟩]; omega
          have hw3 : IntKind.i64.wrap (y.2 + 1) = y.2 + 1 := wr_id ⟨by omega, by omega⟩
          have hpos : decide (((pre ++ [y]).length : Int) > 0) = true := decide_eq_true (by omega)
          refine ab (ag 5 rfl (AC.toCode ?_))
          refine Flex.AWp.draw readK (fun _ => default) okL hmix (by kernel_rfl) ?_
          (repeat (refine Flex.Plan.pure rfl rfl rfl ?_))
          have m1 : ((pre ++ [y]).map spanC)[0 + ((pre.length : Nat) : Int).toNat]? = some (spanC y) := by simp
          rw [hpos]
          (repeat (first | refine Flex.Plan.pure rfl rfl rfl ?_ | refine Flex.Plan.quiet rfl rfl (.inl rfl) (AOp.load okL rfl (.head _) rfl rfl rfl rfl (AOps.nil (Flex.Qn_n ⟨rfl, rfl⟩))) ?_))
          rw [hwl]
          (repeat (first | refine Flex.Plan.pure rfl rfl rfl ?_ | refine Flex.Plan.pure rfl rfl (sOp_idxO rfl rfl rfl rfl rfl (by omega) (by simp only; omega) rfl) ?_))
          refine Flex.Plan.quiet rfl rfl (.inl rfl) (AOp.load okL rfl (.tail _ (.tail _ (.head _))) m1 rfl rfl rfl (AOps.nil (Flex.Qn_n ⟨rfl, rfl⟩))) ?_
          (repeat (refine Flex.Plan.pure rfl rfl rfl ?_))
          rw [hw3]
          (repeat (first | refine Flex.Plan.pure rfl rfl rfl ?_ | refine Flex.Plan.quiet rfl rfl (.inl rfl) (AOp.load okL rfl (.head _) rfl rfl rfl rfl (AOps.nil (Flex.Qn_n ⟨rfl, rfl⟩))) ?_ | refine Flex.Plan.quiet rfl rfl (.inl rfl) (AOp.load okL rfl (.tail _ (.head _)) rfl rfl rfl rfl (AOps.nil (Flex.Qn_n ⟨rfl, rfl⟩))) ?_ | refine Flex.Plan.quiet rfl rfl (.inl rfl) (AOp.load okL rfl (.tail _ (.tail _ (.head _))) rfl rfl rfl rfl (AOps.nil (Flex.Qn_n ⟨rfl, rfl⟩))) ?_ | refine Flex.Plan.quiet rfl rfl (.inl rfl) (AOp.load okL rfl (.tail _ (.tail _ (.tail _ (.head _)))) rfl rfl rfl rfl (AOps.nil (Flex.Qn_n ⟨rfl, rfl⟩))) ?_ | refine Flex.Plan.quiet rfl rfl (.inl rfl) (AOp.load okL rfl (.tail _ (.tail _ (.tail _ (.tail _ (.head _))))) rfl rfl rfl rfl (AOps.nil (Flex.Qn_n ⟨rfl, rfl⟩))) ?_ | refine Flex.Plan.quiet rfl rfl (.inl rfl) (AOp.load okL rfl (.tail _ (.tail _ (.tail _ (.tail _ (.tail _ (.head _)))))) rfl rfl rfl rfl (AOps.nil (Flex.Qn_n ⟨rfl, rfl⟩))) ?_ | refine Flex.Plan.eff1 rfl rfl rfl (AOp.store okL rfl rfl rfl (isVal_or rfl) rfl rfl rfl .here rfl rfl rfl (AOps.nil (Flex.Qn_n ⟨rfl, rfl⟩))) ?_ | refine Flex.Plan.eff1 rfl rfl rfl (AOp.store okL rfl rfl rfl (isVal_or rfl) rfl rfl rfl (.there .here) rfl rfl rfl (AOps.nil (Flex.Qn_n ⟨rfl, rfl⟩))) ?_ | refine Flex.Plan.eff1 rfl rfl rfl (AOp.store okL rfl rfl rfl (isVal_or rfl) rfl rfl rfl (.there (.there .here)) rfl rfl rfl (AOps.nil (Flex.Qn_n ⟨rfl, rfl⟩))) ?_ | refine Flex.Plan.eff1 rfl rfl rfl (AOp.store okL rfl rfl rfl (isVal_or rfl) rfl rfl rfl (.there (.there (.there .here))) rfl rfl rfl (AOps.nil (Flex.Qn_n ⟨rfl, rfl⟩))) ?_ | refine Flex.Plan.eff1 rfl rfl rfl (AOp.store okL rfl rfl rfl (isVal_or rfl) rfl rfl rfl (.there (.there (.there (.there .here)))) rfl rfl rfl (AOps.nil (Flex.Qn_n ⟨rfl, rfl⟩))) ?_ | refine Flex.Plan.eff1 rfl rfl rfl (AOp.store okL rfl rfl rfl (isVal_or rfl) rfl rfl rfl (.there (.there (.there (.there (.there .here))))) rfl rfl rfl (AOps.nil (Flex.Qn_n ⟨rfl, rfl⟩))) ?_))
          refine Flex.Plan.nil ?_
          refine ae (AC.toCode ?_)
          (refine AWp.condCase rfl (fun g4 => ?_) (fun g4 => ?_))
          · have g4 : x.1 ≤ y.2 + 1 := of_decide_eq_true g4
            rw [contM_glue g4] at hv
            refine ae (ag 1 rfl (AC.toCode ?_))
            refine Flex.AWp.draw readK (fun _ => default) okL hmix (by kernel_rfl) ?_
            (repeat (refine Flex.Plan.pure rfl rfl rfl ?_))
            rw [hwl]
            (repeat (first | refine Flex.Plan.pure rfl rfl rfl ?_ | refine Flex.Plan.pure rfl rfl (sOp_idxO rfl rfl rfl rfl rfl (by omega) (by simp only; omega) rfl) ?_))
            refine Flex.Plan.quiet rfl rfl (.inl rfl) (AOp.load okL rfl (.tail _ (.tail _ (.head _))) m1 rfl rfl rfl (AOps.nil (Flex.Qn_n ⟨rfl, rfl⟩))) ?_
            (repeat (first | refine Flex.Plan.pure rfl rfl rfl ?_ | refine Flex.Plan.pure rfl rfl (sOp_idxO rfl rfl rfl rfl rfl (by omega) (by simp only; omega) rfl) ?_ | refine Flex.Plan.quiet rfl rfl (.inl rfl) (AOp.load okL rfl (.head _) rfl rfl rfl rfl (AOps.nil (Flex.Qn_n ⟨rfl, rfl⟩))) ?_))
            refine Flex.Plan.eff1 rfl rfl rfl (AOp.store okL rfl rfl rfl (isVal_or rfl) rfl rfl rfl (.there (.there .here)) m1 rfl rfl (AOps.nil (Flex.Qn_n ⟨rfl, rfl⟩))) ?_
            refine Flex.Plan.nil ?_
            have hmx : (if x.2 > y.2 then x.2 else y.2) = max y.2 x.2 := by omega
            refine ae (ag 8 rfl (AC.nilE (seqQ_n ?_)))
            refine AIn.nextN 1 (ih (k + 1, some r3, pre ++ [(y.1, max y.2 x.2)]) ⟨by simp only; omega, fun h => (by cases h), hv, by simp at hol ⊢; omega, fun z hz => (by
              rcases List.mem_append.1 hz with h | h
              · exact hoo z (List.mem_append.2 (.inl h))
              · rw [List.mem_singleton.1 h]; unfold okS'; simp only; omega)⟩ (by simp only; omega)) ?_ ?_
            · refine ⟨rfl, rfl, congrArg some nx, ?_, trivial⟩
              show some (A.os r3 2 0 (pre ++ [y]).length) = some (A.os r3 2 0 (pre ++ [(y.1, max y.2 x.2)]).length)
              simp
            · show [(r1, Blk.row 22 1 [[.os r 2 0 l.length]]), (r3, Blk.row 166 2 (((pre ++ [y]).map spanC).set (0 + ((pre.length : Nat) : Int).toNat) (spanC (y.1, if x.2 > y.2 then x.2 else y.2))))] = [(r1, Blk.row 22 1 [[.os r 2 0 l.length]]), (r3, Blk.row 166 2 ((pre ++ [(y.1, max y.2 x.2)]).map spanC))]
              rw [hmx]
              simp [List.set_append]
          · have g4 : ¬ x.1 ≤ y.2 + 1 := of_decide_eq_false g4
            rw [contM_apart g4] at hv
            refine ae (ag 4 rfl (AC.pln (AOp.load okL rfl (.head _) rfl rfl rfl rfl (ab (AC.pln (AOp.buildSlice okL rfl rfl rfl rfl rfl rfl rfl rfl rfl rfl rfl (fun _ _ => (ab (AC.toOps ?_)))))))))
            refine AOps.pln (AOp.pushL spanC (some r3) (pre ++ [y]) [x] [(r6, .row 166 2 [spanC x]), (r1, _)] okL (fun h => by cases h) rfl rfl rfl (by simp) rfl rfl rfl rfl (fun a _ => rfl) (fun a _ => rfl) (by simp at hol ⊢; omega) rfl rfl fun r' _ => ?_)
            refine ab (ag 8 rfl (AC.nilE (seqQ_n ?_)))
            (refine AIn.nextN 1 (ih ((k + 1, some r', pre ++ [y] ++ [x])) (⟨by simp only; omega, fun h => (by cases h), hv, by simp at hol ⊢; omega, fun z hz => (by rcases List.mem_append.1 hz with h | h; exact hoo z h; rw [List.mem_singleton.1 h]; exact hxo)⟩) (by omega)) ?_ rfl; repeat (first | exact trivial | refine ⟨rfl, ?_⟩ | refine ⟨congrArg some nx, ?_⟩))
    · have h : ¬ (k : Int) < l.length := of_decide_eq_false h
      rw [List.drop_eq_nil_of_le (by omega), contM_end] at hv
      refine AWp.freezeM (f := spanC) (g := g3) (l := o) (pre := [(r1, _)]) (t := 3) (sz := 2) (e := 166) rfl rfl hg3 ?_
      refine ae (ag 2 rfl (AC.nilE (ae (ag 7 rfl (AC.nilE ?_)))))
      refine bodyQ_r (ResOk.one rfl rfl) ?_
      rw [hv]
end Go.Proofs.YtpopmiodjibljaaGreatDoor


namespace Go.Proofs.YtpopmiodjibljaaGreatDoor
open Go Go.Abs
set_option linter.unusedVariables false
set_option maxRecDepth 100000
set_option linter.unusedSimpArgs false
/-- The folds of what is in spans, as far as one has looked. -/
def thereK (l : List (Int × Int)) : Nat → List (List UInt8)
  | 0 => []
  | k + 1 => stepK l (thereK l k) (foldAt k)
def outK (l : List (Int × Int)) : Nat → List (Int × Int)
  | 0 => l
  | k + 1 => stepO (thereK l 8201) (outK l k) (foldAt k)
theorem outK_len (l : List (Int × Int)) : ∀ k, (outK l k).length ≤ l.length + k
  | 0 => Nat.le_refl _
  | k + 1 => by
    have := outK_len l k
    unfold outK stepO
    split <;> simp <;> omega
theorem foldAt_ok (k : Nat) (h : k < 8201) : 0 ≤ foldAt k ∧ foldAt k ≤ 1114111 := by
  unfold foldAt
  split
  · omega
  · split
    · omega
    · split <;> omega
theorem outK_ok {l : List (Int × Int)} (h : ∀ x ∈ l, 0 ≤ x.1 ∧ okS' x) : ∀ k, k ≤ 8201 → ∀ x ∈ outK l k, 0 ≤ x.1 ∧ okS' x
  | 0, _ => h
  | k + 1, hk => fun x hx => by
    have ih := outK_ok h k (by omega)
    have hf := foldAt_ok k (by omega)
    unfold outK stepO at hx
    split at hx
    · rcases List.mem_append.1 hx with hx | hx
      · exact ih x hx
      · rw [List.mem_singleton.1 hx]
        exact ⟨hf.1, Int.le_refl _, hf.2⟩
    · exact ih x hx
def widL (l : List (Int × Int)) : List (Int × Int) := joinM (srtS (outK l 8201))
theorem widened_tr (l : List (Int × Int)) (hok : ∀ x ∈ l, 0 ≤ x.1 ∧ okS' x) (hl : l.length ≤ 100000) : PTr Tryz.prog 63 [.ds (l.map spanC)] (.ds ((widL l).map spanC)) := by
  refine PTr.of_body (N := 14) Tryz.func63 rfl rfl rfl ?_
  refine ae0 (ag 2 rfl (AC.pln (AOp.boxD 1 rfl rfl (isVal_or rfl) rfl (ab (ag 5 rfl (AC.toOps ?_))))))
  refine AOps.pln (AOp.makeMap rfl fun rm _ => ?_)
  refine ab (AC.pln (AOp.alloc okL rfl rfl rfl (fun _ _ => (ab (AC.pln (AOp.store okL rfl rfl rfl (isVal_or rfl) rfl rfl rfl .here rfl rfl rfl (ab (ag 5 rfl (AC.toOps ?_)))))))))
  rename_i r3 _
  refine AOps.pln (AOp.callH rfl rfl rfl (folded_tr _ _ (fun k H => H = [(r3, cellM rm), (rm, .map ((thereK l k).map mkE))]) _ rfl (fun k H _ hH => by
    subst hH
    exact widened1_tr l (by unfold maxLen; omega) rm r3 (thereK l k) (foldAt k))) fun v H' hv => ?_)
  subst hv
  refine ab (ag 5 rfl (AC.toOps ?_))
  refine AOps.pln (AOp.callK [_, _] rfl rfl rfl (by rw [List.append_nil]) (cloneS_tr l (by omega)) fun v H' hr => ?_)
  obtain ⟨g, hg, rfl, rfl⟩ := hr
  rw [List.length_map]
  cases g with
  | none =>
    refine ab (AC.pln (AOp.alloc okL rfl rfl rfl (fun _ _ => (ab (AC.pln (AOp.store okL rfl rfl rfl (isVal_or rfl) rfl rfl rfl .here rfl rfl rfl (ab (ag 5 rfl (AC.toOps ?_)))))))))
    rename_i r4 _
    refine AOps.pln (AOp.callH rfl rfl rfl (folded_tr _ _ (fun k H => ∃ g, (g = none → outK l k = []) ∧ H = (r4, .row 22 1 [cellO2 g (outK l k).length]) :: (r3, cellM rm) :: (rm, .map ((thereK l 8201).map mkE)) :: outH 166 2 g ((outK l k).map spanC)) _ ⟨none, hg, rfl⟩ (fun k H hk hH => by
      obtain ⟨g, hg, rfl⟩ := hH
      exact widened2_tr rm r3 (thereK l 8201) r4 g (outK l k) hg (by have := outK_len l k; omega) (foldAt k))) fun v H' hv => ?_)
    obtain ⟨g', hg', rfl⟩ := hv
    have hol := outK_len l 8201
    cases g' with
    | none =>
      refine ab (ag 4 rfl (AC.pln (AOp.load okL rfl (.head _) rfl rfl rfl rfl (ab (AC.toOps ?_)))))
      refine AOps.freezeM (f := spanC) (g := none) (l := outK l 8201) (pre := [_, _, _]) (t := 12) (sz := 2) (e := 166) rfl rfl hg' ?_
      refine ab (AC.pln (AOp.callP rfl rfl rfl (joinedP_tr (outK l 8201) (outK_ok hok 8201 (Nat.le_refl _)) (by omega)) (ab (ag 4 rfl (AC.nilE ?_)))))
      refine bodyQ_r (ResOk.one rfl rfl) ?_
      rfl
    | some r' =>
      refine ab (ag 4 rfl (AC.pln (AOp.load okL rfl (.head _) rfl rfl rfl rfl (ab (AC.toOps ?_)))))
      refine AOps.freezeM (f := spanC) (g := some r') (l := outK l 8201) (pre := [_, _, _]) (t := 12) (sz := 2) (e := 166) rfl rfl hg' ?_
      refine ab (AC.pln (AOp.callP rfl rfl rfl (joinedP_tr (outK l 8201) (outK_ok hok 8201 (Nat.le_refl _)) (by omega)) (ab (ag 4 rfl (AC.nilE ?_)))))
      refine bodyQ_r (ResOk.one rfl rfl) ?_
      rfl
  | some r =>
    refine ab (AC.pln (AOp.alloc okL rfl rfl rfl (fun _ _ => (ab (AC.pln (AOp.store okL rfl rfl rfl (isVal_or rfl) rfl rfl rfl .here rfl rfl rfl (ab (ag 5 rfl (AC.toOps ?_)))))))))
    rename_i r4 _
    refine AOps.pln (AOp.callH rfl rfl rfl (folded_tr _ _ (fun k H => ∃ g, (g = none → outK l k = []) ∧ H = (r4, .row 22 1 [cellO2 g (outK l k).length]) :: (r3, cellM rm) :: (rm, .map ((thereK l 8201).map mkE)) :: outH 166 2 g ((outK l k).map spanC)) _ ⟨some r, hg, rfl⟩ (fun k H hk hH => by
      obtain ⟨g, hg, rfl⟩ := hH
      exact widened2_tr rm r3 (thereK l 8201) r4 g (outK l k) hg (by have := outK_len l k; omega) (foldAt k))) fun v H' hv => ?_)
    obtain ⟨g', hg', rfl⟩ := hv
    have hol := outK_len l 8201
    cases g' with
    | none =>
      refine ab (ag 4 rfl (AC.pln (AOp.load okL rfl (.head _) rfl rfl rfl rfl (ab (AC.toOps ?_)))))
      refine AOps.freezeM (f := spanC) (g := none) (l := outK l 8201) (pre := [_, _, _]) (t := 12) (sz := 2) (e := 166) rfl rfl hg' ?_
      refine ab (AC.pln (AOp.callP rfl rfl rfl (joinedP_tr (outK l 8201) (outK_ok hok 8201 (Nat.le_refl _)) (by omega)) (ab (ag 4 rfl (AC.nilE ?_)))))
      refine bodyQ_r (ResOk.one rfl rfl) ?_
      rfl
    | some r' =>
      refine ab (ag 4 rfl (AC.pln (AOp.load okL rfl (.head _) rfl rfl rfl rfl (ab (AC.toOps ?_)))))
      refine AOps.freezeM (f := spanC) (g := some r') (l := outK l 8201) (pre := [_, _, _]) (t := 12) (sz := 2) (e := 166) rfl rfl hg' ?_
      refine ab (AC.pln (AOp.callP rfl rfl rfl (joinedP_tr (outK l 8201) (outK_ok hok 8201 (Nat.le_refl _)) (by omega)) (ab (ag 4 rfl (AC.nilE ?_)))))
      refine bodyQ_r (ResOk.one rfl rfl) ?_
      rfl
end Go.Proofs.YtpopmiodjibljaaGreatDoor


namespace Go.Proofs.YtpopmiodjibljaaGreatDoor
open Go Go.Abs
set_option linter.unusedVariables false
set_option maxRecDepth 100000
set_option linter.unusedSimpArgs false
/-! Folds as numbers, and the characters that are alike (plain). -/
def ligI : List (List Int) := [[102, 102], [102, 105], [102, 108], [102, 102, 105], [102, 102, 108], [115, 116], [115, 116]]
def rfold (c : Int) : List Int := if c = 181 then [956] else if c = 223 ∨ c = 7838 then [115, 115] else if c = 329 then [700, 110] else if c = 383 then [115] else if c = 962 then [963] else
  if wiM c 64256 64262 = true then ligI.getD (c - 64256).toNat [] else [smallM c]
def chP (c : Int) : Prop := 0 ≤ c ∧ c ≤ 1114111 ∧ (c < 55296 ∨ c > 57343)
theorem chP_of {c : Int} (h : chM c = true) : chP c := by
  simp only [chM, Bool.and_eq_true, Bool.or_eq_true, decide_eq_true_eq] at h
  unfold chP; omega
theorem wrap32_small (n : Int) (h0 : 0 ≤ n) (h1 : n < 2147483648) : IntKind.i32.wrap n = n := by
  simp [IntKind.wrap, IntKind.bits, IntKind.signed]
  split <;> omega
theorem wi_iff {c lo hi : Int} : wiM c lo hi = true ↔ lo ≤ c ∧ c ≤ hi := by
  unfold wiM
  rw [Bool.and_eq_true, decide_eq_true_eq, decide_eq_true_eq]
theorem encL_enc {c : Int} (h : chP c) : encL c = enc c.toNat := by
  obtain ⟨h0, h1, h2⟩ := h
  have hv : Utf8.valid c = true := by
    unfold Utf8.valid
    simp only [Bool.or_eq_true, Bool.and_eq_true, decide_eq_true_eq]
    omega
  unfold encL Utf8.encode enc u8
  simp only [hv, if_true]
  split
  · rfl
  · split
    · rfl
    · split <;> rfl
theorem small_cases (c : Int) (h : 0 ≤ c) (h1 : c ≤ 1114111) : smallM c = c ∨ (smallM c = c + 32 ∧ (65 ≤ c ∧ c ≤ 90 ∨ 192 ≤ c ∧ c ≤ 222 ∨ 913 ≤ c ∧ c ≤ 937 ∨ 1040 ≤ c ∧ c ≤ 1071)) ∨ (c = 7838 ∧ smallM c = 223) ∨ (c = 8490 ∧ smallM c = 107) ∨ (c = 8491 ∧ smallM c = 229) := by
  have hw : w64 (c + 32) = c + 32 := w64_id (by omega) (by omega)
  unfold smallM
  simp only [wi_iff, hw]
  split
  · exact .inr (.inl ⟨rfl, by omega⟩)
  · split
    · exact .inr (.inl ⟨rfl, by omega⟩)
    · split
      · exact .inr (.inl ⟨rfl, by omega⟩)
      · split
        · exact .inr (.inl ⟨rfl, by omega⟩)
        · split
          · rename_i h; exact .inr (.inr (.inl ⟨h, rfl⟩))
          · split
            · rename_i h; exact .inr (.inr (.inr (.inl ⟨h, rfl⟩)))
            · split
              · rename_i h; exact .inr (.inr (.inr (.inr ⟨h, rfl⟩)))
              · exact .inl rfl
theorem small_up {c : Int} (h : 65 ≤ c ∧ c ≤ 90) : smallM c = c + 32 := by
  have hw : w64 (c + 32) = c + 32 := w64_id (by omega) (by omega)
  unfold smallM
  rw [if_pos (wi_iff.2 h), hw]
theorem small_chP {c : Int} (h : chP c) : chP (smallM c) := by
  have := small_cases c h.1 h.2.1
  unfold chP at *
  omega
theorem lig_cases {c : Int} (h : wiM c 64256 64262 = true) : c = 64256 ∨ c = 64257 ∨ c = 64258 ∨ c = 64259 ∨ c = 64260 ∨ c = 64261 ∨ c = 64262 := by
  have := wi_iff.1 h
  omega
theorem rfold_chP {c : Int} (h : chP c) : ∀ d ∈ rfold c, chP d := by
  unfold rfold
  split
  · intro d hd; have : d = 956 := by simpa using hd
    subst this; unfold chP; omega
  · split
    · intro d hd; have : d = 115 := by simpa using hd
      subst this; unfold chP; omega
    · split
      · intro d hd; have : d = 700 ∨ d = 110 := by simpa using hd
        unfold chP; omega
      · split
        · intro d hd; have : d = 115 := by simpa using hd
          subst this; unfold chP; omega
        · split
          · intro d hd; have : d = 963 := by simpa using hd
            subst this; unfold chP; omega
          · split
            · rename_i hl
              intro d hd
              have : d = 102 ∨ d = 105 ∨ d = 108 ∨ d = 115 ∨ d = 116 := by
                rcases lig_cases hl with rfl | rfl | rfl | rfl | rfl | rfl | rfl <;> simp [ligI] at hd <;> omega
              unfold chP; omega
            · intro d hd; have : d = smallM c := by simpa using hd
              rw [this]; exact small_chP h
theorem foldS_txt {c : Int} (h : chP c) : foldS c = txt ((rfold c).map Int.toNat) := by
  unfold foldS rfold
  by_cases h1 : c = 181
  · rw [if_pos h1, if_pos h1]; decide
  rw [if_neg h1, if_neg h1]
  by_cases h2 : c = 223 ∨ c = 7838
  · rw [if_pos h2, if_pos h2]; decide
  rw [if_neg h2, if_neg h2]
  by_cases h3 : c = 329
  · rw [if_pos h3, if_pos h3]; decide
  rw [if_neg h3, if_neg h3]
  by_cases h4 : c = 383
  · rw [if_pos h4, if_pos h4]; decide
  rw [if_neg h4, if_neg h4]
  by_cases h5 : c = 962
  · rw [if_pos h5, if_pos h5]; decide
  rw [if_neg h5, if_neg h5]
  by_cases h6 : wiM c 64256 64262 = true
  · rw [if_pos h6, if_pos h6]
    rcases lig_cases h6 with rfl | rfl | rfl | rfl | rfl | rfl | rfl <;> decide
  rw [if_neg h6, if_neg h6]
  have hs := small_chP h
  have hw : IntKind.i32.wrap (smallM c) = smallM c := by
    unfold chP at hs
    obtain ⟨a, b, _⟩ := hs
    exact wrap32_small _ (by omega) (by omega)
  rw [hw, encL_enc hs]
  simp [txt]
theorem toNat_inj : ∀ {l m : List Int}, (∀ d ∈ l, chP d) → (∀ d ∈ m, chP d) → l.map Int.toNat = m.map Int.toNat → l = m
  | [], [], _, _, _ => rfl
  | [], _ :: _, _, _, h => by cases h
  | _ :: _, [], _, _, h => by cases h
  | a :: l, b :: m, hl, hm, h => by
    simp only [List.map_cons, List.cons.injEq] at h
    have ha := (hl a List.mem_cons_self).1
    have hb := (hm b List.mem_cons_self).1
    rw [show a = b by omega, toNat_inj (fun d hd => hl d (List.mem_cons_of_mem _ hd)) (fun d hd => hm d (List.mem_cons_of_mem _ hd)) h.2]
theorem isCh_of {c : Int} (h : chP c) : isCh c.toNat := by
  unfold chP at h; unfold isCh; omega
theorem foldS_iff {c d : Int} (hc : chP c) (hd : chP d) : foldS c = foldS d ↔ rfold c = rfold d := by
  rw [foldS_txt hc, foldS_txt hd]
  constructor
  · intro h
    have a := rns_txt ((rfold c).map Int.toNat) (fun x hx => by obtain ⟨y, hy, rfl⟩ := List.mem_map.1 hx; exact isCh_of (rfold_chP hc y hy))
    have b := rns_txt ((rfold d).map Int.toNat) (fun x hx => by obtain ⟨y, hy, rfl⟩ := List.mem_map.1 hx; exact isCh_of (rfold_chP hd y hy))
    rw [h, b] at a
    exact (toNat_inj (rfold_chP hd) (rfold_chP hc) a).symm
  · intro h; rw [h]
theorem foldS_beq {c d : Int} (hc : chP c) (hd : chP d) : (foldS c == foldS d) = (rfold c == rfold d) := by
  rw [Bool.eq_iff_iff, beq_iff_eq, beq_iff_eq, foldS_iff hc hd]
/-- What the document asks before it compares folds. -/
def grd (fc : List Int) (d : Int) : Bool := (fc.headD 0 == d || decide (fc.length > 1) || decide (d > 127) || decide (d ≥ 65) && decide (d ≤ 90))
def alkK (c : Int) : Nat → List Int
  | 0 => [c]
  | k + 1 => if (foldAt k != c && (grd (rfold c) (foldAt k) && rfold (foldAt k) == rfold c)) = true then alkK c k ++ [foldAt k] else alkK c k
def alkM (c : Int) : List Int := alkK c 8201
theorem alkK_len (c : Int) : ∀ k, (alkK c k).length ≤ k + 1
  | 0 => by simp [alkK]
  | k + 1 => by
    have := alkK_len c k
    unfold alkK
    split <;> simp <;> omega
theorem foldAt_chP {k : Nat} (h : k < 8201) : chP (foldAt k) := by
  unfold foldAt chP
  split
  · omega
  · split
    · omega
    · split <;> omega
theorem mem_alkK {c d : Int} : ∀ k, d ∈ alkK c k ↔ d = c ∨ ∃ j, j < k ∧ d = foldAt j ∧ foldAt j ≠ c ∧ grd (rfold c) (foldAt j) = true ∧ rfold (foldAt j) = rfold c
  | 0 => by simp [alkK]
  | k + 1 => by
    have ih := mem_alkK (c := c) (d := d) k
    unfold alkK
    by_cases hg : (foldAt k != c && (grd (rfold c) (foldAt k) && rfold (foldAt k) == rfold c)) = true
    · rw [if_pos hg, List.mem_append, ih, List.mem_singleton]
      simp only [Bool.and_eq_true, bne_iff_ne, beq_iff_eq] at hg
      constructor
      · rintro ((h | ⟨j, hj, h⟩) | h)
        · exact .inl h
        · exact .inr ⟨j, by omega, h⟩
        · exact .inr ⟨k, by omega, h, hg.1, hg.2.1, hg.2.2⟩
      · rintro (h | ⟨j, hj, h⟩)
        · exact .inl (.inl h)
        · by_cases hjk : j = k
          · subst hjk; exact .inr h.1
          · exact .inl (.inr ⟨j, by omega, h⟩)
    · rw [if_neg hg, ih]
      simp only [Bool.and_eq_true, bne_iff_ne, beq_iff_eq] at hg
      constructor
      · rintro (h | ⟨j, hj, h⟩)
        · exact .inl h
        · exact .inr ⟨j, by omega, h⟩
      · rintro (h | ⟨j, hj, h⟩)
        · exact .inl h
        · by_cases hjk : j = k
          · subst hjk; exact absurd ⟨h.2.1, h.2.2.1, h.2.2.2⟩ hg
          · exact .inr ⟨j, by omega, h⟩
/-- Equal folds: what is asked before holds. -/
theorem grd_of {c d : Int} (hd : chP d) (h : rfold d = rfold c) : grd (rfold c) d = true := by
  unfold grd
  simp only [Bool.or_eq_true, Bool.and_eq_true, decide_eq_true_eq, beq_iff_eq]
  rw [← h]
  by_cases h7 : d > 127
  · exact .inl (.inr h7)
  by_cases hu : d ≥ 65 ∧ d ≤ 90
  · exact .inr hu
  refine .inl (.inl (.inl ?_))
  have h0 := hd.1
  have hs := small_cases d hd.1 hd.2.1
  unfold rfold
  rw [if_neg (by omega), if_neg (by omega), if_neg (by omega), if_neg (by omega), if_neg (by omega), if_neg (by rw [wi_iff]; omega)]
  show smallM d = d
  omega
/-- Folds that end behind 0x2000 are those of the characters themselves. -/
theorem rfold_lone {c d : Int} (hc : chP c) (hd : chP d) (hn : ∀ k, k < 8201 → foldAt k ≠ c) (h : rfold d = rfold c) : d = c := by
  have h1 : ¬ c < 8192 := fun hlt => hn c.toNat (by have := hc.1; omega) (by unfold foldAt; rw [if_pos (by have := hc.1; omega)]; have := hc.1; omega)
  have h2 : c ≠ 8490 := fun e => hn 8192 (by omega) (by rw [e]; rfl)
  have h3 : c ≠ 8491 := fun e => hn 8193 (by omega) (by rw [e]; rfl)
  have h4 : ¬ (64256 ≤ c ∧ c ≤ 64262) := fun e => hn (8194 + (c - 64256).toNat) (by omega) (by
    unfold foldAt
    rw [if_neg (by omega), if_neg (by omega), if_neg (by omega)]
    omega)
  have hsc := small_cases c hc.1 hc.2.1
  have hsd := small_cases d hd.1 hd.2.1
  have ec : rfold c = [c] := by
    unfold rfold
    rw [if_neg (by omega), if_neg (by omega), if_neg (by omega), if_neg (by omega), if_neg (by omega), if_neg (by rw [wi_iff]; exact h4)]
    congr 1
    omega
  rw [ec] at h
  unfold rfold at h
  split at h
  · have := List.head_eq_of_cons_eq h; omega
  · split at h
    · simp at h
    · split at h
      · simp at h
      · split at h
        · have := List.head_eq_of_cons_eq h; omega
        · split at h
          · have := List.head_eq_of_cons_eq h; omega
          · split at h
            · rename_i hl
              rcases lig_cases hl with rfl | rfl | rfl | rfl | rfl | rfl | rfl <;> simp [ligI] at h
            · have := List.head_eq_of_cons_eq h; omega
theorem mem_thereK {l : List (Int × Int)} {s : List UInt8} : ∀ k, s ∈ thereK l k ↔ ∃ j, j < k ∧ s = foldS (foldAt j) ∧ l.any (inP (foldAt j)) = true
  | 0 => by simp [thereK]
  | k + 1 => by
    have ih := mem_thereK (l := l) (s := s) k
    unfold thereK stepK
    by_cases hg : l.any (inP (foldAt k)) = true
    · rw [if_pos hg, mem_addK, ih]
      constructor
      · rintro (⟨j, hj, h⟩ | h)
        · exact ⟨j, by omega, h⟩
        · exact ⟨k, by omega, h, hg⟩
      · rintro ⟨j, hj, h⟩
        by_cases hjk : j = k
        · subst hjk; exact .inr h.1
        · exact .inl ⟨j, by omega, h⟩
    · rw [if_neg hg, ih]
      constructor
      · rintro ⟨j, hj, h⟩
        exact ⟨j, by omega, h⟩
      · rintro ⟨j, hj, h⟩
        by_cases hjk : j = k
        · subst hjk; exact absurd h.2 hg
        · exact ⟨j, by omega, h⟩
theorem mem_outK {l : List (Int × Int)} {x : Int × Int} : ∀ k, x ∈ outK l k ↔ x ∈ l ∨ ∃ j, j < k ∧ x = (foldAt j, foldAt j) ∧ foldS (foldAt j) ∈ thereK l 8201
  | 0 => by simp [outK]
  | k + 1 => by
    have ih := mem_outK (l := l) (x := x) k
    unfold outK stepO
    by_cases hg : (idxK (foldS (foldAt k)) (thereK l 8201)).isSome = true
    · rw [if_pos hg, List.mem_append, ih, List.mem_singleton]
      rw [idxK_mem] at hg
      constructor
      · rintro ((h | ⟨j, hj, h⟩) | h)
        · exact .inl h
        · exact .inr ⟨j, by omega, h⟩
        · exact .inr ⟨k, by omega, h, hg⟩
      · rintro (h | ⟨j, hj, h⟩)
        · exact .inl (.inl h)
        · by_cases hjk : j = k
          · subst hjk; exact .inr h.1
          · exact .inl (.inr ⟨j, by omega, h⟩)
    · rw [if_neg hg, ih]
      rw [idxK_mem] at hg
      constructor
      · rintro (h | ⟨j, hj, h⟩)
        · exact .inl h
        · exact .inr ⟨j, by omega, h⟩
      · rintro (h | ⟨j, hj, h⟩)
        · exact .inl h
        · by_cases hjk : j = k
          · subst hjk; exact absurd h.2 hg
          · exact .inr ⟨j, by omega, h⟩
theorem any_inM (l : List (Int × Int)) (c : Int) : l.any (inP c) = inM l c := by
  unfold inM
  congr 1
theorem wid_any {l : List (Int × Int)} (hok : ∀ x ∈ l, 0 ≤ x.1 ∧ okS' x) (c : Int) : (widL l).any (inP c) = (outK l 8201).any (inP c) := by
  have ho := outK_ok hok 8201 (Nat.le_refl _)
  unfold widL
  rw [any_inM, any_inM, joinM_in (fun x hx => (ho x ((srtS_perm _).mem_iff.1 hx)).2) (srtS_asc _), inM_perm (srtS_perm _)]
/-- A widened set has the characters that are in the set or alike to one that is. -/
theorem wid_alk {l : List (Int × Int)} (hok : ∀ x ∈ l, 0 ≤ x.1 ∧ okS' x) {c : Int} (hc : chP c) : (widL l).any (inP c) = (alkM c).any fun d => l.any (inP d) := by
  rw [wid_any hok, Bool.eq_iff_iff, List.any_eq_true, List.any_eq_true]
  constructor
  · rintro ⟨x, hx, hi⟩
    rcases (mem_outK 8201).1 hx with hx | ⟨k, hk, rfl, ht⟩
    · exact ⟨c, (mem_alkK 8201).2 (.inl rfl), List.any_eq_true.2 ⟨x, hx, hi⟩⟩
    · simp only [inP, Bool.and_eq_true, decide_eq_true_eq] at hi
      have hck : c = foldAt k := by omega
      obtain ⟨j, hj, hf, hin⟩ := (mem_thereK 8201).1 ht
      by_cases hjc : foldAt j = c
      · exact ⟨c, (mem_alkK 8201).2 (.inl rfl), hjc ▸ hin⟩
      · have e := (foldS_iff (foldAt_chP hk) (foldAt_chP hj)).1 hf
        rw [← hck] at e
        exact ⟨foldAt j, (mem_alkK 8201).2 (.inr ⟨j, hj, rfl, hjc, grd_of (foldAt_chP hj) e.symm, e.symm⟩), hin⟩
  · rintro ⟨d, hd, hin⟩
    rcases (mem_alkK 8201).1 hd with rfl | ⟨j, hj, rfl, hne, _, hf⟩
    · obtain ⟨x, hx, hi⟩ := List.any_eq_true.1 hin
      exact ⟨x, (mem_outK 8201).2 (.inl hx), hi⟩
    · by_cases hn : ∃ k, k < 8201 ∧ foldAt k = c
      · obtain ⟨k, hk, rfl⟩ := hn
        refine ⟨(foldAt k, foldAt k), (mem_outK 8201).2 (.inr ⟨k, hk, rfl, (mem_thereK 8201).2 ⟨j, hj, (foldS_iff (foldAt_chP hk) (foldAt_chP hj)).2 hf.symm, hin⟩⟩), ?_⟩
        simp [inP]
      · exact absurd (rfold_lone hc (foldAt_chP hj) (fun k hk e => hn ⟨k, hk, e⟩) hf) hne
end Go.Proofs.YtpopmiodjibljaaGreatDoor


namespace Go.Proofs.YtpopmiodjibljaaGreatDoor
open Go Go.Abs
set_option linter.unusedVariables false
set_option maxRecDepth 100000
set_option linter.unusedSimpArgs false
theorem refWithin02_tr (n lo hi : Int) : PTr Tryz.prog 210 [i64 n, i64 lo, i64 hi] (.bool (wiM n lo hi)) := by
  refine PTr.of_body (N := 15) Tryz.func210 rfl rfl rfl ?_
  refine ae0 (ag 11 rfl (AC.toOps ?_))
  refine AOps.guardCase rfl rfl rfl (fun h => ?_) (fun h => ?_)
  · refine ab (ag 8 rfl (AC.nilE ?_))
    refine bodyQ_r (ResOk.one rfl rfl) ?_; (simp_all [wiM] <;> first | omega | (rw [Bool.eq_iff_iff]; simp <;> omega))
  · refine ab (ag 8 rfl (AC.nilE ?_))
    refine bodyQ_r (ResOk.one rfl rfl) ?_; (simp_all [wiM] <;> (omega))
theorem refWithin02_of {n lo hi : Int} {b : Bool} (h : wiM n lo hi = b) : PTr Tryz.prog 210 [i64 n, i64 lo, i64 hi] (.bool b) := h ▸ refWithin02_tr n lo hi
theorem refSmall_tr (c : Int) : PTr Tryz.prog 162 [i64 c] (i64 (smallM c)) := by
  refine PTr.of_body (N := 32) Tryz.func162 rfl rfl rfl ?_
  cases h1 : wiM c 65 90 with
  | true =>
    rw [show smallM c = w64 (c + 32) from if_pos h1]
    refine ae0 (ag 11 rfl (AC.pln (AOp.callP rfl rfl rfl (refWithin02_of h1) (ab (ag 17 rfl (AC.nilE ?_))))))
    refine bodyQ_r (ResOk.one rfl rfl) ?_
    rfl
  | false =>
  have n1 : ¬ wiM c 65 90 = true := by rw [h1]; exact Bool.false_ne_true
  cases h2 : (wiM c 192 222) with
  | true =>
    refine ae0 (ag 11 rfl (AC.pln (AOp.callP rfl rfl rfl (refWithin02_of h1) (ab (ag 7 rfl (AC.pln (AOp.callP rfl rfl rfl (refWithin02_of h2) (ab (ag 7 rfl (AC.toCode ?_))))))))))
    (refine AWp.condCase rfl (fun h => ?_) (fun h => ?_))
    · have hc : c ≠ 215 := by simpa using h
      rw [show smallM c = w64 (c + 32) by rw [smallM, if_neg n1, if_pos ⟨h2, hc⟩]]
      refine ae (ag 13 rfl (AC.nilE ?_))
      refine bodyQ_r (ResOk.one rfl rfl) ?_
      rfl
    · have hc : c = 215 := by simpa using h
      subst hc
      refine ae (ag 3 rfl (AC.pln (AOp.callP rfl rfl rfl (refWithin02_tr _ _ _) (ab (ag 10 rfl (AC.pln (AOp.callP rfl rfl rfl (refWithin02_tr _ _ _) (ab (ag 38 rfl (AC.nilE ?_))))))))))
      refine bodyQ_r (ResOk.one rfl rfl) ?_
      rfl
  | false =>
  have n2 : ¬ (wiM c 192 222 = true ∧ c ≠ 215) := by rw [h2]; exact fun h => Bool.false_ne_true h.1
  cases h3 : (wiM c 913 937) with
  | true =>
    refine ae0 (ag 11 rfl (AC.pln (AOp.callP rfl rfl rfl (refWithin02_of h1) (ab (ag 7 rfl (AC.pln (AOp.callP rfl rfl rfl (refWithin02_of h2) (ab (ag 11 rfl (AC.pln (AOp.callP rfl rfl rfl (refWithin02_of h3) (ab (ag 7 rfl (AC.toCode ?_))))))))))))))
    (refine AWp.condCase rfl (fun h => ?_) (fun h => ?_))
    · have hc : c ≠ 930 := by simpa using h
      rw [show smallM c = w64 (c + 32) by rw [smallM, if_neg n1, if_neg n2, if_pos ⟨h3, hc⟩]]
      refine ae (ag 13 rfl (AC.nilE ?_))
      refine bodyQ_r (ResOk.one rfl rfl) ?_
      rfl
    · have hc : c = 930 := by simpa using h
      subst hc
      refine ae (ag 2 rfl (AC.pln (AOp.callP rfl rfl rfl (refWithin02_tr _ _ _) (ab (ag 38 rfl (AC.nilE ?_))))))
      refine bodyQ_r (ResOk.one rfl rfl) ?_
      rfl
  | false =>
  have n3 : ¬ (wiM c 913 937 = true ∧ c ≠ 930) := by rw [h3]; exact fun h => Bool.false_ne_true h.1
  cases h4 : (wiM c 1040 1071) with
  | true =>
    rw [show smallM c = w64 (c + 32) by rw [smallM, if_neg n1, if_neg n2, if_neg n3, if_pos h4]]
    refine ae0 (ag 11 rfl (AC.pln (AOp.callP rfl rfl rfl (refWithin02_of h1) (ab (ag 7 rfl (AC.pln (AOp.callP rfl rfl rfl (refWithin02_of h2) (ab (ag 11 rfl (AC.pln (AOp.callP rfl rfl rfl (refWithin02_of h3) (ab (ag 10 rfl (AC.pln (AOp.callP rfl rfl rfl (refWithin02_of h4) (ab (ag 14 rfl (AC.nilE ?_))))))))))))))))))
    refine bodyQ_r (ResOk.one rfl rfl) ?_
    rfl
  | false =>
  have n4 : ¬ (wiM c 1040 1071 = true) := by rw [h4]; exact Bool.false_ne_true
  rw [show smallM c = if c = 7838 then 223 else if c = 8490 then 107 else if c = 8491 then 229 else c by rw [smallM, if_neg n1, if_neg n2, if_neg n3, if_neg n4]]
  refine ae0 (ag 11 rfl (AC.pln (AOp.callP rfl rfl rfl (refWithin02_of h1) (ab (ag 7 rfl (AC.pln (AOp.callP rfl rfl rfl (refWithin02_of h2) (ab (ag 11 rfl (AC.pln (AOp.callP rfl rfl rfl (refWithin02_of h3) (ab (ag 10 rfl (AC.pln (AOp.callP rfl rfl rfl (refWithin02_of h4) (ab (ag 11 rfl (AC.toCode ?_))))))))))))))))))
  (refine AWp.condCase rfl (fun h => ?_) (fun h => ?_))
  · have h : c = 7838 := by simpa using h
    subst h
    refine ae (ag 8 rfl (AC.nilE ?_))
    refine bodyQ_r (ResOk.one rfl rfl) ?_
    rfl
  have h : c ≠ 7838 := by simpa using h
  rw [if_neg h]
  refine ae (ag 7 rfl (AC.toCode ?_))
  (refine AWp.condCase rfl (fun g => ?_) (fun g => ?_))
  · have g : c = 8490 := by simpa using g
    subst g
    refine ae (ag 8 rfl (AC.nilE ?_))
    refine bodyQ_r (ResOk.one rfl rfl) ?_
    rfl
  have g : c ≠ 8490 := by simpa using g
  rw [if_neg g]
  refine ae (ag 7 rfl (AC.toCode ?_))
  (refine AWp.condCase rfl (fun q => ?_) (fun q => ?_))
  · have q : c = 8491 := by simpa using q
    subst q
    refine ae (ag 8 rfl (AC.nilE ?_))
    refine bodyQ_r (ResOk.one rfl rfl) ?_
    rfl
  have q : c ≠ 8491 := by simpa using q
  rw [if_neg q]
  refine ae (ag 10 rfl (AC.nilE ?_))
  refine bodyQ_r (ResOk.one rfl rfl) ?_
  rfl
theorem refFoldOf_tr (c : Int) : PTr Tryz.prog 110 [i64 c] (.ds ((rfold c).map zC)) := by
  refine PTr.of_body (N := 42) Tryz.func110 rfl rfl rfl ?_
  by_cases h0 : c = 181
  · subst h0
    refine ae0 (ag 21 rfl (AC.pln (AOp.buildF 6 okL rfl rfl rfl rfl rfl rfl rfl rfl rfl rfl rfl rfl (ab (ag 6 rfl (AC.nilE ?_))))))
    refine bodyQ_r (ResOk.one rfl rfl) ?_
    rfl
  have a0 : (c == 181) = false := by rw [beq_eq_false_iff_ne]; exact h0
  by_cases h1 : c = 223
  · subst h1
    refine ae0 (ag 32 rfl (AC.pln (AOp.buildF 10 okL rfl rfl rfl rfl rfl rfl rfl rfl rfl rfl rfl rfl (ab (ag 6 rfl (AC.nilE ?_))))))
    refine bodyQ_r (ResOk.one rfl rfl) ?_
    rfl
  have a1 : (c == 223) = false := by rw [beq_eq_false_iff_ne]; exact h1
  by_cases h2 : c = 7838
  · subst h2
    refine ae0 (ag 35 rfl (AC.pln (AOp.buildF 10 okL rfl rfl rfl rfl rfl rfl rfl rfl rfl rfl rfl rfl (ab (ag 6 rfl (AC.nilE ?_))))))
    refine bodyQ_r (ResOk.one rfl rfl) ?_
    rfl
  have a2 : (c == 7838) = false := by rw [beq_eq_false_iff_ne]; exact h2
  by_cases h3 : c = 329
  · subst h3
    refine ae0 (ag 42 rfl (AC.pln (AOp.buildF 13 okL rfl rfl rfl rfl rfl rfl rfl rfl rfl rfl rfl rfl (ab (ag 6 rfl (AC.nilE ?_))))))
    refine bodyQ_r (ResOk.one rfl rfl) ?_
    rfl
  have a3 : (c == 329) = false := by rw [beq_eq_false_iff_ne]; exact h3
  by_cases h4 : c = 383
  · subst h4
    refine ae0 (ag 49 rfl (AC.pln (AOp.buildF 16 okL rfl rfl rfl rfl rfl rfl rfl rfl rfl rfl rfl rfl (ab (ag 6 rfl (AC.nilE ?_))))))
    refine bodyQ_r (ResOk.one rfl rfl) ?_
    rfl
  have a4 : (c == 383) = false := by rw [beq_eq_false_iff_ne]; exact h4
  by_cases h5 : c = 962
  · subst h5
    refine ae0 (ag 56 rfl (AC.pln (AOp.buildF 19 okL rfl rfl rfl rfl rfl rfl rfl rfl rfl rfl rfl rfl (ab (ag 6 rfl (AC.nilE ?_))))))
    refine bodyQ_r (ResOk.one rfl rfl) ?_
    rfl
  have a5 : (c == 962) = false := by rw [beq_eq_false_iff_ne]; exact h5
  by_cases h6 : c = 64256
  · subst h6
    refine ae0 (ag 63 rfl (AC.pln (AOp.buildF 22 okL rfl rfl rfl rfl rfl rfl rfl rfl rfl rfl rfl rfl (ab (ag 6 rfl (AC.nilE ?_))))))
    refine bodyQ_r (ResOk.one rfl rfl) ?_
    rfl
  have a6 : (c == 64256) = false := by rw [beq_eq_false_iff_ne]; exact h6
  by_cases h7 : c = 64257
  · subst h7
    refine ae0 (ag 70 rfl (AC.pln (AOp.buildF 25 okL rfl rfl rfl rfl rfl rfl rfl rfl rfl rfl rfl rfl (ab (ag 6 rfl (AC.nilE ?_))))))
    refine bodyQ_r (ResOk.one rfl rfl) ?_
    rfl
  have a7 : (c == 64257) = false := by rw [beq_eq_false_iff_ne]; exact h7
  by_cases h8 : c = 64258
  · subst h8
    refine ae0 (ag 77 rfl (AC.pln (AOp.buildF 28 okL rfl rfl rfl rfl rfl rfl rfl rfl rfl rfl rfl rfl (ab (ag 6 rfl (AC.nilE ?_))))))
    refine bodyQ_r (ResOk.one rfl rfl) ?_
    rfl
  have a8 : (c == 64258) = false := by rw [beq_eq_false_iff_ne]; exact h8
  by_cases h9 : c = 64259
  · subst h9
    refine ae0 (ag 84 rfl (AC.pln (AOp.buildF 31 okL rfl rfl rfl rfl rfl rfl rfl rfl rfl rfl rfl rfl (ab (ag 6 rfl (AC.nilE ?_))))))
    refine bodyQ_r (ResOk.one rfl rfl) ?_
    rfl
  have a9 : (c == 64259) = false := by rw [beq_eq_false_iff_ne]; exact h9
  by_cases h10 : c = 64260
  · subst h10
    refine ae0 (ag 91 rfl (AC.pln (AOp.buildF 34 okL rfl rfl rfl rfl rfl rfl rfl rfl rfl rfl rfl rfl (ab (ag 6 rfl (AC.nilE ?_))))))
    refine bodyQ_r (ResOk.one rfl rfl) ?_
    rfl
  have a10 : (c == 64260) = false := by rw [beq_eq_false_iff_ne]; exact h10
  by_cases h11 : c = 64261
  · subst h11
    refine ae0 (ag 102 rfl (AC.pln (AOp.buildF 38 okL rfl rfl rfl rfl rfl rfl rfl rfl rfl rfl rfl rfl (ab (ag 6 rfl (AC.nilE ?_))))))
    refine bodyQ_r (ResOk.one rfl rfl) ?_
    rfl
  have a11 : (c == 64261) = false := by rw [beq_eq_false_iff_ne]; exact h11
  by_cases h12 : c = 64262
  · subst h12
    refine ae0 (ag 105 rfl (AC.pln (AOp.buildF 38 okL rfl rfl rfl rfl rfl rfl rfl rfl rfl rfl rfl rfl (ab (ag 6 rfl (AC.nilE ?_))))))
    refine bodyQ_r (ResOk.one rfl rfl) ?_
    rfl
  have a12 : (c == 64262) = false := by rw [beq_eq_false_iff_ne]; exact h12
  have hl : ¬ wiM c 64256 64262 = true := by rw [wi_iff]; omega
  rw [show rfold c = [smallM c] by rw [rfold, if_neg (by omega), if_neg (by omega), if_neg (by omega), if_neg (by omega), if_neg (by omega), if_neg hl]]
  refine ae0 (ag 18 rfl (AC.toCode ?_))
  rw [a0]
  refine ae (ag 8 rfl (AC.toCode ?_))
  rw [a1]
  refine ae (ag 6 rfl (AC.toCode ?_))
  rw [a2]
  refine ae (ag 7 rfl (AC.toCode ?_))
  rw [a3]
  refine ae (ag 7 rfl (AC.toCode ?_))
  rw [a4]
  refine ae (ag 7 rfl (AC.toCode ?_))
  rw [a5]
  refine ae (ag 7 rfl (AC.toCode ?_))
  rw [a6]
  refine ae (ag 7 rfl (AC.toCode ?_))
  rw [a7]
  refine ae (ag 7 rfl (AC.toCode ?_))
  rw [a8]
  refine ae (ag 7 rfl (AC.toCode ?_))
  rw [a9]
  refine ae (ag 7 rfl (AC.toCode ?_))
  rw [a10]
  refine ae (ag 8 rfl (AC.toCode ?_))
  rw [a11]
  refine ae (ag 6 rfl (AC.toCode ?_))
  rw [a12]
  refine ae (ag 7 rfl (AC.pln (AOp.callP rfl rfl rfl (refSmall_tr _) (ab (AC.pln (AOp.buildF 41 okL rfl rfl rfl rfl rfl rfl rfl rfl rfl rfl rfl rfl (ab (ag 4 rfl (AC.nilE ?_)))))))))
  refine bodyQ_r (ResOk.one rfl rfl) ?_
  rfl
theorem getZ {l : List Int} {k : Nat} {y : Int} (h : l[k]? = some y) : (l.map zC)[((k : Nat) : Int).toNat]? = some (zC y) := by simp [h]
theorem beq_cons (x y : Int) (a b : List Int) : (x :: a == y :: b) = (x == y && a == b) := rfl
theorem sameInts_tr (a b : List Int) : PTr Tryz.prog 75 [.ds (a.map zC), .ds (b.map zC)] (.bool (a == b)) := by
  refine PTr.of_body (N := 26) Tryz.func75 rfl rfl rfl ?_
  refine AWp.know (t := 0) rfl (Known.ds _) fun hlen => ?_
  rw [List.length_map] at hlen
  refine ae0 (ag 15 rfl (AC.toCode ?_))
  (refine AWp.condCase rfl (fun h0 => ?_) (fun h0 => ?_))
  · simp only [List.length_map, bne_iff_ne, ne_eq] at h0
    have e : (a == b) = false := by rw [beq_eq_false_iff_ne]; intro e; rw [e] at h0; exact h0 rfl
    refine ae (ag 7 rfl (AC.nilE ?_))
    refine bodyQ_r (ResOk.one rfl rfl) ?_
    rw [e]
  · simp only [List.length_map, bne_eq_false_iff_eq] at h0
    have h0 : a.length = b.length := by omega
    refine ae (ag 9 rfl (AC.toCode ?_))
    refine AWp.loopM (α := Nat) (fun k => a.length - k) (fun k => [(0, .ds (a.map zC)), (1, .ds (b.map zC)), (5, i64 k)]) (fun _ => _)
      (fun k => k ≤ a.length ∧ (a.drop k == b.drop k) = (a == b)) 0 ⟨Nat.zero_le _, rfl⟩ ?_ (List.Perm.refl _) ?_
    · simp only [AllIn]
      refine ⟨rfl, rfl, rfl, trivial⟩
    rintro k ⟨hk, hm⟩ ih
    refine ae0 (ag 9 rfl (AC.toCode ?_))
    (refine AWp.condCase rfl (fun h => ?_) (fun h => ?_))
    · have h := of_decide_eq_true h
      simp only [List.length_map] at h
      obtain ⟨x, hx⟩ : ∃ x, a[k]? = some x := ⟨a[k], by simp [show k < a.length by omega]⟩
      obtain ⟨y, hy⟩ : ∃ y, b[k]? = some y := ⟨b[k]'(by omega), by simp [show k < b.length by omega]⟩
      rw [drop_get hx, drop_get hy, beq_cons] at hm
      have nx := nxt (k := k) (n := a.length) (by omega) hlen
      refine ae (ag 5 rfl (AC.drawn okL hmix (by kernel_rfl) (ag 2 rfl (AC.toPl (Pl.pure rfl (sOp_idxD rfl rfl rfl rfl rfl (by omega) (getZ hx) rfl) (ap (ag 3 rfl (AC.toPl (Pl.pure rfl (sOp_idxD rfl rfl rfl rfl rfl (by omega) (getZ hy) rfl) (ap (ag 4 rfl (AC.toCode ?_))))))))))))
      (refine AWp.condCase rfl (fun h2 => ?_) (fun h2 => ?_))
      · have h2 : (x == y) = false := by simpa using h2
        rw [h2, Bool.false_and] at hm
        refine ae (ag 8 rfl (AC.nilE (ax (ag 2 rfl (AC.nilE ?_)))))
        refine bodyQ_r (ResOk.one rfl rfl) ?_
        rw [← hm]
      · have h2 : (x == y) = true := by simpa using h2
        rw [h2, Bool.true_and] at hm
        refine ae (ag 8 rfl (AC.nilE (seqQ_n ?_)))
        (refine AIn.nextN 0 (ih (k + 1) (⟨by omega, hm⟩) (by omega)) ?_ rfl; repeat (first | exact trivial | refine ⟨rfl, ?_⟩ | refine ⟨congrArg some nx, ?_⟩))
    · have h := of_decide_eq_false h
      simp only [List.length_map] at h
      rw [List.drop_eq_nil_of_le (by omega), List.drop_eq_nil_of_le (by omega)] at hm
      refine ae (ag 2 rfl (AC.nilE (ae (ag 6 rfl (AC.nilE ?_)))))
      refine bodyQ_r (ResOk.one rfl rfl) ?_
      rw [← hm]; rfl
theorem sameChars_tr (a b : Int) : PTr Tryz.prog 108 [i64 a, i64 b] (.bool (rfold a == rfold b)) := by
  refine PTr.of_body (N := 10) Tryz.func108 rfl rfl rfl ?_
  refine ae0 (ag 8 rfl (AC.pln (AOp.callP rfl rfl rfl (refFoldOf_tr _) (ab (ag 1 rfl (AC.pln (AOp.callP rfl rfl rfl (refFoldOf_tr _) (ab (AC.pln (AOp.callP rfl rfl rfl (sameInts_tr _ _) (ab (ag 4 rfl (AC.nilE ?_)))))))))))))
  refine bodyQ_r (ResOk.one rfl rfl) ?_
  rfl
end Go.Proofs.YtpopmiodjibljaaGreatDoor


namespace Go.Proofs.YtpopmiodjibljaaGreatDoor
open Go Go.Abs
set_option linter.unusedVariables false
set_option maxRecDepth 100000
set_option linter.unusedSimpArgs false

theorem getB {l : List UInt8} {k : Nat} {y : UInt8} (h : l[k]? = some y) : (l.map byteC)[((k : Nat) : Int).toNat]? = some (byteC y) := by simp [h]
def nameM (s : List UInt8) : Bool := s.all (fun b => ltM b.toNat) && wiM s.length 1 8
theorem patIsName_tr (s : List UInt8) : PTr Tryz.prog 213 [.str s] (.bool (nameM s)) := by
  refine PTr.of_body (N := 24) Tryz.func213 rfl rfl rfl ?_
  refine AWp.know (t := 0) rfl (Known.str s) fun hlen => ?_
  refine ae0 (ag 9 rfl (AC.pln (AOp.toBytes okL rfl rfl rfl rfl rfl rfl rfl (ab (ag 5 rfl (AC.toCode ?_))))))
  refine AWp.loopM (α := Nat) (fun a => s.length - a) (fun a => [(0, .str s), (6, .ds (s.map byteC)), (7, i64 (s.map byteC).length), (8, i64 a)]) (fun _ => _)
    (fun a => a ≤ s.length ∧ (s.drop a).all (fun b => ltM b.toNat) = s.all (fun b => ltM b.toNat)) 0 ⟨Nat.zero_le _, rfl⟩ ?_ (List.Perm.refl _) ?_
  · simp only [AllIn]
    refine ⟨rfl, rfl, rfl, rfl, trivial⟩
  rintro k ⟨hk, hm⟩ ih
  refine ae0 (ag 6 rfl (AC.toCode ?_))
  (refine AWp.condCase rfl (fun h => ?_) (fun h => ?_))
  · have h := of_decide_eq_true h
    simp only [List.length_map] at h
    obtain ⟨y, hy⟩ : ∃ y, s[k]? = some y := ⟨s[k], by simp [show k < s.length by omega]⟩
    rw [drop_get hy, List.all_cons] at hm
    refine ae (ag 6 rfl (AC.sim okL (sOp_idxD rfl rfl rfl rfl rfl (by omega) (getB hy) rfl) rfl (ag 7 rfl (AC.pln (AOp.callP rfl rfl rfl (patIsLetter_tr _) (ab (ag 3 rfl (AC.toCode ?_))))))))
    (refine AWp.condCase rfl (fun h2 => ?_) (fun h2 => ?_))
    · simp only [Bool.not_eq_true'] at h2
      rw [h2] at hm
      refine ae (ag 8 rfl (AC.nilE (ax (ag 2 rfl (AC.nilE ?_)))))
      refine bodyQ_r (ResOk.one rfl rfl) ?_
      rw [nameM, ← hm]; rfl
    · simp only [Bool.not_eq_false'] at h2
      rw [h2] at hm
      refine ae (ag 7 rfl (AC.nilE (seqQ_n ?_)))
      refine AIn.nextN 0 (ih (k + 1) ⟨by omega, hm⟩ (by omega)) ?_ rfl
      refine ⟨rfl, rfl, rfl, ?_, trivial⟩
      exact congrArg some (nxt (by omega) hlen)
  · have h := of_decide_eq_false h
    simp only [List.length_map] at h
    rw [List.drop_eq_nil_of_le (by omega)] at hm
    refine ae (ag 2 rfl (AC.nilE (ae (ag 6 rfl (AC.toOps ?_)))))
    refine AOps.guardCase rfl rfl rfl (fun h => ?_) (fun h => ?_)
    · refine ab (ag 8 rfl (AC.nilE ?_))
      refine bodyQ_r (ResOk.one rfl rfl) ?_; simp_all [nameM, wiM] <;> omega
    · refine ab (ag 8 rfl (AC.nilE ?_))
      refine bodyQ_r (ResOk.one rfl rfl) ?_; simp_all [nameM, wiM] <;> omega

theorem refIsName_tr (s : List UInt8) : PTr Tryz.prog 159 [.str s] (.bool (nameM s)) := by
  refine PTr.of_body (N := 18) Tryz.func159 rfl rfl rfl ?_
  refine AWp.know (t := 0) rfl (Known.str s) fun hlen => ?_
  refine ae0 (ag 12 rfl (AC.toCode ?_))
  refine AWp.loopM (α := Nat) (fun a => s.length - a) (fun a => [(0, .str s), (3, i64 a)]) (fun _ => _)
    (fun a => a ≤ s.length ∧ (s.drop a).all (fun b => ltM b.toNat) = s.all (fun b => ltM b.toNat)) 0 ⟨Nat.zero_le _, rfl⟩ ?_ (List.Perm.refl _) ?_
  · simp only [AllIn]
    refine ⟨rfl, rfl, trivial⟩
  rintro k ⟨hk, hm⟩ ih
  refine ae0 (ag 9 rfl (AC.toCode ?_))
  (refine AWp.condCase rfl (fun h => ?_) (fun h => ?_))
  · have h := of_decide_eq_true h
    obtain ⟨y, hy⟩ : ∃ y, s[k]? = some y := ⟨s[k], by simp [show k < s.length by omega]⟩
    rw [drop_get hy, List.all_cons] at hm
    refine ae (ag 8 rfl (AC.sim okL (sOp_idxS rfl rfl rfl rfl (by omega) (by simpa using hy)) rfl (AC.pln (AOp.callP rfl rfl rfl (refIsLetter_tr _) (ab (ag 3 rfl (AC.toCode ?_)))))))
    (refine AWp.condCase rfl (fun h2 => ?_) (fun h2 => ?_))
    · simp only [Bool.not_eq_true'] at h2
      rw [h2] at hm
      refine ae (ag 8 rfl (AC.nilE (ax (ag 2 rfl (AC.nilE ?_)))))
      refine bodyQ_r (ResOk.one rfl rfl) ?_
      rw [nameM, ← hm]; rfl
    · simp only [Bool.not_eq_false'] at h2
      rw [h2] at hm
      refine ae (ag 8 rfl (AC.nilE (seqQ_n ?_)))
      refine AIn.nextN 0 (ih (k + 1) ⟨by omega, hm⟩ (by omega)) ?_ rfl
      refine ⟨rfl, ?_, trivial⟩
      exact congrArg some (nxt (by omega) hlen)
  · have h := of_decide_eq_false h
    rw [List.drop_eq_nil_of_le (by omega)] at hm
    refine ae (ag 2 rfl (AC.nilE (ae (ag 4 rfl (AC.pln (AOp.callP rfl rfl rfl (refWithin_tr _ _ _) (ab (ag 4 rfl (AC.nilE ?_)))))))))
    refine bodyQ_r (ResOk.one rfl rfl) ?_
    rw [nameM, ← hm]; rfl
end Go.Proofs.YtpopmiodjibljaaGreatDoor


namespace Go.Proofs.YtpopmiodjibljaaGreatDoor
open Go Go.Abs
set_option linter.unusedVariables false
set_option maxRecDepth 100000
set_option linter.unusedSimpArgs false
/-! Flags, and the places of bytes in texts. -/
def hasM (s : List UInt8) (c : Int) : Bool := s.any fun y => (y.toNat : Int) == c
theorem hasM_cons (y : UInt8) (s : List UInt8) (c : Int) : hasM (y :: s) c = ((y.toNat : Int) == c || hasM s c) := rfl
theorem has_tr (s : List UInt8) (c : Int) : PTr Tryz.prog 107 [.str s, .int .u8 c] (.bool (hasM s c)) := by
  refine PTr.of_body (N := 17) Tryz.func107 rfl rfl rfl ?_
  refine AWp.know (t := 0) rfl (Known.str s) fun hlen => ?_
  refine ae0 (ag 12 rfl (AC.toCode ?_))
  refine AWp.loopM (α := Nat) (fun a => s.length - a) (fun a => [(0, .str s), (1, .int .u8 c), (5, i64 a)]) (fun _ => _)
    (fun a => a ≤ s.length ∧ hasM (s.drop a) c = hasM s c) 0 ⟨Nat.zero_le _, rfl⟩ ?_ (List.Perm.refl _) ?_
  · simp only [AllIn]
    refine ⟨rfl, rfl, rfl, trivial⟩
  rintro k ⟨hk, hm⟩ ih
  refine ae0 (ag 9 rfl (AC.toCode ?_))
  (refine AWp.condCase rfl (fun h => ?_) (fun h => ?_))
  · have h := of_decide_eq_true h
    obtain ⟨y, hy⟩ : ∃ y, s[k]? = some y := ⟨s[k], by simp [show k < s.length by omega]⟩
    have nx := nxt (k := k) (n := s.length) (by omega) hlen
    rw [drop_get hy, hasM_cons] at hm
    refine ae (ag 8 rfl (AC.sim okL (sOp_idxS rfl rfl rfl rfl (by omega) (by simpa using hy)) rfl (ag 4 rfl (AC.toCode ?_))))
    (refine AWp.condCase rfl (fun h2 => ?_) (fun h2 => ?_))
    · rw [h2, Bool.true_or] at hm
      refine ae (ag 8 rfl (AC.nilE (ax (ag 2 rfl (AC.nilE ?_)))))
      refine bodyQ_r (ResOk.one rfl rfl) ?_
      rw [← hm]
    · rw [h2, Bool.false_or] at hm
      refine ae (ag 8 rfl (AC.nilE (seqQ_n ?_)))
      (refine AIn.nextN 0 (ih (k + 1) (⟨by omega, hm⟩) (by omega)) ?_ rfl; repeat (first | exact trivial | refine ⟨rfl, ?_⟩ | refine ⟨congrArg some nx, ?_⟩))
  · have h := of_decide_eq_false h
    rw [List.drop_eq_nil_of_le (by omega)] at hm
    refine ae (ag 2 rfl (AC.nilE (ae (ag 6 rfl (AC.nilE ?_)))))
    refine bodyQ_r (ResOk.one rfl rfl) ?_
    rw [← hm]; rfl
def idxB (c : Int) : List UInt8 → Int → Int
  | [], _ => -1
  | y :: l, k => if (c == (y.toNat : Int)) = true then k else idxB c l (k + 1)
theorem idxB_ge (c : Int) : ∀ (s : List UInt8) (k : Int), 0 ≤ k → decide (idxB c s k ≥ 0) = hasM s c
  | [], k, _ => rfl
  | y :: l, k, hk => by
    have ih := idxB_ge c l (k + 1) (by omega)
    unfold idxB
    rw [hasM_cons]
    cases h : (c == (y.toNat : Int)) with
    | true =>
      have h' : ((y.toNat : Int) == c) = true := by rw [beq_iff_eq] at h ⊢; exact h.symm
      rw [if_pos rfl, h', Bool.true_or, decide_eq_true hk]
    | false =>
      have h' : ((y.toNat : Int) == c) = false := by rw [beq_eq_false_iff_ne] at h ⊢; exact fun e => h e.symm
      rw [if_neg Bool.false_ne_true, h', Bool.false_or, ih]
theorem indexB_tr (s : List UInt8) (c : Int) : PTr Tryz.prog 113 [.ds (s.map byteC), .int .u8 c] (i64 (idxB c s 0)) := by
  refine PTr.of_body (N := 19) Tryz.func113 rfl rfl rfl ?_
  refine AWp.know (t := 0) rfl (Known.ds _) fun hlen => ?_
  rw [List.length_map] at hlen
  refine ae0 (ag 14 rfl (AC.toCode ?_))
  refine AWp.loopM (α := Nat) (fun a => s.length - a) (fun a => [(0, .ds (s.map byteC)), (1, .int .u8 c), (7, i64 (s.map byteC).length), (8, i64 a)]) (fun _ => _)
    (fun a => a ≤ s.length ∧ idxB c (s.drop a) a = idxB c s 0) 0 ⟨Nat.zero_le _, rfl⟩ ?_ (List.Perm.refl _) ?_
  · simp only [AllIn]
    refine ⟨rfl, rfl, rfl, rfl, trivial⟩
  rintro k ⟨hk, hm⟩ ih
  refine ae0 (ag 6 rfl (AC.toCode ?_))
  (refine AWp.condCase rfl (fun h => ?_) (fun h => ?_))
  · have h := of_decide_eq_true h
    simp only [List.length_map] at h
    obtain ⟨y, hy⟩ : ∃ y, s[k]? = some y := ⟨s[k], by simp [show k < s.length by omega]⟩
    have nx := nxt (k := k) (n := s.length) (by omega) hlen
    rw [drop_get hy, idxB] at hm
    refine ae (ag 15 rfl (AC.sim okL (sOp_idxD rfl rfl rfl rfl rfl (by omega) (getB hy) rfl) rfl (ag 4 rfl (AC.toCode ?_))))
    (refine AWp.condCase rfl (fun h2 => ?_) (fun h2 => ?_))
    · rw [h2, if_pos rfl] at hm
      refine ae (ag 9 rfl (AC.nilE (ax (ag 2 rfl (AC.nilE ?_)))))
      refine bodyQ_r (ResOk.one rfl rfl) ?_
      rw [← hm]
    · rw [h2, if_neg Bool.false_ne_true] at hm
      refine ae (ag 7 rfl (AC.nilE (seqQ_n ?_)))
      (refine AIn.nextN 0 (ih (k + 1) (⟨by omega, by rw [← hm]; congr 1⟩) (by omega)) ?_ rfl; repeat (first | exact trivial | refine ⟨rfl, ?_⟩ | refine ⟨congrArg some nx, ?_⟩))
  · have h := of_decide_eq_false h
    simp only [List.length_map] at h
    rw [List.drop_eq_nil_of_le (by omega)] at hm
    refine ae (ag 2 rfl (AC.nilE (ae (ag 6 rfl (AC.nilE ?_)))))
    refine bodyQ_r (ResOk.one rfl rfl) ?_
    rw [← hm]; rfl
theorem containsB_tr (s : List UInt8) (c : Int) : PTr Tryz.prog 61 [.ds (s.map byteC), .int .u8 c] (.bool (hasM s c)) := by
  refine PTr.of_body (N := 9) Tryz.func61 rfl rfl rfl ?_
  refine ae0 (ag 9 rfl (AC.pln (AOp.callP rfl rfl rfl (indexB_tr s c) (ab (ag 5 rfl (AC.nilE ?_))))))
  refine bodyQ_r (ResOk.one rfl rfl) ?_
  rw [← idxB_ge c s 0 (Int.le_refl _)]
def lets : List UInt8 := [105, 109, 115, 120, 103]
def flgM : Int → List UInt8 → Bool
  | _, [] => true
  | p, c :: s => if idxB c.toNat lets 0 < p then false else flgM (idxB c.toNat lets 0 + 1) s
theorem idx_at {c : UInt8} : ∀ {j : Nat}, lets[j]? = some c → idxB c.toNat lets 0 = j
  | 0, h => by cases h; rfl
  | 1, h => by cases h; rfl
  | 2, h => by cases h; rfl
  | 3, h => by cases h; rfl
  | 4, h => by cases h; rfl
  | j + 5, h => by simp [lets] at h
theorem idx_or (c : UInt8) : idxB c.toNat lets 0 = -1 ∨ ∃ j, j < 5 ∧ lets[j]? = some c := by
  by_cases h0 : c = 105
  · exact .inr ⟨0, by omega, by rw [h0]; rfl⟩
  by_cases h1 : c = 109
  · exact .inr ⟨1, by omega, by rw [h1]; rfl⟩
  by_cases h2 : c = 115
  · exact .inr ⟨2, by omega, by rw [h2]; rfl⟩
  by_cases h3 : c = 120
  · exact .inr ⟨3, by omega, by rw [h3]; rfl⟩
  by_cases h4 : c = 103
  · exact .inr ⟨4, by omega, by rw [h4]; rfl⟩
  left
  have k : ∀ d : UInt8, c ≠ d → ¬ (((c.toNat : Int) == (d.toNat : Int)) = true) := fun d hd h => hd (UInt8.toNat_inj.1 (by have := eq_of_beq h; omega))
  unfold lets
  rw [idxB, if_neg (k _ h0), idxB, if_neg (k _ h1), idxB, if_neg (k _ h2), idxB, if_neg (k _ h3), idxB, if_neg (k _ h4), idxB]
theorem idx_lt (c : UInt8) : -1 ≤ idxB c.toNat lets 0 ∧ idxB c.toNat lets 0 < 5 := by
  rcases idx_or c with h | ⟨j, hj, h⟩
  · rw [h]; omega
  · rw [idx_at h]; omega
theorem idx_none {c : UInt8} {p : Nat} (h : ∀ j, p ≤ j → j < 5 → lets[j]? ≠ some c) : idxB c.toNat lets 0 < p := by
  rcases idx_or c with h' | ⟨j, hj, h'⟩
  · rw [h']; omega
  · rw [idx_at h']
    by_cases hp : p ≤ j
    · exact absurd h' (h j hp hj)
    · omega
theorem patFlags_tr (s : List UInt8) : PTr Tryz.prog 59 [.str s] (.bool (flgM 0 s)) := by
  refine PTr.of_body (N := 23) Tryz.func59 rfl rfl rfl ?_
  refine AWp.know (t := 0) rfl (Known.str s) fun hlen => ?_
  refine ae0 (ag 14 rfl (AC.pln (AOp.toBytes okL rfl rfl rfl rfl rfl rfl rfl (ab (ag 5 rfl (AC.toCode ?_))))))
  refine AWp.loopM (α := Nat × Int) (fun a => s.length - a.1) (fun a => [(0, .str s), (3, i64 (a.2 - 1)), (8, .ds (s.map byteC)), (9, i64 (s.map byteC).length), (10, i64 a.1)]) (fun _ => _)
    (fun a => a.1 ≤ s.length ∧ flgM a.2 (s.drop a.1) = flgM 0 s ∧ 0 ≤ a.2) (0, 0) ⟨Nat.zero_le _, rfl, Int.le_refl _⟩ ?_ (List.Perm.refl _) ?_
  · simp only [AllIn]
    refine ⟨rfl, rfl, rfl, rfl, rfl, trivial⟩
  rintro ⟨k, p⟩ ⟨hk, hm, hp⟩ ih
  simp only at hk hm hp
  refine ae0 (ag 6 rfl (AC.toCode ?_))
  (refine AWp.condCase rfl (fun h => ?_) (fun h => ?_))
  · have h := of_decide_eq_true h
    simp only [List.length_map] at h
    obtain ⟨y, hy⟩ : ∃ y, s[k]? = some y := ⟨s[k], by simp [show k < s.length by omega]⟩
    have nx := nxt (k := k) (n := s.length) (by omega) hlen
    have hl := idx_lt y
    rw [drop_get hy, flgM] at hm
    refine ae (ag 6 rfl (AC.sim okL (sOp_idxD rfl rfl rfl rfl rfl (by omega) (getB hy) rfl) rfl (ag 6 rfl (AC.pln (AOp.buildSlice okL rfl rfl rfl rfl rfl rfl rfl rfl rfl rfl rfl (fun _ _ => (ab (AC.pln (AOp.litBytes okL rfl rfl rfl rfl rfl rfl (ab (ag 1 rfl (AC.pln (AOp.callP rfl rfl rfl (indexB_tr lets _) (ab (ag 11 rfl (AC.toCode ?_))))))))))))))))
    (refine AWp.condCase rfl (fun h2 => ?_) (fun h2 => ?_))
    · have h2 := of_decide_eq_true h2
      rw [if_pos (by omega)] at hm
      refine ae (ag 9 rfl (AC.nilE (ax (ag 2 rfl (AC.nilE ?_)))))
      refine bodyQ_r (ResOk.one rfl rfl) ?_
      rw [← hm]
    · have h2 := of_decide_eq_false h2
      rw [if_neg (by omega)] at hm
      refine ae (ag 12 rfl (AC.nilE (seqQ_n ?_)))
      (refine AIn.nextN 0 (ih ((k + 1, idxB y.toNat lets 0 + 1)) (⟨by simp only; omega, hm, by simp only; omega⟩) (by omega)) ?_ rfl; repeat (first | exact trivial | refine ⟨rfl, ?_⟩ | refine ⟨congrArg some nx, ?_⟩ | refine ⟨congrArg (fun v => some (A.int .i64 v)) (by omega), ?_⟩))
  · have h := of_decide_eq_false h
    simp only [List.length_map] at h
    rw [List.drop_eq_nil_of_le (by omega)] at hm
    refine ae (ag 2 rfl (AC.nilE (ae (ag 6 rfl (AC.nilE ?_)))))
    refine bodyQ_r (ResOk.one rfl rfl) ?_
    rw [← hm]; rfl
theorem refFlags_tr (s : List UInt8) : PTr Tryz.prog 54 [.str s] (.bool (flgM 0 s)) := by
  refine PTr.of_body (N := 33) Tryz.func54 rfl rfl rfl ?_
  refine AWp.know (t := 0) rfl (Known.str s) fun hlen => ?_
  refine ae0 (ag 22 rfl (AC.toCode ?_))
  refine AWp.loopM (α := Nat × Nat) (fun a => s.length - a.1) (fun a => [(0, .str s), (3, .str lets), (4, i64 a.2), (5, i64 a.1)]) (fun _ => _)
    (fun a => a.1 ≤ s.length ∧ flgM a.2 (s.drop a.1) = flgM 0 s ∧ a.2 ≤ 5) (0, 0) ⟨Nat.zero_le _, rfl, Nat.zero_le _⟩ ?_ (List.Perm.refl _) ?_
  · simp only [AllIn]
    refine ⟨rfl, rfl, rfl, rfl, trivial⟩
  rintro ⟨k, p⟩ ⟨hk, hm, hp⟩ ih0
  simp only at hk hm hp
  refine ae0 (ag 9 rfl (AC.toCode ?_))
  (refine AWp.condCase rfl (fun h => ?_) (fun h => ?_))
  · have h := of_decide_eq_true h
    obtain ⟨y, hy⟩ : ∃ y, s[k]? = some y := ⟨s[k], by simp [show k < s.length by omega]⟩
    rw [drop_get hy, flgM] at hm
    refine ae (ag 6 rfl (AC.toCode ?_))
    refine AWp.loopM (α := Nat) (fun a => 5 - a) (fun a => [(0, .str s), (3, .str lets), (4, i64 a), (5, i64 k)]) (fun _ => _)
      (fun a => a ≤ 5 ∧ p ≤ a ∧ ∀ j, p ≤ j → j < a → lets[j]? ≠ some y) p ⟨hp, Nat.le_refl _, fun j h1 h2 => by omega⟩ ?_ (List.Perm.refl _) ?_
    · simp only [AllIn]
      refine ⟨rfl, rfl, rfl, rfl, trivial⟩
    have e5 : (lets.length : Int) = 5 := rfl
    rintro q ⟨hq, hpq, hn⟩ ih
    refine ae0 (ag 2 rfl (AC.drawn okL hmix (by kernel_rfl) (ag 5 rfl (AC.toPl ?_))))
    (refine Pl.guardCase rfl rfl (fun h3 => ?_) (fun h3 => ?_))
    · have h3 := of_decide_eq_true h3
      have h3 : q < 5 := by omega
      obtain ⟨z, hz⟩ : ∃ z, lets[q]? = some z := ⟨lets[q]'h3, List.getElem?_eq_getElem h3⟩
      have nx := nxt (k := q) (n := 5) h3 (by decide)
      refine ap (ag 2 rfl (AC.toPl (Pl.pureW rfl rfl (sOp_idxS rfl rfl rfl rfl (by omega) (by simpa using hz)) (ap (ag 2 rfl (AC.toPl (Pl.pureW rfl rfl (sOp_idxS rfl rfl rfl rfl (by omega) (by simpa using hy)) (ap (ag 4 rfl (AC.toCode ?_))))))))))
      (refine AWp.condCase rfl (fun h4 => ?_) (fun h4 => ?_))
      · have h4 : z ≠ y := fun e => by rw [e] at h4; simp at h4
        refine ae (ag 9 rfl (AC.nilE (seqQ_n ?_)))
        (refine AIn.nextN 0 (ih (q + 1) (⟨by omega, by omega, fun j h1 h2 => by rcases Nat.lt_succ_iff_lt_or_eq.1 h2 with h2 | rfl; exact hn j h1 h2; rw [hz]; exact fun e => h4 (Option.some.inj e)⟩) (by omega)) ?_ rfl; repeat (first | exact trivial | refine ⟨rfl, ?_⟩ | refine ⟨congrArg some nx, ?_⟩))
      · have h4 : z = y := by
          have h4 : (z.toNat : Int) = y.toNat := by simpa using h4
          exact UInt8.toNat_inj.1 (by omega)
        rw [h4] at hz
        have e := idx_at hz
        rw [e, if_neg (by omega)] at hm
        have h5 : ((q : Int) == 5) = false := by rw [beq_eq_false_iff_ne]; omega
        have nx2 := nxt (k := k) (n := s.length) (by omega) hlen
        have ih := ih0
        refine ae (ag 2 rfl (AC.nilE (ae (ag 9 rfl (AC.toCode ?_)))))
        (refine AWp.condCase rfl (fun h6 => ?_) (fun h6 => ?_))
        · exfalso
          have h6 : (q : Int) = 5 := eq_of_beq h6
          omega
        refine ae (ag 14 rfl (AC.nilE (seqQ_n ?_)))
        (refine AIn.nextN 0 (ih ((k + 1, q + 1)) (⟨by simp only; omega, hm, by simp only; omega⟩) (by omega)) ?_ rfl; repeat (first | exact trivial | refine ⟨rfl, ?_⟩ | refine ⟨congrArg some nx, ?_⟩ | refine ⟨congrArg (fun v => some (A.int .i64 v)) (by exact (A.int.inj nx2).2), ?_⟩))
    · have h3 := of_decide_eq_false h3
      have h3 : q = 5 := by omega
      subst h3
      rw [if_pos (idx_none hn)] at hm
      refine ap (ag 13 rfl (AC.nilE (ae (ag 19 rfl (AC.nilE (ax (ag 2 rfl (AC.nilE ?_))))))))
      refine bodyQ_r (ResOk.one rfl rfl) ?_
      rw [← hm]
  · have h := of_decide_eq_false h
    rw [List.drop_eq_nil_of_le (by omega)] at hm
    refine ae (ag 2 rfl (AC.nilE (ae (ag 6 rfl (AC.nilE ?_)))))
    refine bodyQ_r (ResOk.one rfl rfl) ?_
    rw [← hm]; rfl
theorem inSet_tr (l : List (Int × Int)) (c : Int) : PTr Tryz.prog 109 [.ds (l.map spanC), i64 c] (.bool (l.any (inP c))) := by
  refine PTr.of_body (N := 24) Tryz.func109 rfl rfl rfl ?_
  refine AWp.know (t := 0) rfl (Known.ds _) fun hlen => ?_
  rw [List.length_map] at hlen
  refine ae0 (ag 12 rfl (AC.toCode ?_))
  refine AWp.loopM (α := Nat) (fun a => l.length - a) (fun a => [(0, .ds (l.map spanC)), (1, i64 c), (5, i64 a)]) (fun _ => _)
    (fun a => a ≤ l.length ∧ (l.drop a).any (inP c) = l.any (inP c)) 0 ⟨Nat.zero_le _, rfl⟩ ?_ (List.Perm.refl _) ?_
  · simp only [AllIn]
    refine ⟨rfl, rfl, rfl, trivial⟩
  rintro k ⟨hk, hm⟩ ih
  refine ae0 (ag 9 rfl (AC.toCode ?_))
  (refine AWp.condCase rfl (fun h => ?_) (fun h => ?_))
  · have h := of_decide_eq_true h
    simp only [List.length_map] at h
    obtain ⟨y, hy⟩ : ∃ y, l[k]? = some y := ⟨l[k], by simp [show k < l.length by omega]⟩
    have nx := nxt (k := k) (n := l.length) (by omega) hlen
    rw [drop_get hy, List.any_cons] at hm
    refine ae (ag 5 rfl (AC.drawn okL hmix (by kernel_rfl) (ag 3 rfl (AC.toPl (Pl.pure rfl (sOp_idxD rfl rfl rfl rfl rfl (by omega) (getS hy) rfl) (ap (ag 4 rfl (AC.toPl (Pl.pure rfl (sOp_idxD rfl rfl rfl rfl rfl (by omega) (getS hy) rfl) (ap (ag 2 rfl (AC.toPl (Pl.quiet rfl rfl rfl (AOp.callP rfl rfl rfl (refWithin_tr _ _ _) (AOps.nil (Qn_n ⟨rfl, rfl⟩))) (ap (ag 2 rfl (AC.toCode ?_))))))))))))))))
    (refine AWp.condCase rfl (fun h2 => ?_) (fun h2 => ?_))
    · rw [show inP c y = true from h2, Bool.true_or] at hm
      refine ae (ag 8 rfl (AC.nilE (ax (ag 2 rfl (AC.nilE ?_)))))
      refine bodyQ_r (ResOk.one rfl rfl) ?_
      rw [← hm]
    · rw [show inP c y = false from h2, Bool.false_or] at hm
      refine ae (ag 8 rfl (AC.nilE (seqQ_n ?_)))
      (refine AIn.nextN 0 (ih (k + 1) (⟨by omega, hm⟩) (by omega)) ?_ rfl; repeat (first | exact trivial | refine ⟨rfl, ?_⟩ | refine ⟨congrArg some nx, ?_⟩))
  · have h := of_decide_eq_false h
    simp only [List.length_map] at h
    rw [List.drop_eq_nil_of_le (by omega)] at hm
    refine ae (ag 2 rfl (AC.nilE (ae (ag 6 rfl (AC.nilE ?_)))))
    refine bodyQ_r (ResOk.one rfl rfl) ?_
    rw [← hm]; rfl
end Go.Proofs.YtpopmiodjibljaaGreatDoor


namespace Go.Proofs.YtpopmiodjibljaaGreatDoor
open Go Go.Abs
set_option linter.unusedVariables false
set_option maxRecDepth 100000
set_option linter.unusedSimpArgs false
def othL : List (List A) := [[i64 8490], [i64 8491], [i64 64256], [i64 64257], [i64 64258], [i64 64259], [i64 64260], [i64 64261], [i64 64262]]
theorem rfold_ne (c : Int) : ∃ l, rfold c = (rfold c).headD 0 :: l := by
  unfold rfold
  split
  · exact ⟨_, rfl⟩
  · split
    · exact ⟨_, rfl⟩
    · split
      · exact ⟨_, rfl⟩
      · split
        · exact ⟨_, rfl⟩
        · split
          · exact ⟨_, rfl⟩
          · split
            · rename_i h
              rcases lig_cases h with rfl | rfl | rfl | rfl | rfl | rfl | rfl <;> exact ⟨_, rfl⟩
            · exact ⟨_, rfl⟩
set_option maxHeartbeats 4000000 in
theorem alikes_tr (c : Int) : PTr Tryz.prog 57 [i64 c] (.ds ((alkM c).map zC)) := by
  refine PTr.of_body (N := 66) Tryz.func57 rfl rfl rfl ?_
  obtain ⟨l0, hl0⟩ := rfold_ne c
  have hd0 : ((rfold c).map zC)[((0 : Nat) : Int).toNat]? = some (zC ((rfold c).headD 0)) := by rw [hl0]; rfl
  refine ae0 (ag 8 rfl (AC.pln (AOp.buildSlice okL rfl rfl rfl rfl rfl rfl rfl rfl rfl rfl rfl (fun _ _ => (ab (ag 6 rfl (AC.pln (AOp.callP rfl rfl rfl (refFoldOf_tr c) (ab (ag 5 rfl (AC.pln (AOp.buildF 12 okL rfl rfl rfl rfl rfl rfl rfl rfl rfl rfl rfl rfl (ab (ag 10 rfl (AC.toCode ?_)))))))))))))))
  rename_i r9 _
  refine AWp.loopM (α := Nat × Nat × List Int) (fun a => 8201 - a.1) (fun a => [(0, i64 c), (3, outV 1 (some a.2.1) a.2.2.length), (4, .ds ((rfold c).map zC)), (5, .ds othL), (6, i64 a.1)]) (fun a => outH 3 1 (some a.2.1) (a.2.2.map zC))
    (fun a => a.1 ≤ 8201 ∧ a.2.2 = alkK c a.1) (0, r9, [c]) ⟨Nat.zero_le _, rfl⟩ ?_ (List.Perm.refl _) ?_
  · simp only [AllIn]
    refine ⟨rfl, rfl, rfl, rfl, rfl, trivial⟩
  rintro ⟨k, g, l⟩ ⟨hk, hl⟩ ih
  simp only at hk hl
  have e9 : IntKind.i64.wrap (8192 + ((othL.length : Nat) : Int)) = 8201 := by decide
  refine ae0 (ag 10 rfl (AC.toCode ?_))
  rw [e9]
  (refine AWp.condCase rfl (fun h => ?_) (fun h => ?_))
  · have h : (k : Int) < 8201 := of_decide_eq_true h
    have nx := nxt (k := k) (n := 8201) (by omega) (by decide)
    refine ae (ag 17 rfl (AC.toCode ?_))
    (refine AWp.condCase rfl (fun h2 => ?_) (fun h2 => ?_))
    · have h2 : (k : Int) ≥ 8192 := of_decide_eq_true h2
      have hw : IntKind.i64.wrap ((k : Int) - 8192) = (k : Int) - 8192 := wr_id ⟨by omega, by omega⟩
      have hoc : othL[(IntKind.i64.wrap ((k : Int) - 8192)).toNat]? = some [i64 (foldAt k)] := by
        rw [hw]
        have : k = 8192 ∨ k = 8193 ∨ k = 8194 ∨ k = 8195 ∨ k = 8196 ∨ k = 8197 ∨ k = 8198 ∨ k = 8199 ∨ k = 8200 := by omega
        rcases this with rfl | rfl | rfl | rfl | rfl | rfl | rfl | rfl | rfl <;> rfl
      have hD : foldAt k = foldAt k := rfl
      refine ae (ag 4 rfl (AC.sim okL (sOp_idxD rfl rfl rfl rfl rfl (by rw [hw]; omega) (hoc) rfl) rfl (ag 10 rfl (AC.toOps ?_))))
      have e0 : alkK c (k + 1) = if (foldAt k != c && (grd (rfold c) (foldAt k) && rfold (foldAt k) == rfold c)) = true then alkK c k ++ [foldAt k] else alkK c k := by rw [alkK, hD]
      refine ab (AC.toOps ?_)
      (refine AOps.guardCase rfl rfl rfl (fun g1 => ?_) (fun g1 => ?_))
      · refine ab (ag 1 rfl (AC.simW okL rfl rfl (sOp_idxD rfl rfl rfl rfl rfl (Int.le_refl _) (hd0) rfl) rfl (ag 4 rfl (AC.toOps ?_))))
        (refine AOps.guardCase rfl rfl rfl (fun g2 => ?_) (fun g2 => ?_))
        · have f2 : ((rfold c).headD 0 == foldAt k) = true := g2
          refine ab (ag 19 rfl (AC.wtd rfl rfl rfl (AOp.callP rfl rfl rfl (refFoldOf_tr _) (ab (ag 1 rfl (AC.wtd rfl rfl rfl (AOp.callP rfl rfl rfl (sameInts_tr (rfold (foldAt k)) (rfold c)) (ab (ag 3 rfl (AC.toCode ?_))))))))))
          (refine AWp.condCase rfl (fun g6 => ?_) (fun g6 => ?_))
          · have e : alkK c (k + 1) = alkK c k ++ [foldAt k] := by rw [e0]; exact if_pos (by unfold grd; rw [g1, f2, g6]; rfl)
            refine ae (ag 3 rfl (AC.pln (AOp.buildSlice okL rfl rfl rfl rfl rfl rfl rfl rfl rfl rfl rfl (fun _ _ => (ab (AC.toOps ?_))))))
            rename_i rb _
            refine AOps.pln (AOp.pushM zC (some g) l (foldAt k) [] okL (fun h => by cases h) rfl rfl rfl rfl rfl rfl rfl rfl rfl (by have := alkK_len c k; rw [← hl] at this; omega) rfl rfl fun r' => ?_)
            refine ab (ag 9 rfl (AC.nilE (seqQ_n ?_)))
            (refine AIn.nextN 0 (ih ((k + 1, r', l ++ [foldAt k])) (⟨by simp only; omega, by rw [e, ← hl]⟩) (by omega)) ?_ rfl; repeat (first | exact trivial | refine ⟨rfl, ?_⟩ | refine ⟨congrArg some nx, ?_⟩))
          · have g6 : (rfold (foldAt k) == rfold c) = false := g6
            have e : alkK c (k + 1) = alkK c k := by rw [e0]; exact if_neg (by unfold grd; rw [g1, f2, g6]; exact Bool.false_ne_true)
            refine ae (ag 8 rfl (AC.nilE (seqQ_n ?_)))
            (refine AIn.nextN 0 (ih ((k + 1, g, l)) (⟨by simp only; omega, by rw [e]; exact hl⟩) (by omega)) ?_ rfl; repeat (first | exact trivial | refine ⟨rfl, ?_⟩ | refine ⟨congrArg some nx, ?_⟩))
        · have f2 : ((rfold c).headD 0 == foldAt k) = false := g2
          refine ab (ag 5 rfl (AC.toOps ?_))
          (refine AOps.guardCase rfl rfl rfl (fun g3 => ?_) (fun g3 => ?_))
          · have f3 : decide ((rfold c).length > 1) = true := by have g3 := of_decide_eq_true g3; rw [List.length_map] at g3; exact decide_eq_true (by omega)
            refine ab (ag 14 rfl (AC.wtd rfl rfl rfl (AOp.callP rfl rfl rfl (refFoldOf_tr _) (ab (ag 1 rfl (AC.wtd rfl rfl rfl (AOp.callP rfl rfl rfl (sameInts_tr (rfold (foldAt k)) (rfold c)) (ab (ag 3 rfl (AC.toCode ?_))))))))))
            (refine AWp.condCase rfl (fun g6 => ?_) (fun g6 => ?_))
            · have e : alkK c (k + 1) = alkK c k ++ [foldAt k] := by rw [e0]; exact if_pos (by unfold grd; rw [g1, f2, f3, g6]; rfl)
              refine ae (ag 3 rfl (AC.pln (AOp.buildSlice okL rfl rfl rfl rfl rfl rfl rfl rfl rfl rfl rfl (fun _ _ => (ab (AC.toOps ?_))))))
              rename_i rb _
              refine AOps.pln (AOp.pushM zC (some g) l (foldAt k) [] okL (fun h => by cases h) rfl rfl rfl rfl rfl rfl rfl rfl rfl (by have := alkK_len c k; rw [← hl] at this; omega) rfl rfl fun r' => ?_)
              refine ab (ag 9 rfl (AC.nilE (seqQ_n ?_)))
              (refine AIn.nextN 0 (ih ((k + 1, r', l ++ [foldAt k])) (⟨by simp only; omega, by rw [e, ← hl]⟩) (by omega)) ?_ rfl; repeat (first | exact trivial | refine ⟨rfl, ?_⟩ | refine ⟨congrArg some nx, ?_⟩))
            · have g6 : (rfold (foldAt k) == rfold c) = false := g6
              have e : alkK c (k + 1) = alkK c k := by rw [e0]; exact if_neg (by unfold grd; rw [g1, f2, f3, g6]; exact Bool.false_ne_true)
              refine ae (ag 8 rfl (AC.nilE (seqQ_n ?_)))
              (refine AIn.nextN 0 (ih ((k + 1, g, l)) (⟨by simp only; omega, by rw [e]; exact hl⟩) (by omega)) ?_ rfl; repeat (first | exact trivial | refine ⟨rfl, ?_⟩ | refine ⟨congrArg some nx, ?_⟩))
          · have f3 : decide ((rfold c).length > 1) = false := by have g3 := of_decide_eq_false g3; rw [List.length_map] at g3; exact decide_eq_false (by omega)
            refine ab (ag 4 rfl (AC.toOps ?_))
            (refine AOps.guardCase rfl rfl rfl (fun g4 => ?_) (fun g4 => ?_))
            · have f4 : decide (foldAt k > 127) = true := g4
              refine ab (ag 10 rfl (AC.wtd rfl rfl rfl (AOp.callP rfl rfl rfl (refFoldOf_tr _) (ab (ag 1 rfl (AC.wtd rfl rfl rfl (AOp.callP rfl rfl rfl (sameInts_tr (rfold (foldAt k)) (rfold c)) (ab (ag 3 rfl (AC.toCode ?_))))))))))
              (refine AWp.condCase rfl (fun g6 => ?_) (fun g6 => ?_))
              · have e : alkK c (k + 1) = alkK c k ++ [foldAt k] := by rw [e0]; exact if_pos (by unfold grd; rw [g1, f2, f3, f4, g6]; rfl)
                refine ae (ag 3 rfl (AC.pln (AOp.buildSlice okL rfl rfl rfl rfl rfl rfl rfl rfl rfl rfl rfl (fun _ _ => (ab (AC.toOps ?_))))))
                rename_i rb _
                refine AOps.pln (AOp.pushM zC (some g) l (foldAt k) [] okL (fun h => by cases h) rfl rfl rfl rfl rfl rfl rfl rfl rfl (by have := alkK_len c k; rw [← hl] at this; omega) rfl rfl fun r' => ?_)
                refine ab (ag 9 rfl (AC.nilE (seqQ_n ?_)))
                (refine AIn.nextN 0 (ih ((k + 1, r', l ++ [foldAt k])) (⟨by simp only; omega, by rw [e, ← hl]⟩) (by omega)) ?_ rfl; repeat (first | exact trivial | refine ⟨rfl, ?_⟩ | refine ⟨congrArg some nx, ?_⟩))
              · have g6 : (rfold (foldAt k) == rfold c) = false := g6
                have e : alkK c (k + 1) = alkK c k := by rw [e0]; exact if_neg (by unfold grd; rw [g1, f2, f3, f4, g6]; exact Bool.false_ne_true)
                refine ae (ag 8 rfl (AC.nilE (seqQ_n ?_)))
                (refine AIn.nextN 0 (ih ((k + 1, g, l)) (⟨by simp only; omega, by rw [e]; exact hl⟩) (by omega)) ?_ rfl; repeat (first | exact trivial | refine ⟨rfl, ?_⟩ | refine ⟨congrArg some nx, ?_⟩))
            · have f4 : decide (foldAt k > 127) = false := g4
              refine ab (ag 3 rfl (AC.toOps ?_))
              (refine AOps.guardCase rfl rfl rfl (fun g5 => ?_) (fun g5 => ?_))
              · have f5 : decide (foldAt k ≥ 65) = true := g5
                refine ab (ag 6 rfl (AC.toOps ?_))
                (refine AOps.guardCase rfl rfl rfl (fun g7 => ?_) (fun g7 => ?_))
                · have f7 : decide (foldAt k ≤ 90) = true := g7
                  refine ab (ag 1 rfl (AC.wtd rfl rfl rfl (AOp.callP rfl rfl rfl (refFoldOf_tr _) (ab (ag 1 rfl (AC.wtd rfl rfl rfl (AOp.callP rfl rfl rfl (sameInts_tr (rfold (foldAt k)) (rfold c)) (ab (ag 3 rfl (AC.toCode ?_))))))))))
                  (refine AWp.condCase rfl (fun g6 => ?_) (fun g6 => ?_))
                  · have e : alkK c (k + 1) = alkK c k ++ [foldAt k] := by rw [e0]; exact if_pos (by unfold grd; rw [g1, f2, f3, f4, f5, f7, g6]; rfl)
                    refine ae (ag 3 rfl (AC.pln (AOp.buildSlice okL rfl rfl rfl rfl rfl rfl rfl rfl rfl rfl rfl (fun _ _ => (ab (AC.toOps ?_))))))
                    rename_i rb _
                    refine AOps.pln (AOp.pushM zC (some g) l (foldAt k) [] okL (fun h => by cases h) rfl rfl rfl rfl rfl rfl rfl rfl rfl (by have := alkK_len c k; rw [← hl] at this; omega) rfl rfl fun r' => ?_)
                    refine ab (ag 9 rfl (AC.nilE (seqQ_n ?_)))
                    (refine AIn.nextN 0 (ih ((k + 1, r', l ++ [foldAt k])) (⟨by simp only; omega, by rw [e, ← hl]⟩) (by omega)) ?_ rfl; repeat (first | exact trivial | refine ⟨rfl, ?_⟩ | refine ⟨congrArg some nx, ?_⟩))
                  · have g6 : (rfold (foldAt k) == rfold c) = false := g6
                    have e : alkK c (k + 1) = alkK c k := by rw [e0]; exact if_neg (by unfold grd; rw [g1, f2, f3, f4, f5, f7, g6]; exact Bool.false_ne_true)
                    refine ae (ag 8 rfl (AC.nilE (seqQ_n ?_)))
                    (refine AIn.nextN 0 (ih ((k + 1, g, l)) (⟨by simp only; omega, by rw [e]; exact hl⟩) (by omega)) ?_ rfl; repeat (first | exact trivial | refine ⟨rfl, ?_⟩ | refine ⟨congrArg some nx, ?_⟩))
                · have f7 : decide (foldAt k ≤ 90) = false := g7
                  have e : alkK c (k + 1) = alkK c k := by rw [e0]; exact if_neg (by unfold grd; rw [g1, f2, f3, f4, f5, f7]; exact Bool.false_ne_true)
                  refine ab (ag 16 rfl (AC.nilE (seqQ_n ?_)))
                  (refine AIn.nextN 0 (ih ((k + 1, g, l)) (⟨by simp only; omega, by rw [e]; exact hl⟩) (by omega)) ?_ rfl; repeat (first | exact trivial | refine ⟨rfl, ?_⟩ | refine ⟨congrArg some nx, ?_⟩))
              · have f5 : decide (foldAt k ≥ 65) = false := g5
                have e : alkK c (k + 1) = alkK c k := by rw [e0]; exact if_neg (by unfold grd; rw [g1, f2, f3, f4, f5]; exact Bool.false_ne_true)
                refine ab (ag 22 rfl (AC.nilE (seqQ_n ?_)))
                (refine AIn.nextN 0 (ih ((k + 1, g, l)) (⟨by simp only; omega, by rw [e]; exact hl⟩) (by omega)) ?_ rfl; repeat (first | exact trivial | refine ⟨rfl, ?_⟩ | refine ⟨congrArg some nx, ?_⟩))
      · have g1 : (foldAt k != c) = false := g1
        have e : alkK c (k + 1) = alkK c k := by rw [e0]; exact if_neg (by unfold grd; rw [g1]; exact Bool.false_ne_true)
        refine ab (ag 40 rfl (AC.nilE (seqQ_n ?_)))
        (refine AIn.nextN 0 (ih ((k + 1, g, l)) (⟨by simp only; omega, by rw [e]; exact hl⟩) (by omega)) ?_ rfl; repeat (first | exact trivial | refine ⟨rfl, ?_⟩ | refine ⟨congrArg some nx, ?_⟩))
    · have h2 : ¬ (k : Int) ≥ 8192 := of_decide_eq_false h2
      have hD : foldAt k = (k : Int) := if_pos (by omega)
      have e0 : alkK c (k + 1) = if ((k : Int) != c && (grd (rfold c) ((k : Int)) && rfold ((k : Int)) == rfold c)) = true then alkK c k ++ [(k : Int)] else alkK c k := by rw [alkK, hD]
      refine ae (ag 8 rfl (AC.toOps ?_))
      (refine AOps.guardCase rfl rfl rfl (fun g1 => ?_) (fun g1 => ?_))
      · refine ab (ag 1 rfl (AC.simW okL rfl rfl (sOp_idxD rfl rfl rfl rfl rfl (Int.le_refl _) (hd0) rfl) rfl (ag 4 rfl (AC.toOps ?_))))
        (refine AOps.guardCase rfl rfl rfl (fun g2 => ?_) (fun g2 => ?_))
        · have f2 : ((rfold c).headD 0 == (k : Int)) = true := g2
          refine ab (ag 19 rfl (AC.wtd rfl rfl rfl (AOp.callP rfl rfl rfl (refFoldOf_tr _) (ab (ag 1 rfl (AC.wtd rfl rfl rfl (AOp.callP rfl rfl rfl (sameInts_tr (rfold ((k : Int))) (rfold c)) (ab (ag 3 rfl (AC.toCode ?_))))))))))
          (refine AWp.condCase rfl (fun g6 => ?_) (fun g6 => ?_))
          · have e : alkK c (k + 1) = alkK c k ++ [(k : Int)] := by rw [e0]; exact if_pos (by unfold grd; rw [g1, f2, g6]; rfl)
            refine ae (ag 3 rfl (AC.pln (AOp.buildSlice okL rfl rfl rfl rfl rfl rfl rfl rfl rfl rfl rfl (fun _ _ => (ab (AC.toOps ?_))))))
            rename_i rb _
            refine AOps.pln (AOp.pushM zC (some g) l ((k : Int)) [] okL (fun h => by cases h) rfl rfl rfl rfl rfl rfl rfl rfl rfl (by have := alkK_len c k; rw [← hl] at this; omega) rfl rfl fun r' => ?_)
            refine ab (ag 9 rfl (AC.nilE (seqQ_n ?_)))
            (refine AIn.nextN 0 (ih ((k + 1, r', l ++ [(k : Int)])) (⟨by simp only; omega, by rw [e, ← hl]⟩) (by omega)) ?_ rfl; repeat (first | exact trivial | refine ⟨rfl, ?_⟩ | refine ⟨congrArg some nx, ?_⟩))
          · have g6 : (rfold ((k : Int)) == rfold c) = false := g6
            have e : alkK c (k + 1) = alkK c k := by rw [e0]; exact if_neg (by unfold grd; rw [g1, f2, g6]; exact Bool.false_ne_true)
            refine ae (ag 8 rfl (AC.nilE (seqQ_n ?_)))
            (refine AIn.nextN 0 (ih ((k + 1, g, l)) (⟨by simp only; omega, by rw [e]; exact hl⟩) (by omega)) ?_ rfl; repeat (first | exact trivial | refine ⟨rfl, ?_⟩ | refine ⟨congrArg some nx, ?_⟩))
        · have f2 : ((rfold c).headD 0 == (k : Int)) = false := g2
          refine ab (ag 5 rfl (AC.toOps ?_))
          (refine AOps.guardCase rfl rfl rfl (fun g3 => ?_) (fun g3 => ?_))
          · have f3 : decide ((rfold c).length > 1) = true := by have g3 := of_decide_eq_true g3; rw [List.length_map] at g3; exact decide_eq_true (by omega)
            refine ab (ag 14 rfl (AC.wtd rfl rfl rfl (AOp.callP rfl rfl rfl (refFoldOf_tr _) (ab (ag 1 rfl (AC.wtd rfl rfl rfl (AOp.callP rfl rfl rfl (sameInts_tr (rfold ((k : Int))) (rfold c)) (ab (ag 3 rfl (AC.toCode ?_))))))))))
            (refine AWp.condCase rfl (fun g6 => ?_) (fun g6 => ?_))
            · have e : alkK c (k + 1) = alkK c k ++ [(k : Int)] := by rw [e0]; exact if_pos (by unfold grd; rw [g1, f2, f3, g6]; rfl)
              refine ae (ag 3 rfl (AC.pln (AOp.buildSlice okL rfl rfl rfl rfl rfl rfl rfl rfl rfl rfl rfl (fun _ _ => (ab (AC.toOps ?_))))))
              rename_i rb _
              refine AOps.pln (AOp.pushM zC (some g) l ((k : Int)) [] okL (fun h => by cases h) rfl rfl rfl rfl rfl rfl rfl rfl rfl (by have := alkK_len c k; rw [← hl] at this; omega) rfl rfl fun r' => ?_)
              refine ab (ag 9 rfl (AC.nilE (seqQ_n ?_)))
              (refine AIn.nextN 0 (ih ((k + 1, r', l ++ [(k : Int)])) (⟨by simp only; omega, by rw [e, ← hl]⟩) (by omega)) ?_ rfl; repeat (first | exact trivial | refine ⟨rfl, ?_⟩ | refine ⟨congrArg some nx, ?_⟩))
            · have g6 : (rfold ((k : Int)) == rfold c) = false := g6
              have e : alkK c (k + 1) = alkK c k := by rw [e0]; exact if_neg (by unfold grd; rw [g1, f2, f3, g6]; exact Bool.false_ne_true)
              refine ae (ag 8 rfl (AC.nilE (seqQ_n ?_)))
              (refine AIn.nextN 0 (ih ((k + 1, g, l)) (⟨by simp only; omega, by rw [e]; exact hl⟩) (by omega)) ?_ rfl; repeat (first | exact trivial | refine ⟨rfl, ?_⟩ | refine ⟨congrArg some nx, ?_⟩))
          · have f3 : decide ((rfold c).length > 1) = false := by have g3 := of_decide_eq_false g3; rw [List.length_map] at g3; exact decide_eq_false (by omega)
            refine ab (ag 4 rfl (AC.toOps ?_))
            (refine AOps.guardCase rfl rfl rfl (fun g4 => ?_) (fun g4 => ?_))
            · have f4 : decide ((k : Int) > 127) = true := g4
              refine ab (ag 10 rfl (AC.wtd rfl rfl rfl (AOp.callP rfl rfl rfl (refFoldOf_tr _) (ab (ag 1 rfl (AC.wtd rfl rfl rfl (AOp.callP rfl rfl rfl (sameInts_tr (rfold ((k : Int))) (rfold c)) (ab (ag 3 rfl (AC.toCode ?_))))))))))
              (refine AWp.condCase rfl (fun g6 => ?_) (fun g6 => ?_))
              · have e : alkK c (k + 1) = alkK c k ++ [(k : Int)] := by rw [e0]; exact if_pos (by unfold grd; rw [g1, f2, f3, f4, g6]; rfl)
                refine ae (ag 3 rfl (AC.pln (AOp.buildSlice okL rfl rfl rfl rfl rfl rfl rfl rfl rfl rfl rfl (fun _ _ => (ab (AC.toOps ?_))))))
                rename_i rb _
                refine AOps.pln (AOp.pushM zC (some g) l ((k : Int)) [] okL (fun h => by cases h) rfl rfl rfl rfl rfl rfl rfl rfl rfl (by have := alkK_len c k; rw [← hl] at this; omega) rfl rfl fun r' => ?_)
                refine ab (ag 9 rfl (AC.nilE (seqQ_n ?_)))
                (refine AIn.nextN 0 (ih ((k + 1, r', l ++ [(k : Int)])) (⟨by simp only; omega, by rw [e, ← hl]⟩) (by omega)) ?_ rfl; repeat (first | exact trivial | refine ⟨rfl, ?_⟩ | refine ⟨congrArg some nx, ?_⟩))
              · have g6 : (rfold ((k : Int)) == rfold c) = false := g6
                have e : alkK c (k + 1) = alkK c k := by rw [e0]; exact if_neg (by unfold grd; rw [g1, f2, f3, f4, g6]; exact Bool.false_ne_true)
                refine ae (ag 8 rfl (AC.nilE (seqQ_n ?_)))
                (refine AIn.nextN 0 (ih ((k + 1, g, l)) (⟨by simp only; omega, by rw [e]; exact hl⟩) (by omega)) ?_ rfl; repeat (first | exact trivial | refine ⟨rfl, ?_⟩ | refine ⟨congrArg some nx, ?_⟩))
            · have f4 : decide ((k : Int) > 127) = false := g4
              refine ab (ag 3 rfl (AC.toOps ?_))
              (refine AOps.guardCase rfl rfl rfl (fun g5 => ?_) (fun g5 => ?_))
              · have f5 : decide ((k : Int) ≥ 65) = true := g5
                refine ab (ag 6 rfl (AC.toOps ?_))
                (refine AOps.guardCase rfl rfl rfl (fun g7 => ?_) (fun g7 => ?_))
                · have f7 : decide ((k : Int) ≤ 90) = true := g7
                  refine ab (ag 1 rfl (AC.wtd rfl rfl rfl (AOp.callP rfl rfl rfl (refFoldOf_tr _) (ab (ag 1 rfl (AC.wtd rfl rfl rfl (AOp.callP rfl rfl rfl (sameInts_tr (rfold ((k : Int))) (rfold c)) (ab (ag 3 rfl (AC.toCode ?_))))))))))
                  (refine AWp.condCase rfl (fun g6 => ?_) (fun g6 => ?_))
                  · have e : alkK c (k + 1) = alkK c k ++ [(k : Int)] := by rw [e0]; exact if_pos (by unfold grd; rw [g1, f2, f3, f4, f5, f7, g6]; rfl)
                    refine ae (ag 3 rfl (AC.pln (AOp.buildSlice okL rfl rfl rfl rfl rfl rfl rfl rfl rfl rfl rfl (fun _ _ => (ab (AC.toOps ?_))))))
                    rename_i rb _
                    refine AOps.pln (AOp.pushM zC (some g) l ((k : Int)) [] okL (fun h => by cases h) rfl rfl rfl rfl rfl rfl rfl rfl rfl (by have := alkK_len c k; rw [← hl] at this; omega) rfl rfl fun r' => ?_)
                    refine ab (ag 9 rfl (AC.nilE (seqQ_n ?_)))
                    (refine AIn.nextN 0 (ih ((k + 1, r', l ++ [(k : Int)])) (⟨by simp only; omega, by rw [e, ← hl]⟩) (by omega)) ?_ rfl; repeat (first | exact trivial | refine ⟨rfl, ?_⟩ | refine ⟨congrArg some nx, ?_⟩))
                  · have g6 : (rfold ((k : Int)) == rfold c) = false := g6
                    have e : alkK c (k + 1) = alkK c k := by rw [e0]; exact if_neg (by unfold grd; rw [g1, f2, f3, f4, f5, f7, g6]; exact Bool.false_ne_true)
                    refine ae (ag 8 rfl (AC.nilE (seqQ_n ?_)))
                    (refine AIn.nextN 0 (ih ((k + 1, g, l)) (⟨by simp only; omega, by rw [e]; exact hl⟩) (by omega)) ?_ rfl; repeat (first | exact trivial | refine ⟨rfl, ?_⟩ | refine ⟨congrArg some nx, ?_⟩))
                · have f7 : decide ((k : Int) ≤ 90) = false := g7
                  have e : alkK c (k + 1) = alkK c k := by rw [e0]; exact if_neg (by unfold grd; rw [g1, f2, f3, f4, f5, f7]; exact Bool.false_ne_true)
                  refine ab (ag 16 rfl (AC.nilE (seqQ_n ?_)))
                  (refine AIn.nextN 0 (ih ((k + 1, g, l)) (⟨by simp only; omega, by rw [e]; exact hl⟩) (by omega)) ?_ rfl; repeat (first | exact trivial | refine ⟨rfl, ?_⟩ | refine ⟨congrArg some nx, ?_⟩))
              · have f5 : decide ((k : Int) ≥ 65) = false := g5
                have e : alkK c (k + 1) = alkK c k := by rw [e0]; exact if_neg (by unfold grd; rw [g1, f2, f3, f4, f5]; exact Bool.false_ne_true)
                refine ab (ag 22 rfl (AC.nilE (seqQ_n ?_)))
                (refine AIn.nextN 0 (ih ((k + 1, g, l)) (⟨by simp only; omega, by rw [e]; exact hl⟩) (by omega)) ?_ rfl; repeat (first | exact trivial | refine ⟨rfl, ?_⟩ | refine ⟨congrArg some nx, ?_⟩))
      · have g1 : ((k : Int) != c) = false := g1
        have e : alkK c (k + 1) = alkK c k := by rw [e0]; exact if_neg (by unfold grd; rw [g1]; exact Bool.false_ne_true)
        refine ab (ag 40 rfl (AC.nilE (seqQ_n ?_)))
        (refine AIn.nextN 0 (ih ((k + 1, g, l)) (⟨by simp only; omega, by rw [e]; exact hl⟩) (by omega)) ?_ rfl; repeat (first | exact trivial | refine ⟨rfl, ?_⟩ | refine ⟨congrArg some nx, ?_⟩))
  · have h : ¬ (k : Int) < 8201 := of_decide_eq_false h
    have hk8 : k = 8201 := by omega
    subst hk8
    refine AWp.freezeM (t := 3) (f := zC) (g := some g) (l := l) (pre := []) rfl rfl (fun h => by cases h) ?_
    refine ae (ag 2 rfl (AC.nilE (ae (ag 7 rfl (AC.nilE ?_)))))
    refine bodyQ_r (ResOk.one rfl rfl) ?_
    rw [hl]
    rfl
end Go.Proofs.YtpopmiodjibljaaGreatDoor


namespace Go.Proofs.YtpopmiodjibljaaGreatDoor
open Go Go.Abs
set_option linter.unusedVariables false
set_option maxRecDepth 100000
set_option linter.unusedSimpArgs false

def hiOk (p : Option Int) (lo : Int) : Bool := match p with | none => true | some h => decide (w64 (h + 1) < lo)
def setGo : Option Int → List (Int × Int) → Bool
  | _, [] => true
  | p, x :: l => (chM x.1 && (chM x.2 && (!decide (x.1 > x.2) && hiOk p x.1))) && setGo (some x.2) l
theorem setGo_cons (p : Option Int) (x : Int × Int) (l : List (Int × Int)) : setGo p (x :: l) = ((chM x.1 && (chM x.2 && (!decide (x.1 > x.2) && hiOk p x.1))) && setGo (some x.2) l) := rfl
def setM (l : List (Int × Int)) : Bool := setGo none l && wiM l.length 1 40
def prevHi (l : List (Int × Int)) (k : Nat) : Option Int := match k with | 0 => none | k + 1 => (l[k]?).map (·.2)
theorem prevHi_next {l : List (Int × Int)} {k : Nat} {y : Int × Int} (h : l[k]? = some y) : prevHi l (k + 1) = some y.2 := by simp [prevHi, h]
theorem wrap_pred {k n : Nat} (h : k < n) (hn : n ≤ maxLen) : IntKind.i64.wrap (((k + 1 : Nat) : Int) - 1) = (k : Int) := by
  simp only [maxLen] at hn
  rw [IntKind.wrap_i64]; omega
theorem setGo_F {p : Option Int} {x : Int × Int} {l : List (Int × Int)} (h : chM x.1 = false ∨ chM x.2 = false ∨ x.1 > x.2 ∨ hiOk p x.1 = false) : setGo p (x :: l) = false := by
  rw [setGo_cons]; rcases h with h | h | h | h <;> simp [h]
theorem setGo_T {p : Option Int} {x : Int × Int} {l : List (Int × Int)} (h1 : chM x.1 = true) (h2 : chM x.2 = true) (h3 : ¬ x.1 > x.2) (h4 : hiOk p x.1 = true) : setGo p (x :: l) = setGo (some x.2) l := by
  rw [setGo_cons]; simp [h1, h2, h3, h4]
theorem hiOk_F {h lo : Int} (k : lo ≤ IntKind.i64.wrap (h + 1)) : hiOk (some h) lo = false := by
  simp only [hiOk, w64]; exact decide_eq_false (Int.not_lt.2 k)
theorem hiOk_T {h lo : Int} (k : ¬ lo ≤ IntKind.i64.wrap (h + 1)) : hiOk (some h) lo = true := by
  simp only [hiOk, w64]; exact decide_eq_true (Int.not_le.1 k)
set_option maxHeartbeats 1000000 in
theorem patIsSet_tr (l : List (Int × Int)) : PTr Tryz.prog 212 [.ds (l.map spanC)] (.bool (setM l)) := by
  refine PTr.of_body (N := 54) Tryz.func212 rfl rfl rfl ?_
  refine AWp.know (t := 0) rfl (Known.ds _) fun hlen => ?_
  rw [List.length_map] at hlen
  refine ae0 (ag 14 rfl (AC.toCode ?_))
  refine AWp.loopM (α := Nat) (fun a => l.length - a) (fun a => [(0, .ds (l.map spanC)), (5, .ds (l.map spanC)), (6, i64 (l.map spanC).length), (7, i64 a)]) (fun _ => _)
    (fun a => a ≤ l.length ∧ setGo (prevHi l a) (l.drop a) = setGo none l) 0 ⟨Nat.zero_le _, rfl⟩ ?_ (List.Perm.refl _) ?_
  · simp only [AllIn]
    refine ⟨rfl, rfl, rfl, rfl, trivial⟩
  rintro k ⟨hk, hm⟩ ih
  refine ae0 (ag 6 rfl (AC.toCode ?_))
  (refine AWp.condCase rfl (fun h => ?_) (fun h => ?_))
  · have h := of_decide_eq_true h
    simp only [List.length_map] at h
    obtain ⟨y, hy⟩ : ∃ y, l[k]? = some y := ⟨l[k], by simp [show k < l.length by omega]⟩
    rw [drop_get hy] at hm
    have nx := nxt (k := k) (n := l.length) (by omega) hlen
    cases k with
    | zero =>
      simp only [prevHi] at hm
      refine ae (ag 7 rfl (AC.sim okL (sOp_idxD rfl rfl rfl rfl rfl (by omega) (getS hy) rfl) rfl (ag 1 rfl (AC.pln (AOp.alloc okL rfl rfl rfl (fun _ _ => (ab (ag 1 rfl (AC.pln (AOp.store okL rfl rfl rfl (isVal_or rfl) rfl rfl rfl .here rfl rfl rfl (ab (ag 3 rfl (AC.drawn okL hmix (by kernel_rfl) (ag 1 rfl (AC.toPl (Pl.quiet rfl rfl rfl (AOp.load okL rfl (.head _) rfl rfl rfl rfl (AOps.nil (Qn_n ⟨rfl, rfl⟩))) (ap (AC.toPl (Pl.quiet rfl rfl rfl (AOp.callP rfl rfl rfl (patIsChar_tr _) (AOps.nil (Qn_n ⟨rfl, rfl⟩))) (ap (ag 2 rfl (AC.toPl ?_))))))))))))))))))))))
      refine Pl.guardCase rfl rfl (fun h => ?_) (fun h => ?_)
      · refine ap (ag 39 rfl (AC.nilE (ax (ag 2 rfl (AC.nilE ?_)))))
        (refine bodyQ_r (ResOk.one rfl rfl) ?_; rw [setM, ← hm, setGo_F (by simp_all)]; rfl)
      · refine ap (ag 1 rfl (AC.toPl (Pl.quiet rfl rfl rfl (AOp.load okL rfl (.head _) rfl rfl rfl rfl (AOps.nil (Qn_n ⟨rfl, rfl⟩))) (ap (AC.toPl (Pl.quiet rfl rfl rfl (AOp.callP rfl rfl rfl (patIsChar_tr _) (AOps.nil (Qn_n ⟨rfl, rfl⟩))) (ap (ag 3 rfl (AC.toPl ?_)))))))))
        refine Pl.guardCase rfl rfl (fun h => ?_) (fun h => ?_)
        · refine ap (ag 33 rfl (AC.nilE (ax (ag 2 rfl (AC.nilE ?_)))))
          (refine bodyQ_r (ResOk.one rfl rfl) ?_; rw [setM, ← hm, setGo_F (by simp_all)]; rfl)
        · refine ap (ag 1 rfl (AC.toPl (Pl.quiet rfl rfl rfl (AOp.load okL rfl (.head _) rfl rfl rfl rfl (AOps.nil (Qn_n ⟨rfl, rfl⟩))) (ap (ag 1 rfl (AC.toPl (Pl.quiet rfl rfl rfl (AOp.load okL rfl (.head _) rfl rfl rfl rfl (AOps.nil (Qn_n ⟨rfl, rfl⟩))) (ap (ag 3 rfl (AC.toPl ?_))))))))))
          refine Pl.guardCase rfl rfl (fun h => ?_) (fun h => ?_)
          · refine ap (ag 26 rfl (AC.nilE (ax (ag 2 rfl (AC.nilE ?_)))))
            (refine bodyQ_r (ResOk.one rfl rfl) ?_; rw [setM, ← hm, setGo_F (by simp_all)]; rfl)
          · refine ap (ag 25 rfl (AC.nilE (seqQ_n ?_)))
            (refine AIn.nextN 1 (ih (0 + 1) (⟨by omega, by rw [prevHi_next hy, ← hm, setGo_T (by simp_all) (by simp_all) (by simp_all) rfl]⟩) (by omega)) ?_ rfl; repeat (first | exact trivial | refine ⟨rfl, ?_⟩))
    | succ k =>
      obtain ⟨z, hz⟩ : ∃ z, l[k]? = some z := ⟨l[k], by simp [show k < l.length by omega]⟩
      simp only [prevHi, hz, Option.map_some] at hm
      have hp := wrap_pred (k := k) (by omega) hlen
      refine ae (ag 7 rfl (AC.sim okL (sOp_idxD rfl rfl rfl rfl rfl (by omega) (getS hy) rfl) rfl (ag 1 rfl (AC.pln (AOp.alloc okL rfl rfl rfl (fun _ _ => (ab (ag 1 rfl (AC.pln (AOp.store okL rfl rfl rfl (isVal_or rfl) rfl rfl rfl .here rfl rfl rfl (ab (ag 3 rfl (AC.drawn okL hmix (by kernel_rfl) (ag 1 rfl (AC.toPl (Pl.quiet rfl rfl rfl (AOp.load okL rfl (.head _) rfl rfl rfl rfl (AOps.nil (Qn_n ⟨rfl, rfl⟩))) (ap (AC.toPl (Pl.quiet rfl rfl rfl (AOp.callP rfl rfl rfl (patIsChar_tr _) (AOps.nil (Qn_n ⟨rfl, rfl⟩))) (ap (ag 2 rfl (AC.toPl ?_))))))))))))))))))))))
      refine Pl.guardCase rfl rfl (fun h => ?_) (fun h => ?_)
      · refine ap (ag 39 rfl (AC.nilE (ax (ag 2 rfl (AC.nilE ?_)))))
        (refine bodyQ_r (ResOk.one rfl rfl) ?_; rw [setM, ← hm, setGo_F (by (simp_all; done))]; rfl)
      · refine ap (ag 1 rfl (AC.toPl (Pl.quiet rfl rfl rfl (AOp.load okL rfl (.head _) rfl rfl rfl rfl (AOps.nil (Qn_n ⟨rfl, rfl⟩))) (ap (AC.toPl (Pl.quiet rfl rfl rfl (AOp.callP rfl rfl rfl (patIsChar_tr _) (AOps.nil (Qn_n ⟨rfl, rfl⟩))) (ap (ag 3 rfl (AC.toPl ?_)))))))))
        refine Pl.guardCase rfl rfl (fun h => ?_) (fun h => ?_)
        · refine ap (ag 33 rfl (AC.nilE (ax (ag 2 rfl (AC.nilE ?_)))))
          (refine bodyQ_r (ResOk.one rfl rfl) ?_; rw [setM, ← hm, setGo_F (by (simp_all; done))]; rfl)
        · refine ap (ag 1 rfl (AC.toPl (Pl.quiet rfl rfl rfl (AOp.load okL rfl (.head _) rfl rfl rfl rfl (AOps.nil (Qn_n ⟨rfl, rfl⟩))) (ap (ag 1 rfl (AC.toPl (Pl.quiet rfl rfl rfl (AOp.load okL rfl (.head _) rfl rfl rfl rfl (AOps.nil (Qn_n ⟨rfl, rfl⟩))) (ap (ag 3 rfl (AC.toPl ?_))))))))))
          refine Pl.guardCase rfl rfl (fun h => ?_) (fun h => ?_)
          · refine ap (ag 26 rfl (AC.nilE (ax (ag 2 rfl (AC.nilE ?_)))))
            (refine bodyQ_r (ResOk.one rfl rfl) ?_; rw [setM, ← hm, setGo_F (by (simp_all; done))]; rfl)
          · refine ap (ag 3 rfl (AC.toPl ?_))
            refine Pl.guardCase rfl rfl (fun h => ?_) (fun h => ?_)
            · refine ap (ag 1 rfl (AC.toPl (Pl.quiet rfl rfl rfl (AOp.load okL rfl (.head _) rfl rfl rfl rfl (AOps.nil (Qn_n ⟨rfl, rfl⟩))) (ap (ag 3 rfl (AC.toPl (Pl.pureW rfl rfl (sOp_idxD rfl rfl rfl rfl rfl (by rw [hp]; omega) (by rw [hp]; exact getS hz) rfl) (ap (ag 8 rfl (AC.toCode ?_))))))))))
              refine AWp.condCase rfl (fun h => ?_) (fun h => ?_)
              · refine ae (ag 8 rfl (AC.nilE (ax (ag 2 rfl (AC.nilE ?_)))))
                (refine bodyQ_r (ResOk.one rfl rfl) ?_; rw [setM, ← hm, setGo_F (by exact .inr (.inr (.inr (hiOk_F (by simp_all)))))]; rfl)
              · refine ae (ag 7 rfl (AC.nilE (seqQ_n ?_)))
                (refine AIn.nextN 1 (ih (k + 1 + 1) (⟨by omega, by rw [prevHi_next hy, ← hm, setGo_T (by simp_all) (by simp_all) (by simp_all) (hiOk_T (by simp_all))]⟩) (by omega)) ?_ rfl; repeat (first | exact trivial | refine ⟨rfl, ?_⟩ | refine ⟨congrArg some nx, ?_⟩))
            · refine ap (ag 22 rfl (AC.nilE (seqQ_n ?_)))
              (refine AIn.nextN 1 (ih (k + 1 + 1) (⟨by omega, by rw [prevHi_next hy, ← hm, setGo_T (by simp_all) (by simp_all) (by simp_all) (hiOk_T (by simp_all))]⟩) (by omega)) ?_ rfl; repeat (first | exact trivial | refine ⟨rfl, ?_⟩ | refine ⟨congrArg some nx, ?_⟩))
  · have h := of_decide_eq_false h
    simp only [List.length_map] at h
    rw [List.drop_eq_nil_of_le (by omega)] at hm
    refine ae (ag 2 rfl (AC.nilE (ae (ag 6 rfl (AC.toOps ?_)))))
    refine AOps.guardCase rfl rfl rfl (fun h => ?_) (fun h => ?_)
    · refine ab (ag 8 rfl (AC.nilE ?_))
      refine bodyQ_r (ResOk.one rfl rfl) ?_; simp_all [setM, wiM, setGo] <;> omega
    · refine ab (ag 8 rfl (AC.nilE ?_))
      refine bodyQ_r (ResOk.one rfl rfl) ?_; simp_all [setM, wiM, setGo] <;> omega
end Go.Proofs.YtpopmiodjibljaaGreatDoor


namespace Go.Proofs.YtpopmiodjibljaaGreatDoor
open Go Go.Abs
set_option linter.unusedVariables false
set_option maxRecDepth 100000
set_option linter.unusedSimpArgs false

set_option maxHeartbeats 1000000 in
theorem refIsSet_tr (l : List (Int × Int)) : PTr Tryz.prog 160 [.ds (l.map spanC)] (.bool (setM l)) := by
  refine PTr.of_body (N := 61) Tryz.func160 rfl rfl rfl ?_
  refine AWp.know (t := 0) rfl (Known.ds _) fun hlen => ?_
  rw [List.length_map] at hlen
  refine ae0 (ag 12 rfl (AC.toCode ?_))
  refine AWp.loopM (α := Nat) (fun a => l.length - a) (fun a => [(0, .ds (l.map spanC)), (3, i64 a)]) (fun _ => _)
    (fun a => a ≤ l.length ∧ setGo (prevHi l a) (l.drop a) = setGo none l) 0 ⟨Nat.zero_le _, rfl⟩ ?_ (List.Perm.refl _) ?_
  · simp only [AllIn]
    refine ⟨rfl, rfl, trivial⟩
  rintro k ⟨hk, hm⟩ ih
  refine ae0 (ag 9 rfl (AC.toCode ?_))
  (refine AWp.condCase rfl (fun h => ?_) (fun h => ?_))
  · have h := of_decide_eq_true h
    simp only [List.length_map] at h
    obtain ⟨y, hy⟩ : ∃ y, l[k]? = some y := ⟨l[k], by simp [show k < l.length by omega]⟩
    rw [drop_get hy] at hm
    have nx := nxt (k := k) (n := l.length) (by omega) hlen
    cases k with
    | zero =>
      simp only [prevHi] at hm
      refine ae (ag 5 rfl (AC.drawn okL hmix (by kernel_rfl) (ag 2 rfl (AC.toPl (Pl.pure rfl (sOp_idxD rfl rfl rfl rfl rfl (by omega) (getS hy) rfl) (ap (ag 2 rfl (AC.toPl (Pl.quiet rfl rfl rfl (AOp.callP rfl rfl rfl (refIsChar_tr _) (AOps.nil (Qn_n ⟨rfl, rfl⟩))) (ap (ag 2 rfl (AC.toPl ?_))))))))))))
      refine Pl.guardCase rfl rfl (fun h => ?_) (fun h => ?_)
      · refine ap (ag 51 rfl (AC.nilE (ax (ag 2 rfl (AC.nilE ?_)))))
        (refine bodyQ_r (ResOk.one rfl rfl) ?_; rw [setM, ← hm, setGo_F (by simp_all)]; rfl)
      · refine ap (ag 2 rfl (AC.toPl (Pl.pureW rfl rfl (sOp_idxD rfl rfl rfl rfl rfl (by omega) (getS hy) rfl) (ap (ag 2 rfl (AC.toPl (Pl.quiet rfl rfl rfl (AOp.callP rfl rfl rfl (refIsChar_tr _) (AOps.nil (Qn_n ⟨rfl, rfl⟩))) (ap (ag 3 rfl (AC.toPl ?_))))))))))
        refine Pl.guardCase rfl rfl (fun h => ?_) (fun h => ?_)
        · refine ap (ag 42 rfl (AC.nilE (ax (ag 2 rfl (AC.nilE ?_)))))
          (refine bodyQ_r (ResOk.one rfl rfl) ?_; rw [setM, ← hm, setGo_F (by simp_all)]; rfl)
        · refine ap (ag 2 rfl (AC.toPl (Pl.pureW rfl rfl (sOp_idxD rfl rfl rfl rfl rfl (by omega) (getS hy) rfl) (ap (ag 4 rfl (AC.toPl (Pl.pureW rfl rfl (sOp_idxD rfl rfl rfl rfl rfl (by omega) (getS hy) rfl) (ap (ag 5 rfl (AC.toPl ?_))))))))))
          refine Pl.guardCase rfl rfl (fun h => ?_) (fun h => ?_)
          · refine ap (ag 29 rfl (AC.nilE (ax (ag 2 rfl (AC.nilE ?_)))))
            (refine bodyQ_r (ResOk.one rfl rfl) ?_; rw [setM, ← hm, setGo_F (by simp_all)]; rfl)
          · refine ap (ag 29 rfl (AC.nilE (seqQ_n ?_)))
            (refine AIn.nextN 0 (ih (0 + 1) (⟨by omega, by rw [prevHi_next hy, ← hm, setGo_T (by simp_all) (by simp_all) (by simp_all) rfl]⟩) (by omega)) ?_ rfl; repeat (first | exact trivial | refine ⟨rfl, ?_⟩))
    | succ k =>
      obtain ⟨z, hz⟩ : ∃ z, l[k]? = some z := ⟨l[k], by simp [show k < l.length by omega]⟩
      simp only [prevHi, hz, Option.map_some] at hm
      have hp := wrap_pred (k := k) (by omega) hlen
      refine ae (ag 5 rfl (AC.drawn okL hmix (by kernel_rfl) (ag 2 rfl (AC.toPl (Pl.pure rfl (sOp_idxD rfl rfl rfl rfl rfl (by omega) (getS hy) rfl) (ap (ag 2 rfl (AC.toPl (Pl.quiet rfl rfl rfl (AOp.callP rfl rfl rfl (refIsChar_tr _) (AOps.nil (Qn_n ⟨rfl, rfl⟩))) (ap (ag 2 rfl (AC.toPl ?_))))))))))))
      refine Pl.guardCase rfl rfl (fun h => ?_) (fun h => ?_)
      · refine ap (ag 51 rfl (AC.nilE (ax (ag 2 rfl (AC.nilE ?_)))))
        (refine bodyQ_r (ResOk.one rfl rfl) ?_; rw [setM, ← hm, setGo_F (by (simp_all; done))]; rfl)
      · refine ap (ag 2 rfl (AC.toPl (Pl.pureW rfl rfl (sOp_idxD rfl rfl rfl rfl rfl (by omega) (getS hy) rfl) (ap (ag 2 rfl (AC.toPl (Pl.quiet rfl rfl rfl (AOp.callP rfl rfl rfl (refIsChar_tr _) (AOps.nil (Qn_n ⟨rfl, rfl⟩))) (ap (ag 3 rfl (AC.toPl ?_))))))))))
        refine Pl.guardCase rfl rfl (fun h => ?_) (fun h => ?_)
        · refine ap (ag 42 rfl (AC.nilE (ax (ag 2 rfl (AC.nilE ?_)))))
          (refine bodyQ_r (ResOk.one rfl rfl) ?_; rw [setM, ← hm, setGo_F (by (simp_all; done))]; rfl)
        · refine ap (ag 2 rfl (AC.toPl (Pl.pureW rfl rfl (sOp_idxD rfl rfl rfl rfl rfl (by omega) (getS hy) rfl) (ap (ag 4 rfl (AC.toPl (Pl.pureW rfl rfl (sOp_idxD rfl rfl rfl rfl rfl (by omega) (getS hy) rfl) (ap (ag 5 rfl (AC.toPl ?_))))))))))
          refine Pl.guardCase rfl rfl (fun h => ?_) (fun h => ?_)
          · refine ap (ag 29 rfl (AC.nilE (ax (ag 2 rfl (AC.nilE ?_)))))
            (refine bodyQ_r (ResOk.one rfl rfl) ?_; rw [setM, ← hm, setGo_F (by (simp_all; done))]; rfl)
          · refine ap (ag 3 rfl (AC.toPl ?_))
            refine Pl.guardCase rfl rfl (fun h => ?_) (fun h => ?_)
            · refine ap (ag 3 rfl (AC.toPl (Pl.pureW rfl rfl (sOp_idxD rfl rfl rfl rfl rfl (by rw [hp]; omega) (by rw [hp]; exact getS hz) rfl) (ap (ag 5 rfl (AC.toPl (Pl.pureW rfl rfl (sOp_idxD rfl rfl rfl rfl rfl (by omega) (getS hy) rfl) (ap (ag 7 rfl (AC.toCode ?_))))))))))
              refine AWp.condCase rfl (fun h => ?_) (fun h => ?_)
              · refine ae (ag 8 rfl (AC.nilE (ax (ag 2 rfl (AC.nilE ?_)))))
                (refine bodyQ_r (ResOk.one rfl rfl) ?_; rw [setM, ← hm, setGo_F (by exact .inr (.inr (.inr (hiOk_F (by simp_all)))))]; rfl)
              · refine ae (ag 8 rfl (AC.nilE (seqQ_n ?_)))
                (refine AIn.nextN 0 (ih (k + 1 + 1) (⟨by omega, by rw [prevHi_next hy, ← hm, setGo_T (by simp_all) (by simp_all) (by simp_all) (hiOk_T (by simp_all))]⟩) (by omega)) ?_ rfl; repeat (first | exact trivial | refine ⟨rfl, ?_⟩ | refine ⟨congrArg some nx, ?_⟩))
            · refine ap (ag 26 rfl (AC.nilE (seqQ_n ?_)))
              (refine AIn.nextN 0 (ih (k + 1 + 1) (⟨by omega, by rw [prevHi_next hy, ← hm, setGo_T (by simp_all) (by simp_all) (by simp_all) (hiOk_T (by simp_all))]⟩) (by omega)) ?_ rfl; repeat (first | exact trivial | refine ⟨rfl, ?_⟩ | refine ⟨congrArg some nx, ?_⟩))
  · have h := of_decide_eq_false h
    simp only [List.length_map] at h
    rw [List.drop_eq_nil_of_le (by omega)] at hm
    refine ae (ag 2 rfl (AC.nilE (ae (ag 4 rfl (AC.pln (AOp.callP rfl rfl rfl (refWithin_tr _ _ _) (ab (ag 4 rfl (AC.nilE ?_)))))))))
    refine bodyQ_r (ResOk.one rfl rfl) ?_
    simp [setM, ← hm, setGo]
def bareM (x : Pat) : Bool := decide (x.n = 0) && (decide (x.min = 0) && (decide (x.max = 0) && (decide (x.name = []) && (decide (x.set = []) && decide (x.l = [])))))
theorem bare_tr (x : Pat) : PTr Tryz.prog 214 [.agg x.C] (.bool (bareM x)) := by
  refine PTr.of_body (N := 33) Tryz.func214 rfl rfl rfl ?_
  refine ae0 (ag 2 rfl (AC.pln (AOp.box rfl rfl (isVal_or rfl) rfl rfl (fun _ _ => (ab (ag 6 rfl (AC.pln (AOp.load okL rfl (.head _) rfl rfl rfl rfl (ab (ag 2 rfl (AC.toOps ?_)))))))))))
  refine AOps.guardCase rfl rfl rfl (fun h => ?_) (fun h => ?_)
  · refine ab (ag 1 rfl (AC.wtd rfl rfl rfl (AOp.load okL rfl (.head _) rfl rfl rfl rfl (ab (ag 3 rfl (AC.toOps ?_))))))
    refine AOps.guardCase rfl rfl rfl (fun h => ?_) (fun h => ?_)
    · refine ab (ag 1 rfl (AC.wtd rfl rfl rfl (AOp.load okL rfl (.head _) rfl rfl rfl rfl (ab (ag 3 rfl (AC.toOps ?_))))))
      refine AOps.guardCase rfl rfl rfl (fun h => ?_) (fun h => ?_)
      · refine ab (ag 1 rfl (AC.wtd rfl rfl rfl (AOp.load okL rfl (.head _) rfl rfl rfl rfl (ab (ag 3 rfl (AC.toOps ?_))))))
        refine AOps.guardCase rfl rfl rfl (fun h => ?_) (fun h => ?_)
        · refine ab (ag 1 rfl (AC.wtd rfl rfl rfl (AOp.load okL rfl (.head _) rfl rfl rfl rfl (ab (ag 4 rfl (AC.toOps ?_))))))
          refine AOps.guardCase rfl rfl rfl (fun h => ?_) (fun h => ?_)
          · refine ab (ag 1 rfl (AC.wtd rfl rfl rfl (AOp.load okL rfl (.head _) rfl rfl rfl rfl (ab (ag 7 rfl (AC.nilE ?_))))))
            refine bodyQ_r (ResOk.one rfl rfl) ?_; simp_all [bareM] <;> (rw [Bool.eq_iff_iff]; simp)
          · refine ab (ag 9 rfl (AC.nilE ?_))
            refine bodyQ_r (ResOk.one rfl rfl) ?_; simp_all [bareM] <;> (rw [Bool.eq_iff_iff]; simp)
        · refine ab (ag 15 rfl (AC.nilE ?_))
          refine bodyQ_r (ResOk.one rfl rfl) ?_; simp_all [bareM] <;> (rw [Bool.eq_iff_iff]; simp)
      · refine ab (ag 20 rfl (AC.nilE ?_))
        refine bodyQ_r (ResOk.one rfl rfl) ?_; simp_all [bareM] <;> (rw [Bool.eq_iff_iff]; simp)
    · refine ab (ag 25 rfl (AC.nilE ?_))
      refine bodyQ_r (ResOk.one rfl rfl) ?_; simp_all [bareM] <;> (rw [Bool.eq_iff_iff]; simp)
  · refine ab (ag 30 rfl (AC.nilE ?_))
    refine bodyQ_r (ResOk.one rfl rfl) ?_; simp_all [bareM] <;> (rw [Bool.eq_iff_iff]; simp)

end Go.Proofs.YtpopmiodjibljaaGreatDoor


namespace Go.Proofs.YtpopmiodjibljaaGreatDoor
open Go Go.Abs
set_option linter.unusedVariables false
set_option maxRecDepth 100000
set_option linter.unusedSimpArgs false

def nodeR (x : Pat) (ok : Bool) (parts n mn mx : Int) (nm : List UInt8) (st : List (Int × Int)) : Bool := ok && (decide ((x.l.length : Int) = parts) && bareM (.mk x.op n mn mx nm st []))
def nodeM (x : Pat) (g : Int) : Bool :=
  if x.op = 0 ∨ x.op = 2 ∨ x.op = 11 ∨ x.op = 12 ∨ x.op = 18 then nodeR x true 0 x.n x.min x.max x.name x.set
  else if x.op = 1 then nodeR x (chM x.n) 0 0 x.min x.max x.name x.set
  else if x.op = 3 then nodeR x (wiM x.n 0 1 && setM x.set) 0 0 x.min x.max x.name []
  else if x.op = 4 ∨ x.op = 5 then nodeR x (decide ((x.l.length : Int) ≥ 2)) x.l.length x.n x.min x.max x.name x.set
  else if x.op = 6 then nodeR x (wiM x.n 0 2 && (wiM x.min 0 20 && (decide (x.max = -1) || wiM x.max (if 1 > x.min then 1 else x.min) 20))) 1 0 0 0 x.name x.set
  else if x.op = 7 then nodeR x (decide (x.name = []) || nameM x.name) 1 0 x.min x.max [] x.set
  else if x.op = 8 then nodeR x true 1 x.n x.min x.max x.name x.set
  else if x.op = 9 then nodeR x (wiM x.n 0 3) 1 0 x.min x.max x.name x.set
  else if x.op = 10 then nodeR x (wiM x.n 1 g) 0 0 x.min x.max x.name x.set
  else if x.op = 13 then nodeR x (wiM x.n 0 1) 0 0 x.min x.max x.name x.set
  else if x.op = 14 then nodeR x (wiM x.n 0 g) 0 0 x.min x.max x.name x.set
  else if x.op = 15 then nodeR x (wiM x.n 1 g) 2 0 x.min x.max x.name x.set
  else if x.op = 16 then nodeR x (wiM x.n 0 2) 0 0 x.min x.max x.name x.set
  else if x.op = 17 then nodeR x (wiM x.n 0 9) 0 0 x.min x.max x.name x.set
  else false
structure NSt where
  ok : Bool
  parts : Int
  n : Int
  mn : Int
  mx : Int
  nm : List UInt8
  st : List (Int × Int)
  S : A
set_option maxHeartbeats 4000000 in
theorem isNode_tr (x : Pat) (g : Int) : PTr Tryz.prog 164 [.agg x.C, i64 g] (.bool (nodeM x g)) := by
  refine PTr.of_body (N := 143) Tryz.func164 rfl rfl rfl ?_
  refine ae0 (ag 2 rfl (AC.pln (AOp.box rfl rfl (isVal_or rfl) rfl rfl (fun _ _ => (ab (ag 5 rfl (AC.pln (AOp.load okL rfl (.head _) rfl rfl rfl rfl (ab (AC.pln (AOp.alloc okL rfl rfl rfl (fun _ _ => (ab (AC.pln (AOp.store okL rfl rfl rfl (isVal_or rfl) rfl rfl rfl .here rfl rfl rfl (ab (ag 16 rfl (AC.pln (AOp.load okL rfl (.tail _ (.head _)) rfl rfl rfl rfl (ab (ag 2 rfl (AC.toCode ?_))))))))))))))))))))))
  rename_i r2 _ r5 _
  refine AWp.join (α := NSt) (fun a => [(2, .ptr r2 7 0 0), (5, .ptr r5 7 0 0), (6, i64 a.parts), (7, .bool a.ok)])
    (fun a => [(r5, .row 25 7 [[i64 x.op, i64 a.n, i64 a.mn, i64 a.mx, .str a.nm, a.S, .ds (x.l.map Pat.cells)]]), (r2, .row 25 7 [x.C])])
    (fun a => nodeM x g = nodeR x a.ok a.parts a.n a.mn a.mx a.nm a.st ∧ (a.S = .ds (a.st.map spanC) ∨ a.st = [] ∧ a.S = .nils)) ?_ fun R K hR => ?_
  · rintro ⟨ok, parts, n, mn, mx, nm, st, S⟩ ⟨h1, h2⟩
    simp only at h1 h2 ⊢
    rcases h2 with rfl | ⟨rfl, rfl⟩
    · refine ae (ag 3 rfl (AC.pln (AOp.store okL rfl rfl rfl (isVal_or rfl) rfl rfl rfl .here rfl rfl rfl (ab (ag 6 rfl (AC.toOps ?_))))))
      refine AOps.guardCase rfl rfl rfl (fun h => ?_) (fun h => ?_)
      · refine ab (ag 1 rfl (AC.wtd rfl rfl rfl (AOp.load okL rfl (.tail _ (.head _)) rfl rfl rfl rfl (ab (ag 5 rfl (AC.toOps ?_))))))
        refine AOps.guardCase rfl rfl rfl (fun h => ?_) (fun h => ?_)
        · refine ab (AC.wtd rfl rfl rfl (AOp.load okL rfl (.head _) rfl rfl rfl rfl (ab (AC.wtd rfl rfl rfl (AOp.callS rfl rfl rfl (bare_tr (.mk x.op n mn mx nm st [])) (by (repeat (first | exact SubL.nil | refine SubL.cons (Sub.refl _) ?_ | refine SubL.cons Sub.nils ?_ | refine SubL.cons (Sub.agg ?_) ?_))) (ab (ag 5 rfl (AC.nilE ?_))))))))
          refine bodyQ_r (ResOk.one rfl rfl) ?_; simp_all [nodeR]
        · refine ab (ag 7 rfl (AC.nilE ?_))
          refine bodyQ_r (ResOk.one rfl rfl) ?_; simp_all [nodeR]
      · refine ab (ag 14 rfl (AC.nilE ?_))
        refine bodyQ_r (ResOk.one rfl rfl) ?_; simp_all [nodeR]
    · refine ae (ag 3 rfl (AC.pln (AOp.store okL rfl rfl rfl (isVal_or rfl) rfl rfl rfl .here rfl rfl rfl (ab (ag 6 rfl (AC.toOps ?_))))))
      refine AOps.guardCase rfl rfl rfl (fun h => ?_) (fun h => ?_)
      · refine ab (ag 1 rfl (AC.wtd rfl rfl rfl (AOp.load okL rfl (.tail _ (.head _)) rfl rfl rfl rfl (ab (ag 5 rfl (AC.toOps ?_))))))
        refine AOps.guardCase rfl rfl rfl (fun h => ?_) (fun h => ?_)
        · refine ab (AC.wtd rfl rfl rfl (AOp.load okL rfl (.head _) rfl rfl rfl rfl (ab (AC.wtd rfl rfl rfl (AOp.callS rfl rfl rfl (bare_tr (.mk x.op n mn mx nm [] [])) (by (repeat (first | exact SubL.nil | refine SubL.cons (Sub.refl _) ?_ | refine SubL.cons Sub.nils ?_ | refine SubL.cons (Sub.agg ?_) ?_))) (ab (ag 5 rfl (AC.nilE ?_))))))))
          refine bodyQ_r (ResOk.one rfl rfl) ?_; simp_all [nodeR]
        · refine ab (ag 7 rfl (AC.nilE ?_))
          refine bodyQ_r (ResOk.one rfl rfl) ?_; simp_all [nodeR]
      · refine ab (ag 14 rfl (AC.nilE ?_))
        refine bodyQ_r (ResOk.one rfl rfl) ?_; simp_all [nodeR]
  · refine ae0 (ag 8 rfl (AC.toCode ?_))
    refine AWp.condCase rfl (fun h => ?_) (fun h => ?_)
    · refine ae (ag 5 rfl (AC.nilE ?_))
      (refine K ⟨_, _, _, _, _, _, x.set, _⟩ ⟨?_, .inl rfl⟩ 0 _ _ ⟨rfl, rfl, rfl, rfl, trivial⟩ rfl; clear K hR; ((simp_all [nodeM]; rfl)))
    · refine ae (ag 6 rfl (AC.toCode ?_))
      refine AWp.condCase rfl (fun h => ?_) (fun h => ?_)
      · refine ae (ag 5 rfl (AC.nilE ?_))
        (refine K ⟨_, _, _, _, _, _, x.set, _⟩ ⟨?_, .inl rfl⟩ 0 _ _ ⟨rfl, rfl, rfl, rfl, trivial⟩ rfl; clear K hR; ((simp_all [nodeM]; rfl)))
      · refine ae (ag 6 rfl (AC.toCode ?_))
        refine AWp.condCase rfl (fun h => ?_) (fun h => ?_)
        · refine ae (ag 5 rfl (AC.nilE ?_))
          (refine K ⟨_, _, _, _, _, _, x.set, _⟩ ⟨?_, .inl rfl⟩ 0 _ _ ⟨rfl, rfl, rfl, rfl, trivial⟩ rfl; clear K hR; ((simp_all [nodeM]; rfl)))
        · refine ae (ag 6 rfl (AC.toCode ?_))
          refine AWp.condCase rfl (fun h => ?_) (fun h => ?_)
          · refine ae (ag 5 rfl (AC.nilE ?_))
            (refine K ⟨_, _, _, _, _, _, x.set, _⟩ ⟨?_, .inl rfl⟩ 0 _ _ ⟨rfl, rfl, rfl, rfl, trivial⟩ rfl; clear K hR; ((simp_all [nodeM]; rfl)))
          · refine ae (ag 5 rfl (AC.toCode ?_))
            refine AWp.condCase rfl (fun h => ?_) (fun h => ?_)
            · refine ae (ag 2 rfl (AC.nilE ?_))
              (refine K ⟨_, _, _, _, _, _, x.set, _⟩ ⟨?_, .inl rfl⟩ 0 _ _ ⟨rfl, rfl, rfl, rfl, trivial⟩ rfl; clear K hR; ((simp_all [nodeM]; rfl)))
            · refine ae (ag 6 rfl (AC.toCode ?_))
              refine AWp.condCase rfl (fun h => ?_) (fun h => ?_)
              · refine ae (ag 2 rfl (AC.pln (AOp.load okL rfl (.tail _ (.head _)) rfl rfl rfl rfl (ab (AC.pln (AOp.callP rfl rfl rfl (patIsChar_tr _) (ab (ag 2 rfl (AC.pln (AOp.store okL rfl rfl rfl (isVal_or rfl) rfl rfl rfl .here rfl rfl rfl (ab (ag 2 rfl (AC.nilE ?_)))))))))))))
                (refine K ⟨_, _, _, _, _, _, x.set, _⟩ ⟨?_, .inl rfl⟩ 0 _ _ ⟨rfl, rfl, rfl, rfl, trivial⟩ rfl; clear K hR; ((simp_all [nodeM]; rfl)))
              · refine ae (ag 6 rfl (AC.toCode ?_))
                refine AWp.condCase rfl (fun h => ?_) (fun h => ?_)
                · refine ae (ag 2 rfl (AC.pln (AOp.load okL rfl (.tail _ (.head _)) rfl rfl rfl rfl (ab (AC.pln (AOp.callP rfl rfl rfl (patWithin_tr _ _ _) (ab (ag 1 rfl (AC.toOps ?_)))))))))
                  refine AOps.guardCase rfl rfl rfl (fun h => ?_) (fun h => ?_)
                  · refine ab (ag 1 rfl (AC.wtd rfl rfl rfl (AOp.load okL rfl (.tail _ (.head _)) rfl rfl rfl rfl (ab (AC.wtd rfl rfl rfl (AOp.callP rfl rfl rfl (patIsSet_tr _) (ab (ag 3 rfl (AC.pln (AOp.store okL rfl rfl rfl (isVal_or rfl) rfl rfl rfl .here rfl rfl rfl (ab (ag 1 rfl (AC.pln (AOp.store okL rfl rfl rfl (isVal_or rfl) rfl rfl rfl .here rfl rfl rfl (ab (ag 2 rfl (AC.nilE ?_)))))))))))))))))
                    (refine K ⟨_, _, _, _, _, _, [], _⟩ ⟨?_, .inr ⟨rfl, rfl⟩⟩ 0 _ _ ⟨rfl, rfl, rfl, rfl, trivial⟩ rfl; clear K hR; ((simp_all [nodeM]; rfl)))
                  · refine ab (ag 6 rfl (AC.pln (AOp.store okL rfl rfl rfl (isVal_or rfl) rfl rfl rfl .here rfl rfl rfl (ab (ag 1 rfl (AC.pln (AOp.store okL rfl rfl rfl (isVal_or rfl) rfl rfl rfl .here rfl rfl rfl (ab (ag 2 rfl (AC.nilE ?_))))))))))
                    (refine K ⟨_, _, _, _, _, _, [], _⟩ ⟨?_, .inr ⟨rfl, rfl⟩⟩ 0 _ _ ⟨rfl, rfl, rfl, rfl, trivial⟩ rfl; clear K hR; ((simp_all [nodeM]; rfl)))
                · refine ae (ag 7 rfl (AC.toCode ?_))
                  refine AWp.condCase rfl (fun h => ?_) (fun h => ?_)
                  · refine ae (ag 6 rfl (AC.pln (AOp.load okL rfl (.tail _ (.head _)) rfl rfl rfl rfl (ab (ag 7 rfl (AC.pln (AOp.load okL rfl (.tail _ (.head _)) rfl rfl rfl rfl (ab (ag 4 rfl (AC.nilE ?_))))))))))
                    (refine K ⟨decide (((x.l.map Pat.cells).length : Int) ≥ 2), ((x.l.map Pat.cells).length : Int), x.n, x.min, x.max, x.name, x.set, .ds (x.set.map spanC)⟩ ⟨?_, .inl rfl⟩ 0 _ _ ⟨rfl, rfl, rfl, rfl, trivial⟩ rfl; clear K hR; simp_all [nodeM]; done)
                  · refine ae (ag 5 rfl (AC.toCode ?_))
                    refine AWp.condCase rfl (fun h => ?_) (fun h => ?_)
                    · refine ae (ag 3 rfl (AC.pln (AOp.load okL rfl (.tail _ (.head _)) rfl rfl rfl rfl (ab (ag 7 rfl (AC.pln (AOp.load okL rfl (.tail _ (.head _)) rfl rfl rfl rfl (ab (ag 4 rfl (AC.nilE ?_))))))))))
                      (refine K ⟨decide (((x.l.map Pat.cells).length : Int) ≥ 2), ((x.l.map Pat.cells).length : Int), x.n, x.min, x.max, x.name, x.set, .ds (x.set.map spanC)⟩ ⟨?_, .inl rfl⟩ 0 _ _ ⟨rfl, rfl, rfl, rfl, trivial⟩ rfl; clear K hR; simp_all [nodeM]; done)
                    · refine ae (ag 6 rfl (AC.toCode ?_))
                      refine AWp.condCase rfl (fun h => ?_) (fun h => ?_)
                      · refine ae (ag 3 rfl (AC.pln (AOp.load okL rfl (.tail _ (.head _)) rfl rfl rfl rfl (ab (AC.pln (AOp.callP rfl rfl rfl (patWithin_tr _ _ _) (ab (ag 1 rfl (AC.toOps ?_)))))))))
                        refine AOps.guardCase rfl rfl rfl (fun h => ?_) (fun h => ?_)
                        · refine ab (ag 1 rfl (AC.wtd rfl rfl rfl (AOp.load okL rfl (.tail _ (.head _)) rfl rfl rfl rfl (ab (AC.wtd rfl rfl rfl (AOp.callP rfl rfl rfl (patWithin_tr _ _ _) (ab (ag 2 rfl (AC.toOps ?_)))))))))
                          refine AOps.guardCase rfl rfl rfl (fun h => ?_) (fun h => ?_)
                          · refine ab (ag 1 rfl (AC.wtd rfl rfl rfl (AOp.load okL rfl (.tail _ (.head _)) rfl rfl rfl rfl (ab (ag 2 rfl (AC.toOps ?_))))))
                            refine AOps.guardCase rfl rfl rfl (fun h => ?_) (fun h => ?_)
                            · refine ab (ag 14 rfl (AC.pln (AOp.store okL rfl rfl rfl (isVal_or rfl) rfl rfl rfl .here rfl rfl rfl (ab (ag 1 rfl (AC.pln (AOp.store okL rfl rfl rfl (isVal_or rfl) rfl rfl rfl .here rfl rfl rfl (ab (ag 1 rfl (AC.pln (AOp.store okL rfl rfl rfl (isVal_or rfl) rfl rfl rfl .here rfl rfl rfl (ab (ag 2 rfl (AC.nilE ?_))))))))))))))
                              (refine K ⟨_, _, _, _, _, _, x.set, _⟩ ⟨?_, .inl rfl⟩ 0 _ _ ⟨rfl, rfl, rfl, rfl, trivial⟩ rfl; clear K hR; ((simp_all [nodeM]; rfl)))
                            · refine ab (ag 1 rfl (AC.wtd rfl rfl rfl (AOp.load okL rfl (.tail _ (.head _)) rfl rfl rfl rfl (ab (ag 1 rfl (AC.wtd rfl rfl rfl (AOp.load okL rfl (.tail _ (.head _)) rfl rfl rfl rfl (ab (ag 1 rfl (AC.wtd rfl rfl rfl (AOp.callP rfl rfl rfl (patWithin_tr _ _ _) (ab (ag 8 rfl (AC.pln (AOp.store okL rfl rfl rfl (isVal_or rfl) rfl rfl rfl .here rfl rfl rfl (ab (ag 1 rfl (AC.pln (AOp.store okL rfl rfl rfl (isVal_or rfl) rfl rfl rfl .here rfl rfl rfl (ab (ag 1 rfl (AC.pln (AOp.store okL rfl rfl rfl (isVal_or rfl) rfl rfl rfl .here rfl rfl rfl (ab (ag 2 rfl (AC.nilE ?_))))))))))))))))))))))))))
                              (refine K ⟨_, _, _, _, _, _, x.set, _⟩ ⟨?_, .inl rfl⟩ 0 _ _ ⟨rfl, rfl, rfl, rfl, trivial⟩ rfl; clear K hR; ((simp_all [nodeM]; rfl)))
                          · refine ab (ag 18 rfl (AC.pln (AOp.store okL rfl rfl rfl (isVal_or rfl) rfl rfl rfl .here rfl rfl rfl (ab (ag 1 rfl (AC.pln (AOp.store okL rfl rfl rfl (isVal_or rfl) rfl rfl rfl .here rfl rfl rfl (ab (ag 1 rfl (AC.pln (AOp.store okL rfl rfl rfl (isVal_or rfl) rfl rfl rfl .here rfl rfl rfl (ab (ag 2 rfl (AC.nilE ?_))))))))))))))
                            (refine K ⟨_, _, _, _, _, _, x.set, _⟩ ⟨?_, .inl rfl⟩ 0 _ _ ⟨rfl, rfl, rfl, rfl, trivial⟩ rfl; clear K hR; ((simp_all [nodeM]; rfl)))
                        · refine ab (ag 23 rfl (AC.pln (AOp.store okL rfl rfl rfl (isVal_or rfl) rfl rfl rfl .here rfl rfl rfl (ab (ag 1 rfl (AC.pln (AOp.store okL rfl rfl rfl (isVal_or rfl) rfl rfl rfl .here rfl rfl rfl (ab (ag 1 rfl (AC.pln (AOp.store okL rfl rfl rfl (isVal_or rfl) rfl rfl rfl .here rfl rfl rfl (ab (ag 2 rfl (AC.nilE ?_))))))))))))))
                          (refine K ⟨_, _, _, _, _, _, x.set, _⟩ ⟨?_, .inl rfl⟩ 0 _ _ ⟨rfl, rfl, rfl, rfl, trivial⟩ rfl; clear K hR; ((simp_all [nodeM]; rfl)))
                      · refine ae (ag 6 rfl (AC.toCode ?_))
                        refine AWp.condCase rfl (fun h => ?_) (fun h => ?_)
                        · refine ae (ag 3 rfl (AC.pln (AOp.load okL rfl (.tail _ (.head _)) rfl rfl rfl rfl (ab (ag 2 rfl (AC.toOps ?_))))))
                          refine AOps.guardCase rfl rfl rfl (fun h => ?_) (fun h => ?_)
                          · refine ab (ag 10 rfl (AC.pln (AOp.store okL rfl rfl rfl (isVal_or rfl) rfl rfl rfl .here rfl rfl rfl (ab (ag 1 rfl (AC.pln (AOp.store okL rfl rfl rfl (isVal_or rfl) rfl rfl rfl .here rfl rfl rfl (ab (ag 2 rfl (AC.nilE ?_))))))))))
                            (refine K ⟨_, _, _, _, _, _, x.set, _⟩ ⟨?_, .inl rfl⟩ 0 _ _ ⟨rfl, rfl, rfl, rfl, trivial⟩ rfl; clear K hR; ((simp_all [nodeM]; rfl)))
                          · refine ab (ag 1 rfl (AC.wtd rfl rfl rfl (AOp.load okL rfl (.tail _ (.head _)) rfl rfl rfl rfl (ab (AC.wtd rfl rfl rfl (AOp.callP rfl rfl rfl (patIsName_tr _) (ab (ag 7 rfl (AC.pln (AOp.store okL rfl rfl rfl (isVal_or rfl) rfl rfl rfl .here rfl rfl rfl (ab (ag 1 rfl (AC.pln (AOp.store okL rfl rfl rfl (isVal_or rfl) rfl rfl rfl .here rfl rfl rfl (ab (ag 2 rfl (AC.nilE ?_)))))))))))))))))
                            (refine K ⟨_, _, _, _, _, _, x.set, _⟩ ⟨?_, .inl rfl⟩ 0 _ _ ⟨rfl, rfl, rfl, rfl, trivial⟩ rfl; clear K hR; ((simp_all [nodeM]; rfl)))
                        · refine ae (ag 6 rfl (AC.toCode ?_))
                          refine AWp.condCase rfl (fun h => ?_) (fun h => ?_)
                          · refine ae (ag 4 rfl (AC.nilE ?_))
                            (refine K ⟨_, _, _, _, _, _, x.set, _⟩ ⟨?_, .inl rfl⟩ 0 _ _ ⟨rfl, rfl, rfl, rfl, trivial⟩ rfl; clear K hR; ((simp_all [nodeM]; rfl)))
                          · refine ae (ag 6 rfl (AC.toCode ?_))
                            refine AWp.condCase rfl (fun h => ?_) (fun h => ?_)
                            · refine ae (ag 2 rfl (AC.pln (AOp.load okL rfl (.tail _ (.head _)) rfl rfl rfl rfl (ab (AC.pln (AOp.callP rfl rfl rfl (patWithin_tr _ _ _) (ab (ag 3 rfl (AC.pln (AOp.store okL rfl rfl rfl (isVal_or rfl) rfl rfl rfl .here rfl rfl rfl (ab (ag 2 rfl (AC.nilE ?_)))))))))))))
                              (refine K ⟨_, _, _, _, _, _, x.set, _⟩ ⟨?_, .inl rfl⟩ 0 _ _ ⟨rfl, rfl, rfl, rfl, trivial⟩ rfl; clear K hR; ((simp_all [nodeM]; rfl)))
                            · refine ae (ag 6 rfl (AC.toCode ?_))
                              refine AWp.condCase rfl (fun h => ?_) (fun h => ?_)
                              · refine ae (ag 2 rfl (AC.pln (AOp.load okL rfl (.tail _ (.head _)) rfl rfl rfl rfl (ab (ag 1 rfl (AC.pln (AOp.callP rfl rfl rfl (patWithin_tr _ _ _) (ab (ag 2 rfl (AC.pln (AOp.store okL rfl rfl rfl (isVal_or rfl) rfl rfl rfl .here rfl rfl rfl (ab (ag 2 rfl (AC.nilE ?_))))))))))))))
                                (refine K ⟨_, _, _, _, _, _, x.set, _⟩ ⟨?_, .inl rfl⟩ 0 _ _ ⟨rfl, rfl, rfl, rfl, trivial⟩ rfl; clear K hR; ((simp_all [nodeM]; rfl)))
                              · refine ae (ag 6 rfl (AC.toCode ?_))
                                refine AWp.condCase rfl (fun h => ?_) (fun h => ?_)
                                · refine ae (ag 2 rfl (AC.pln (AOp.load okL rfl (.tail _ (.head _)) rfl rfl rfl rfl (ab (AC.pln (AOp.callP rfl rfl rfl (patWithin_tr _ _ _) (ab (ag 2 rfl (AC.pln (AOp.store okL rfl rfl rfl (isVal_or rfl) rfl rfl rfl .here rfl rfl rfl (ab (ag 2 rfl (AC.nilE ?_)))))))))))))
                                  (refine K ⟨_, _, _, _, _, _, x.set, _⟩ ⟨?_, .inl rfl⟩ 0 _ _ ⟨rfl, rfl, rfl, rfl, trivial⟩ rfl; clear K hR; ((simp_all [nodeM]; rfl)))
                                · refine ae (ag 6 rfl (AC.toCode ?_))
                                  refine AWp.condCase rfl (fun h => ?_) (fun h => ?_)
                                  · refine ae (ag 2 rfl (AC.pln (AOp.load okL rfl (.tail _ (.head _)) rfl rfl rfl rfl (ab (ag 1 rfl (AC.pln (AOp.callP rfl rfl rfl (patWithin_tr _ _ _) (ab (ag 2 rfl (AC.pln (AOp.store okL rfl rfl rfl (isVal_or rfl) rfl rfl rfl .here rfl rfl rfl (ab (ag 2 rfl (AC.nilE ?_))))))))))))))
                                    (refine K ⟨_, _, _, _, _, _, x.set, _⟩ ⟨?_, .inl rfl⟩ 0 _ _ ⟨rfl, rfl, rfl, rfl, trivial⟩ rfl; clear K hR; ((simp_all [nodeM]; rfl)))
                                  · refine ae (ag 6 rfl (AC.toCode ?_))
                                    refine AWp.condCase rfl (fun h => ?_) (fun h => ?_)
                                    · refine ae (ag 2 rfl (AC.pln (AOp.load okL rfl (.tail _ (.head _)) rfl rfl rfl rfl (ab (ag 1 rfl (AC.pln (AOp.callP rfl rfl rfl (patWithin_tr _ _ _) (ab (ag 3 rfl (AC.pln (AOp.store okL rfl rfl rfl (isVal_or rfl) rfl rfl rfl .here rfl rfl rfl (ab (ag 2 rfl (AC.nilE ?_))))))))))))))
                                      (refine K ⟨_, _, _, _, _, _, x.set, _⟩ ⟨?_, .inl rfl⟩ 0 _ _ ⟨rfl, rfl, rfl, rfl, trivial⟩ rfl; clear K hR; ((simp_all [nodeM]; rfl)))
                                    · refine ae (ag 6 rfl (AC.toCode ?_))
                                      refine AWp.condCase rfl (fun h => ?_) (fun h => ?_)
                                      · refine ae (ag 2 rfl (AC.pln (AOp.load okL rfl (.tail _ (.head _)) rfl rfl rfl rfl (ab (AC.pln (AOp.callP rfl rfl rfl (patWithin_tr _ _ _) (ab (ag 2 rfl (AC.pln (AOp.store okL rfl rfl rfl (isVal_or rfl) rfl rfl rfl .here rfl rfl rfl (ab (ag 2 rfl (AC.nilE ?_)))))))))))))
                                        (refine K ⟨_, _, _, _, _, _, x.set, _⟩ ⟨?_, .inl rfl⟩ 0 _ _ ⟨rfl, rfl, rfl, rfl, trivial⟩ rfl; clear K hR; ((simp_all [nodeM]; rfl)))
                                      · refine ae (ag 6 rfl (AC.toCode ?_))
                                        refine AWp.condCase rfl (fun h => ?_) (fun h => ?_)
                                        · refine ae (ag 2 rfl (AC.pln (AOp.load okL rfl (.tail _ (.head _)) rfl rfl rfl rfl (ab (AC.pln (AOp.callP rfl rfl rfl (patWithin_tr _ _ _) (ab (ag 2 rfl (AC.pln (AOp.store okL rfl rfl rfl (isVal_or rfl) rfl rfl rfl .here rfl rfl rfl (ab (ag 2 rfl (AC.nilE ?_)))))))))))))
                                          (refine K ⟨_, _, _, _, _, _, x.set, _⟩ ⟨?_, .inl rfl⟩ 0 _ _ ⟨rfl, rfl, rfl, rfl, trivial⟩ rfl; clear K hR; ((simp_all [nodeM]; rfl)))
                                        · refine ae (ag 7 rfl (AC.nilE ?_))
                                          (refine hR _ _ _ (by intro h; cases h) ?_; refine bodyQ_r (ResOk.one rfl rfl) ?_; clear K hR; ((simp_all [nodeM]; done)))
end Go.Proofs.YtpopmiodjibljaaGreatDoor


namespace Go.Proofs.YtpopmiodjibljaaGreatDoor
open Go Go.Abs
set_option linter.unusedVariables false
set_option maxRecDepth 100000
set_option linter.unusedSimpArgs false

mutual
def hasP : Pat → Int → Bool
  | .mk op _ _ _ _ _ l, o => decide (op = o) || hasL l o
def hasL : List Pat → Int → Bool
  | [], _ => false
  | y :: l, o => hasP y o || hasL l o
end
theorem hasP_eq (x : Pat) (o : Int) : hasP x o = (decide (x.op = o) || hasL x.l o) := by cases x; rfl
def largeM (x : Pat) : Bool := decide ((szP x).1 > 60) || (decide ((szP x).2.2 > 12) || decide ((szP x).2.1 > 9))
theorem isLarge_tr (x : Pat) : PTr Tryz.prog 104 [.agg x.C] (.bool (largeM x)) := by
  refine PTr.of_body (N := 19) Tryz.func104 rfl rfl rfl ?_
  refine ae0 (ag 2 rfl (AC.pln (AOp.box rfl rfl (isVal_or rfl) rfl rfl (fun _ _ => (ab (ag 5 rfl (AC.pln (AOp.load okL rfl (.head _) rfl rfl rfl rfl (ab (AC.pln (AOp.callP rfl rfl rfl (ref12Size_tr x) (ab (AC.pln (AOp.alloc okL rfl rfl rfl (fun _ _ => (ab (AC.pln (AOp.store okL rfl rfl rfl (isVal_or rfl) rfl rfl rfl .here rfl rfl rfl (ab (ag 5 rfl (AC.pln (AOp.load okL rfl (.head _) rfl rfl rfl rfl (ab (ag 2 rfl (AC.toOps ?_)))))))))))))))))))))))))
  refine AOps.guardCase rfl rfl rfl (fun h => ?_) (fun h => ?_)
  · refine ab (ag 13 rfl (AC.nilE ?_))
    refine bodyQ_r (ResOk.one rfl rfl) ?_; (simp_all [largeM] <;> first | omega | (rw [Bool.eq_iff_iff]; simp <;> omega))
  · refine ab (ag 1 rfl (AC.wtd rfl rfl rfl (AOp.load okL rfl (.head _) rfl rfl rfl rfl (ab (ag 3 rfl (AC.toOps ?_))))))
    refine AOps.guardCase rfl rfl rfl (fun h => ?_) (fun h => ?_)
    · refine ab (ag 8 rfl (AC.nilE ?_))
      refine bodyQ_r (ResOk.one rfl rfl) ?_; (simp_all [largeM] <;> first | omega | (rw [Bool.eq_iff_iff]; simp <;> omega))
    · refine ab (ag 1 rfl (AC.wtd rfl rfl rfl (AOp.load okL rfl (.head _) rfl rfl rfl rfl (ab (ag 6 rfl (AC.nilE ?_))))))
      refine bodyQ_r (ResOk.one rfl rfl) ?_; (simp_all [largeM] <;> ((rw [Bool.eq_iff_iff]; simp <;> omega)))

def lenS (op : Int) (first : Bool) (a b : Int × Int) : Int × Int :=
  if first then b else if op = 4 then (w64 (a.1 + b.1), plusM a.2 b.2) else (if b.1 < a.1 then b.1 else a.1, if a.2 ≥ 0 ∧ (b.2 < 0 ∨ b.2 > a.2) then b.2 else a.2)
mutual
def lenP : Pat → Int × Int
  | .mk op _ mn mx _ _ l =>
    if op = 1 ∨ op = 2 ∨ op = 3 then (1, 1) else if op = 10 ∨ op = 14 then (0, -1) else if op = 9 then (0, 0)
    else if op = 6 then (timesM mn (lenH l).1, timesM mx (lenH l).2) else lenL op l true (0, 0)
def lenH : List Pat → Int × Int
  | [] => (0, 0)
  | y :: _ => lenP y
def lenL : Int → List Pat → Bool → Int × Int → Int × Int
  | _, [], _, a => a
  | op, y :: l, f, a => lenL op l false (lenS op f a (lenP y))
end
theorem lenP_eq (x : Pat) : lenP x = if x.op = 1 ∨ x.op = 2 ∨ x.op = 3 then (1, 1) else if x.op = 10 ∨ x.op = 14 then (0, -1) else if x.op = 9 then (0, 0)
    else if x.op = 6 then (timesM x.min (lenH x.l).1, timesM x.max (lenH x.l).2) else lenL x.op x.l true (0, 0) := by cases x; rw [lenP]; rfl
/-- Where one goes into the first part, there is one. -/
inductive Sh : Pat → Prop
  | mk (x : Pat) (h : x.op = 5 ∨ x.op = 6 ∨ x.op = 7 ∨ x.op = 8 ∨ x.op = 15 → x.l ≠ []) (t : ∀ y ∈ x.l, Sh y) : Sh x
theorem Sh.tl {x : Pat} (h : Sh x) : ∀ y ∈ x.l, Sh y := by cases h; assumption
theorem Sh.hd {x : Pat} (h : Sh x) : x.op = 5 ∨ x.op = 6 ∨ x.op = 7 ∨ x.op = 8 ∨ x.op = 15 → x.l ≠ [] := by cases h; assumption
theorem lenP_6 {x : Pat} {a : Int × Int} (h : x.op = 6) (hH : lenH x.l = a) : lenP x = (timesM x.min a.1, timesM x.max a.2) := by rw [lenP_eq, hH]; simp [h]
theorem mem_C {x : Pat} : A.ds (x.l.map Pat.cells) ∈ x.C := by simp [Pat.C]
set_option maxHeartbeats 2000000 in
theorem lengths_tr (x : Pat) (hs : Sh x) : PTr Tryz.prog 166 [.agg x.C] (.tup [i64 (lenP x).1, i64 (lenP x).2]) := by
  induction x using Pat.ind with | h x IH => _
  refine PTr.of_body (N := 87) Tryz.func166 rfl rfl rfl ?_
  refine AWp.know (t := 0) rfl (Known.agg mem_C (Known.ds _)) fun hlen => ?_
  rw [List.length_map] at hlen
  refine ae0 (ag 2 rfl (AC.pln (AOp.box rfl rfl (isVal_or rfl) rfl rfl (fun _ _ => (ab (ag 8 rfl (AC.pln (AOp.load okL rfl (.head _) rfl rfl rfl rfl (ab (ag 2 rfl (AC.toCode ?_)))))))))))
  rename_i r _
  refine AWp.join (α := Unit) (fun _ => [(1, .ptr r 7 0 0)]) (fun _ => [(r, .row 25 7 [x.C])]) (fun _ => lenP x = lenL x.op x.l true (0, 0)) ?_ fun R K hR => ?_
  · rintro _ hl
    refine ae (ag 10 rfl (AC.pln (AOp.load okL rfl (.head _) rfl rfl rfl rfl (ab (ag 5 rfl (AC.toCode ?_))))))
    refine AWp.loopM (α := Nat × Int × Int) (fun a => x.l.length - a.1) (fun a => [(1, .ptr r 7 0 0), (6, i64 a.2.1), (7, i64 a.2.2), (42, .ds (x.l.map Pat.cells)), (43, i64 (x.l.map Pat.cells).length), (44, i64 a.1)]) (fun _ => [(r, .row 25 7 [x.C])])
      (fun a => a.1 ≤ x.l.length ∧ lenL x.op (x.l.drop a.1) (decide ((a.1 : Int) = 0)) a.2 = lenP x) (0, 0, 0) ⟨Nat.zero_le _, hl.symm⟩ ?_ (List.Perm.refl _) ?_
    · simp only [AllIn]
      refine ⟨rfl, rfl, rfl, rfl, rfl, rfl, trivial⟩
    rintro ⟨k, m⟩ ⟨hk, hm⟩ ih
    simp only at hk hm
    refine ae0 (ag 6 rfl (AC.toCode ?_))
    (refine AWp.condCase rfl (fun h => ?_) (fun h => ?_))
    · have h := of_decide_eq_true h
      simp only [List.length_map] at h
      obtain ⟨y, hy⟩ : ∃ y, x.l[k]? = some y := ⟨x.l[k], by simp [show k < x.l.length by omega]⟩
      have nx := nxt (k := k) (n := x.l.length) (by omega) hlen
      rw [drop_get hy, lenL] at hm
      have hk1 : decide (((k + 1 : Nat) : Int) = 0) = false := decide_eq_false (by omega)
      have hc := IH y (List.mem_of_getElem? hy) (hs.tl y (List.mem_of_getElem? hy))
      refine ae (ag 7 rfl (AC.sim okL (sOp_idxD rfl rfl rfl rfl rfl (by omega) (getC hy) rfl) rfl (ag 1 rfl (AC.pln (AOp.alloc okL rfl rfl rfl (fun _ _ => (ab (ag 1 rfl (AC.pln (AOp.store okL rfl rfl rfl (isVal_or rfl) rfl rfl rfl .here rfl rfl rfl (ab (ag 4 rfl (AC.pln (AOp.load okL rfl (.head _) rfl rfl rfl rfl (ab (AC.pln (AOp.callP rfl rfl rfl (hc) (ab (ag 15 rfl (AC.toCode ?_))))))))))))))))))))
      refine AWp.condCase rfl (fun h => ?_) (fun h => ?_)
      · refine ae (ag 13 rfl (AC.nilE (seqQ_n ?_)))
        (refine AIn.nextN 1 (ih ((k + 1, lenS x.op (decide ((k : Int) = 0)) m (lenP y))) (⟨by omega, by simp only [hk1]; exact hm⟩) (by omega)) ?_ rfl; repeat (first | exact trivial | refine ⟨rfl, ?_⟩ | refine ⟨congrArg some nx, ?_⟩ | refine ⟨congrArg (fun v => some (A.int .i64 v)) (by clear ih IH hc hm; simp_all [lenS, w64] <;> omega), ?_⟩))
      · refine ae (ag 3 rfl (AC.pln (AOp.load okL rfl (.tail _ (.head _)) rfl rfl rfl rfl (ab (ag 4 rfl (AC.toCode ?_))))))
        refine AWp.condCase rfl (fun h => ?_) (fun h => ?_)
        · refine ae (ag 6 rfl (AC.pln (AOp.callP rfl rfl rfl (plus_tr _ _) (ab (ag 10 rfl (AC.nilE (seqQ_n ?_)))))))
          (refine AIn.nextN 1 (ih ((k + 1, lenS x.op (decide ((k : Int) = 0)) m (lenP y))) (⟨by omega, by simp only [hk1]; exact hm⟩) (by omega)) ?_ rfl; repeat (first | exact trivial | refine ⟨rfl, ?_⟩ | refine ⟨congrArg some nx, ?_⟩ | refine ⟨congrArg (fun v => some (A.int .i64 v)) (by clear ih IH hc hm; simp_all [lenS, w64] <;> omega), ?_⟩))
        · refine ae (ag 13 rfl (AC.toOps ?_))
          refine AOps.guardCase rfl rfl rfl (fun h => ?_) (fun h => ?_)
          · refine ab (ag 3 rfl (AC.toOps ?_))
            refine AOps.guardCase rfl rfl rfl (fun h => ?_) (fun h => ?_)
            · refine ab (ag 19 rfl (AC.nilE (seqQ_n ?_)))
              (refine AIn.nextN 1 (ih ((k + 1, lenS x.op (decide ((k : Int) = 0)) m (lenP y))) (⟨by omega, by simp only [hk1]; exact hm⟩) (by omega)) ?_ rfl; repeat (first | exact trivial | refine ⟨rfl, ?_⟩ | refine ⟨congrArg some nx, ?_⟩ | refine ⟨congrArg (fun v => some (A.int .i64 v)) (by clear ih IH hc hm; simp_all [lenS, w64] <;> omega), ?_⟩))
            · refine ab (ag 7 rfl (AC.toCode ?_))
              refine AWp.condCase rfl (fun h => ?_) (fun h => ?_)
              · refine ae (ag 11 rfl (AC.nilE (seqQ_n ?_)))
                (refine AIn.nextN 1 (ih ((k + 1, lenS x.op (decide ((k : Int) = 0)) m (lenP y))) (⟨by omega, by simp only [hk1]; exact hm⟩) (by omega)) ?_ rfl; repeat (first | exact trivial | refine ⟨rfl, ?_⟩ | refine ⟨congrArg some nx, ?_⟩ | refine ⟨congrArg (fun v => some (A.int .i64 v)) (by clear ih IH hc hm; simp_all [lenS, w64] <;> omega), ?_⟩))
              · refine ae (ag 8 rfl (AC.nilE (seqQ_n ?_)))
                (refine AIn.nextN 1 (ih ((k + 1, lenS x.op (decide ((k : Int) = 0)) m (lenP y))) (⟨by omega, by simp only [hk1]; exact hm⟩) (by omega)) ?_ rfl; repeat (first | exact trivial | refine ⟨rfl, ?_⟩ | refine ⟨congrArg some nx, ?_⟩ | refine ⟨congrArg (fun v => some (A.int .i64 v)) (by clear ih IH hc hm; simp_all [lenS, w64] <;> omega), ?_⟩))
          · refine ab (ag 19 rfl (AC.nilE (seqQ_n ?_)))
            (refine AIn.nextN 1 (ih ((k + 1, lenS x.op (decide ((k : Int) = 0)) m (lenP y))) (⟨by omega, by simp only [hk1]; exact hm⟩) (by omega)) ?_ rfl; repeat (first | exact trivial | refine ⟨rfl, ?_⟩ | refine ⟨congrArg some nx, ?_⟩ | refine ⟨congrArg (fun v => some (A.int .i64 v)) (by clear ih IH hc hm; simp_all [lenS, w64] <;> omega), ?_⟩))
    · have h := of_decide_eq_false h
      simp only [List.length_map] at h
      rw [List.drop_eq_nil_of_le (by omega), lenL] at hm
      refine ae (ag 2 rfl (AC.nilE (ae (ag 9 rfl (AC.nilE ?_)))))
      refine bodyQ_r (ResOk.two rfl rfl rfl) ?_
      rw [← hm]
  · have hR' := hR .ret
    cases hxl : x.l with
    | nil =>
      refine ae0 (ag 8 rfl (AC.toCode ?_))
      refine AWp.condCase rfl (fun h => ?_) (fun h => ?_)
      · refine ae (ag 11 rfl (AC.nilE ?_))
        (refine hR _ _ _ (by intro h; cases h) ?_; refine bodyQ_r (ResOk.two rfl rfl rfl) ?_; clear K hR hR' IH; rw [lenP_eq]; simp_all; done)
      · refine ae (ag 6 rfl (AC.toCode ?_))
        refine AWp.condCase rfl (fun h => ?_) (fun h => ?_)
        · refine ae (ag 11 rfl (AC.nilE ?_))
          (refine hR _ _ _ (by intro h; cases h) ?_; refine bodyQ_r (ResOk.two rfl rfl rfl) ?_; clear K hR hR' IH; rw [lenP_eq]; simp_all; done)
        · refine ae (ag 5 rfl (AC.toCode ?_))
          refine AWp.condCase rfl (fun h => ?_) (fun h => ?_)
          · refine ae (ag 8 rfl (AC.nilE ?_))
            (refine hR _ _ _ (by intro h; cases h) ?_; refine bodyQ_r (ResOk.two rfl rfl rfl) ?_; clear K hR hR' IH; rw [lenP_eq]; simp_all; done)
          · refine ae (ag 7 rfl (AC.toCode ?_))
            refine AWp.condCase rfl (fun h => ?_) (fun h => ?_)
            · refine ae (ag 11 rfl (AC.nilE ?_))
              (refine hR _ _ _ (by intro h; cases h) ?_; refine bodyQ_r (ResOk.two rfl rfl rfl) ?_; clear K hR hR' IH; rw [lenP_eq]; simp_all; done)
            · refine ae (ag 5 rfl (AC.toCode ?_))
              refine AWp.condCase rfl (fun h => ?_) (fun h => ?_)
              · refine ae (ag 8 rfl (AC.nilE ?_))
                (refine hR _ _ _ (by intro h; cases h) ?_; refine bodyQ_r (ResOk.two rfl rfl rfl) ?_; clear K hR hR' IH; rw [lenP_eq]; simp_all; done)
              · refine ae (ag 6 rfl (AC.toCode ?_))
                refine AWp.condCase rfl (fun h => ?_) (fun h => ?_)
                · refine ae (ag 8 rfl (AC.nilE ?_))
                  (refine hR _ _ _ (by intro h; cases h) ?_; refine bodyQ_r (ResOk.two rfl rfl rfl) ?_; clear K hR hR' IH; rw [lenP_eq]; simp_all; done)
                · refine ae (ag 6 rfl (AC.toCode ?_))
                  refine AWp.condCase rfl (fun h => ?_) (fun h => ?_)
                  · refine ae (ag 3 rfl (AC.pln (AOp.load okL rfl (.head _) rfl rfl rfl rfl (ab (AC.toOps (ab (AC.toOps ?_)))))))
                    (exfalso; exact hs.hd (by simp_all) hxl)
                  · refine ae (ag 2 rfl (AC.nilE ?_))
                    (refine K () ?_ 0 _ _ ⟨rfl, trivial⟩ rfl; clear K hR hR' IH; rw [lenP_eq]; simp_all; done)
    | cons y0 l0 =>
      have hy0 : y0 ∈ x.l := by rw [hxl]; exact List.mem_cons_self
      have hc := IH y0 hy0 (hs.tl y0 hy0)
      have hH : lenH x.l = lenP y0 := by rw [hxl]; rfl
      have hg : x.l[0]? = some y0 := by rw [hxl]; rfl
      refine ae0 (ag 8 rfl (AC.toCode ?_))
      refine AWp.condCase rfl (fun h => ?_) (fun h => ?_)
      · refine ae (ag 11 rfl (AC.nilE ?_))
        (refine hR _ _ _ (by intro h; cases h) ?_; refine bodyQ_r (ResOk.two rfl rfl rfl) ?_; clear K hR hR' IH hc; rw [lenP_eq]; simp_all; done)
      · refine ae (ag 6 rfl (AC.toCode ?_))
        refine AWp.condCase rfl (fun h => ?_) (fun h => ?_)
        · refine ae (ag 11 rfl (AC.nilE ?_))
          (refine hR _ _ _ (by intro h; cases h) ?_; refine bodyQ_r (ResOk.two rfl rfl rfl) ?_; clear K hR hR' IH hc; rw [lenP_eq]; simp_all; done)
        · refine ae (ag 5 rfl (AC.toCode ?_))
          refine AWp.condCase rfl (fun h => ?_) (fun h => ?_)
          · refine ae (ag 8 rfl (AC.nilE ?_))
            (refine hR _ _ _ (by intro h; cases h) ?_; refine bodyQ_r (ResOk.two rfl rfl rfl) ?_; clear K hR hR' IH hc; rw [lenP_eq]; simp_all; done)
          · refine ae (ag 7 rfl (AC.toCode ?_))
            refine AWp.condCase rfl (fun h => ?_) (fun h => ?_)
            · refine ae (ag 11 rfl (AC.nilE ?_))
              (refine hR _ _ _ (by intro h; cases h) ?_; refine bodyQ_r (ResOk.two rfl rfl rfl) ?_; clear K hR hR' IH hc; rw [lenP_eq]; simp_all; done)
            · refine ae (ag 5 rfl (AC.toCode ?_))
              refine AWp.condCase rfl (fun h => ?_) (fun h => ?_)
              · refine ae (ag 8 rfl (AC.nilE ?_))
                (refine hR _ _ _ (by intro h; cases h) ?_; refine bodyQ_r (ResOk.two rfl rfl rfl) ?_; clear K hR hR' IH hc; rw [lenP_eq]; simp_all; done)
              · refine ae (ag 6 rfl (AC.toCode ?_))
                refine AWp.condCase rfl (fun h => ?_) (fun h => ?_)
                · refine ae (ag 8 rfl (AC.nilE ?_))
                  (refine hR _ _ _ (by intro h; cases h) ?_; refine bodyQ_r (ResOk.two rfl rfl rfl) ?_; clear K hR hR' IH hc; rw [lenP_eq]; simp_all; done)
                · refine ae (ag 6 rfl (AC.toCode ?_))
                  refine AWp.condCase rfl (fun h => ?_) (fun h => ?_)
                  · refine ae (ag 3 rfl (AC.pln (AOp.load okL rfl (.head _) rfl rfl rfl rfl (ab (AC.sim okL (sOp_idxD rfl rfl rfl rfl rfl (Int.le_refl _) (getC hg) rfl) rfl (ag 1 rfl (AC.pln (AOp.callP rfl rfl rfl (hc) (ab (ag 8 rfl (AC.drawn okL hmix (by kernel_rfl) (ag 1 rfl (AC.toPl (Pl.quiet rfl rfl rfl (AOp.load okL rfl (.head _) rfl rfl rfl rfl (AOps.nil (Qn_n ⟨rfl, rfl⟩))) (ap (ag 1 rfl (AC.toPl (Pl.quiet rfl rfl rfl (AOp.callP rfl rfl rfl (times_tr _ _) (AOps.nil (Qn_n ⟨rfl, rfl⟩))) (ap (ag 1 rfl (AC.toPl (Pl.quiet rfl rfl rfl (AOp.load okL rfl (.head _) rfl rfl rfl rfl (AOps.nil (Qn_n ⟨rfl, rfl⟩))) (ap (ag 1 rfl (AC.toPl (Pl.quiet rfl rfl rfl (AOp.callP rfl rfl rfl (times_tr _ _) (AOps.nil (Qn_n ⟨rfl, rfl⟩))) (ap (ag 6 rfl (AC.nilE ?_)))))))))))))))))))))))))))))
                    (refine hR _ _ _ (by intro h; cases h) ?_; refine bodyQ_r (ResOk.two rfl rfl rfl) ?_; rw [lenP_6 (by simpa using h) hH]; done)
                  · refine ae (ag 2 rfl (AC.nilE ?_))
                    (refine K () ?_ 0 _ _ ⟨rfl, trivial⟩ rfl; clear K hR hR' IH hc; rw [lenP_eq]; simp_all; done)
end Go.Proofs.YtpopmiodjibljaaGreatDoor

