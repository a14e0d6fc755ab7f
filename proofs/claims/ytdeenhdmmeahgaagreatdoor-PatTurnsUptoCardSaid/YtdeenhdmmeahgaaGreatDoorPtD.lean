/- A part of the proof: a layer of abstract values over the kit's walks, an evaluator over it, and walks of functions. -/
import Derived.Test.YtdeenhdmmeahgaaGreatDoorProg
import Derived.KernelRfl
import Derived.Test.YtdeenhdmmeahgaaGreatDoorPtC
set_option linter.unusedVariables false
set_option linter.unusedSimpArgs false
namespace Go.Proofs.YtdeenhdmmeahgaaGreatDoor
open Go Go.Abs
def L : Lay := [
  (1, ⟨.func, 1, 8, [.nilf]⟩),
  (2, ⟨(.int .i64), 1, 8, [.int .i64 (0)]⟩),
  (3, ⟨(.int .i64), 1, 8, [.int .i64 (0)]⟩),
  (4, ⟨.bool, 1, 1, [.bool false]⟩),
  (5, ⟨(.int .u8), 1, 1, [.int .u8 (0)]⟩),
  (6, ⟨(.int .u8), 1, 1, [.int .u8 (0)]⟩),
  (7, ⟨(.struct [(0, 2), (1, 3), (2, 4), (3, 6)]), 4, 24, [.int .i64 (0), .int .i64 (0), .bool false, .int .u8 (0)]⟩),
  (8, ⟨(.struct [(0, 2), (1, 3), (2, 4), (3, 6)]), 4, 24, [.int .i64 (0), .int .i64 (0), .bool false, .int .u8 (0)]⟩),
  (9, ⟨.string, 1, 16, [.str []]⟩),
  (10, ⟨.string, 1, 16, [.str []]⟩),
  (11, ⟨.string, 1, 16, [.str []]⟩),
  (12, ⟨(.int .u64), 1, 8, [.int .u64 (0)]⟩),
  (13, ⟨(.struct [(0, 9), (1, 12)]), 2, 24, [.str [], .int .u64 (0)]⟩),
  (14, ⟨(.struct [(0, 9), (1, 12)]), 2, 24, [.str [], .int .u64 (0)]⟩),
  (15, ⟨(.pointer 286), 1, 8, [.nilp]⟩),
  (16, ⟨(.pointer 289), 1, 8, [.nilp]⟩),
  (17, ⟨(.pointer 296), 1, 8, [.nilp]⟩),
  (18, ⟨(.struct [(0, 17)]), 1, 8, [.nilp]⟩),
  (19, ⟨(.struct [(0, 17)]), 1, 8, [.nilp]⟩),
  (20, ⟨.iface, 1, 16, [.nili]⟩),
  (21, ⟨(.int .i32), 1, 4, [.int .i32 (0)]⟩),
  (22, ⟨(.slice 57), 1, 24, [.nils]⟩),
  (23, ⟨(.slice 25), 1, 24, [.nils]⟩),
  (24, ⟨(.struct [(0, 3), (1, 3), (2, 3), (3, 3), (4, 9), (5, 22), (6, 23)]), 7, 96, [.int .i64 (0), .int .i64 (0), .int .i64 (0), .int .i64 (0), .str [], .nils, .nils]⟩),
  (25, ⟨(.struct [(0, 3), (1, 3), (2, 3), (3, 3), (4, 9), (5, 22), (6, 23)]), 7, 96, [.int .i64 (0), .int .i64 (0), .int .i64 (0), .int .i64 (0), .str [], .nils, .nils]⟩),
  (26, ⟨.func, 1, 8, [.nilf]⟩),
  (27, ⟨.func, 1, 8, [.nilf]⟩),
  (28, ⟨(.int .i64), 1, 8, [.int .i64 (0)]⟩),
  (30, ⟨.func, 1, 8, [.nilf]⟩),
  (31, ⟨.func, 1, 8, [.nilf]⟩),
  (33, ⟨.func, 1, 8, [.nilf]⟩),
  (34, ⟨.func, 1, 8, [.nilf]⟩),
  (36, ⟨.func, 1, 8, [.nilf]⟩),
  (38, ⟨.func, 1, 8, [.nilf]⟩),
  (39, ⟨.func, 1, 8, [.nilf]⟩),
  (41, ⟨.func, 1, 8, [.nilf]⟩),
  (42, ⟨.func, 1, 8, [.nilf]⟩),
  (43, ⟨(.slice 3), 1, 24, [.nils]⟩),
  (45, ⟨.func, 1, 8, [.nilf]⟩),
  (46, ⟨.func, 1, 8, [.nilf]⟩),
  (47, ⟨.func, 1, 8, [.nilf]⟩),
  (48, ⟨(.struct [(0, 3), (1, 3), (2, 3)]), 3, 24, [.int .i64 (0), .int .i64 (0), .int .i64 (0)]⟩),
  (49, ⟨(.struct [(0, 3), (1, 3), (2, 3)]), 3, 24, [.int .i64 (0), .int .i64 (0), .int .i64 (0)]⟩),
  (50, ⟨.func, 1, 8, [.nilf]⟩),
  (52, ⟨.func, 1, 8, [.nilf]⟩),
  (54, ⟨.func, 1, 8, [.nilf]⟩),
  (55, ⟨.func, 1, 8, [.nilf]⟩),
  (56, ⟨(.struct [(0, 3), (1, 3)]), 2, 16, [.int .i64 (0), .int .i64 (0)]⟩),
  (57, ⟨(.struct [(0, 3), (1, 3)]), 2, 16, [.int .i64 (0), .int .i64 (0)]⟩),
  (58, ⟨.func, 1, 8, [.nilf]⟩),
  (59, ⟨.func, 1, 8, [.nilf]⟩),
  (60, ⟨.func, 1, 8, [.nilf]⟩),
  (62, ⟨.func, 1, 8, [.nilf]⟩),
  (63, ⟨(.struct [(0, 3), (1, 3), (2, 3)]), 3, 24, [.int .i64 (0), .int .i64 (0), .int .i64 (0)]⟩),
  (64, ⟨(.struct [(0, 3), (1, 3), (2, 3)]), 3, 24, [.int .i64 (0), .int .i64 (0), .int .i64 (0)]⟩),
  (65, ⟨.func, 1, 8, [.nilf]⟩),
  (66, ⟨.func, 1, 8, [.nilf]⟩),
  (68, ⟨.func, 1, 8, [.nilf]⟩),
  (70, ⟨.func, 1, 8, [.nilf]⟩),
  (71, ⟨.func, 1, 8, [.nilf]⟩),
  (72, ⟨(.pointer 105), 1, 8, [.nilp]⟩),
  (74, ⟨.func, 1, 8, [.nilf]⟩),
  (75, ⟨.func, 1, 8, [.nilf]⟩),
  (76, ⟨.func, 1, 8, [.nilf]⟩),
  (77, ⟨(.pointer 87), 1, 8, [.nilp]⟩),
  (78, ⟨.func, 1, 8, [.nilf]⟩),
  (79, ⟨.func, 1, 8, [.nilf]⟩),
  (80, ⟨(.struct [(0, 3)]), 1, 8, [.int .i64 (0)]⟩),
  (81, ⟨(.struct [(0, 3)]), 1, 8, [.int .i64 (0)]⟩),
  (83, ⟨.func, 1, 8, [.nilf]⟩),
  (84, ⟨(.slice 5), 1, 24, [.nils]⟩),
  (85, ⟨(.slice 9), 1, 24, [.nils]⟩),
  (86, ⟨(.struct [(0, 84), (1, 43), (2, 3), (3, 3), (4, 85), (5, 4)]), 6, 96, [.nils, .nils, .int .i64 (0), .int .i64 (0), .nils, .bool false]⟩),
  (87, ⟨(.struct [(0, 84), (1, 43), (2, 3), (3, 3), (4, 85), (5, 4)]), 6, 96, [.nils, .nils, .int .i64 (0), .int .i64 (0), .nils, .bool false]⟩),
  (88, ⟨.func, 1, 8, [.nilf]⟩),
  (89, ⟨.func, 1, 8, [.nilf]⟩),
  (90, ⟨.func, 1, 8, [.nilf]⟩),
  (91, ⟨(.map 9 4), 1, 8, [.nilm]⟩),
  (92, ⟨.func, 1, 8, [.nilf]⟩),
  (93, ⟨.func, 1, 8, [.nilf]⟩),
  (94, ⟨.func, 1, 8, [.nilf]⟩),
  (95, ⟨.func, 1, 8, [.nilf]⟩),
  (96, ⟨.func, 1, 8, [.nilf]⟩),
  (97, ⟨.func, 1, 8, [.nilf]⟩),
  (98, ⟨.func, 1, 8, [.nilf]⟩),
  (99, ⟨.func, 1, 8, [.nilf]⟩),
  (100, ⟨(.pointer 25), 1, 8, [.nilp]⟩),
  (101, ⟨.func, 1, 8, [.nilf]⟩),
  (102, ⟨(.slice 132), 1, 24, [.nils]⟩),
  (103, ⟨(.map 173 175), 1, 8, [.nilm]⟩),
  (104, ⟨(.struct [(0, 102), (1, 3), (2, 43), (3, 4), (4, 4), (5, 103)]), 6, 72, [.nils, .int .i64 (0), .nils, .bool false, .bool false, .nilm]⟩),
  (105, ⟨(.struct [(0, 102), (1, 3), (2, 43), (3, 4), (4, 4), (5, 103)]), 6, 72, [.nils, .int .i64 (0), .nils, .bool false, .bool false, .nilm]⟩),
  (106, ⟨.func, 1, 8, [.nilf]⟩),
  (107, ⟨(.slice 4), 1, 24, [.nils]⟩),
  (108, ⟨.func, 1, 8, [.nilf]⟩),
  (109, ⟨(.struct [(0, 3), (1, 3), (2, 3)]), 3, 24, [.int .i64 (0), .int .i64 (0), .int .i64 (0)]⟩),
  (110, ⟨(.struct [(0, 3), (1, 3), (2, 3)]), 3, 24, [.int .i64 (0), .int .i64 (0), .int .i64 (0)]⟩),
  (111, ⟨(.array 20 3), 20, 160, [.int .i64 (0), .int .i64 (0), .int .i64 (0), .int .i64 (0), .int .i64 (0), .int .i64 (0), .int .i64 (0), .int .i64 (0), .int .i64 (0), .int .i64 (0), .int .i64 (0), .int .i64 (0), .int .i64 (0), .int .i64 (0), .int .i64 (0), .int .i64 (0), .int .i64 (0), .int .i64 (0), .int .i64 (0), .int .i64 (0)]⟩),
  (112, ⟨(.array 20 3), 20, 160, [.int .i64 (0), .int .i64 (0), .int .i64 (0), .int .i64 (0), .int .i64 (0), .int .i64 (0), .int .i64 (0), .int .i64 (0), .int .i64 (0), .int .i64 (0), .int .i64 (0), .int .i64 (0), .int .i64 (0), .int .i64 (0), .int .i64 (0), .int .i64 (0), .int .i64 (0), .int .i64 (0), .int .i64 (0), .int .i64 (0)]⟩),
  (113, ⟨.func, 1, 8, [.nilf]⟩),
  (114, ⟨.func, 1, 8, [.nilf]⟩),
  (115, ⟨.func, 1, 8, [.nilf]⟩),
  (116, ⟨.func, 1, 8, [.nilf]⟩),
  (117, ⟨.func, 1, 8, [.nilf]⟩),
  (118, ⟨.func, 1, 8, [.nilf]⟩),
  (119, ⟨.func, 1, 8, [.nilf]⟩),
  (120, ⟨.func, 1, 8, [.nilf]⟩),
  (121, ⟨.func, 1, 8, [.nilf]⟩),
  (122, ⟨.func, 1, 8, [.nilf]⟩),
  (123, ⟨.func, 1, 8, [.nilf]⟩),
  (124, ⟨.func, 1, 8, [.nilf]⟩),
  (125, ⟨.func, 1, 8, [.nilf]⟩),
  (126, ⟨.func, 1, 8, [.nilf]⟩),
  (127, ⟨(.struct [(0, 102), (1, 4)]), 2, 32, [.nils, .bool false]⟩),
  (128, ⟨(.struct [(0, 102), (1, 4)]), 2, 32, [.nils, .bool false]⟩),
  (129, ⟨.func, 1, 8, [.nilf]⟩),
  (130, ⟨.func, 1, 8, [.nilf]⟩),
  (131, ⟨(.struct [(0, 3), (1, 3), (2, 3), (3, 3), (4, 22), (5, 4)]), 6, 64, [.int .i64 (0), .int .i64 (0), .int .i64 (0), .int .i64 (0), .nils, .bool false]⟩),
  (132, ⟨(.struct [(0, 3), (1, 3), (2, 3), (3, 3), (4, 22), (5, 4)]), 6, 64, [.int .i64 (0), .int .i64 (0), .int .i64 (0), .int .i64 (0), .nils, .bool false]⟩),
  (133, ⟨(.map 110 4), 1, 8, [.nilm]⟩),
  (134, ⟨(.struct [(0, 110), (3, 112)]), 23, 184, [.int .i64 (0), .int .i64 (0), .int .i64 (0), .int .i64 (0), .int .i64 (0), .int .i64 (0), .int .i64 (0), .int .i64 (0), .int .i64 (0), .int .i64 (0), .int .i64 (0), .int .i64 (0), .int .i64 (0), .int .i64 (0), .int .i64 (0), .int .i64 (0), .int .i64 (0), .int .i64 (0), .int .i64 (0), .int .i64 (0), .int .i64 (0), .int .i64 (0), .int .i64 (0)]⟩),
  (135, ⟨(.struct [(0, 110), (3, 112)]), 23, 184, [.int .i64 (0), .int .i64 (0), .int .i64 (0), .int .i64 (0), .int .i64 (0), .int .i64 (0), .int .i64 (0), .int .i64 (0), .int .i64 (0), .int .i64 (0), .int .i64 (0), .int .i64 (0), .int .i64 (0), .int .i64 (0), .int .i64 (0), .int .i64 (0), .int .i64 (0), .int .i64 (0), .int .i64 (0), .int .i64 (0), .int .i64 (0), .int .i64 (0), .int .i64 (0)]⟩),
  (136, ⟨(.slice 135), 1, 24, [.nils]⟩),
  (137, ⟨.func, 1, 8, [.nilf]⟩),
  (138, ⟨(.pointer 135), 1, 8, [.nilp]⟩),
  (139, ⟨.func, 1, 8, [.nilf]⟩),
  (140, ⟨.func, 1, 8, [.nilf]⟩),
  (141, ⟨.func, 1, 8, [.nilf]⟩),
  (143, ⟨.func, 1, 8, [.nilf]⟩),
  (144, ⟨.func, 1, 8, [.nilf]⟩),
  (145, ⟨.func, 1, 8, [.nilf]⟩),
  (146, ⟨(.pointer 128), 1, 8, [.nilp]⟩),
  (147, ⟨.func, 1, 8, [.nilf]⟩),
  (148, ⟨.func, 1, 8, [.nilf]⟩),
  (149, ⟨.func, 1, 8, [.nilf]⟩),
  (150, ⟨.func, 1, 8, [.nilf]⟩),
  (151, ⟨(.int .u64), 1, 8, [.int .u64 (0)]⟩),
  (152, ⟨.func, 1, 8, [.nilf]⟩),
  (154, ⟨.func, 1, 8, [.nilf]⟩),
  (155, ⟨(.map 9 9), 1, 8, [.nilm]⟩),
  (156, ⟨(.pointer 158), 1, 8, [.nilp]⟩),
  (157, ⟨(.struct [(0, 156), (1, 84)]), 2, 32, [.nilp, .nils]⟩),
  (158, ⟨(.struct [(0, 156), (1, 84)]), 2, 32, [.nilp, .nils]⟩),
  (159, ⟨.func, 1, 8, [.nilf]⟩),
  (160, ⟨.iface, 1, 16, [.nili]⟩),
  (161, ⟨.iface, 1, 16, [.nili]⟩),
  (163, ⟨.func, 1, 8, [.nilf]⟩),
  (164, ⟨.func, 1, 8, [.nilf]⟩),
  (165, ⟨.func, 1, 8, [.nilf]⟩),
  (166, ⟨.func, 1, 8, [.nilf]⟩),
  (167, ⟨.func, 1, 8, [.nilf]⟩),
  (168, ⟨.func, 1, 8, [.nilf]⟩),
  (169, ⟨.func, 1, 8, [.nilf]⟩),
  (170, ⟨.func, 1, 8, [.nilf]⟩),
  (171, ⟨.func, 1, 8, [.nilf]⟩),
  (172, ⟨.func, 1, 8, [.nilf]⟩),
  (173, ⟨(.array 2 3), 2, 16, [.int .i64 (0), .int .i64 (0)]⟩),
  (174, ⟨(.struct [(0, 4), (1, 3), (2, 112)]), 22, 176, [.bool false, .int .i64 (0), .int .i64 (0), .int .i64 (0), .int .i64 (0), .int .i64 (0), .int .i64 (0), .int .i64 (0), .int .i64 (0), .int .i64 (0), .int .i64 (0), .int .i64 (0), .int .i64 (0), .int .i64 (0), .int .i64 (0), .int .i64 (0), .int .i64 (0), .int .i64 (0), .int .i64 (0), .int .i64 (0), .int .i64 (0), .int .i64 (0)]⟩),
  (175, ⟨(.struct [(0, 4), (1, 3), (2, 112)]), 22, 176, [.bool false, .int .i64 (0), .int .i64 (0), .int .i64 (0), .int .i64 (0), .int .i64 (0), .int .i64 (0), .int .i64 (0), .int .i64 (0), .int .i64 (0), .int .i64 (0), .int .i64 (0), .int .i64 (0), .int .i64 (0), .int .i64 (0), .int .i64 (0), .int .i64 (0), .int .i64 (0), .int .i64 (0), .int .i64 (0), .int .i64 (0), .int .i64 (0)]⟩),
  (177, ⟨(.int .u32), 1, 4, [.int .u32 (0)]⟩),
  (179, ⟨.func, 1, 8, [.nilf]⟩),
  (180, ⟨(.array 24 5), 24, 24, [.int .u8 (0), .int .u8 (0), .int .u8 (0), .int .u8 (0), .int .u8 (0), .int .u8 (0), .int .u8 (0), .int .u8 (0), .int .u8 (0), .int .u8 (0), .int .u8 (0), .int .u8 (0), .int .u8 (0), .int .u8 (0), .int .u8 (0), .int .u8 (0), .int .u8 (0), .int .u8 (0), .int .u8 (0), .int .u8 (0), .int .u8 (0), .int .u8 (0), .int .u8 (0), .int .u8 (0)]⟩),
  (181, ⟨(.int .u64), 1, 8, [.int .u64 (0)]⟩),
  (182, ⟨.func, 1, 8, [.nilf]⟩),
  (183, ⟨.func, 1, 8, [.nilf]⟩),
  (185, ⟨.func, 1, 8, [.nilf]⟩),
  (186, ⟨.func, 1, 8, [.nilf]⟩),
  (187, ⟨(.pointer 5), 1, 8, [.nilp]⟩),
  (189, ⟨.func, 1, 8, [.nilf]⟩),
  (190, ⟨(.array 7 9), 7, 112, [.str [], .str [], .str [], .str [], .str [], .str [], .str []]⟩),
  (191, ⟨.func, 1, 8, [.nilf]⟩),
  (192, ⟨.func, 1, 8, [.nilf]⟩),
  (193, ⟨.func, 1, 8, [.nilf]⟩),
  (194, ⟨.func, 1, 8, [.nilf]⟩),
  (195, ⟨.func, 1, 8, [.nilf]⟩),
  (196, ⟨.func, 1, 8, [.nilf]⟩),
  (198, ⟨.func, 1, 8, [.nilf]⟩),
  (199, ⟨.func, 1, 8, [.nilf]⟩),
  (200, ⟨.func, 1, 8, [.nilf]⟩),
  (201, ⟨.func, 1, 8, [.nilf]⟩),
  (202, ⟨.func, 1, 8, [.nilf]⟩),
  (203, ⟨(.array 20 181), 20, 160, [.int .u64 (0), .int .u64 (0), .int .u64 (0), .int .u64 (0), .int .u64 (0), .int .u64 (0), .int .u64 (0), .int .u64 (0), .int .u64 (0), .int .u64 (0), .int .u64 (0), .int .u64 (0), .int .u64 (0), .int .u64 (0), .int .u64 (0), .int .u64 (0), .int .u64 (0), .int .u64 (0), .int .u64 (0), .int .u64 (0)]⟩),
  (204, ⟨(.array 65 5), 65, 65, [.int .u8 (0), .int .u8 (0), .int .u8 (0), .int .u8 (0), .int .u8 (0), .int .u8 (0), .int .u8 (0), .int .u8 (0), .int .u8 (0), .int .u8 (0), .int .u8 (0), .int .u8 (0), .int .u8 (0), .int .u8 (0), .int .u8 (0), .int .u8 (0), .int .u8 (0), .int .u8 (0), .int .u8 (0), .int .u8 (0), .int .u8 (0), .int .u8 (0), .int .u8 (0), .int .u8 (0), .int .u8 (0), .int .u8 (0), .int .u8 (0), .int .u8 (0), .int .u8 (0), .int .u8 (0), .int .u8 (0), .int .u8 (0), .int .u8 (0), .int .u8 (0), .int .u8 (0), .int .u8 (0), .int .u8 (0), .int .u8 (0), .int .u8 (0), .int .u8 (0), .int .u8 (0), .int .u8 (0), .int .u8 (0), .int .u8 (0), .int .u8 (0), .int .u8 (0), .int .u8 (0), .int .u8 (0), .int .u8 (0), .int .u8 (0), .int .u8 (0), .int .u8 (0), .int .u8 (0), .int .u8 (0), .int .u8 (0), .int .u8 (0), .int .u8 (0), .int .u8 (0), .int .u8 (0), .int .u8 (0), .int .u8 (0), .int .u8 (0), .int .u8 (0), .int .u8 (0), .int .u8 (0)]⟩),
  (205, ⟨.func, 1, 8, [.nilf]⟩),
  (206, ⟨.func, 1, 8, [.nilf]⟩),
  (207, ⟨(.array 9 173), 18, 144, [.int .i64 (0), .int .i64 (0), .int .i64 (0), .int .i64 (0), .int .i64 (0), .int .i64 (0), .int .i64 (0), .int .i64 (0), .int .i64 (0), .int .i64 (0), .int .i64 (0), .int .i64 (0), .int .i64 (0), .int .i64 (0), .int .i64 (0), .int .i64 (0), .int .i64 (0), .int .i64 (0)]⟩),
  (208, ⟨(.array 9 173), 18, 144, [.int .i64 (0), .int .i64 (0), .int .i64 (0), .int .i64 (0), .int .i64 (0), .int .i64 (0), .int .i64 (0), .int .i64 (0), .int .i64 (0), .int .i64 (0), .int .i64 (0), .int .i64 (0), .int .i64 (0), .int .i64 (0), .int .i64 (0), .int .i64 (0), .int .i64 (0), .int .i64 (0)]⟩),
  (209, ⟨(.map 9 208), 1, 8, [.nilm]⟩),
  (210, ⟨.func, 1, 8, [.nilf]⟩),
  (211, ⟨.func, 1, 8, [.nilf]⟩),
  (212, ⟨.func, 1, 8, [.nilf]⟩),
  (214, ⟨.func, 1, 8, [.nilf]⟩),
  (215, ⟨.func, 1, 8, [.nilf]⟩),
  (217, ⟨.func, 1, 8, [.nilf]⟩),
  (218, ⟨(.int .u64), 1, 8, [.int .u64 (0)]⟩),
  (219, ⟨(.struct [(0, 17), (1, 213), (2, 218)]), 3, 24, [.nilp, .nilp, .int .u64 (0)]⟩),
  (220, ⟨(.struct [(0, 17), (1, 213), (2, 218)]), 3, 24, [.nilp, .nilp, .int .u64 (0)]⟩),
  (221, ⟨.func, 1, 8, [.nilf]⟩),
  (222, ⟨.func, 1, 8, [.nilf]⟩),
  (223, ⟨.func, 1, 8, [.nilf]⟩),
  (224, ⟨.func, 1, 8, [.nilf]⟩),
  (225, ⟨(.struct [(0, 192), (1, 222)]), 2, 16, [.nilf, .nilf]⟩),
  (226, ⟨(.struct [(0, 192), (1, 222)]), 2, 16, [.nilf, .nilf]⟩),
  (227, ⟨.func, 1, 8, [.nilf]⟩),
  (228, ⟨(.map 5 9), 1, 8, [.nilm]⟩),
  (229, ⟨.func, 1, 8, [.nilf]⟩),
  (230, ⟨.func, 1, 8, [.nilf]⟩),
  (231, ⟨(.struct [(0, 17)]), 1, 8, [.nilp]⟩),
  (232, ⟨(.struct [(0, 17)]), 1, 8, [.nilp]⟩),
  (233, ⟨(.pointer 298), 1, 8, [.nilp]⟩),
  (234, ⟨.func, 1, 8, [.nilf]⟩),
  (235, ⟨(.int .i64), 1, 8, [.int .i64 (0)]⟩),
  (237, ⟨.func, 1, 8, [.nilf]⟩),
  (238, ⟨.func, 1, 8, [.nilf]⟩),
  (239, ⟨.func, 1, 8, [.nilf]⟩),
  (240, ⟨.func, 1, 8, [.nilf]⟩),
  (241, ⟨.func, 1, 8, [.nilf]⟩),
  (242, ⟨(.array 32 5), 32, 32, [.int .u8 (0), .int .u8 (0), .int .u8 (0), .int .u8 (0), .int .u8 (0), .int .u8 (0), .int .u8 (0), .int .u8 (0), .int .u8 (0), .int .u8 (0), .int .u8 (0), .int .u8 (0), .int .u8 (0), .int .u8 (0), .int .u8 (0), .int .u8 (0), .int .u8 (0), .int .u8 (0), .int .u8 (0), .int .u8 (0), .int .u8 (0), .int .u8 (0), .int .u8 (0), .int .u8 (0), .int .u8 (0), .int .u8 (0), .int .u8 (0), .int .u8 (0), .int .u8 (0), .int .u8 (0), .int .u8 (0), .int .u8 (0)]⟩),
  (243, ⟨(.array 64 5), 64, 64, [.int .u8 (0), .int .u8 (0), .int .u8 (0), .int .u8 (0), .int .u8 (0), .int .u8 (0), .int .u8 (0), .int .u8 (0), .int .u8 (0), .int .u8 (0), .int .u8 (0), .int .u8 (0), .int .u8 (0), .int .u8 (0), .int .u8 (0), .int .u8 (0), .int .u8 (0), .int .u8 (0), .int .u8 (0), .int .u8 (0), .int .u8 (0), .int .u8 (0), .int .u8 (0), .int .u8 (0), .int .u8 (0), .int .u8 (0), .int .u8 (0), .int .u8 (0), .int .u8 (0), .int .u8 (0), .int .u8 (0), .int .u8 (0), .int .u8 (0), .int .u8 (0), .int .u8 (0), .int .u8 (0), .int .u8 (0), .int .u8 (0), .int .u8 (0), .int .u8 (0), .int .u8 (0), .int .u8 (0), .int .u8 (0), .int .u8 (0), .int .u8 (0), .int .u8 (0), .int .u8 (0), .int .u8 (0), .int .u8 (0), .int .u8 (0), .int .u8 (0), .int .u8 (0), .int .u8 (0), .int .u8 (0), .int .u8 (0), .int .u8 (0), .int .u8 (0), .int .u8 (0), .int .u8 (0), .int .u8 (0), .int .u8 (0), .int .u8 (0), .int .u8 (0), .int .u8 (0)]⟩),
  (244, ⟨.func, 1, 8, [.nilf]⟩),
  (245, ⟨(.int .i64), 1, 8, [.int .i64 (0)]⟩),
  (247, ⟨.func, 1, 8, [.nilf]⟩),
  (248, ⟨.func, 1, 8, [.nilf]⟩),
  (249, ⟨.func, 1, 8, [.nilf]⟩),
  (250, ⟨.func, 1, 8, [.nilf]⟩),
  (251, ⟨(.array 256 5), 256, 256, [.int .u8 (0), .int .u8 (0), .int .u8 (0), .int .u8 (0), .int .u8 (0), .int .u8 (0), .int .u8 (0), .int .u8 (0), .int .u8 (0), .int .u8 (0), .int .u8 (0), .int .u8 (0), .int .u8 (0), .int .u8 (0), .int .u8 (0), .int .u8 (0), .int .u8 (0), .int .u8 (0), .int .u8 (0), .int .u8 (0), .int .u8 (0), .int .u8 (0), .int .u8 (0), .int .u8 (0), .int .u8 (0), .int .u8 (0), .int .u8 (0), .int .u8 (0), .int .u8 (0), .int .u8 (0), .int .u8 (0), .int .u8 (0), .int .u8 (0), .int .u8 (0), .int .u8 (0), .int .u8 (0), .int .u8 (0), .int .u8 (0), .int .u8 (0), .int .u8 (0), .int .u8 (0), .int .u8 (0), .int .u8 (0), .int .u8 (0), .int .u8 (0), .int .u8 (0), .int .u8 (0), .int .u8 (0), .int .u8 (0), .int .u8 (0), .int .u8 (0), .int .u8 (0), .int .u8 (0), .int .u8 (0), .int .u8 (0), .int .u8 (0), .int .u8 (0), .int .u8 (0), .int .u8 (0), .int .u8 (0), .int .u8 (0), .int .u8 (0), .int .u8 (0), .int .u8 (0), .int .u8 (0), .int .u8 (0), .int .u8 (0), .int .u8 (0), .int .u8 (0), .int .u8 (0), .int .u8 (0), .int .u8 (0), .int .u8 (0), .int .u8 (0), .int .u8 (0), .int .u8 (0), .int .u8 (0), .int .u8 (0), .int .u8 (0), .int .u8 (0), .int .u8 (0), .int .u8 (0), .int .u8 (0), .int .u8 (0), .int .u8 (0), .int .u8 (0), .int .u8 (0), .int .u8 (0), .int .u8 (0), .int .u8 (0), .int .u8 (0), .int .u8 (0), .int .u8 (0), .int .u8 (0), .int .u8 (0), .int .u8 (0), .int .u8 (0), .int .u8 (0), .int .u8 (0), .int .u8 (0), .int .u8 (0), .int .u8 (0), .int .u8 (0), .int .u8 (0), .int .u8 (0), .int .u8 (0), .int .u8 (0), .int .u8 (0), .int .u8 (0), .int .u8 (0), .int .u8 (0), .int .u8 (0), .int .u8 (0), .int .u8 (0), .int .u8 (0), .int .u8 (0), .int .u8 (0), .int .u8 (0), .int .u8 (0), .int .u8 (0), .int .u8 (0), .int .u8 (0), .int .u8 (0), .int .u8 (0), .int .u8 (0), .int .u8 (0), .int .u8 (0), .int .u8 (0), .int .u8 (0), .int .u8 (0), .int .u8 (0), .int .u8 (0), .int .u8 (0), .int .u8 (0), .int .u8 (0), .int .u8 (0), .int .u8 (0), .int .u8 (0), .int .u8 (0), .int .u8 (0), .int .u8 (0), .int .u8 (0), .int .u8 (0), .int .u8 (0), .int .u8 (0), .int .u8 (0), .int .u8 (0), .int .u8 (0), .int .u8 (0), .int .u8 (0), .int .u8 (0), .int .u8 (0), .int .u8 (0), .int .u8 (0), .int .u8 (0), .int .u8 (0), .int .u8 (0), .int .u8 (0), .int .u8 (0), .int .u8 (0), .int .u8 (0), .int .u8 (0), .int .u8 (0), .int .u8 (0), .int .u8 (0), .int .u8 (0), .int .u8 (0), .int .u8 (0), .int .u8 (0), .int .u8 (0), .int .u8 (0), .int .u8 (0), .int .u8 (0), .int .u8 (0), .int .u8 (0), .int .u8 (0), .int .u8 (0), .int .u8 (0), .int .u8 (0), .int .u8 (0), .int .u8 (0), .int .u8 (0), .int .u8 (0), .int .u8 (0), .int .u8 (0), .int .u8 (0), .int .u8 (0), .int .u8 (0), .int .u8 (0), .int .u8 (0), .int .u8 (0), .int .u8 (0), .int .u8 (0), .int .u8 (0), .int .u8 (0), .int .u8 (0), .int .u8 (0), .int .u8 (0), .int .u8 (0), .int .u8 (0), .int .u8 (0), .int .u8 (0), .int .u8 (0), .int .u8 (0), .int .u8 (0), .int .u8 (0), .int .u8 (0), .int .u8 (0), .int .u8 (0), .int .u8 (0), .int .u8 (0), .int .u8 (0), .int .u8 (0), .int .u8 (0), .int .u8 (0), .int .u8 (0), .int .u8 (0), .int .u8 (0), .int .u8 (0), .int .u8 (0), .int .u8 (0), .int .u8 (0), .int .u8 (0), .int .u8 (0), .int .u8 (0), .int .u8 (0), .int .u8 (0), .int .u8 (0), .int .u8 (0), .int .u8 (0), .int .u8 (0), .int .u8 (0), .int .u8 (0), .int .u8 (0), .int .u8 (0), .int .u8 (0), .int .u8 (0), .int .u8 (0), .int .u8 (0), .int .u8 (0), .int .u8 (0), .int .u8 (0), .int .u8 (0), .int .u8 (0), .int .u8 (0), .int .u8 (0), .int .u8 (0), .int .u8 (0), .int .u8 (0), .int .u8 (0), .int .u8 (0), .int .u8 (0), .int .u8 (0), .int .u8 (0), .int .u8 (0), .int .u8 (0)]⟩),
  (252, ⟨(.struct [(0, 5), (1, 5)]), 2, 2, [.int .u8 (0), .int .u8 (0)]⟩),
  (253, ⟨(.struct [(0, 5), (1, 5)]), 2, 2, [.int .u8 (0), .int .u8 (0)]⟩),
  (254, ⟨(.array 16 253), 32, 32, [.int .u8 (0), .int .u8 (0), .int .u8 (0), .int .u8 (0), .int .u8 (0), .int .u8 (0), .int .u8 (0), .int .u8 (0), .int .u8 (0), .int .u8 (0), .int .u8 (0), .int .u8 (0), .int .u8 (0), .int .u8 (0), .int .u8 (0), .int .u8 (0), .int .u8 (0), .int .u8 (0), .int .u8 (0), .int .u8 (0), .int .u8 (0), .int .u8 (0), .int .u8 (0), .int .u8 (0), .int .u8 (0), .int .u8 (0), .int .u8 (0), .int .u8 (0), .int .u8 (0), .int .u8 (0), .int .u8 (0), .int .u8 (0)]⟩),
  (255, ⟨(.int .u64), 1, 8, [.int .u64 (0)]⟩),
  (256, ⟨.func, 1, 8, [.nilf]⟩),
  (257, ⟨.func, 1, 8, [.nilf]⟩),
  (258, ⟨.func, 1, 8, [.nilf]⟩),
  (259, ⟨(.pointer 3), 1, 8, [.nilp]⟩),
  (260, ⟨.func, 1, 8, [.nilf]⟩),
  (261, ⟨.func, 1, 8, [.nilf]⟩),
  (262, ⟨.func, 1, 8, [.nilf]⟩),
  (263, ⟨.func, 1, 8, [.nilf]⟩),
  (264, ⟨(.int .u64), 1, 8, [.int .u64 (0)]⟩),
  (265, ⟨.func, 1, 8, [.nilf]⟩),
  (266, ⟨.func, 1, 8, [.nilf]⟩),
  (267, ⟨(.pointer 255), 1, 8, [.nilp]⟩),
  (268, ⟨.func, 1, 8, [.nilf]⟩),
  (269, ⟨.func, 1, 8, [.nilf]⟩),
  (270, ⟨.func, 1, 8, [.nilf]⟩),
  (271, ⟨.func, 1, 8, [.nilf]⟩),
  (272, ⟨(.pointer 264), 1, 8, [.nilp]⟩),
  (273, ⟨.func, 1, 8, [.nilf]⟩),
  (274, ⟨.func, 1, 8, [.nilf]⟩),
  (276, ⟨.func, 1, 8, [.nilf]⟩),
  (277, ⟨(.slice 284), 1, 24, [.nils]⟩),
  (278, ⟨(.pointer 284), 1, 8, [.nilp]⟩),
  (279, ⟨.func, 1, 8, [.nilf]⟩),
  (280, ⟨.func, 1, 8, [.nilf]⟩),
  (281, ⟨(.array 3 21), 3, 12, [.int .i32 (0), .int .i32 (0), .int .i32 (0)]⟩),
  (282, ⟨(.array 3 21), 3, 12, [.int .i32 (0), .int .i32 (0), .int .i32 (0)]⟩),
  (283, ⟨(.struct [(0, 177), (1, 177), (2, 282)]), 5, 20, [.int .u32 (0), .int .u32 (0), .int .i32 (0), .int .i32 (0), .int .i32 (0)]⟩),
  (284, ⟨(.struct [(0, 177), (1, 177), (2, 282)]), 5, 20, [.int .u32 (0), .int .u32 (0), .int .i32 (0), .int .i32 (0), .int .i32 (0)]⟩),
  (285, ⟨(.struct [(0, 17), (1, 17), (2, 17), (3, 9)]), 4, 40, [.nilp, .nilp, .nilp, .str []]⟩),
  (286, ⟨(.struct [(0, 17), (1, 17), (2, 17), (3, 9)]), 4, 40, [.nilp, .nilp, .nilp, .str []]⟩),
  (287, ⟨(.array 0 16), 0, 0, []⟩),
  (288, ⟨(.struct [(0, 287)]), 0, 0, []⟩),
  (289, ⟨(.struct [(0, 287)]), 0, 0, []⟩),
  (290, ⟨(.int .u8), 1, 1, [.int .u8 (0)]⟩),
  (291, ⟨(.int .u8), 1, 1, [.int .u8 (0)]⟩),
  (292, ⟨.func, 1, 8, [.nilf]⟩),
  (293, ⟨(.int .i32), 1, 4, [.int .i32 (0)]⟩),
  (294, ⟨(.int .i32), 1, 4, [.int .i32 (0)]⟩),
  (295, ⟨(.struct [(0, 12), (1, 12), (2, 177), (3, 290), (4, 5), (5, 5), (6, 291), (7, 292), (8, 187), (9, 293), (10, 294)]), 11, 48, [.int .u64 (0), .int .u64 (0), .int .u32 (0), .int .u8 (0), .int .u8 (0), .int .u8 (0), .int .u8 (0), .nilf, .nilp, .int .i32 (0), .int .i32 (0)]⟩),
  (296, ⟨(.struct [(0, 12), (1, 12), (2, 177), (3, 290), (4, 5), (5, 5), (6, 291), (7, 292), (8, 187), (9, 293), (10, 294)]), 11, 48, [.int .u64 (0), .int .u64 (0), .int .u32 (0), .int .u8 (0), .int .u8 (0), .int .u8 (0), .int .u8 (0), .nilf, .nilp, .int .i32 (0), .int .i32 (0)]⟩),
  (297, ⟨(.struct [(0, 9), (1, 291)]), 2, 24, [.str [], .int .u8 (0)]⟩),
  (298, ⟨(.struct [(0, 9), (1, 291)]), 2, 24, [.str [], .int .u8 (0)]⟩)]
theorem okL : LayOk Tryz.prog L := LayOk.of_check (by kernel_rfl)
theorem hmix : Tryz.prog.follows .mixedOrders = true := by kernel_rfl
end Go.Proofs.YtdeenhdmmeahgaaGreatDoor

namespace Go.Abs
open Go
abbrev i64 (n : Int) : A := .int .i64 n
inductive Pat where
  | mk (op n min max : Int) (name : List UInt8) (set : List (Int × Int)) (l : List Pat)
  deriving Inhabited
namespace Pat
def op : Pat → Int | .mk a _ _ _ _ _ _ => a
def n : Pat → Int | .mk _ a _ _ _ _ _ => a
def min : Pat → Int | .mk _ _ a _ _ _ _ => a
def max : Pat → Int | .mk _ _ _ a _ _ _ => a
def name : Pat → List UInt8 | .mk _ _ _ _ a _ _ => a
def set : Pat → List (Int × Int) | .mk _ _ _ _ _ a _ => a
def l : Pat → List Pat | .mk _ _ _ _ _ _ a => a
end Pat
def spanC (s : Int × Int) : List A := [i64 s.1, i64 s.2]
mutual
def Pat.cells : Pat → List A
  | .mk op n mn mx nm st l => [i64 op, i64 n, i64 mn, i64 mx, .str nm, .ds (st.map spanC), .ds (Pat.cellsL l)]
def Pat.cellsL : List Pat → List (List A)
  | [] => []
  | x :: l => x.cells :: Pat.cellsL l
end
theorem Pat.cellsL_eq (l : List Pat) : Pat.cellsL l = l.map Pat.cells := by
  induction l with
  | nil => rfl
  | cons x l ih => simp [Pat.cellsL, ih]
/-- A pattern's cells, laid open. -/
def Pat.C (x : Pat) : List A := [i64 x.op, i64 x.n, i64 x.min, i64 x.max, .str x.name, .ds (x.set.map spanC), .ds (x.l.map Pat.cells)]
theorem Pat.cells_eq (x : Pat) : x.cells = x.C := by
  cases x; simp [Pat.cells, Pat.C, Pat.cellsL_eq, Pat.op, Pat.n, Pat.min, Pat.max, Pat.name, Pat.set, Pat.l]
theorem Pat.ind {M : Pat → Prop} (h : ∀ x : Pat, (∀ y ∈ x.l, M y) → M x) (x : Pat) : M x :=
  Pat.rec (motive_1 := M) (motive_2 := fun l => ∀ y ∈ l, M y) (fun op n mn mx nm st l ih => h (.mk op n mn mx nm st l) ih) (fun y hy => by cases hy) (fun a l ha hl y hy => by
    rcases List.mem_cons.1 hy with rfl | hy
    · exact ha
    · exact hl y hy) x
theorem getC {l : List Pat} {k : Nat} {y : Pat} (h : l[k]? = some y) : (l.map Pat.cells)[((k : Nat) : Int).toNat]? = some y.C := by simp [h, Pat.cells_eq]
theorem getS {l : List (Int × Int)} {k : Nat} {y : Int × Int} (h : l[k]? = some y) : (l.map spanC)[((k : Nat) : Int).toNat]? = some (spanC y) := by simp [h]
theorem drop_get {α : Type} {l : List α} {k : Nat} {y : α} (h : l[k]? = some y) : l.drop k = y :: l.drop (k + 1) := by
  obtain ⟨hk, rfl⟩ := List.getElem?_eq_some_iff.1 h
  exact List.drop_eq_getElem_cons hk
end Go.Abs

namespace Go.Proofs.YtdeenhdmmeahgaaGreatDoor
open Go Go.Abs
set_option linter.unusedVariables false

mutual
def countP : Pat → Int → Int
  | .mk _ _ _ _ nm st l, deep => if deep > 100 then 1048576 else countL l deep (IntKind.i64.wrap (IntKind.i64.wrap (1 + st.length) + nm.length))
def countL : List Pat → Int → Int → Int
  | [], _, n => n
  | y :: l, deep, n => if n < 1048576 then countL l deep (IntKind.i64.wrap (n + countP y (IntKind.i64.wrap (deep + 1)))) else n
end
theorem countP_eq (x : Pat) (deep : Int) : countP x deep = if deep > 100 then 1048576 else countL x.l deep (IntKind.i64.wrap (IntKind.i64.wrap (1 + x.set.length) + x.name.length)) := by
  cases x; simp [countP, Pat.l, Pat.set, Pat.name]

set_option maxRecDepth 100000 in
theorem count_tr (x : Pat) : ∀ (deep : Int), PTr Tryz.prog 28 [.agg x.C, i64 deep] (i64 (countP x deep)) := by
  induction x using Pat.ind with | h x IH => _
  intro deep
  refine PTr.of_body (N := 39) Tryz.func28 rfl rfl rfl ?_
  refine AWp.know (t := 0) rfl (Known.agg (x := .ds (x.l.map Pat.cells)) (by simp [Pat.C]) (Known.ds _)) fun hlen => ?_
  rw [List.length_map] at hlen
  refine AWp.seq ?_
  refine AWp.region ?_
  refine AOps.pln ?_; refine AOp.box rfl rfl (isVal_or rfl) rfl rfl ?_; intro _ _
  refine AOps.sim okL rfl rfl ?_
  refine AOps.nil ?_
  refine AWp.seq ?_
  refine AWp.region ?_
  refine AOps.sim okL rfl rfl ?_
  refine AOps.pln ?_; refine AOp.load okL rfl (.head _) rfl rfl rfl rfl ?_
  refine AOps.sim okL rfl rfl ?_
  refine AOps.sim okL rfl rfl ?_
  refine AOps.sim okL rfl rfl ?_
  refine AOps.pln ?_; refine AOp.load okL rfl (.head _) rfl rfl rfl rfl ?_
  refine AOps.sim okL rfl rfl ?_
  refine AOps.sim okL rfl rfl ?_
  refine AOps.sim okL rfl rfl ?_
  refine AOps.nil ?_
  refine AWp.seq ?_
  refine AWp.seq ?_
  refine AWp.region ?_
  refine AOps.sim okL rfl rfl ?_
  refine AOps.sim okL rfl rfl ?_
  refine AOps.nil ?_
  refine seqQ_n ?_
  rename_i r _
  refine AWp.cond rfl (fun hd => ?_) (fun hd => ?_)
  · refine AWp.seq ?_
    refine AWp.region ?_
    refine AOps.sim okL rfl rfl ?_
    refine AOps.nil ?_
    refine AWp.ret ?_
    refine seqQ_r ?_
    refine bodyQ_r (ResOk.one rfl rfl) ?_
    rw [countP_eq, if_pos (of_decide_eq_true hd)]
  refine AWp.skip ?_
  refine AWp.seq ?_
  refine AWp.seq ?_
  refine AWp.region ?_
  refine AOps.sim okL rfl rfl ?_
  refine AOps.nil ?_
  refine AWp.block ?_
  have hd := of_decide_eq_false hd
  refine AWp.loopM (α := Nat × Int) (fun a => x.l.length - a.1) (fun a => [(1, i64 deep), (2, .ptr r 7 0 0), (4, i64 0), (5, i64 a.2), (6, i64 a.1)]) (fun _ => _)
    (fun a => a.1 ≤ x.l.length ∧ countL (x.l.drop a.1) deep a.2 = countP x deep) (0, IntKind.i64.wrap (IntKind.i64.wrap (1 + x.set.length) + x.name.length)) ?_ ?_ (List.Perm.refl _) ?_
  · refine ⟨Nat.zero_le _, ?_⟩
    rw [countP_eq, if_neg hd]; rfl
  · simp only [AllIn]
    refine ⟨rfl, rfl, rfl, ?_, rfl, trivial⟩
    simp [Abs.get, put]
  rintro ⟨k, m⟩ ⟨hk, hm⟩ ih
  simp only at hk hm
  refine AWp.seq ?_
  refine AWp.seq ?_
  refine AWp.region ?_
  refine AOps.sim okL rfl rfl ?_
  refine AOps.sim okL rfl rfl ?_
  refine AOps.pln ?_; refine AOp.load okL rfl (.head _) rfl rfl rfl rfl ?_
  refine AOps.sim okL rfl rfl ?_
  refine AOps.sim okL rfl rfl ?_
  refine AOps.sim okL rfl rfl ?_
  (first | refine AOps.guardCase rfl rfl rfl (fun h => ?_) (fun h => ?_) | refine Pl.guardCase rfl rfl (fun h => ?_) (fun h => ?_))
  · have h := of_decide_eq_true h
    simp only [List.length_map] at h
    obtain ⟨y, hy⟩ : ∃ y, x.l[k]? = some y := ⟨x.l[k], by simp [show k < x.l.length by omega]⟩
    rw [drop_get hy, countL] at hm
    refine AOps.simW okL rfl rfl rfl rfl ?_
    refine AOps.simW okL rfl rfl rfl rfl ?_
    refine AOps.sim okL rfl rfl ?_
    refine AOps.nil ?_
    refine seqQ_n ?_
    first | refine AWp.condCase rfl (fun h2 => ?_) (fun h2 => ?_) | refine AWp.cond rfl (fun h2 => ?_) (fun h2 => ?_)
    · have h2 := of_decide_eq_true h2
      simp only at h2
      rw [if_pos h2] at hm
      refine AWp.skip ?_
      refine AWp.seq ?_
      refine AWp.block ?_
      refine AWp.region ?_
      refine AOps.sim okL rfl rfl ?_
      refine AOps.sim okL rfl rfl ?_
      refine AOps.pln ?_; refine AOp.load okL rfl (.head _) rfl rfl rfl rfl ?_
      refine AOps.sim okL rfl rfl ?_
      (first | refine AOps.simple okL rfl (sOp_idxD rfl rfl rfl rfl rfl ((by omega)) (getC hy) rfl) rfl ?_ | refine AOps.simpleW okL rfl rfl rfl (sOp_idxD rfl rfl rfl rfl rfl ((by omega)) (getC hy) rfl) rfl ?_ | refine Pl.pure rfl (sOp_idxD rfl rfl rfl rfl rfl ((by omega)) (getC hy) rfl) ?_ | refine Pl.pureW rfl rfl (sOp_idxD rfl rfl rfl rfl rfl ((by omega)) (getC hy) rfl) ?_)
      refine AOps.sim okL rfl rfl ?_
      refine AOps.sim okL rfl rfl ?_
      refine AOps.sim okL rfl rfl ?_
      refine AOps.pln ?_; focus (refine AOp.callP (v := ?_) rfl rfl rfl ?_ ?_; rotate_left; exact (IH y (List.mem_of_getElem? hy) _))
      refine AOps.sim okL rfl rfl ?_
      refine AOps.sim okL rfl rfl ?_
      refine AOps.nil ?_
      refine AWp.region ?_
      refine AOps.sim okL rfl rfl ?_
      refine AOps.sim okL rfl rfl ?_
      refine AOps.sim okL rfl rfl ?_
      refine AOps.nil ?_
      refine seqQ_n ?_
      refine AIn.next (ih (k + 1, _) ⟨by omega, hm⟩ (by simp only; omega)) ?_ (List.Perm.refl _)
      simp only [AllIn]
      refine ⟨rfl, rfl, rfl, rfl, ?_, trivial⟩
      exact congrArg some (nxt (by omega) hlen)
    have h2 := of_decide_eq_false h2
    simp only at h2
    rw [if_neg h2] at hm
    refine AWp.exit ?_
    refine AWp.seq ?_
    refine AWp.region ?_
    refine AOps.sim okL rfl rfl ?_
    refine AOps.sim okL rfl rfl ?_
    refine AOps.nil ?_
    refine AWp.ret ?_
    refine bodyQ_r (ResOk.one rfl rfl) ?_
    rw [← hm]
  have h := of_decide_eq_false h
  simp only [List.length_map] at h
  refine AOps.unw rfl rfl rfl rfl ?_
  refine AOps.unw rfl rfl rfl rfl ?_
  refine AOps.sim okL rfl rfl ?_
  refine AOps.nil ?_
  refine AWp.condF rfl ?_
  refine AWp.exit ?_
  refine AWp.seq ?_
  refine AWp.region ?_
  refine AOps.sim okL rfl rfl ?_
  refine AOps.sim okL rfl rfl ?_
  refine AOps.nil ?_
  refine AWp.ret ?_
  refine bodyQ_r (ResOk.one rfl rfl) ?_
  rw [← hm, List.drop_eq_nil_of_le (by omega)]; rfl
end Go.Proofs.YtdeenhdmmeahgaaGreatDoor

namespace Go.Proofs.YtdeenhdmmeahgaaGreatDoor
open Go Go.Abs
set_option linter.unusedVariables false

def w64 (n : Int) : Int := IntKind.i64.wrap n
def mxI (a b : Int) : Int := if b > a then b else a
mutual
/-- Nodes, groups and depth of a pattern. -/
def szP : Pat → Int × Int × Int
  | .mk op _ _ _ _ _ l => let a := szL l (1, if op = 7 then 1 else 0, 0); (a.1, a.2.1, w64 (a.2.2 + 1))
def szL : List Pat → Int × Int × Int → Int × Int × Int
  | [], a => a
  | y :: l, a => szL l (w64 (a.1 + (szP y).1), w64 (a.2.1 + (szP y).2.1), mxI a.2.2 (szP y).2.2)
end
theorem szP_eq (x : Pat) : szP x = ((szL x.l (1, if x.op = 7 then 1 else 0, 0)).1, (szL x.l (1, if x.op = 7 then 1 else 0, 0)).2.1, w64 ((szL x.l (1, if x.op = 7 then 1 else 0, 0)).2.2 + 1)) := by
  cases x; rw [szP]; rfl
/-- Their first two parts do not hang on the groups. -/
theorem Over_tr (x : Pat) : PTr Tryz.prog 8 [.agg x.C] (.bool (decide (countP x 0 > 1200))) := by
  refine PTr.of_body (N := 6) Tryz.func8 rfl rfl rfl ?_
  refine AWp.seq ?_
  refine AWp.region ?_
  refine AOps.pln ?_; refine AOp.box rfl rfl (isVal_or rfl) rfl rfl ?_; intro _ _
  refine AOps.sim okL rfl rfl ?_
  refine AOps.nil ?_
  refine AWp.seq ?_
  refine AWp.region ?_
  refine AOps.pln ?_; refine AOp.load okL rfl (.head _) rfl rfl rfl rfl ?_
  refine AOps.pln ?_; focus (refine AOp.callP (v := ?_) rfl rfl rfl ?_ ?_; rotate_left; exact (count_tr x 0))
  refine AOps.sim okL rfl rfl ?_
  refine AOps.sim okL rfl rfl ?_
  refine AOps.nil ?_
  refine AWp.ret ?_
  refine bodyQ_r (by first | exact ResOk.one rfl rfl | exact ResOk.two rfl rfl rfl | exact ResOk.three rfl rfl rfl rfl | exact ResOk.none rfl) ?_
  rfl

set_option maxRecDepth 100000 in
theorem ref12Size_tr (x : Pat) : PTr Tryz.prog 34 [.agg x.C] (.agg [i64 (szP x).1, i64 (szP x).2.2, i64 (szP x).2.1]) := by
  induction x using Pat.ind with | h x IH => _
  refine PTr.of_body (N := 47) Tryz.func34 rfl rfl rfl ?_
  refine AWp.know (t := 0) rfl (Known.agg (x := .ds (x.l.map Pat.cells)) (by simp [Pat.C]) (Known.ds _)) fun hlen => ?_
  rw [List.length_map] at hlen
  refine AWp.seq ?_
  refine AWp.region ?_
  refine AOps.pln ?_; refine AOp.box rfl rfl (isVal_or rfl) rfl rfl ?_; intro _ _
  refine AOps.pln ?_; refine AOp.alloc okL rfl rfl rfl ?_; intro _ _
  refine AOps.nil ?_
  refine AWp.seq ?_
  refine AWp.region ?_
  refine AOps.sim okL rfl rfl ?_
  refine AOps.pln ?_; refine AOp.alloc okL rfl rfl rfl ?_; intro _ _
  refine AOps.pln ?_; refine AOp.store okL rfl rfl rfl (isVal_or rfl) rfl rfl rfl .here rfl rfl rfl ?_
  refine AOps.nil ?_
  refine AWp.seq ?_
  refine AWp.seq ?_
  refine AWp.region ?_
  refine AOps.sim okL rfl rfl ?_
  refine AOps.pln ?_; refine AOp.load okL rfl (.tail _ (.tail _ (.head _))) rfl rfl rfl rfl ?_
  refine AOps.sim okL rfl rfl ?_
  refine AOps.nil ?_
  refine seqQ_n ?_
  rename_i r1 _ r2 _ r3 _
  refine AWp.join (α := Int) (fun _ => [(1, .ptr r1 7 0 0), (2, .ptr r2 3 0 0), (3, .ptr r3 3 0 0)])
    (fun g => [(r3, .row 49 3 [[i64 1, i64 0, i64 g]]), (r2, .row 49 3 [[i64 0, i64 0, i64 0]]), (r1, .row 25 7 [x.C])])
    (fun g => g = if x.op = 7 then 1 else 0) ?_ fun R K hR => ?_
  · intro g hg
    refine AWp.seq ?_
    refine AWp.seq ?_
    refine AWp.region ?_
    refine AOps.sim okL rfl rfl ?_
    refine AOps.nil ?_
    refine AWp.block ?_
    refine AWp.loopM (α := Nat × Int × Int × Int) (fun a => x.l.length - a.1) (fun a => [(1, .ptr r1 7 0 0), (2, .ptr r2 3 0 0), (3, .ptr r3 3 0 0), (4, i64 a.1)])
      (fun a => [(r3, .row 49 3 [[i64 a.2.1, i64 a.2.2.2, i64 a.2.2.1]]), (r2, .row 49 3 [[i64 0, i64 0, i64 0]]), (r1, .row 25 7 [x.C])])
      (fun a => a.1 ≤ x.l.length ∧ szL (x.l.drop a.1) a.2 = szL x.l (1, if x.op = 7 then 1 else 0, 0)) (0, 1, g, 0) ⟨Nat.zero_le _, by rw [← hg]; rfl⟩ ?_ (List.Perm.refl _) ?_
    · simp only [AllIn]
      refine ⟨rfl, rfl, rfl, rfl, trivial⟩
    rintro ⟨k, m⟩ ⟨hk, hm⟩ ih
    simp only at hk hm
    refine AWp.seq ?_
    refine AWp.seq ?_
    refine AWp.region ?_
    refine AOps.sim okL rfl rfl ?_
    refine AOps.sim okL rfl rfl ?_
    refine AOps.pln ?_; refine AOp.load okL rfl (.tail _ (.tail _ (.head _))) rfl rfl rfl rfl ?_
    refine AOps.sim okL rfl rfl ?_
    refine AOps.sim okL rfl rfl ?_
    refine AOps.nil ?_
    refine seqQ_n ?_
    first | refine AWp.condCase rfl (fun h => ?_) (fun h => ?_) | refine AWp.cond rfl (fun h => ?_) (fun h => ?_)
    · have h := of_decide_eq_true h
      simp only [List.length_map] at h
      obtain ⟨y, hy⟩ : ∃ y, x.l[k]? = some y := ⟨x.l[k], by simp [show k < x.l.length by omega]⟩
      rw [drop_get hy, szL] at hm
      refine AWp.skip ?_
      refine AWp.seq ?_
      refine AWp.block ?_
      refine AWp.seq ?_
      refine AWp.region ?_
      refine AOps.sim okL rfl rfl ?_
      refine AOps.pln ?_; refine AOp.load okL rfl (.tail _ (.tail _ (.head _))) rfl rfl rfl rfl ?_
      refine AOps.sim okL rfl rfl ?_
      (first | refine AOps.simple okL rfl (sOp_idxD rfl rfl rfl rfl rfl ((by omega)) (getC hy) rfl) rfl ?_ | refine AOps.simpleW okL rfl rfl rfl (sOp_idxD rfl rfl rfl rfl rfl ((by omega)) (getC hy) rfl) rfl ?_ | refine Pl.pure rfl (sOp_idxD rfl rfl rfl rfl rfl ((by omega)) (getC hy) rfl) ?_ | refine Pl.pureW rfl rfl (sOp_idxD rfl rfl rfl rfl rfl ((by omega)) (getC hy) rfl) ?_)
      refine AOps.sim okL rfl rfl ?_
      refine AOps.pln ?_; focus (refine AOp.callP (v := ?_) rfl rfl rfl ?_ ?_; rotate_left; exact (IH y (List.mem_of_getElem? hy)))
      refine AOps.pln ?_; refine AOp.alloc okL rfl rfl rfl ?_; intro _ _
      refine AOps.pln ?_; refine AOp.store okL rfl rfl rfl (isVal_or rfl) rfl rfl rfl .here rfl rfl rfl ?_
      refine AOps.nil ?_
      refine AWp.seq ?_
      refine AWp.region ?_
      refine AOps.sim okL rfl rfl ?_
      refine AOps.pln ?_; refine AOp.load okL rfl (.tail _ (.head _)) rfl rfl rfl rfl ?_
      refine AOps.sim okL rfl rfl ?_
      refine AOps.pln ?_; refine AOp.load okL rfl (.head _) rfl rfl rfl rfl ?_
      refine AOps.sim okL rfl rfl ?_
      refine AOps.sim okL rfl rfl ?_
      refine AOps.pln ?_; refine AOp.store okL rfl rfl rfl (isVal_or rfl) rfl rfl rfl (.there .here) rfl rfl rfl ?_
      refine AOps.nil ?_
      refine AWp.seq ?_
      refine AWp.region ?_
      refine AOps.sim okL rfl rfl ?_
      refine AOps.pln ?_; refine AOp.load okL rfl (.tail _ (.head _)) rfl rfl rfl rfl ?_
      refine AOps.sim okL rfl rfl ?_
      refine AOps.pln ?_; refine AOp.load okL rfl (.head _) rfl rfl rfl rfl ?_
      refine AOps.sim okL rfl rfl ?_
      refine AOps.sim okL rfl rfl ?_
      refine AOps.pln ?_; refine AOp.store okL rfl rfl rfl (isVal_or rfl) rfl rfl rfl (.there .here) rfl rfl rfl ?_
      refine AOps.nil ?_
      refine AWp.region ?_
      refine AOps.sim okL rfl rfl ?_
      refine AOps.pln ?_; refine AOp.load okL rfl (.tail _ (.head _)) rfl rfl rfl rfl ?_
      refine AOps.sim okL rfl rfl ?_
      refine AOps.pln ?_; refine AOp.load okL rfl (.head _) rfl rfl rfl rfl ?_
      refine AOps.sim okL rfl rfl ?_
      refine AOps.sim okL rfl rfl ?_
      refine AOps.pln ?_; refine AOp.store okL rfl rfl rfl (isVal_or rfl) rfl rfl rfl (.there .here) rfl rfl rfl ?_
      refine AOps.nil ?_
      refine AWp.region ?_
      refine AOps.sim okL rfl rfl ?_
      refine AOps.sim okL rfl rfl ?_
      refine AOps.sim okL rfl rfl ?_
      refine AOps.nil ?_
      refine seqQ_n ?_
      refine AIn.nextN 1 (ih (k + 1, _) ⟨by omega, hm⟩ (by simp only; omega)) ?_ rfl
      simp only [AllIn]
      refine ⟨rfl, rfl, rfl, ?_, trivial⟩
      exact congrArg some (nxt (by omega) hlen)
    have h := of_decide_eq_false h
    simp only [List.length_map] at h
    rw [List.drop_eq_nil_of_le (by omega), szL] at hm
    refine AWp.exit ?_
    refine AWp.seq ?_
    refine AWp.region ?_
    refine AOps.sim okL rfl rfl ?_
    refine AOps.pln ?_; refine AOp.load okL rfl (.head _) rfl rfl rfl rfl ?_
    refine AOps.sim okL rfl rfl ?_
    refine AOps.sim okL rfl rfl ?_
    refine AOps.pln ?_; refine AOp.store okL rfl rfl rfl (isVal_or rfl) rfl rfl rfl .here rfl rfl rfl ?_
    refine AOps.nil ?_
    refine AWp.seq ?_
    refine AWp.region ?_
    refine AOps.pln ?_; refine AOp.load okL rfl (.head _) rfl rfl rfl rfl ?_
    refine AOps.pln ?_; refine AOp.store okL rfl rfl rfl (isVal_or rfl) rfl rfl rfl (.there .here) rfl rfl rfl ?_
    refine AOps.nil ?_
    refine AWp.ret ?_
    refine bodyQ_r (ResOk.cell okL rfl rfl (.tail _ (.head _)) rfl rfl rfl) ?_
    rw [szP_eq, ← hm]; rfl
  first | refine AWp.condCase rfl (fun h => ?_) (fun h => ?_) | refine AWp.cond rfl (fun h => ?_) (fun h => ?_)
  · refine AWp.region ?_
    refine AOps.sim okL rfl rfl ?_
    refine AOps.pln ?_; refine AOp.store okL rfl rfl rfl (isVal_or rfl) rfl rfl rfl .here rfl rfl rfl ?_
    refine AOps.nil ?_
    (refine K (1) (by rw [if_pos (of_decide_eq_true h)]) 0 _ _ ?_ rfl; repeat (first | exact trivial | refine ⟨rfl, ?_⟩))
  refine AWp.skip ?_
  (refine K (0) (by rw [if_neg (of_decide_eq_false h)]) 0 _ _ ?_ rfl; repeat (first | exact trivial | refine ⟨rfl, ?_⟩))

set_option maxRecDepth 100000 in
theorem measure_tr (x : Pat) : PTr Tryz.prog 46 [.agg x.C] (.agg [i64 (szP x).1, i64 (szP x).2.1, i64 (szP x).2.2]) := by
  induction x using Pat.ind with | h x IH => _
  refine PTr.of_body (N := 43) Tryz.func46 rfl rfl rfl ?_
  refine AWp.know (t := 0) rfl (Known.agg (x := .ds (x.l.map Pat.cells)) (by simp [Pat.C]) (Known.ds _)) fun hlen => ?_
  rw [List.length_map] at hlen
  refine AWp.seq ?_
  refine AWp.region ?_
  refine AOps.pln ?_; refine AOp.box rfl rfl (isVal_or rfl) rfl rfl ?_; intro _ _
  refine AOps.pln ?_; refine AOp.alloc okL rfl rfl rfl ?_; intro _ _
  refine AOps.nil ?_
  refine AWp.seq ?_
  refine AWp.region ?_
  refine AOps.sim okL rfl rfl ?_
  refine AOps.pln ?_; refine AOp.alloc okL rfl rfl rfl ?_; intro _ _
  refine AOps.pln ?_; refine AOp.store okL rfl rfl rfl (isVal_or rfl) rfl rfl rfl .here rfl rfl rfl ?_
  refine AOps.nil ?_
  refine AWp.seq ?_
  refine AWp.seq ?_
  refine AWp.region ?_
  refine AOps.sim okL rfl rfl ?_
  refine AOps.pln ?_; refine AOp.load okL rfl (.tail _ (.tail _ (.head _))) rfl rfl rfl rfl ?_
  refine AOps.sim okL rfl rfl ?_
  refine AOps.nil ?_
  refine seqQ_n ?_
  rename_i r1 _ r2 _ r3 _
  refine AWp.join (α := Int) (fun _ => [(1, .ptr r1 7 0 0), (2, .ptr r2 3 0 0), (3, .ptr r3 3 0 0)])
    (fun g => [(r3, .row 64 3 [[i64 1, i64 g, i64 0]]), (r2, .row 64 3 [[i64 0, i64 0, i64 0]]), (r1, .row 25 7 [x.C])])
    (fun g => g = if x.op = 7 then 1 else 0) ?_ fun R K hR => ?_
  · intro g hg
    refine AWp.seq ?_
    refine AWp.seq ?_
    refine AWp.region ?_
    refine AOps.sim okL rfl rfl ?_
    refine AOps.pln ?_; refine AOp.load okL rfl (.tail _ (.tail _ (.head _))) rfl rfl rfl rfl ?_
    refine AOps.sim okL rfl rfl ?_
    refine AOps.sim okL rfl rfl ?_
    refine AOps.nil ?_
    refine AWp.block ?_
    refine AWp.loopM (α := Nat × Int × Int × Int) (fun a => x.l.length - a.1) (fun a => [(1, .ptr r1 7 0 0), (2, .ptr r2 3 0 0), (3, .ptr r3 3 0 0), (13, .ds (x.l.map Pat.cells)), (14, i64 (x.l.map Pat.cells).length), (15, i64 a.1)])
      (fun a => [(r3, .row 64 3 [[i64 a.2.1, i64 a.2.2.1, i64 a.2.2.2]]), (r2, .row 64 3 [[i64 0, i64 0, i64 0]]), (r1, .row 25 7 [x.C])])
      (fun a => a.1 ≤ x.l.length ∧ szL (x.l.drop a.1) a.2 = szL x.l (1, if x.op = 7 then 1 else 0, 0)) (0, 1, g, 0) ⟨Nat.zero_le _, by rw [← hg]; rfl⟩ ?_ (List.Perm.refl _) ?_
    · simp only [AllIn]
      refine ⟨rfl, rfl, rfl, rfl, rfl, rfl, trivial⟩
    rintro ⟨k, m⟩ ⟨hk, hm⟩ ih
    simp only at hk hm
    refine AWp.seq ?_
    refine AWp.region ?_
    refine AOps.sim okL rfl rfl ?_
    refine AOps.nil ?_
    refine AWp.seq ?_
    first | refine AWp.condCase rfl (fun h => ?_) (fun h => ?_) | refine AWp.cond rfl (fun h => ?_) (fun h => ?_)
    · have h := of_decide_eq_true h
      simp only [List.length_map] at h
      obtain ⟨y, hy⟩ : ∃ y, x.l[k]? = some y := ⟨x.l[k], by simp [show k < x.l.length by omega]⟩
      rw [drop_get hy, szL] at hm
      refine AWp.skip ?_
      refine AWp.seq ?_
      refine AWp.block ?_
      refine AWp.seq ?_
      refine AWp.region ?_
      (first | refine AOps.simple okL rfl (sOp_idxD rfl rfl rfl rfl rfl ((by omega)) (getC hy) rfl) rfl ?_ | refine AOps.simpleW okL rfl rfl rfl (sOp_idxD rfl rfl rfl rfl rfl ((by omega)) (getC hy) rfl) rfl ?_ | refine Pl.pure rfl (sOp_idxD rfl rfl rfl rfl rfl ((by omega)) (getC hy) rfl) ?_ | refine Pl.pureW rfl rfl (sOp_idxD rfl rfl rfl rfl rfl ((by omega)) (getC hy) rfl) ?_)
      refine AOps.sim okL rfl rfl ?_
      refine AOps.pln ?_; refine AOp.alloc okL rfl rfl rfl ?_; intro _ _
      refine AOps.pln ?_; refine AOp.store okL rfl rfl rfl (isVal_or rfl) rfl rfl rfl .here rfl rfl rfl ?_
      refine AOps.nil ?_
      refine AWp.seq ?_
      refine AWp.region ?_
      refine AOps.pln ?_; refine AOp.load okL rfl (.head _) rfl rfl rfl rfl ?_
      refine AOps.pln ?_; focus (refine AOp.callP (v := ?_) rfl rfl rfl ?_ ?_; rotate_left; exact (IH y (List.mem_of_getElem? hy)))
      refine AOps.pln ?_; refine AOp.alloc okL rfl rfl rfl ?_; intro _ _
      refine AOps.pln ?_; refine AOp.store okL rfl rfl rfl (isVal_or rfl) rfl rfl rfl .here rfl rfl rfl ?_
      refine AOps.nil ?_
      refine AWp.region ?_
      refine AOps.sim okL rfl rfl ?_
      refine AOps.pln ?_; refine AOp.load okL rfl (.tail _ (.tail _ (.head _))) rfl rfl rfl rfl ?_
      refine AOps.sim okL rfl rfl ?_
      refine AOps.pln ?_; refine AOp.load okL rfl (.head _) rfl rfl rfl rfl ?_
      refine AOps.sim okL rfl rfl ?_
      refine AOps.sim okL rfl rfl ?_
      refine AOps.pln ?_; refine AOp.load okL rfl (.tail _ (.tail _ (.head _))) rfl rfl rfl rfl ?_
      refine AOps.sim okL rfl rfl ?_
      refine AOps.pln ?_; refine AOp.load okL rfl (.head _) rfl rfl rfl rfl ?_
      refine AOps.sim okL rfl rfl ?_
      refine AOps.sim okL rfl rfl ?_
      refine AOps.pln ?_; refine AOp.load okL rfl (.tail _ (.tail _ (.head _))) rfl rfl rfl rfl ?_
      refine AOps.sim okL rfl rfl ?_
      refine AOps.pln ?_; refine AOp.load okL rfl (.head _) rfl rfl rfl rfl ?_
      refine AOps.sim okL rfl rfl ?_
      refine AOps.sim okL rfl rfl ?_
      refine AOps.pln ?_; refine AOp.store okL rfl rfl rfl (isVal_or rfl) rfl rfl rfl (.there (.there .here)) rfl rfl rfl ?_
      refine AOps.nil ?_
      refine AWp.region ?_
      refine AOps.sim okL rfl rfl ?_
      refine AOps.sim okL rfl rfl ?_
      refine AOps.nil ?_
      refine seqQ_n ?_
      refine AIn.nextN 2 (ih (k + 1, _) ⟨by omega, hm⟩ (by simp only; omega)) ?_ rfl
      simp only [AllIn]
      refine ⟨rfl, rfl, rfl, rfl, rfl, ?_, trivial⟩
      exact congrArg some (nxt (by omega) hlen)
    have h := of_decide_eq_false h
    simp only [List.length_map] at h
    rw [List.drop_eq_nil_of_le (by omega), szL] at hm
    refine AWp.exit ?_
    refine AWp.seq ?_
    refine AWp.region ?_
    refine AOps.sim okL rfl rfl ?_
    refine AOps.pln ?_; refine AOp.load okL rfl (.head _) rfl rfl rfl rfl ?_
    refine AOps.sim okL rfl rfl ?_
    refine AOps.sim okL rfl rfl ?_
    refine AOps.pln ?_; refine AOp.store okL rfl rfl rfl (isVal_or rfl) rfl rfl rfl .here rfl rfl rfl ?_
    refine AOps.nil ?_
    refine AWp.seq ?_
    refine AWp.region ?_
    refine AOps.pln ?_; refine AOp.load okL rfl (.head _) rfl rfl rfl rfl ?_
    refine AOps.pln ?_; refine AOp.store okL rfl rfl rfl (isVal_or rfl) rfl rfl rfl (.there .here) rfl rfl rfl ?_
    refine AOps.nil ?_
    refine AWp.ret ?_
    refine bodyQ_r (ResOk.cell okL rfl rfl (.tail _ (.head _)) rfl rfl rfl) ?_
    rw [szP_eq, ← hm]; rfl
  first | refine AWp.condCase rfl (fun h => ?_) (fun h => ?_) | refine AWp.cond rfl (fun h => ?_) (fun h => ?_)
  · refine AWp.region ?_
    refine AOps.sim okL rfl rfl ?_
    refine AOps.pln ?_; refine AOp.store okL rfl rfl rfl (isVal_or rfl) rfl rfl rfl .here rfl rfl rfl ?_
    refine AOps.nil ?_
    (refine K (1) (by rw [if_pos (of_decide_eq_true h)]) 0 _ _ ?_ rfl; repeat (first | exact trivial | refine ⟨rfl, ?_⟩))
  refine AWp.skip ?_
  (refine K (0) (by rw [if_neg (of_decide_eq_false h)]) 0 _ _ ?_ rfl; repeat (first | exact trivial | refine ⟨rfl, ?_⟩))
end Go.Proofs.YtdeenhdmmeahgaaGreatDoor

namespace Go.Proofs.YtdeenhdmmeahgaaGreatDoor
open Go Go.Abs
set_option linter.unusedVariables false
set_option maxRecDepth 100000
set_option linter.unusedSimpArgs false

def chM (c : Int) : Bool := decide (c ≥ 0) && (decide (c ≤ 1114111) && (decide (c < 55296) || decide (c > 57343)))
theorem patIsChar_tr (c : Int) : PTr Tryz.prog 99 [i64 c] (.bool (chM c)) := by
  refine PTr.of_body (N := 17) Tryz.func99 rfl rfl rfl ?_
  refine AWp.seq ?_
  refine AWp.region ?_
  refine AOps.sim okL rfl rfl ?_
  refine AOps.nil ?_
  refine AWp.seq ?_
  refine AWp.region ?_
  refine AOps.sim okL rfl rfl ?_
  refine AOps.sim okL rfl rfl ?_
  refine AOps.sim okL rfl rfl ?_
  refine AOps.guardCase rfl rfl rfl (fun h => ?_) (fun h => ?_)
  · refine AOps.simW okL rfl rfl rfl rfl ?_
    refine AOps.simW okL rfl rfl rfl rfl ?_
    refine AOps.sim okL rfl rfl ?_
    refine AOps.sim okL rfl rfl ?_
    refine AOps.guardCase rfl rfl rfl (fun h => ?_) (fun h => ?_)
    · refine AOps.simW okL rfl rfl rfl rfl ?_
      refine AOps.simW okL rfl rfl rfl rfl ?_
      refine AOps.simW okL rfl rfl rfl rfl ?_
      refine AOps.guardCase rfl rfl rfl (fun h => ?_) (fun h => ?_)
      · refine AOps.unw rfl rfl rfl rfl ?_
        refine AOps.unw rfl rfl rfl rfl ?_
        refine AOps.simW okL rfl rfl rfl rfl ?_
        refine AOps.sim okL rfl rfl ?_
        refine AOps.sim okL rfl rfl ?_
        refine AOps.nil ?_
        refine AWp.ret ?_
        refine bodyQ_r (by first | exact ResOk.one rfl rfl | exact ResOk.two rfl rfl rfl | exact ResOk.three rfl rfl rfl rfl | exact ResOk.none rfl) ?_; (simp_all [chM] <;> first | omega | (rw [Bool.eq_iff_iff]; simp <;> omega))
      refine AOps.simW okL rfl rfl rfl rfl ?_
      refine AOps.simW okL rfl rfl rfl rfl ?_
      refine AOps.simW okL rfl rfl rfl rfl ?_
      refine AOps.sim okL rfl rfl ?_
      refine AOps.sim okL rfl rfl ?_
      refine AOps.nil ?_
      refine AWp.ret ?_
      refine bodyQ_r (by first | exact ResOk.one rfl rfl | exact ResOk.two rfl rfl rfl | exact ResOk.three rfl rfl rfl rfl | exact ResOk.none rfl) ?_; (simp_all [chM] <;> first | omega | (rw [Bool.eq_iff_iff]; simp <;> omega))
    refine AOps.unw rfl rfl rfl rfl ?_
    refine AOps.unw rfl rfl rfl rfl ?_
    refine AOps.unw rfl rfl rfl rfl ?_
    refine AOps.unwU rfl rfl rfl ?_
    refine AOps.unwU rfl rfl rfl ?_
    refine AOps.unw rfl rfl rfl rfl ?_
    refine AOps.sim okL rfl rfl ?_
    refine AOps.sim okL rfl rfl ?_
    refine AOps.nil ?_
    refine AWp.ret ?_
    refine bodyQ_r (by first | exact ResOk.one rfl rfl | exact ResOk.two rfl rfl rfl | exact ResOk.three rfl rfl rfl rfl | exact ResOk.none rfl) ?_; (simp_all [chM] <;> first | omega | (rw [Bool.eq_iff_iff]; simp <;> omega))
  refine AOps.unw rfl rfl rfl rfl ?_
  refine AOps.unw rfl rfl rfl rfl ?_
  refine AOps.sim okL rfl rfl ?_
  refine AOps.sim okL rfl rfl ?_
  refine AOps.unw rfl rfl rfl rfl ?_
  refine AOps.unw rfl rfl rfl rfl ?_
  refine AOps.unw rfl rfl rfl rfl ?_
  refine AOps.unwU rfl rfl rfl ?_
  refine AOps.unwU rfl rfl rfl ?_
  refine AOps.unw rfl rfl rfl rfl ?_
  refine AOps.sim okL rfl rfl ?_
  refine AOps.sim okL rfl rfl ?_
  refine AOps.nil ?_
  refine AWp.ret ?_
  refine bodyQ_r (by first | exact ResOk.one rfl rfl | exact ResOk.two rfl rfl rfl | exact ResOk.three rfl rfl rfl rfl | exact ResOk.none rfl) ?_; (simp_all [chM] <;> first | omega | (rw [Bool.eq_iff_iff]; simp <;> omega))
theorem charsIsChar_tr (c : Int) : PTr Tryz.prog 204 [i64 c] (.bool (chM c)) := by
  refine PTr.of_body (N := 17) Tryz.func204 rfl rfl rfl ?_
  refine AWp.seq ?_
  refine AWp.region ?_
  refine AOps.sim okL rfl rfl ?_
  refine AOps.nil ?_
  refine AWp.seq ?_
  refine AWp.region ?_
  refine AOps.sim okL rfl rfl ?_
  refine AOps.sim okL rfl rfl ?_
  refine AOps.sim okL rfl rfl ?_
  refine AOps.guardCase rfl rfl rfl (fun h => ?_) (fun h => ?_)
  · refine AOps.simW okL rfl rfl rfl rfl ?_
    refine AOps.simW okL rfl rfl rfl rfl ?_
    refine AOps.sim okL rfl rfl ?_
    refine AOps.sim okL rfl rfl ?_
    refine AOps.guardCase rfl rfl rfl (fun h => ?_) (fun h => ?_)
    · refine AOps.simW okL rfl rfl rfl rfl ?_
      refine AOps.simW okL rfl rfl rfl rfl ?_
      refine AOps.simW okL rfl rfl rfl rfl ?_
      refine AOps.guardCase rfl rfl rfl (fun h => ?_) (fun h => ?_)
      · refine AOps.unw rfl rfl rfl rfl ?_
        refine AOps.unw rfl rfl rfl rfl ?_
        refine AOps.simW okL rfl rfl rfl rfl ?_
        refine AOps.sim okL rfl rfl ?_
        refine AOps.sim okL rfl rfl ?_
        refine AOps.nil ?_
        refine AWp.ret ?_
        refine bodyQ_r (by first | exact ResOk.one rfl rfl | exact ResOk.two rfl rfl rfl | exact ResOk.three rfl rfl rfl rfl | exact ResOk.none rfl) ?_; (simp_all [chM] <;> first | omega | (rw [Bool.eq_iff_iff]; simp <;> omega))
      refine AOps.simW okL rfl rfl rfl rfl ?_
      refine AOps.simW okL rfl rfl rfl rfl ?_
      refine AOps.simW okL rfl rfl rfl rfl ?_
      refine AOps.sim okL rfl rfl ?_
      refine AOps.sim okL rfl rfl ?_
      refine AOps.nil ?_
      refine AWp.ret ?_
      refine bodyQ_r (by first | exact ResOk.one rfl rfl | exact ResOk.two rfl rfl rfl | exact ResOk.three rfl rfl rfl rfl | exact ResOk.none rfl) ?_; (simp_all [chM] <;> first | omega | (rw [Bool.eq_iff_iff]; simp <;> omega))
    refine AOps.unw rfl rfl rfl rfl ?_
    refine AOps.unw rfl rfl rfl rfl ?_
    refine AOps.unw rfl rfl rfl rfl ?_
    refine AOps.unwU rfl rfl rfl ?_
    refine AOps.unwU rfl rfl rfl ?_
    refine AOps.unw rfl rfl rfl rfl ?_
    refine AOps.sim okL rfl rfl ?_
    refine AOps.sim okL rfl rfl ?_
    refine AOps.nil ?_
    refine AWp.ret ?_
    refine bodyQ_r (by first | exact ResOk.one rfl rfl | exact ResOk.two rfl rfl rfl | exact ResOk.three rfl rfl rfl rfl | exact ResOk.none rfl) ?_; (simp_all [chM] <;> first | omega | (rw [Bool.eq_iff_iff]; simp <;> omega))
  refine AOps.unw rfl rfl rfl rfl ?_
  refine AOps.unw rfl rfl rfl rfl ?_
  refine AOps.sim okL rfl rfl ?_
  refine AOps.sim okL rfl rfl ?_
  refine AOps.unw rfl rfl rfl rfl ?_
  refine AOps.unw rfl rfl rfl rfl ?_
  refine AOps.unw rfl rfl rfl rfl ?_
  refine AOps.unwU rfl rfl rfl ?_
  refine AOps.unwU rfl rfl rfl ?_
  refine AOps.unw rfl rfl rfl rfl ?_
  refine AOps.sim okL rfl rfl ?_
  refine AOps.sim okL rfl rfl ?_
  refine AOps.nil ?_
  refine AWp.ret ?_
  refine bodyQ_r (by first | exact ResOk.one rfl rfl | exact ResOk.two rfl rfl rfl | exact ResOk.three rfl rfl rfl rfl | exact ResOk.none rfl) ?_; (simp_all [chM] <;> first | omega | (rw [Bool.eq_iff_iff]; simp <;> omega))
theorem refIsChar_tr (c : Int) : PTr Tryz.prog 104 [i64 c] (.bool (chM c)) := by
  refine PTr.of_body (N := 18) Tryz.func104 rfl rfl rfl ?_
  refine AWp.seq ?_
  refine AWp.region ?_
  refine AOps.sim okL rfl rfl ?_
  refine AOps.nil ?_
  refine AWp.seq ?_
  refine AWp.region ?_
  refine AOps.sim okL rfl rfl ?_
  refine AOps.sim okL rfl rfl ?_
  refine AOps.sim okL rfl rfl ?_
  refine AOps.guardCase rfl rfl rfl (fun h => ?_) (fun h => ?_)
  · refine AOps.simW okL rfl rfl rfl rfl ?_
    refine AOps.simW okL rfl rfl rfl rfl ?_
    refine AOps.sim okL rfl rfl ?_
    refine AOps.sim okL rfl rfl ?_
    refine AOps.guardCase rfl rfl rfl (fun h => ?_) (fun h => ?_)
    · refine AOps.simW okL rfl rfl rfl rfl ?_
      refine AOps.simW okL rfl rfl rfl rfl ?_
      refine AOps.simW okL rfl rfl rfl rfl ?_
      refine AOps.guardCase rfl rfl rfl (fun h => ?_) (fun h => ?_)
      · refine AOps.simW okL rfl rfl rfl rfl ?_
        refine AOps.simW okL rfl rfl rfl rfl ?_
        refine AOps.simW okL rfl rfl rfl rfl ?_
        refine AOps.simW okL rfl rfl rfl rfl ?_
        refine AOps.sim okL rfl rfl ?_
        refine AOps.sim okL rfl rfl ?_
        refine AOps.nil ?_
        refine AWp.ret ?_
        refine bodyQ_r (by first | exact ResOk.one rfl rfl | exact ResOk.two rfl rfl rfl | exact ResOk.three rfl rfl rfl rfl | exact ResOk.none rfl) ?_; (simp_all [chM] <;> first | omega | (rw [Bool.eq_iff_iff]; simp <;> omega))
      refine AOps.unw rfl rfl rfl rfl ?_
      refine AOps.unw rfl rfl rfl rfl ?_
      refine AOps.simW okL rfl rfl rfl rfl ?_
      refine AOps.simW okL rfl rfl rfl rfl ?_
      refine AOps.sim okL rfl rfl ?_
      refine AOps.sim okL rfl rfl ?_
      refine AOps.nil ?_
      refine AWp.ret ?_
      refine bodyQ_r (by first | exact ResOk.one rfl rfl | exact ResOk.two rfl rfl rfl | exact ResOk.three rfl rfl rfl rfl | exact ResOk.none rfl) ?_; (simp_all [chM] <;> first | omega | (rw [Bool.eq_iff_iff]; simp <;> omega))
    refine AOps.unw rfl rfl rfl rfl ?_
    refine AOps.unw rfl rfl rfl rfl ?_
    refine AOps.unw rfl rfl rfl rfl ?_
    refine AOps.unwU rfl rfl rfl ?_
    refine AOps.unwU rfl rfl rfl ?_
    refine AOps.unw rfl rfl rfl rfl ?_
    refine AOps.unw rfl rfl rfl rfl ?_
    refine AOps.sim okL rfl rfl ?_
    refine AOps.sim okL rfl rfl ?_
    refine AOps.nil ?_
    refine AWp.ret ?_
    refine bodyQ_r (by first | exact ResOk.one rfl rfl | exact ResOk.two rfl rfl rfl | exact ResOk.three rfl rfl rfl rfl | exact ResOk.none rfl) ?_; (simp_all [chM] <;> first | omega | (rw [Bool.eq_iff_iff]; simp <;> omega))
  refine AOps.unw rfl rfl rfl rfl ?_
  refine AOps.unw rfl rfl rfl rfl ?_
  refine AOps.sim okL rfl rfl ?_
  refine AOps.sim okL rfl rfl ?_
  refine AOps.unw rfl rfl rfl rfl ?_
  refine AOps.unw rfl rfl rfl rfl ?_
  refine AOps.unw rfl rfl rfl rfl ?_
  refine AOps.unwU rfl rfl rfl ?_
  refine AOps.unwU rfl rfl rfl ?_
  refine AOps.unw rfl rfl rfl rfl ?_
  refine AOps.unw rfl rfl rfl rfl ?_
  refine AOps.sim okL rfl rfl ?_
  refine AOps.sim okL rfl rfl ?_
  refine AOps.nil ?_
  refine AWp.ret ?_
  refine bodyQ_r (by first | exact ResOk.one rfl rfl | exact ResOk.two rfl rfl rfl | exact ResOk.three rfl rfl rfl rfl | exact ResOk.none rfl) ?_; (simp_all [chM] <;> first | omega | (rw [Bool.eq_iff_iff]; simp <;> omega))
def inM (n lo hi : Int) : Bool := decide (n ≥ lo) && decide (n ≤ hi)
theorem patWithin_tr (n lo hi : Int) : PTr Tryz.prog 100 [i64 n, i64 lo, i64 hi] (.bool (inM n lo hi)) := by
  refine PTr.of_body (N := 15) Tryz.func100 rfl rfl rfl ?_
  refine AWp.seq ?_
  refine AWp.region ?_
  refine AOps.sim okL rfl rfl ?_
  refine AOps.nil ?_
  refine AWp.seq ?_
  refine AWp.region ?_
  refine AOps.sim okL rfl rfl ?_
  refine AOps.sim okL rfl rfl ?_
  refine AOps.sim okL rfl rfl ?_
  refine AOps.sim okL rfl rfl ?_
  refine AOps.guardCase rfl rfl rfl (fun h => ?_) (fun h => ?_)
  · refine AOps.simW okL rfl rfl rfl rfl ?_
    refine AOps.simW okL rfl rfl rfl rfl ?_
    refine AOps.simW okL rfl rfl rfl rfl ?_
    refine AOps.sim okL rfl rfl ?_
    refine AOps.sim okL rfl rfl ?_
    refine AOps.nil ?_
    refine AWp.ret ?_
    refine bodyQ_r (by first | exact ResOk.one rfl rfl | exact ResOk.two rfl rfl rfl | exact ResOk.three rfl rfl rfl rfl | exact ResOk.none rfl) ?_; (simp_all [inM] <;> first | omega | (rw [Bool.eq_iff_iff]; simp <;> omega))
  refine AOps.unw rfl rfl rfl rfl ?_
  refine AOps.unw rfl rfl rfl rfl ?_
  refine AOps.unw rfl rfl rfl rfl ?_
  refine AOps.sim okL rfl rfl ?_
  refine AOps.sim okL rfl rfl ?_
  refine AOps.nil ?_
  refine AWp.ret ?_
  refine bodyQ_r (by first | exact ResOk.one rfl rfl | exact ResOk.two rfl rfl rfl | exact ResOk.three rfl rfl rfl rfl | exact ResOk.none rfl) ?_; (simp_all [inM] <;> first | omega | (rw [Bool.eq_iff_iff]; simp <;> omega))
theorem refWithin_tr (n lo hi : Int) : PTr Tryz.prog 73 [i64 n, i64 lo, i64 hi] (.bool (inM n lo hi)) := by
  refine PTr.of_body (N := 15) Tryz.func73 rfl rfl rfl ?_
  refine AWp.seq ?_
  refine AWp.region ?_
  refine AOps.sim okL rfl rfl ?_
  refine AOps.nil ?_
  refine AWp.seq ?_
  refine AWp.region ?_
  refine AOps.sim okL rfl rfl ?_
  refine AOps.sim okL rfl rfl ?_
  refine AOps.sim okL rfl rfl ?_
  refine AOps.sim okL rfl rfl ?_
  refine AOps.guardCase rfl rfl rfl (fun h => ?_) (fun h => ?_)
  · refine AOps.simW okL rfl rfl rfl rfl ?_
    refine AOps.simW okL rfl rfl rfl rfl ?_
    refine AOps.simW okL rfl rfl rfl rfl ?_
    refine AOps.sim okL rfl rfl ?_
    refine AOps.sim okL rfl rfl ?_
    refine AOps.nil ?_
    refine AWp.ret ?_
    refine bodyQ_r (by first | exact ResOk.one rfl rfl | exact ResOk.two rfl rfl rfl | exact ResOk.three rfl rfl rfl rfl | exact ResOk.none rfl) ?_; (simp_all [inM] <;> first | omega | (rw [Bool.eq_iff_iff]; simp <;> omega))
  refine AOps.unw rfl rfl rfl rfl ?_
  refine AOps.unw rfl rfl rfl rfl ?_
  refine AOps.unw rfl rfl rfl rfl ?_
  refine AOps.sim okL rfl rfl ?_
  refine AOps.sim okL rfl rfl ?_
  refine AOps.nil ?_
  refine AWp.ret ?_
  refine bodyQ_r (by first | exact ResOk.one rfl rfl | exact ResOk.two rfl rfl rfl | exact ResOk.three rfl rfl rfl rfl | exact ResOk.none rfl) ?_; (simp_all [inM] <;> first | omega | (rw [Bool.eq_iff_iff]; simp <;> omega))
def ltM (c : Int) : Bool := decide (c ≥ 97) && decide (c ≤ 122) || decide (c ≥ 65) && decide (c ≤ 90)
theorem patIsLetter_tr (c : Int) : PTr Tryz.prog 119 [.int .u8 c] (.bool (ltM c)) := by
  refine PTr.of_body (N := 17) Tryz.func119 rfl rfl rfl ?_
  refine AWp.seq ?_
  refine AWp.region ?_
  refine AOps.sim okL rfl rfl ?_
  refine AOps.nil ?_
  refine AWp.seq ?_
  refine AWp.region ?_
  refine AOps.sim okL rfl rfl ?_
  refine AOps.sim okL rfl rfl ?_
  refine AOps.sim okL rfl rfl ?_
  refine AOps.guardCase rfl rfl rfl (fun h => ?_) (fun h => ?_)
  · refine AOps.simW okL rfl rfl rfl rfl ?_
    refine AOps.simW okL rfl rfl rfl rfl ?_
    refine AOps.sim okL rfl rfl ?_
    refine AOps.sim okL rfl rfl ?_
    refine AOps.guardCase rfl rfl rfl (fun h => ?_) (fun h => ?_)
    · refine AOps.unw rfl rfl rfl rfl ?_
      refine AOps.unw rfl rfl rfl rfl ?_
      refine AOps.unw rfl rfl rfl rfl ?_
      refine AOps.unwU rfl rfl rfl ?_
      refine AOps.unwU rfl rfl rfl ?_
      refine AOps.unw rfl rfl rfl rfl ?_
      refine AOps.sim okL rfl rfl ?_
      refine AOps.sim okL rfl rfl ?_
      refine AOps.nil ?_
      refine AWp.ret ?_
      refine bodyQ_r (by first | exact ResOk.one rfl rfl | exact ResOk.two rfl rfl rfl | exact ResOk.three rfl rfl rfl rfl | exact ResOk.none rfl) ?_; (simp_all [ltM] <;> first | omega | (rw [Bool.eq_iff_iff]; simp <;> omega))
    refine AOps.simW okL rfl rfl rfl rfl ?_
    refine AOps.simW okL rfl rfl rfl rfl ?_
    refine AOps.simW okL rfl rfl rfl rfl ?_
    refine AOps.guardCase rfl rfl rfl (fun h => ?_) (fun h => ?_)
    · refine AOps.simW okL rfl rfl rfl rfl ?_
      refine AOps.simW okL rfl rfl rfl rfl ?_
      refine AOps.simW okL rfl rfl rfl rfl ?_
      refine AOps.sim okL rfl rfl ?_
      refine AOps.sim okL rfl rfl ?_
      refine AOps.nil ?_
      refine AWp.ret ?_
      refine bodyQ_r (by first | exact ResOk.one rfl rfl | exact ResOk.two rfl rfl rfl | exact ResOk.three rfl rfl rfl rfl | exact ResOk.none rfl) ?_; (simp_all [ltM] <;> first | omega | (rw [Bool.eq_iff_iff]; simp <;> omega))
    refine AOps.unw rfl rfl rfl rfl ?_
    refine AOps.unw rfl rfl rfl rfl ?_
    refine AOps.simW okL rfl rfl rfl rfl ?_
    refine AOps.sim okL rfl rfl ?_
    refine AOps.sim okL rfl rfl ?_
    refine AOps.nil ?_
    refine AWp.ret ?_
    refine bodyQ_r (by first | exact ResOk.one rfl rfl | exact ResOk.two rfl rfl rfl | exact ResOk.three rfl rfl rfl rfl | exact ResOk.none rfl) ?_; (simp_all [ltM] <;> first | omega | (rw [Bool.eq_iff_iff]; simp <;> omega))
  refine AOps.unw rfl rfl rfl rfl ?_
  refine AOps.unw rfl rfl rfl rfl ?_
  refine AOps.sim okL rfl rfl ?_
  refine AOps.sim okL rfl rfl ?_
  refine AOps.simW okL rfl rfl rfl rfl ?_
  refine AOps.simW okL rfl rfl rfl rfl ?_
  refine AOps.simW okL rfl rfl rfl rfl ?_
  refine AOps.guardCase rfl rfl rfl (fun h => ?_) (fun h => ?_)
  · refine AOps.simW okL rfl rfl rfl rfl ?_
    refine AOps.simW okL rfl rfl rfl rfl ?_
    refine AOps.simW okL rfl rfl rfl rfl ?_
    refine AOps.sim okL rfl rfl ?_
    refine AOps.sim okL rfl rfl ?_
    refine AOps.nil ?_
    refine AWp.ret ?_
    refine bodyQ_r (by first | exact ResOk.one rfl rfl | exact ResOk.two rfl rfl rfl | exact ResOk.three rfl rfl rfl rfl | exact ResOk.none rfl) ?_; (simp_all [ltM] <;> first | omega | (rw [Bool.eq_iff_iff]; simp <;> omega))
  refine AOps.unw rfl rfl rfl rfl ?_
  refine AOps.unw rfl rfl rfl rfl ?_
  refine AOps.simW okL rfl rfl rfl rfl ?_
  refine AOps.sim okL rfl rfl ?_
  refine AOps.sim okL rfl rfl ?_
  refine AOps.nil ?_
  refine AWp.ret ?_
  refine bodyQ_r (by first | exact ResOk.one rfl rfl | exact ResOk.two rfl rfl rfl | exact ResOk.three rfl rfl rfl rfl | exact ResOk.none rfl) ?_; (simp_all [ltM] <;> first | omega | (rw [Bool.eq_iff_iff]; simp <;> omega))
theorem refIsLetter_tr (c : Int) : PTr Tryz.prog 105 [.int .u8 c] (.bool (ltM c)) := by
  refine PTr.of_body (N := 17) Tryz.func105 rfl rfl rfl ?_
  refine AWp.seq ?_
  refine AWp.region ?_
  refine AOps.sim okL rfl rfl ?_
  refine AOps.nil ?_
  refine AWp.seq ?_
  refine AWp.region ?_
  refine AOps.sim okL rfl rfl ?_
  refine AOps.sim okL rfl rfl ?_
  refine AOps.sim okL rfl rfl ?_
  refine AOps.guardCase rfl rfl rfl (fun h => ?_) (fun h => ?_)
  · refine AOps.simW okL rfl rfl rfl rfl ?_
    refine AOps.simW okL rfl rfl rfl rfl ?_
    refine AOps.sim okL rfl rfl ?_
    refine AOps.sim okL rfl rfl ?_
    refine AOps.guardCase rfl rfl rfl (fun h => ?_) (fun h => ?_)
    · refine AOps.unw rfl rfl rfl rfl ?_
      refine AOps.unw rfl rfl rfl rfl ?_
      refine AOps.unw rfl rfl rfl rfl ?_
      refine AOps.unwU rfl rfl rfl ?_
      refine AOps.unwU rfl rfl rfl ?_
      refine AOps.unw rfl rfl rfl rfl ?_
      refine AOps.sim okL rfl rfl ?_
      refine AOps.sim okL rfl rfl ?_
      refine AOps.nil ?_
      refine AWp.ret ?_
      refine bodyQ_r (by first | exact ResOk.one rfl rfl | exact ResOk.two rfl rfl rfl | exact ResOk.three rfl rfl rfl rfl | exact ResOk.none rfl) ?_; (simp_all [ltM] <;> first | omega | (rw [Bool.eq_iff_iff]; simp <;> omega))
    refine AOps.simW okL rfl rfl rfl rfl ?_
    refine AOps.simW okL rfl rfl rfl rfl ?_
    refine AOps.simW okL rfl rfl rfl rfl ?_
    refine AOps.guardCase rfl rfl rfl (fun h => ?_) (fun h => ?_)
    · refine AOps.simW okL rfl rfl rfl rfl ?_
      refine AOps.simW okL rfl rfl rfl rfl ?_
      refine AOps.simW okL rfl rfl rfl rfl ?_
      refine AOps.sim okL rfl rfl ?_
      refine AOps.sim okL rfl rfl ?_
      refine AOps.nil ?_
      refine AWp.ret ?_
      refine bodyQ_r (by first | exact ResOk.one rfl rfl | exact ResOk.two rfl rfl rfl | exact ResOk.three rfl rfl rfl rfl | exact ResOk.none rfl) ?_; (simp_all [ltM] <;> first | omega | (rw [Bool.eq_iff_iff]; simp <;> omega))
    refine AOps.unw rfl rfl rfl rfl ?_
    refine AOps.unw rfl rfl rfl rfl ?_
    refine AOps.simW okL rfl rfl rfl rfl ?_
    refine AOps.sim okL rfl rfl ?_
    refine AOps.sim okL rfl rfl ?_
    refine AOps.nil ?_
    refine AWp.ret ?_
    refine bodyQ_r (by first | exact ResOk.one rfl rfl | exact ResOk.two rfl rfl rfl | exact ResOk.three rfl rfl rfl rfl | exact ResOk.none rfl) ?_; (simp_all [ltM] <;> first | omega | (rw [Bool.eq_iff_iff]; simp <;> omega))
  refine AOps.unw rfl rfl rfl rfl ?_
  refine AOps.unw rfl rfl rfl rfl ?_
  refine AOps.sim okL rfl rfl ?_
  refine AOps.sim okL rfl rfl ?_
  refine AOps.simW okL rfl rfl rfl rfl ?_
  refine AOps.simW okL rfl rfl rfl rfl ?_
  refine AOps.simW okL rfl rfl rfl rfl ?_
  refine AOps.guardCase rfl rfl rfl (fun h => ?_) (fun h => ?_)
  · refine AOps.simW okL rfl rfl rfl rfl ?_
    refine AOps.simW okL rfl rfl rfl rfl ?_
    refine AOps.simW okL rfl rfl rfl rfl ?_
    refine AOps.sim okL rfl rfl ?_
    refine AOps.sim okL rfl rfl ?_
    refine AOps.nil ?_
    refine AWp.ret ?_
    refine bodyQ_r (by first | exact ResOk.one rfl rfl | exact ResOk.two rfl rfl rfl | exact ResOk.three rfl rfl rfl rfl | exact ResOk.none rfl) ?_; (simp_all [ltM] <;> first | omega | (rw [Bool.eq_iff_iff]; simp <;> omega))
  refine AOps.unw rfl rfl rfl rfl ?_
  refine AOps.unw rfl rfl rfl rfl ?_
  refine AOps.simW okL rfl rfl rfl rfl ?_
  refine AOps.sim okL rfl rfl ?_
  refine AOps.sim okL rfl rfl ?_
  refine AOps.nil ?_
  refine AWp.ret ?_
  refine bodyQ_r (by first | exact ResOk.one rfl rfl | exact ResOk.two rfl rfl rfl | exact ResOk.three rfl rfl rfl rfl | exact ResOk.none rfl) ?_; (simp_all [ltM] <;> first | omega | (rw [Bool.eq_iff_iff]; simp <;> omega))
def timesM (n l : Int) : Int := if n = 0 ∨ l = 0 then 0 else if n < 0 ∨ l < 0 then -1 else w64 (n * l)
theorem times_tr (n l : Int) : PTr Tryz.prog 67 [i64 n, i64 l] (i64 (timesM n l)) := by
  refine PTr.of_body (N := 22) Tryz.func67 rfl rfl rfl ?_
  refine AWp.seq ?_
  refine AWp.region ?_
  refine AOps.sim okL rfl rfl ?_
  refine AOps.nil ?_
  refine AWp.seq ?_
  refine AWp.block ?_
  refine AWp.seq ?_
  refine AWp.region ?_
  refine AOps.sim okL rfl rfl ?_
  refine AOps.sim okL rfl rfl ?_
  refine AOps.sim okL rfl rfl ?_
  refine AOps.guardCase rfl rfl rfl (fun h => ?_) (fun h => ?_)
  · refine AOps.unw rfl rfl rfl rfl ?_
    refine AOps.unw rfl rfl rfl rfl ?_
    refine AOps.sim okL rfl rfl ?_
    refine AOps.sim okL rfl rfl ?_
    refine AOps.nil ?_
    refine AWp.condT rfl ?_
    refine AWp.seq ?_
    refine AWp.region ?_
    refine AOps.sim okL rfl rfl ?_
    refine AOps.nil ?_
    refine AWp.ret ?_
    refine blockQ_r ?_
    refine seqQ_r ?_
    refine bodyQ_r (by first | exact ResOk.one rfl rfl | exact ResOk.two rfl rfl rfl | exact ResOk.three rfl rfl rfl rfl | exact ResOk.none rfl) ?_; (simp_all [timesM, w64] <;> first | omega | (rw [Bool.eq_iff_iff]; simp <;> omega))
  refine AOps.simW okL rfl rfl rfl rfl ?_
  refine AOps.simW okL rfl rfl rfl rfl ?_
  refine AOps.sim okL rfl rfl ?_
  refine AOps.sim okL rfl rfl ?_
  refine AOps.nil ?_
  refine seqQ_n ?_
  refine AWp.condCase rfl (fun h => ?_) (fun h => ?_)
  · refine AWp.seq ?_
    refine AWp.region ?_
    refine AOps.sim okL rfl rfl ?_
    refine AOps.nil ?_
    refine AWp.ret ?_
    refine blockQ_r ?_
    refine seqQ_r ?_
    refine bodyQ_r (by first | exact ResOk.one rfl rfl | exact ResOk.two rfl rfl rfl | exact ResOk.three rfl rfl rfl rfl | exact ResOk.none rfl) ?_; (simp_all [timesM, w64] <;> first | omega | (rw [Bool.eq_iff_iff]; simp <;> omega))
  refine AWp.seq ?_
  refine AWp.region ?_
  refine AOps.sim okL rfl rfl ?_
  refine AOps.sim okL rfl rfl ?_
  refine AOps.sim okL rfl rfl ?_
  refine AOps.guardCase rfl rfl rfl (fun h => ?_) (fun h => ?_)
  · refine AOps.unw rfl rfl rfl rfl ?_
    refine AOps.unw rfl rfl rfl rfl ?_
    refine AOps.sim okL rfl rfl ?_
    refine AOps.sim okL rfl rfl ?_
    refine AOps.nil ?_
    refine AWp.condT rfl ?_
    refine AWp.seq ?_
    refine AWp.region ?_
    refine AOps.sim okL rfl rfl ?_
    refine AOps.nil ?_
    refine AWp.ret ?_
    refine blockQ_r ?_
    refine seqQ_r ?_
    refine bodyQ_r (by first | exact ResOk.one rfl rfl | exact ResOk.two rfl rfl rfl | exact ResOk.three rfl rfl rfl rfl | exact ResOk.none rfl) ?_; (simp_all [timesM, w64] <;> first | omega | (rw [Bool.eq_iff_iff]; simp <;> omega))
  refine AOps.simW okL rfl rfl rfl rfl ?_
  refine AOps.simW okL rfl rfl rfl rfl ?_
  refine AOps.sim okL rfl rfl ?_
  refine AOps.sim okL rfl rfl ?_
  refine AOps.nil ?_
  refine seqQ_n ?_
  refine AWp.condCase rfl (fun h => ?_) (fun h => ?_)
  · refine AWp.seq ?_
    refine AWp.region ?_
    refine AOps.sim okL rfl rfl ?_
    refine AOps.nil ?_
    refine AWp.ret ?_
    refine blockQ_r ?_
    refine seqQ_r ?_
    refine bodyQ_r (by first | exact ResOk.one rfl rfl | exact ResOk.two rfl rfl rfl | exact ResOk.three rfl rfl rfl rfl | exact ResOk.none rfl) ?_; (simp_all [timesM, w64] <;> first | omega | (rw [Bool.eq_iff_iff]; simp <;> omega))
  refine AWp.skip ?_
  refine AWp.seq ?_
  refine AWp.region ?_
  refine AOps.sim okL rfl rfl ?_
  refine AOps.sim okL rfl rfl ?_
  refine AOps.sim okL rfl rfl ?_
  refine AOps.sim okL rfl rfl ?_
  refine AOps.nil ?_
  refine AWp.ret ?_
  refine bodyQ_r (by first | exact ResOk.one rfl rfl | exact ResOk.two rfl rfl rfl | exact ResOk.three rfl rfl rfl rfl | exact ResOk.none rfl) ?_; (simp_all [timesM, w64] <;> first | omega | (rw [Bool.eq_iff_iff]; simp <;> omega))
def plusM (a b : Int) : Int := if a < 0 ∨ b < 0 then -1 else w64 (a + b)
theorem plus_tr (a b : Int) : PTr Tryz.prog 68 [i64 a, i64 b] (i64 (plusM a b)) := by
  refine PTr.of_body (N := 14) Tryz.func68 rfl rfl rfl ?_
  refine AWp.seq ?_
  refine AWp.region ?_
  refine AOps.sim okL rfl rfl ?_
  refine AOps.nil ?_
  refine AWp.seq ?_
  refine AWp.seq ?_
  refine AWp.region ?_
  refine AOps.sim okL rfl rfl ?_
  refine AOps.sim okL rfl rfl ?_
  refine AOps.sim okL rfl rfl ?_
  refine AOps.guardCase rfl rfl rfl (fun h => ?_) (fun h => ?_)
  · refine AOps.unw rfl rfl rfl rfl ?_
    refine AOps.unw rfl rfl rfl rfl ?_
    refine AOps.sim okL rfl rfl ?_
    refine AOps.nil ?_
    refine AWp.condT rfl ?_
    refine AWp.seq ?_
    refine AWp.region ?_
    refine AOps.sim okL rfl rfl ?_
    refine AOps.nil ?_
    refine AWp.ret ?_
    refine seqQ_r ?_
    refine bodyQ_r (by first | exact ResOk.one rfl rfl | exact ResOk.two rfl rfl rfl | exact ResOk.three rfl rfl rfl rfl | exact ResOk.none rfl) ?_; (simp_all [plusM, w64] <;> first | omega | (rw [Bool.eq_iff_iff]; simp <;> omega))
  refine AOps.simW okL rfl rfl rfl rfl ?_
  refine AOps.simW okL rfl rfl rfl rfl ?_
  refine AOps.sim okL rfl rfl ?_
  refine AOps.nil ?_
  refine seqQ_n ?_
  refine AWp.condCase rfl (fun h => ?_) (fun h => ?_)
  · refine AWp.seq ?_
    refine AWp.region ?_
    refine AOps.sim okL rfl rfl ?_
    refine AOps.nil ?_
    refine AWp.ret ?_
    refine seqQ_r ?_
    refine bodyQ_r (by first | exact ResOk.one rfl rfl | exact ResOk.two rfl rfl rfl | exact ResOk.three rfl rfl rfl rfl | exact ResOk.none rfl) ?_; (simp_all [plusM, w64] <;> first | omega | (rw [Bool.eq_iff_iff]; simp <;> omega))
  refine AWp.skip ?_
  refine AWp.seq ?_
  refine AWp.region ?_
  refine AOps.sim okL rfl rfl ?_
  refine AOps.sim okL rfl rfl ?_
  refine AOps.sim okL rfl rfl ?_
  refine AOps.sim okL rfl rfl ?_
  refine AOps.nil ?_
  refine AWp.ret ?_
  refine bodyQ_r (by first | exact ResOk.one rfl rfl | exact ResOk.two rfl rfl rfl | exact ResOk.three rfl rfl rfl rfl | exact ResOk.none rfl) ?_; (simp_all [plusM, w64] <;> first | omega | (rw [Bool.eq_iff_iff]; simp <;> omega))
def besideM (x y : Pat) : Bool := if x.op = 4 then !decide (y.op = 4) && !decide (y.op = 0) else if x.op = 5 then !decide (y.op = 5) else true
theorem isBeside_tr (x y : Pat) : PTr Tryz.prog 71 [.agg x.C, .agg y.C] (.bool (besideM x y)) := by
  refine PTr.of_body (N := 22) Tryz.func71 rfl rfl rfl ?_
  refine AWp.seq ?_
  refine AWp.region ?_
  refine AOps.pln ?_; refine AOp.box rfl rfl (isVal_or rfl) rfl rfl ?_; intro _ _
  refine AOps.pln ?_; refine AOp.box rfl rfl (isVal_or rfl) rfl rfl ?_; intro _ _
  refine AOps.sim okL rfl rfl ?_
  refine AOps.nil ?_
  refine AWp.seq ?_
  refine AWp.seq ?_
  refine AWp.region ?_
  refine AOps.sim okL rfl rfl ?_
  refine AOps.pln ?_; refine AOp.load okL rfl (.tail _ (.head _)) rfl rfl rfl rfl ?_
  refine AOps.nil ?_
  refine AWp.block ?_
  refine AWp.seq ?_
  refine AWp.region ?_
  refine AOps.sim okL rfl rfl ?_
  refine AOps.sim okL rfl rfl ?_
  refine AOps.nil ?_
  refine seqQ_n ?_
  refine AWp.condCase rfl (fun h => ?_) (fun h => ?_)
  · refine AWp.seq ?_
    refine AWp.region ?_
    refine AOps.sim okL rfl rfl ?_
    refine AOps.pln ?_; refine AOp.load okL rfl (.head _) rfl rfl rfl rfl ?_
    refine AOps.sim okL rfl rfl ?_
    refine AOps.sim okL rfl rfl ?_
    refine AOps.guardCase rfl rfl rfl (fun h => ?_) (fun h => ?_)
    · refine AOps.simW okL rfl rfl rfl rfl ?_
      refine AOps.wtd rfl rfl rfl ?_; refine AOp.load okL rfl (.head _) rfl rfl rfl rfl ?_
      refine AOps.simW okL rfl rfl rfl rfl ?_
      refine AOps.sim okL rfl rfl ?_
      refine AOps.sim okL rfl rfl ?_
      refine AOps.nil ?_
      refine AWp.ret ?_
      refine blockQ_r ?_
      refine seqQ_r ?_
      refine bodyQ_r (by first | exact ResOk.one rfl rfl | exact ResOk.two rfl rfl rfl | exact ResOk.three rfl rfl rfl rfl | exact ResOk.none rfl) ?_; (simp_all [besideM] <;> first | omega | (rw [Bool.eq_iff_iff]; simp <;> omega))
    refine AOps.unw rfl rfl rfl rfl ?_
    refine AOps.unw rfl rfl rfl rfl ?_
    refine AOps.unw rfl rfl rfl rfl ?_
    refine AOps.sim okL rfl rfl ?_
    refine AOps.sim okL rfl rfl ?_
    refine AOps.nil ?_
    refine AWp.ret ?_
    refine blockQ_r ?_
    refine seqQ_r ?_
    refine bodyQ_r (by first | exact ResOk.one rfl rfl | exact ResOk.two rfl rfl rfl | exact ResOk.three rfl rfl rfl rfl | exact ResOk.none rfl) ?_; (simp_all [besideM] <;> first | omega | (rw [Bool.eq_iff_iff]; simp <;> omega))
  refine AWp.seq ?_
  refine AWp.region ?_
  refine AOps.sim okL rfl rfl ?_
  refine AOps.sim okL rfl rfl ?_
  refine AOps.nil ?_
  refine seqQ_n ?_
  refine AWp.condCase rfl (fun h => ?_) (fun h => ?_)
  · refine AWp.seq ?_
    refine AWp.region ?_
    refine AOps.sim okL rfl rfl ?_
    refine AOps.pln ?_; refine AOp.load okL rfl (.head _) rfl rfl rfl rfl ?_
    refine AOps.sim okL rfl rfl ?_
    refine AOps.sim okL rfl rfl ?_
    refine AOps.nil ?_
    refine AWp.ret ?_
    refine blockQ_r ?_
    refine seqQ_r ?_
    refine bodyQ_r (by first | exact ResOk.one rfl rfl | exact ResOk.two rfl rfl rfl | exact ResOk.three rfl rfl rfl rfl | exact ResOk.none rfl) ?_; (simp_all [besideM] <;> first | omega | (rw [Bool.eq_iff_iff]; simp <;> omega))
  refine AWp.skip ?_
  refine AWp.seq ?_
  refine AWp.region ?_
  refine AOps.sim okL rfl rfl ?_
  refine AOps.nil ?_
  refine AWp.ret ?_
  refine bodyQ_r (by first | exact ResOk.one rfl rfl | exact ResOk.two rfl rfl rfl | exact ResOk.three rfl rfl rfl rfl | exact ResOk.none rfl) ?_; (simp_all [besideM] <;> first | omega | (rw [Bool.eq_iff_iff]; simp <;> omega))
def partsM (op : Int) : Int × Int := if op = 4 ∨ op = 5 then (2, 60) else if op = 6 ∨ op = 7 ∨ op = 8 ∨ op = 9 then (1, 1) else if op = 15 then (2, 2) else (0, 0)
theorem parts_tr (op : Int) : PTr Tryz.prog 72 [i64 op] (.tup [i64 (partsM op).1, i64 (partsM op).2]) := by
  refine PTr.of_body (N := 15) Tryz.func72 rfl rfl rfl ?_
  refine AWp.seq ?_
  refine AWp.region ?_
  refine AOps.sim okL rfl rfl ?_
  refine AOps.sim okL rfl rfl ?_
  refine AOps.nil ?_
  refine AWp.seq ?_
  refine AWp.seq ?_
  refine AWp.region ?_
  refine AOps.sim okL rfl rfl ?_
  refine AOps.nil ?_
  refine AWp.block ?_
  refine AWp.seq ?_
  refine AWp.seq ?_
  refine AWp.region ?_
  refine AOps.sim okL rfl rfl ?_
  refine AOps.sim okL rfl rfl ?_
  refine AOps.nil ?_
  refine seqQ_n ?_
  refine AWp.condCase rfl (fun h => ?_) (fun h => ?_)
  · refine AWp.skip ?_
    refine AWp.condT rfl ?_
    refine AWp.seq ?_
    refine AWp.region ?_
    refine AOps.sim okL rfl rfl ?_
    refine AOps.sim okL rfl rfl ?_
    refine AOps.nil ?_
    refine AWp.ret ?_
    refine blockQ_r ?_
    refine seqQ_r ?_
    refine bodyQ_r (by first | exact ResOk.one rfl rfl | exact ResOk.two rfl rfl rfl | exact ResOk.three rfl rfl rfl rfl | exact ResOk.none rfl) ?_; (simp_all [partsM] <;> first | omega | (rw [Bool.eq_iff_iff]; simp <;> omega))
  refine AWp.region ?_
  refine AOps.sim okL rfl rfl ?_
  refine AOps.sim okL rfl rfl ?_
  refine AOps.nil ?_
  refine seqQ_n ?_
  refine AWp.condCase rfl (fun h => ?_) (fun h => ?_)
  · refine AWp.seq ?_
    refine AWp.region ?_
    refine AOps.sim okL rfl rfl ?_
    refine AOps.sim okL rfl rfl ?_
    refine AOps.nil ?_
    refine AWp.ret ?_
    refine blockQ_r ?_
    refine seqQ_r ?_
    refine bodyQ_r (by first | exact ResOk.one rfl rfl | exact ResOk.two rfl rfl rfl | exact ResOk.three rfl rfl rfl rfl | exact ResOk.none rfl) ?_; (simp_all [partsM] <;> first | omega | (rw [Bool.eq_iff_iff]; simp <;> omega))
  refine AWp.seq ?_
  refine AWp.seq ?_
  refine AWp.region ?_
  refine AOps.sim okL rfl rfl ?_
  refine AOps.sim okL rfl rfl ?_
  refine AOps.nil ?_
  refine seqQ_n ?_
  refine AWp.condCase rfl (fun h => ?_) (fun h => ?_)
  · refine AWp.skip ?_
    refine AWp.condT rfl ?_
    refine AWp.seq ?_
    refine AWp.region ?_
    refine AOps.sim okL rfl rfl ?_
    refine AOps.sim okL rfl rfl ?_
    refine AOps.nil ?_
    refine AWp.ret ?_
    refine blockQ_r ?_
    refine seqQ_r ?_
    refine bodyQ_r (by first | exact ResOk.one rfl rfl | exact ResOk.two rfl rfl rfl | exact ResOk.three rfl rfl rfl rfl | exact ResOk.none rfl) ?_; (simp_all [partsM] <;> first | omega | (rw [Bool.eq_iff_iff]; simp <;> omega))
  refine AWp.seq ?_
  refine AWp.region ?_
  refine AOps.sim okL rfl rfl ?_
  refine AOps.sim okL rfl rfl ?_
  refine AOps.nil ?_
  refine seqQ_n ?_
  refine AWp.condCase rfl (fun h => ?_) (fun h => ?_)
  · refine AWp.skip ?_
    refine AWp.condT rfl ?_
    refine AWp.seq ?_
    refine AWp.region ?_
    refine AOps.sim okL rfl rfl ?_
    refine AOps.sim okL rfl rfl ?_
    refine AOps.nil ?_
    refine AWp.ret ?_
    refine blockQ_r ?_
    refine seqQ_r ?_
    refine bodyQ_r (by first | exact ResOk.one rfl rfl | exact ResOk.two rfl rfl rfl | exact ResOk.three rfl rfl rfl rfl | exact ResOk.none rfl) ?_; (simp_all [partsM] <;> first | omega | (rw [Bool.eq_iff_iff]; simp <;> omega))
  refine AWp.seq ?_
  refine AWp.region ?_
  refine AOps.sim okL rfl rfl ?_
  refine AOps.sim okL rfl rfl ?_
  refine AOps.nil ?_
  refine seqQ_n ?_
  refine AWp.condCase rfl (fun h => ?_) (fun h => ?_)
  · refine AWp.skip ?_
    refine AWp.condT rfl ?_
    refine AWp.seq ?_
    refine AWp.region ?_
    refine AOps.sim okL rfl rfl ?_
    refine AOps.sim okL rfl rfl ?_
    refine AOps.nil ?_
    refine AWp.ret ?_
    refine blockQ_r ?_
    refine seqQ_r ?_
    refine bodyQ_r (by first | exact ResOk.one rfl rfl | exact ResOk.two rfl rfl rfl | exact ResOk.three rfl rfl rfl rfl | exact ResOk.none rfl) ?_; (simp_all [partsM] <;> first | omega | (rw [Bool.eq_iff_iff]; simp <;> omega))
  refine AWp.region ?_
  refine AOps.sim okL rfl rfl ?_
  refine AOps.sim okL rfl rfl ?_
  refine AOps.nil ?_
  refine seqQ_n ?_
  refine AWp.condCase rfl (fun h => ?_) (fun h => ?_)
  · refine AWp.seq ?_
    refine AWp.region ?_
    refine AOps.sim okL rfl rfl ?_
    refine AOps.sim okL rfl rfl ?_
    refine AOps.nil ?_
    refine AWp.ret ?_
    refine blockQ_r ?_
    refine seqQ_r ?_
    refine bodyQ_r (by first | exact ResOk.one rfl rfl | exact ResOk.two rfl rfl rfl | exact ResOk.three rfl rfl rfl rfl | exact ResOk.none rfl) ?_; (simp_all [partsM] <;> first | omega | (rw [Bool.eq_iff_iff]; simp <;> omega))
  refine AWp.seq ?_
  refine AWp.region ?_
  refine AOps.sim okL rfl rfl ?_
  refine AOps.sim okL rfl rfl ?_
  refine AOps.nil ?_
  refine seqQ_n ?_
  refine AWp.condCase rfl (fun h => ?_) (fun h => ?_)
  · refine AWp.seq ?_
    refine AWp.region ?_
    refine AOps.sim okL rfl rfl ?_
    refine AOps.sim okL rfl rfl ?_
    refine AOps.nil ?_
    refine AWp.ret ?_
    refine blockQ_r ?_
    refine seqQ_r ?_
    refine bodyQ_r (by first | exact ResOk.one rfl rfl | exact ResOk.two rfl rfl rfl | exact ResOk.three rfl rfl rfl rfl | exact ResOk.none rfl) ?_; (simp_all [partsM] <;> first | omega | (rw [Bool.eq_iff_iff]; simp <;> omega))
  refine AWp.skip ?_
  refine AWp.seq ?_
  refine AWp.region ?_
  refine AOps.sim okL rfl rfl ?_
  refine AOps.sim okL rfl rfl ?_
  refine AOps.nil ?_
  refine AWp.ret ?_
  refine bodyQ_r (by first | exact ResOk.one rfl rfl | exact ResOk.two rfl rfl rfl | exact ResOk.three rfl rfl rfl rfl | exact ResOk.none rfl) ?_; (simp_all [partsM] <;> first | omega | (rw [Bool.eq_iff_iff]; simp <;> omega))
def numM (x : Pat) (g : Int) : Bool :=
  if x.op = 1 then chM x.n else if x.op = 3 ∨ x.op = 13 then inM x.n 0 1 else if x.op = 6 ∨ x.op = 16 then inM x.n 0 2 else if x.op = 7 ∨ x.op = 10 ∨ x.op = 15 then inM x.n 1 g
  else if x.op = 14 then inM x.n 0 g else if x.op = 9 then inM x.n 0 3 else if x.op = 17 then inM x.n 0 9 else decide (x.n = 0)
theorem isNumber_tr (x : Pat) (g : Int) : PTr Tryz.prog 74 [.agg x.C, i64 g] (.bool (numM x g)) := by
  refine PTr.of_body (N := 51) Tryz.func74 rfl rfl rfl ?_
  refine AWp.seq ?_
  refine AWp.region ?_
  refine AOps.pln ?_; refine AOp.box rfl rfl (isVal_or rfl) rfl rfl ?_; intro _ _
  refine AOps.sim okL rfl rfl ?_
  refine AOps.nil ?_
  refine AWp.seq ?_
  refine AWp.seq ?_
  refine AWp.region ?_
  refine AOps.sim okL rfl rfl ?_
  refine AOps.pln ?_; refine AOp.load okL rfl (.head _) rfl rfl rfl rfl ?_
  refine AOps.nil ?_
  refine AWp.block ?_
  refine AWp.seq ?_
  refine AWp.region ?_
  refine AOps.sim okL rfl rfl ?_
  refine AOps.sim okL rfl rfl ?_
  refine AOps.nil ?_
  refine seqQ_n ?_
  refine AWp.condCase rfl (fun h => ?_) (fun h => ?_)
  · refine AWp.seq ?_
    refine AWp.region ?_
    refine AOps.sim okL rfl rfl ?_
    refine AOps.pln ?_; refine AOp.load okL rfl (.head _) rfl rfl rfl rfl ?_
    refine AOps.pln ?_; focus (refine AOp.callP (v := ?_) rfl rfl rfl ?_ ?_; rotate_left; exact (refIsChar_tr _))
    refine AOps.sim okL rfl rfl ?_
    refine AOps.nil ?_
    refine AWp.ret ?_
    refine blockQ_r ?_
    refine seqQ_r ?_
    refine bodyQ_r (by first | exact ResOk.one rfl rfl | exact ResOk.two rfl rfl rfl | exact ResOk.three rfl rfl rfl rfl | exact ResOk.none rfl) ?_; (simp_all [numM] <;> first | omega | (rw [Bool.eq_iff_iff]; simp <;> omega))
  refine AWp.seq ?_
  refine AWp.seq ?_
  refine AWp.region ?_
  refine AOps.sim okL rfl rfl ?_
  refine AOps.sim okL rfl rfl ?_
  refine AOps.nil ?_
  refine seqQ_n ?_
  refine AWp.condCase rfl (fun h => ?_) (fun h => ?_)
  · refine AWp.skip ?_
    refine AWp.condT rfl ?_
    refine AWp.seq ?_
    refine AWp.region ?_
    refine AOps.sim okL rfl rfl ?_
    refine AOps.pln ?_; refine AOp.load okL rfl (.head _) rfl rfl rfl rfl ?_
    refine AOps.pln ?_; focus (refine AOp.callP (v := ?_) rfl rfl rfl ?_ ?_; rotate_left; exact (refWithin_tr _ _ _))
    refine AOps.sim okL rfl rfl ?_
    refine AOps.nil ?_
    refine AWp.ret ?_
    refine blockQ_r ?_
    refine seqQ_r ?_
    refine bodyQ_r (by first | exact ResOk.one rfl rfl | exact ResOk.two rfl rfl rfl | exact ResOk.three rfl rfl rfl rfl | exact ResOk.none rfl) ?_; (simp_all [numM] <;> first | omega | (rw [Bool.eq_iff_iff]; simp <;> omega))
  refine AWp.region ?_
  refine AOps.sim okL rfl rfl ?_
  refine AOps.sim okL rfl rfl ?_
  refine AOps.nil ?_
  refine seqQ_n ?_
  refine AWp.condCase rfl (fun h => ?_) (fun h => ?_)
  · refine AWp.seq ?_
    refine AWp.region ?_
    refine AOps.sim okL rfl rfl ?_
    refine AOps.pln ?_; refine AOp.load okL rfl (.head _) rfl rfl rfl rfl ?_
    refine AOps.pln ?_; focus (refine AOp.callP (v := ?_) rfl rfl rfl ?_ ?_; rotate_left; exact (refWithin_tr _ _ _))
    refine AOps.sim okL rfl rfl ?_
    refine AOps.nil ?_
    refine AWp.ret ?_
    refine blockQ_r ?_
    refine seqQ_r ?_
    refine bodyQ_r (by first | exact ResOk.one rfl rfl | exact ResOk.two rfl rfl rfl | exact ResOk.three rfl rfl rfl rfl | exact ResOk.none rfl) ?_; (simp_all [numM] <;> first | omega | (rw [Bool.eq_iff_iff]; simp <;> omega))
  refine AWp.seq ?_
  refine AWp.seq ?_
  refine AWp.region ?_
  refine AOps.sim okL rfl rfl ?_
  refine AOps.sim okL rfl rfl ?_
  refine AOps.nil ?_
  refine seqQ_n ?_
  refine AWp.condCase rfl (fun h => ?_) (fun h => ?_)
  · refine AWp.skip ?_
    refine AWp.condT rfl ?_
    refine AWp.seq ?_
    refine AWp.region ?_
    refine AOps.sim okL rfl rfl ?_
    refine AOps.pln ?_; refine AOp.load okL rfl (.head _) rfl rfl rfl rfl ?_
    refine AOps.pln ?_; focus (refine AOp.callP (v := ?_) rfl rfl rfl ?_ ?_; rotate_left; exact (refWithin_tr _ _ _))
    refine AOps.sim okL rfl rfl ?_
    refine AOps.nil ?_
    refine AWp.ret ?_
    refine blockQ_r ?_
    refine seqQ_r ?_
    refine bodyQ_r (by first | exact ResOk.one rfl rfl | exact ResOk.two rfl rfl rfl | exact ResOk.three rfl rfl rfl rfl | exact ResOk.none rfl) ?_; (simp_all [numM] <;> first | omega | (rw [Bool.eq_iff_iff]; simp <;> omega))
  refine AWp.region ?_
  refine AOps.sim okL rfl rfl ?_
  refine AOps.sim okL rfl rfl ?_
  refine AOps.nil ?_
  refine seqQ_n ?_
  refine AWp.condCase rfl (fun h => ?_) (fun h => ?_)
  · refine AWp.seq ?_
    refine AWp.region ?_
    refine AOps.sim okL rfl rfl ?_
    refine AOps.pln ?_; refine AOp.load okL rfl (.head _) rfl rfl rfl rfl ?_
    refine AOps.pln ?_; focus (refine AOp.callP (v := ?_) rfl rfl rfl ?_ ?_; rotate_left; exact (refWithin_tr _ _ _))
    refine AOps.sim okL rfl rfl ?_
    refine AOps.nil ?_
    refine AWp.ret ?_
    refine blockQ_r ?_
    refine seqQ_r ?_
    refine bodyQ_r (by first | exact ResOk.one rfl rfl | exact ResOk.two rfl rfl rfl | exact ResOk.three rfl rfl rfl rfl | exact ResOk.none rfl) ?_; (simp_all [numM] <;> first | omega | (rw [Bool.eq_iff_iff]; simp <;> omega))
  refine AWp.seq ?_
  refine AWp.seq ?_
  refine AWp.region ?_
  refine AOps.sim okL rfl rfl ?_
  refine AOps.sim okL rfl rfl ?_
  refine AOps.nil ?_
  refine seqQ_n ?_
  refine AWp.condCase rfl (fun h => ?_) (fun h => ?_)
  · refine AWp.skip ?_
    refine AWp.condT rfl ?_
    refine AWp.seq ?_
    refine AWp.region ?_
    refine AOps.sim okL rfl rfl ?_
    refine AOps.pln ?_; refine AOp.load okL rfl (.head _) rfl rfl rfl rfl ?_
    refine AOps.sim okL rfl rfl ?_
    refine AOps.pln ?_; focus (refine AOp.callP (v := ?_) rfl rfl rfl ?_ ?_; rotate_left; exact (refWithin_tr _ _ _))
    refine AOps.sim okL rfl rfl ?_
    refine AOps.nil ?_
    refine AWp.ret ?_
    refine blockQ_r ?_
    refine seqQ_r ?_
    refine bodyQ_r (by first | exact ResOk.one rfl rfl | exact ResOk.two rfl rfl rfl | exact ResOk.three rfl rfl rfl rfl | exact ResOk.none rfl) ?_; (simp_all [numM] <;> first | omega | (rw [Bool.eq_iff_iff]; simp <;> omega))
  refine AWp.seq ?_
  refine AWp.region ?_
  refine AOps.sim okL rfl rfl ?_
  refine AOps.sim okL rfl rfl ?_
  refine AOps.nil ?_
  refine seqQ_n ?_
  refine AWp.condCase rfl (fun h => ?_) (fun h => ?_)
  · refine AWp.skip ?_
    refine AWp.condT rfl ?_
    refine AWp.seq ?_
    refine AWp.region ?_
    refine AOps.sim okL rfl rfl ?_
    refine AOps.pln ?_; refine AOp.load okL rfl (.head _) rfl rfl rfl rfl ?_
    refine AOps.sim okL rfl rfl ?_
    refine AOps.pln ?_; focus (refine AOp.callP (v := ?_) rfl rfl rfl ?_ ?_; rotate_left; exact (refWithin_tr _ _ _))
    refine AOps.sim okL rfl rfl ?_
    refine AOps.nil ?_
    refine AWp.ret ?_
    refine blockQ_r ?_
    refine seqQ_r ?_
    refine bodyQ_r (by first | exact ResOk.one rfl rfl | exact ResOk.two rfl rfl rfl | exact ResOk.three rfl rfl rfl rfl | exact ResOk.none rfl) ?_; (simp_all [numM] <;> first | omega | (rw [Bool.eq_iff_iff]; simp <;> omega))
  refine AWp.region ?_
  refine AOps.sim okL rfl rfl ?_
  refine AOps.sim okL rfl rfl ?_
  refine AOps.nil ?_
  refine seqQ_n ?_
  refine AWp.condCase rfl (fun h => ?_) (fun h => ?_)
  · refine AWp.seq ?_
    refine AWp.region ?_
    refine AOps.sim okL rfl rfl ?_
    refine AOps.pln ?_; refine AOp.load okL rfl (.head _) rfl rfl rfl rfl ?_
    refine AOps.sim okL rfl rfl ?_
    refine AOps.pln ?_; focus (refine AOp.callP (v := ?_) rfl rfl rfl ?_ ?_; rotate_left; exact (refWithin_tr _ _ _))
    refine AOps.sim okL rfl rfl ?_
    refine AOps.nil ?_
    refine AWp.ret ?_
    refine blockQ_r ?_
    refine seqQ_r ?_
    refine bodyQ_r (by first | exact ResOk.one rfl rfl | exact ResOk.two rfl rfl rfl | exact ResOk.three rfl rfl rfl rfl | exact ResOk.none rfl) ?_; (simp_all [numM] <;> first | omega | (rw [Bool.eq_iff_iff]; simp <;> omega))
  refine AWp.seq ?_
  refine AWp.region ?_
  refine AOps.sim okL rfl rfl ?_
  refine AOps.sim okL rfl rfl ?_
  refine AOps.nil ?_
  refine seqQ_n ?_
  refine AWp.condCase rfl (fun h => ?_) (fun h => ?_)
  · refine AWp.seq ?_
    refine AWp.region ?_
    refine AOps.sim okL rfl rfl ?_
    refine AOps.pln ?_; refine AOp.load okL rfl (.head _) rfl rfl rfl rfl ?_
    refine AOps.sim okL rfl rfl ?_
    refine AOps.pln ?_; focus (refine AOp.callP (v := ?_) rfl rfl rfl ?_ ?_; rotate_left; exact (refWithin_tr _ _ _))
    refine AOps.sim okL rfl rfl ?_
    refine AOps.nil ?_
    refine AWp.ret ?_
    refine blockQ_r ?_
    refine seqQ_r ?_
    refine bodyQ_r (by first | exact ResOk.one rfl rfl | exact ResOk.two rfl rfl rfl | exact ResOk.three rfl rfl rfl rfl | exact ResOk.none rfl) ?_; (simp_all [numM] <;> first | omega | (rw [Bool.eq_iff_iff]; simp <;> omega))
  refine AWp.seq ?_
  refine AWp.region ?_
  refine AOps.sim okL rfl rfl ?_
  refine AOps.sim okL rfl rfl ?_
  refine AOps.nil ?_
  refine seqQ_n ?_
  refine AWp.condCase rfl (fun h => ?_) (fun h => ?_)
  · refine AWp.seq ?_
    refine AWp.region ?_
    refine AOps.sim okL rfl rfl ?_
    refine AOps.pln ?_; refine AOp.load okL rfl (.head _) rfl rfl rfl rfl ?_
    refine AOps.pln ?_; focus (refine AOp.callP (v := ?_) rfl rfl rfl ?_ ?_; rotate_left; exact (refWithin_tr _ _ _))
    refine AOps.sim okL rfl rfl ?_
    refine AOps.nil ?_
    refine AWp.ret ?_
    refine blockQ_r ?_
    refine seqQ_r ?_
    refine bodyQ_r (by first | exact ResOk.one rfl rfl | exact ResOk.two rfl rfl rfl | exact ResOk.three rfl rfl rfl rfl | exact ResOk.none rfl) ?_; (simp_all [numM] <;> first | omega | (rw [Bool.eq_iff_iff]; simp <;> omega))
  refine AWp.seq ?_
  refine AWp.region ?_
  refine AOps.sim okL rfl rfl ?_
  refine AOps.sim okL rfl rfl ?_
  refine AOps.nil ?_
  refine seqQ_n ?_
  refine AWp.condCase rfl (fun h => ?_) (fun h => ?_)
  · refine AWp.seq ?_
    refine AWp.region ?_
    refine AOps.sim okL rfl rfl ?_
    refine AOps.pln ?_; refine AOp.load okL rfl (.head _) rfl rfl rfl rfl ?_
    refine AOps.pln ?_; focus (refine AOp.callP (v := ?_) rfl rfl rfl ?_ ?_; rotate_left; exact (refWithin_tr _ _ _))
    refine AOps.sim okL rfl rfl ?_
    refine AOps.nil ?_
    refine AWp.ret ?_
    refine blockQ_r ?_
    refine seqQ_r ?_
    refine bodyQ_r (by first | exact ResOk.one rfl rfl | exact ResOk.two rfl rfl rfl | exact ResOk.three rfl rfl rfl rfl | exact ResOk.none rfl) ?_; (simp_all [numM] <;> first | omega | (rw [Bool.eq_iff_iff]; simp <;> omega))
  refine AWp.skip ?_
  refine AWp.seq ?_
  refine AWp.region ?_
  refine AOps.sim okL rfl rfl ?_
  refine AOps.pln ?_; refine AOp.load okL rfl (.head _) rfl rfl rfl rfl ?_
  refine AOps.sim okL rfl rfl ?_
  refine AOps.sim okL rfl rfl ?_
  refine AOps.nil ?_
  refine AWp.ret ?_
  refine bodyQ_r (by first | exact ResOk.one rfl rfl | exact ResOk.two rfl rfl rfl | exact ResOk.three rfl rfl rfl rfl | exact ResOk.none rfl) ?_; (simp_all [numM] <;> first | omega | (rw [Bool.eq_iff_iff]; simp <;> omega))
end Go.Proofs.YtdeenhdmmeahgaaGreatDoor

namespace Go.Proofs.YtdeenhdmmeahgaaGreatDoor
open Go Go.Abs
set_option linter.unusedVariables false
set_option maxRecDepth 100000
set_option linter.unusedSimpArgs false

theorem getB {l : List UInt8} {k : Nat} {y : UInt8} (h : l[k]? = some y) : (l.map byteC)[((k : Nat) : Int).toNat]? = some (byteC y) := by simp [h]
def nameM (s : List UInt8) : Bool := s.all (fun b => ltM b.toNat) && inM s.length 1 8
theorem patIsName_tr (s : List UInt8) : PTr Tryz.prog 102 [.str s] (.bool (nameM s)) := by
  refine PTr.of_body (N := 24) Tryz.func102 rfl rfl rfl ?_
  refine AWp.know (t := 0) rfl (Known.str s) fun hlen => ?_
  refine AWp.seq ?_
  refine AWp.region ?_
  refine AOps.sim okL rfl rfl ?_
  refine AOps.nil ?_
  refine AWp.seq ?_
  refine AWp.seq ?_
  refine AWp.region ?_
  refine AOps.sim okL rfl rfl ?_
  refine AOps.pln ?_; refine AOp.toBytes okL rfl rfl rfl rfl rfl rfl rfl ?_
  refine AOps.sim okL rfl rfl ?_
  refine AOps.sim okL rfl rfl ?_
  refine AOps.nil ?_
  refine AWp.block ?_
  refine AWp.loopM (α := Nat) (fun a => s.length - a) (fun a => [(0, .str s), (6, .ds (s.map byteC)), (7, i64 (s.map byteC).length), (8, i64 a)]) (fun _ => _)
    (fun a => a ≤ s.length ∧ (s.drop a).all (fun b => ltM b.toNat) = s.all (fun b => ltM b.toNat)) 0 ⟨Nat.zero_le _, rfl⟩ ?_ (List.Perm.refl _) ?_
  · simp only [AllIn]
    refine ⟨rfl, rfl, rfl, rfl, trivial⟩
  rintro k ⟨hk, hm⟩ ih
  refine AWp.seq ?_
  refine AWp.region ?_
  refine AOps.sim okL rfl rfl ?_
  refine AOps.nil ?_
  refine AWp.seq ?_
  first | refine AWp.condCase rfl (fun h => ?_) (fun h => ?_) | refine AWp.cond rfl (fun h => ?_) (fun h => ?_)
  · have h := of_decide_eq_true h
    simp only [List.length_map] at h
    obtain ⟨y, hy⟩ : ∃ y, s[k]? = some y := ⟨s[k], by simp [show k < s.length by omega]⟩
    rw [drop_get hy, List.all_cons] at hm
    refine AWp.skip ?_
    refine AWp.seq ?_
    refine AWp.block ?_
    refine AWp.seq ?_
    refine AWp.region ?_
    refine AOps.sim okL (sOp_idxD rfl rfl rfl rfl rfl (by omega) (getB hy) rfl) rfl ?_
    refine AOps.sim okL rfl rfl ?_
    refine AOps.sim okL rfl rfl ?_
    refine AOps.nil ?_
    refine AWp.seq ?_
    refine AWp.region ?_
    refine AOps.sim okL rfl rfl ?_
    refine AOps.pln ?_; focus (refine AOp.callP (v := ?_) rfl rfl rfl ?_ ?_; rotate_left; exact (patIsLetter_tr _))
    refine AOps.sim okL rfl rfl ?_
    refine AOps.nil ?_
    refine seqQ_n ?_
    first | refine AWp.condCase rfl (fun h2 => ?_) (fun h2 => ?_) | refine AWp.cond rfl (fun h2 => ?_) (fun h2 => ?_)
    · simp only [Bool.not_eq_true'] at h2
      rw [h2] at hm
      refine AWp.seq ?_
      refine AWp.region ?_
      refine AOps.sim okL rfl rfl ?_
      refine AOps.nil ?_
      refine AWp.ret ?_
      refine blockQ_r ?_
      refine seqQ_r ?_
      refine seqQ_r ?_
      refine blockQ_r ?_
      refine seqQ_r ?_
      refine bodyQ_r (by first | exact ResOk.one rfl rfl | exact ResOk.two rfl rfl rfl | exact ResOk.three rfl rfl rfl rfl | exact ResOk.none rfl) ?_
      rw [nameM, ← hm]; rfl
    simp only [Bool.not_eq_false'] at h2
    rw [h2] at hm
    refine AWp.skip ?_
    refine AWp.region ?_
    refine AOps.sim okL rfl rfl ?_
    refine AOps.sim okL rfl rfl ?_
    refine AOps.nil ?_
    refine seqQ_n ?_
    refine AIn.nextN 0 (ih (k + 1) ⟨by omega, hm⟩ (by omega)) ?_ rfl
    refine ⟨rfl, rfl, rfl, ?_, trivial⟩
    exact congrArg some (nxt (by omega) hlen)
  have h := of_decide_eq_false h
  simp only [List.length_map] at h
  rw [List.drop_eq_nil_of_le (by omega)] at hm
  refine AWp.exit ?_
  refine AWp.seq ?_
  refine AWp.region ?_
  refine AOps.sim okL rfl rfl ?_
  refine AOps.sim okL rfl rfl ?_
  refine AOps.sim okL rfl rfl ?_
  refine AOps.sim okL rfl rfl ?_
  refine AOps.guardCase rfl rfl rfl (fun h => ?_) (fun h => ?_)
  · refine AOps.simW okL rfl rfl rfl rfl ?_
    refine AOps.simW okL rfl rfl rfl rfl ?_
    refine AOps.simW okL rfl rfl rfl rfl ?_
    refine AOps.sim okL rfl rfl ?_
    refine AOps.sim okL rfl rfl ?_
    refine AOps.nil ?_
    refine AWp.ret ?_
    refine bodyQ_r (by first | exact ResOk.one rfl rfl | exact ResOk.two rfl rfl rfl | exact ResOk.three rfl rfl rfl rfl | exact ResOk.none rfl) ?_; simp_all [nameM, inM] <;> omega
  refine AOps.unw rfl rfl rfl rfl ?_
  refine AOps.unw rfl rfl rfl rfl ?_
  refine AOps.unw rfl rfl rfl rfl ?_
  refine AOps.sim okL rfl rfl ?_
  refine AOps.sim okL rfl rfl ?_
  refine AOps.nil ?_
  refine AWp.ret ?_
  refine bodyQ_r (by first | exact ResOk.one rfl rfl | exact ResOk.two rfl rfl rfl | exact ResOk.three rfl rfl rfl rfl | exact ResOk.none rfl) ?_; simp_all [nameM, inM] <;> omega

theorem refIsName_tr (s : List UInt8) : PTr Tryz.prog 75 [.str s] (.bool (nameM s)) := by
  refine PTr.of_body (N := 18) Tryz.func75 rfl rfl rfl ?_
  refine AWp.know (t := 0) rfl (Known.str s) fun hlen => ?_
  refine AWp.seq ?_
  refine AWp.region ?_
  refine AOps.sim okL rfl rfl ?_
  refine AOps.nil ?_
  refine AWp.seq ?_
  refine AWp.seq ?_
  refine AWp.region ?_
  refine AOps.sim okL rfl rfl ?_
  refine AOps.nil ?_
  refine AWp.block ?_
  refine AWp.loopM (α := Nat) (fun a => s.length - a) (fun a => [(0, .str s), (3, i64 a)]) (fun _ => _)
    (fun a => a ≤ s.length ∧ (s.drop a).all (fun b => ltM b.toNat) = s.all (fun b => ltM b.toNat)) 0 ⟨Nat.zero_le _, rfl⟩ ?_ (List.Perm.refl _) ?_
  · simp only [AllIn]
    refine ⟨rfl, rfl, trivial⟩
  rintro k ⟨hk, hm⟩ ih
  refine AWp.seq ?_
  refine AWp.seq ?_
  refine AWp.region ?_
  refine AOps.sim okL rfl rfl ?_
  refine AOps.sim okL rfl rfl ?_
  refine AOps.sim okL rfl rfl ?_
  refine AOps.sim okL rfl rfl ?_
  refine AOps.nil ?_
  refine seqQ_n ?_
  first | refine AWp.condCase rfl (fun h => ?_) (fun h => ?_) | refine AWp.cond rfl (fun h => ?_) (fun h => ?_)
  · have h := of_decide_eq_true h
    obtain ⟨y, hy⟩ : ∃ y, s[k]? = some y := ⟨s[k], by simp [show k < s.length by omega]⟩
    rw [drop_get hy, List.all_cons] at hm
    refine AWp.skip ?_
    refine AWp.seq ?_
    refine AWp.block ?_
    refine AWp.seq ?_
    refine AWp.region ?_
    refine AOps.sim okL rfl rfl ?_
    refine AOps.sim okL rfl rfl ?_
    refine AOps.sim okL (sOp_idxS rfl rfl rfl rfl (by omega) (by simpa using hy)) rfl ?_
    refine AOps.pln ?_; focus (refine AOp.callP (v := ?_) rfl rfl rfl ?_ ?_; rotate_left; exact (refIsLetter_tr _))
    refine AOps.sim okL rfl rfl ?_
    refine AOps.nil ?_
    refine seqQ_n ?_
    first | refine AWp.condCase rfl (fun h2 => ?_) (fun h2 => ?_) | refine AWp.cond rfl (fun h2 => ?_) (fun h2 => ?_)
    · simp only [Bool.not_eq_true'] at h2
      rw [h2] at hm
      refine AWp.seq ?_
      refine AWp.region ?_
      refine AOps.sim okL rfl rfl ?_
      refine AOps.nil ?_
      refine AWp.ret ?_
      refine blockQ_r ?_
      refine seqQ_r ?_
      refine seqQ_r ?_
      refine blockQ_r ?_
      refine seqQ_r ?_
      refine bodyQ_r (by first | exact ResOk.one rfl rfl | exact ResOk.two rfl rfl rfl | exact ResOk.three rfl rfl rfl rfl | exact ResOk.none rfl) ?_
      rw [nameM, ← hm]; rfl
    simp only [Bool.not_eq_false'] at h2
    rw [h2] at hm
    refine AWp.skip ?_
    refine AWp.region ?_
    refine AOps.sim okL rfl rfl ?_
    refine AOps.sim okL rfl rfl ?_
    refine AOps.sim okL rfl rfl ?_
    refine AOps.nil ?_
    refine seqQ_n ?_
    refine AIn.nextN 0 (ih (k + 1) ⟨by omega, hm⟩ (by omega)) ?_ rfl
    refine ⟨rfl, ?_, trivial⟩
    exact congrArg some (nxt (by omega) hlen)
  have h := of_decide_eq_false h
  rw [List.drop_eq_nil_of_le (by omega)] at hm
  refine AWp.exit ?_
  refine AWp.seq ?_
  refine AWp.region ?_
  refine AOps.sim okL rfl rfl ?_
  refine AOps.sim okL rfl rfl ?_
  refine AOps.pln ?_; focus (refine AOp.callP (v := ?_) rfl rfl rfl ?_ ?_; rotate_left; exact (refWithin_tr _ _ _))
  refine AOps.sim okL rfl rfl ?_
  refine AOps.nil ?_
  refine AWp.ret ?_
  refine bodyQ_r (by first | exact ResOk.one rfl rfl | exact ResOk.two rfl rfl rfl | exact ResOk.three rfl rfl rfl rfl | exact ResOk.none rfl) ?_
  rw [nameM, ← hm]; rfl
end Go.Proofs.YtdeenhdmmeahgaaGreatDoor

namespace Go.Proofs.YtdeenhdmmeahgaaGreatDoor
open Go Go.Abs
set_option linter.unusedVariables false
set_option maxRecDepth 100000
set_option linter.unusedSimpArgs false

def hiOk (p : Option Int) (lo : Int) : Bool := match p with | none => true | some h => decide (w64 (h + 1) < lo)
def setGo : Option Int → List (Int × Int) → Bool
  | _, [] => true
  | p, x :: l => (chM x.1 && (chM x.2 && (!decide (x.1 > x.2) && hiOk p x.1))) && setGo (some x.2) l
theorem setGo_cons (p : Option Int) (x : Int × Int) (l : List (Int × Int)) : setGo p (x :: l) = ((chM x.1 && (chM x.2 && (!decide (x.1 > x.2) && hiOk p x.1))) && setGo (some x.2) l) := rfl
def setM (l : List (Int × Int)) : Bool := setGo none l && inM l.length 1 40
def prevHi (l : List (Int × Int)) (k : Nat) : Option Int := match k with | 0 => none | k + 1 => (l[k]?).map (·.2)
theorem prevHi_next {l : List (Int × Int)} {k : Nat} {y : Int × Int} (h : l[k]? = some y) : prevHi l (k + 1) = some y.2 := by simp [prevHi, h]
theorem wrap_pred {k n : Nat} (h : k < n) (hn : n ≤ maxLen) : IntKind.i64.wrap (((k + 1 : Nat) : Int) - 1) = (k : Int) := by
  simp only [maxLen] at hn
  rw [IntKind.wrap_i64]; omega
theorem setGo_F {p : Option Int} {x : Int × Int} {l : List (Int × Int)} (h : chM x.1 = false ∨ chM x.2 = false ∨ x.1 > x.2 ∨ hiOk p x.1 = false) : setGo p (x :: l) = false := by
  rw [setGo_cons]; rcases h with h | h | h | h <;> simp [h]
theorem setGo_T {p : Option Int} {x : Int × Int} {l : List (Int × Int)} (h1 : chM x.1 = true) (h2 : chM x.2 = true) (h3 : ¬ x.1 > x.2) (h4 : hiOk p x.1 = true) : setGo p (x :: l) = setGo (some x.2) l := by
  rw [setGo_cons]; simp [h1, h2, h3, h4]
theorem hiOk_F {h lo : Int} (k : lo ≤ IntKind.i64.wrap (h + 1)) : hiOk (some h) lo = false := by
  simp only [hiOk, w64]; exact decide_eq_false (Int.not_lt.2 k)
theorem hiOk_T {h lo : Int} (k : ¬ lo ≤ IntKind.i64.wrap (h + 1)) : hiOk (some h) lo = true := by
  simp only [hiOk, w64]; exact decide_eq_true (Int.not_le.1 k)
set_option maxHeartbeats 1000000 in
theorem patIsSet_tr (l : List (Int × Int)) : PTr Tryz.prog 101 [.ds (l.map spanC)] (.bool (setM l)) := by
  refine PTr.of_body (N := 54) Tryz.func101 rfl rfl rfl ?_
  refine AWp.know (t := 0) rfl (Known.ds _) fun hlen => ?_
  rw [List.length_map] at hlen
  refine AWp.seq ?_
  refine AWp.region ?_
  refine AOps.sim okL rfl rfl ?_
  refine AOps.nil ?_
  refine AWp.seq ?_
  refine AWp.seq ?_
  refine AWp.region ?_
  refine AOps.sim okL rfl rfl ?_
  refine AOps.sim okL rfl rfl ?_
  refine AOps.sim okL rfl rfl ?_
  refine AOps.nil ?_
  refine AWp.block ?_
  refine AWp.loopM (α := Nat) (fun a => l.length - a) (fun a => [(0, .ds (l.map spanC)), (5, .ds (l.map spanC)), (6, i64 (l.map spanC).length), (7, i64 a)]) (fun _ => _)
    (fun a => a ≤ l.length ∧ setGo (prevHi l a) (l.drop a) = setGo none l) 0 ⟨Nat.zero_le _, rfl⟩ ?_ (List.Perm.refl _) ?_
  · simp only [AllIn]
    refine ⟨rfl, rfl, rfl, rfl, trivial⟩
  rintro k ⟨hk, hm⟩ ih
  refine AWp.seq ?_
  refine AWp.region ?_
  refine AOps.sim okL rfl rfl ?_
  refine AOps.nil ?_
  refine AWp.seq ?_
  first | refine AWp.condCase rfl (fun h => ?_) (fun h => ?_) | refine AWp.cond rfl (fun h => ?_) (fun h => ?_)
  · have h := of_decide_eq_true h
    simp only [List.length_map] at h
    obtain ⟨y, hy⟩ : ∃ y, l[k]? = some y := ⟨l[k], by simp [show k < l.length by omega]⟩
    rw [drop_get hy] at hm
    have nx := nxt (k := k) (n := l.length) (by omega) hlen
    cases k with
    | zero =>
      simp only [prevHi] at hm
      refine AWp.skip ?_
      refine AWp.seq ?_
      refine AWp.block ?_
      refine AWp.seq ?_
      refine AWp.region ?_
      refine AOps.sim okL rfl rfl ?_
      refine AOps.sim okL (sOp_idxD rfl rfl rfl rfl rfl (by omega) (getS hy) rfl) rfl ?_
      refine AOps.sim okL rfl rfl ?_
      refine AOps.pln ?_; refine AOp.alloc okL rfl rfl rfl ?_; intro _ _
      refine AOps.sim okL rfl rfl ?_
      refine AOps.pln ?_; refine AOp.store okL rfl rfl rfl (isVal_or rfl) rfl rfl rfl .here rfl rfl rfl ?_
      refine AOps.nil ?_
      refine AWp.seq ?_
      refine AWp.drawn okL hmix (by kernel_rfl) ?_
      refine Pl.pure rfl rfl ?_
      refine Pl.quiet rfl rfl rfl (AOp.load okL rfl (.head _) rfl rfl rfl rfl (AOps.nil (Qn_n ⟨rfl, rfl⟩))) ?_
      focus (refine Pl.quiet (v := ?_) rfl rfl rfl (AOp.callP rfl rfl rfl ?_ (AOps.nil (Qn_n ⟨rfl, rfl⟩))) ?_; rotate_left; exact (patIsChar_tr _))
      refine Pl.pure rfl rfl ?_
      refine Pl.pure rfl rfl ?_
      refine Pl.guardCase rfl rfl (fun h => ?_) (fun h => ?_)
      · refine Pl.skip rfl rfl ?_
        refine Pl.skip rfl rfl ?_
        refine Pl.skip rfl rfl ?_
        refine Pl.skip rfl rfl ?_
        refine Pl.pure rfl rfl ?_
        refine Pl.pure rfl rfl ?_
        refine Pl.skip rfl rfl ?_
        refine Pl.skip rfl rfl ?_
        refine Pl.skip rfl rfl ?_
        refine Pl.skip rfl rfl ?_
        refine Pl.skip rfl rfl ?_
        refine Pl.pure rfl rfl ?_
        refine Pl.pure rfl rfl ?_
        refine Pl.skip rfl rfl ?_
        refine Pl.skip rfl rfl ?_
        refine Pl.skip rfl rfl ?_
        refine Pl.skip rfl rfl ?_
        refine Pl.skip rfl rfl ?_
        refine Pl.skip rfl rfl ?_
        refine Pl.skip rfl rfl ?_
        refine Pl.skip rfl rfl ?_
        refine Pl.skip rfl rfl ?_
        refine Pl.skip rfl rfl ?_
        refine Pl.skip rfl rfl ?_
        refine Pl.skip rfl rfl ?_
        refine Pl.skip rfl rfl ?_
        refine Pl.skip rfl rfl ?_
        refine Pl.pure rfl rfl ?_
        refine Pl.nil ?_
        refine AWp.condT rfl ?_
        refine AWp.seq ?_
        refine AWp.region ?_
        refine AOps.sim okL rfl rfl ?_
        refine AOps.nil ?_
        refine AWp.ret ?_
        refine blockQ_r ?_
        refine seqQ_r ?_
        refine seqQ_r ?_
        refine blockQ_r ?_
        refine seqQ_r ?_
        first | (refine bodyQ_r (by first | exact ResOk.one rfl rfl | exact ResOk.two rfl rfl rfl | exact ResOk.three rfl rfl rfl rfl | exact ResOk.none rfl) ?_; rw [setM, ← hm, setGo_F (by simp_all)]; rfl) | (refine AIn.nextN 1 (ih (0 + 1) (⟨by omega, by rw [prevHi_next hy, ← hm, setGo_T (by simp_all) (by simp_all) (by simp_all) rfl]⟩) (by first | omega | (simp only; omega))) ?_ rfl; repeat (first | exact trivial | refine ⟨rfl, ?_⟩ | refine ⟨congrArg some nx, ?_⟩))
      refine Pl.pureW rfl rfl rfl ?_
      refine Pl.quiet rfl rfl rfl (AOp.load okL rfl (.head _) rfl rfl rfl rfl (AOps.nil (Qn_n ⟨rfl, rfl⟩))) ?_
      focus (refine Pl.quiet (v := ?_) rfl rfl rfl (AOp.callP rfl rfl rfl ?_ (AOps.nil (Qn_n ⟨rfl, rfl⟩))) ?_; rotate_left; exact (patIsChar_tr _))
      refine Pl.pureW rfl rfl rfl ?_
      refine Pl.pure rfl rfl ?_
      refine Pl.pure rfl rfl ?_
      refine Pl.guardCase rfl rfl (fun h => ?_) (fun h => ?_)
      · refine Pl.skip rfl rfl ?_
        refine Pl.skip rfl rfl ?_
        refine Pl.skip rfl rfl ?_
        refine Pl.skip rfl rfl ?_
        refine Pl.skip rfl rfl ?_
        refine Pl.pure rfl rfl ?_
        refine Pl.pure rfl rfl ?_
        refine Pl.skip rfl rfl ?_
        refine Pl.skip rfl rfl ?_
        refine Pl.skip rfl rfl ?_
        refine Pl.skip rfl rfl ?_
        refine Pl.skip rfl rfl ?_
        refine Pl.skip rfl rfl ?_
        refine Pl.skip rfl rfl ?_
        refine Pl.skip rfl rfl ?_
        refine Pl.skip rfl rfl ?_
        refine Pl.skip rfl rfl ?_
        refine Pl.skip rfl rfl ?_
        refine Pl.skip rfl rfl ?_
        refine Pl.skip rfl rfl ?_
        refine Pl.skip rfl rfl ?_
        refine Pl.pure rfl rfl ?_
        refine Pl.nil ?_
        refine AWp.condT rfl ?_
        refine AWp.seq ?_
        refine AWp.region ?_
        refine AOps.sim okL rfl rfl ?_
        refine AOps.nil ?_
        refine AWp.ret ?_
        refine blockQ_r ?_
        refine seqQ_r ?_
        refine seqQ_r ?_
        refine blockQ_r ?_
        refine seqQ_r ?_
        first | (refine bodyQ_r (by first | exact ResOk.one rfl rfl | exact ResOk.two rfl rfl rfl | exact ResOk.three rfl rfl rfl rfl | exact ResOk.none rfl) ?_; rw [setM, ← hm, setGo_F (by simp_all)]; rfl) | (refine AIn.nextN 1 (ih (0 + 1) (⟨by omega, by rw [prevHi_next hy, ← hm, setGo_T (by simp_all) (by simp_all) (by simp_all) rfl]⟩) (by first | omega | (simp only; omega))) ?_ rfl; repeat (first | exact trivial | refine ⟨rfl, ?_⟩ | refine ⟨congrArg some nx, ?_⟩))
      refine Pl.pureW rfl rfl rfl ?_
      refine Pl.quiet rfl rfl rfl (AOp.load okL rfl (.head _) rfl rfl rfl rfl (AOps.nil (Qn_n ⟨rfl, rfl⟩))) ?_
      refine Pl.pureW rfl rfl rfl ?_
      refine Pl.quiet rfl rfl rfl (AOp.load okL rfl (.head _) rfl rfl rfl rfl (AOps.nil (Qn_n ⟨rfl, rfl⟩))) ?_
      refine Pl.pureW rfl rfl rfl ?_
      refine Pl.pure rfl rfl ?_
      refine Pl.pure rfl rfl ?_
      refine Pl.guardCase rfl rfl (fun h => ?_) (fun h => ?_)
      · refine Pl.skip rfl rfl ?_
        refine Pl.skip rfl rfl ?_
        refine Pl.skip rfl rfl ?_
        refine Pl.skip rfl rfl ?_
        refine Pl.skip rfl rfl ?_
        refine Pl.skip rfl rfl ?_
        refine Pl.skip rfl rfl ?_
        refine Pl.skip rfl rfl ?_
        refine Pl.skip rfl rfl ?_
        refine Pl.skip rfl rfl ?_
        refine Pl.skip rfl rfl ?_
        refine Pl.skip rfl rfl ?_
        refine Pl.skip rfl rfl ?_
        refine Pl.skip rfl rfl ?_
        refine Pl.pure rfl rfl ?_
        refine Pl.nil ?_
        refine AWp.condT rfl ?_
        refine AWp.seq ?_
        refine AWp.region ?_
        refine AOps.sim okL rfl rfl ?_
        refine AOps.nil ?_
        refine AWp.ret ?_
        refine blockQ_r ?_
        refine seqQ_r ?_
        refine seqQ_r ?_
        refine blockQ_r ?_
        refine seqQ_r ?_
        first | (refine bodyQ_r (by first | exact ResOk.one rfl rfl | exact ResOk.two rfl rfl rfl | exact ResOk.three rfl rfl rfl rfl | exact ResOk.none rfl) ?_; rw [setM, ← hm, setGo_F (by simp_all)]; rfl) | (refine AIn.nextN 1 (ih (0 + 1) (⟨by omega, by rw [prevHi_next hy, ← hm, setGo_T (by simp_all) (by simp_all) (by simp_all) rfl]⟩) (by first | omega | (simp only; omega))) ?_ rfl; repeat (first | exact trivial | refine ⟨rfl, ?_⟩ | refine ⟨congrArg some nx, ?_⟩))
      refine Pl.pureW rfl rfl rfl ?_
      refine Pl.pureW rfl rfl rfl ?_
      refine Pl.pureW rfl rfl rfl ?_
      refine Pl.skip rfl rfl ?_
      refine Pl.skip rfl rfl ?_
      refine Pl.skip rfl rfl ?_
      refine Pl.skip rfl rfl ?_
      refine Pl.skip rfl rfl ?_
      refine Pl.skip rfl rfl ?_
      refine Pl.skip rfl rfl ?_
      refine Pl.skip rfl rfl ?_
      refine Pl.skip rfl rfl ?_
      refine Pl.skip rfl rfl ?_
      refine Pl.pureW rfl rfl rfl ?_
      refine Pl.pure rfl rfl ?_
      refine Pl.nil ?_
      refine AWp.condF rfl ?_
      refine AWp.skip ?_
      refine AWp.region ?_
      refine AOps.sim okL rfl rfl ?_
      refine AOps.sim okL rfl rfl ?_
      refine AOps.nil ?_
      refine seqQ_n ?_
      first | (refine bodyQ_r (by first | exact ResOk.one rfl rfl | exact ResOk.two rfl rfl rfl | exact ResOk.three rfl rfl rfl rfl | exact ResOk.none rfl) ?_; rw [setM, ← hm, setGo_F (by simp_all)]; rfl) | (refine AIn.nextN 1 (ih (0 + 1) (⟨by omega, by rw [prevHi_next hy, ← hm, setGo_T (by simp_all) (by simp_all) (by simp_all) rfl]⟩) (by first | omega | (simp only; omega))) ?_ rfl; repeat (first | exact trivial | refine ⟨rfl, ?_⟩ | refine ⟨congrArg some nx, ?_⟩))
    | succ k =>
      obtain ⟨z, hz⟩ : ∃ z, l[k]? = some z := ⟨l[k], by simp [show k < l.length by omega]⟩
      simp only [prevHi, hz, Option.map_some] at hm
      have hp := wrap_pred (k := k) (by omega) hlen
      refine AWp.skip ?_
      refine AWp.seq ?_
      refine AWp.block ?_
      refine AWp.seq ?_
      refine AWp.region ?_
      refine AOps.sim okL rfl rfl ?_
      refine AOps.sim okL (sOp_idxD rfl rfl rfl rfl rfl (by omega) (getS hy) rfl) rfl ?_
      refine AOps.sim okL rfl rfl ?_
      refine AOps.pln ?_; refine AOp.alloc okL rfl rfl rfl ?_; intro _ _
      refine AOps.sim okL rfl rfl ?_
      refine AOps.pln ?_; refine AOp.store okL rfl rfl rfl (isVal_or rfl) rfl rfl rfl .here rfl rfl rfl ?_
      refine AOps.nil ?_
      refine AWp.seq ?_
      refine AWp.drawn okL hmix (by kernel_rfl) ?_
      refine Pl.pure rfl rfl ?_
      refine Pl.quiet rfl rfl rfl (AOp.load okL rfl (.head _) rfl rfl rfl rfl (AOps.nil (Qn_n ⟨rfl, rfl⟩))) ?_
      focus (refine Pl.quiet (v := ?_) rfl rfl rfl (AOp.callP rfl rfl rfl ?_ (AOps.nil (Qn_n ⟨rfl, rfl⟩))) ?_; rotate_left; exact (patIsChar_tr _))
      refine Pl.pure rfl rfl ?_
      refine Pl.pure rfl rfl ?_
      refine Pl.guardCase rfl rfl (fun h => ?_) (fun h => ?_)
      · refine Pl.skip rfl rfl ?_
        refine Pl.skip rfl rfl ?_
        refine Pl.skip rfl rfl ?_
        refine Pl.skip rfl rfl ?_
        refine Pl.pure rfl rfl ?_
        refine Pl.pure rfl rfl ?_
        refine Pl.skip rfl rfl ?_
        refine Pl.skip rfl rfl ?_
        refine Pl.skip rfl rfl ?_
        refine Pl.skip rfl rfl ?_
        refine Pl.skip rfl rfl ?_
        refine Pl.pure rfl rfl ?_
        refine Pl.pure rfl rfl ?_
        refine Pl.skip rfl rfl ?_
        refine Pl.skip rfl rfl ?_
        refine Pl.skip rfl rfl ?_
        refine Pl.skip rfl rfl ?_
        refine Pl.skip rfl rfl ?_
        refine Pl.skip rfl rfl ?_
        refine Pl.skip rfl rfl ?_
        refine Pl.skip rfl rfl ?_
        refine Pl.skip rfl rfl ?_
        refine Pl.skip rfl rfl ?_
        refine Pl.skip rfl rfl ?_
        refine Pl.skip rfl rfl ?_
        refine Pl.skip rfl rfl ?_
        refine Pl.skip rfl rfl ?_
        refine Pl.pure rfl rfl ?_
        refine Pl.nil ?_
        refine AWp.condT rfl ?_
        refine AWp.seq ?_
        refine AWp.region ?_
        refine AOps.sim okL rfl rfl ?_
        refine AOps.nil ?_
        refine AWp.ret ?_
        refine blockQ_r ?_
        refine seqQ_r ?_
        refine seqQ_r ?_
        refine blockQ_r ?_
        refine seqQ_r ?_
        first | (refine bodyQ_r (by first | exact ResOk.one rfl rfl | exact ResOk.two rfl rfl rfl | exact ResOk.three rfl rfl rfl rfl | exact ResOk.none rfl) ?_; rw [setM, ← hm, setGo_F (by first | (simp_all; done) | exact .inr (.inr (.inr (hiOk_F (by simp_all)))))]; rfl) | (refine AIn.nextN 1 (ih (k + 1 + 1) (⟨by omega, by rw [prevHi_next hy, ← hm, setGo_T (by simp_all) (by simp_all) (by simp_all) (hiOk_T (by simp_all))]⟩) (by first | omega | (simp only; omega))) ?_ rfl; repeat (first | exact trivial | refine ⟨rfl, ?_⟩ | refine ⟨congrArg some nx, ?_⟩)) | (exfalso; clear ih; simp at *; omega)
      refine Pl.pureW rfl rfl rfl ?_
      refine Pl.quiet rfl rfl rfl (AOp.load okL rfl (.head _) rfl rfl rfl rfl (AOps.nil (Qn_n ⟨rfl, rfl⟩))) ?_
      focus (refine Pl.quiet (v := ?_) rfl rfl rfl (AOp.callP rfl rfl rfl ?_ (AOps.nil (Qn_n ⟨rfl, rfl⟩))) ?_; rotate_left; exact (patIsChar_tr _))
      refine Pl.pureW rfl rfl rfl ?_
      refine Pl.pure rfl rfl ?_
      refine Pl.pure rfl rfl ?_
      refine Pl.guardCase rfl rfl (fun h => ?_) (fun h => ?_)
      · refine Pl.skip rfl rfl ?_
        refine Pl.skip rfl rfl ?_
        refine Pl.skip rfl rfl ?_
        refine Pl.skip rfl rfl ?_
        refine Pl.skip rfl rfl ?_
        refine Pl.pure rfl rfl ?_
        refine Pl.pure rfl rfl ?_
        refine Pl.skip rfl rfl ?_
        refine Pl.skip rfl rfl ?_
        refine Pl.skip rfl rfl ?_
        refine Pl.skip rfl rfl ?_
        refine Pl.skip rfl rfl ?_
        refine Pl.skip rfl rfl ?_
        refine Pl.skip rfl rfl ?_
        refine Pl.skip rfl rfl ?_
        refine Pl.skip rfl rfl ?_
        refine Pl.skip rfl rfl ?_
        refine Pl.skip rfl rfl ?_
        refine Pl.skip rfl rfl ?_
        refine Pl.skip rfl rfl ?_
        refine Pl.skip rfl rfl ?_
        refine Pl.pure rfl rfl ?_
        refine Pl.nil ?_
        refine AWp.condT rfl ?_
        refine AWp.seq ?_
        refine AWp.region ?_
        refine AOps.sim okL rfl rfl ?_
        refine AOps.nil ?_
        refine AWp.ret ?_
        refine blockQ_r ?_
        refine seqQ_r ?_
        refine seqQ_r ?_
        refine blockQ_r ?_
        refine seqQ_r ?_
        first | (refine bodyQ_r (by first | exact ResOk.one rfl rfl | exact ResOk.two rfl rfl rfl | exact ResOk.three rfl rfl rfl rfl | exact ResOk.none rfl) ?_; rw [setM, ← hm, setGo_F (by first | (simp_all; done) | exact .inr (.inr (.inr (hiOk_F (by simp_all)))))]; rfl) | (refine AIn.nextN 1 (ih (k + 1 + 1) (⟨by omega, by rw [prevHi_next hy, ← hm, setGo_T (by simp_all) (by simp_all) (by simp_all) (hiOk_T (by simp_all))]⟩) (by first | omega | (simp only; omega))) ?_ rfl; repeat (first | exact trivial | refine ⟨rfl, ?_⟩ | refine ⟨congrArg some nx, ?_⟩)) | (exfalso; clear ih; simp at *; omega)
      refine Pl.pureW rfl rfl rfl ?_
      refine Pl.quiet rfl rfl rfl (AOp.load okL rfl (.head _) rfl rfl rfl rfl (AOps.nil (Qn_n ⟨rfl, rfl⟩))) ?_
      refine Pl.pureW rfl rfl rfl ?_
      refine Pl.quiet rfl rfl rfl (AOp.load okL rfl (.head _) rfl rfl rfl rfl (AOps.nil (Qn_n ⟨rfl, rfl⟩))) ?_
      refine Pl.pureW rfl rfl rfl ?_
      refine Pl.pure rfl rfl ?_
      refine Pl.pure rfl rfl ?_
      refine Pl.guardCase rfl rfl (fun h => ?_) (fun h => ?_)
      · refine Pl.skip rfl rfl ?_
        refine Pl.skip rfl rfl ?_
        refine Pl.skip rfl rfl ?_
        refine Pl.skip rfl rfl ?_
        refine Pl.skip rfl rfl ?_
        refine Pl.skip rfl rfl ?_
        refine Pl.skip rfl rfl ?_
        refine Pl.skip rfl rfl ?_
        refine Pl.skip rfl rfl ?_
        refine Pl.skip rfl rfl ?_
        refine Pl.skip rfl rfl ?_
        refine Pl.skip rfl rfl ?_
        refine Pl.skip rfl rfl ?_
        refine Pl.skip rfl rfl ?_
        refine Pl.pure rfl rfl ?_
        refine Pl.nil ?_
        refine AWp.condT rfl ?_
        refine AWp.seq ?_
        refine AWp.region ?_
        refine AOps.sim okL rfl rfl ?_
        refine AOps.nil ?_
        refine AWp.ret ?_
        refine blockQ_r ?_
        refine seqQ_r ?_
        refine seqQ_r ?_
        refine blockQ_r ?_
        refine seqQ_r ?_
        first | (refine bodyQ_r (by first | exact ResOk.one rfl rfl | exact ResOk.two rfl rfl rfl | exact ResOk.three rfl rfl rfl rfl | exact ResOk.none rfl) ?_; rw [setM, ← hm, setGo_F (by first | (simp_all; done) | exact .inr (.inr (.inr (hiOk_F (by simp_all)))))]; rfl) | (refine AIn.nextN 1 (ih (k + 1 + 1) (⟨by omega, by rw [prevHi_next hy, ← hm, setGo_T (by simp_all) (by simp_all) (by simp_all) (hiOk_T (by simp_all))]⟩) (by first | omega | (simp only; omega))) ?_ rfl; repeat (first | exact trivial | refine ⟨rfl, ?_⟩ | refine ⟨congrArg some nx, ?_⟩)) | (exfalso; clear ih; simp at *; omega)
      refine Pl.pureW rfl rfl rfl ?_
      refine Pl.pureW rfl rfl rfl ?_
      refine Pl.pureW rfl rfl rfl ?_
      refine Pl.guardCase rfl rfl (fun h => ?_) (fun h => ?_)
      · refine Pl.pureW rfl rfl rfl ?_
        refine Pl.quiet rfl rfl rfl (AOp.load okL rfl (.head _) rfl rfl rfl rfl (AOps.nil (Qn_n ⟨rfl, rfl⟩))) ?_
        refine Pl.pureW rfl rfl rfl ?_
        refine Pl.pureW rfl rfl rfl ?_
        refine Pl.pureW rfl rfl rfl ?_
        refine Pl.pureW rfl rfl (sOp_idxD rfl rfl rfl rfl rfl (by rw [hp]; omega) (by rw [hp]; exact getS hz) rfl) ?_
        refine Pl.pureW rfl rfl rfl ?_
        refine Pl.pureW rfl rfl rfl ?_
        refine Pl.pureW rfl rfl rfl ?_
        refine Pl.pureW rfl rfl rfl ?_
        refine Pl.pureW rfl rfl rfl ?_
        refine Pl.pure rfl rfl ?_
        refine Pl.nil ?_
        refine seqQ_n ?_
        refine AWp.condCase rfl (fun h => ?_) (fun h => ?_)
        · refine AWp.seq ?_
          refine AWp.region ?_
          refine AOps.sim okL rfl rfl ?_
          refine AOps.nil ?_
          refine AWp.ret ?_
          refine blockQ_r ?_
          refine seqQ_r ?_
          refine seqQ_r ?_
          refine blockQ_r ?_
          refine seqQ_r ?_
          first | (refine bodyQ_r (by first | exact ResOk.one rfl rfl | exact ResOk.two rfl rfl rfl | exact ResOk.three rfl rfl rfl rfl | exact ResOk.none rfl) ?_; rw [setM, ← hm, setGo_F (by first | (simp_all; done) | exact .inr (.inr (.inr (hiOk_F (by simp_all)))))]; rfl) | (refine AIn.nextN 1 (ih (k + 1 + 1) (⟨by omega, by rw [prevHi_next hy, ← hm, setGo_T (by simp_all) (by simp_all) (by simp_all) (hiOk_T (by simp_all))]⟩) (by first | omega | (simp only; omega))) ?_ rfl; repeat (first | exact trivial | refine ⟨rfl, ?_⟩ | refine ⟨congrArg some nx, ?_⟩)) | (exfalso; clear ih; simp at *; omega)
        refine AWp.skip ?_
        refine AWp.region ?_
        refine AOps.sim okL rfl rfl ?_
        refine AOps.sim okL rfl rfl ?_
        refine AOps.nil ?_
        refine seqQ_n ?_
        first | (refine bodyQ_r (by first | exact ResOk.one rfl rfl | exact ResOk.two rfl rfl rfl | exact ResOk.three rfl rfl rfl rfl | exact ResOk.none rfl) ?_; rw [setM, ← hm, setGo_F (by first | (simp_all; done) | exact .inr (.inr (.inr (hiOk_F (by simp_all)))))]; rfl) | (refine AIn.nextN 1 (ih (k + 1 + 1) (⟨by omega, by rw [prevHi_next hy, ← hm, setGo_T (by simp_all) (by simp_all) (by simp_all) (hiOk_T (by simp_all))]⟩) (by first | omega | (simp only; omega))) ?_ rfl; repeat (first | exact trivial | refine ⟨rfl, ?_⟩ | refine ⟨congrArg some nx, ?_⟩)) | (exfalso; clear ih; simp at *; omega)
      refine Pl.skip rfl rfl ?_
      refine Pl.skip rfl rfl ?_
      refine Pl.skip rfl rfl ?_
      refine Pl.skip rfl rfl ?_
      refine Pl.skip rfl rfl ?_
      refine Pl.skip rfl rfl ?_
      refine Pl.skip rfl rfl ?_
      refine Pl.skip rfl rfl ?_
      refine Pl.skip rfl rfl ?_
      refine Pl.skip rfl rfl ?_
      refine Pl.pureW rfl rfl rfl ?_
      refine Pl.pure rfl rfl ?_
      refine Pl.nil ?_
      refine AWp.condF rfl ?_
      refine AWp.skip ?_
      refine AWp.region ?_
      refine AOps.sim okL rfl rfl ?_
      refine AOps.sim okL rfl rfl ?_
      refine AOps.nil ?_
      refine seqQ_n ?_
      first | (refine bodyQ_r (by first | exact ResOk.one rfl rfl | exact ResOk.two rfl rfl rfl | exact ResOk.three rfl rfl rfl rfl | exact ResOk.none rfl) ?_; rw [setM, ← hm, setGo_F (by first | (simp_all; done) | exact .inr (.inr (.inr (hiOk_F (by simp_all)))))]; rfl) | (refine AIn.nextN 1 (ih (k + 1 + 1) (⟨by omega, by rw [prevHi_next hy, ← hm, setGo_T (by simp_all) (by simp_all) (by simp_all) (hiOk_T (by simp_all))]⟩) (by first | omega | (simp only; omega))) ?_ rfl; repeat (first | exact trivial | refine ⟨rfl, ?_⟩ | refine ⟨congrArg some nx, ?_⟩)) | (exfalso; clear ih; simp at *; omega)
  have h := of_decide_eq_false h
  simp only [List.length_map] at h
  rw [List.drop_eq_nil_of_le (by omega)] at hm
  refine AWp.exit ?_
  refine AWp.seq ?_
  refine AWp.region ?_
  refine AOps.sim okL rfl rfl ?_
  refine AOps.sim okL rfl rfl ?_
  refine AOps.sim okL rfl rfl ?_
  refine AOps.sim okL rfl rfl ?_
  refine AOps.guardCase rfl rfl rfl (fun h => ?_) (fun h => ?_)
  · refine AOps.simW okL rfl rfl rfl rfl ?_
    refine AOps.simW okL rfl rfl rfl rfl ?_
    refine AOps.simW okL rfl rfl rfl rfl ?_
    refine AOps.sim okL rfl rfl ?_
    refine AOps.sim okL rfl rfl ?_
    refine AOps.nil ?_
    refine AWp.ret ?_
    refine bodyQ_r (by first | exact ResOk.one rfl rfl | exact ResOk.two rfl rfl rfl | exact ResOk.three rfl rfl rfl rfl | exact ResOk.none rfl) ?_; simp_all [setM, inM, setGo] <;> omega
  refine AOps.unw rfl rfl rfl rfl ?_
  refine AOps.unw rfl rfl rfl rfl ?_
  refine AOps.unw rfl rfl rfl rfl ?_
  refine AOps.sim okL rfl rfl ?_
  refine AOps.sim okL rfl rfl ?_
  refine AOps.nil ?_
  refine AWp.ret ?_
  refine bodyQ_r (by first | exact ResOk.one rfl rfl | exact ResOk.two rfl rfl rfl | exact ResOk.three rfl rfl rfl rfl | exact ResOk.none rfl) ?_; simp_all [setM, inM, setGo] <;> omega
end Go.Proofs.YtdeenhdmmeahgaaGreatDoor

namespace Go.Proofs.YtdeenhdmmeahgaaGreatDoor
open Go Go.Abs
set_option linter.unusedVariables false
set_option maxRecDepth 100000
set_option linter.unusedSimpArgs false

set_option maxHeartbeats 1000000 in
theorem refIsSet_tr (l : List (Int × Int)) : PTr Tryz.prog 76 [.ds (l.map spanC)] (.bool (setM l)) := by
  refine PTr.of_body (N := 61) Tryz.func76 rfl rfl rfl ?_
  refine AWp.know (t := 0) rfl (Known.ds _) fun hlen => ?_
  rw [List.length_map] at hlen
  refine AWp.seq ?_
  refine AWp.region ?_
  refine AOps.sim okL rfl rfl ?_
  refine AOps.nil ?_
  refine AWp.seq ?_
  refine AWp.seq ?_
  refine AWp.region ?_
  refine AOps.sim okL rfl rfl ?_
  refine AOps.nil ?_
  refine AWp.block ?_
  refine AWp.loopM (α := Nat) (fun a => l.length - a) (fun a => [(0, .ds (l.map spanC)), (3, i64 a)]) (fun _ => _)
    (fun a => a ≤ l.length ∧ setGo (prevHi l a) (l.drop a) = setGo none l) 0 ⟨Nat.zero_le _, rfl⟩ ?_ (List.Perm.refl _) ?_
  · simp only [AllIn]
    refine ⟨rfl, rfl, trivial⟩
  rintro k ⟨hk, hm⟩ ih
  refine AWp.seq ?_
  refine AWp.seq ?_
  refine AWp.region ?_
  refine AOps.sim okL rfl rfl ?_
  refine AOps.sim okL rfl rfl ?_
  refine AOps.sim okL rfl rfl ?_
  refine AOps.sim okL rfl rfl ?_
  refine AOps.nil ?_
  refine seqQ_n ?_
  first | refine AWp.condCase rfl (fun h => ?_) (fun h => ?_) | refine AWp.cond rfl (fun h => ?_) (fun h => ?_)
  · have h := of_decide_eq_true h
    simp only [List.length_map] at h
    obtain ⟨y, hy⟩ : ∃ y, l[k]? = some y := ⟨l[k], by simp [show k < l.length by omega]⟩
    rw [drop_get hy] at hm
    have nx := nxt (k := k) (n := l.length) (by omega) hlen
    cases k with
    | zero =>
      simp only [prevHi] at hm
      refine AWp.skip ?_
      refine AWp.seq ?_
      refine AWp.block ?_
      refine AWp.seq ?_
      refine AWp.drawn okL hmix (by kernel_rfl) ?_
      refine Pl.pure rfl rfl ?_
      refine Pl.pure rfl rfl ?_
      refine Pl.pure rfl (sOp_idxD rfl rfl rfl rfl rfl (by omega) (getS hy) rfl) ?_
      refine Pl.pure rfl rfl ?_
      refine Pl.pure rfl rfl ?_
      focus (refine Pl.quiet (v := ?_) rfl rfl rfl (AOp.callP rfl rfl rfl ?_ (AOps.nil (Qn_n ⟨rfl, rfl⟩))) ?_; rotate_left; exact (refIsChar_tr _))
      refine Pl.pure rfl rfl ?_
      refine Pl.pure rfl rfl ?_
      refine Pl.guardCase rfl rfl (fun h => ?_) (fun h => ?_)
      · refine Pl.skip rfl rfl ?_
        refine Pl.skip rfl rfl ?_
        refine Pl.skip rfl rfl ?_
        refine Pl.skip rfl rfl ?_
        refine Pl.skip rfl rfl ?_
        refine Pl.skip rfl rfl ?_
        refine Pl.skip rfl rfl ?_
        refine Pl.pure rfl rfl ?_
        refine Pl.pure rfl rfl ?_
        refine Pl.skip rfl rfl ?_
        refine Pl.skip rfl rfl ?_
        refine Pl.skip rfl rfl ?_
        refine Pl.skip rfl rfl ?_
        refine Pl.skip rfl rfl ?_
        refine Pl.skip rfl rfl ?_
        refine Pl.skip rfl rfl ?_
        refine Pl.skip rfl rfl ?_
        refine Pl.skip rfl rfl ?_
        refine Pl.skip rfl rfl ?_
        refine Pl.skip rfl rfl ?_
        refine Pl.pure rfl rfl ?_
        refine Pl.pure rfl rfl ?_
        refine Pl.skip rfl rfl ?_
        refine Pl.skip rfl rfl ?_
        refine Pl.skip rfl rfl ?_
        refine Pl.skip rfl rfl ?_
        refine Pl.skip rfl rfl ?_
        refine Pl.skip rfl rfl ?_
        refine Pl.skip rfl rfl ?_
        refine Pl.skip rfl rfl ?_
        refine Pl.skip rfl rfl ?_
        refine Pl.skip rfl rfl ?_
        refine Pl.skip rfl rfl ?_
        refine Pl.skip rfl rfl ?_
        refine Pl.skip rfl rfl ?_
        refine Pl.skip rfl rfl ?_
        refine Pl.skip rfl rfl ?_
        refine Pl.skip rfl rfl ?_
        refine Pl.skip rfl rfl ?_
        refine Pl.pure rfl rfl ?_
        refine Pl.nil ?_
        refine AWp.condT rfl ?_
        refine AWp.seq ?_
        refine AWp.region ?_
        refine AOps.sim okL rfl rfl ?_
        refine AOps.nil ?_
        refine AWp.ret ?_
        refine blockQ_r ?_
        refine seqQ_r ?_
        refine seqQ_r ?_
        refine blockQ_r ?_
        refine seqQ_r ?_
        first | (refine bodyQ_r (by first | exact ResOk.one rfl rfl | exact ResOk.two rfl rfl rfl | exact ResOk.three rfl rfl rfl rfl | exact ResOk.none rfl) ?_; rw [setM, ← hm, setGo_F (by simp_all)]; rfl) | (refine AIn.nextN 0 (ih (0 + 1) (⟨by omega, by rw [prevHi_next hy, ← hm, setGo_T (by simp_all) (by simp_all) (by simp_all) rfl]⟩) (by first | omega | (simp only; omega))) ?_ rfl; repeat (first | exact trivial | refine ⟨rfl, ?_⟩ | refine ⟨congrArg some nx, ?_⟩))
      refine Pl.pureW rfl rfl rfl ?_
      refine Pl.pureW rfl rfl rfl ?_
      refine Pl.pureW rfl rfl (sOp_idxD rfl rfl rfl rfl rfl (by omega) (getS hy) rfl) ?_
      refine Pl.pureW rfl rfl rfl ?_
      refine Pl.pureW rfl rfl rfl ?_
      focus (refine Pl.quiet (v := ?_) rfl rfl rfl (AOp.callP rfl rfl rfl ?_ (AOps.nil (Qn_n ⟨rfl, rfl⟩))) ?_; rotate_left; exact (refIsChar_tr _))
      refine Pl.pureW rfl rfl rfl ?_
      refine Pl.pure rfl rfl ?_
      refine Pl.pure rfl rfl ?_
      refine Pl.guardCase rfl rfl (fun h => ?_) (fun h => ?_)
      · refine Pl.skip rfl rfl ?_
        refine Pl.skip rfl rfl ?_
        refine Pl.skip rfl rfl ?_
        refine Pl.skip rfl rfl ?_
        refine Pl.skip rfl rfl ?_
        refine Pl.skip rfl rfl ?_
        refine Pl.skip rfl rfl ?_
        refine Pl.skip rfl rfl ?_
        refine Pl.skip rfl rfl ?_
        refine Pl.skip rfl rfl ?_
        refine Pl.skip rfl rfl ?_
        refine Pl.pure rfl rfl ?_
        refine Pl.pure rfl rfl ?_
        refine Pl.skip rfl rfl ?_
        refine Pl.skip rfl rfl ?_
        refine Pl.skip rfl rfl ?_
        refine Pl.skip rfl rfl ?_
        refine Pl.skip rfl rfl ?_
        refine Pl.skip rfl rfl ?_
        refine Pl.skip rfl rfl ?_
        refine Pl.skip rfl rfl ?_
        refine Pl.skip rfl rfl ?_
        refine Pl.skip rfl rfl ?_
        refine Pl.skip rfl rfl ?_
        refine Pl.skip rfl rfl ?_
        refine Pl.skip rfl rfl ?_
        refine Pl.skip rfl rfl ?_
        refine Pl.skip rfl rfl ?_
        refine Pl.skip rfl rfl ?_
        refine Pl.skip rfl rfl ?_
        refine Pl.pure rfl rfl ?_
        refine Pl.nil ?_
        refine AWp.condT rfl ?_
        refine AWp.seq ?_
        refine AWp.region ?_
        refine AOps.sim okL rfl rfl ?_
        refine AOps.nil ?_
        refine AWp.ret ?_
        refine blockQ_r ?_
        refine seqQ_r ?_
        refine seqQ_r ?_
        refine blockQ_r ?_
        refine seqQ_r ?_
        first | (refine bodyQ_r (by first | exact ResOk.one rfl rfl | exact ResOk.two rfl rfl rfl | exact ResOk.three rfl rfl rfl rfl | exact ResOk.none rfl) ?_; rw [setM, ← hm, setGo_F (by simp_all)]; rfl) | (refine AIn.nextN 0 (ih (0 + 1) (⟨by omega, by rw [prevHi_next hy, ← hm, setGo_T (by simp_all) (by simp_all) (by simp_all) rfl]⟩) (by first | omega | (simp only; omega))) ?_ rfl; repeat (first | exact trivial | refine ⟨rfl, ?_⟩ | refine ⟨congrArg some nx, ?_⟩))
      refine Pl.pureW rfl rfl rfl ?_
      refine Pl.pureW rfl rfl rfl ?_
      refine Pl.pureW rfl rfl (sOp_idxD rfl rfl rfl rfl rfl (by omega) (getS hy) rfl) ?_
      refine Pl.pureW rfl rfl rfl ?_
      refine Pl.pureW rfl rfl rfl ?_
      refine Pl.pureW rfl rfl rfl ?_
      refine Pl.pureW rfl rfl rfl ?_
      refine Pl.pureW rfl rfl (sOp_idxD rfl rfl rfl rfl rfl (by omega) (getS hy) rfl) ?_
      refine Pl.pureW rfl rfl rfl ?_
      refine Pl.pureW rfl rfl rfl ?_
      refine Pl.pureW rfl rfl rfl ?_
      refine Pl.pure rfl rfl ?_
      refine Pl.pure rfl rfl ?_
      refine Pl.guardCase rfl rfl (fun h => ?_) (fun h => ?_)
      · refine Pl.skip rfl rfl ?_
        refine Pl.skip rfl rfl ?_
        refine Pl.skip rfl rfl ?_
        refine Pl.skip rfl rfl ?_
        refine Pl.skip rfl rfl ?_
        refine Pl.skip rfl rfl ?_
        refine Pl.skip rfl rfl ?_
        refine Pl.skip rfl rfl ?_
        refine Pl.skip rfl rfl ?_
        refine Pl.skip rfl rfl ?_
        refine Pl.skip rfl rfl ?_
        refine Pl.skip rfl rfl ?_
        refine Pl.skip rfl rfl ?_
        refine Pl.skip rfl rfl ?_
        refine Pl.skip rfl rfl ?_
        refine Pl.skip rfl rfl ?_
        refine Pl.skip rfl rfl ?_
        refine Pl.pure rfl rfl ?_
        refine Pl.nil ?_
        refine AWp.condT rfl ?_
        refine AWp.seq ?_
        refine AWp.region ?_
        refine AOps.sim okL rfl rfl ?_
        refine AOps.nil ?_
        refine AWp.ret ?_
        refine blockQ_r ?_
        refine seqQ_r ?_
        refine seqQ_r ?_
        refine blockQ_r ?_
        refine seqQ_r ?_
        first | (refine bodyQ_r (by first | exact ResOk.one rfl rfl | exact ResOk.two rfl rfl rfl | exact ResOk.three rfl rfl rfl rfl | exact ResOk.none rfl) ?_; rw [setM, ← hm, setGo_F (by simp_all)]; rfl) | (refine AIn.nextN 0 (ih (0 + 1) (⟨by omega, by rw [prevHi_next hy, ← hm, setGo_T (by simp_all) (by simp_all) (by simp_all) rfl]⟩) (by first | omega | (simp only; omega))) ?_ rfl; repeat (first | exact trivial | refine ⟨rfl, ?_⟩ | refine ⟨congrArg some nx, ?_⟩))
      refine Pl.pureW rfl rfl rfl ?_
      refine Pl.pureW rfl rfl rfl ?_
      refine Pl.pureW rfl rfl rfl ?_
      refine Pl.skip rfl rfl ?_
      refine Pl.skip rfl rfl ?_
      refine Pl.skip rfl rfl ?_
      refine Pl.skip rfl rfl ?_
      refine Pl.skip rfl rfl ?_
      refine Pl.skip rfl rfl ?_
      refine Pl.skip rfl rfl ?_
      refine Pl.skip rfl rfl ?_
      refine Pl.skip rfl rfl ?_
      refine Pl.skip rfl rfl ?_
      refine Pl.skip rfl rfl ?_
      refine Pl.skip rfl rfl ?_
      refine Pl.skip rfl rfl ?_
      refine Pl.pureW rfl rfl rfl ?_
      refine Pl.pure rfl rfl ?_
      refine Pl.nil ?_
      refine AWp.condF rfl ?_
      refine AWp.skip ?_
      refine AWp.region ?_
      refine AOps.sim okL rfl rfl ?_
      refine AOps.sim okL rfl rfl ?_
      refine AOps.sim okL rfl rfl ?_
      refine AOps.nil ?_
      refine seqQ_n ?_
      first | (refine bodyQ_r (by first | exact ResOk.one rfl rfl | exact ResOk.two rfl rfl rfl | exact ResOk.three rfl rfl rfl rfl | exact ResOk.none rfl) ?_; rw [setM, ← hm, setGo_F (by simp_all)]; rfl) | (refine AIn.nextN 0 (ih (0 + 1) (⟨by omega, by rw [prevHi_next hy, ← hm, setGo_T (by simp_all) (by simp_all) (by simp_all) rfl]⟩) (by first | omega | (simp only; omega))) ?_ rfl; repeat (first | exact trivial | refine ⟨rfl, ?_⟩ | refine ⟨congrArg some nx, ?_⟩))
    | succ k =>
      obtain ⟨z, hz⟩ : ∃ z, l[k]? = some z := ⟨l[k], by simp [show k < l.length by omega]⟩
      simp only [prevHi, hz, Option.map_some] at hm
      have hp := wrap_pred (k := k) (by omega) hlen
      refine AWp.skip ?_
      refine AWp.seq ?_
      refine AWp.block ?_
      refine AWp.seq ?_
      refine AWp.drawn okL hmix (by kernel_rfl) ?_
      refine Pl.pure rfl rfl ?_
      refine Pl.pure rfl rfl ?_
      refine Pl.pure rfl (sOp_idxD rfl rfl rfl rfl rfl (by omega) (getS hy) rfl) ?_
      refine Pl.pure rfl rfl ?_
      refine Pl.pure rfl rfl ?_
      focus (refine Pl.quiet (v := ?_) rfl rfl rfl (AOp.callP rfl rfl rfl ?_ (AOps.nil (Qn_n ⟨rfl, rfl⟩))) ?_; rotate_left; exact (refIsChar_tr _))
      refine Pl.pure rfl rfl ?_
      refine Pl.pure rfl rfl ?_
      refine Pl.guardCase rfl rfl (fun h => ?_) (fun h => ?_)
      · refine Pl.skip rfl rfl ?_
        refine Pl.skip rfl rfl ?_
        refine Pl.skip rfl rfl ?_
        refine Pl.skip rfl rfl ?_
        refine Pl.skip rfl rfl ?_
        refine Pl.skip rfl rfl ?_
        refine Pl.skip rfl rfl ?_
        refine Pl.pure rfl rfl ?_
        refine Pl.pure rfl rfl ?_
        refine Pl.skip rfl rfl ?_
        refine Pl.skip rfl rfl ?_
        refine Pl.skip rfl rfl ?_
        refine Pl.skip rfl rfl ?_
        refine Pl.skip rfl rfl ?_
        refine Pl.skip rfl rfl ?_
        refine Pl.skip rfl rfl ?_
        refine Pl.skip rfl rfl ?_
        refine Pl.skip rfl rfl ?_
        refine Pl.skip rfl rfl ?_
        refine Pl.skip rfl rfl ?_
        refine Pl.pure rfl rfl ?_
        refine Pl.pure rfl rfl ?_
        refine Pl.skip rfl rfl ?_
        refine Pl.skip rfl rfl ?_
        refine Pl.skip rfl rfl ?_
        refine Pl.skip rfl rfl ?_
        refine Pl.skip rfl rfl ?_
        refine Pl.skip rfl rfl ?_
        refine Pl.skip rfl rfl ?_
        refine Pl.skip rfl rfl ?_
        refine Pl.skip rfl rfl ?_
        refine Pl.skip rfl rfl ?_
        refine Pl.skip rfl rfl ?_
        refine Pl.skip rfl rfl ?_
        refine Pl.skip rfl rfl ?_
        refine Pl.skip rfl rfl ?_
        refine Pl.skip rfl rfl ?_
        refine Pl.skip rfl rfl ?_
        refine Pl.skip rfl rfl ?_
        refine Pl.pure rfl rfl ?_
        refine Pl.nil ?_
        refine AWp.condT rfl ?_
        refine AWp.seq ?_
        refine AWp.region ?_
        refine AOps.sim okL rfl rfl ?_
        refine AOps.nil ?_
        refine AWp.ret ?_
        refine blockQ_r ?_
        refine seqQ_r ?_
        refine seqQ_r ?_
        refine blockQ_r ?_
        refine seqQ_r ?_
        first | (refine bodyQ_r (by first | exact ResOk.one rfl rfl | exact ResOk.two rfl rfl rfl | exact ResOk.three rfl rfl rfl rfl | exact ResOk.none rfl) ?_; rw [setM, ← hm, setGo_F (by first | (simp_all; done) | exact .inr (.inr (.inr (hiOk_F (by simp_all)))))]; rfl) | (refine AIn.nextN 0 (ih (k + 1 + 1) (⟨by omega, by rw [prevHi_next hy, ← hm, setGo_T (by simp_all) (by simp_all) (by simp_all) (hiOk_T (by simp_all))]⟩) (by first | omega | (simp only; omega))) ?_ rfl; repeat (first | exact trivial | refine ⟨rfl, ?_⟩ | refine ⟨congrArg some nx, ?_⟩)) | (exfalso; clear ih; simp at *; omega)
      refine Pl.pureW rfl rfl rfl ?_
      refine Pl.pureW rfl rfl rfl ?_
      refine Pl.pureW rfl rfl (sOp_idxD rfl rfl rfl rfl rfl (by omega) (getS hy) rfl) ?_
      refine Pl.pureW rfl rfl rfl ?_
      refine Pl.pureW rfl rfl rfl ?_
      focus (refine Pl.quiet (v := ?_) rfl rfl rfl (AOp.callP rfl rfl rfl ?_ (AOps.nil (Qn_n ⟨rfl, rfl⟩))) ?_; rotate_left; exact (refIsChar_tr _))
      refine Pl.pureW rfl rfl rfl ?_
      refine Pl.pure rfl rfl ?_
      refine Pl.pure rfl rfl ?_
      refine Pl.guardCase rfl rfl (fun h => ?_) (fun h => ?_)
      · refine Pl.skip rfl rfl ?_
        refine Pl.skip rfl rfl ?_
        refine Pl.skip rfl rfl ?_
        refine Pl.skip rfl rfl ?_
        refine Pl.skip rfl rfl ?_
        refine Pl.skip rfl rfl ?_
        refine Pl.skip rfl rfl ?_
        refine Pl.skip rfl rfl ?_
        refine Pl.skip rfl rfl ?_
        refine Pl.skip rfl rfl ?_
        refine Pl.skip rfl rfl ?_
        refine Pl.pure rfl rfl ?_
        refine Pl.pure rfl rfl ?_
        refine Pl.skip rfl rfl ?_
        refine Pl.skip rfl rfl ?_
        refine Pl.skip rfl rfl ?_
        refine Pl.skip rfl rfl ?_
        refine Pl.skip rfl rfl ?_
        refine Pl.skip rfl rfl ?_
        refine Pl.skip rfl rfl ?_
        refine Pl.skip rfl rfl ?_
        refine Pl.skip rfl rfl ?_
        refine Pl.skip rfl rfl ?_
        refine Pl.skip rfl rfl ?_
        refine Pl.skip rfl rfl ?_
        refine Pl.skip rfl rfl ?_
        refine Pl.skip rfl rfl ?_
        refine Pl.skip rfl rfl ?_
        refine Pl.skip rfl rfl ?_
        refine Pl.skip rfl rfl ?_
        refine Pl.pure rfl rfl ?_
        refine Pl.nil ?_
        refine AWp.condT rfl ?_
        refine AWp.seq ?_
        refine AWp.region ?_
        refine AOps.sim okL rfl rfl ?_
        refine AOps.nil ?_
        refine AWp.ret ?_
        refine blockQ_r ?_
        refine seqQ_r ?_
        refine seqQ_r ?_
        refine blockQ_r ?_
        refine seqQ_r ?_
        first | (refine bodyQ_r (by first | exact ResOk.one rfl rfl | exact ResOk.two rfl rfl rfl | exact ResOk.three rfl rfl rfl rfl | exact ResOk.none rfl) ?_; rw [setM, ← hm, setGo_F (by first | (simp_all; done) | exact .inr (.inr (.inr (hiOk_F (by simp_all)))))]; rfl) | (refine AIn.nextN 0 (ih (k + 1 + 1) (⟨by omega, by rw [prevHi_next hy, ← hm, setGo_T (by simp_all) (by simp_all) (by simp_all) (hiOk_T (by simp_all))]⟩) (by first | omega | (simp only; omega))) ?_ rfl; repeat (first | exact trivial | refine ⟨rfl, ?_⟩ | refine ⟨congrArg some nx, ?_⟩)) | (exfalso; clear ih; simp at *; omega)
      refine Pl.pureW rfl rfl rfl ?_
      refine Pl.pureW rfl rfl rfl ?_
      refine Pl.pureW rfl rfl (sOp_idxD rfl rfl rfl rfl rfl (by omega) (getS hy) rfl) ?_
      refine Pl.pureW rfl rfl rfl ?_
      refine Pl.pureW rfl rfl rfl ?_
      refine Pl.pureW rfl rfl rfl ?_
      refine Pl.pureW rfl rfl rfl ?_
      refine Pl.pureW rfl rfl (sOp_idxD rfl rfl rfl rfl rfl (by omega) (getS hy) rfl) ?_
      refine Pl.pureW rfl rfl rfl ?_
      refine Pl.pureW rfl rfl rfl ?_
      refine Pl.pureW rfl rfl rfl ?_
      refine Pl.pure rfl rfl ?_
      refine Pl.pure rfl rfl ?_
      refine Pl.guardCase rfl rfl (fun h => ?_) (fun h => ?_)
      · refine Pl.skip rfl rfl ?_
        refine Pl.skip rfl rfl ?_
        refine Pl.skip rfl rfl ?_
        refine Pl.skip rfl rfl ?_
        refine Pl.skip rfl rfl ?_
        refine Pl.skip rfl rfl ?_
        refine Pl.skip rfl rfl ?_
        refine Pl.skip rfl rfl ?_
        refine Pl.skip rfl rfl ?_
        refine Pl.skip rfl rfl ?_
        refine Pl.skip rfl rfl ?_
        refine Pl.skip rfl rfl ?_
        refine Pl.skip rfl rfl ?_
        refine Pl.skip rfl rfl ?_
        refine Pl.skip rfl rfl ?_
        refine Pl.skip rfl rfl ?_
        refine Pl.skip rfl rfl ?_
        refine Pl.pure rfl rfl ?_
        refine Pl.nil ?_
        refine AWp.condT rfl ?_
        refine AWp.seq ?_
        refine AWp.region ?_
        refine AOps.sim okL rfl rfl ?_
        refine AOps.nil ?_
        refine AWp.ret ?_
        refine blockQ_r ?_
        refine seqQ_r ?_
        refine seqQ_r ?_
        refine blockQ_r ?_
        refine seqQ_r ?_
        first | (refine bodyQ_r (by first | exact ResOk.one rfl rfl | exact ResOk.two rfl rfl rfl | exact ResOk.three rfl rfl rfl rfl | exact ResOk.none rfl) ?_; rw [setM, ← hm, setGo_F (by first | (simp_all; done) | exact .inr (.inr (.inr (hiOk_F (by simp_all)))))]; rfl) | (refine AIn.nextN 0 (ih (k + 1 + 1) (⟨by omega, by rw [prevHi_next hy, ← hm, setGo_T (by simp_all) (by simp_all) (by simp_all) (hiOk_T (by simp_all))]⟩) (by first | omega | (simp only; omega))) ?_ rfl; repeat (first | exact trivial | refine ⟨rfl, ?_⟩ | refine ⟨congrArg some nx, ?_⟩)) | (exfalso; clear ih; simp at *; omega)
      refine Pl.pureW rfl rfl rfl ?_
      refine Pl.pureW rfl rfl rfl ?_
      refine Pl.pureW rfl rfl rfl ?_
      refine Pl.guardCase rfl rfl (fun h => ?_) (fun h => ?_)
      · refine Pl.pureW rfl rfl rfl ?_
        refine Pl.pureW rfl rfl rfl ?_
        refine Pl.pureW rfl rfl rfl ?_
        refine Pl.pureW rfl rfl (sOp_idxD rfl rfl rfl rfl rfl (by rw [hp]; omega) (by rw [hp]; exact getS hz) rfl) ?_
        refine Pl.pureW rfl rfl rfl ?_
        refine Pl.pureW rfl rfl rfl ?_
        refine Pl.pureW rfl rfl rfl ?_
        refine Pl.pureW rfl rfl rfl ?_
        refine Pl.pureW rfl rfl rfl ?_
        refine Pl.pureW rfl rfl (sOp_idxD rfl rfl rfl rfl rfl (by omega) (getS hy) rfl) ?_
        refine Pl.pureW rfl rfl rfl ?_
        refine Pl.pureW rfl rfl rfl ?_
        refine Pl.pureW rfl rfl rfl ?_
        refine Pl.pureW rfl rfl rfl ?_
        refine Pl.pure rfl rfl ?_
        refine Pl.nil ?_
        refine seqQ_n ?_
        refine AWp.condCase rfl (fun h => ?_) (fun h => ?_)
        · refine AWp.seq ?_
          refine AWp.region ?_
          refine AOps.sim okL rfl rfl ?_
          refine AOps.nil ?_
          refine AWp.ret ?_
          refine blockQ_r ?_
          refine seqQ_r ?_
          refine seqQ_r ?_
          refine blockQ_r ?_
          refine seqQ_r ?_
          first | (refine bodyQ_r (by first | exact ResOk.one rfl rfl | exact ResOk.two rfl rfl rfl | exact ResOk.three rfl rfl rfl rfl | exact ResOk.none rfl) ?_; rw [setM, ← hm, setGo_F (by first | (simp_all; done) | exact .inr (.inr (.inr (hiOk_F (by simp_all)))))]; rfl) | (refine AIn.nextN 0 (ih (k + 1 + 1) (⟨by omega, by rw [prevHi_next hy, ← hm, setGo_T (by simp_all) (by simp_all) (by simp_all) (hiOk_T (by simp_all))]⟩) (by first | omega | (simp only; omega))) ?_ rfl; repeat (first | exact trivial | refine ⟨rfl, ?_⟩ | refine ⟨congrArg some nx, ?_⟩)) | (exfalso; clear ih; simp at *; omega)
        refine AWp.skip ?_
        refine AWp.region ?_
        refine AOps.sim okL rfl rfl ?_
        refine AOps.sim okL rfl rfl ?_
        refine AOps.sim okL rfl rfl ?_
        refine AOps.nil ?_
        refine seqQ_n ?_
        first | (refine bodyQ_r (by first | exact ResOk.one rfl rfl | exact ResOk.two rfl rfl rfl | exact ResOk.three rfl rfl rfl rfl | exact ResOk.none rfl) ?_; rw [setM, ← hm, setGo_F (by first | (simp_all; done) | exact .inr (.inr (.inr (hiOk_F (by simp_all)))))]; rfl) | (refine AIn.nextN 0 (ih (k + 1 + 1) (⟨by omega, by rw [prevHi_next hy, ← hm, setGo_T (by simp_all) (by simp_all) (by simp_all) (hiOk_T (by simp_all))]⟩) (by first | omega | (simp only; omega))) ?_ rfl; repeat (first | exact trivial | refine ⟨rfl, ?_⟩ | refine ⟨congrArg some nx, ?_⟩)) | (exfalso; clear ih; simp at *; omega)
      refine Pl.skip rfl rfl ?_
      refine Pl.skip rfl rfl ?_
      refine Pl.skip rfl rfl ?_
      refine Pl.skip rfl rfl ?_
      refine Pl.skip rfl rfl ?_
      refine Pl.skip rfl rfl ?_
      refine Pl.skip rfl rfl ?_
      refine Pl.skip rfl rfl ?_
      refine Pl.skip rfl rfl ?_
      refine Pl.skip rfl rfl ?_
      refine Pl.skip rfl rfl ?_
      refine Pl.skip rfl rfl ?_
      refine Pl.skip rfl rfl ?_
      refine Pl.pureW rfl rfl rfl ?_
      refine Pl.pure rfl rfl ?_
      refine Pl.nil ?_
      refine AWp.condF rfl ?_
      refine AWp.skip ?_
      refine AWp.region ?_
      refine AOps.sim okL rfl rfl ?_
      refine AOps.sim okL rfl rfl ?_
      refine AOps.sim okL rfl rfl ?_
      refine AOps.nil ?_
      refine seqQ_n ?_
      first | (refine bodyQ_r (by first | exact ResOk.one rfl rfl | exact ResOk.two rfl rfl rfl | exact ResOk.three rfl rfl rfl rfl | exact ResOk.none rfl) ?_; rw [setM, ← hm, setGo_F (by first | (simp_all; done) | exact .inr (.inr (.inr (hiOk_F (by simp_all)))))]; rfl) | (refine AIn.nextN 0 (ih (k + 1 + 1) (⟨by omega, by rw [prevHi_next hy, ← hm, setGo_T (by simp_all) (by simp_all) (by simp_all) (hiOk_T (by simp_all))]⟩) (by first | omega | (simp only; omega))) ?_ rfl; repeat (first | exact trivial | refine ⟨rfl, ?_⟩ | refine ⟨congrArg some nx, ?_⟩)) | (exfalso; clear ih; simp at *; omega)
  have h := of_decide_eq_false h
  simp only [List.length_map] at h
  rw [List.drop_eq_nil_of_le (by omega)] at hm
  refine AWp.exit ?_
  refine AWp.seq ?_
  refine AWp.region ?_
  refine AOps.sim okL rfl rfl ?_
  refine AOps.sim okL rfl rfl ?_
  refine AOps.pln ?_; focus (refine AOp.callP (v := ?_) rfl rfl rfl ?_ ?_; rotate_left; exact (refWithin_tr _ _ _))
  refine AOps.sim okL rfl rfl ?_
  refine AOps.nil ?_
  refine AWp.ret ?_
  refine bodyQ_r (by first | exact ResOk.one rfl rfl | exact ResOk.two rfl rfl rfl | exact ResOk.three rfl rfl rfl rfl | exact ResOk.none rfl) ?_
  simp [setM, ← hm, setGo]
def bareM (x : Pat) : Bool := decide (x.n = 0) && (decide (x.min = 0) && (decide (x.max = 0) && (decide (x.name = []) && (decide (x.set = []) && decide (x.l = [])))))
theorem bare_tr (x : Pat) : PTr Tryz.prog 103 [.agg x.C] (.bool (bareM x)) := by
  refine PTr.of_body (N := 33) Tryz.func103 rfl rfl rfl ?_
  refine AWp.seq ?_
  refine AWp.region ?_
  refine AOps.pln ?_; refine AOp.box rfl rfl (isVal_or rfl) rfl rfl ?_; intro _ _
  refine AOps.sim okL rfl rfl ?_
  refine AOps.nil ?_
  refine AWp.seq ?_
  refine AWp.region ?_
  refine AOps.sim okL rfl rfl ?_
  refine AOps.pln ?_; refine AOp.load okL rfl (.head _) rfl rfl rfl rfl ?_
  refine AOps.sim okL rfl rfl ?_
  refine AOps.sim okL rfl rfl ?_
  refine AOps.guardCase rfl rfl rfl (fun h => ?_) (fun h => ?_)
  · refine AOps.simW okL rfl rfl rfl rfl ?_
    refine AOps.wtd rfl rfl rfl ?_; refine AOp.load okL rfl (.head _) rfl rfl rfl rfl ?_
    refine AOps.simW okL rfl rfl rfl rfl ?_
    refine AOps.sim okL rfl rfl ?_
    refine AOps.sim okL rfl rfl ?_
    refine AOps.guardCase rfl rfl rfl (fun h => ?_) (fun h => ?_)
    · refine AOps.simW okL rfl rfl rfl rfl ?_
      refine AOps.wtd rfl rfl rfl ?_; refine AOp.load okL rfl (.head _) rfl rfl rfl rfl ?_
      refine AOps.simW okL rfl rfl rfl rfl ?_
      refine AOps.sim okL rfl rfl ?_
      refine AOps.sim okL rfl rfl ?_
      refine AOps.guardCase rfl rfl rfl (fun h => ?_) (fun h => ?_)
      · refine AOps.simW okL rfl rfl rfl rfl ?_
        refine AOps.wtd rfl rfl rfl ?_; refine AOp.load okL rfl (.head _) rfl rfl rfl rfl ?_
        refine AOps.simW okL rfl rfl rfl rfl ?_
        refine AOps.sim okL rfl rfl ?_
        refine AOps.sim okL rfl rfl ?_
        refine AOps.guardCase rfl rfl rfl (fun h => ?_) (fun h => ?_)
        · refine AOps.simW okL rfl rfl rfl rfl ?_
          refine AOps.wtd rfl rfl rfl ?_; refine AOp.load okL rfl (.head _) rfl rfl rfl rfl ?_
          refine AOps.simW okL rfl rfl rfl rfl ?_
          refine AOps.simW okL rfl rfl rfl rfl ?_
          refine AOps.sim okL rfl rfl ?_
          refine AOps.sim okL rfl rfl ?_
          refine AOps.guardCase rfl rfl rfl (fun h => ?_) (fun h => ?_)
          · refine AOps.simW okL rfl rfl rfl rfl ?_
            refine AOps.wtd rfl rfl rfl ?_; refine AOp.load okL rfl (.head _) rfl rfl rfl rfl ?_
            refine AOps.simW okL rfl rfl rfl rfl ?_
            refine AOps.simW okL rfl rfl rfl rfl ?_
            refine AOps.sim okL rfl rfl ?_
            refine AOps.sim okL rfl rfl ?_
            refine AOps.nil ?_
            refine AWp.ret ?_
            refine bodyQ_r (by first | exact ResOk.one rfl rfl | exact ResOk.two rfl rfl rfl | exact ResOk.three rfl rfl rfl rfl | exact ResOk.none rfl) ?_; simp_all [bareM] <;> (rw [Bool.eq_iff_iff]; simp)
          refine AOps.unw rfl rfl rfl rfl ?_
          refine AOps.unw rfl rfl rfl rfl ?_
          refine AOps.unw rfl rfl rfl rfl ?_
          refine AOps.unw rfl rfl rfl rfl ?_
          refine AOps.sim okL rfl rfl ?_
          refine AOps.sim okL rfl rfl ?_
          refine AOps.nil ?_
          refine AWp.ret ?_
          refine bodyQ_r (by first | exact ResOk.one rfl rfl | exact ResOk.two rfl rfl rfl | exact ResOk.three rfl rfl rfl rfl | exact ResOk.none rfl) ?_; simp_all [bareM] <;> (rw [Bool.eq_iff_iff]; simp)
        refine AOps.unw rfl rfl rfl rfl ?_
        refine AOps.unw rfl rfl rfl rfl ?_
        refine AOps.unw rfl rfl rfl rfl ?_
        refine AOps.unw rfl rfl rfl rfl ?_
        refine AOps.sim okL rfl rfl ?_
        refine AOps.sim okL rfl rfl ?_
        refine AOps.unw rfl rfl rfl rfl ?_
        refine AOps.unw rfl rfl rfl rfl ?_
        refine AOps.unw rfl rfl rfl rfl ?_
        refine AOps.unw rfl rfl rfl rfl ?_
        refine AOps.sim okL rfl rfl ?_
        refine AOps.sim okL rfl rfl ?_
        refine AOps.nil ?_
        refine AWp.ret ?_
        refine bodyQ_r (by first | exact ResOk.one rfl rfl | exact ResOk.two rfl rfl rfl | exact ResOk.three rfl rfl rfl rfl | exact ResOk.none rfl) ?_; simp_all [bareM] <;> (rw [Bool.eq_iff_iff]; simp)
      refine AOps.unw rfl rfl rfl rfl ?_
      refine AOps.unw rfl rfl rfl rfl ?_
      refine AOps.unw rfl rfl rfl rfl ?_
      refine AOps.sim okL rfl rfl ?_
      refine AOps.sim okL rfl rfl ?_
      refine AOps.unw rfl rfl rfl rfl ?_
      refine AOps.unw rfl rfl rfl rfl ?_
      refine AOps.unw rfl rfl rfl rfl ?_
      refine AOps.unw rfl rfl rfl rfl ?_
      refine AOps.sim okL rfl rfl ?_
      refine AOps.sim okL rfl rfl ?_
      refine AOps.unw rfl rfl rfl rfl ?_
      refine AOps.unw rfl rfl rfl rfl ?_
      refine AOps.unw rfl rfl rfl rfl ?_
      refine AOps.unw rfl rfl rfl rfl ?_
      refine AOps.sim okL rfl rfl ?_
      refine AOps.sim okL rfl rfl ?_
      refine AOps.nil ?_
      refine AWp.ret ?_
      refine bodyQ_r (by first | exact ResOk.one rfl rfl | exact ResOk.two rfl rfl rfl | exact ResOk.three rfl rfl rfl rfl | exact ResOk.none rfl) ?_; simp_all [bareM] <;> (rw [Bool.eq_iff_iff]; simp)
    refine AOps.unw rfl rfl rfl rfl ?_
    refine AOps.unw rfl rfl rfl rfl ?_
    refine AOps.unw rfl rfl rfl rfl ?_
    refine AOps.sim okL rfl rfl ?_
    refine AOps.sim okL rfl rfl ?_
    refine AOps.unw rfl rfl rfl rfl ?_
    refine AOps.unw rfl rfl rfl rfl ?_
    refine AOps.unw rfl rfl rfl rfl ?_
    refine AOps.sim okL rfl rfl ?_
    refine AOps.sim okL rfl rfl ?_
    refine AOps.unw rfl rfl rfl rfl ?_
    refine AOps.unw rfl rfl rfl rfl ?_
    refine AOps.unw rfl rfl rfl rfl ?_
    refine AOps.unw rfl rfl rfl rfl ?_
    refine AOps.sim okL rfl rfl ?_
    refine AOps.sim okL rfl rfl ?_
    refine AOps.unw rfl rfl rfl rfl ?_
    refine AOps.unw rfl rfl rfl rfl ?_
    refine AOps.unw rfl rfl rfl rfl ?_
    refine AOps.unw rfl rfl rfl rfl ?_
    refine AOps.sim okL rfl rfl ?_
    refine AOps.sim okL rfl rfl ?_
    refine AOps.nil ?_
    refine AWp.ret ?_
    refine bodyQ_r (by first | exact ResOk.one rfl rfl | exact ResOk.two rfl rfl rfl | exact ResOk.three rfl rfl rfl rfl | exact ResOk.none rfl) ?_; simp_all [bareM] <;> (rw [Bool.eq_iff_iff]; simp)
  refine AOps.unw rfl rfl rfl rfl ?_
  refine AOps.unw rfl rfl rfl rfl ?_
  refine AOps.unw rfl rfl rfl rfl ?_
  refine AOps.sim okL rfl rfl ?_
  refine AOps.sim okL rfl rfl ?_
  refine AOps.unw rfl rfl rfl rfl ?_
  refine AOps.unw rfl rfl rfl rfl ?_
  refine AOps.unw rfl rfl rfl rfl ?_
  refine AOps.sim okL rfl rfl ?_
  refine AOps.sim okL rfl rfl ?_
  refine AOps.unw rfl rfl rfl rfl ?_
  refine AOps.unw rfl rfl rfl rfl ?_
  refine AOps.unw rfl rfl rfl rfl ?_
  refine AOps.sim okL rfl rfl ?_
  refine AOps.sim okL rfl rfl ?_
  refine AOps.unw rfl rfl rfl rfl ?_
  refine AOps.unw rfl rfl rfl rfl ?_
  refine AOps.unw rfl rfl rfl rfl ?_
  refine AOps.unw rfl rfl rfl rfl ?_
  refine AOps.sim okL rfl rfl ?_
  refine AOps.sim okL rfl rfl ?_
  refine AOps.unw rfl rfl rfl rfl ?_
  refine AOps.unw rfl rfl rfl rfl ?_
  refine AOps.unw rfl rfl rfl rfl ?_
  refine AOps.unw rfl rfl rfl rfl ?_
  refine AOps.sim okL rfl rfl ?_
  refine AOps.sim okL rfl rfl ?_
  refine AOps.nil ?_
  refine AWp.ret ?_
  refine bodyQ_r (by first | exact ResOk.one rfl rfl | exact ResOk.two rfl rfl rfl | exact ResOk.three rfl rfl rfl rfl | exact ResOk.none rfl) ?_; simp_all [bareM] <;> (rw [Bool.eq_iff_iff]; simp)

end Go.Proofs.YtdeenhdmmeahgaaGreatDoor

namespace Go.Proofs.YtdeenhdmmeahgaaGreatDoor
open Go Go.Abs
set_option linter.unusedVariables false
set_option maxRecDepth 100000
set_option linter.unusedSimpArgs false

def nodeR (x : Pat) (ok : Bool) (parts n mn mx : Int) (nm : List UInt8) (st : List (Int × Int)) : Bool := ok && (decide ((x.l.length : Int) = parts) && bareM (.mk x.op n mn mx nm st []))
def nodeM (x : Pat) (g : Int) : Bool :=
  if x.op = 0 ∨ x.op = 2 ∨ x.op = 11 ∨ x.op = 12 ∨ x.op = 18 then nodeR x true 0 x.n x.min x.max x.name x.set
  else if x.op = 1 then nodeR x (chM x.n) 0 0 x.min x.max x.name x.set
  else if x.op = 3 then nodeR x (inM x.n 0 1 && setM x.set) 0 0 x.min x.max x.name []
  else if x.op = 4 ∨ x.op = 5 then nodeR x (decide ((x.l.length : Int) ≥ 2)) x.l.length x.n x.min x.max x.name x.set
  else if x.op = 6 then nodeR x (inM x.n 0 2 && (inM x.min 0 20 && (decide (x.max = -1) || inM x.max (if 1 > x.min then 1 else x.min) 20))) 1 0 0 0 x.name x.set
  else if x.op = 7 then nodeR x (decide (x.name = []) || nameM x.name) 1 0 x.min x.max [] x.set
  else if x.op = 8 then nodeR x true 1 x.n x.min x.max x.name x.set
  else if x.op = 9 then nodeR x (inM x.n 0 3) 1 0 x.min x.max x.name x.set
  else if x.op = 10 then nodeR x (inM x.n 1 g) 0 0 x.min x.max x.name x.set
  else if x.op = 13 then nodeR x (inM x.n 0 1) 0 0 x.min x.max x.name x.set
  else if x.op = 14 then nodeR x (inM x.n 0 g) 0 0 x.min x.max x.name x.set
  else if x.op = 15 then nodeR x (inM x.n 1 g) 2 0 x.min x.max x.name x.set
  else if x.op = 16 then nodeR x (inM x.n 0 2) 0 0 x.min x.max x.name x.set
  else if x.op = 17 then nodeR x (inM x.n 0 9) 0 0 x.min x.max x.name x.set
  else false
structure NSt where
  ok : Bool
  parts : Int
  n : Int
  mn : Int
  mx : Int
  nm : List UInt8
  st : List (Int × Int)
  S : A
set_option maxHeartbeats 4000000 in
theorem isNode_tr (x : Pat) (g : Int) : PTr Tryz.prog 70 [.agg x.C, i64 g] (.bool (nodeM x g)) := by
  refine PTr.of_body (N := 143) Tryz.func70 rfl rfl rfl ?_
  refine AWp.seq ?_
  refine AWp.region ?_
  refine AOps.pln ?_; refine AOp.box rfl rfl (isVal_or rfl) rfl rfl ?_; intro _ _
  refine AOps.sim okL rfl rfl ?_
  refine AOps.nil ?_
  refine AWp.seq ?_
  refine AWp.region ?_
  refine AOps.pln ?_; refine AOp.load okL rfl (.head _) rfl rfl rfl rfl ?_
  refine AOps.pln ?_; refine AOp.alloc okL rfl rfl rfl ?_; intro _ _
  refine AOps.pln ?_; refine AOp.store okL rfl rfl rfl (isVal_or rfl) rfl rfl rfl .here rfl rfl rfl ?_
  refine AOps.nil ?_
  refine AWp.seq ?_
  refine AWp.region ?_
  refine AOps.sim okL rfl rfl ?_
  refine AOps.nil ?_
  refine AWp.seq ?_
  refine AWp.region ?_
  refine AOps.sim okL rfl rfl ?_
  refine AOps.nil ?_
  refine AWp.seq ?_
  refine AWp.seq ?_
  refine AWp.region ?_
  refine AOps.sim okL rfl rfl ?_
  refine AOps.pln ?_; refine AOp.load okL rfl (.tail _ (.head _)) rfl rfl rfl rfl ?_
  refine AOps.nil ?_
  refine seqQ_n ?_
  rename_i r2 _ r5 _
  refine AWp.join (α := NSt) (fun a => [(2, .ptr r2 7 0 0), (5, .ptr r5 7 0 0), (6, i64 a.parts), (7, .bool a.ok)])
    (fun a => [(r5, .row 25 7 [[i64 x.op, i64 a.n, i64 a.mn, i64 a.mx, .str a.nm, a.S, .ds (x.l.map Pat.cells)]]), (r2, .row 25 7 [x.C])])
    (fun a => nodeM x g = nodeR x a.ok a.parts a.n a.mn a.mx a.nm a.st ∧ (a.S = .ds (a.st.map spanC) ∨ a.st = [] ∧ a.S = .nils)) ?_ fun R K hR => ?_
  · rintro ⟨ok, parts, n, mn, mx, nm, st, S⟩ ⟨h1, h2⟩
    simp only at h1 h2 ⊢
    rcases h2 with rfl | ⟨rfl, rfl⟩
    · refine AWp.seq ?_
      refine AWp.region ?_
      refine AOps.sim okL rfl rfl ?_
      refine AOps.pln ?_; refine AOp.store okL rfl rfl rfl (isVal_or rfl) rfl rfl rfl .here rfl rfl rfl ?_
      refine AOps.nil ?_
      refine AWp.seq ?_
      refine AWp.region ?_
      refine AOps.sim okL rfl rfl ?_
      refine AOps.sim okL rfl rfl ?_
      refine AOps.guardCase rfl rfl rfl (fun h => ?_) (fun h => ?_)
      · refine AOps.simW okL rfl rfl rfl rfl ?_
        refine AOps.wtd rfl rfl rfl ?_; refine AOp.load okL rfl (.tail _ (.head _)) rfl rfl rfl rfl ?_
        refine AOps.simW okL rfl rfl rfl rfl ?_
        refine AOps.simW okL rfl rfl rfl rfl ?_
        refine AOps.simW okL rfl rfl rfl rfl ?_
        refine AOps.sim okL rfl rfl ?_
        refine AOps.sim okL rfl rfl ?_
        refine AOps.guardCase rfl rfl rfl (fun h => ?_) (fun h => ?_)
        · refine AOps.wtd rfl rfl rfl ?_; refine AOp.load okL rfl (.head _) rfl rfl rfl rfl ?_
          refine AOps.wtd rfl rfl rfl ?_; focus (refine AOp.callS rfl rfl rfl (bare_tr (.mk x.op n mn mx nm st [])) ?_ ?_; focus ((repeat (first | exact SubL.nil | refine SubL.cons (Sub.refl _) ?_ | refine SubL.cons Sub.nils ?_ | refine SubL.cons (Sub.agg ?_) ?_))))
          refine AOps.sim okL rfl rfl ?_
          refine AOps.sim okL rfl rfl ?_
          refine AOps.nil ?_
          refine AWp.ret ?_
          refine bodyQ_r (by first | exact ResOk.one rfl rfl | exact ResOk.two rfl rfl rfl | exact ResOk.three rfl rfl rfl rfl | exact ResOk.none rfl) ?_; simp_all [nodeR]
        refine AOps.unw rfl rfl rfl rfl ?_
        refine AOps.unw rfl rfl rfl rfl ?_
        refine AOps.sim okL rfl rfl ?_
        refine AOps.sim okL rfl rfl ?_
        refine AOps.nil ?_
        refine AWp.ret ?_
        refine bodyQ_r (by first | exact ResOk.one rfl rfl | exact ResOk.two rfl rfl rfl | exact ResOk.three rfl rfl rfl rfl | exact ResOk.none rfl) ?_; simp_all [nodeR]
      refine AOps.unw rfl rfl rfl rfl ?_
      refine AOps.unw rfl rfl rfl rfl ?_
      refine AOps.unw rfl rfl rfl rfl ?_
      refine AOps.unw rfl rfl rfl rfl ?_
      refine AOps.unw rfl rfl rfl rfl ?_
      refine AOps.sim okL rfl rfl ?_
      refine AOps.sim okL rfl rfl ?_
      refine AOps.unw rfl rfl rfl rfl ?_
      refine AOps.unw rfl rfl rfl rfl ?_
      refine AOps.sim okL rfl rfl ?_
      refine AOps.sim okL rfl rfl ?_
      refine AOps.nil ?_
      refine AWp.ret ?_
      refine bodyQ_r (by first | exact ResOk.one rfl rfl | exact ResOk.two rfl rfl rfl | exact ResOk.three rfl rfl rfl rfl | exact ResOk.none rfl) ?_; simp_all [nodeR]
    refine AWp.seq ?_
    refine AWp.region ?_
    refine AOps.sim okL rfl rfl ?_
    refine AOps.pln ?_; refine AOp.store okL rfl rfl rfl (isVal_or rfl) rfl rfl rfl .here rfl rfl rfl ?_
    refine AOps.nil ?_
    refine AWp.seq ?_
    refine AWp.region ?_
    refine AOps.sim okL rfl rfl ?_
    refine AOps.sim okL rfl rfl ?_
    refine AOps.guardCase rfl rfl rfl (fun h => ?_) (fun h => ?_)
    · refine AOps.simW okL rfl rfl rfl rfl ?_
      refine AOps.wtd rfl rfl rfl ?_; refine AOp.load okL rfl (.tail _ (.head _)) rfl rfl rfl rfl ?_
      refine AOps.simW okL rfl rfl rfl rfl ?_
      refine AOps.simW okL rfl rfl rfl rfl ?_
      refine AOps.simW okL rfl rfl rfl rfl ?_
      refine AOps.sim okL rfl rfl ?_
      refine AOps.sim okL rfl rfl ?_
      refine AOps.guardCase rfl rfl rfl (fun h => ?_) (fun h => ?_)
      · refine AOps.wtd rfl rfl rfl ?_; refine AOp.load okL rfl (.head _) rfl rfl rfl rfl ?_
        refine AOps.wtd rfl rfl rfl ?_; focus (refine AOp.callS rfl rfl rfl (bare_tr (.mk x.op n mn mx nm [] [])) ?_ ?_; focus ((repeat (first | exact SubL.nil | refine SubL.cons (Sub.refl _) ?_ | refine SubL.cons Sub.nils ?_ | refine SubL.cons (Sub.agg ?_) ?_))))
        refine AOps.sim okL rfl rfl ?_
        refine AOps.sim okL rfl rfl ?_
        refine AOps.nil ?_
        refine AWp.ret ?_
        refine bodyQ_r (by first | exact ResOk.one rfl rfl | exact ResOk.two rfl rfl rfl | exact ResOk.three rfl rfl rfl rfl | exact ResOk.none rfl) ?_; simp_all [nodeR]
      refine AOps.unw rfl rfl rfl rfl ?_
      refine AOps.unw rfl rfl rfl rfl ?_
      refine AOps.sim okL rfl rfl ?_
      refine AOps.sim okL rfl rfl ?_
      refine AOps.nil ?_
      refine AWp.ret ?_
      refine bodyQ_r (by first | exact ResOk.one rfl rfl | exact ResOk.two rfl rfl rfl | exact ResOk.three rfl rfl rfl rfl | exact ResOk.none rfl) ?_; simp_all [nodeR]
    refine AOps.unw rfl rfl rfl rfl ?_
    refine AOps.unw rfl rfl rfl rfl ?_
    refine AOps.unw rfl rfl rfl rfl ?_
    refine AOps.unw rfl rfl rfl rfl ?_
    refine AOps.unw rfl rfl rfl rfl ?_
    refine AOps.sim okL rfl rfl ?_
    refine AOps.sim okL rfl rfl ?_
    refine AOps.unw rfl rfl rfl rfl ?_
    refine AOps.unw rfl rfl rfl rfl ?_
    refine AOps.sim okL rfl rfl ?_
    refine AOps.sim okL rfl rfl ?_
    refine AOps.nil ?_
    refine AWp.ret ?_
    refine bodyQ_r (by first | exact ResOk.one rfl rfl | exact ResOk.two rfl rfl rfl | exact ResOk.three rfl rfl rfl rfl | exact ResOk.none rfl) ?_; simp_all [nodeR]
  refine AWp.block ?_
  refine AWp.seq ?_
  refine AWp.seq ?_
  refine AWp.region ?_
  refine AOps.sim okL rfl rfl ?_
  refine AOps.sim okL rfl rfl ?_
  refine AOps.nil ?_
  refine seqQ_n ?_
  refine AWp.condCase rfl (fun h => ?_) (fun h => ?_)
  · refine AWp.skip ?_
    refine AWp.condT rfl ?_
    refine AWp.skip ?_
    refine blockQ_n ?_
    first | (refine hR _ _ _ (by intro h; cases h) ?_; refine bodyQ_r (by first | exact ResOk.one rfl rfl | exact ResOk.two rfl rfl rfl | exact ResOk.three rfl rfl rfl rfl | exact ResOk.none rfl) ?_; clear K hR; (first | (simp_all [nodeM]; done) | (simp_all [nodeM]; rfl))) | (refine K ⟨_, _, _, _, _, _, x.set, _⟩ ⟨?_, .inl rfl⟩ 0 _ _ ⟨rfl, rfl, rfl, rfl, trivial⟩ rfl; clear K hR; (first | (simp_all [nodeM]; done) | (simp_all [nodeM]; rfl))) | (refine K ⟨_, _, _, _, _, _, [], _⟩ ⟨?_, .inr ⟨rfl, rfl⟩⟩ 0 _ _ ⟨rfl, rfl, rfl, rfl, trivial⟩ rfl; clear K hR; (first | (simp_all [nodeM]; done) | (simp_all [nodeM]; rfl))) | (refine K ⟨decide (((x.l.map Pat.cells).length : Int) ≥ 2), ((x.l.map Pat.cells).length : Int), x.n, x.min, x.max, x.name, x.set, .ds (x.set.map spanC)⟩ ⟨?_, .inl rfl⟩ 0 _ _ ⟨rfl, rfl, rfl, rfl, trivial⟩ rfl; clear K hR; simp_all [nodeM]; done)
  refine AWp.seq ?_
  refine AWp.region ?_
  refine AOps.sim okL rfl rfl ?_
  refine AOps.sim okL rfl rfl ?_
  refine AOps.nil ?_
  refine seqQ_n ?_
  refine AWp.condCase rfl (fun h => ?_) (fun h => ?_)
  · refine AWp.skip ?_
    refine AWp.condT rfl ?_
    refine AWp.skip ?_
    refine blockQ_n ?_
    first | (refine hR _ _ _ (by intro h; cases h) ?_; refine bodyQ_r (by first | exact ResOk.one rfl rfl | exact ResOk.two rfl rfl rfl | exact ResOk.three rfl rfl rfl rfl | exact ResOk.none rfl) ?_; clear K hR; (first | (simp_all [nodeM]; done) | (simp_all [nodeM]; rfl))) | (refine K ⟨_, _, _, _, _, _, x.set, _⟩ ⟨?_, .inl rfl⟩ 0 _ _ ⟨rfl, rfl, rfl, rfl, trivial⟩ rfl; clear K hR; (first | (simp_all [nodeM]; done) | (simp_all [nodeM]; rfl))) | (refine K ⟨_, _, _, _, _, _, [], _⟩ ⟨?_, .inr ⟨rfl, rfl⟩⟩ 0 _ _ ⟨rfl, rfl, rfl, rfl, trivial⟩ rfl; clear K hR; (first | (simp_all [nodeM]; done) | (simp_all [nodeM]; rfl))) | (refine K ⟨decide (((x.l.map Pat.cells).length : Int) ≥ 2), ((x.l.map Pat.cells).length : Int), x.n, x.min, x.max, x.name, x.set, .ds (x.set.map spanC)⟩ ⟨?_, .inl rfl⟩ 0 _ _ ⟨rfl, rfl, rfl, rfl, trivial⟩ rfl; clear K hR; simp_all [nodeM]; done)
  refine AWp.seq ?_
  refine AWp.region ?_
  refine AOps.sim okL rfl rfl ?_
  refine AOps.sim okL rfl rfl ?_
  refine AOps.nil ?_
  refine seqQ_n ?_
  refine AWp.condCase rfl (fun h => ?_) (fun h => ?_)
  · refine AWp.skip ?_
    refine AWp.condT rfl ?_
    refine AWp.skip ?_
    refine blockQ_n ?_
    first | (refine hR _ _ _ (by intro h; cases h) ?_; refine bodyQ_r (by first | exact ResOk.one rfl rfl | exact ResOk.two rfl rfl rfl | exact ResOk.three rfl rfl rfl rfl | exact ResOk.none rfl) ?_; clear K hR; (first | (simp_all [nodeM]; done) | (simp_all [nodeM]; rfl))) | (refine K ⟨_, _, _, _, _, _, x.set, _⟩ ⟨?_, .inl rfl⟩ 0 _ _ ⟨rfl, rfl, rfl, rfl, trivial⟩ rfl; clear K hR; (first | (simp_all [nodeM]; done) | (simp_all [nodeM]; rfl))) | (refine K ⟨_, _, _, _, _, _, [], _⟩ ⟨?_, .inr ⟨rfl, rfl⟩⟩ 0 _ _ ⟨rfl, rfl, rfl, rfl, trivial⟩ rfl; clear K hR; (first | (simp_all [nodeM]; done) | (simp_all [nodeM]; rfl))) | (refine K ⟨decide (((x.l.map Pat.cells).length : Int) ≥ 2), ((x.l.map Pat.cells).length : Int), x.n, x.min, x.max, x.name, x.set, .ds (x.set.map spanC)⟩ ⟨?_, .inl rfl⟩ 0 _ _ ⟨rfl, rfl, rfl, rfl, trivial⟩ rfl; clear K hR; simp_all [nodeM]; done)
  refine AWp.seq ?_
  refine AWp.region ?_
  refine AOps.sim okL rfl rfl ?_
  refine AOps.sim okL rfl rfl ?_
  refine AOps.nil ?_
  refine seqQ_n ?_
  refine AWp.condCase rfl (fun h => ?_) (fun h => ?_)
  · refine AWp.skip ?_
    refine AWp.condT rfl ?_
    refine AWp.skip ?_
    refine blockQ_n ?_
    first | (refine hR _ _ _ (by intro h; cases h) ?_; refine bodyQ_r (by first | exact ResOk.one rfl rfl | exact ResOk.two rfl rfl rfl | exact ResOk.three rfl rfl rfl rfl | exact ResOk.none rfl) ?_; clear K hR; (first | (simp_all [nodeM]; done) | (simp_all [nodeM]; rfl))) | (refine K ⟨_, _, _, _, _, _, x.set, _⟩ ⟨?_, .inl rfl⟩ 0 _ _ ⟨rfl, rfl, rfl, rfl, trivial⟩ rfl; clear K hR; (first | (simp_all [nodeM]; done) | (simp_all [nodeM]; rfl))) | (refine K ⟨_, _, _, _, _, _, [], _⟩ ⟨?_, .inr ⟨rfl, rfl⟩⟩ 0 _ _ ⟨rfl, rfl, rfl, rfl, trivial⟩ rfl; clear K hR; (first | (simp_all [nodeM]; done) | (simp_all [nodeM]; rfl))) | (refine K ⟨decide (((x.l.map Pat.cells).length : Int) ≥ 2), ((x.l.map Pat.cells).length : Int), x.n, x.min, x.max, x.name, x.set, .ds (x.set.map spanC)⟩ ⟨?_, .inl rfl⟩ 0 _ _ ⟨rfl, rfl, rfl, rfl, trivial⟩ rfl; clear K hR; simp_all [nodeM]; done)
  refine AWp.region ?_
  refine AOps.sim okL rfl rfl ?_
  refine AOps.sim okL rfl rfl ?_
  refine AOps.nil ?_
  refine seqQ_n ?_
  refine AWp.condCase rfl (fun h => ?_) (fun h => ?_)
  · refine AWp.skip ?_
    refine blockQ_n ?_
    first | (refine hR _ _ _ (by intro h; cases h) ?_; refine bodyQ_r (by first | exact ResOk.one rfl rfl | exact ResOk.two rfl rfl rfl | exact ResOk.three rfl rfl rfl rfl | exact ResOk.none rfl) ?_; clear K hR; (first | (simp_all [nodeM]; done) | (simp_all [nodeM]; rfl))) | (refine K ⟨_, _, _, _, _, _, x.set, _⟩ ⟨?_, .inl rfl⟩ 0 _ _ ⟨rfl, rfl, rfl, rfl, trivial⟩ rfl; clear K hR; (first | (simp_all [nodeM]; done) | (simp_all [nodeM]; rfl))) | (refine K ⟨_, _, _, _, _, _, [], _⟩ ⟨?_, .inr ⟨rfl, rfl⟩⟩ 0 _ _ ⟨rfl, rfl, rfl, rfl, trivial⟩ rfl; clear K hR; (first | (simp_all [nodeM]; done) | (simp_all [nodeM]; rfl))) | (refine K ⟨decide (((x.l.map Pat.cells).length : Int) ≥ 2), ((x.l.map Pat.cells).length : Int), x.n, x.min, x.max, x.name, x.set, .ds (x.set.map spanC)⟩ ⟨?_, .inl rfl⟩ 0 _ _ ⟨rfl, rfl, rfl, rfl, trivial⟩ rfl; clear K hR; simp_all [nodeM]; done)
  refine AWp.seq ?_
  refine AWp.region ?_
  refine AOps.sim okL rfl rfl ?_
  refine AOps.sim okL rfl rfl ?_
  refine AOps.nil ?_
  refine seqQ_n ?_
  refine AWp.condCase rfl (fun h => ?_) (fun h => ?_)
  · refine AWp.region ?_
    refine AOps.sim okL rfl rfl ?_
    refine AOps.pln ?_; refine AOp.load okL rfl (.tail _ (.head _)) rfl rfl rfl rfl ?_
    refine AOps.pln ?_; focus (refine AOp.callP (v := ?_) rfl rfl rfl ?_ ?_; rotate_left; exact (patIsChar_tr _))
    refine AOps.sim okL rfl rfl ?_
    refine AOps.sim okL rfl rfl ?_
    refine AOps.pln ?_; refine AOp.store okL rfl rfl rfl (isVal_or rfl) rfl rfl rfl .here rfl rfl rfl ?_
    refine AOps.nil ?_
    refine blockQ_n ?_
    first | (refine hR _ _ _ (by intro h; cases h) ?_; refine bodyQ_r (by first | exact ResOk.one rfl rfl | exact ResOk.two rfl rfl rfl | exact ResOk.three rfl rfl rfl rfl | exact ResOk.none rfl) ?_; clear K hR; (first | (simp_all [nodeM]; done) | (simp_all [nodeM]; rfl))) | (refine K ⟨_, _, _, _, _, _, x.set, _⟩ ⟨?_, .inl rfl⟩ 0 _ _ ⟨rfl, rfl, rfl, rfl, trivial⟩ rfl; clear K hR; (first | (simp_all [nodeM]; done) | (simp_all [nodeM]; rfl))) | (refine K ⟨_, _, _, _, _, _, [], _⟩ ⟨?_, .inr ⟨rfl, rfl⟩⟩ 0 _ _ ⟨rfl, rfl, rfl, rfl, trivial⟩ rfl; clear K hR; (first | (simp_all [nodeM]; done) | (simp_all [nodeM]; rfl))) | (refine K ⟨decide (((x.l.map Pat.cells).length : Int) ≥ 2), ((x.l.map Pat.cells).length : Int), x.n, x.min, x.max, x.name, x.set, .ds (x.set.map spanC)⟩ ⟨?_, .inl rfl⟩ 0 _ _ ⟨rfl, rfl, rfl, rfl, trivial⟩ rfl; clear K hR; simp_all [nodeM]; done)
  refine AWp.seq ?_
  refine AWp.region ?_
  refine AOps.sim okL rfl rfl ?_
  refine AOps.sim okL rfl rfl ?_
  refine AOps.nil ?_
  refine seqQ_n ?_
  refine AWp.condCase rfl (fun h => ?_) (fun h => ?_)
  · refine AWp.region ?_
    refine AOps.sim okL rfl rfl ?_
    refine AOps.pln ?_; refine AOp.load okL rfl (.tail _ (.head _)) rfl rfl rfl rfl ?_
    refine AOps.pln ?_; focus (refine AOp.callP (v := ?_) rfl rfl rfl ?_ ?_; rotate_left; exact (patWithin_tr _ _ _))
    refine AOps.sim okL rfl rfl ?_
    refine AOps.guardCase rfl rfl rfl (fun h => ?_) (fun h => ?_)
    · refine AOps.simW okL rfl rfl rfl rfl ?_
      refine AOps.wtd rfl rfl rfl ?_; refine AOp.load okL rfl (.tail _ (.head _)) rfl rfl rfl rfl ?_
      refine AOps.wtd rfl rfl rfl ?_; focus (refine AOp.callP (v := ?_) rfl rfl rfl ?_ ?_; rotate_left; exact (patIsSet_tr _))
      refine AOps.sim okL rfl rfl ?_
      refine AOps.sim okL rfl rfl ?_
      refine AOps.sim okL rfl rfl ?_
      refine AOps.pln ?_; refine AOp.store okL rfl rfl rfl (isVal_or rfl) rfl rfl rfl .here rfl rfl rfl ?_
      refine AOps.sim okL rfl rfl ?_
      refine AOps.pln ?_; refine AOp.store okL rfl rfl rfl (isVal_or rfl) rfl rfl rfl .here rfl rfl rfl ?_
      refine AOps.nil ?_
      refine blockQ_n ?_
      first | (refine hR _ _ _ (by intro h; cases h) ?_; refine bodyQ_r (by first | exact ResOk.one rfl rfl | exact ResOk.two rfl rfl rfl | exact ResOk.three rfl rfl rfl rfl | exact ResOk.none rfl) ?_; clear K hR; (first | (simp_all [nodeM]; done) | (simp_all [nodeM]; rfl))) | (refine K ⟨_, _, _, _, _, _, x.set, _⟩ ⟨?_, .inl rfl⟩ 0 _ _ ⟨rfl, rfl, rfl, rfl, trivial⟩ rfl; clear K hR; (first | (simp_all [nodeM]; done) | (simp_all [nodeM]; rfl))) | (refine K ⟨_, _, _, _, _, _, [], _⟩ ⟨?_, .inr ⟨rfl, rfl⟩⟩ 0 _ _ ⟨rfl, rfl, rfl, rfl, trivial⟩ rfl; clear K hR; (first | (simp_all [nodeM]; done) | (simp_all [nodeM]; rfl))) | (refine K ⟨decide (((x.l.map Pat.cells).length : Int) ≥ 2), ((x.l.map Pat.cells).length : Int), x.n, x.min, x.max, x.name, x.set, .ds (x.set.map spanC)⟩ ⟨?_, .inl rfl⟩ 0 _ _ ⟨rfl, rfl, rfl, rfl, trivial⟩ rfl; clear K hR; simp_all [nodeM]; done)
    refine AOps.unw rfl rfl rfl rfl ?_
    refine AOps.unw rfl rfl rfl rfl ?_
    refine AOps.unw rfl rfl rfl rfl ?_
    refine AOps.sim okL rfl rfl ?_
    refine AOps.sim okL rfl rfl ?_
    refine AOps.sim okL rfl rfl ?_
    refine AOps.pln ?_; refine AOp.store okL rfl rfl rfl (isVal_or rfl) rfl rfl rfl .here rfl rfl rfl ?_
    refine AOps.sim okL rfl rfl ?_
    refine AOps.pln ?_; refine AOp.store okL rfl rfl rfl (isVal_or rfl) rfl rfl rfl .here rfl rfl rfl ?_
    refine AOps.nil ?_
    refine blockQ_n ?_
    first | (refine hR _ _ _ (by intro h; cases h) ?_; refine bodyQ_r (by first | exact ResOk.one rfl rfl | exact ResOk.two rfl rfl rfl | exact ResOk.three rfl rfl rfl rfl | exact ResOk.none rfl) ?_; clear K hR; (first | (simp_all [nodeM]; done) | (simp_all [nodeM]; rfl))) | (refine K ⟨_, _, _, _, _, _, x.set, _⟩ ⟨?_, .inl rfl⟩ 0 _ _ ⟨rfl, rfl, rfl, rfl, trivial⟩ rfl; clear K hR; (first | (simp_all [nodeM]; done) | (simp_all [nodeM]; rfl))) | (refine K ⟨_, _, _, _, _, _, [], _⟩ ⟨?_, .inr ⟨rfl, rfl⟩⟩ 0 _ _ ⟨rfl, rfl, rfl, rfl, trivial⟩ rfl; clear K hR; (first | (simp_all [nodeM]; done) | (simp_all [nodeM]; rfl))) | (refine K ⟨decide (((x.l.map Pat.cells).length : Int) ≥ 2), ((x.l.map Pat.cells).length : Int), x.n, x.min, x.max, x.name, x.set, .ds (x.set.map spanC)⟩ ⟨?_, .inl rfl⟩ 0 _ _ ⟨rfl, rfl, rfl, rfl, trivial⟩ rfl; clear K hR; simp_all [nodeM]; done)
  refine AWp.seq ?_
  refine AWp.seq ?_
  refine AWp.region ?_
  refine AOps.sim okL rfl rfl ?_
  refine AOps.sim okL rfl rfl ?_
  refine AOps.nil ?_
  refine seqQ_n ?_
  refine AWp.condCase rfl (fun h => ?_) (fun h => ?_)
  · refine AWp.skip ?_
    refine AWp.condT rfl ?_
    refine AWp.seq ?_
    refine AWp.region ?_
    refine AOps.sim okL rfl rfl ?_
    refine AOps.pln ?_; refine AOp.load okL rfl (.tail _ (.head _)) rfl rfl rfl rfl ?_
    refine AOps.sim okL rfl rfl ?_
    refine AOps.sim okL rfl rfl ?_
    refine AOps.sim okL rfl rfl ?_
    refine AOps.nil ?_
    refine AWp.region ?_
    refine AOps.sim okL rfl rfl ?_
    refine AOps.pln ?_; refine AOp.load okL rfl (.tail _ (.head _)) rfl rfl rfl rfl ?_
    refine AOps.sim okL rfl rfl ?_
    refine AOps.sim okL rfl rfl ?_
    refine AOps.nil ?_
    refine blockQ_n ?_
    first | (refine hR _ _ _ (by intro h; cases h) ?_; refine bodyQ_r (by first | exact ResOk.one rfl rfl | exact ResOk.two rfl rfl rfl | exact ResOk.three rfl rfl rfl rfl | exact ResOk.none rfl) ?_; clear K hR; (first | (simp_all [nodeM]; done) | (simp_all [nodeM]; rfl))) | (refine K ⟨_, _, _, _, _, _, x.set, _⟩ ⟨?_, .inl rfl⟩ 0 _ _ ⟨rfl, rfl, rfl, rfl, trivial⟩ rfl; clear K hR; (first | (simp_all [nodeM]; done) | (simp_all [nodeM]; rfl))) | (refine K ⟨_, _, _, _, _, _, [], _⟩ ⟨?_, .inr ⟨rfl, rfl⟩⟩ 0 _ _ ⟨rfl, rfl, rfl, rfl, trivial⟩ rfl; clear K hR; (first | (simp_all [nodeM]; done) | (simp_all [nodeM]; rfl))) | (refine K ⟨decide (((x.l.map Pat.cells).length : Int) ≥ 2), ((x.l.map Pat.cells).length : Int), x.n, x.min, x.max, x.name, x.set, .ds (x.set.map spanC)⟩ ⟨?_, .inl rfl⟩ 0 _ _ ⟨rfl, rfl, rfl, rfl, trivial⟩ rfl; clear K hR; simp_all [nodeM]; done)
  refine AWp.region ?_
  refine AOps.sim okL rfl rfl ?_
  refine AOps.sim okL rfl rfl ?_
  refine AOps.nil ?_
  refine seqQ_n ?_
  refine AWp.condCase rfl (fun h => ?_) (fun h => ?_)
  · refine AWp.seq ?_
    refine AWp.region ?_
    refine AOps.sim okL rfl rfl ?_
    refine AOps.pln ?_; refine AOp.load okL rfl (.tail _ (.head _)) rfl rfl rfl rfl ?_
    refine AOps.sim okL rfl rfl ?_
    refine AOps.sim okL rfl rfl ?_
    refine AOps.sim okL rfl rfl ?_
    refine AOps.nil ?_
    refine AWp.region ?_
    refine AOps.sim okL rfl rfl ?_
    refine AOps.pln ?_; refine AOp.load okL rfl (.tail _ (.head _)) rfl rfl rfl rfl ?_
    refine AOps.sim okL rfl rfl ?_
    refine AOps.sim okL rfl rfl ?_
    refine AOps.nil ?_
    refine blockQ_n ?_
    first | (refine hR _ _ _ (by intro h; cases h) ?_; refine bodyQ_r (by first | exact ResOk.one rfl rfl | exact ResOk.two rfl rfl rfl | exact ResOk.three rfl rfl rfl rfl | exact ResOk.none rfl) ?_; clear K hR; (first | (simp_all [nodeM]; done) | (simp_all [nodeM]; rfl))) | (refine K ⟨_, _, _, _, _, _, x.set, _⟩ ⟨?_, .inl rfl⟩ 0 _ _ ⟨rfl, rfl, rfl, rfl, trivial⟩ rfl; clear K hR; (first | (simp_all [nodeM]; done) | (simp_all [nodeM]; rfl))) | (refine K ⟨_, _, _, _, _, _, [], _⟩ ⟨?_, .inr ⟨rfl, rfl⟩⟩ 0 _ _ ⟨rfl, rfl, rfl, rfl, trivial⟩ rfl; clear K hR; (first | (simp_all [nodeM]; done) | (simp_all [nodeM]; rfl))) | (refine K ⟨decide (((x.l.map Pat.cells).length : Int) ≥ 2), ((x.l.map Pat.cells).length : Int), x.n, x.min, x.max, x.name, x.set, .ds (x.set.map spanC)⟩ ⟨?_, .inl rfl⟩ 0 _ _ ⟨rfl, rfl, rfl, rfl, trivial⟩ rfl; clear K hR; simp_all [nodeM]; done)
  refine AWp.seq ?_
  refine AWp.region ?_
  refine AOps.sim okL rfl rfl ?_
  refine AOps.sim okL rfl rfl ?_
  refine AOps.nil ?_
  refine seqQ_n ?_
  refine AWp.condCase rfl (fun h => ?_) (fun h => ?_)
  · refine AWp.seq ?_
    refine AWp.region ?_
    refine AOps.sim okL rfl rfl ?_
    refine AOps.pln ?_; refine AOp.load okL rfl (.tail _ (.head _)) rfl rfl rfl rfl ?_
    refine AOps.pln ?_; focus (refine AOp.callP (v := ?_) rfl rfl rfl ?_ ?_; rotate_left; exact (patWithin_tr _ _ _))
    refine AOps.sim okL rfl rfl ?_
    refine AOps.guardCase rfl rfl rfl (fun h => ?_) (fun h => ?_)
    · refine AOps.simW okL rfl rfl rfl rfl ?_
      refine AOps.wtd rfl rfl rfl ?_; refine AOp.load okL rfl (.tail _ (.head _)) rfl rfl rfl rfl ?_
      refine AOps.wtd rfl rfl rfl ?_; focus (refine AOp.callP (v := ?_) rfl rfl rfl ?_ ?_; rotate_left; exact (patWithin_tr _ _ _))
      refine AOps.sim okL rfl rfl ?_
      refine AOps.sim okL rfl rfl ?_
      refine AOps.guardCase rfl rfl rfl (fun h => ?_) (fun h => ?_)
      · refine AOps.simW okL rfl rfl rfl rfl ?_
        refine AOps.wtd rfl rfl rfl ?_; refine AOp.load okL rfl (.tail _ (.head _)) rfl rfl rfl rfl ?_
        refine AOps.simW okL rfl rfl rfl rfl ?_
        refine AOps.simW okL rfl rfl rfl rfl ?_
        refine AOps.guardCase rfl rfl rfl (fun h => ?_) (fun h => ?_)
        · refine AOps.unw rfl rfl rfl rfl ?_
          refine AOps.unw rfl rfl rfl rfl ?_
          refine AOps.unw rfl rfl rfl rfl ?_
          refine AOps.unw rfl rfl rfl rfl ?_
          refine AOps.unw rfl rfl rfl rfl ?_
          refine AOps.unw rfl rfl rfl rfl ?_
          refine AOps.simW okL rfl rfl rfl rfl ?_
          refine AOps.sim okL rfl rfl ?_
          refine AOps.sim okL rfl rfl ?_
          refine AOps.nil ?_
          refine AWp.region ?_
          refine AOps.sim okL rfl rfl ?_
          refine AOps.sim okL rfl rfl ?_
          refine AOps.pln ?_; refine AOp.store okL rfl rfl rfl (isVal_or rfl) rfl rfl rfl .here rfl rfl rfl ?_
          refine AOps.sim okL rfl rfl ?_
          refine AOps.pln ?_; refine AOp.store okL rfl rfl rfl (isVal_or rfl) rfl rfl rfl .here rfl rfl rfl ?_
          refine AOps.sim okL rfl rfl ?_
          refine AOps.pln ?_; refine AOp.store okL rfl rfl rfl (isVal_or rfl) rfl rfl rfl .here rfl rfl rfl ?_
          refine AOps.nil ?_
          refine blockQ_n ?_
          first | (refine hR _ _ _ (by intro h; cases h) ?_; refine bodyQ_r (by first | exact ResOk.one rfl rfl | exact ResOk.two rfl rfl rfl | exact ResOk.three rfl rfl rfl rfl | exact ResOk.none rfl) ?_; clear K hR; (first | (simp_all [nodeM]; done) | (simp_all [nodeM]; rfl))) | (refine K ⟨_, _, _, _, _, _, x.set, _⟩ ⟨?_, .inl rfl⟩ 0 _ _ ⟨rfl, rfl, rfl, rfl, trivial⟩ rfl; clear K hR; (first | (simp_all [nodeM]; done) | (simp_all [nodeM]; rfl))) | (refine K ⟨_, _, _, _, _, _, [], _⟩ ⟨?_, .inr ⟨rfl, rfl⟩⟩ 0 _ _ ⟨rfl, rfl, rfl, rfl, trivial⟩ rfl; clear K hR; (first | (simp_all [nodeM]; done) | (simp_all [nodeM]; rfl))) | (refine K ⟨decide (((x.l.map Pat.cells).length : Int) ≥ 2), ((x.l.map Pat.cells).length : Int), x.n, x.min, x.max, x.name, x.set, .ds (x.set.map spanC)⟩ ⟨?_, .inl rfl⟩ 0 _ _ ⟨rfl, rfl, rfl, rfl, trivial⟩ rfl; clear K hR; simp_all [nodeM]; done)
        refine AOps.simW okL rfl rfl rfl rfl ?_
        refine AOps.wtd rfl rfl rfl ?_; refine AOp.load okL rfl (.tail _ (.head _)) rfl rfl rfl rfl ?_
        refine AOps.simW okL rfl rfl rfl rfl ?_
        refine AOps.wtd rfl rfl rfl ?_; refine AOp.load okL rfl (.tail _ (.head _)) rfl rfl rfl rfl ?_
        refine AOps.simW okL rfl rfl rfl rfl ?_
        refine AOps.wtd rfl rfl rfl ?_; focus (refine AOp.callP (v := ?_) rfl rfl rfl ?_ ?_; rotate_left; exact (patWithin_tr _ _ _))
        refine AOps.simW okL rfl rfl rfl rfl ?_
        refine AOps.sim okL rfl rfl ?_
        refine AOps.sim okL rfl rfl ?_
        refine AOps.nil ?_
        refine AWp.region ?_
        refine AOps.sim okL rfl rfl ?_
        refine AOps.sim okL rfl rfl ?_
        refine AOps.pln ?_; refine AOp.store okL rfl rfl rfl (isVal_or rfl) rfl rfl rfl .here rfl rfl rfl ?_
        refine AOps.sim okL rfl rfl ?_
        refine AOps.pln ?_; refine AOp.store okL rfl rfl rfl (isVal_or rfl) rfl rfl rfl .here rfl rfl rfl ?_
        refine AOps.sim okL rfl rfl ?_
        refine AOps.pln ?_; refine AOp.store okL rfl rfl rfl (isVal_or rfl) rfl rfl rfl .here rfl rfl rfl ?_
        refine AOps.nil ?_
        refine blockQ_n ?_
        first | (refine hR _ _ _ (by intro h; cases h) ?_; refine bodyQ_r (by first | exact ResOk.one rfl rfl | exact ResOk.two rfl rfl rfl | exact ResOk.three rfl rfl rfl rfl | exact ResOk.none rfl) ?_; clear K hR; (first | (simp_all [nodeM]; done) | (simp_all [nodeM]; rfl))) | (refine K ⟨_, _, _, _, _, _, x.set, _⟩ ⟨?_, .inl rfl⟩ 0 _ _ ⟨rfl, rfl, rfl, rfl, trivial⟩ rfl; clear K hR; (first | (simp_all [nodeM]; done) | (simp_all [nodeM]; rfl))) | (refine K ⟨_, _, _, _, _, _, [], _⟩ ⟨?_, .inr ⟨rfl, rfl⟩⟩ 0 _ _ ⟨rfl, rfl, rfl, rfl, trivial⟩ rfl; clear K hR; (first | (simp_all [nodeM]; done) | (simp_all [nodeM]; rfl))) | (refine K ⟨decide (((x.l.map Pat.cells).length : Int) ≥ 2), ((x.l.map Pat.cells).length : Int), x.n, x.min, x.max, x.name, x.set, .ds (x.set.map spanC)⟩ ⟨?_, .inl rfl⟩ 0 _ _ ⟨rfl, rfl, rfl, rfl, trivial⟩ rfl; clear K hR; simp_all [nodeM]; done)
      refine AOps.unw rfl rfl rfl rfl ?_
      refine AOps.unw rfl rfl rfl rfl ?_
      refine AOps.unw rfl rfl rfl rfl ?_
      refine AOps.unw rfl rfl rfl rfl ?_
      refine AOps.unwU rfl rfl rfl ?_
      refine AOps.unwU rfl rfl rfl ?_
      refine AOps.unwU rfl rfl rfl ?_
      refine AOps.unwU rfl rfl rfl ?_
      refine AOps.unwU rfl rfl rfl ?_
      refine AOps.unwU rfl rfl rfl ?_
      refine AOps.unw rfl rfl rfl rfl ?_
      refine AOps.sim okL rfl rfl ?_
      refine AOps.sim okL rfl rfl ?_
      refine AOps.nil ?_
      refine AWp.region ?_
      refine AOps.sim okL rfl rfl ?_
      refine AOps.sim okL rfl rfl ?_
      refine AOps.pln ?_; refine AOp.store okL rfl rfl rfl (isVal_or rfl) rfl rfl rfl .here rfl rfl rfl ?_
      refine AOps.sim okL rfl rfl ?_
      refine AOps.pln ?_; refine AOp.store okL rfl rfl rfl (isVal_or rfl) rfl rfl rfl .here rfl rfl rfl ?_
      refine AOps.sim okL rfl rfl ?_
      refine AOps.pln ?_; refine AOp.store okL rfl rfl rfl (isVal_or rfl) rfl rfl rfl .here rfl rfl rfl ?_
      refine AOps.nil ?_
      refine blockQ_n ?_
      first | (refine hR _ _ _ (by intro h; cases h) ?_; refine bodyQ_r (by first | exact ResOk.one rfl rfl | exact ResOk.two rfl rfl rfl | exact ResOk.three rfl rfl rfl rfl | exact ResOk.none rfl) ?_; clear K hR; (first | (simp_all [nodeM]; done) | (simp_all [nodeM]; rfl))) | (refine K ⟨_, _, _, _, _, _, x.set, _⟩ ⟨?_, .inl rfl⟩ 0 _ _ ⟨rfl, rfl, rfl, rfl, trivial⟩ rfl; clear K hR; (first | (simp_all [nodeM]; done) | (simp_all [nodeM]; rfl))) | (refine K ⟨_, _, _, _, _, _, [], _⟩ ⟨?_, .inr ⟨rfl, rfl⟩⟩ 0 _ _ ⟨rfl, rfl, rfl, rfl, trivial⟩ rfl; clear K hR; (first | (simp_all [nodeM]; done) | (simp_all [nodeM]; rfl))) | (refine K ⟨decide (((x.l.map Pat.cells).length : Int) ≥ 2), ((x.l.map Pat.cells).length : Int), x.n, x.min, x.max, x.name, x.set, .ds (x.set.map spanC)⟩ ⟨?_, .inl rfl⟩ 0 _ _ ⟨rfl, rfl, rfl, rfl, trivial⟩ rfl; clear K hR; simp_all [nodeM]; done)
    refine AOps.unw rfl rfl rfl rfl ?_
    refine AOps.unw rfl rfl rfl rfl ?_
    refine AOps.unw rfl rfl rfl rfl ?_
    refine AOps.sim okL rfl rfl ?_
    refine AOps.sim okL rfl rfl ?_
    refine AOps.unw rfl rfl rfl rfl ?_
    refine AOps.unw rfl rfl rfl rfl ?_
    refine AOps.unw rfl rfl rfl rfl ?_
    refine AOps.unw rfl rfl rfl rfl ?_
    refine AOps.unwU rfl rfl rfl ?_
    refine AOps.unwU rfl rfl rfl ?_
    refine AOps.unwU rfl rfl rfl ?_
    refine AOps.unwU rfl rfl rfl ?_
    refine AOps.unwU rfl rfl rfl ?_
    refine AOps.unwU rfl rfl rfl ?_
    refine AOps.unw rfl rfl rfl rfl ?_
    refine AOps.sim okL rfl rfl ?_
    refine AOps.sim okL rfl rfl ?_
    refine AOps.nil ?_
    refine AWp.region ?_
    refine AOps.sim okL rfl rfl ?_
    refine AOps.sim okL rfl rfl ?_
    refine AOps.pln ?_; refine AOp.store okL rfl rfl rfl (isVal_or rfl) rfl rfl rfl .here rfl rfl rfl ?_
    refine AOps.sim okL rfl rfl ?_
    refine AOps.pln ?_; refine AOp.store okL rfl rfl rfl (isVal_or rfl) rfl rfl rfl .here rfl rfl rfl ?_
    refine AOps.sim okL rfl rfl ?_
    refine AOps.pln ?_; refine AOp.store okL rfl rfl rfl (isVal_or rfl) rfl rfl rfl .here rfl rfl rfl ?_
    refine AOps.nil ?_
    refine blockQ_n ?_
    first | (refine hR _ _ _ (by intro h; cases h) ?_; refine bodyQ_r (by first | exact ResOk.one rfl rfl | exact ResOk.two rfl rfl rfl | exact ResOk.three rfl rfl rfl rfl | exact ResOk.none rfl) ?_; clear K hR; (first | (simp_all [nodeM]; done) | (simp_all [nodeM]; rfl))) | (refine K ⟨_, _, _, _, _, _, x.set, _⟩ ⟨?_, .inl rfl⟩ 0 _ _ ⟨rfl, rfl, rfl, rfl, trivial⟩ rfl; clear K hR; (first | (simp_all [nodeM]; done) | (simp_all [nodeM]; rfl))) | (refine K ⟨_, _, _, _, _, _, [], _⟩ ⟨?_, .inr ⟨rfl, rfl⟩⟩ 0 _ _ ⟨rfl, rfl, rfl, rfl, trivial⟩ rfl; clear K hR; (first | (simp_all [nodeM]; done) | (simp_all [nodeM]; rfl))) | (refine K ⟨decide (((x.l.map Pat.cells).length : Int) ≥ 2), ((x.l.map Pat.cells).length : Int), x.n, x.min, x.max, x.name, x.set, .ds (x.set.map spanC)⟩ ⟨?_, .inl rfl⟩ 0 _ _ ⟨rfl, rfl, rfl, rfl, trivial⟩ rfl; clear K hR; simp_all [nodeM]; done)
  refine AWp.seq ?_
  refine AWp.region ?_
  refine AOps.sim okL rfl rfl ?_
  refine AOps.sim okL rfl rfl ?_
  refine AOps.nil ?_
  refine seqQ_n ?_
  refine AWp.condCase rfl (fun h => ?_) (fun h => ?_)
  · refine AWp.seq ?_
    refine AWp.region ?_
    refine AOps.sim okL rfl rfl ?_
    refine AOps.pln ?_; refine AOp.load okL rfl (.tail _ (.head _)) rfl rfl rfl rfl ?_
    refine AOps.sim okL rfl rfl ?_
    refine AOps.sim okL rfl rfl ?_
    refine AOps.guardCase rfl rfl rfl (fun h => ?_) (fun h => ?_)
    · refine AOps.unw rfl rfl rfl rfl ?_
      refine AOps.unw rfl rfl rfl rfl ?_
      refine AOps.unw rfl rfl rfl rfl ?_
      refine AOps.sim okL rfl rfl ?_
      refine AOps.sim okL rfl rfl ?_
      refine AOps.nil ?_
      refine AWp.region ?_
      refine AOps.sim okL rfl rfl ?_
      refine AOps.sim okL rfl rfl ?_
      refine AOps.pln ?_; refine AOp.store okL rfl rfl rfl (isVal_or rfl) rfl rfl rfl .here rfl rfl rfl ?_
      refine AOps.sim okL rfl rfl ?_
      refine AOps.pln ?_; refine AOp.store okL rfl rfl rfl (isVal_or rfl) rfl rfl rfl .here rfl rfl rfl ?_
      refine AOps.nil ?_
      refine blockQ_n ?_
      first | (refine hR _ _ _ (by intro h; cases h) ?_; refine bodyQ_r (by first | exact ResOk.one rfl rfl | exact ResOk.two rfl rfl rfl | exact ResOk.three rfl rfl rfl rfl | exact ResOk.none rfl) ?_; clear K hR; (first | (simp_all [nodeM]; done) | (simp_all [nodeM]; rfl))) | (refine K ⟨_, _, _, _, _, _, x.set, _⟩ ⟨?_, .inl rfl⟩ 0 _ _ ⟨rfl, rfl, rfl, rfl, trivial⟩ rfl; clear K hR; (first | (simp_all [nodeM]; done) | (simp_all [nodeM]; rfl))) | (refine K ⟨_, _, _, _, _, _, [], _⟩ ⟨?_, .inr ⟨rfl, rfl⟩⟩ 0 _ _ ⟨rfl, rfl, rfl, rfl, trivial⟩ rfl; clear K hR; (first | (simp_all [nodeM]; done) | (simp_all [nodeM]; rfl))) | (refine K ⟨decide (((x.l.map Pat.cells).length : Int) ≥ 2), ((x.l.map Pat.cells).length : Int), x.n, x.min, x.max, x.name, x.set, .ds (x.set.map spanC)⟩ ⟨?_, .inl rfl⟩ 0 _ _ ⟨rfl, rfl, rfl, rfl, trivial⟩ rfl; clear K hR; simp_all [nodeM]; done)
    refine AOps.simW okL rfl rfl rfl rfl ?_
    refine AOps.wtd rfl rfl rfl ?_; refine AOp.load okL rfl (.tail _ (.head _)) rfl rfl rfl rfl ?_
    refine AOps.wtd rfl rfl rfl ?_; focus (refine AOp.callP (v := ?_) rfl rfl rfl ?_ ?_; rotate_left; exact (patIsName_tr _))
    refine AOps.sim okL rfl rfl ?_
    refine AOps.sim okL rfl rfl ?_
    refine AOps.nil ?_
    refine AWp.region ?_
    refine AOps.sim okL rfl rfl ?_
    refine AOps.sim okL rfl rfl ?_
    refine AOps.pln ?_; refine AOp.store okL rfl rfl rfl (isVal_or rfl) rfl rfl rfl .here rfl rfl rfl ?_
    refine AOps.sim okL rfl rfl ?_
    refine AOps.pln ?_; refine AOp.store okL rfl rfl rfl (isVal_or rfl) rfl rfl rfl .here rfl rfl rfl ?_
    refine AOps.nil ?_
    refine blockQ_n ?_
    first | (refine hR _ _ _ (by intro h; cases h) ?_; refine bodyQ_r (by first | exact ResOk.one rfl rfl | exact ResOk.two rfl rfl rfl | exact ResOk.three rfl rfl rfl rfl | exact ResOk.none rfl) ?_; clear K hR; (first | (simp_all [nodeM]; done) | (simp_all [nodeM]; rfl))) | (refine K ⟨_, _, _, _, _, _, x.set, _⟩ ⟨?_, .inl rfl⟩ 0 _ _ ⟨rfl, rfl, rfl, rfl, trivial⟩ rfl; clear K hR; (first | (simp_all [nodeM]; done) | (simp_all [nodeM]; rfl))) | (refine K ⟨_, _, _, _, _, _, [], _⟩ ⟨?_, .inr ⟨rfl, rfl⟩⟩ 0 _ _ ⟨rfl, rfl, rfl, rfl, trivial⟩ rfl; clear K hR; (first | (simp_all [nodeM]; done) | (simp_all [nodeM]; rfl))) | (refine K ⟨decide (((x.l.map Pat.cells).length : Int) ≥ 2), ((x.l.map Pat.cells).length : Int), x.n, x.min, x.max, x.name, x.set, .ds (x.set.map spanC)⟩ ⟨?_, .inl rfl⟩ 0 _ _ ⟨rfl, rfl, rfl, rfl, trivial⟩ rfl; clear K hR; simp_all [nodeM]; done)
  refine AWp.seq ?_
  refine AWp.region ?_
  refine AOps.sim okL rfl rfl ?_
  refine AOps.sim okL rfl rfl ?_
  refine AOps.nil ?_
  refine seqQ_n ?_
  refine AWp.condCase rfl (fun h => ?_) (fun h => ?_)
  · refine AWp.region ?_
    refine AOps.sim okL rfl rfl ?_
    refine AOps.nil ?_
    refine blockQ_n ?_
    first | (refine hR _ _ _ (by intro h; cases h) ?_; refine bodyQ_r (by first | exact ResOk.one rfl rfl | exact ResOk.two rfl rfl rfl | exact ResOk.three rfl rfl rfl rfl | exact ResOk.none rfl) ?_; clear K hR; (first | (simp_all [nodeM]; done) | (simp_all [nodeM]; rfl))) | (refine K ⟨_, _, _, _, _, _, x.set, _⟩ ⟨?_, .inl rfl⟩ 0 _ _ ⟨rfl, rfl, rfl, rfl, trivial⟩ rfl; clear K hR; (first | (simp_all [nodeM]; done) | (simp_all [nodeM]; rfl))) | (refine K ⟨_, _, _, _, _, _, [], _⟩ ⟨?_, .inr ⟨rfl, rfl⟩⟩ 0 _ _ ⟨rfl, rfl, rfl, rfl, trivial⟩ rfl; clear K hR; (first | (simp_all [nodeM]; done) | (simp_all [nodeM]; rfl))) | (refine K ⟨decide (((x.l.map Pat.cells).length : Int) ≥ 2), ((x.l.map Pat.cells).length : Int), x.n, x.min, x.max, x.name, x.set, .ds (x.set.map spanC)⟩ ⟨?_, .inl rfl⟩ 0 _ _ ⟨rfl, rfl, rfl, rfl, trivial⟩ rfl; clear K hR; simp_all [nodeM]; done)
  refine AWp.seq ?_
  refine AWp.region ?_
  refine AOps.sim okL rfl rfl ?_
  refine AOps.sim okL rfl rfl ?_
  refine AOps.nil ?_
  refine seqQ_n ?_
  refine AWp.condCase rfl (fun h => ?_) (fun h => ?_)
  · refine AWp.region ?_
    refine AOps.sim okL rfl rfl ?_
    refine AOps.pln ?_; refine AOp.load okL rfl (.tail _ (.head _)) rfl rfl rfl rfl ?_
    refine AOps.pln ?_; focus (refine AOp.callP (v := ?_) rfl rfl rfl ?_ ?_; rotate_left; exact (patWithin_tr _ _ _))
    refine AOps.sim okL rfl rfl ?_
    refine AOps.sim okL rfl rfl ?_
    refine AOps.sim okL rfl rfl ?_
    refine AOps.pln ?_; refine AOp.store okL rfl rfl rfl (isVal_or rfl) rfl rfl rfl .here rfl rfl rfl ?_
    refine AOps.nil ?_
    refine blockQ_n ?_
    first | (refine hR _ _ _ (by intro h; cases h) ?_; refine bodyQ_r (by first | exact ResOk.one rfl rfl | exact ResOk.two rfl rfl rfl | exact ResOk.three rfl rfl rfl rfl | exact ResOk.none rfl) ?_; clear K hR; (first | (simp_all [nodeM]; done) | (simp_all [nodeM]; rfl))) | (refine K ⟨_, _, _, _, _, _, x.set, _⟩ ⟨?_, .inl rfl⟩ 0 _ _ ⟨rfl, rfl, rfl, rfl, trivial⟩ rfl; clear K hR; (first | (simp_all [nodeM]; done) | (simp_all [nodeM]; rfl))) | (refine K ⟨_, _, _, _, _, _, [], _⟩ ⟨?_, .inr ⟨rfl, rfl⟩⟩ 0 _ _ ⟨rfl, rfl, rfl, rfl, trivial⟩ rfl; clear K hR; (first | (simp_all [nodeM]; done) | (simp_all [nodeM]; rfl))) | (refine K ⟨decide (((x.l.map Pat.cells).length : Int) ≥ 2), ((x.l.map Pat.cells).length : Int), x.n, x.min, x.max, x.name, x.set, .ds (x.set.map spanC)⟩ ⟨?_, .inl rfl⟩ 0 _ _ ⟨rfl, rfl, rfl, rfl, trivial⟩ rfl; clear K hR; simp_all [nodeM]; done)
  refine AWp.seq ?_
  refine AWp.region ?_
  refine AOps.sim okL rfl rfl ?_
  refine AOps.sim okL rfl rfl ?_
  refine AOps.nil ?_
  refine seqQ_n ?_
  refine AWp.condCase rfl (fun h => ?_) (fun h => ?_)
  · refine AWp.region ?_
    refine AOps.sim okL rfl rfl ?_
    refine AOps.pln ?_; refine AOp.load okL rfl (.tail _ (.head _)) rfl rfl rfl rfl ?_
    refine AOps.sim okL rfl rfl ?_
    refine AOps.pln ?_; focus (refine AOp.callP (v := ?_) rfl rfl rfl ?_ ?_; rotate_left; exact (patWithin_tr _ _ _))
    refine AOps.sim okL rfl rfl ?_
    refine AOps.sim okL rfl rfl ?_
    refine AOps.pln ?_; refine AOp.store okL rfl rfl rfl (isVal_or rfl) rfl rfl rfl .here rfl rfl rfl ?_
    refine AOps.nil ?_
    refine blockQ_n ?_
    first | (refine hR _ _ _ (by intro h; cases h) ?_; refine bodyQ_r (by first | exact ResOk.one rfl rfl | exact ResOk.two rfl rfl rfl | exact ResOk.three rfl rfl rfl rfl | exact ResOk.none rfl) ?_; clear K hR; (first | (simp_all [nodeM]; done) | (simp_all [nodeM]; rfl))) | (refine K ⟨_, _, _, _, _, _, x.set, _⟩ ⟨?_, .inl rfl⟩ 0 _ _ ⟨rfl, rfl, rfl, rfl, trivial⟩ rfl; clear K hR; (first | (simp_all [nodeM]; done) | (simp_all [nodeM]; rfl))) | (refine K ⟨_, _, _, _, _, _, [], _⟩ ⟨?_, .inr ⟨rfl, rfl⟩⟩ 0 _ _ ⟨rfl, rfl, rfl, rfl, trivial⟩ rfl; clear K hR; (first | (simp_all [nodeM]; done) | (simp_all [nodeM]; rfl))) | (refine K ⟨decide (((x.l.map Pat.cells).length : Int) ≥ 2), ((x.l.map Pat.cells).length : Int), x.n, x.min, x.max, x.name, x.set, .ds (x.set.map spanC)⟩ ⟨?_, .inl rfl⟩ 0 _ _ ⟨rfl, rfl, rfl, rfl, trivial⟩ rfl; clear K hR; simp_all [nodeM]; done)
  refine AWp.seq ?_
  refine AWp.region ?_
  refine AOps.sim okL rfl rfl ?_
  refine AOps.sim okL rfl rfl ?_
  refine AOps.nil ?_
  refine seqQ_n ?_
  refine AWp.condCase rfl (fun h => ?_) (fun h => ?_)
  · refine AWp.region ?_
    refine AOps.sim okL rfl rfl ?_
    refine AOps.pln ?_; refine AOp.load okL rfl (.tail _ (.head _)) rfl rfl rfl rfl ?_
    refine AOps.pln ?_; focus (refine AOp.callP (v := ?_) rfl rfl rfl ?_ ?_; rotate_left; exact (patWithin_tr _ _ _))
    refine AOps.sim okL rfl rfl ?_
    refine AOps.sim okL rfl rfl ?_
    refine AOps.pln ?_; refine AOp.store okL rfl rfl rfl (isVal_or rfl) rfl rfl rfl .here rfl rfl rfl ?_
    refine AOps.nil ?_
    refine blockQ_n ?_
    first | (refine hR _ _ _ (by intro h; cases h) ?_; refine bodyQ_r (by first | exact ResOk.one rfl rfl | exact ResOk.two rfl rfl rfl | exact ResOk.three rfl rfl rfl rfl | exact ResOk.none rfl) ?_; clear K hR; (first | (simp_all [nodeM]; done) | (simp_all [nodeM]; rfl))) | (refine K ⟨_, _, _, _, _, _, x.set, _⟩ ⟨?_, .inl rfl⟩ 0 _ _ ⟨rfl, rfl, rfl, rfl, trivial⟩ rfl; clear K hR; (first | (simp_all [nodeM]; done) | (simp_all [nodeM]; rfl))) | (refine K ⟨_, _, _, _, _, _, [], _⟩ ⟨?_, .inr ⟨rfl, rfl⟩⟩ 0 _ _ ⟨rfl, rfl, rfl, rfl, trivial⟩ rfl; clear K hR; (first | (simp_all [nodeM]; done) | (simp_all [nodeM]; rfl))) | (refine K ⟨decide (((x.l.map Pat.cells).length : Int) ≥ 2), ((x.l.map Pat.cells).length : Int), x.n, x.min, x.max, x.name, x.set, .ds (x.set.map spanC)⟩ ⟨?_, .inl rfl⟩ 0 _ _ ⟨rfl, rfl, rfl, rfl, trivial⟩ rfl; clear K hR; simp_all [nodeM]; done)
  refine AWp.seq ?_
  refine AWp.region ?_
  refine AOps.sim okL rfl rfl ?_
  refine AOps.sim okL rfl rfl ?_
  refine AOps.nil ?_
  refine seqQ_n ?_
  refine AWp.condCase rfl (fun h => ?_) (fun h => ?_)
  · refine AWp.region ?_
    refine AOps.sim okL rfl rfl ?_
    refine AOps.pln ?_; refine AOp.load okL rfl (.tail _ (.head _)) rfl rfl rfl rfl ?_
    refine AOps.sim okL rfl rfl ?_
    refine AOps.pln ?_; focus (refine AOp.callP (v := ?_) rfl rfl rfl ?_ ?_; rotate_left; exact (patWithin_tr _ _ _))
    refine AOps.sim okL rfl rfl ?_
    refine AOps.sim okL rfl rfl ?_
    refine AOps.pln ?_; refine AOp.store okL rfl rfl rfl (isVal_or rfl) rfl rfl rfl .here rfl rfl rfl ?_
    refine AOps.nil ?_
    refine blockQ_n ?_
    first | (refine hR _ _ _ (by intro h; cases h) ?_; refine bodyQ_r (by first | exact ResOk.one rfl rfl | exact ResOk.two rfl rfl rfl | exact ResOk.three rfl rfl rfl rfl | exact ResOk.none rfl) ?_; clear K hR; (first | (simp_all [nodeM]; done) | (simp_all [nodeM]; rfl))) | (refine K ⟨_, _, _, _, _, _, x.set, _⟩ ⟨?_, .inl rfl⟩ 0 _ _ ⟨rfl, rfl, rfl, rfl, trivial⟩ rfl; clear K hR; (first | (simp_all [nodeM]; done) | (simp_all [nodeM]; rfl))) | (refine K ⟨_, _, _, _, _, _, [], _⟩ ⟨?_, .inr ⟨rfl, rfl⟩⟩ 0 _ _ ⟨rfl, rfl, rfl, rfl, trivial⟩ rfl; clear K hR; (first | (simp_all [nodeM]; done) | (simp_all [nodeM]; rfl))) | (refine K ⟨decide (((x.l.map Pat.cells).length : Int) ≥ 2), ((x.l.map Pat.cells).length : Int), x.n, x.min, x.max, x.name, x.set, .ds (x.set.map spanC)⟩ ⟨?_, .inl rfl⟩ 0 _ _ ⟨rfl, rfl, rfl, rfl, trivial⟩ rfl; clear K hR; simp_all [nodeM]; done)
  refine AWp.seq ?_
  refine AWp.region ?_
  refine AOps.sim okL rfl rfl ?_
  refine AOps.sim okL rfl rfl ?_
  refine AOps.nil ?_
  refine seqQ_n ?_
  refine AWp.condCase rfl (fun h => ?_) (fun h => ?_)
  · refine AWp.region ?_
    refine AOps.sim okL rfl rfl ?_
    refine AOps.pln ?_; refine AOp.load okL rfl (.tail _ (.head _)) rfl rfl rfl rfl ?_
    refine AOps.sim okL rfl rfl ?_
    refine AOps.pln ?_; focus (refine AOp.callP (v := ?_) rfl rfl rfl ?_ ?_; rotate_left; exact (patWithin_tr _ _ _))
    refine AOps.sim okL rfl rfl ?_
    refine AOps.sim okL rfl rfl ?_
    refine AOps.sim okL rfl rfl ?_
    refine AOps.pln ?_; refine AOp.store okL rfl rfl rfl (isVal_or rfl) rfl rfl rfl .here rfl rfl rfl ?_
    refine AOps.nil ?_
    refine blockQ_n ?_
    first | (refine hR _ _ _ (by intro h; cases h) ?_; refine bodyQ_r (by first | exact ResOk.one rfl rfl | exact ResOk.two rfl rfl rfl | exact ResOk.three rfl rfl rfl rfl | exact ResOk.none rfl) ?_; clear K hR; (first | (simp_all [nodeM]; done) | (simp_all [nodeM]; rfl))) | (refine K ⟨_, _, _, _, _, _, x.set, _⟩ ⟨?_, .inl rfl⟩ 0 _ _ ⟨rfl, rfl, rfl, rfl, trivial⟩ rfl; clear K hR; (first | (simp_all [nodeM]; done) | (simp_all [nodeM]; rfl))) | (refine K ⟨_, _, _, _, _, _, [], _⟩ ⟨?_, .inr ⟨rfl, rfl⟩⟩ 0 _ _ ⟨rfl, rfl, rfl, rfl, trivial⟩ rfl; clear K hR; (first | (simp_all [nodeM]; done) | (simp_all [nodeM]; rfl))) | (refine K ⟨decide (((x.l.map Pat.cells).length : Int) ≥ 2), ((x.l.map Pat.cells).length : Int), x.n, x.min, x.max, x.name, x.set, .ds (x.set.map spanC)⟩ ⟨?_, .inl rfl⟩ 0 _ _ ⟨rfl, rfl, rfl, rfl, trivial⟩ rfl; clear K hR; simp_all [nodeM]; done)
  refine AWp.seq ?_
  refine AWp.region ?_
  refine AOps.sim okL rfl rfl ?_
  refine AOps.sim okL rfl rfl ?_
  refine AOps.nil ?_
  refine seqQ_n ?_
  refine AWp.condCase rfl (fun h => ?_) (fun h => ?_)
  · refine AWp.region ?_
    refine AOps.sim okL rfl rfl ?_
    refine AOps.pln ?_; refine AOp.load okL rfl (.tail _ (.head _)) rfl rfl rfl rfl ?_
    refine AOps.pln ?_; focus (refine AOp.callP (v := ?_) rfl rfl rfl ?_ ?_; rotate_left; exact (patWithin_tr _ _ _))
    refine AOps.sim okL rfl rfl ?_
    refine AOps.sim okL rfl rfl ?_
    refine AOps.pln ?_; refine AOp.store okL rfl rfl rfl (isVal_or rfl) rfl rfl rfl .here rfl rfl rfl ?_
    refine AOps.nil ?_
    refine blockQ_n ?_
    first | (refine hR _ _ _ (by intro h; cases h) ?_; refine bodyQ_r (by first | exact ResOk.one rfl rfl | exact ResOk.two rfl rfl rfl | exact ResOk.three rfl rfl rfl rfl | exact ResOk.none rfl) ?_; clear K hR; (first | (simp_all [nodeM]; done) | (simp_all [nodeM]; rfl))) | (refine K ⟨_, _, _, _, _, _, x.set, _⟩ ⟨?_, .inl rfl⟩ 0 _ _ ⟨rfl, rfl, rfl, rfl, trivial⟩ rfl; clear K hR; (first | (simp_all [nodeM]; done) | (simp_all [nodeM]; rfl))) | (refine K ⟨_, _, _, _, _, _, [], _⟩ ⟨?_, .inr ⟨rfl, rfl⟩⟩ 0 _ _ ⟨rfl, rfl, rfl, rfl, trivial⟩ rfl; clear K hR; (first | (simp_all [nodeM]; done) | (simp_all [nodeM]; rfl))) | (refine K ⟨decide (((x.l.map Pat.cells).length : Int) ≥ 2), ((x.l.map Pat.cells).length : Int), x.n, x.min, x.max, x.name, x.set, .ds (x.set.map spanC)⟩ ⟨?_, .inl rfl⟩ 0 _ _ ⟨rfl, rfl, rfl, rfl, trivial⟩ rfl; clear K hR; simp_all [nodeM]; done)
  refine AWp.seq ?_
  refine AWp.region ?_
  refine AOps.sim okL rfl rfl ?_
  refine AOps.sim okL rfl rfl ?_
  refine AOps.nil ?_
  refine seqQ_n ?_
  refine AWp.condCase rfl (fun h => ?_) (fun h => ?_)
  · refine AWp.region ?_
    refine AOps.sim okL rfl rfl ?_
    refine AOps.pln ?_; refine AOp.load okL rfl (.tail _ (.head _)) rfl rfl rfl rfl ?_
    refine AOps.pln ?_; focus (refine AOp.callP (v := ?_) rfl rfl rfl ?_ ?_; rotate_left; exact (patWithin_tr _ _ _))
    refine AOps.sim okL rfl rfl ?_
    refine AOps.sim okL rfl rfl ?_
    refine AOps.pln ?_; refine AOp.store okL rfl rfl rfl (isVal_or rfl) rfl rfl rfl .here rfl rfl rfl ?_
    refine AOps.nil ?_
    refine blockQ_n ?_
    first | (refine hR _ _ _ (by intro h; cases h) ?_; refine bodyQ_r (by first | exact ResOk.one rfl rfl | exact ResOk.two rfl rfl rfl | exact ResOk.three rfl rfl rfl rfl | exact ResOk.none rfl) ?_; clear K hR; (first | (simp_all [nodeM]; done) | (simp_all [nodeM]; rfl))) | (refine K ⟨_, _, _, _, _, _, x.set, _⟩ ⟨?_, .inl rfl⟩ 0 _ _ ⟨rfl, rfl, rfl, rfl, trivial⟩ rfl; clear K hR; (first | (simp_all [nodeM]; done) | (simp_all [nodeM]; rfl))) | (refine K ⟨_, _, _, _, _, _, [], _⟩ ⟨?_, .inr ⟨rfl, rfl⟩⟩ 0 _ _ ⟨rfl, rfl, rfl, rfl, trivial⟩ rfl; clear K hR; (first | (simp_all [nodeM]; done) | (simp_all [nodeM]; rfl))) | (refine K ⟨decide (((x.l.map Pat.cells).length : Int) ≥ 2), ((x.l.map Pat.cells).length : Int), x.n, x.min, x.max, x.name, x.set, .ds (x.set.map spanC)⟩ ⟨?_, .inl rfl⟩ 0 _ _ ⟨rfl, rfl, rfl, rfl, trivial⟩ rfl; clear K hR; simp_all [nodeM]; done)
  refine AWp.seq ?_
  refine AWp.region ?_
  refine AOps.sim okL rfl rfl ?_
  refine AOps.nil ?_
  refine AWp.ret ?_
  refine blockQ_r ?_
  first | (refine hR _ _ _ (by intro h; cases h) ?_; refine bodyQ_r (by first | exact ResOk.one rfl rfl | exact ResOk.two rfl rfl rfl | exact ResOk.three rfl rfl rfl rfl | exact ResOk.none rfl) ?_; clear K hR; (first | (simp_all [nodeM]; done) | (simp_all [nodeM]; rfl))) | (refine K ⟨_, _, _, _, _, _, x.set, _⟩ ⟨?_, .inl rfl⟩ 0 _ _ ⟨rfl, rfl, rfl, rfl, trivial⟩ rfl; clear K hR; (first | (simp_all [nodeM]; done) | (simp_all [nodeM]; rfl))) | (refine K ⟨_, _, _, _, _, _, [], _⟩ ⟨?_, .inr ⟨rfl, rfl⟩⟩ 0 _ _ ⟨rfl, rfl, rfl, rfl, trivial⟩ rfl; clear K hR; (first | (simp_all [nodeM]; done) | (simp_all [nodeM]; rfl))) | (refine K ⟨decide (((x.l.map Pat.cells).length : Int) ≥ 2), ((x.l.map Pat.cells).length : Int), x.n, x.min, x.max, x.name, x.set, .ds (x.set.map spanC)⟩ ⟨?_, .inl rfl⟩ 0 _ _ ⟨rfl, rfl, rfl, rfl, trivial⟩ rfl; clear K hR; simp_all [nodeM]; done)
end Go.Proofs.YtdeenhdmmeahgaaGreatDoor

namespace Go.Proofs.YtdeenhdmmeahgaaGreatDoor
open Go Go.Abs
set_option linter.unusedVariables false
set_option maxRecDepth 100000
set_option linter.unusedSimpArgs false

mutual
def hasP : Pat → Int → Bool
  | .mk op _ _ _ _ _ l, o => decide (op = o) || hasL l o
def hasL : List Pat → Int → Bool
  | [], _ => false
  | y :: l, o => hasP y o || hasL l o
end
theorem hasP_eq (x : Pat) (o : Int) : hasP x o = (decide (x.op = o) || hasL x.l o) := by cases x; rfl
def largeM (x : Pat) : Bool := decide ((szP x).1 > 60) || (decide ((szP x).2.2 > 12) || decide ((szP x).2.1 > 9))
theorem isLarge_tr (x : Pat) : PTr Tryz.prog 50 [.agg x.C] (.bool (largeM x)) := by
  refine PTr.of_body (N := 19) Tryz.func50 rfl rfl rfl ?_
  refine AWp.seq ?_
  refine AWp.region ?_
  refine AOps.pln ?_; refine AOp.box rfl rfl (isVal_or rfl) rfl rfl ?_; intro _ _
  refine AOps.sim okL rfl rfl ?_
  refine AOps.nil ?_
  refine AWp.seq ?_
  refine AWp.region ?_
  refine AOps.pln ?_; refine AOp.load okL rfl (.head _) rfl rfl rfl rfl ?_
  refine AOps.pln ?_; focus (refine AOp.callP (v := ?_) rfl rfl rfl ?_ ?_; rotate_left; exact (ref12Size_tr x))
  refine AOps.pln ?_; refine AOp.alloc okL rfl rfl rfl ?_; intro _ _
  refine AOps.pln ?_; refine AOp.store okL rfl rfl rfl (isVal_or rfl) rfl rfl rfl .here rfl rfl rfl ?_
  refine AOps.nil ?_
  refine AWp.seq ?_
  refine AWp.region ?_
  refine AOps.sim okL rfl rfl ?_
  refine AOps.pln ?_; refine AOp.load okL rfl (.head _) rfl rfl rfl rfl ?_
  refine AOps.sim okL rfl rfl ?_
  refine AOps.sim okL rfl rfl ?_
  refine AOps.guardCase rfl rfl rfl (fun h => ?_) (fun h => ?_)
  · refine AOps.unw rfl rfl rfl rfl ?_
    refine AOps.unw rfl rfl rfl rfl ?_
    refine AOps.unw rfl rfl rfl rfl ?_
    refine AOps.sim okL rfl rfl ?_
    refine AOps.sim okL rfl rfl ?_
    refine AOps.unw rfl rfl rfl rfl ?_
    refine AOps.unw rfl rfl rfl rfl ?_
    refine AOps.unw rfl rfl rfl rfl ?_
    refine AOps.sim okL rfl rfl ?_
    refine AOps.sim okL rfl rfl ?_
    refine AOps.nil ?_
    refine AWp.ret ?_
    refine bodyQ_r (by first | exact ResOk.one rfl rfl | exact ResOk.two rfl rfl rfl | exact ResOk.three rfl rfl rfl rfl | exact ResOk.none rfl) ?_; (simp_all [largeM] <;> first | omega | (rw [Bool.eq_iff_iff]; simp <;> omega))
  refine AOps.simW okL rfl rfl rfl rfl ?_
  refine AOps.wtd rfl rfl rfl ?_; refine AOp.load okL rfl (.head _) rfl rfl rfl rfl ?_
  refine AOps.simW okL rfl rfl rfl rfl ?_
  refine AOps.sim okL rfl rfl ?_
  refine AOps.sim okL rfl rfl ?_
  refine AOps.guardCase rfl rfl rfl (fun h => ?_) (fun h => ?_)
  · refine AOps.unw rfl rfl rfl rfl ?_
    refine AOps.unw rfl rfl rfl rfl ?_
    refine AOps.unw rfl rfl rfl rfl ?_
    refine AOps.sim okL rfl rfl ?_
    refine AOps.sim okL rfl rfl ?_
    refine AOps.nil ?_
    refine AWp.ret ?_
    refine bodyQ_r (by first | exact ResOk.one rfl rfl | exact ResOk.two rfl rfl rfl | exact ResOk.three rfl rfl rfl rfl | exact ResOk.none rfl) ?_; (simp_all [largeM] <;> first | omega | (rw [Bool.eq_iff_iff]; simp <;> omega))
  refine AOps.simW okL rfl rfl rfl rfl ?_
  refine AOps.wtd rfl rfl rfl ?_; refine AOp.load okL rfl (.head _) rfl rfl rfl rfl ?_
  refine AOps.simW okL rfl rfl rfl rfl ?_
  refine AOps.sim okL rfl rfl ?_
  refine AOps.sim okL rfl rfl ?_
  refine AOps.nil ?_
  refine AWp.ret ?_
  refine bodyQ_r (by first | exact ResOk.one rfl rfl | exact ResOk.two rfl rfl rfl | exact ResOk.three rfl rfl rfl rfl | exact ResOk.none rfl) ?_; (simp_all [largeM] <;> first | omega | (rw [Bool.eq_iff_iff]; simp <;> omega))

def lenS (op : Int) (first : Bool) (a b : Int × Int) : Int × Int :=
  if first then b else if op = 4 then (w64 (a.1 + b.1), plusM a.2 b.2) else (if b.1 < a.1 then b.1 else a.1, if a.2 ≥ 0 ∧ (b.2 < 0 ∨ b.2 > a.2) then b.2 else a.2)
mutual
def lenP : Pat → Int × Int
  | .mk op _ mn mx _ _ l =>
    if op = 1 ∨ op = 2 ∨ op = 3 then (1, 1) else if op = 10 ∨ op = 14 then (0, -1) else if op = 9 then (0, 0)
    else if op = 6 then (timesM mn (lenH l).1, timesM mx (lenH l).2) else lenL op l true (0, 0)
def lenH : List Pat → Int × Int
  | [] => (0, 0)
  | y :: _ => lenP y
def lenL : Int → List Pat → Bool → Int × Int → Int × Int
  | _, [], _, a => a
  | op, y :: l, f, a => lenL op l false (lenS op f a (lenP y))
end
theorem lenP_eq (x : Pat) : lenP x = if x.op = 1 ∨ x.op = 2 ∨ x.op = 3 then (1, 1) else if x.op = 10 ∨ x.op = 14 then (0, -1) else if x.op = 9 then (0, 0)
    else if x.op = 6 then (timesM x.min (lenH x.l).1, timesM x.max (lenH x.l).2) else lenL x.op x.l true (0, 0) := by cases x; rw [lenP]; rfl
/-- Where one goes into the first part, there is one. -/
inductive Sh : Pat → Prop
  | mk (x : Pat) (h : x.op = 5 ∨ x.op = 6 ∨ x.op = 7 ∨ x.op = 8 ∨ x.op = 15 → x.l ≠ []) (t : ∀ y ∈ x.l, Sh y) : Sh x
theorem Sh.tl {x : Pat} (h : Sh x) : ∀ y ∈ x.l, Sh y := by cases h; assumption
theorem Sh.hd {x : Pat} (h : Sh x) : x.op = 5 ∨ x.op = 6 ∨ x.op = 7 ∨ x.op = 8 ∨ x.op = 15 → x.l ≠ [] := by cases h; assumption
theorem lenP_6 {x : Pat} {a : Int × Int} (h : x.op = 6) (hH : lenH x.l = a) : lenP x = (timesM x.min a.1, timesM x.max a.2) := by rw [lenP_eq, hH]; simp [h]
theorem mem_C {x : Pat} : A.ds (x.l.map Pat.cells) ∈ x.C := by simp [Pat.C]
set_option maxHeartbeats 2000000 in
theorem lengths_tr (x : Pat) (hs : Sh x) : PTr Tryz.prog 47 [.agg x.C] (.tup [i64 (lenP x).1, i64 (lenP x).2]) := by
  induction x using Pat.ind with | h x IH => _
  refine PTr.of_body (N := 87) Tryz.func47 rfl rfl rfl ?_
  refine AWp.know (t := 0) rfl (Known.agg mem_C (Known.ds _)) fun hlen => ?_
  rw [List.length_map] at hlen
  refine AWp.seq ?_
  refine AWp.region ?_
  refine AOps.pln ?_; refine AOp.box rfl rfl (isVal_or rfl) rfl rfl ?_; intro _ _
  refine AOps.sim okL rfl rfl ?_
  refine AOps.sim okL rfl rfl ?_
  refine AOps.nil ?_
  refine AWp.seq ?_
  refine AWp.seq ?_
  refine AWp.region ?_
  refine AOps.sim okL rfl rfl ?_
  refine AOps.pln ?_; refine AOp.load okL rfl (.head _) rfl rfl rfl rfl ?_
  refine AOps.nil ?_
  refine seqQ_n ?_
  rename_i r _
  refine AWp.join (α := Unit) (fun _ => [(1, .ptr r 7 0 0)]) (fun _ => [(r, .row 25 7 [x.C])]) (fun _ => lenP x = lenL x.op x.l true (0, 0)) ?_ fun R K hR => ?_
  · rintro _ hl
    refine AWp.seq ?_
    refine AWp.region ?_
    refine AOps.sim okL rfl rfl ?_
    refine AOps.sim okL rfl rfl ?_
    refine AOps.nil ?_
    refine AWp.seq ?_
    refine AWp.seq ?_
    refine AWp.region ?_
    refine AOps.sim okL rfl rfl ?_
    refine AOps.pln ?_; refine AOp.load okL rfl (.head _) rfl rfl rfl rfl ?_
    refine AOps.sim okL rfl rfl ?_
    refine AOps.sim okL rfl rfl ?_
    refine AOps.nil ?_
    refine AWp.block ?_
    refine AWp.loopM (α := Nat × Int × Int) (fun a => x.l.length - a.1) (fun a => [(1, .ptr r 7 0 0), (6, i64 a.2.1), (7, i64 a.2.2), (42, .ds (x.l.map Pat.cells)), (43, i64 (x.l.map Pat.cells).length), (44, i64 a.1)]) (fun _ => [(r, .row 25 7 [x.C])])
      (fun a => a.1 ≤ x.l.length ∧ lenL x.op (x.l.drop a.1) (decide ((a.1 : Int) = 0)) a.2 = lenP x) (0, 0, 0) ⟨Nat.zero_le _, hl.symm⟩ ?_ (List.Perm.refl _) ?_
    · simp only [AllIn]
      refine ⟨rfl, rfl, rfl, rfl, rfl, rfl, trivial⟩
    rintro ⟨k, m⟩ ⟨hk, hm⟩ ih
    simp only at hk hm
    refine AWp.seq ?_
    refine AWp.region ?_
    refine AOps.sim okL rfl rfl ?_
    refine AOps.nil ?_
    refine AWp.seq ?_
    first | refine AWp.condCase rfl (fun h => ?_) (fun h => ?_) | refine AWp.cond rfl (fun h => ?_) (fun h => ?_)
    · have h := of_decide_eq_true h
      simp only [List.length_map] at h
      obtain ⟨y, hy⟩ : ∃ y, x.l[k]? = some y := ⟨x.l[k], by simp [show k < x.l.length by omega]⟩
      have nx := nxt (k := k) (n := x.l.length) (by omega) hlen
      rw [drop_get hy, lenL] at hm
      have hk1 : decide (((k + 1 : Nat) : Int) = 0) = false := decide_eq_false (by omega)
      have hc := IH y (List.mem_of_getElem? hy) (hs.tl y (List.mem_of_getElem? hy))
      refine AWp.skip ?_
      refine AWp.seq ?_
      refine AWp.block ?_
      refine AWp.seq ?_
      refine AWp.region ?_
      refine AOps.sim okL rfl rfl ?_
      refine AOps.sim okL (sOp_idxD rfl rfl rfl rfl rfl (by omega) (getC hy) rfl) rfl ?_
      refine AOps.sim okL rfl rfl ?_
      refine AOps.pln ?_; refine AOp.alloc okL rfl rfl rfl ?_; intro _ _
      refine AOps.sim okL rfl rfl ?_
      refine AOps.pln ?_; refine AOp.store okL rfl rfl rfl (isVal_or rfl) rfl rfl rfl .here rfl rfl rfl ?_
      refine AOps.nil ?_
      refine AWp.seq ?_
      refine AWp.region ?_
      refine AOps.pln ?_; refine AOp.load okL rfl (.head _) rfl rfl rfl rfl ?_
      refine AOps.pln ?_; focus (refine AOp.callP (v := ?_) rfl rfl rfl ?_ ?_; rotate_left; exact (hc))
      refine AOps.sim okL rfl rfl ?_
      refine AOps.sim okL rfl rfl ?_
      refine AOps.sim okL rfl rfl ?_
      refine AOps.sim okL rfl rfl ?_
      refine AOps.sim okL rfl rfl ?_
      refine AOps.nil ?_
      refine AWp.block ?_
      refine AWp.seq ?_
      refine AWp.region ?_
      refine AOps.sim okL rfl rfl ?_
      refine AOps.sim okL rfl rfl ?_
      refine AOps.sim okL rfl rfl ?_
      refine AOps.nil ?_
      refine seqQ_n ?_
      refine AWp.condCase rfl (fun h => ?_) (fun h => ?_)
      · refine AWp.region ?_
        refine AOps.sim okL rfl rfl ?_
        refine AOps.sim okL rfl rfl ?_
        refine AOps.sim okL rfl rfl ?_
        refine AOps.sim okL rfl rfl ?_
        refine AOps.nil ?_
        refine AWp.region ?_
        refine AOps.sim okL rfl rfl ?_
        refine AOps.sim okL rfl rfl ?_
        refine AOps.nil ?_
        refine seqQ_n ?_
        (refine AIn.nextN 1 (ih ((k + 1, lenS x.op (decide ((k : Int) = 0)) m (lenP y))) (⟨by omega, by simp only [hk1]; exact hm⟩) (by first | omega | (simp only; omega))) ?_ rfl; repeat (first | exact trivial | refine ⟨rfl, ?_⟩ | refine ⟨congrArg some nx, ?_⟩ | refine ⟨congrArg (fun v => some (A.int .i64 v)) (by clear ih IH hc hm; simp_all [lenS, w64] <;> omega), ?_⟩))
      refine AWp.seq ?_
      refine AWp.region ?_
      refine AOps.sim okL rfl rfl ?_
      refine AOps.pln ?_; refine AOp.load okL rfl (.tail _ (.head _)) rfl rfl rfl rfl ?_
      refine AOps.sim okL rfl rfl ?_
      refine AOps.sim okL rfl rfl ?_
      refine AOps.nil ?_
      refine seqQ_n ?_
      refine AWp.condCase rfl (fun h => ?_) (fun h => ?_)
      · refine AWp.region ?_
        refine AOps.sim okL rfl rfl ?_
        refine AOps.sim okL rfl rfl ?_
        refine AOps.sim okL rfl rfl ?_
        refine AOps.sim okL rfl rfl ?_
        refine AOps.sim okL rfl rfl ?_
        refine AOps.pln ?_; focus (refine AOp.callP (v := ?_) rfl rfl rfl ?_ ?_; rotate_left; exact (plus_tr _ _))
        refine AOps.sim okL rfl rfl ?_
        refine AOps.sim okL rfl rfl ?_
        refine AOps.nil ?_
        refine AWp.region ?_
        refine AOps.sim okL rfl rfl ?_
        refine AOps.sim okL rfl rfl ?_
        refine AOps.nil ?_
        refine seqQ_n ?_
        (refine AIn.nextN 1 (ih ((k + 1, lenS x.op (decide ((k : Int) = 0)) m (lenP y))) (⟨by omega, by simp only [hk1]; exact hm⟩) (by first | omega | (simp only; omega))) ?_ rfl; repeat (first | exact trivial | refine ⟨rfl, ?_⟩ | refine ⟨congrArg some nx, ?_⟩ | refine ⟨congrArg (fun v => some (A.int .i64 v)) (by clear ih IH hc hm; simp_all [lenS, w64] <;> omega), ?_⟩))
      refine AWp.seq ?_
      refine AWp.region ?_
      refine AOps.sim okL rfl rfl ?_
      refine AOps.sim okL rfl rfl ?_
      refine AOps.sim okL rfl rfl ?_
      refine AOps.sim okL rfl rfl ?_
      refine AOps.nil ?_
      refine AWp.seq ?_
      refine AWp.region ?_
      refine AOps.sim okL rfl rfl ?_
      refine AOps.sim okL rfl rfl ?_
      refine AOps.sim okL rfl rfl ?_
      refine AOps.guardCase rfl rfl rfl (fun h => ?_) (fun h => ?_)
      · refine AOps.simW okL rfl rfl rfl rfl ?_
        refine AOps.simW okL rfl rfl rfl rfl ?_
        refine AOps.simW okL rfl rfl rfl rfl ?_
        refine AOps.guardCase rfl rfl rfl (fun h => ?_) (fun h => ?_)
        · refine AOps.unw rfl rfl rfl rfl ?_
          refine AOps.unw rfl rfl rfl rfl ?_
          refine AOps.unw rfl rfl rfl rfl ?_
          refine AOps.simW okL rfl rfl rfl rfl ?_
          refine AOps.sim okL rfl rfl ?_
          refine AOps.nil ?_
          refine AWp.condT rfl ?_
          refine AWp.region ?_
          refine AOps.sim okL rfl rfl ?_
          refine AOps.sim okL rfl rfl ?_
          refine AOps.nil ?_
          refine AWp.region ?_
          refine AOps.sim okL rfl rfl ?_
          refine AOps.sim okL rfl rfl ?_
          refine AOps.nil ?_
          refine seqQ_n ?_
          (refine AIn.nextN 1 (ih ((k + 1, lenS x.op (decide ((k : Int) = 0)) m (lenP y))) (⟨by omega, by simp only [hk1]; exact hm⟩) (by first | omega | (simp only; omega))) ?_ rfl; repeat (first | exact trivial | refine ⟨rfl, ?_⟩ | refine ⟨congrArg some nx, ?_⟩ | refine ⟨congrArg (fun v => some (A.int .i64 v)) (by clear ih IH hc hm; simp_all [lenS, w64] <;> omega), ?_⟩))
        refine AOps.simW okL rfl rfl rfl rfl ?_
        refine AOps.simW okL rfl rfl rfl rfl ?_
        refine AOps.simW okL rfl rfl rfl rfl ?_
        refine AOps.simW okL rfl rfl rfl rfl ?_
        refine AOps.sim okL rfl rfl ?_
        refine AOps.nil ?_
        refine seqQ_n ?_
        refine AWp.condCase rfl (fun h => ?_) (fun h => ?_)
        · refine AWp.region ?_
          refine AOps.sim okL rfl rfl ?_
          refine AOps.sim okL rfl rfl ?_
          refine AOps.nil ?_
          refine AWp.region ?_
          refine AOps.sim okL rfl rfl ?_
          refine AOps.sim okL rfl rfl ?_
          refine AOps.nil ?_
          refine seqQ_n ?_
          (refine AIn.nextN 1 (ih ((k + 1, lenS x.op (decide ((k : Int) = 0)) m (lenP y))) (⟨by omega, by simp only [hk1]; exact hm⟩) (by first | omega | (simp only; omega))) ?_ rfl; repeat (first | exact trivial | refine ⟨rfl, ?_⟩ | refine ⟨congrArg some nx, ?_⟩ | refine ⟨congrArg (fun v => some (A.int .i64 v)) (by clear ih IH hc hm; simp_all [lenS, w64] <;> omega), ?_⟩))
        refine AWp.skip ?_
        refine AWp.region ?_
        refine AOps.sim okL rfl rfl ?_
        refine AOps.sim okL rfl rfl ?_
        refine AOps.nil ?_
        refine seqQ_n ?_
        (refine AIn.nextN 1 (ih ((k + 1, lenS x.op (decide ((k : Int) = 0)) m (lenP y))) (⟨by omega, by simp only [hk1]; exact hm⟩) (by first | omega | (simp only; omega))) ?_ rfl; repeat (first | exact trivial | refine ⟨rfl, ?_⟩ | refine ⟨congrArg some nx, ?_⟩ | refine ⟨congrArg (fun v => some (A.int .i64 v)) (by clear ih IH hc hm; simp_all [lenS, w64] <;> omega), ?_⟩))
      refine AOps.unw rfl rfl rfl rfl ?_
      refine AOps.unw rfl rfl rfl rfl ?_
      refine AOps.unw rfl rfl rfl rfl ?_
      refine AOps.unwU rfl rfl rfl ?_
      refine AOps.unwU rfl rfl rfl ?_
      refine AOps.unwU rfl rfl rfl ?_
      refine AOps.unw rfl rfl rfl rfl ?_
      refine AOps.sim okL rfl rfl ?_
      refine AOps.nil ?_
      refine AWp.condF rfl ?_
      refine AWp.skip ?_
      refine AWp.region ?_
      refine AOps.sim okL rfl rfl ?_
      refine AOps.sim okL rfl rfl ?_
      refine AOps.nil ?_
      refine seqQ_n ?_
      (refine AIn.nextN 1 (ih ((k + 1, lenS x.op (decide ((k : Int) = 0)) m (lenP y))) (⟨by omega, by simp only [hk1]; exact hm⟩) (by first | omega | (simp only; omega))) ?_ rfl; repeat (first | exact trivial | refine ⟨rfl, ?_⟩ | refine ⟨congrArg some nx, ?_⟩ | refine ⟨congrArg (fun v => some (A.int .i64 v)) (by clear ih IH hc hm; simp_all [lenS, w64] <;> omega), ?_⟩))
    have h := of_decide_eq_false h
    simp only [List.length_map] at h
    rw [List.drop_eq_nil_of_le (by omega), lenL] at hm
    refine AWp.exit ?_
    refine AWp.seq ?_
    refine AWp.region ?_
    refine AOps.sim okL rfl rfl ?_
    refine AOps.sim okL rfl rfl ?_
    refine AOps.sim okL rfl rfl ?_
    refine AOps.sim okL rfl rfl ?_
    refine AOps.nil ?_
    refine AWp.ret ?_
    refine bodyQ_r (by first | exact ResOk.one rfl rfl | exact ResOk.two rfl rfl rfl | exact ResOk.three rfl rfl rfl rfl | exact ResOk.none rfl) ?_
    rw [← hm]
  have hR' := hR .ret
  cases hxl : x.l with
  | nil =>
    refine AWp.block ?_
    refine AWp.seq ?_
    refine AWp.seq ?_
    refine AWp.region ?_
    refine AOps.sim okL rfl rfl ?_
    refine AOps.sim okL rfl rfl ?_
    refine AOps.nil ?_
    refine seqQ_n ?_
    refine AWp.condCase rfl (fun h => ?_) (fun h => ?_)
    · refine AWp.skip ?_
      refine AWp.condT rfl ?_
      refine AWp.seq ?_
      refine AWp.region ?_
      refine AOps.sim okL rfl rfl ?_
      refine AOps.sim okL rfl rfl ?_
      refine AOps.nil ?_
      refine AWp.ret ?_
      refine blockQ_r ?_
      first | (refine hR _ _ _ (by intro h; cases h) ?_; refine bodyQ_r (by first | exact ResOk.one rfl rfl | exact ResOk.two rfl rfl rfl | exact ResOk.three rfl rfl rfl rfl | exact ResOk.none rfl) ?_; clear K hR hR' IH; rw [lenP_eq]; simp_all; done) | (refine K () ?_ 0 _ _ ⟨rfl, trivial⟩ rfl; clear K hR hR' IH; rw [lenP_eq]; simp_all; done) | (exfalso; exact hs.hd (by simp_all) hxl)
    refine AWp.seq ?_
    refine AWp.region ?_
    refine AOps.sim okL rfl rfl ?_
    refine AOps.sim okL rfl rfl ?_
    refine AOps.nil ?_
    refine seqQ_n ?_
    refine AWp.condCase rfl (fun h => ?_) (fun h => ?_)
    · refine AWp.skip ?_
      refine AWp.condT rfl ?_
      refine AWp.seq ?_
      refine AWp.region ?_
      refine AOps.sim okL rfl rfl ?_
      refine AOps.sim okL rfl rfl ?_
      refine AOps.nil ?_
      refine AWp.ret ?_
      refine blockQ_r ?_
      first | (refine hR _ _ _ (by intro h; cases h) ?_; refine bodyQ_r (by first | exact ResOk.one rfl rfl | exact ResOk.two rfl rfl rfl | exact ResOk.three rfl rfl rfl rfl | exact ResOk.none rfl) ?_; clear K hR hR' IH; rw [lenP_eq]; simp_all; done) | (refine K () ?_ 0 _ _ ⟨rfl, trivial⟩ rfl; clear K hR hR' IH; rw [lenP_eq]; simp_all; done) | (exfalso; exact hs.hd (by simp_all) hxl)
    refine AWp.region ?_
    refine AOps.sim okL rfl rfl ?_
    refine AOps.sim okL rfl rfl ?_
    refine AOps.nil ?_
    refine seqQ_n ?_
    refine AWp.condCase rfl (fun h => ?_) (fun h => ?_)
    · refine AWp.seq ?_
      refine AWp.region ?_
      refine AOps.sim okL rfl rfl ?_
      refine AOps.sim okL rfl rfl ?_
      refine AOps.nil ?_
      refine AWp.ret ?_
      refine blockQ_r ?_
      first | (refine hR _ _ _ (by intro h; cases h) ?_; refine bodyQ_r (by first | exact ResOk.one rfl rfl | exact ResOk.two rfl rfl rfl | exact ResOk.three rfl rfl rfl rfl | exact ResOk.none rfl) ?_; clear K hR hR' IH; rw [lenP_eq]; simp_all; done) | (refine K () ?_ 0 _ _ ⟨rfl, trivial⟩ rfl; clear K hR hR' IH; rw [lenP_eq]; simp_all; done) | (exfalso; exact hs.hd (by simp_all) hxl)
    refine AWp.seq ?_
    refine AWp.seq ?_
    refine AWp.region ?_
    refine AOps.sim okL rfl rfl ?_
    refine AOps.sim okL rfl rfl ?_
    refine AOps.nil ?_
    refine seqQ_n ?_
    refine AWp.condCase rfl (fun h => ?_) (fun h => ?_)
    · refine AWp.skip ?_
      refine AWp.condT rfl ?_
      refine AWp.seq ?_
      refine AWp.region ?_
      refine AOps.sim okL rfl rfl ?_
      refine AOps.sim okL rfl rfl ?_
      refine AOps.nil ?_
      refine AWp.ret ?_
      refine blockQ_r ?_
      first | (refine hR _ _ _ (by intro h; cases h) ?_; refine bodyQ_r (by first | exact ResOk.one rfl rfl | exact ResOk.two rfl rfl rfl | exact ResOk.three rfl rfl rfl rfl | exact ResOk.none rfl) ?_; clear K hR hR' IH; rw [lenP_eq]; simp_all; done) | (refine K () ?_ 0 _ _ ⟨rfl, trivial⟩ rfl; clear K hR hR' IH; rw [lenP_eq]; simp_all; done) | (exfalso; exact hs.hd (by simp_all) hxl)
    refine AWp.region ?_
    refine AOps.sim okL rfl rfl ?_
    refine AOps.sim okL rfl rfl ?_
    refine AOps.nil ?_
    refine seqQ_n ?_
    refine AWp.condCase rfl (fun h => ?_) (fun h => ?_)
    · refine AWp.seq ?_
      refine AWp.region ?_
      refine AOps.sim okL rfl rfl ?_
      refine AOps.sim okL rfl rfl ?_
      refine AOps.nil ?_
      refine AWp.ret ?_
      refine blockQ_r ?_
      first | (refine hR _ _ _ (by intro h; cases h) ?_; refine bodyQ_r (by first | exact ResOk.one rfl rfl | exact ResOk.two rfl rfl rfl | exact ResOk.three rfl rfl rfl rfl | exact ResOk.none rfl) ?_; clear K hR hR' IH; rw [lenP_eq]; simp_all; done) | (refine K () ?_ 0 _ _ ⟨rfl, trivial⟩ rfl; clear K hR hR' IH; rw [lenP_eq]; simp_all; done) | (exfalso; exact hs.hd (by simp_all) hxl)
    refine AWp.seq ?_
    refine AWp.region ?_
    refine AOps.sim okL rfl rfl ?_
    refine AOps.sim okL rfl rfl ?_
    refine AOps.nil ?_
    refine seqQ_n ?_
    refine AWp.condCase rfl (fun h => ?_) (fun h => ?_)
    · refine AWp.seq ?_
      refine AWp.region ?_
      refine AOps.sim okL rfl rfl ?_
      refine AOps.sim okL rfl rfl ?_
      refine AOps.nil ?_
      refine AWp.ret ?_
      refine blockQ_r ?_
      first | (refine hR _ _ _ (by intro h; cases h) ?_; refine bodyQ_r (by first | exact ResOk.one rfl rfl | exact ResOk.two rfl rfl rfl | exact ResOk.three rfl rfl rfl rfl | exact ResOk.none rfl) ?_; clear K hR hR' IH; rw [lenP_eq]; simp_all; done) | (refine K () ?_ 0 _ _ ⟨rfl, trivial⟩ rfl; clear K hR hR' IH; rw [lenP_eq]; simp_all; done) | (exfalso; exact hs.hd (by simp_all) hxl)
    refine AWp.seq ?_
    refine AWp.region ?_
    refine AOps.sim okL rfl rfl ?_
    refine AOps.sim okL rfl rfl ?_
    refine AOps.nil ?_
    refine seqQ_n ?_
    refine AWp.condCase rfl (fun h => ?_) (fun h => ?_)
    · refine AWp.seq ?_
      refine AWp.region ?_
      refine AOps.sim okL rfl rfl ?_
      refine AOps.pln ?_; refine AOp.load okL rfl (.head _) rfl rfl rfl rfl ?_
      first | (refine hR _ _ _ (by intro h; cases h) ?_; refine bodyQ_r (by first | exact ResOk.one rfl rfl | exact ResOk.two rfl rfl rfl | exact ResOk.three rfl rfl rfl rfl | exact ResOk.none rfl) ?_; clear K hR hR' IH; rw [lenP_eq]; simp_all; done) | (refine K () ?_ 0 _ _ ⟨rfl, trivial⟩ rfl; clear K hR hR' IH; rw [lenP_eq]; simp_all; done) | (exfalso; exact hs.hd (by simp_all) hxl)
    refine AWp.skip ?_
    refine blockQ_n ?_
    first | (refine hR _ _ _ (by intro h; cases h) ?_; refine bodyQ_r (by first | exact ResOk.one rfl rfl | exact ResOk.two rfl rfl rfl | exact ResOk.three rfl rfl rfl rfl | exact ResOk.none rfl) ?_; clear K hR hR' IH; rw [lenP_eq]; simp_all; done) | (refine K () ?_ 0 _ _ ⟨rfl, trivial⟩ rfl; clear K hR hR' IH; rw [lenP_eq]; simp_all; done) | (exfalso; exact hs.hd (by simp_all) hxl)
  | cons y0 l0 =>
    have hy0 : y0 ∈ x.l := by rw [hxl]; exact List.mem_cons_self
    have hc := IH y0 hy0 (hs.tl y0 hy0)
    have hH : lenH x.l = lenP y0 := by rw [hxl]; rfl
    have hg : x.l[0]? = some y0 := by rw [hxl]; rfl
    refine AWp.block ?_
    refine AWp.seq ?_
    refine AWp.seq ?_
    refine AWp.region ?_
    refine AOps.sim okL rfl rfl ?_
    refine AOps.sim okL rfl rfl ?_
    refine AOps.nil ?_
    refine seqQ_n ?_
    refine AWp.condCase rfl (fun h => ?_) (fun h => ?_)
    · refine AWp.skip ?_
      refine AWp.condT rfl ?_
      refine AWp.seq ?_
      refine AWp.region ?_
      refine AOps.sim okL rfl rfl ?_
      refine AOps.sim okL rfl rfl ?_
      refine AOps.nil ?_
      refine AWp.ret ?_
      refine blockQ_r ?_
      first | (refine hR _ _ _ (by intro h; cases h) ?_; refine bodyQ_r (by first | exact ResOk.one rfl rfl | exact ResOk.two rfl rfl rfl | exact ResOk.three rfl rfl rfl rfl | exact ResOk.none rfl) ?_; rw [lenP_6 (by simpa using h) hH]; done) | (refine hR _ _ _ (by intro h; cases h) ?_; refine bodyQ_r (by first | exact ResOk.one rfl rfl | exact ResOk.two rfl rfl rfl | exact ResOk.three rfl rfl rfl rfl | exact ResOk.none rfl) ?_; clear K hR hR' IH hc; rw [lenP_eq]; simp_all; done) | (refine K () ?_ 0 _ _ ⟨rfl, trivial⟩ rfl; clear K hR hR' IH hc; rw [lenP_eq]; simp_all; done)
    refine AWp.seq ?_
    refine AWp.region ?_
    refine AOps.sim okL rfl rfl ?_
    refine AOps.sim okL rfl rfl ?_
    refine AOps.nil ?_
    refine seqQ_n ?_
    refine AWp.condCase rfl (fun h => ?_) (fun h => ?_)
    · refine AWp.skip ?_
      refine AWp.condT rfl ?_
      refine AWp.seq ?_
      refine AWp.region ?_
      refine AOps.sim okL rfl rfl ?_
      refine AOps.sim okL rfl rfl ?_
      refine AOps.nil ?_
      refine AWp.ret ?_
      refine blockQ_r ?_
      first | (refine hR _ _ _ (by intro h; cases h) ?_; refine bodyQ_r (by first | exact ResOk.one rfl rfl | exact ResOk.two rfl rfl rfl | exact ResOk.three rfl rfl rfl rfl | exact ResOk.none rfl) ?_; rw [lenP_6 (by simpa using h) hH]; done) | (refine hR _ _ _ (by intro h; cases h) ?_; refine bodyQ_r (by first | exact ResOk.one rfl rfl | exact ResOk.two rfl rfl rfl | exact ResOk.three rfl rfl rfl rfl | exact ResOk.none rfl) ?_; clear K hR hR' IH hc; rw [lenP_eq]; simp_all; done) | (refine K () ?_ 0 _ _ ⟨rfl, trivial⟩ rfl; clear K hR hR' IH hc; rw [lenP_eq]; simp_all; done)
    refine AWp.region ?_
    refine AOps.sim okL rfl rfl ?_
    refine AOps.sim okL rfl rfl ?_
    refine AOps.nil ?_
    refine seqQ_n ?_
    refine AWp.condCase rfl (fun h => ?_) (fun h => ?_)
    · refine AWp.seq ?_
      refine AWp.region ?_
      refine AOps.sim okL rfl rfl ?_
      refine AOps.sim okL rfl rfl ?_
      refine AOps.nil ?_
      refine AWp.ret ?_
      refine blockQ_r ?_
      first | (refine hR _ _ _ (by intro h; cases h) ?_; refine bodyQ_r (by first | exact ResOk.one rfl rfl | exact ResOk.two rfl rfl rfl | exact ResOk.three rfl rfl rfl rfl | exact ResOk.none rfl) ?_; rw [lenP_6 (by simpa using h) hH]; done) | (refine hR _ _ _ (by intro h; cases h) ?_; refine bodyQ_r (by first | exact ResOk.one rfl rfl | exact ResOk.two rfl rfl rfl | exact ResOk.three rfl rfl rfl rfl | exact ResOk.none rfl) ?_; clear K hR hR' IH hc; rw [lenP_eq]; simp_all; done) | (refine K () ?_ 0 _ _ ⟨rfl, trivial⟩ rfl; clear K hR hR' IH hc; rw [lenP_eq]; simp_all; done)
    refine AWp.seq ?_
    refine AWp.seq ?_
    refine AWp.region ?_
    refine AOps.sim okL rfl rfl ?_
    refine AOps.sim okL rfl rfl ?_
    refine AOps.nil ?_
    refine seqQ_n ?_
    refine AWp.condCase rfl (fun h => ?_) (fun h => ?_)
    · refine AWp.skip ?_
      refine AWp.condT rfl ?_
      refine AWp.seq ?_
      refine AWp.region ?_
      refine AOps.sim okL rfl rfl ?_
      refine AOps.sim okL rfl rfl ?_
      refine AOps.nil ?_
      refine AWp.ret ?_
      refine blockQ_r ?_
      first | (refine hR _ _ _ (by intro h; cases h) ?_; refine bodyQ_r (by first | exact ResOk.one rfl rfl | exact ResOk.two rfl rfl rfl | exact ResOk.three rfl rfl rfl rfl | exact ResOk.none rfl) ?_; rw [lenP_6 (by simpa using h) hH]; done) | (refine hR _ _ _ (by intro h; cases h) ?_; refine bodyQ_r (by first | exact ResOk.one rfl rfl | exact ResOk.two rfl rfl rfl | exact ResOk.three rfl rfl rfl rfl | exact ResOk.none rfl) ?_; clear K hR hR' IH hc; rw [lenP_eq]; simp_all; done) | (refine K () ?_ 0 _ _ ⟨rfl, trivial⟩ rfl; clear K hR hR' IH hc; rw [lenP_eq]; simp_all; done)
    refine AWp.region ?_
    refine AOps.sim okL rfl rfl ?_
    refine AOps.sim okL rfl rfl ?_
    refine AOps.nil ?_
    refine seqQ_n ?_
    refine AWp.condCase rfl (fun h => ?_) (fun h => ?_)
    · refine AWp.seq ?_
      refine AWp.region ?_
      refine AOps.sim okL rfl rfl ?_
      refine AOps.sim okL rfl rfl ?_
      refine AOps.nil ?_
      refine AWp.ret ?_
      refine blockQ_r ?_
      first | (refine hR _ _ _ (by intro h; cases h) ?_; refine bodyQ_r (by first | exact ResOk.one rfl rfl | exact ResOk.two rfl rfl rfl | exact ResOk.three rfl rfl rfl rfl | exact ResOk.none rfl) ?_; rw [lenP_6 (by simpa using h) hH]; done) | (refine hR _ _ _ (by intro h; cases h) ?_; refine bodyQ_r (by first | exact ResOk.one rfl rfl | exact ResOk.two rfl rfl rfl | exact ResOk.three rfl rfl rfl rfl | exact ResOk.none rfl) ?_; clear K hR hR' IH hc; rw [lenP_eq]; simp_all; done) | (refine K () ?_ 0 _ _ ⟨rfl, trivial⟩ rfl; clear K hR hR' IH hc; rw [lenP_eq]; simp_all; done)
    refine AWp.seq ?_
    refine AWp.region ?_
    refine AOps.sim okL rfl rfl ?_
    refine AOps.sim okL rfl rfl ?_
    refine AOps.nil ?_
    refine seqQ_n ?_
    refine AWp.condCase rfl (fun h => ?_) (fun h => ?_)
    · refine AWp.seq ?_
      refine AWp.region ?_
      refine AOps.sim okL rfl rfl ?_
      refine AOps.sim okL rfl rfl ?_
      refine AOps.nil ?_
      refine AWp.ret ?_
      refine blockQ_r ?_
      first | (refine hR _ _ _ (by intro h; cases h) ?_; refine bodyQ_r (by first | exact ResOk.one rfl rfl | exact ResOk.two rfl rfl rfl | exact ResOk.three rfl rfl rfl rfl | exact ResOk.none rfl) ?_; rw [lenP_6 (by simpa using h) hH]; done) | (refine hR _ _ _ (by intro h; cases h) ?_; refine bodyQ_r (by first | exact ResOk.one rfl rfl | exact ResOk.two rfl rfl rfl | exact ResOk.three rfl rfl rfl rfl | exact ResOk.none rfl) ?_; clear K hR hR' IH hc; rw [lenP_eq]; simp_all; done) | (refine K () ?_ 0 _ _ ⟨rfl, trivial⟩ rfl; clear K hR hR' IH hc; rw [lenP_eq]; simp_all; done)
    refine AWp.seq ?_
    refine AWp.region ?_
    refine AOps.sim okL rfl rfl ?_
    refine AOps.sim okL rfl rfl ?_
    refine AOps.nil ?_
    refine seqQ_n ?_
    refine AWp.condCase rfl (fun h => ?_) (fun h => ?_)
    · refine AWp.seq ?_
      refine AWp.region ?_
      refine AOps.sim okL rfl rfl ?_
      refine AOps.pln ?_; refine AOp.load okL rfl (.head _) rfl rfl rfl rfl ?_
      refine AOps.sim okL (sOp_idxD rfl rfl rfl rfl rfl (Int.le_refl _) (getC hg) rfl) rfl ?_
      refine AOps.sim okL rfl rfl ?_
      refine AOps.pln ?_; focus (refine AOp.callP (v := ?_) rfl rfl rfl ?_ ?_; rotate_left; exact (hc))
      refine AOps.sim okL rfl rfl ?_
      refine AOps.sim okL rfl rfl ?_
      refine AOps.sim okL rfl rfl ?_
      refine AOps.sim okL rfl rfl ?_
      refine AOps.sim okL rfl rfl ?_
      refine AOps.nil ?_
      refine AWp.seq ?_
      refine AWp.drawn okL hmix (by kernel_rfl) ?_
      refine Pl.pure rfl rfl ?_
      refine Pl.quiet rfl rfl rfl (AOp.load okL rfl (.head _) rfl rfl rfl rfl (AOps.nil (Qn_n ⟨rfl, rfl⟩))) ?_
      refine Pl.pure rfl rfl ?_
      focus (refine Pl.quiet (v := ?_) rfl rfl rfl (AOp.callP rfl rfl rfl ?_ (AOps.nil (Qn_n ⟨rfl, rfl⟩))) ?_; rotate_left; exact (times_tr _ _))
      refine Pl.pure rfl rfl ?_
      refine Pl.quiet rfl rfl rfl (AOp.load okL rfl (.head _) rfl rfl rfl rfl (AOps.nil (Qn_n ⟨rfl, rfl⟩))) ?_
      refine Pl.pure rfl rfl ?_
      focus (refine Pl.quiet (v := ?_) rfl rfl rfl (AOp.callP rfl rfl rfl ?_ (AOps.nil (Qn_n ⟨rfl, rfl⟩))) ?_; rotate_left; exact (times_tr _ _))
      refine Pl.pure rfl rfl ?_
      refine Pl.pure rfl rfl ?_
      refine Pl.nil ?_
      refine AWp.ret ?_
      refine blockQ_r ?_
      first | (refine hR _ _ _ (by intro h; cases h) ?_; refine bodyQ_r (by first | exact ResOk.one rfl rfl | exact ResOk.two rfl rfl rfl | exact ResOk.three rfl rfl rfl rfl | exact ResOk.none rfl) ?_; rw [lenP_6 (by simpa using h) hH]; done) | (refine hR _ _ _ (by intro h; cases h) ?_; refine bodyQ_r (by first | exact ResOk.one rfl rfl | exact ResOk.two rfl rfl rfl | exact ResOk.three rfl rfl rfl rfl | exact ResOk.none rfl) ?_; clear K hR hR' IH hc; rw [lenP_eq]; simp_all; done) | (refine K () ?_ 0 _ _ ⟨rfl, trivial⟩ rfl; clear K hR hR' IH hc; rw [lenP_eq]; simp_all; done)
    refine AWp.skip ?_
    refine blockQ_n ?_
    first | (refine hR _ _ _ (by intro h; cases h) ?_; refine bodyQ_r (by first | exact ResOk.one rfl rfl | exact ResOk.two rfl rfl rfl | exact ResOk.three rfl rfl rfl rfl | exact ResOk.none rfl) ?_; rw [lenP_6 (by simpa using h) hH]; done) | (refine hR _ _ _ (by intro h; cases h) ?_; refine bodyQ_r (by first | exact ResOk.one rfl rfl | exact ResOk.two rfl rfl rfl | exact ResOk.three rfl rfl rfl rfl | exact ResOk.none rfl) ?_; clear K hR hR' IH hc; rw [lenP_eq]; simp_all; done) | (refine K () ?_ 0 _ _ ⟨rfl, trivial⟩ rfl; clear K hR hR' IH hc; rw [lenP_eq]; simp_all; done)
end Go.Proofs.YtdeenhdmmeahgaaGreatDoor

namespace Go.Proofs.YtdeenhdmmeahgaaGreatDoor
open Go Go.Abs
set_option linter.unusedVariables false
set_option maxRecDepth 100000
set_option linter.unusedSimpArgs false

/-! The names met so far, as the map holds them. -/
def NM (es : List (A × A)) (ns : List (List UInt8)) : Prop := ∀ k : List UInt8, (k ∈ ns ∧ ∃ i, findM (.str k) es = some (some (i, .bool (!(k == []))))) ∨ (k ∉ ns ∧ findM (.str k) es = some none)
theorem NM_nil : NM [] [] := fun k => .inr ⟨by simp, rfl⟩
theorem findM_append {x k v : A} : ∀ {es : List (A × A)} {r : Option (Nat × A)}, findM x es = some r → ∀ b, keyEq x k = some b →
    findM x (es ++ [(k, v)]) = some (match r with | some q => some q | none => match b with | true => some (es.length, v) | false => none)
  | [], r, h, b, hb => by
    simp only [findM] at h; cases h
    simp only [List.nil_append, findM, hb]
    cases b <;> rfl
  | (k', u) :: es, r, h, b, hb => by
    simp only [findM] at h
    simp only [List.cons_append, findM]
    split at h
    · rename_i hk; cases h; simp only [hk]
    · rename_i hk
      split at h
      · rename_i hj
        cases h
        rw [findM_append hj b hb]
      · rename_i hj
        cases h
        rw [findM_append hj b hb]
        cases b <;> rfl
      cases h
    cases h
theorem keyEq_str {a : List UInt8} {x : A} (h : keyEq (.str a) x = some true) : x = .str a := by
  cases x <;> simp only [keyEq] at h <;> first | (cases h; done) | skip
  have := eq_of_beq (Option.some.inj h)
  rw [this]
theorem NM_put {es : List (A × A)} {ns : List (List UInt8)} (h : NM es ns) (k : List UInt8) : ∃ es', putM es (.str k) (.bool (!(k == []))) = some es' ∧ NM es' (ns ++ [k]) := by
  rcases h k with ⟨hm, i, hf⟩ | ⟨hm, hf⟩
  · refine ⟨es, ?_, fun k2 => ?_⟩
    · unfold putM
      rw [hf]
      obtain ⟨key, h1, h2⟩ := findM_at hf
      rw [keyEq_str h2] at h1
      obtain ⟨hlt, h3⟩ := List.getElem?_eq_some_iff.1 h1
      simp only
      rw [← h3, List.set_getElem_self]
    rcases h k2 with ⟨a, b⟩ | ⟨a, b⟩
    · exact .inl ⟨List.mem_append_left _ a, b⟩
    refine .inr ⟨fun hh => ?_, b⟩
    rcases List.mem_append.1 hh with hh | hh
    · exact a hh
    rw [List.mem_singleton.1 hh] at a; exact a hm
  refine ⟨es ++ [(.str k, .bool (!(k == [])))], ?_, fun k2 => ?_⟩
  · unfold putM; rw [hf]
  by_cases hk : k2 = k
  · subst hk
    refine .inl ⟨by simp, es.length, ?_⟩
    rw [findM_append hf true (by simp [keyEq])]
  have hb : keyEq (.str k2) (.str k) = some false := by simp [keyEq, hk]
  rcases h k2 with ⟨a, i, b⟩ | ⟨a, b⟩
  · refine .inl ⟨List.mem_append_left _ a, i, ?_⟩
    rw [findM_append b false hb]
  refine .inr ⟨fun hh => ?_, ?_⟩
  · rcases List.mem_append.1 hh with hh | hh
    · exact a hh
    exact hk (List.mem_singleton.1 hh)
  rw [findM_append b false hb]

abbrev RSt := Int × List (List UInt8)
def grpStep (x : Pat) (st : RSt) : Option RSt :=
  if x.op = 7 then (if x.n = w64 (st.1 + 1) ∧ ¬ (x.name ∈ st.2 ∧ x.name ≠ []) then some (w64 (st.1 + 1), st.2 ++ [x.name]) else none) else some st
def lookE (x : Pat) : Bool := !(decide (x.op = 9) && decide (x.n ≥ 2)) || (match x.l with | [] => false | y :: _ => decide ((lenP y).1 = (lenP y).2))
def besO (op op' : Int) : Bool := if op = 4 then !decide (op' = 4) && !decide (op' = 0) else if op = 5 then !decide (op' = 5) else true
mutual
def rgtP : Pat → Int → Bool → RSt → Option RSt
  | .mk op n mn mx nm st l, g, k, s => if (!nodeM (.mk op n mn mx nm st l) g || (decide (op = 18) && k)) = true then none else match grpStep (.mk op n mn mx nm st l) s with
    | none => none
    | some s1 => match rgtL op l g (k || decide (op = 9)) s1 with
      | none => none
      | some s2 => if lookE (.mk op n mn mx nm st l) = true then some s2 else none
def rgtL (op : Int) : List Pat → Int → Bool → RSt → Option RSt
  | [], _, _, s => some s
  | y :: l, g, k, s => if besO op y.op = true then match rgtP y g k s with
    | none => none
    | some s1 => rgtL op l g k s1 else none
end
theorem rgtP_eq (x : Pat) (g : Int) (k : Bool) (s : RSt) : rgtP x g k s = if (!nodeM x g || (decide (x.op = 18) && k)) = true then none else match grpStep x s with
    | none => none
    | some s1 => match rgtL x.op x.l g (k || decide (x.op = 9)) s1 with
      | none => none
      | some s2 => if lookE x = true then some s2 else none := by cases x; rw [rgtP]; rfl
theorem besideM_eq (x y : Pat) : besideM x y = besO x.op y.op := rfl
theorem rgtL_mem {op g : Int} {k : Bool} : ∀ {l : List Pat} {s s' : RSt}, rgtL op l g k s = some s' → ∀ y ∈ l, ∃ s1 s2, rgtP y g k s1 = some s2
  | [], s, s', _, y, hy => by cases hy
  | x :: l, s, s', h, y, hy => by
    simp only [rgtL] at h
    split at h
    · split at h
      · cases h
      rename_i s1 hx
      rcases List.mem_cons.1 hy with rfl | hy
      · exact ⟨_, _, hx⟩
      exact rgtL_mem h y hy
    cases h
theorem nodeM_parts {x : Pat} {g : Int} (h : nodeM x g = true) (ho : x.op = 5 ∨ x.op = 6 ∨ x.op = 7 ∨ x.op = 8 ∨ x.op = 9 ∨ x.op = 15) : x.l ≠ [] := by
  intro hnil
  unfold nodeM at h
  rcases ho with e | e | e | e | e | e <;> simp [e, nodeR, hnil] at h
theorem rgtP_Sh (x : Pat) : ∀ {g : Int} {k : Bool} {s s' : RSt}, rgtP x g k s = some s' → Sh x := by
  induction x using Pat.ind with | h x IH => _
  intro g k s s' h
  rw [rgtP_eq] at h
  split at h
  · cases h
  rename_i hn
  split at h
  · cases h
  split at h
  · cases h
  rename_i s2 hL
  refine .mk x (fun hop => nodeM_parts (g := g) (by cases hq : nodeM x g <;> simp [hq] at hn ⊢) (by rcases hop with e | e | e | e | e <;> simp [e])) fun y hy => ?_
  obtain ⟨a, b, hy'⟩ := rgtL_mem hL y hy
  exact IH y hy hy'
def HP (rs rn rm rg rl : Nat) (s : Int) (es : List (A × A)) (g : Int) : Heap :=
  [(rs, .row 3 1 [[i64 s]]), (rn, .row 91 1 [[.map rm]]), (rg, .row 3 1 [[i64 g]]), (rl, .row 92 1 [[.fn 69 [] [.ptr rg 1 0 0, .ptr rs 1 0 0, .ptr rn 1 0 0, .ptr rl 1 0 0]]]), (rm, .map es)]
def RR (rs rn rm rg rl : Nat) (g : Int) (o : Option RSt) : A → Heap → Prop := fun r H' => ∃ G s ns es, H' = G ++ HP rs rn rm rg rl s es g ∧ NM es ns ∧ ((r = .bool true ∧ o = some (s, ns)) ∨ (r = .bool false ∧ o = none))
theorem RR_of {rs rn rm rg rl : Nat} {g : Int} {o : Option RSt} (G : Heap) {s : Int} {ns : List (List UInt8)} {es : List (A × A)} (hN : NM es ns) (b : Bool) (h : o = if b = true then some (s, ns) else none) : RR rs rn rm rg rl g o (.bool b) (G ++ HP rs rn rm rg rl s es g) := by
  cases b with
  | true => exact ⟨G, s, ns, es, rfl, hN, .inl ⟨rfl, h⟩⟩
  | false => exact ⟨G, s, ns, es, rfl, hN, .inr ⟨rfl, h⟩⟩
theorem AOps.after {P : Program} {N : NN} {ops rest : List Oper} {Q : Exit → Env → Heap → Prop} {T : Env} {G B F : Heap} (k : AOps P N ops rest Q T (F ++ B)) : AOps P N ops rest Q T ((G ++ B) ++ F) := by
  refine AOps.perm (H' := G ++ (F ++ B)) ?_ (AOps.dropL G k)
  rw [List.append_assoc]
  exact List.perm_append_comm.append_left G
set_option maxHeartbeats 4000000 in
theorem right1_tr (rs rn rm rg rl : Nat) (g : Int) (x : Pat) : ∀ (kk : Bool) (s : Int) (ns : List (List UInt8)) (es : List (A × A)), NM es ns →
    Tr Tryz.prog 69 [.agg x.C, .bool kk, .ptr rg 1 0 0, .ptr rs 1 0 0, .ptr rn 1 0 0, .ptr rl 1 0 0] (HP rs rn rm rg rl s es g) (RR rs rn rm rg rl g (rgtP x g kk (s, ns))) := by
  induction x using Pat.ind with | h x IH => _
  intro kk s ns es hN
  refine Tr.of_body (N := 89) Tryz.func69 rfl rfl rfl ?_
  refine AWp.know (t := 0) rfl (Known.agg mem_C (Known.ds _)) fun hlen => ?_
  rw [List.length_map] at hlen
  refine AWp.seq ?_
  refine AWp.region ?_
  refine AOps.pln ?_
  refine AOp.box rfl rfl (isVal_or rfl) rfl rfl ?_
  intro r6 _
  refine AOps.sim okL rfl rfl ?_
  refine AOps.nil ?_
  refine seqQ_n ?_
  refine AWp.seq ?_
  refine AWp.join (α := Unit) (fun _ => [(1, .bool kk), (2, .ptr rg 1 0 0), (3, .ptr rs 1 0 0), (4, .ptr rn 1 0 0), (5, .ptr rl 1 0 0), (6, .ptr r6 7 0 0)]) (fun _ => (r6, .row 25 7 [x.C]) :: HP rs rn rm rg rl s es g)
    (fun _ => (!nodeM x g || (decide (x.op = 18) && kk)) = false) ?_ fun R K hR => ?_
  · rintro _ hA
    refine AWp.seq ?_
    refine AWp.join (α := Int × List (List UInt8) × List (A × A)) (fun _ => [(1, .bool kk), (2, .ptr rg 1 0 0), (3, .ptr rs 1 0 0), (4, .ptr rn 1 0 0), (5, .ptr rl 1 0 0), (6, .ptr r6 7 0 0)]) (fun a => (r6, .row 25 7 [x.C]) :: HP rs rn rm rg rl a.1 a.2.2 g)
      (fun a => NM a.2.2 a.2.1 ∧ grpStep x (s, ns) = some (a.1, a.2.1)) ?_ fun R K hR => ?_
    · rintro ⟨s1, n1, e1⟩ ⟨hN1, hS⟩
      simp only at hN1 hS ⊢
      refine AWp.seq ?_
      refine AWp.seq ?_
      refine AWp.region ?_
      refine AOps.sim okL rfl rfl ?_
      refine AOps.pln ?_; refine AOp.load okL rfl (.head _) rfl rfl rfl rfl ?_
      refine AOps.sim okL rfl rfl ?_
      refine AOps.sim okL rfl rfl ?_
      refine AOps.nil ?_
      refine AWp.block ?_
      refine AWp.loopM (α := Nat × Int × List (List UInt8) × List (A × A)) (fun a => x.l.length - a.1) (fun a => [(1, .bool kk), (2, .ptr rg 1 0 0), (3, .ptr rs 1 0 0), (4, .ptr rn 1 0 0), (5, .ptr rl 1 0 0), (6, .ptr r6 7 0 0), (47, .ds (x.l.map Pat.cells)), (48, i64 (x.l.map Pat.cells).length), (49, i64 a.1)])
        (fun a => (r6, .row 25 7 [x.C]) :: HP rs rn rm rg rl a.2.1 a.2.2.2 g)
        (fun a => a.1 ≤ x.l.length ∧ NM a.2.2.2 a.2.2.1 ∧ rgtL x.op (x.l.drop a.1) g (kk || decide (x.op = 9)) (a.2.1, a.2.2.1) = rgtL x.op x.l g (kk || decide (x.op = 9)) (s1, n1)) (0, s1, n1, e1) ⟨Nat.zero_le _, hN1, rfl⟩ ?_ (List.Perm.refl _) ?_
      · simp only [AllIn]
        refine ⟨rfl, rfl, rfl, rfl, rfl, rfl, rfl, rfl, rfl, trivial⟩
      rintro ⟨k, s2, n2, e2⟩ ⟨hk, hN2, hm⟩ ih
      simp only at hk hN2 hm
      refine AWp.seq ?_
      refine AWp.region ?_
      refine AOps.sim okL rfl rfl ?_
      refine AOps.nil ?_
      refine AWp.seq ?_
      first | refine AWp.condCase rfl (fun h => ?_) (fun h => ?_) | refine AWp.cond rfl (fun h => ?_) (fun h => ?_)
      · have h := of_decide_eq_true h
        simp only [List.length_map] at h
        obtain ⟨y, hy⟩ : ∃ y, x.l[k]? = some y := ⟨x.l[k], by simp [show k < x.l.length by omega]⟩
        have nx := nxt (k := k) (n := x.l.length) (by omega) hlen
        have hym := List.mem_of_getElem? hy
        rw [drop_get hy, rgtL] at hm
        refine AWp.skip ?_
        refine AWp.seq ?_
        refine AWp.block ?_
        refine AWp.seq ?_
        refine AWp.region ?_
        refine AOps.sim okL (sOp_idxD rfl rfl rfl rfl rfl (by omega) (getC hy) rfl) rfl ?_
        refine AOps.sim okL rfl rfl ?_
        refine AOps.pln ?_; refine AOp.alloc okL rfl rfl rfl ?_; intro _ _
        refine AOps.pln ?_; refine AOp.store okL rfl rfl rfl (isVal_or rfl) rfl rfl rfl .here rfl rfl rfl ?_
        refine AOps.nil ?_
        refine AWp.seq ?_
        refine AWp.region ?_
        refine AOps.pln ?_; refine AOp.load okL rfl (.tail _ (.head _)) rfl rfl rfl rfl ?_
        refine AOps.pln ?_; refine AOp.load okL rfl (.head _) rfl rfl rfl rfl ?_
        refine AOps.pln ?_; focus (refine AOp.callP (v := ?_) rfl rfl rfl ?_ ?_; rotate_left; exact (isBeside_tr x y))
        refine AOps.sim okL rfl rfl ?_
        refine AOps.sim okL rfl rfl ?_
        rename_i r10 _
        (first | refine AOps.guardCase rfl rfl rfl (fun hb => ?_) (fun hb => ?_) | refine Pl.guardCase rfl rfl (fun hb => ?_) (fun hb => ?_))
        · have hb : besO x.op y.op = false := by simpa [besideM_eq] using hb
          rw [if_neg (by rw [hb]; simp)] at hm
          refine AOps.unw rfl rfl rfl rfl ?_
          refine AOps.unw rfl rfl rfl rfl ?_
          refine AOps.unw rfl rfl rfl rfl ?_
          refine AOps.unw rfl rfl rfl rfl ?_
          refine AOps.unwU rfl rfl rfl ?_
          refine AOps.unwU rfl rfl rfl ?_
          refine AOps.unwU rfl rfl rfl ?_
          refine AOps.unw rfl rfl rfl rfl ?_
          refine AOps.unw rfl rfl rfl rfl ?_
          refine AOps.unw rfl rfl rfl rfl ?_
          refine AOps.sim okL rfl rfl ?_
          refine AOps.nil ?_
          refine AWp.condT rfl ?_
          refine AWp.seq ?_
          refine AWp.region ?_
          refine AOps.sim okL rfl rfl ?_
          refine AOps.nil ?_
          refine AWp.ret ?_
          refine blockQ_r ?_
          refine seqQ_r ?_
          refine seqQ_r ?_
          refine blockQ_r ?_
          refine seqQ_r ?_
          refine bodyQ_r (by first | exact ResOk.one rfl rfl | exact ResOk.two rfl rfl rfl | exact ResOk.three rfl rfl rfl rfl | exact ResOk.none rfl) ?_
          exact RR_of [_, _] hN2 false (by rw [rgtP_eq, if_neg (by rw [hA]; exact Bool.false_ne_true), hS]; simp only [← hm]; rfl)
        have hb : besO x.op y.op = true := by simpa [besideM_eq] using hb
        rw [if_pos hb] at hm
        refine AOps.wtd rfl rfl rfl ?_; refine AOp.load okL rfl (.tail _ (.tail _ (.tail _ (.tail _ (.tail _ (.head _)))))) rfl rfl rfl rfl ?_
        refine AOps.wtd rfl rfl rfl ?_; refine AOp.load okL rfl (.head _) rfl rfl rfl rfl ?_
        refine AOps.simW okL rfl rfl rfl rfl ?_
        refine AOps.simW okL rfl rfl rfl rfl ?_
        (first | refine AOps.guardCase rfl rfl rfl (fun hkk => ?_) (fun hkk => ?_) | refine Pl.guardCase rfl rfl (fun hkk => ?_) (fun hkk => ?_))
        · subst hkk
          rw [Bool.true_or] at hm
          rw [Bool.true_or] at ih
          refine AOps.unw rfl rfl rfl rfl ?_
          refine AOps.unw rfl rfl rfl rfl ?_
          refine AOps.unw rfl rfl rfl rfl ?_
          refine AOps.simW okL rfl rfl rfl rfl ?_
          refine AOps.wtd rfl rfl rfl (AOp.callFn (Hc := HP rs rn rm rg rl s2 e2 g) (F := [(r10, .row 25 7 [y.C]), (r6, .row 25 7 [x.C])]) rfl rfl rfl (List.perm_append_comm (l₁ := [_, _])) (IH y hym _ s2 n2 e2 hN2) ?_)
          rintro _ H' ⟨G, s3, n3, e3, rfl, hN3, (⟨rfl, ho⟩ | ⟨rfl, ho⟩)⟩
          · refine AOps.after ?_
            rw [ho] at hm
            refine AOps.simW okL rfl rfl rfl rfl ?_
            refine AOps.sim okL rfl rfl ?_
            refine AOps.nil ?_
            refine AWp.condF rfl ?_
            refine AWp.skip ?_
            refine AWp.region ?_
            refine AOps.sim okL rfl rfl ?_
            refine AOps.sim okL rfl rfl ?_
            refine AOps.nil ?_
            refine seqQ_n ?_
            (refine AIn.nextN 1 (ih ((k + 1, s3, n3, e3)) (⟨by omega, hN3, hm⟩) (by first | omega | (simp only; omega))) ?_ rfl; repeat (first | exact trivial | refine ⟨rfl, ?_⟩ | refine ⟨congrArg some nx, ?_⟩ | refine ⟨congrArg (fun v => some (A.int .i64 v)) (by skip), ?_⟩))
          refine AOps.after ?_
          rw [ho] at hm
          refine AOps.simW okL rfl rfl rfl rfl ?_
          refine AOps.sim okL rfl rfl ?_
          refine AOps.nil ?_
          refine AWp.condT rfl ?_
          refine AWp.seq ?_
          refine AWp.region ?_
          refine AOps.sim okL rfl rfl ?_
          refine AOps.nil ?_
          refine AWp.ret ?_
          refine blockQ_r ?_
          refine seqQ_r ?_
          refine seqQ_r ?_
          refine blockQ_r ?_
          refine seqQ_r ?_
          refine bodyQ_r (by first | exact ResOk.one rfl rfl | exact ResOk.two rfl rfl rfl | exact ResOk.three rfl rfl rfl rfl | exact ResOk.none rfl) ?_
          have hmn := hm.symm
          exact RR_of [_, _] hN3 false (by rw [rgtP_eq, if_neg (by rw [hA]; exact Bool.false_ne_true), hS]; simp only [Bool.false_or, Bool.true_or, hmn]; rfl)
        subst hkk
        rw [Bool.false_or] at hm
        rw [Bool.false_or] at ih
        refine AOps.simW okL rfl rfl rfl rfl ?_
        refine AOps.wtd rfl rfl rfl ?_; refine AOp.load okL rfl (.tail _ (.head _)) rfl rfl rfl rfl ?_
        refine AOps.simW okL rfl rfl rfl rfl ?_
        refine AOps.simW okL rfl rfl rfl rfl ?_
        refine AOps.wtd rfl rfl rfl (AOp.callFn (Hc := HP rs rn rm rg rl s2 e2 g) (F := [(r10, .row 25 7 [y.C]), (r6, .row 25 7 [x.C])]) rfl rfl rfl (List.perm_append_comm (l₁ := [_, _])) (IH y hym _ s2 n2 e2 hN2) ?_)
        rintro _ H' ⟨G, s3, n3, e3, rfl, hN3, (⟨rfl, ho⟩ | ⟨rfl, ho⟩)⟩
        · refine AOps.after ?_
          have ho : rgtP y g (decide (x.op = 9)) (s2, n2) = _ := ho
          rw [ho] at hm
          refine AOps.simW okL rfl rfl rfl rfl ?_
          refine AOps.sim okL rfl rfl ?_
          refine AOps.nil ?_
          refine AWp.condF rfl ?_
          refine AWp.skip ?_
          refine AWp.region ?_
          refine AOps.sim okL rfl rfl ?_
          refine AOps.sim okL rfl rfl ?_
          refine AOps.nil ?_
          refine seqQ_n ?_
          (refine AIn.nextN 1 (ih ((k + 1, s3, n3, e3)) (⟨by omega, hN3, hm⟩) (by first | omega | (simp only; omega))) ?_ rfl; repeat (first | exact trivial | refine ⟨rfl, ?_⟩ | refine ⟨congrArg some nx, ?_⟩ | refine ⟨congrArg (fun v => some (A.int .i64 v)) (by skip), ?_⟩))
        refine AOps.after ?_
        have ho : rgtP y g (decide (x.op = 9)) (s2, n2) = _ := ho
        rw [ho] at hm
        refine AOps.simW okL rfl rfl rfl rfl ?_
        refine AOps.sim okL rfl rfl ?_
        refine AOps.nil ?_
        refine AWp.condT rfl ?_
        refine AWp.seq ?_
        refine AWp.region ?_
        refine AOps.sim okL rfl rfl ?_
        refine AOps.nil ?_
        refine AWp.ret ?_
        refine blockQ_r ?_
        refine seqQ_r ?_
        refine seqQ_r ?_
        refine blockQ_r ?_
        refine seqQ_r ?_
        refine bodyQ_r (by first | exact ResOk.one rfl rfl | exact ResOk.two rfl rfl rfl | exact ResOk.three rfl rfl rfl rfl | exact ResOk.none rfl) ?_
        have hmn := hm.symm
        exact RR_of [_, _] hN3 false (by rw [rgtP_eq, if_neg (by rw [hA]; exact Bool.false_ne_true), hS]; simp only [Bool.false_or, Bool.true_or, hmn]; rfl)
      have h := of_decide_eq_false h
      simp only [List.length_map] at h
      rw [List.drop_eq_nil_of_le (by omega), rgtL] at hm
      have hP : rgtP x g kk (s, ns) = if lookE x = true then some (s2, n2) else none := by
        rw [rgtP_eq, if_neg (by rw [hA]; exact Bool.false_ne_true), hS]
        simp only [← hm]
      have hnode : nodeM x g = true := by cases hq : nodeM x g <;> simp [hq] at hA ⊢
      cases hxl : x.l with
      | nil =>
        have h9 : ¬ x.op = 9 := fun e => nodeM_parts hnode (by simp [e]) hxl
        refine AWp.exit ?_
        refine AWp.seq ?_
        refine AWp.seq ?_
        refine AWp.region ?_
        refine AOps.sim okL rfl rfl ?_
        refine AOps.pln ?_; refine AOp.load okL rfl (.head _) rfl rfl rfl rfl ?_
        refine AOps.sim okL rfl rfl ?_
        refine AOps.sim okL rfl rfl ?_
        refine AOps.guardCase rfl rfl rfl (fun h => ?_) (fun h => ?_)
        · refine AOps.simW okL rfl rfl rfl rfl ?_
          refine AOps.wtd rfl rfl rfl ?_; refine AOp.load okL rfl (.head _) rfl rfl rfl rfl ?_
          refine AOps.simW okL rfl rfl rfl rfl ?_
          refine AOps.sim okL rfl rfl ?_
          refine AOps.nil ?_
          refine seqQ_n ?_
          refine AWp.condCase rfl (fun h => ?_) (fun h => ?_)
          · refine AWp.seq ?_
            refine AWp.region ?_
            refine AOps.sim okL rfl rfl ?_
            refine AOps.pln ?_; refine AOp.load okL rfl (.head _) rfl rfl rfl rfl ?_
            first | (refine bodyQ_r (by first | exact ResOk.one rfl rfl | exact ResOk.two rfl rfl rfl | exact ResOk.three rfl rfl rfl rfl | exact ResOk.none rfl) ?_; exact RR_of [_] hN2 true (by rw [hP]; simp [lookE, h9])) | (exfalso; clear IH ih; simp_all; done)
          refine AWp.skip ?_
          refine AWp.seq ?_
          refine AWp.region ?_
          refine AOps.sim okL rfl rfl ?_
          refine AOps.nil ?_
          refine AWp.ret ?_
          first | (refine bodyQ_r (by first | exact ResOk.one rfl rfl | exact ResOk.two rfl rfl rfl | exact ResOk.three rfl rfl rfl rfl | exact ResOk.none rfl) ?_; exact RR_of [_] hN2 true (by rw [hP]; simp [lookE, h9])) | (exfalso; clear IH ih; simp_all; done)
        refine AOps.unw rfl rfl rfl rfl ?_
        refine AOps.unw rfl rfl rfl rfl ?_
        refine AOps.unw rfl rfl rfl rfl ?_
        refine AOps.sim okL rfl rfl ?_
        refine AOps.nil ?_
        refine AWp.condF rfl ?_
        refine AWp.skip ?_
        refine AWp.seq ?_
        refine AWp.region ?_
        refine AOps.sim okL rfl rfl ?_
        refine AOps.nil ?_
        refine AWp.ret ?_
        first | (refine bodyQ_r (by first | exact ResOk.one rfl rfl | exact ResOk.two rfl rfl rfl | exact ResOk.three rfl rfl rfl rfl | exact ResOk.none rfl) ?_; exact RR_of [_] hN2 true (by rw [hP]; simp [lookE, h9])) | (exfalso; clear IH ih; simp_all; done)
      | cons y0 l0 =>
        have hg : x.l[0]? = some y0 := by rw [hxl]; rfl
        obtain ⟨q1, q2, hq⟩ := rgtL_mem hm.symm y0 (by rw [hxl]; exact List.mem_cons_self)
        have hc := lengths_tr y0 (rgtP_Sh y0 hq)
        refine AWp.exit ?_
        refine AWp.seq ?_
        refine AWp.seq ?_
        refine AWp.region ?_
        refine AOps.sim okL rfl rfl ?_
        refine AOps.pln ?_; refine AOp.load okL rfl (.head _) rfl rfl rfl rfl ?_
        refine AOps.sim okL rfl rfl ?_
        refine AOps.sim okL rfl rfl ?_
        refine AOps.guardCase rfl rfl rfl (fun h => ?_) (fun h => ?_)
        · refine AOps.simW okL rfl rfl rfl rfl ?_
          refine AOps.wtd rfl rfl rfl ?_; refine AOp.load okL rfl (.head _) rfl rfl rfl rfl ?_
          refine AOps.simW okL rfl rfl rfl rfl ?_
          refine AOps.sim okL rfl rfl ?_
          refine AOps.nil ?_
          refine seqQ_n ?_
          refine AWp.condCase rfl (fun h => ?_) (fun h => ?_)
          · refine AWp.seq ?_
            refine AWp.region ?_
            refine AOps.sim okL rfl rfl ?_
            refine AOps.pln ?_; refine AOp.load okL rfl (.head _) rfl rfl rfl rfl ?_
            refine AOps.sim okL (sOp_idxD rfl rfl rfl rfl rfl (Int.le_refl _) (getC hg) rfl) rfl ?_
            refine AOps.sim okL rfl rfl ?_
            refine AOps.pln ?_; focus (refine AOp.callP (v := ?_) rfl rfl rfl ?_ ?_; rotate_left; exact (hc))
            refine AOps.sim okL rfl rfl ?_
            refine AOps.sim okL rfl rfl ?_
            refine AOps.sim okL rfl rfl ?_
            refine AOps.sim okL rfl rfl ?_
            refine AOps.sim okL rfl rfl ?_
            refine AOps.nil ?_
            refine AWp.seq ?_
            refine AWp.region ?_
            refine AOps.sim okL rfl rfl ?_
            refine AOps.sim okL rfl rfl ?_
            refine AOps.sim okL rfl rfl ?_
            refine AOps.sim okL rfl rfl ?_
            refine AOps.nil ?_
            refine AWp.ret ?_
            refine seqQ_r ?_
            first | (refine bodyQ_r (by first | exact ResOk.one rfl rfl | exact ResOk.two rfl rfl rfl | exact ResOk.three rfl rfl rfl rfl | exact ResOk.none rfl) ?_; exact RR_of [_] hN2 true (by rw [hP]; clear IH ih hc hm hP hN hN1 hN2; simp_all [lookE]; done)) | (refine bodyQ_r (by first | exact ResOk.one rfl rfl | exact ResOk.two rfl rfl rfl | exact ResOk.three rfl rfl rfl rfl | exact ResOk.none rfl) ?_; exact RR_of [_] hN2 _ (by rw [hP]; clear IH ih hc hm hP hN hN1 hN2; simp_all [lookE]; done))
          refine AWp.skip ?_
          refine AWp.seq ?_
          refine AWp.region ?_
          refine AOps.sim okL rfl rfl ?_
          refine AOps.nil ?_
          refine AWp.ret ?_
          first | (refine bodyQ_r (by first | exact ResOk.one rfl rfl | exact ResOk.two rfl rfl rfl | exact ResOk.three rfl rfl rfl rfl | exact ResOk.none rfl) ?_; exact RR_of [_] hN2 true (by rw [hP]; clear IH ih hc hm hP hN hN1 hN2; simp_all [lookE]; done)) | (refine bodyQ_r (by first | exact ResOk.one rfl rfl | exact ResOk.two rfl rfl rfl | exact ResOk.three rfl rfl rfl rfl | exact ResOk.none rfl) ?_; exact RR_of [_] hN2 _ (by rw [hP]; clear IH ih hc hm hP hN hN1 hN2; simp_all [lookE]; done))
        refine AOps.unw rfl rfl rfl rfl ?_
        refine AOps.unw rfl rfl rfl rfl ?_
        refine AOps.unw rfl rfl rfl rfl ?_
        refine AOps.sim okL rfl rfl ?_
        refine AOps.nil ?_
        refine AWp.condF rfl ?_
        refine AWp.skip ?_
        refine AWp.seq ?_
        refine AWp.region ?_
        refine AOps.sim okL rfl rfl ?_
        refine AOps.nil ?_
        refine AWp.ret ?_
        first | (refine bodyQ_r (by first | exact ResOk.one rfl rfl | exact ResOk.two rfl rfl rfl | exact ResOk.three rfl rfl rfl rfl | exact ResOk.none rfl) ?_; exact RR_of [_] hN2 true (by rw [hP]; clear IH ih hc hm hP hN hN1 hN2; simp_all [lookE]; done)) | (refine bodyQ_r (by first | exact ResOk.one rfl rfl | exact ResOk.two rfl rfl rfl | exact ResOk.three rfl rfl rfl rfl | exact ResOk.none rfl) ?_; exact RR_of [_] hN2 _ (by rw [hP]; clear IH ih hc hm hP hN hN1 hN2; simp_all [lookE]; done))
    refine AWp.seq ?_
    refine AWp.region ?_
    refine AOps.sim okL rfl rfl ?_
    refine AOps.pln ?_; refine AOp.load okL rfl (.head _) rfl rfl rfl rfl ?_
    refine AOps.sim okL rfl rfl ?_
    refine AOps.nil ?_
    refine seqQ_n ?_
    first | refine AWp.condCase rfl (fun h7 => ?_) (fun h7 => ?_) | refine AWp.cond rfl (fun h7 => ?_) (fun h7 => ?_)
    · have h7 : x.op = 7 := by simpa using h7
      refine AWp.seq ?_
      refine AWp.region ?_
      refine AOps.pln ?_; refine AOp.load okL rfl (.tail _ (.head _)) rfl rfl rfl rfl ?_
      refine AOps.sim okL rfl rfl ?_
      refine AOps.pln ?_; refine AOp.store okL rfl rfl rfl (isVal_or rfl) rfl rfl rfl (.there .here) rfl rfl rfl ?_
      refine AOps.nil ?_
      refine AWp.seq ?_
      refine AWp.seq ?_
      refine AWp.region ?_
      refine AOps.sim okL rfl rfl ?_
      refine AOps.pln ?_; refine AOp.load okL rfl (.head _) rfl rfl rfl rfl ?_
      refine AOps.pln ?_; refine AOp.load okL rfl (.tail _ (.head _)) rfl rfl rfl rfl ?_
      refine AOps.sim okL rfl rfl ?_
      refine AOps.sim okL rfl rfl ?_
      (first | refine AOps.guardCase rfl rfl rfl (fun h34 => ?_) (fun h34 => ?_) | refine Pl.guardCase rfl rfl (fun h34 => ?_) (fun h34 => ?_))
      · have hG : grpStep x (s, ns) = none := by
          simp only [grpStep, h7, if_true]
          rw [if_neg]
          intro hh
          simp [w64] at h34 hh
          exact h34 hh.1
        refine AOps.unw rfl rfl rfl rfl ?_
        refine AOps.unw rfl rfl rfl rfl ?_
        refine AOps.unw rfl rfl rfl rfl ?_
        refine AOps.unw rfl rfl rfl rfl ?_
        refine AOps.sim okL rfl rfl ?_
        refine AOps.nil ?_
        refine AWp.condT rfl ?_
        refine AWp.seq ?_
        refine AWp.region ?_
        refine AOps.sim okL rfl rfl ?_
        refine AOps.nil ?_
        refine AWp.ret ?_
        refine seqQ_r ?_
        refine hR _ _ _ (by intro h; cases h) ?_
        refine bodyQ_r (by first | exact ResOk.one rfl rfl | exact ResOk.two rfl rfl rfl | exact ResOk.three rfl rfl rfl rfl | exact ResOk.none rfl) ?_
        exact ⟨[_], _, ns, es, rfl, hN, .inr ⟨rfl, by rw [rgtP_eq, if_neg (by rw [hA]; exact Bool.false_ne_true), hG]⟩⟩
      have h34 : x.n = w64 (s + 1) := by simpa [w64] using h34
      obtain ⟨es2, hput, hN2⟩ := NM_put hN x.name
      rcases hN x.name with ⟨hm, i, hf⟩ | ⟨hm, hf⟩
      · refine AOps.wtd rfl rfl rfl ?_; refine AOp.load okL rfl (.tail _ (.tail _ (.head _))) rfl rfl rfl rfl ?_
        refine AOps.simW okL rfl rfl rfl rfl ?_
        refine AOps.wtd rfl rfl rfl ?_; refine AOp.load okL rfl (.head _) rfl rfl rfl rfl ?_
        refine AOps.wtd rfl rfl rfl (AOp.lookup okL rfl (List.mem_cons_of_mem _ (List.mem_cons_of_mem _ (List.mem_cons_of_mem _ (List.mem_cons_of_mem _ (List.mem_cons_of_mem _ List.mem_cons_self))))) rfl rfl rfl rfl rfl rfl hf rfl ?_)
        refine AOps.sim okL rfl rfl ?_
        refine AOps.nil ?_
        refine seqQ_n ?_
        first | refine AWp.condCase rfl (fun h39 => ?_) (fun h39 => ?_) | refine AWp.cond rfl (fun h39 => ?_) (fun h39 => ?_)
        · have hG : grpStep x (s, ns) = none := by
            simp only [grpStep, h7, if_true]
            rw [if_neg]
            intro hh
            exact hh.2 ⟨hm, by simpa using h39⟩
          refine AWp.seq ?_
          refine AWp.region ?_
          refine AOps.sim okL rfl rfl ?_
          refine AOps.nil ?_
          refine AWp.ret ?_
          refine seqQ_r ?_
          refine hR _ _ _ (by intro h; cases h) ?_
          refine bodyQ_r (by first | exact ResOk.one rfl rfl | exact ResOk.two rfl rfl rfl | exact ResOk.three rfl rfl rfl rfl | exact ResOk.none rfl) ?_
          exact ⟨[_], _, ns, es, rfl, hN, .inr ⟨rfl, by rw [rgtP_eq, if_neg (by rw [hA]; exact Bool.false_ne_true), hG]⟩⟩
        have hG : grpStep x (s, ns) = some (w64 (s + 1), ns ++ [x.name]) := by
          simp only [grpStep, h7, if_true]
          rw [if_pos ⟨h34, fun hh => by simp at h39; exact hh.2 h39⟩]
        refine AWp.skip ?_
        refine AWp.region ?_
        refine AOps.pln ?_; refine AOp.load okL rfl (.tail _ (.tail _ (.head _))) rfl rfl rfl rfl ?_
        refine AOps.sim okL rfl rfl ?_
        refine AOps.pln ?_; refine AOp.load okL rfl (.head _) rfl rfl rfl rfl ?_
        refine AOps.sim okL rfl rfl ?_
        refine AOps.pln ?_; refine AOp.load okL rfl (.head _) rfl rfl rfl rfl ?_
        refine AOps.sim okL rfl rfl ?_
        refine AOps.pln (AOp.mapUpdate okL rfl rfl rfl rfl rfl rfl rfl hput (.there (.there (.there (.there (.there .here))))) rfl ?_)
        refine AOps.nil ?_
        exact K (_, ns ++ [x.name], es2) ⟨hN2, hG⟩ 0 _ _ ⟨rfl, rfl, rfl, rfl, rfl, rfl, trivial⟩ rfl
      have hG : grpStep x (s, ns) = some (w64 (s + 1), ns ++ [x.name]) := by
        simp only [grpStep, h7, if_true]
        rw [if_pos ⟨h34, fun hh => hm hh.1⟩]
      refine AOps.wtd rfl rfl rfl ?_; refine AOp.load okL rfl (.tail _ (.tail _ (.head _))) rfl rfl rfl rfl ?_
      refine AOps.simW okL rfl rfl rfl rfl ?_
      refine AOps.wtd rfl rfl rfl ?_; refine AOp.load okL rfl (.head _) rfl rfl rfl rfl ?_
      refine AOps.wtd rfl rfl rfl (AOp.lookup okL rfl (List.mem_cons_of_mem _ (List.mem_cons_of_mem _ (List.mem_cons_of_mem _ (List.mem_cons_of_mem _ (List.mem_cons_of_mem _ List.mem_cons_self))))) rfl rfl rfl rfl rfl rfl hf rfl ?_)
      refine AOps.sim okL rfl rfl ?_
      refine AOps.nil ?_
      refine AWp.condF rfl ?_
      refine AWp.skip ?_
      refine AWp.region ?_
      refine AOps.pln ?_; refine AOp.load okL rfl (.tail _ (.tail _ (.head _))) rfl rfl rfl rfl ?_
      refine AOps.sim okL rfl rfl ?_
      refine AOps.pln ?_; refine AOp.load okL rfl (.head _) rfl rfl rfl rfl ?_
      refine AOps.sim okL rfl rfl ?_
      refine AOps.pln ?_; refine AOp.load okL rfl (.head _) rfl rfl rfl rfl ?_
      refine AOps.sim okL rfl rfl ?_
      refine AOps.pln (AOp.mapUpdate okL rfl rfl rfl rfl rfl rfl rfl hput (.there (.there (.there (.there (.there .here))))) rfl ?_)
      refine AOps.nil ?_
      exact K (_, ns ++ [x.name], es2) ⟨hN2, hG⟩ 0 _ _ ⟨rfl, rfl, rfl, rfl, rfl, rfl, trivial⟩ rfl
    have h7 : ¬ x.op = 7 := by simpa using h7
    refine AWp.skip ?_
    exact K (s, ns, es) ⟨hN, by simp only [grpStep]; rw [if_neg h7]⟩ 0 _ _ ⟨rfl, rfl, rfl, rfl, rfl, rfl, trivial⟩ rfl
  refine AWp.seq ?_
  refine AWp.region ?_
  refine AOps.pln ?_; refine AOp.load okL rfl (.head _) rfl rfl rfl rfl ?_
  refine AOps.pln ?_; refine AOp.load okL rfl (.tail _ (.tail _ (.tail _ (.head _)))) rfl rfl rfl rfl ?_
  refine AOps.pln ?_; focus (refine AOp.callP (v := ?_) rfl rfl rfl ?_ ?_; rotate_left; exact (isNode_tr _ _))
  refine AOps.sim okL rfl rfl ?_
  refine AOps.sim okL rfl rfl ?_
  refine AOps.guardCase rfl rfl rfl (fun h => ?_) (fun h => ?_)
  · refine AOps.unw rfl rfl rfl rfl ?_
    refine AOps.unw rfl rfl rfl rfl ?_
    refine AOps.unw rfl rfl rfl rfl ?_
    refine AOps.unw rfl rfl rfl rfl ?_
    refine AOps.unwU rfl rfl rfl ?_
    refine AOps.unw rfl rfl rfl rfl ?_
    refine AOps.sim okL rfl rfl ?_
    refine AOps.nil ?_
    refine AWp.condT rfl ?_
    refine AWp.seq ?_
    refine AWp.region ?_
    refine AOps.sim okL rfl rfl ?_
    refine AOps.nil ?_
    refine AWp.ret ?_
    first | (refine hR _ _ _ (by intro h; cases h) ?_; refine bodyQ_r (by first | exact ResOk.one rfl rfl | exact ResOk.two rfl rfl rfl | exact ResOk.three rfl rfl rfl rfl | exact ResOk.none rfl) ?_; refine ⟨[_], s, ns, es, rfl, hN, .inr ⟨rfl, ?_⟩⟩; clear K hR IH hN; rw [rgtP_eq, if_pos]; simp_all; done) | (refine K () ?_ 0 _ _ ⟨rfl, rfl, rfl, rfl, rfl, rfl, trivial⟩ rfl; clear K hR IH hN; simp_all; done)
  refine AOps.simW okL rfl rfl rfl rfl ?_
  refine AOps.wtd rfl rfl rfl ?_; refine AOp.load okL rfl (.head _) rfl rfl rfl rfl ?_
  refine AOps.simW okL rfl rfl rfl rfl ?_
  refine AOps.simW okL rfl rfl rfl rfl ?_
  refine AOps.guardCase rfl rfl rfl (fun h => ?_) (fun h => ?_)
  · refine AOps.simW okL rfl rfl rfl rfl ?_
    refine AOps.simW okL rfl rfl rfl rfl ?_
    refine AOps.sim okL rfl rfl ?_
    refine AOps.nil ?_
    refine seqQ_n ?_
    refine AWp.condCase rfl (fun h => ?_) (fun h => ?_)
    · refine AWp.seq ?_
      refine AWp.region ?_
      refine AOps.sim okL rfl rfl ?_
      refine AOps.nil ?_
      refine AWp.ret ?_
      first | (refine hR _ _ _ (by intro h; cases h) ?_; refine bodyQ_r (by first | exact ResOk.one rfl rfl | exact ResOk.two rfl rfl rfl | exact ResOk.three rfl rfl rfl rfl | exact ResOk.none rfl) ?_; refine ⟨[_], s, ns, es, rfl, hN, .inr ⟨rfl, ?_⟩⟩; clear K hR IH hN; rw [rgtP_eq, if_pos]; simp_all; done) | (refine K () ?_ 0 _ _ ⟨rfl, rfl, rfl, rfl, rfl, rfl, trivial⟩ rfl; clear K hR IH hN; simp_all; done)
    refine AWp.skip ?_
    first | (refine hR _ _ _ (by intro h; cases h) ?_; refine bodyQ_r (by first | exact ResOk.one rfl rfl | exact ResOk.two rfl rfl rfl | exact ResOk.three rfl rfl rfl rfl | exact ResOk.none rfl) ?_; refine ⟨[_], s, ns, es, rfl, hN, .inr ⟨rfl, ?_⟩⟩; clear K hR IH hN; rw [rgtP_eq, if_pos]; simp_all; done) | (refine K () ?_ 0 _ _ ⟨rfl, rfl, rfl, rfl, rfl, rfl, trivial⟩ rfl; clear K hR IH hN; simp_all; done)
  refine AOps.unw rfl rfl rfl rfl ?_
  refine AOps.simW okL rfl rfl rfl rfl ?_
  refine AOps.sim okL rfl rfl ?_
  refine AOps.nil ?_
  refine AWp.condF rfl ?_
  refine AWp.skip ?_
  first | (refine hR _ _ _ (by intro h; cases h) ?_; refine bodyQ_r (by first | exact ResOk.one rfl rfl | exact ResOk.two rfl rfl rfl | exact ResOk.three rfl rfl rfl rfl | exact ResOk.none rfl) ?_; refine ⟨[_], s, ns, es, rfl, hN, .inr ⟨rfl, ?_⟩⟩; clear K hR IH hN; rw [rgtP_eq, if_pos]; simp_all; done) | (refine K () ?_ 0 _ _ ⟨rfl, rfl, rfl, rfl, rfl, rfl, trivial⟩ rfl; clear K hR IH hN; simp_all; done)
end Go.Proofs.YtdeenhdmmeahgaaGreatDoor

namespace Go.Proofs.YtdeenhdmmeahgaaGreatDoor
open Go Go.Abs
set_option linter.unusedVariables false
set_option maxRecDepth 100000
set_option linter.unusedSimpArgs false

/-- What a node must be by itself: its operation, its numbers. -/
def nodeA (x : Pat) (g : Int) : Bool :=
  inM x.op 0 18 && (inM x.l.length (partsM x.op).1 (partsM x.op).2 && (numM x g &&
    (if x.op = 6 then inM x.min 0 20 && (decide (x.max = -1) || inM x.max (if 1 > x.min then 1 else x.min) 20) else decide (x.min = 0) && decide (x.max = 0))))
/-- .. its name and set, and where it stands. -/
def nodeB (x : Pat) (look : Bool) : Bool :=
  !((!decide (x.op = 7) && !decide (x.name = [])) || (decide (x.op = 7) && (!decide (x.name = []) && !nameM x.name)) || (decide (x.op = 3) && !setM x.set) || (!decide (x.op = 3) && decide ((x.set.length : Int) > 0)) || (decide (x.op = 18) && look))
def sideM (op op' : Int) : Bool := !((decide (op = 4) && (decide (op' = 4) || decide (op' = 0))) || (decide (op = 5) && decide (op' = 5)))
def nodeE (fx : Pat → Bool) (x : Pat) : Bool := !decide (x.op = 9) || (decide (x.n < 2) || (match x.l with | [] => false | y :: _ => fx y))
mutual
def nodeV (fx : Pat → Bool) : Pat → Int → Bool → Bool
  | .mk op n mn mx nm st l, g, k => nodeA (.mk op n mn mx nm st l) g && (nodeB (.mk op n mn mx nm st l) k && (nodeL fx op l g (k || decide (op = 9)) && nodeE fx (.mk op n mn mx nm st l)))
def nodeL (fx : Pat → Bool) (op : Int) : List Pat → Int → Bool → Bool
  | [], _, _ => true
  | y :: l, g, k => (nodeV fx y g k && sideM op y.op) && nodeL fx op l g k
end
theorem nodeV_eq (fx : Pat → Bool) (x : Pat) (g : Int) (k : Bool) : nodeV fx x g k = (nodeA x g && (nodeB x k && (nodeL fx x.op x.l g (k || decide (x.op = 9)) && nodeE fx x))) := by cases x; rw [nodeV]; rfl
theorem nodeL_mem {fx : Pat → Bool} {op g : Int} {k : Bool} : ∀ {l : List Pat}, nodeL fx op l g k = true → ∀ y ∈ l, nodeV fx y g k = true ∧ sideM op y.op = true
  | [], _, y, hy => by cases hy
  | x :: l, h, y, hy => by
    simp only [nodeL, Bool.and_eq_true] at h
    rcases List.mem_cons.1 hy with rfl | hy
    · exact h.1
    · exact nodeL_mem h.2 y hy
/-- A right node has what it must have where one goes into the first part. -/
theorem nodeV_Sh {fx : Pat → Bool} (x : Pat) : ∀ {g : Int} {k : Bool}, nodeV fx x g k = true → Sh x := by
  induction x using Pat.ind with | h x IH => _
  intro g k h
  rw [nodeV_eq] at h
  simp only [Bool.and_eq_true] at h
  obtain ⟨hA, _, hL, _⟩ := h
  refine .mk x (fun hop hnil => ?_) fun y hy => IH y hy (nodeL_mem hL y hy).1
  simp only [nodeA, Bool.and_eq_true] at hA
  have := hA.2.1
  rw [hnil] at this
  rcases hop with h | h | h | h | h <;> rw [h] at this <;> simp [partsM, inM] at this
end Go.Proofs.YtdeenhdmmeahgaaGreatDoor

namespace Go.Proofs.YtdeenhdmmeahgaaGreatDoor
open Go Go.Abs
set_option linter.unusedVariables false
set_option maxRecDepth 100000
set_option linter.unusedSimpArgs false

mutual
def opnP : Pat → List Pat
  | .mk op n mn mx nm st l => (if op = 7 then [.mk op n mn mx nm st l] else []) ++ opnL l
def opnL : List Pat → List Pat
  | [] => []
  | y :: l => opnP y ++ opnL l
end
theorem opnP_eq (x : Pat) : opnP x = (if x.op = 7 then [x] else []) ++ opnL x.l := by cases x; rw [opnP]; rfl
mutual
def nodesN : Pat → Nat
  | .mk _ _ _ _ _ _ l => 1 + nodesL l
def nodesL : List Pat → Nat
  | [] => 0
  | y :: l => nodesN y + nodesL l
end
theorem nodesN_eq (x : Pat) : nodesN x = 1 + nodesL x.l := by cases x; rw [nodesN]; rfl
theorem opnL_app (a b : List Pat) : opnL (a ++ b) = opnL a ++ opnL b := by
  induction a with
  | nil => rfl
  | cons y l ih => simp only [List.cons_append, opnL, ih, List.append_assoc]
mutual
theorem opn_le : ∀ x : Pat, (opnP x).length ≤ nodesN x
  | .mk op n mn mx nm st l => by
    rw [opnP, nodesN, List.length_append]
    have := opnL_le l
    split <;> simp <;> omega
theorem opnL_le : ∀ l : List Pat, (opnL l).length ≤ nodesL l
  | [] => by simp [opnL]
  | y :: l => by
    rw [opnL, nodesL, List.length_append]
    have := opn_le y
    have := opnL_le l
    omega
end
theorem nodesL_mem {y : Pat} : ∀ {l : List Pat}, y ∈ l → nodesN y ≤ nodesL l
  | [], h => by cases h
  | x :: l, h => by
    rw [nodesL]
    rcases List.mem_cons.1 h with rfl | h
    · omega
    have := nodesL_mem h; omega
theorem nodesL_take (k : Nat) : ∀ l : List Pat, nodesL (l.take k) ≤ nodesL l := by
  induction k with
  | zero => intro l; simp [nodesL]
  | succ k ih =>
    intro l
    cases l with
    | nil => simp [nodesL]
    | cons y l => simp only [List.take_succ_cons, nodesL]; have := ih l; omega
theorem cells_leaf (x : Pat) : allLeaf x.C = true := rfl
theorem cells_mem {l : List Pat} {c : List A} (h : c ∈ l.map Pat.cells) : c.length = 7 ∧ allLeaf c = true := by
  obtain ⟨y, _, rfl⟩ := List.mem_map.1 h
  rw [Pat.cells_eq]; exact ⟨rfl, rfl⟩
theorem openings_tr (x : Pat) : nodesN x ≤ 1000000 → PTr Tryz.prog 41 [.agg x.C] (.ds ((opnP x).map Pat.cells)) := by
  induction x using Pat.ind with | h x IH => _
  intro hb
  refine PTr.of_body (N := 28) Tryz.func41 rfl rfl rfl ?_
  refine AWp.know (t := 0) rfl (Known.agg mem_C (Known.ds _)) fun hlen => ?_
  rw [List.length_map] at hlen
  refine AWp.seq ?_
  refine AWp.region ?_
  refine AOps.pln ?_; refine AOp.box rfl rfl (isVal_or rfl) rfl rfl ?_; intro _ _
  refine AOps.sim okL rfl rfl ?_
  refine AOps.nil ?_
  refine AWp.seq ?_
  refine AWp.region ?_
  refine AOps.sim okL rfl rfl ?_
  refine AOps.nil ?_
  refine AWp.seq ?_
  refine AWp.seq ?_
  refine AWp.region ?_
  refine AOps.sim okL rfl rfl ?_
  refine AOps.pln ?_; refine AOp.load okL rfl (.head _) rfl rfl rfl rfl ?_
  refine AOps.sim okL rfl rfl ?_
  refine AOps.nil ?_
  refine seqQ_n ?_
  rename_i r _
  refine AWp.join (α := Option Nat × List Pat) (fun a => [(1, .ptr r 7 0 0), (3, outV 7 a.1 (a.2.map Pat.cells).length)]) (fun a => [(r, .row 25 7 [x.C])] ++ outH 25 7 a.1 (a.2.map Pat.cells)) (fun a => (a.1 = none → a.2 = []) ∧ a.2 = if x.op = 7 then [x] else []) ?_ fun R K hR => ?_
  · rintro ⟨g0, l0⟩ ⟨hg0, hl0⟩
    simp only at hg0 hl0 ⊢
    refine AWp.seq ?_
    refine AWp.seq ?_
    refine AWp.region ?_
    refine AOps.sim okL rfl rfl ?_
    refine AOps.nil ?_
    refine AWp.block ?_
    refine AWp.loopM (α := Nat × Option Nat × List Pat) (fun a => x.l.length - a.1) (fun a => [(1, .ptr r 7 0 0), (3, outV 7 a.2.1 (a.2.2.map Pat.cells).length), (4, i64 a.1)]) (fun a => [(r, .row 25 7 [x.C])] ++ outH 25 7 a.2.1 (a.2.2.map Pat.cells))
      (fun a => a.1 ≤ x.l.length ∧ (a.2.1 = none → a.2.2 = []) ∧ a.2.2 = (if x.op = 7 then [x] else []) ++ opnL (x.l.take a.1)) (0, g0, l0) ⟨Nat.zero_le _, hg0, by simp [hl0, opnL]⟩ ?_ (List.Perm.refl _) ?_
    · simp only [AllIn]
      refine ⟨rfl, rfl, rfl, trivial⟩
    rintro ⟨k, g, o⟩ ⟨hk, hg, ho⟩ ih
    simp only at hk hg ho
    refine AWp.seq ?_
    refine AWp.seq ?_
    refine AWp.region ?_
    refine AOps.sim okL rfl rfl ?_
    refine AOps.sim okL rfl rfl ?_
    refine AOps.pln ?_; refine AOp.load okL rfl (.head _) rfl rfl rfl rfl ?_
    refine AOps.sim okL rfl rfl ?_
    refine AOps.sim okL rfl rfl ?_
    refine AOps.nil ?_
    refine seqQ_n ?_
    first | refine AWp.condCase rfl (fun h => ?_) (fun h => ?_) | refine AWp.cond rfl (fun h => ?_) (fun h => ?_)
    · have h := of_decide_eq_true h
      simp only [List.length_map] at h
      obtain ⟨y, hy⟩ : ∃ y, x.l[k]? = some y := ⟨x.l[k], by simp [show k < x.l.length by omega]⟩
      have nx := nxt (k := k) (n := x.l.length) (by omega) hlen
      have hym := List.mem_of_getElem? hy
      have hyn := nodesL_mem hym
      rw [nodesN_eq] at hb
      have hc := IH y hym (by omega)
      have htk : x.l.take (k + 1) = x.l.take k ++ [y] := by rw [List.take_add_one, hy]; rfl
      have hol : o.length + (opnP y).length ≤ 2000001 := by
        have h1 := opnL_le (x.l.take k)
        have h2 := nodesL_take k x.l
        have h3 := opn_le y
        rw [ho, List.length_append]
        split <;> simp <;> omega
      refine AWp.skip ?_
      refine AWp.seq ?_
      refine AWp.block ?_
      refine AWp.region ?_
      refine AOps.sim okL rfl rfl ?_
      refine AOps.sim okL rfl rfl ?_
      refine AOps.pln ?_; refine AOp.load okL rfl (.head _) rfl rfl rfl rfl ?_
      refine AOps.sim okL rfl rfl ?_
      refine AOps.sim okL (sOp_idxD rfl rfl rfl rfl rfl (by omega) (getC hy) rfl) rfl ?_
      refine AOps.sim okL rfl rfl ?_
      refine AOps.pln ?_; focus (refine AOp.callP (v := ?_) rfl rfl rfl ?_ ?_; rotate_left; exact (hc))
      refine AOps.pln (AOp.appendG (g := g) (elems := o.map Pat.cells) (news := (opnP y).map Pat.cells) (pre := [(r, .row 25 7 [x.C])]) okL rfl (fun h => by rw [hg h]; rfl) rfl rfl (.ds _) rfl rfl rfl rfl (fun c hc => (cells_mem hc).1) (fun c hc => (cells_mem hc).2) (by simp only [List.length_map, maxLen]; omega) (by simp only [List.length_map]; omega) rfl fun g' hg' => ?_)
      rw [← List.map_append]
      refine AOps.sim okL rfl rfl ?_
      refine AOps.nil ?_
      refine AWp.region ?_
      refine AOps.sim okL rfl rfl ?_
      refine AOps.sim okL rfl rfl ?_
      refine AOps.sim okL rfl rfl ?_
      refine AOps.nil ?_
      refine seqQ_n ?_
      (refine AIn.nextN 0 (ih ((k + 1, g', o ++ opnP y)) (⟨by omega, fun h => by have := hg' h; simpa using this, by rw [htk, opnL_app, ho, List.append_assoc]; simp [opnL]⟩) (by first | omega | (simp only; omega))) ?_ rfl; repeat (first | exact trivial | refine ⟨rfl, ?_⟩ | refine ⟨congrArg some nx, ?_⟩ | refine ⟨congrArg (fun v => some (A.int .i64 v)) (by skip), ?_⟩))
    have h := of_decide_eq_false h
    simp only [List.length_map] at h
    rw [List.take_of_length_le (by omega)] at ho
    refine AWp.freezeG (t := 3) (g := g) (elems := o.map Pat.cells) (pre := [(r, .row 25 7 [x.C])]) rfl (fun h => by rw [hg h]; rfl) rfl ?_
    refine AWp.exit ?_
    refine AWp.seq ?_
    refine AWp.region ?_
    refine AOps.sim okL rfl rfl ?_
    refine AOps.sim okL rfl rfl ?_
    refine AOps.nil ?_
    refine AWp.ret ?_
    refine bodyQ_r (by first | exact ResOk.one rfl rfl | exact ResOk.two rfl rfl rfl | exact ResOk.three rfl rfl rfl rfl | exact ResOk.none rfl) ?_
    rw [opnP_eq, ho]
  skip
  first | refine AWp.condCase rfl (fun h => ?_) (fun h => ?_) | refine AWp.cond rfl (fun h => ?_) (fun h => ?_)
  · refine AWp.region ?_
    refine AOps.sim okL rfl rfl ?_
    refine AOps.pln ?_; refine AOp.load okL rfl (.head _) rfl rfl rfl rfl ?_
    refine AOps.pln ?_; refine AOp.buildSlice okL rfl rfl rfl rfl rfl rfl rfl rfl rfl rfl rfl ?_; intro _ _
    rename_i rb _
    refine AOps.pln (AOp.appendG (g := none) (elems := []) (news := [x.C]) (pre := [(rb, .row 25 7 [x.C]), (r, .row 25 7 [x.C])]) okL rfl (fun _ => rfl) rfl rfl (.os List.mem_cons_self (Nat.le_refl _)) rfl rfl rfl rfl (fun c hc => by rw [List.mem_singleton.1 hc]; rfl) (fun c hc => by rw [List.mem_singleton.1 hc]; rfl) (by simp [maxLen]) (by simp) rfl fun g' hg' => ?_)
    rw [show ([] ++ [x.C] : List (List A)) = [x].map Pat.cells from by simp [Pat.cells_eq]]
    refine AOps.sim okL rfl rfl ?_
    refine AOps.nil ?_
    refine K (g', [x]) ⟨fun h => by have := hg' h; simp at this, by simp at h; simp [h]⟩ 1 _ _ ⟨rfl, rfl, trivial⟩ rfl
  refine AWp.skip ?_
  refine K (none, []) ⟨fun _ => rfl, by simp at h; simp [h]⟩ 0 _ _ ⟨rfl, rfl, trivial⟩ rfl
end Go.Proofs.YtdeenhdmmeahgaaGreatDoor

