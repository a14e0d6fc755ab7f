/- The layouts of this program's types. -/
import Derived.Test.YtiaogfkkfoakpaaProg
import Derived.KernelRfl
import Derived.Test.YtiaogfkkfoakpaaAbsC
set_option linter.unusedVariables false
set_option linter.unusedSimpArgs false
namespace Go.Proofs.Ytiaogfkkfoakpaa
open Go Go.Abs
def L : Lay := [
  (1, ⟨.func, 1, 8, [.nilf]⟩),
  (2, ⟨(.int .i64), 1, 8, [.int .i64 (0)]⟩),
  (3, ⟨(.int .i64), 1, 8, [.int .i64 (0)]⟩),
  (4, ⟨.bool, 1, 1, [.bool false]⟩),
  (5, ⟨(.int .u8), 1, 1, [.int .u8 (0)]⟩),
  (6, ⟨(.int .u8), 1, 1, [.int .u8 (0)]⟩),
  (7, ⟨(.struct [(0, 2), (1, 3), (2, 4), (3, 6)]), 4, 24, [.int .i64 (0), .int .i64 (0), .bool false, .int .u8 (0)]⟩),
  (8, ⟨(.struct [(0, 2), (1, 3), (2, 4), (3, 6)]), 4, 24, [.int .i64 (0), .int .i64 (0), .bool false, .int .u8 (0)]⟩),
  (9, ⟨.string, 1, 16, [.str []]⟩),
  (10, ⟨.string, 1, 16, [.str []]⟩),
  (11, ⟨.string, 1, 16, [.str []]⟩),
  (12, ⟨(.int .u64), 1, 8, [.int .u64 (0)]⟩),
  (13, ⟨(.struct [(0, 9), (1, 12)]), 2, 24, [.str [], .int .u64 (0)]⟩),
  (14, ⟨(.struct [(0, 9), (1, 12)]), 2, 24, [.str [], .int .u64 (0)]⟩),
  (15, ⟨(.pointer 132), 1, 8, [.nilp]⟩),
  (16, ⟨(.pointer 135), 1, 8, [.nilp]⟩),
  (17, ⟨(.pointer 143), 1, 8, [.nilp]⟩),
  (18, ⟨(.struct [(0, 17)]), 1, 8, [.nilp]⟩),
  (19, ⟨(.struct [(0, 17)]), 1, 8, [.nilp]⟩),
  (20, ⟨.iface, 1, 16, [.nili]⟩),
  (21, ⟨(.int .i32), 1, 4, [.int .i32 (0)]⟩),
  (22, ⟨(.slice 44), 1, 24, [.nils]⟩),
  (23, ⟨(.slice 25), 1, 24, [.nils]⟩),
  (24, ⟨(.struct [(0, 3), (1, 3), (2, 3), (3, 3), (4, 9), (5, 22), (6, 23)]), 7, 96, [.int .i64 (0), .int .i64 (0), .int .i64 (0), .int .i64 (0), .str [], .nils, .nils]⟩),
  (25, ⟨(.struct [(0, 3), (1, 3), (2, 3), (3, 3), (4, 9), (5, 22), (6, 23)]), 7, 96, [.int .i64 (0), .int .i64 (0), .int .i64 (0), .int .i64 (0), .str [], .nils, .nils]⟩),
  (26, ⟨.func, 1, 8, [.nilf]⟩),
  (27, ⟨.func, 1, 8, [.nilf]⟩),
  (28, ⟨(.int .i64), 1, 8, [.int .i64 (0)]⟩),
  (30, ⟨.func, 1, 8, [.nilf]⟩),
  (31, ⟨.func, 1, 8, [.nilf]⟩),
  (33, ⟨.func, 1, 8, [.nilf]⟩),
  (35, ⟨.func, 1, 8, [.nilf]⟩),
  (36, ⟨.func, 1, 8, [.nilf]⟩),
  (37, ⟨.func, 1, 8, [.nilf]⟩),
  (38, ⟨.func, 1, 8, [.nilf]⟩),
  (39, ⟨(.struct [(0, 3), (1, 3), (2, 22), (3, 4), (4, 4), (5, 4), (6, 9)]), 7, 64, [.int .i64 (0), .int .i64 (0), .nils, .bool false, .bool false, .bool false, .str []]⟩),
  (40, ⟨(.struct [(0, 3), (1, 3), (2, 22), (3, 4), (4, 4), (5, 4), (6, 9)]), 7, 64, [.int .i64 (0), .int .i64 (0), .nils, .bool false, .bool false, .bool false, .str []]⟩),
  (42, ⟨.func, 1, 8, [.nilf]⟩),
  (43, ⟨(.struct [(0, 3), (1, 3)]), 2, 16, [.int .i64 (0), .int .i64 (0)]⟩),
  (44, ⟨(.struct [(0, 3), (1, 3)]), 2, 16, [.int .i64 (0), .int .i64 (0)]⟩),
  (45, ⟨.func, 1, 8, [.nilf]⟩),
  (46, ⟨.func, 1, 8, [.nilf]⟩),
  (47, ⟨.func, 1, 8, [.nilf]⟩),
  (48, ⟨.func, 1, 8, [.nilf]⟩),
  (49, ⟨.func, 1, 8, [.nilf]⟩),
  (50, ⟨.func, 1, 8, [.nilf]⟩),
  (51, ⟨.func, 1, 8, [.nilf]⟩),
  (52, ⟨.func, 1, 8, [.nilf]⟩),
  (53, ⟨.func, 1, 8, [.nilf]⟩),
  (54, ⟨(.struct [(0, 22), (1, 4), (2, 4)]), 3, 32, [.nils, .bool false, .bool false]⟩),
  (55, ⟨(.struct [(0, 22), (1, 4), (2, 4)]), 3, 32, [.nils, .bool false, .bool false]⟩),
  (56, ⟨.func, 1, 8, [.nilf]⟩),
  (57, ⟨.func, 1, 8, [.nilf]⟩),
  (58, ⟨(.struct [(0, 3), (1, 3), (2, 3)]), 3, 24, [.int .i64 (0), .int .i64 (0), .int .i64 (0)]⟩),
  (59, ⟨(.struct [(0, 3), (1, 3), (2, 3)]), 3, 24, [.int .i64 (0), .int .i64 (0), .int .i64 (0)]⟩),
  (60, ⟨.func, 1, 8, [.nilf]⟩),
  (61, ⟨(.struct [(0, 3), (1, 3), (2, 3)]), 3, 24, [.int .i64 (0), .int .i64 (0), .int .i64 (0)]⟩),
  (62, ⟨(.struct [(0, 3), (1, 3), (2, 3)]), 3, 24, [.int .i64 (0), .int .i64 (0), .int .i64 (0)]⟩),
  (63, ⟨.func, 1, 8, [.nilf]⟩),
  (64, ⟨.func, 1, 8, [.nilf]⟩),
  (65, ⟨.func, 1, 8, [.nilf]⟩),
  (66, ⟨.func, 1, 8, [.nilf]⟩),
  (67, ⟨(.slice 3), 1, 24, [.nils]⟩),
  (68, ⟨.func, 1, 8, [.nilf]⟩),
  (69, ⟨.func, 1, 8, [.nilf]⟩),
  (70, ⟨(.slice 22), 1, 24, [.nils]⟩),
  (71, ⟨.func, 1, 8, [.nilf]⟩),
  (72, ⟨.func, 1, 8, [.nilf]⟩),
  (73, ⟨.func, 1, 8, [.nilf]⟩),
  (75, ⟨.func, 1, 8, [.nilf]⟩),
  (76, ⟨.func, 1, 8, [.nilf]⟩),
  (77, ⟨.func, 1, 8, [.nilf]⟩),
  (78, ⟨.func, 1, 8, [.nilf]⟩),
  (79, ⟨.func, 1, 8, [.nilf]⟩),
  (80, ⟨(.map 9 4), 1, 8, [.nilm]⟩),
  (81, ⟨.func, 1, 8, [.nilf]⟩),
  (82, ⟨.func, 1, 8, [.nilf]⟩),
  (83, ⟨.func, 1, 8, [.nilf]⟩),
  (84, ⟨.func, 1, 8, [.nilf]⟩),
  (85, ⟨.func, 1, 8, [.nilf]⟩),
  (86, ⟨.func, 1, 8, [.nilf]⟩),
  (87, ⟨.func, 1, 8, [.nilf]⟩),
  (88, ⟨(.int .u64), 1, 8, [.int .u64 (0)]⟩),
  (89, ⟨(.slice 5), 1, 24, [.nils]⟩),
  (90, ⟨.func, 1, 8, [.nilf]⟩),
  (91, ⟨.func, 1, 8, [.nilf]⟩),
  (92, ⟨.func, 1, 8, [.nilf]⟩),
  (93, ⟨.func, 1, 8, [.nilf]⟩),
  (94, ⟨.func, 1, 8, [.nilf]⟩),
  (95, ⟨(.int .i64), 1, 8, [.int .i64 (0)]⟩),
  (97, ⟨.func, 1, 8, [.nilf]⟩),
  (98, ⟨.func, 1, 8, [.nilf]⟩),
  (99, ⟨.func, 1, 8, [.nilf]⟩),
  (101, ⟨.func, 1, 8, [.nilf]⟩),
  (102, ⟨.func, 1, 8, [.nilf]⟩),
  (103, ⟨(.int .u32), 1, 4, [.int .u32 (0)]⟩),
  (104, ⟨.func, 1, 8, [.nilf]⟩),
  (105, ⟨(.int .u64), 1, 8, [.int .u64 (0)]⟩),
  (106, ⟨.func, 1, 8, [.nilf]⟩),
  (107, ⟨(.pointer 109), 1, 8, [.nilp]⟩),
  (108, ⟨(.struct [(0, 107), (1, 89)]), 2, 32, [.nilp, .nils]⟩),
  (109, ⟨(.struct [(0, 107), (1, 89)]), 2, 32, [.nilp, .nils]⟩),
  (110, ⟨.iface, 1, 16, [.nili]⟩),
  (111, ⟨.iface, 1, 16, [.nili]⟩),
  (113, ⟨.func, 1, 8, [.nilf]⟩),
  (114, ⟨.func, 1, 8, [.nilf]⟩),
  (115, ⟨.func, 1, 8, [.nilf]⟩),
  (116, ⟨.func, 1, 8, [.nilf]⟩),
  (117, ⟨(.int .u64), 1, 8, [.int .u64 (0)]⟩),
  (118, ⟨.func, 1, 8, [.nilf]⟩),
  (119, ⟨.func, 1, 8, [.nilf]⟩),
  (120, ⟨.func, 1, 8, [.nilf]⟩),
  (121, ⟨(.pointer 3), 1, 8, [.nilp]⟩),
  (122, ⟨.func, 1, 8, [.nilf]⟩),
  (123, ⟨.func, 1, 8, [.nilf]⟩),
  (124, ⟨(.pointer 5), 1, 8, [.nilp]⟩),
  (126, ⟨.func, 1, 8, [.nilf]⟩),
  (127, ⟨(.pointer 117), 1, 8, [.nilp]⟩),
  (128, ⟨.func, 1, 8, [.nilf]⟩),
  (130, ⟨.func, 1, 8, [.nilf]⟩),
  (131, ⟨(.struct [(0, 17), (1, 17), (2, 17), (3, 9)]), 4, 40, [.nilp, .nilp, .nilp, .str []]⟩),
  (132, ⟨(.struct [(0, 17), (1, 17), (2, 17), (3, 9)]), 4, 40, [.nilp, .nilp, .nilp, .str []]⟩),
  (133, ⟨(.array 0 16), 0, 0, []⟩),
  (134, ⟨(.struct [(0, 133)]), 0, 0, []⟩),
  (135, ⟨(.struct [(0, 133)]), 0, 0, []⟩),
  (136, ⟨.func, 1, 8, [.nilf]⟩),
  (137, ⟨(.int .u8), 1, 1, [.int .u8 (0)]⟩),
  (138, ⟨(.int .u8), 1, 1, [.int .u8 (0)]⟩),
  (139, ⟨.func, 1, 8, [.nilf]⟩),
  (140, ⟨(.int .i32), 1, 4, [.int .i32 (0)]⟩),
  (141, ⟨(.int .i32), 1, 4, [.int .i32 (0)]⟩),
  (142, ⟨(.struct [(0, 12), (1, 12), (2, 103), (3, 137), (4, 5), (5, 5), (6, 138), (7, 139), (8, 124), (9, 140), (10, 141)]), 11, 48, [.int .u64 (0), .int .u64 (0), .int .u32 (0), .int .u8 (0), .int .u8 (0), .int .u8 (0), .int .u8 (0), .nilf, .nilp, .int .i32 (0), .int .i32 (0)]⟩),
  (143, ⟨(.struct [(0, 12), (1, 12), (2, 103), (3, 137), (4, 5), (5, 5), (6, 138), (7, 139), (8, 124), (9, 140), (10, 141)]), 11, 48, [.int .u64 (0), .int .u64 (0), .int .u32 (0), .int .u8 (0), .int .u8 (0), .int .u8 (0), .int .u8 (0), .nilf, .nilp, .int .i32 (0), .int .i32 (0)]⟩)]
theorem okL : LayOk Try.prog L := LayOk.of_check (by kernel_rfl)
theorem hmix : Try.prog.follows .mixedOrders = true := by kernel_rfl
end Go.Proofs.Ytiaogfkkfoakpaa

namespace Go.Abs
open Go
abbrev i64 (n : Int) : A := .int .i64 n
inductive Pat where
  | mk (op n min max : Int) (name : List UInt8) (set : List (Int × Int)) (l : List Pat)
  deriving Inhabited
namespace Pat
def op : Pat → Int | .mk a _ _ _ _ _ _ => a
def n : Pat → Int | .mk _ a _ _ _ _ _ => a
def min : Pat → Int | .mk _ _ a _ _ _ _ => a
def max : Pat → Int | .mk _ _ _ a _ _ _ => a
def name : Pat → List UInt8 | .mk _ _ _ _ a _ _ => a
def set : Pat → List (Int × Int) | .mk _ _ _ _ _ a _ => a
def l : Pat → List Pat | .mk _ _ _ _ _ _ a => a
end Pat
def spanC (s : Int × Int) : List A := [i64 s.1, i64 s.2]
mutual
def Pat.cells : Pat → List A
  | .mk op n mn mx nm st l => [i64 op, i64 n, i64 mn, i64 mx, .str nm, .ds (st.map spanC), .ds (Pat.cellsL l)]
def Pat.cellsL : List Pat → List (List A)
  | [] => []
  | x :: l => x.cells :: Pat.cellsL l
end
theorem Pat.cellsL_eq (l : List Pat) : Pat.cellsL l = l.map Pat.cells := by
  induction l with
  | nil => rfl
  | cons x l ih => simp [Pat.cellsL, ih]
/-- A pattern's cells, laid open. -/
def Pat.C (x : Pat) : List A := [i64 x.op, i64 x.n, i64 x.min, i64 x.max, .str x.name, .ds (x.set.map spanC), .ds (x.l.map Pat.cells)]
theorem Pat.cells_eq (x : Pat) : x.cells = x.C := by
  cases x; simp [Pat.cells, Pat.C, Pat.cellsL_eq, Pat.op, Pat.n, Pat.min, Pat.max, Pat.name, Pat.set, Pat.l]
theorem Pat.ind {M : Pat → Prop} (h : ∀ x : Pat, (∀ y ∈ x.l, M y) → M x) (x : Pat) : M x :=
  Pat.rec (motive_1 := M) (motive_2 := fun l => ∀ y ∈ l, M y) (fun op n mn mx nm st l ih => h (.mk op n mn mx nm st l) ih) (fun y hy => by cases hy) (fun a l ha hl y hy => by
    rcases List.mem_cons.1 hy with rfl | hy
    · exact ha
    · exact hl y hy) x
theorem getC {l : List Pat} {k : Nat} {y : Pat} (h : l[k]? = some y) : (l.map Pat.cells)[((k : Nat) : Int).toNat]? = some y.C := by simp [h, Pat.cells_eq]
theorem getS {l : List (Int × Int)} {k : Nat} {y : Int × Int} (h : l[k]? = some y) : (l.map spanC)[((k : Nat) : Int).toNat]? = some (spanC y) := by simp [h]
theorem drop_get {α : Type} {l : List α} {k : Nat} {y : α} (h : l[k]? = some y) : l.drop k = y :: l.drop (k + 1) := by
  obtain ⟨hk, rfl⟩ := List.getElem?_eq_some_iff.1 h
  exact List.drop_eq_getElem_cons hk
end Go.Abs

