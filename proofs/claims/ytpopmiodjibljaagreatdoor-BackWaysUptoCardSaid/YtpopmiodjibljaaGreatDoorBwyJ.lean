/- A part of the proof. -/
import Derived.Great.CaseRows
import GoSem.PinnedTables
import Derived.Test.YtpopmiodjibljaaGreatDoorBwyI
set_option linter.unusedVariables false
set_option linter.unusedSimpArgs false
set_option maxRecDepth 100000

namespace Go.Proofs.YtpopmiodjibljaaGreatDoor
open Go Go.Abs Go.Great
def zsX(h:Array Obj):Array Obj:=
 (((((((h.push (.cells (Go.Lib.caseT.flatMap Go.Lib.cells5).toArray 365 (0,0))).modify 6 (zdp [.slice (some ⟨h.size,0,none⟩) Go.Lib.caseT.length Go.Lib.caseT.length])).modify 2 (zdp (zlc Rows.laid_unicode_utf8_acceptRanges))).modify 1 (zdp (zlc Rows.laid_unicode_utf8_first))).modify 5 (zdp (zlc Rows.laid_math_bits_deBruijn64tab))).modify 4 (zdp (zlc Rows.laid_math_bits_deBruijn32tab))).modify 3 (zdp (zlc Rows.laid_internal_strconv_uint64pow10)))
noncomputable def zcy(os:Os):World:=
 {World.holding Tryz.prog os ⟨#[],#[],[]⟩ with heap:=zsX (World.holding Tryz.prog os ⟨#[],#[],[]⟩).heap}
noncomputable abbrev mem6(os:Os)(args:Array Value):World:=((zcy os).forCall (fun _ _=>0) ⟨#[],args,[]⟩).memory
theorem zsy (os : Os) (args : Array Value) : LaidIn Tryz.prog (mem6 os args) [("unicode/utf8.first", Rows.laid_unicode_utf8_first)] [1] :=
 LaidIn.of_run [1] 8 (by kernel_rfl) (by kernel_rfl) (by kernel_rfl) (by kernel_rfl)
theorem cty:Go.Great.CTypes Tryz.prog 358 365 363 233 21:=⟨by kernel_rfl,by kernel_rfl,by kernel_rfl,by kernel_rfl,by kernel_rfl,by kernel_rfl,by kernel_rfl,by kernel_rfl,by kernel_rfl⟩
theorem zsS (os : Os) (args : Array Value) : LaidIn Tryz.prog (mem6 os args) [("unicode.CaseRanges", .slice (Go.Lib.caseT.map Go.Lib.rowData) [])] [6, (World.holding Tryz.prog os ⟨#[], #[], []⟩).heap.size] :=
 Go.Great.laidIn_case cty (name := "unicode.CaseRanges") (g := 6) (B := (World.holding Tryz.prog os ⟨#[], #[], []⟩).heap.size) (tg := 358) (tb := 365) Go.Lib.caseT (by kernel_rfl) (by kernel_rfl) (bi (by kernel_rfl)) (by kernel_rfl) (by kernel_rfl) (by kernel_rfl) (Nat.ne_of_beq_eq_false (by kernel_rfl))
end Go.Proofs.YtpopmiodjibljaaGreatDoor

