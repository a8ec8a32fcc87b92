/-
  Parts of an abstract machine over the model, of the program's data and of what its functions compute: the texts Facts EncB ModB ModC ModD ModV EncV Read ModE ModF ModG LawA, merged.
-/
import Derived.Test.YtfhmokhaegdddaaGreatDoorBb
import Derived.Test.YtfhmokhaegdddaaGreatDoorProg
import Derived.KernelRfl
set_option linter.unusedSimpArgs false
set_option linter.unusedVariables false
section
/-
  Closed facts on the tables of types of the program, each asked of the kernel.
-/
namespace Go.Proofs
open Go Go.Abs
@[go_sem] theorem Tryz.kd1 : tKind Tryz.prog 1 = 4 := nr (by kernel_rfl)
@[go_sem] theorem Tryz.lay1 : tLay Tryz.prog 1 = (some (false, 1)) := nr (by kernel_rfl)
@[go_sem] theorem Tryz.zs1 : tZ Tryz.prog 1 = (some (.nilFunc :: [])) := nr (by kernel_rfl)
@[go_sem] theorem Tryz.kd2 : tKind Tryz.prog 2 = 9 := nr (by kernel_rfl)
@[go_sem] theorem Tryz.lay2 : tLay Tryz.prog 2 = (some (false, 1)) := nr (by kernel_rfl)
@[go_sem] theorem Tryz.zs2 : tZ Tryz.prog 2 = (some ((.int .i64 0) :: [])) := nr (by kernel_rfl)
@[go_sem] theorem Tryz.int2 : tInt Tryz.prog 2 = (some .i64) := nr (by kernel_rfl)
@[go_sem] theorem Tryz.kd3 : tKind Tryz.prog 3 = 9 := nr (by kernel_rfl)
@[go_sem] theorem Tryz.lay3 : tLay Tryz.prog 3 = (some (false, 1)) := nr (by kernel_rfl)
@[go_sem] theorem Tryz.zs3 : tZ Tryz.prog 3 = (some ((.int .i64 0) :: [])) := nr (by kernel_rfl)
@[go_sem] theorem Tryz.int3 : tInt Tryz.prog 3 = (some .i64) := nr (by kernel_rfl)
@[go_sem] theorem Tryz.kd4 : tKind Tryz.prog 4 = 5 := nr (by kernel_rfl)
@[go_sem] theorem Tryz.lay4 : tLay Tryz.prog 4 = (some (false, 1)) := nr (by kernel_rfl)
@[go_sem] theorem Tryz.zs4 : tZ Tryz.prog 4 = (some ((.bool false) :: [])) := nr (by kernel_rfl)
@[go_sem] theorem Tryz.kd5 : tKind Tryz.prog 5 = 9 := nr (by kernel_rfl)
@[go_sem] theorem Tryz.lay5 : tLay Tryz.prog 5 = (some (false, 1)) := nr (by kernel_rfl)
@[go_sem] theorem Tryz.zs5 : tZ Tryz.prog 5 = (some ((.int .u8 0) :: [])) := nr (by kernel_rfl)
@[go_sem] theorem Tryz.int5 : tInt Tryz.prog 5 = (some .u8) := nr (by kernel_rfl)
@[go_sem] theorem Tryz.kd6 : tKind Tryz.prog 6 = 9 := nr (by kernel_rfl)
@[go_sem] theorem Tryz.lay6 : tLay Tryz.prog 6 = (some (false, 1)) := nr (by kernel_rfl)
@[go_sem] theorem Tryz.zs6 : tZ Tryz.prog 6 = (some ((.int .u8 0) :: [])) := nr (by kernel_rfl)
@[go_sem] theorem Tryz.int6 : tInt Tryz.prog 6 = (some .u8) := nr (by kernel_rfl)
@[go_sem] theorem Tryz.kd7 : tKind Tryz.prog 7 = 7 := nr (by kernel_rfl)
@[go_sem] theorem Tryz.lay7 : tLay Tryz.prog 7 = (some (true, 4)) := nr (by kernel_rfl)
@[go_sem] theorem Tryz.zs7 : tZ Tryz.prog 7 = (some ((.int .i64 0) :: ((.int .i64 0) :: ((.bool false) :: ((.int .u8 0) :: []))))) := nr (by kernel_rfl)
@[go_sem] theorem Tryz.pl7_0 : tPlace Tryz.prog 7 0 = (some (0, 1)) := nr (by kernel_rfl)
@[go_sem] theorem Tryz.pl7_1 : tPlace Tryz.prog 7 1 = (some (1, 1)) := nr (by kernel_rfl)
@[go_sem] theorem Tryz.pl7_2 : tPlace Tryz.prog 7 2 = (some (2, 1)) := nr (by kernel_rfl)
@[go_sem] theorem Tryz.pl7_3 : tPlace Tryz.prog 7 3 = (some (3, 1)) := nr (by kernel_rfl)
@[go_sem] theorem Tryz.fld7_0 : tFld Tryz.prog 7 0 = (some 0) := nr (by kernel_rfl)
@[go_sem] theorem Tryz.fld7_1 : tFld Tryz.prog 7 1 = (some 1) := nr (by kernel_rfl)
@[go_sem] theorem Tryz.fld7_2 : tFld Tryz.prog 7 2 = (some 2) := nr (by kernel_rfl)
@[go_sem] theorem Tryz.fld7_3 : tFld Tryz.prog 7 3 = (some 3) := nr (by kernel_rfl)
@[go_sem] theorem Tryz.eqs7 : eqShape Tryz.prog 10000 7 = (some ((.i .i64) :: ((.i .i64) :: (.b :: ((.i .u8) :: []))))) := nr (by kernel_rfl)
@[go_sem] theorem Tryz.eqg7 : Tryz.prog.eqGuardType Tryz.prog.depth 7 = false := nr (by kernel_rfl)
@[go_sem] theorem Tryz.kd8 : tKind Tryz.prog 8 = 7 := nr (by kernel_rfl)
@[go_sem] theorem Tryz.lay8 : tLay Tryz.prog 8 = (some (true, 4)) := nr (by kernel_rfl)
@[go_sem] theorem Tryz.zs8 : tZ Tryz.prog 8 = (some ((.int .i64 0) :: ((.int .i64 0) :: ((.bool false) :: ((.int .u8 0) :: []))))) := nr (by kernel_rfl)
@[go_sem] theorem Tryz.pl8_0 : tPlace Tryz.prog 8 0 = (some (0, 1)) := nr (by kernel_rfl)
@[go_sem] theorem Tryz.pl8_1 : tPlace Tryz.prog 8 1 = (some (1, 1)) := nr (by kernel_rfl)
@[go_sem] theorem Tryz.pl8_2 : tPlace Tryz.prog 8 2 = (some (2, 1)) := nr (by kernel_rfl)
@[go_sem] theorem Tryz.pl8_3 : tPlace Tryz.prog 8 3 = (some (3, 1)) := nr (by kernel_rfl)
@[go_sem] theorem Tryz.fld8_0 : tFld Tryz.prog 8 0 = (some 0) := nr (by kernel_rfl)
@[go_sem] theorem Tryz.fld8_1 : tFld Tryz.prog 8 1 = (some 1) := nr (by kernel_rfl)
@[go_sem] theorem Tryz.fld8_2 : tFld Tryz.prog 8 2 = (some 2) := nr (by kernel_rfl)
@[go_sem] theorem Tryz.fld8_3 : tFld Tryz.prog 8 3 = (some 3) := nr (by kernel_rfl)
@[go_sem] theorem Tryz.eqs8 : eqShape Tryz.prog 10000 8 = (some ((.i .i64) :: ((.i .i64) :: (.b :: ((.i .u8) :: []))))) := nr (by kernel_rfl)
@[go_sem] theorem Tryz.eqg8 : Tryz.prog.eqGuardType Tryz.prog.depth 8 = false := nr (by kernel_rfl)
@[go_sem] theorem Tryz.kd9 : tKind Tryz.prog 9 = 2 := nr (by kernel_rfl)
@[go_sem] theorem Tryz.lay9 : tLay Tryz.prog 9 = (some (false, 1)) := nr (by kernel_rfl)
@[go_sem] theorem Tryz.zs9 : tZ Tryz.prog 9 = (some ((.string ByteArray.empty) :: [])) := nr (by kernel_rfl)
@[go_sem] theorem Tryz.kd10 : tKind Tryz.prog 10 = 2 := nr (by kernel_rfl)
@[go_sem] theorem Tryz.lay10 : tLay Tryz.prog 10 = (some (false, 1)) := nr (by kernel_rfl)
@[go_sem] theorem Tryz.zs10 : tZ Tryz.prog 10 = (some ((.string ByteArray.empty) :: [])) := nr (by kernel_rfl)
@[go_sem] theorem Tryz.kd11 : tKind Tryz.prog 11 = 2 := nr (by kernel_rfl)
@[go_sem] theorem Tryz.lay11 : tLay Tryz.prog 11 = (some (false, 1)) := nr (by kernel_rfl)
@[go_sem] theorem Tryz.zs11 : tZ Tryz.prog 11 = (some ((.string ByteArray.empty) :: [])) := nr (by kernel_rfl)
@[go_sem] theorem Tryz.kd12 : tKind Tryz.prog 12 = 9 := nr (by kernel_rfl)
@[go_sem] theorem Tryz.lay12 : tLay Tryz.prog 12 = (some (false, 1)) := nr (by kernel_rfl)
@[go_sem] theorem Tryz.zs12 : tZ Tryz.prog 12 = (some ((.int .u64 0) :: [])) := nr (by kernel_rfl)
@[go_sem] theorem Tryz.int12 : tInt Tryz.prog 12 = (some .u64) := nr (by kernel_rfl)
@[go_sem] theorem Tryz.kd13 : tKind Tryz.prog 13 = 7 := nr (by kernel_rfl)
@[go_sem] theorem Tryz.lay13 : tLay Tryz.prog 13 = (some (true, 2)) := nr (by kernel_rfl)
@[go_sem] theorem Tryz.zs13 : tZ Tryz.prog 13 = (some ((.string ByteArray.empty) :: ((.int .u64 0) :: []))) := nr (by kernel_rfl)
@[go_sem] theorem Tryz.pl13_0 : tPlace Tryz.prog 13 0 = (some (0, 1)) := nr (by kernel_rfl)
@[go_sem] theorem Tryz.pl13_1 : tPlace Tryz.prog 13 1 = (some (1, 1)) := nr (by kernel_rfl)
@[go_sem] theorem Tryz.fld13_0 : tFld Tryz.prog 13 0 = (some 0) := nr (by kernel_rfl)
@[go_sem] theorem Tryz.fld13_1 : tFld Tryz.prog 13 1 = (some 1) := nr (by kernel_rfl)
@[go_sem] theorem Tryz.kd14 : tKind Tryz.prog 14 = 7 := nr (by kernel_rfl)
@[go_sem] theorem Tryz.lay14 : tLay Tryz.prog 14 = (some (true, 2)) := nr (by kernel_rfl)
@[go_sem] theorem Tryz.zs14 : tZ Tryz.prog 14 = (some ((.string ByteArray.empty) :: ((.int .u64 0) :: []))) := nr (by kernel_rfl)
@[go_sem] theorem Tryz.pl14_0 : tPlace Tryz.prog 14 0 = (some (0, 1)) := nr (by kernel_rfl)
@[go_sem] theorem Tryz.pl14_1 : tPlace Tryz.prog 14 1 = (some (1, 1)) := nr (by kernel_rfl)
@[go_sem] theorem Tryz.fld14_0 : tFld Tryz.prog 14 0 = (some 0) := nr (by kernel_rfl)
@[go_sem] theorem Tryz.fld14_1 : tFld Tryz.prog 14 1 = (some 1) := nr (by kernel_rfl)
@[go_sem] theorem Tryz.kd15 : tKind Tryz.prog 15 = 6 := nr (by kernel_rfl)
@[go_sem] theorem Tryz.lay15 : tLay Tryz.prog 15 = (some (false, 1)) := nr (by kernel_rfl)
@[go_sem] theorem Tryz.zs15 : tZ Tryz.prog 15 = (some ((.pointer none) :: [])) := nr (by kernel_rfl)
@[go_sem] theorem Tryz.kd16 : tKind Tryz.prog 16 = 6 := nr (by kernel_rfl)
@[go_sem] theorem Tryz.lay16 : tLay Tryz.prog 16 = (some (false, 1)) := nr (by kernel_rfl)
@[go_sem] theorem Tryz.zs16 : tZ Tryz.prog 16 = (some ((.pointer none) :: [])) := nr (by kernel_rfl)
@[go_sem] theorem Tryz.kd17 : tKind Tryz.prog 17 = 6 := nr (by kernel_rfl)
@[go_sem] theorem Tryz.lay17 : tLay Tryz.prog 17 = (some (false, 1)) := nr (by kernel_rfl)
@[go_sem] theorem Tryz.zs17 : tZ Tryz.prog 17 = (some ((.pointer none) :: [])) := nr (by kernel_rfl)
@[go_sem] theorem Tryz.kd18 : tKind Tryz.prog 18 = 7 := nr (by kernel_rfl)
@[go_sem] theorem Tryz.lay18 : tLay Tryz.prog 18 = (some (true, 1)) := nr (by kernel_rfl)
@[go_sem] theorem Tryz.zs18 : tZ Tryz.prog 18 = (some ((.pointer none) :: [])) := nr (by kernel_rfl)
@[go_sem] theorem Tryz.pl18_0 : tPlace Tryz.prog 18 0 = (some (0, 1)) := nr (by kernel_rfl)
@[go_sem] theorem Tryz.fld18_0 : tFld Tryz.prog 18 0 = (some 0) := nr (by kernel_rfl)
@[go_sem] theorem Tryz.kd19 : tKind Tryz.prog 19 = 7 := nr (by kernel_rfl)
@[go_sem] theorem Tryz.lay19 : tLay Tryz.prog 19 = (some (true, 1)) := nr (by kernel_rfl)
@[go_sem] theorem Tryz.zs19 : tZ Tryz.prog 19 = (some ((.pointer none) :: [])) := nr (by kernel_rfl)
@[go_sem] theorem Tryz.pl19_0 : tPlace Tryz.prog 19 0 = (some (0, 1)) := nr (by kernel_rfl)
@[go_sem] theorem Tryz.fld19_0 : tFld Tryz.prog 19 0 = (some 0) := nr (by kernel_rfl)
@[go_sem] theorem Tryz.kd20 : tKind Tryz.prog 20 = 10 := nr (by kernel_rfl)
@[go_sem] theorem Tryz.lay20 : tLay Tryz.prog 20 = (some (false, 1)) := nr (by kernel_rfl)
@[go_sem] theorem Tryz.zs20 : tZ Tryz.prog 20 = (some (.nilIface :: [])) := nr (by kernel_rfl)
@[go_sem] theorem Tryz.kd21 : tKind Tryz.prog 21 = 9 := nr (by kernel_rfl)
@[go_sem] theorem Tryz.lay21 : tLay Tryz.prog 21 = (some (false, 1)) := nr (by kernel_rfl)
@[go_sem] theorem Tryz.zs21 : tZ Tryz.prog 21 = (some ((.int .i32 0) :: [])) := nr (by kernel_rfl)
@[go_sem] theorem Tryz.int21 : tInt Tryz.prog 21 = (some .i32) := nr (by kernel_rfl)
@[go_sem] theorem Tryz.kd22 : tKind Tryz.prog 22 = 1 := nr (by kernel_rfl)
@[go_sem] theorem Tryz.lay22 : tLay Tryz.prog 22 = (some (false, 1)) := nr (by kernel_rfl)
@[go_sem] theorem Tryz.zs22 : tZ Tryz.prog 22 = (some ((.slice none 0 0) :: [])) := nr (by kernel_rfl)
@[go_sem] theorem Tryz.elm22 : tElem Tryz.prog 22 = (some 1) := nr (by kernel_rfl)
@[go_sem] theorem Tryz.el22 : tEl Tryz.prog 22 = (some ⟨3, 1, 8, ((.int .i64 0) :: [])⟩) := nr (by kernel_rfl)
@[go_sem] theorem Tryz.kd23 : tKind Tryz.prog 23 = 1 := nr (by kernel_rfl)
@[go_sem] theorem Tryz.lay23 : tLay Tryz.prog 23 = (some (false, 1)) := nr (by kernel_rfl)
@[go_sem] theorem Tryz.zs23 : tZ Tryz.prog 23 = (some ((.slice none 0 0) :: [])) := nr (by kernel_rfl)
@[go_sem] theorem Tryz.elm23 : tElem Tryz.prog 23 = (some 5) := nr (by kernel_rfl)
@[go_sem] theorem Tryz.el23 : tEl Tryz.prog 23 = (some ⟨102, 5, 48, ((.string ByteArray.empty) :: ((.int .i64 0) :: ((.int .i64 0) :: ((.int .i64 0) :: ((.int .i64 0) :: [])))))⟩) := nr (by kernel_rfl)
@[go_sem] theorem Tryz.kd24 : tKind Tryz.prog 24 = 1 := nr (by kernel_rfl)
@[go_sem] theorem Tryz.lay24 : tLay Tryz.prog 24 = (some (false, 1)) := nr (by kernel_rfl)
@[go_sem] theorem Tryz.zs24 : tZ Tryz.prog 24 = (some ((.slice none 0 0) :: [])) := nr (by kernel_rfl)
@[go_sem] theorem Tryz.elm24 : tElem Tryz.prog 24 = (some 7) := nr (by kernel_rfl)
@[go_sem] theorem Tryz.el24 : tEl Tryz.prog 24 = (some ⟨80, 7, 56, ((.int .i64 0) :: ((.int .i64 0) :: ((.int .i64 0) :: ((.int .i64 0) :: ((.int .i64 0) :: ((.int .i64 0) :: ((.int .i64 0) :: [])))))))⟩) := nr (by kernel_rfl)
@[go_sem] theorem Tryz.kd25 : tKind Tryz.prog 25 = 1 := nr (by kernel_rfl)
@[go_sem] theorem Tryz.lay25 : tLay Tryz.prog 25 = (some (false, 1)) := nr (by kernel_rfl)
@[go_sem] theorem Tryz.zs25 : tZ Tryz.prog 25 = (some ((.slice none 0 0) :: [])) := nr (by kernel_rfl)
@[go_sem] theorem Tryz.elm25 : tElem Tryz.prog 25 = (some 16) := nr (by kernel_rfl)
@[go_sem] theorem Tryz.el25 : tEl Tryz.prog 25 = (some ⟨32, 16, 136, ((.int .i64 0) :: ((.int .i64 0) :: ((.int .i64 0) :: ((.int .i64 0) :: ((.slice none 0 0) :: ((.int .i64 0) :: ((.int .i64 0) :: ((.bool false) :: ((.bool false) :: ((.int .i64 0) :: ((.int .i64 0) :: ((.int .i64 0) :: ((.int .i64 0) :: ((.int .i64 0) :: ((.int .i64 0) :: ((.bool false) :: []))))))))))))))))⟩) := nr (by kernel_rfl)
@[go_sem] theorem Tryz.kd26 : tKind Tryz.prog 26 = 7 := nr (by kernel_rfl)
@[go_sem] theorem Tryz.lay26 : tLay Tryz.prog 26 = (some (true, 7)) := nr (by kernel_rfl)
@[go_sem] theorem Tryz.zs26 : tZ Tryz.prog 26 = (some ((.int .i64 0) :: ((.slice none 0 0) :: ((.slice none 0 0) :: ((.slice none 0 0) :: ((.slice none 0 0) :: ((.int .i64 0) :: ((.slice none 0 0) :: [])))))))) := nr (by kernel_rfl)
@[go_sem] theorem Tryz.pl26_0 : tPlace Tryz.prog 26 0 = (some (0, 1)) := nr (by kernel_rfl)
@[go_sem] theorem Tryz.pl26_1 : tPlace Tryz.prog 26 1 = (some (1, 1)) := nr (by kernel_rfl)
@[go_sem] theorem Tryz.pl26_2 : tPlace Tryz.prog 26 2 = (some (2, 1)) := nr (by kernel_rfl)
@[go_sem] theorem Tryz.pl26_3 : tPlace Tryz.prog 26 3 = (some (3, 1)) := nr (by kernel_rfl)
@[go_sem] theorem Tryz.pl26_4 : tPlace Tryz.prog 26 4 = (some (4, 1)) := nr (by kernel_rfl)
@[go_sem] theorem Tryz.pl26_5 : tPlace Tryz.prog 26 5 = (some (5, 1)) := nr (by kernel_rfl)
@[go_sem] theorem Tryz.pl26_6 : tPlace Tryz.prog 26 6 = (some (6, 1)) := nr (by kernel_rfl)
@[go_sem] theorem Tryz.fld26_0 : tFld Tryz.prog 26 0 = (some 0) := nr (by kernel_rfl)
@[go_sem] theorem Tryz.fld26_1 : tFld Tryz.prog 26 1 = (some 1) := nr (by kernel_rfl)
@[go_sem] theorem Tryz.fld26_2 : tFld Tryz.prog 26 2 = (some 2) := nr (by kernel_rfl)
@[go_sem] theorem Tryz.fld26_3 : tFld Tryz.prog 26 3 = (some 3) := nr (by kernel_rfl)
@[go_sem] theorem Tryz.fld26_4 : tFld Tryz.prog 26 4 = (some 4) := nr (by kernel_rfl)
@[go_sem] theorem Tryz.fld26_5 : tFld Tryz.prog 26 5 = (some 5) := nr (by kernel_rfl)
@[go_sem] theorem Tryz.fld26_6 : tFld Tryz.prog 26 6 = (some 6) := nr (by kernel_rfl)
@[go_sem] theorem Tryz.kd27 : tKind Tryz.prog 27 = 7 := nr (by kernel_rfl)
@[go_sem] theorem Tryz.lay27 : tLay Tryz.prog 27 = (some (true, 7)) := nr (by kernel_rfl)
@[go_sem] theorem Tryz.zs27 : tZ Tryz.prog 27 = (some ((.int .i64 0) :: ((.slice none 0 0) :: ((.slice none 0 0) :: ((.slice none 0 0) :: ((.slice none 0 0) :: ((.int .i64 0) :: ((.slice none 0 0) :: [])))))))) := nr (by kernel_rfl)
@[go_sem] theorem Tryz.pl27_0 : tPlace Tryz.prog 27 0 = (some (0, 1)) := nr (by kernel_rfl)
@[go_sem] theorem Tryz.pl27_1 : tPlace Tryz.prog 27 1 = (some (1, 1)) := nr (by kernel_rfl)
@[go_sem] theorem Tryz.pl27_2 : tPlace Tryz.prog 27 2 = (some (2, 1)) := nr (by kernel_rfl)
@[go_sem] theorem Tryz.pl27_3 : tPlace Tryz.prog 27 3 = (some (3, 1)) := nr (by kernel_rfl)
@[go_sem] theorem Tryz.pl27_4 : tPlace Tryz.prog 27 4 = (some (4, 1)) := nr (by kernel_rfl)
@[go_sem] theorem Tryz.pl27_5 : tPlace Tryz.prog 27 5 = (some (5, 1)) := nr (by kernel_rfl)
@[go_sem] theorem Tryz.pl27_6 : tPlace Tryz.prog 27 6 = (some (6, 1)) := nr (by kernel_rfl)
@[go_sem] theorem Tryz.fld27_0 : tFld Tryz.prog 27 0 = (some 0) := nr (by kernel_rfl)
@[go_sem] theorem Tryz.fld27_1 : tFld Tryz.prog 27 1 = (some 1) := nr (by kernel_rfl)
@[go_sem] theorem Tryz.fld27_2 : tFld Tryz.prog 27 2 = (some 2) := nr (by kernel_rfl)
@[go_sem] theorem Tryz.fld27_3 : tFld Tryz.prog 27 3 = (some 3) := nr (by kernel_rfl)
@[go_sem] theorem Tryz.fld27_4 : tFld Tryz.prog 27 4 = (some 4) := nr (by kernel_rfl)
@[go_sem] theorem Tryz.fld27_5 : tFld Tryz.prog 27 5 = (some 5) := nr (by kernel_rfl)
@[go_sem] theorem Tryz.fld27_6 : tFld Tryz.prog 27 6 = (some 6) := nr (by kernel_rfl)
@[go_sem] theorem Tryz.kd28 : tKind Tryz.prog 28 = 1 := nr (by kernel_rfl)
@[go_sem] theorem Tryz.lay28 : tLay Tryz.prog 28 = (some (false, 1)) := nr (by kernel_rfl)
@[go_sem] theorem Tryz.zs28 : tZ Tryz.prog 28 = (some ((.slice none 0 0) :: [])) := nr (by kernel_rfl)
@[go_sem] theorem Tryz.elm28 : tElem Tryz.prog 28 = (some 2) := nr (by kernel_rfl)
@[go_sem] theorem Tryz.el28 : tEl Tryz.prog 28 = (some ⟨108, 2, 16, ((.int .i64 0) :: ((.int .i64 0) :: []))⟩) := nr (by kernel_rfl)
@[go_sem] theorem Tryz.kd29 : tKind Tryz.prog 29 = 7 := nr (by kernel_rfl)
@[go_sem] theorem Tryz.lay29 : tLay Tryz.prog 29 = (some (true, 2)) := nr (by kernel_rfl)
@[go_sem] theorem Tryz.zs29 : tZ Tryz.prog 29 = (some ((.int .i64 0) :: ((.int .i64 0) :: []))) := nr (by kernel_rfl)
@[go_sem] theorem Tryz.pl29_0 : tPlace Tryz.prog 29 0 = (some (0, 1)) := nr (by kernel_rfl)
@[go_sem] theorem Tryz.pl29_1 : tPlace Tryz.prog 29 1 = (some (1, 1)) := nr (by kernel_rfl)
@[go_sem] theorem Tryz.fld29_0 : tFld Tryz.prog 29 0 = (some 0) := nr (by kernel_rfl)
@[go_sem] theorem Tryz.fld29_1 : tFld Tryz.prog 29 1 = (some 1) := nr (by kernel_rfl)
@[go_sem] theorem Tryz.eqs29 : eqShape Tryz.prog 10000 29 = (some ((.i .i64) :: ((.i .i64) :: []))) := nr (by kernel_rfl)
@[go_sem] theorem Tryz.eqg29 : Tryz.prog.eqGuardType Tryz.prog.depth 29 = false := nr (by kernel_rfl)
@[go_sem] theorem Tryz.kd30 : tKind Tryz.prog 30 = 7 := nr (by kernel_rfl)
@[go_sem] theorem Tryz.lay30 : tLay Tryz.prog 30 = (some (true, 2)) := nr (by kernel_rfl)
@[go_sem] theorem Tryz.zs30 : tZ Tryz.prog 30 = (some ((.int .i64 0) :: ((.int .i64 0) :: []))) := nr (by kernel_rfl)
@[go_sem] theorem Tryz.pl30_0 : tPlace Tryz.prog 30 0 = (some (0, 1)) := nr (by kernel_rfl)
@[go_sem] theorem Tryz.pl30_1 : tPlace Tryz.prog 30 1 = (some (1, 1)) := nr (by kernel_rfl)
@[go_sem] theorem Tryz.fld30_0 : tFld Tryz.prog 30 0 = (some 0) := nr (by kernel_rfl)
@[go_sem] theorem Tryz.fld30_1 : tFld Tryz.prog 30 1 = (some 1) := nr (by kernel_rfl)
@[go_sem] theorem Tryz.eqs30 : eqShape Tryz.prog 10000 30 = (some ((.i .i64) :: ((.i .i64) :: []))) := nr (by kernel_rfl)
@[go_sem] theorem Tryz.eqg30 : Tryz.prog.eqGuardType Tryz.prog.depth 30 = false := nr (by kernel_rfl)
@[go_sem] theorem Tryz.kd31 : tKind Tryz.prog 31 = 7 := nr (by kernel_rfl)
@[go_sem] theorem Tryz.lay31 : tLay Tryz.prog 31 = (some (true, 16)) := nr (by kernel_rfl)
@[go_sem] theorem Tryz.zs31 : tZ Tryz.prog 31 = (some ((.int .i64 0) :: ((.int .i64 0) :: ((.int .i64 0) :: ((.int .i64 0) :: ((.slice none 0 0) :: ((.int .i64 0) :: ((.int .i64 0) :: ((.bool false) :: ((.bool false) :: ((.int .i64 0) :: ((.int .i64 0) :: ((.int .i64 0) :: ((.int .i64 0) :: ((.int .i64 0) :: ((.int .i64 0) :: ((.bool false) :: []))))))))))))))))) := nr (by kernel_rfl)
@[go_sem] theorem Tryz.pl31_0 : tPlace Tryz.prog 31 0 = (some (0, 1)) := nr (by kernel_rfl)
@[go_sem] theorem Tryz.pl31_1 : tPlace Tryz.prog 31 1 = (some (1, 1)) := nr (by kernel_rfl)
@[go_sem] theorem Tryz.pl31_2 : tPlace Tryz.prog 31 2 = (some (2, 1)) := nr (by kernel_rfl)
@[go_sem] theorem Tryz.pl31_3 : tPlace Tryz.prog 31 3 = (some (3, 1)) := nr (by kernel_rfl)
@[go_sem] theorem Tryz.pl31_4 : tPlace Tryz.prog 31 4 = (some (4, 1)) := nr (by kernel_rfl)
@[go_sem] theorem Tryz.pl31_5 : tPlace Tryz.prog 31 5 = (some (5, 1)) := nr (by kernel_rfl)
@[go_sem] theorem Tryz.pl31_6 : tPlace Tryz.prog 31 6 = (some (6, 1)) := nr (by kernel_rfl)
@[go_sem] theorem Tryz.pl31_7 : tPlace Tryz.prog 31 7 = (some (7, 1)) := nr (by kernel_rfl)
@[go_sem] theorem Tryz.pl31_8 : tPlace Tryz.prog 31 8 = (some (8, 1)) := nr (by kernel_rfl)
@[go_sem] theorem Tryz.pl31_9 : tPlace Tryz.prog 31 9 = (some (9, 1)) := nr (by kernel_rfl)
@[go_sem] theorem Tryz.pl31_10 : tPlace Tryz.prog 31 10 = (some (10, 1)) := nr (by kernel_rfl)
@[go_sem] theorem Tryz.pl31_11 : tPlace Tryz.prog 31 11 = (some (11, 2)) := nr (by kernel_rfl)
@[go_sem] theorem Tryz.pl31_12 : tPlace Tryz.prog 31 12 = (some (13, 1)) := nr (by kernel_rfl)
@[go_sem] theorem Tryz.pl31_13 : tPlace Tryz.prog 31 13 = (some (14, 1)) := nr (by kernel_rfl)
@[go_sem] theorem Tryz.pl31_14 : tPlace Tryz.prog 31 14 = (some (15, 1)) := nr (by kernel_rfl)
@[go_sem] theorem Tryz.fld31_0 : tFld Tryz.prog 31 0 = (some 0) := nr (by kernel_rfl)
@[go_sem] theorem Tryz.fld31_1 : tFld Tryz.prog 31 1 = (some 1) := nr (by kernel_rfl)
@[go_sem] theorem Tryz.fld31_2 : tFld Tryz.prog 31 2 = (some 2) := nr (by kernel_rfl)
@[go_sem] theorem Tryz.fld31_3 : tFld Tryz.prog 31 3 = (some 3) := nr (by kernel_rfl)
@[go_sem] theorem Tryz.fld31_4 : tFld Tryz.prog 31 4 = (some 4) := nr (by kernel_rfl)
@[go_sem] theorem Tryz.fld31_5 : tFld Tryz.prog 31 5 = (some 5) := nr (by kernel_rfl)
@[go_sem] theorem Tryz.fld31_6 : tFld Tryz.prog 31 6 = (some 6) := nr (by kernel_rfl)
@[go_sem] theorem Tryz.fld31_7 : tFld Tryz.prog 31 7 = (some 7) := nr (by kernel_rfl)
@[go_sem] theorem Tryz.fld31_8 : tFld Tryz.prog 31 8 = (some 8) := nr (by kernel_rfl)
@[go_sem] theorem Tryz.fld31_9 : tFld Tryz.prog 31 9 = (some 9) := nr (by kernel_rfl)
@[go_sem] theorem Tryz.fld31_10 : tFld Tryz.prog 31 10 = (some 10) := nr (by kernel_rfl)
@[go_sem] theorem Tryz.fld31_11 : tFld Tryz.prog 31 11 = (some 11) := nr (by kernel_rfl)
@[go_sem] theorem Tryz.fld31_12 : tFld Tryz.prog 31 12 = (some 13) := nr (by kernel_rfl)
@[go_sem] theorem Tryz.fld31_13 : tFld Tryz.prog 31 13 = (some 14) := nr (by kernel_rfl)
@[go_sem] theorem Tryz.fld31_14 : tFld Tryz.prog 31 14 = (some 15) := nr (by kernel_rfl)
@[go_sem] theorem Tryz.kd32 : tKind Tryz.prog 32 = 7 := nr (by kernel_rfl)
@[go_sem] theorem Tryz.lay32 : tLay Tryz.prog 32 = (some (true, 16)) := nr (by kernel_rfl)
@[go_sem] theorem Tryz.zs32 : tZ Tryz.prog 32 = (some ((.int .i64 0) :: ((.int .i64 0) :: ((.int .i64 0) :: ((.int .i64 0) :: ((.slice none 0 0) :: ((.int .i64 0) :: ((.int .i64 0) :: ((.bool false) :: ((.bool false) :: ((.int .i64 0) :: ((.int .i64 0) :: ((.int .i64 0) :: ((.int .i64 0) :: ((.int .i64 0) :: ((.int .i64 0) :: ((.bool false) :: []))))))))))))))))) := nr (by kernel_rfl)
@[go_sem] theorem Tryz.pl32_0 : tPlace Tryz.prog 32 0 = (some (0, 1)) := nr (by kernel_rfl)
@[go_sem] theorem Tryz.pl32_1 : tPlace Tryz.prog 32 1 = (some (1, 1)) := nr (by kernel_rfl)
@[go_sem] theorem Tryz.pl32_2 : tPlace Tryz.prog 32 2 = (some (2, 1)) := nr (by kernel_rfl)
@[go_sem] theorem Tryz.pl32_3 : tPlace Tryz.prog 32 3 = (some (3, 1)) := nr (by kernel_rfl)
@[go_sem] theorem Tryz.pl32_4 : tPlace Tryz.prog 32 4 = (some (4, 1)) := nr (by kernel_rfl)
@[go_sem] theorem Tryz.pl32_5 : tPlace Tryz.prog 32 5 = (some (5, 1)) := nr (by kernel_rfl)
@[go_sem] theorem Tryz.pl32_6 : tPlace Tryz.prog 32 6 = (some (6, 1)) := nr (by kernel_rfl)
@[go_sem] theorem Tryz.pl32_7 : tPlace Tryz.prog 32 7 = (some (7, 1)) := nr (by kernel_rfl)
@[go_sem] theorem Tryz.pl32_8 : tPlace Tryz.prog 32 8 = (some (8, 1)) := nr (by kernel_rfl)
@[go_sem] theorem Tryz.pl32_9 : tPlace Tryz.prog 32 9 = (some (9, 1)) := nr (by kernel_rfl)
@[go_sem] theorem Tryz.pl32_10 : tPlace Tryz.prog 32 10 = (some (10, 1)) := nr (by kernel_rfl)
@[go_sem] theorem Tryz.pl32_11 : tPlace Tryz.prog 32 11 = (some (11, 2)) := nr (by kernel_rfl)
@[go_sem] theorem Tryz.pl32_12 : tPlace Tryz.prog 32 12 = (some (13, 1)) := nr (by kernel_rfl)
@[go_sem] theorem Tryz.pl32_13 : tPlace Tryz.prog 32 13 = (some (14, 1)) := nr (by kernel_rfl)
@[go_sem] theorem Tryz.pl32_14 : tPlace Tryz.prog 32 14 = (some (15, 1)) := nr (by kernel_rfl)
@[go_sem] theorem Tryz.fld32_0 : tFld Tryz.prog 32 0 = (some 0) := nr (by kernel_rfl)
@[go_sem] theorem Tryz.fld32_1 : tFld Tryz.prog 32 1 = (some 1) := nr (by kernel_rfl)
@[go_sem] theorem Tryz.fld32_2 : tFld Tryz.prog 32 2 = (some 2) := nr (by kernel_rfl)
@[go_sem] theorem Tryz.fld32_3 : tFld Tryz.prog 32 3 = (some 3) := nr (by kernel_rfl)
@[go_sem] theorem Tryz.fld32_4 : tFld Tryz.prog 32 4 = (some 4) := nr (by kernel_rfl)
@[go_sem] theorem Tryz.fld32_5 : tFld Tryz.prog 32 5 = (some 5) := nr (by kernel_rfl)
@[go_sem] theorem Tryz.fld32_6 : tFld Tryz.prog 32 6 = (some 6) := nr (by kernel_rfl)
@[go_sem] theorem Tryz.fld32_7 : tFld Tryz.prog 32 7 = (some 7) := nr (by kernel_rfl)
@[go_sem] theorem Tryz.fld32_8 : tFld Tryz.prog 32 8 = (some 8) := nr (by kernel_rfl)
@[go_sem] theorem Tryz.fld32_9 : tFld Tryz.prog 32 9 = (some 9) := nr (by kernel_rfl)
@[go_sem] theorem Tryz.fld32_10 : tFld Tryz.prog 32 10 = (some 10) := nr (by kernel_rfl)
@[go_sem] theorem Tryz.fld32_11 : tFld Tryz.prog 32 11 = (some 11) := nr (by kernel_rfl)
@[go_sem] theorem Tryz.fld32_12 : tFld Tryz.prog 32 12 = (some 13) := nr (by kernel_rfl)
@[go_sem] theorem Tryz.fld32_13 : tFld Tryz.prog 32 13 = (some 14) := nr (by kernel_rfl)
@[go_sem] theorem Tryz.fld32_14 : tFld Tryz.prog 32 14 = (some 15) := nr (by kernel_rfl)
@[go_sem] theorem Tryz.kd33 : tKind Tryz.prog 33 = 7 := nr (by kernel_rfl)
@[go_sem] theorem Tryz.lay33 : tLay Tryz.prog 33 = (some (true, 19)) := nr (by kernel_rfl)
@[go_sem] theorem Tryz.zs33 : tZ Tryz.prog 33 = (some ((.int .i64 0) :: ((.slice none 0 0) :: ((.int .i64 0) :: ((.int .i64 0) :: ((.int .i64 0) :: ((.int .i64 0) :: ((.slice none 0 0) :: ((.int .i64 0) :: ((.int .i64 0) :: ((.bool false) :: ((.bool false) :: ((.int .i64 0) :: ((.int .i64 0) :: ((.int .i64 0) :: ((.int .i64 0) :: ((.int .i64 0) :: ((.int .i64 0) :: ((.bool false) :: ((.int .i64 0) :: [])))))))))))))))))))) := nr (by kernel_rfl)
@[go_sem] theorem Tryz.pl33_0 : tPlace Tryz.prog 33 0 = (some (0, 1)) := nr (by kernel_rfl)
@[go_sem] theorem Tryz.pl33_1 : tPlace Tryz.prog 33 1 = (some (1, 1)) := nr (by kernel_rfl)
@[go_sem] theorem Tryz.pl33_2 : tPlace Tryz.prog 33 2 = (some (2, 16)) := nr (by kernel_rfl)
@[go_sem] theorem Tryz.pl33_3 : tPlace Tryz.prog 33 3 = (some (18, 1)) := nr (by kernel_rfl)
@[go_sem] theorem Tryz.fld33_0 : tFld Tryz.prog 33 0 = (some 0) := nr (by kernel_rfl)
@[go_sem] theorem Tryz.fld33_1 : tFld Tryz.prog 33 1 = (some 1) := nr (by kernel_rfl)
@[go_sem] theorem Tryz.fld33_2 : tFld Tryz.prog 33 2 = (some 2) := nr (by kernel_rfl)
@[go_sem] theorem Tryz.fld33_3 : tFld Tryz.prog 33 3 = (some 18) := nr (by kernel_rfl)
@[go_sem] theorem Tryz.kd34 : tKind Tryz.prog 34 = 7 := nr (by kernel_rfl)
@[go_sem] theorem Tryz.lay34 : tLay Tryz.prog 34 = (some (true, 19)) := nr (by kernel_rfl)
@[go_sem] theorem Tryz.zs34 : tZ Tryz.prog 34 = (some ((.int .i64 0) :: ((.slice none 0 0) :: ((.int .i64 0) :: ((.int .i64 0) :: ((.int .i64 0) :: ((.int .i64 0) :: ((.slice none 0 0) :: ((.int .i64 0) :: ((.int .i64 0) :: ((.bool false) :: ((.bool false) :: ((.int .i64 0) :: ((.int .i64 0) :: ((.int .i64 0) :: ((.int .i64 0) :: ((.int .i64 0) :: ((.int .i64 0) :: ((.bool false) :: ((.int .i64 0) :: [])))))))))))))))))))) := nr (by kernel_rfl)
@[go_sem] theorem Tryz.pl34_0 : tPlace Tryz.prog 34 0 = (some (0, 1)) := nr (by kernel_rfl)
@[go_sem] theorem Tryz.pl34_1 : tPlace Tryz.prog 34 1 = (some (1, 1)) := nr (by kernel_rfl)
@[go_sem] theorem Tryz.pl34_2 : tPlace Tryz.prog 34 2 = (some (2, 16)) := nr (by kernel_rfl)
@[go_sem] theorem Tryz.pl34_3 : tPlace Tryz.prog 34 3 = (some (18, 1)) := nr (by kernel_rfl)
@[go_sem] theorem Tryz.fld34_0 : tFld Tryz.prog 34 0 = (some 0) := nr (by kernel_rfl)
@[go_sem] theorem Tryz.fld34_1 : tFld Tryz.prog 34 1 = (some 1) := nr (by kernel_rfl)
@[go_sem] theorem Tryz.fld34_2 : tFld Tryz.prog 34 2 = (some 2) := nr (by kernel_rfl)
@[go_sem] theorem Tryz.fld34_3 : tFld Tryz.prog 34 3 = (some 18) := nr (by kernel_rfl)
@[go_sem] theorem Tryz.kd35 : tKind Tryz.prog 35 = 1 := nr (by kernel_rfl)
@[go_sem] theorem Tryz.lay35 : tLay Tryz.prog 35 = (some (false, 1)) := nr (by kernel_rfl)
@[go_sem] theorem Tryz.zs35 : tZ Tryz.prog 35 = (some ((.slice none 0 0) :: [])) := nr (by kernel_rfl)
@[go_sem] theorem Tryz.elm35 : tElem Tryz.prog 35 = (some 1) := nr (by kernel_rfl)
@[go_sem] theorem Tryz.el35 : tEl Tryz.prog 35 = (some ⟨4, 1, 1, ((.bool false) :: [])⟩) := nr (by kernel_rfl)
@[go_sem] theorem Tryz.kd36 : tKind Tryz.prog 36 = 1 := nr (by kernel_rfl)
@[go_sem] theorem Tryz.lay36 : tLay Tryz.prog 36 = (some (false, 1)) := nr (by kernel_rfl)
@[go_sem] theorem Tryz.zs36 : tZ Tryz.prog 36 = (some ((.slice none 0 0) :: [])) := nr (by kernel_rfl)
@[go_sem] theorem Tryz.elm36 : tElem Tryz.prog 36 = (some 5) := nr (by kernel_rfl)
@[go_sem] theorem Tryz.el36 : tEl Tryz.prog 36 = (some ⟨47, 5, 40, ((.int .i64 0) :: ((.int .i64 0) :: ((.int .i64 0) :: ((.int .i64 0) :: ((.bool false) :: [])))))⟩) := nr (by kernel_rfl)
@[go_sem] theorem Tryz.kd37 : tKind Tryz.prog 37 = 7 := nr (by kernel_rfl)
@[go_sem] theorem Tryz.lay37 : tLay Tryz.prog 37 = (some (true, 4)) := nr (by kernel_rfl)
@[go_sem] theorem Tryz.zs37 : tZ Tryz.prog 37 = (some ((.int .i64 0) :: ((.slice none 0 0) :: ((.slice none 0 0) :: ((.slice none 0 0) :: []))))) := nr (by kernel_rfl)
@[go_sem] theorem Tryz.pl37_0 : tPlace Tryz.prog 37 0 = (some (0, 1)) := nr (by kernel_rfl)
@[go_sem] theorem Tryz.pl37_1 : tPlace Tryz.prog 37 1 = (some (1, 1)) := nr (by kernel_rfl)
@[go_sem] theorem Tryz.pl37_2 : tPlace Tryz.prog 37 2 = (some (2, 1)) := nr (by kernel_rfl)
@[go_sem] theorem Tryz.pl37_3 : tPlace Tryz.prog 37 3 = (some (3, 1)) := nr (by kernel_rfl)
@[go_sem] theorem Tryz.fld37_0 : tFld Tryz.prog 37 0 = (some 0) := nr (by kernel_rfl)
@[go_sem] theorem Tryz.fld37_1 : tFld Tryz.prog 37 1 = (some 1) := nr (by kernel_rfl)
@[go_sem] theorem Tryz.fld37_2 : tFld Tryz.prog 37 2 = (some 2) := nr (by kernel_rfl)
@[go_sem] theorem Tryz.fld37_3 : tFld Tryz.prog 37 3 = (some 3) := nr (by kernel_rfl)
@[go_sem] theorem Tryz.kd38 : tKind Tryz.prog 38 = 7 := nr (by kernel_rfl)
@[go_sem] theorem Tryz.lay38 : tLay Tryz.prog 38 = (some (true, 4)) := nr (by kernel_rfl)
@[go_sem] theorem Tryz.zs38 : tZ Tryz.prog 38 = (some ((.int .i64 0) :: ((.slice none 0 0) :: ((.slice none 0 0) :: ((.slice none 0 0) :: []))))) := nr (by kernel_rfl)
@[go_sem] theorem Tryz.pl38_0 : tPlace Tryz.prog 38 0 = (some (0, 1)) := nr (by kernel_rfl)
@[go_sem] theorem Tryz.pl38_1 : tPlace Tryz.prog 38 1 = (some (1, 1)) := nr (by kernel_rfl)
@[go_sem] theorem Tryz.pl38_2 : tPlace Tryz.prog 38 2 = (some (2, 1)) := nr (by kernel_rfl)
@[go_sem] theorem Tryz.pl38_3 : tPlace Tryz.prog 38 3 = (some (3, 1)) := nr (by kernel_rfl)
@[go_sem] theorem Tryz.fld38_0 : tFld Tryz.prog 38 0 = (some 0) := nr (by kernel_rfl)
@[go_sem] theorem Tryz.fld38_1 : tFld Tryz.prog 38 1 = (some 1) := nr (by kernel_rfl)
@[go_sem] theorem Tryz.fld38_2 : tFld Tryz.prog 38 2 = (some 2) := nr (by kernel_rfl)
@[go_sem] theorem Tryz.fld38_3 : tFld Tryz.prog 38 3 = (some 3) := nr (by kernel_rfl)
@[go_sem] theorem Tryz.kd39 : tKind Tryz.prog 39 = 4 := nr (by kernel_rfl)
@[go_sem] theorem Tryz.lay39 : tLay Tryz.prog 39 = (some (false, 1)) := nr (by kernel_rfl)
@[go_sem] theorem Tryz.zs39 : tZ Tryz.prog 39 = (some (.nilFunc :: [])) := nr (by kernel_rfl)
@[go_sem] theorem Tryz.kd40 : tKind Tryz.prog 40 = 4 := nr (by kernel_rfl)
@[go_sem] theorem Tryz.lay40 : tLay Tryz.prog 40 = (some (false, 1)) := nr (by kernel_rfl)
@[go_sem] theorem Tryz.zs40 : tZ Tryz.prog 40 = (some (.nilFunc :: [])) := nr (by kernel_rfl)
@[go_sem] theorem Tryz.kd41 : tKind Tryz.prog 41 = 4 := nr (by kernel_rfl)
@[go_sem] theorem Tryz.lay41 : tLay Tryz.prog 41 = (some (false, 1)) := nr (by kernel_rfl)
@[go_sem] theorem Tryz.zs41 : tZ Tryz.prog 41 = (some (.nilFunc :: [])) := nr (by kernel_rfl)
@[go_sem] theorem Tryz.kd42 : tKind Tryz.prog 42 = 4 := nr (by kernel_rfl)
@[go_sem] theorem Tryz.lay42 : tLay Tryz.prog 42 = (some (false, 1)) := nr (by kernel_rfl)
@[go_sem] theorem Tryz.zs42 : tZ Tryz.prog 42 = (some (.nilFunc :: [])) := nr (by kernel_rfl)
@[go_sem] theorem Tryz.kd43 : tKind Tryz.prog 43 = 9 := nr (by kernel_rfl)
@[go_sem] theorem Tryz.lay43 : tLay Tryz.prog 43 = (some (false, 1)) := nr (by kernel_rfl)
@[go_sem] theorem Tryz.zs43 : tZ Tryz.prog 43 = (some ((.int .i64 0) :: [])) := nr (by kernel_rfl)
@[go_sem] theorem Tryz.int43 : tInt Tryz.prog 43 = (some .i64) := nr (by kernel_rfl)
@[go_sem] theorem Tryz.kd45 : tKind Tryz.prog 45 = 4 := nr (by kernel_rfl)
@[go_sem] theorem Tryz.lay45 : tLay Tryz.prog 45 = (some (false, 1)) := nr (by kernel_rfl)
@[go_sem] theorem Tryz.zs45 : tZ Tryz.prog 45 = (some (.nilFunc :: [])) := nr (by kernel_rfl)
@[go_sem] theorem Tryz.kd46 : tKind Tryz.prog 46 = 7 := nr (by kernel_rfl)
@[go_sem] theorem Tryz.lay46 : tLay Tryz.prog 46 = (some (true, 5)) := nr (by kernel_rfl)
@[go_sem] theorem Tryz.zs46 : tZ Tryz.prog 46 = (some ((.int .i64 0) :: ((.int .i64 0) :: ((.int .i64 0) :: ((.int .i64 0) :: ((.bool false) :: [])))))) := nr (by kernel_rfl)
@[go_sem] theorem Tryz.pl46_0 : tPlace Tryz.prog 46 0 = (some (0, 1)) := nr (by kernel_rfl)
@[go_sem] theorem Tryz.pl46_1 : tPlace Tryz.prog 46 1 = (some (1, 1)) := nr (by kernel_rfl)
@[go_sem] theorem Tryz.pl46_2 : tPlace Tryz.prog 46 2 = (some (2, 1)) := nr (by kernel_rfl)
@[go_sem] theorem Tryz.pl46_3 : tPlace Tryz.prog 46 3 = (some (3, 1)) := nr (by kernel_rfl)
@[go_sem] theorem Tryz.pl46_4 : tPlace Tryz.prog 46 4 = (some (4, 1)) := nr (by kernel_rfl)
@[go_sem] theorem Tryz.fld46_0 : tFld Tryz.prog 46 0 = (some 0) := nr (by kernel_rfl)
@[go_sem] theorem Tryz.fld46_1 : tFld Tryz.prog 46 1 = (some 1) := nr (by kernel_rfl)
@[go_sem] theorem Tryz.fld46_2 : tFld Tryz.prog 46 2 = (some 2) := nr (by kernel_rfl)
@[go_sem] theorem Tryz.fld46_3 : tFld Tryz.prog 46 3 = (some 3) := nr (by kernel_rfl)
@[go_sem] theorem Tryz.fld46_4 : tFld Tryz.prog 46 4 = (some 4) := nr (by kernel_rfl)
@[go_sem] theorem Tryz.eqs46 : eqShape Tryz.prog 10000 46 = (some ((.i .i64) :: ((.i .i64) :: ((.i .i64) :: ((.i .i64) :: (.b :: [])))))) := nr (by kernel_rfl)
@[go_sem] theorem Tryz.eqg46 : Tryz.prog.eqGuardType Tryz.prog.depth 46 = false := nr (by kernel_rfl)
@[go_sem] theorem Tryz.kd47 : tKind Tryz.prog 47 = 7 := nr (by kernel_rfl)
@[go_sem] theorem Tryz.lay47 : tLay Tryz.prog 47 = (some (true, 5)) := nr (by kernel_rfl)
@[go_sem] theorem Tryz.zs47 : tZ Tryz.prog 47 = (some ((.int .i64 0) :: ((.int .i64 0) :: ((.int .i64 0) :: ((.int .i64 0) :: ((.bool false) :: [])))))) := nr (by kernel_rfl)
@[go_sem] theorem Tryz.pl47_0 : tPlace Tryz.prog 47 0 = (some (0, 1)) := nr (by kernel_rfl)
@[go_sem] theorem Tryz.pl47_1 : tPlace Tryz.prog 47 1 = (some (1, 1)) := nr (by kernel_rfl)
@[go_sem] theorem Tryz.pl47_2 : tPlace Tryz.prog 47 2 = (some (2, 1)) := nr (by kernel_rfl)
@[go_sem] theorem Tryz.pl47_3 : tPlace Tryz.prog 47 3 = (some (3, 1)) := nr (by kernel_rfl)
@[go_sem] theorem Tryz.pl47_4 : tPlace Tryz.prog 47 4 = (some (4, 1)) := nr (by kernel_rfl)
@[go_sem] theorem Tryz.fld47_0 : tFld Tryz.prog 47 0 = (some 0) := nr (by kernel_rfl)
@[go_sem] theorem Tryz.fld47_1 : tFld Tryz.prog 47 1 = (some 1) := nr (by kernel_rfl)
@[go_sem] theorem Tryz.fld47_2 : tFld Tryz.prog 47 2 = (some 2) := nr (by kernel_rfl)
@[go_sem] theorem Tryz.fld47_3 : tFld Tryz.prog 47 3 = (some 3) := nr (by kernel_rfl)
@[go_sem] theorem Tryz.fld47_4 : tFld Tryz.prog 47 4 = (some 4) := nr (by kernel_rfl)
@[go_sem] theorem Tryz.eqs47 : eqShape Tryz.prog 10000 47 = (some ((.i .i64) :: ((.i .i64) :: ((.i .i64) :: ((.i .i64) :: (.b :: [])))))) := nr (by kernel_rfl)
@[go_sem] theorem Tryz.eqg47 : Tryz.prog.eqGuardType Tryz.prog.depth 47 = false := nr (by kernel_rfl)
@[go_sem] theorem Tryz.kd48 : tKind Tryz.prog 48 = 4 := nr (by kernel_rfl)
@[go_sem] theorem Tryz.lay48 : tLay Tryz.prog 48 = (some (false, 1)) := nr (by kernel_rfl)
@[go_sem] theorem Tryz.zs48 : tZ Tryz.prog 48 = (some (.nilFunc :: [])) := nr (by kernel_rfl)
@[go_sem] theorem Tryz.kd49 : tKind Tryz.prog 49 = 4 := nr (by kernel_rfl)
@[go_sem] theorem Tryz.lay49 : tLay Tryz.prog 49 = (some (false, 1)) := nr (by kernel_rfl)
@[go_sem] theorem Tryz.zs49 : tZ Tryz.prog 49 = (some (.nilFunc :: [])) := nr (by kernel_rfl)
@[go_sem] theorem Tryz.kd50 : tKind Tryz.prog 50 = 4 := nr (by kernel_rfl)
@[go_sem] theorem Tryz.lay50 : tLay Tryz.prog 50 = (some (false, 1)) := nr (by kernel_rfl)
@[go_sem] theorem Tryz.zs50 : tZ Tryz.prog 50 = (some (.nilFunc :: [])) := nr (by kernel_rfl)
@[go_sem] theorem Tryz.kd51 : tKind Tryz.prog 51 = 9 := nr (by kernel_rfl)
@[go_sem] theorem Tryz.lay51 : tLay Tryz.prog 51 = (some (false, 1)) := nr (by kernel_rfl)
@[go_sem] theorem Tryz.zs51 : tZ Tryz.prog 51 = (some ((.int .u16 0) :: [])) := nr (by kernel_rfl)
@[go_sem] theorem Tryz.int51 : tInt Tryz.prog 51 = (some .u16) := nr (by kernel_rfl)
@[go_sem] theorem Tryz.kd52 : tKind Tryz.prog 52 = 4 := nr (by kernel_rfl)
@[go_sem] theorem Tryz.lay52 : tLay Tryz.prog 52 = (some (false, 1)) := nr (by kernel_rfl)
@[go_sem] theorem Tryz.zs52 : tZ Tryz.prog 52 = (some (.nilFunc :: [])) := nr (by kernel_rfl)
@[go_sem] theorem Tryz.kd53 : tKind Tryz.prog 53 = 4 := nr (by kernel_rfl)
@[go_sem] theorem Tryz.lay53 : tLay Tryz.prog 53 = (some (false, 1)) := nr (by kernel_rfl)
@[go_sem] theorem Tryz.zs53 : tZ Tryz.prog 53 = (some (.nilFunc :: [])) := nr (by kernel_rfl)
@[go_sem] theorem Tryz.kd55 : tKind Tryz.prog 55 = 4 := nr (by kernel_rfl)
@[go_sem] theorem Tryz.lay55 : tLay Tryz.prog 55 = (some (false, 1)) := nr (by kernel_rfl)
@[go_sem] theorem Tryz.zs55 : tZ Tryz.prog 55 = (some (.nilFunc :: [])) := nr (by kernel_rfl)
@[go_sem] theorem Tryz.kd56 : tKind Tryz.prog 56 = 4 := nr (by kernel_rfl)
@[go_sem] theorem Tryz.lay56 : tLay Tryz.prog 56 = (some (false, 1)) := nr (by kernel_rfl)
@[go_sem] theorem Tryz.zs56 : tZ Tryz.prog 56 = (some (.nilFunc :: [])) := nr (by kernel_rfl)
@[go_sem] theorem Tryz.kd57 : tKind Tryz.prog 57 = 1 := nr (by kernel_rfl)
@[go_sem] theorem Tryz.lay57 : tLay Tryz.prog 57 = (some (false, 1)) := nr (by kernel_rfl)
@[go_sem] theorem Tryz.zs57 : tZ Tryz.prog 57 = (some ((.slice none 0 0) :: [])) := nr (by kernel_rfl)
@[go_sem] theorem Tryz.elm57 : tElem Tryz.prog 57 = (some 7) := nr (by kernel_rfl)
@[go_sem] theorem Tryz.el57 : tEl Tryz.prog 57 = (some ⟨27, 7, 136, ((.int .i64 0) :: ((.slice none 0 0) :: ((.slice none 0 0) :: ((.slice none 0 0) :: ((.slice none 0 0) :: ((.int .i64 0) :: ((.slice none 0 0) :: [])))))))⟩) := nr (by kernel_rfl)
@[go_sem] theorem Tryz.kd58 : tKind Tryz.prog 58 = 1 := nr (by kernel_rfl)
@[go_sem] theorem Tryz.lay58 : tLay Tryz.prog 58 = (some (false, 1)) := nr (by kernel_rfl)
@[go_sem] theorem Tryz.zs58 : tZ Tryz.prog 58 = (some ((.slice none 0 0) :: [])) := nr (by kernel_rfl)
@[go_sem] theorem Tryz.elm58 : tElem Tryz.prog 58 = (some 4) := nr (by kernel_rfl)
@[go_sem] theorem Tryz.el58 : tEl Tryz.prog 58 = (some ⟨38, 4, 80, ((.int .i64 0) :: ((.slice none 0 0) :: ((.slice none 0 0) :: ((.slice none 0 0) :: []))))⟩) := nr (by kernel_rfl)
@[go_sem] theorem Tryz.kd60 : tKind Tryz.prog 60 = 4 := nr (by kernel_rfl)
@[go_sem] theorem Tryz.lay60 : tLay Tryz.prog 60 = (some (false, 1)) := nr (by kernel_rfl)
@[go_sem] theorem Tryz.zs60 : tZ Tryz.prog 60 = (some (.nilFunc :: [])) := nr (by kernel_rfl)
@[go_sem] theorem Tryz.kd62 : tKind Tryz.prog 62 = 4 := nr (by kernel_rfl)
@[go_sem] theorem Tryz.lay62 : tLay Tryz.prog 62 = (some (false, 1)) := nr (by kernel_rfl)
@[go_sem] theorem Tryz.zs62 : tZ Tryz.prog 62 = (some (.nilFunc :: [])) := nr (by kernel_rfl)
@[go_sem] theorem Tryz.kd63 : tKind Tryz.prog 63 = 4 := nr (by kernel_rfl)
@[go_sem] theorem Tryz.lay63 : tLay Tryz.prog 63 = (some (false, 1)) := nr (by kernel_rfl)
@[go_sem] theorem Tryz.zs63 : tZ Tryz.prog 63 = (some (.nilFunc :: [])) := nr (by kernel_rfl)
@[go_sem] theorem Tryz.kd64 : tKind Tryz.prog 64 = 4 := nr (by kernel_rfl)
@[go_sem] theorem Tryz.lay64 : tLay Tryz.prog 64 = (some (false, 1)) := nr (by kernel_rfl)
@[go_sem] theorem Tryz.zs64 : tZ Tryz.prog 64 = (some (.nilFunc :: [])) := nr (by kernel_rfl)
@[go_sem] theorem Tryz.kd66 : tKind Tryz.prog 66 = 4 := nr (by kernel_rfl)
@[go_sem] theorem Tryz.lay66 : tLay Tryz.prog 66 = (some (false, 1)) := nr (by kernel_rfl)
@[go_sem] theorem Tryz.zs66 : tZ Tryz.prog 66 = (some (.nilFunc :: [])) := nr (by kernel_rfl)
@[go_sem] theorem Tryz.kd67 : tKind Tryz.prog 67 = 4 := nr (by kernel_rfl)
@[go_sem] theorem Tryz.lay67 : tLay Tryz.prog 67 = (some (false, 1)) := nr (by kernel_rfl)
@[go_sem] theorem Tryz.zs67 : tZ Tryz.prog 67 = (some (.nilFunc :: [])) := nr (by kernel_rfl)
@[go_sem] theorem Tryz.kd68 : tKind Tryz.prog 68 = 7 := nr (by kernel_rfl)
@[go_sem] theorem Tryz.lay68 : tLay Tryz.prog 68 = (some (true, 22)) := nr (by kernel_rfl)
@[go_sem] theorem Tryz.zs68 : tZ Tryz.prog 68 = (some ((.int .i64 0) :: ((.int .i64 0) :: ((.int .i64 0) :: ((.int .i64 0) :: ((.slice none 0 0) :: ((.int .i64 0) :: ((.int .i64 0) :: ((.int .i64 0) :: ((.int .i64 0) :: ((.slice none 0 0) :: ((.int .i64 0) :: ((.int .i64 0) :: ((.bool false) :: ((.bool false) :: ((.int .i64 0) :: ((.int .i64 0) :: ((.int .i64 0) :: ((.int .i64 0) :: ((.int .i64 0) :: ((.int .i64 0) :: ((.bool false) :: ((.int .i64 0) :: []))))))))))))))))))))))) := nr (by kernel_rfl)
@[go_sem] theorem Tryz.pl68_0 : tPlace Tryz.prog 68 0 = (some (0, 1)) := nr (by kernel_rfl)
@[go_sem] theorem Tryz.pl68_1 : tPlace Tryz.prog 68 1 = (some (1, 1)) := nr (by kernel_rfl)
@[go_sem] theorem Tryz.pl68_2 : tPlace Tryz.prog 68 2 = (some (2, 1)) := nr (by kernel_rfl)
@[go_sem] theorem Tryz.pl68_3 : tPlace Tryz.prog 68 3 = (some (3, 19)) := nr (by kernel_rfl)
@[go_sem] theorem Tryz.fld68_0 : tFld Tryz.prog 68 0 = (some 0) := nr (by kernel_rfl)
@[go_sem] theorem Tryz.fld68_1 : tFld Tryz.prog 68 1 = (some 1) := nr (by kernel_rfl)
@[go_sem] theorem Tryz.fld68_2 : tFld Tryz.prog 68 2 = (some 2) := nr (by kernel_rfl)
@[go_sem] theorem Tryz.fld68_3 : tFld Tryz.prog 68 3 = (some 3) := nr (by kernel_rfl)
@[go_sem] theorem Tryz.kd69 : tKind Tryz.prog 69 = 7 := nr (by kernel_rfl)
@[go_sem] theorem Tryz.lay69 : tLay Tryz.prog 69 = (some (true, 22)) := nr (by kernel_rfl)
@[go_sem] theorem Tryz.zs69 : tZ Tryz.prog 69 = (some ((.int .i64 0) :: ((.int .i64 0) :: ((.int .i64 0) :: ((.int .i64 0) :: ((.slice none 0 0) :: ((.int .i64 0) :: ((.int .i64 0) :: ((.int .i64 0) :: ((.int .i64 0) :: ((.slice none 0 0) :: ((.int .i64 0) :: ((.int .i64 0) :: ((.bool false) :: ((.bool false) :: ((.int .i64 0) :: ((.int .i64 0) :: ((.int .i64 0) :: ((.int .i64 0) :: ((.int .i64 0) :: ((.int .i64 0) :: ((.bool false) :: ((.int .i64 0) :: []))))))))))))))))))))))) := nr (by kernel_rfl)
@[go_sem] theorem Tryz.pl69_0 : tPlace Tryz.prog 69 0 = (some (0, 1)) := nr (by kernel_rfl)
@[go_sem] theorem Tryz.pl69_1 : tPlace Tryz.prog 69 1 = (some (1, 1)) := nr (by kernel_rfl)
@[go_sem] theorem Tryz.pl69_2 : tPlace Tryz.prog 69 2 = (some (2, 1)) := nr (by kernel_rfl)
@[go_sem] theorem Tryz.pl69_3 : tPlace Tryz.prog 69 3 = (some (3, 19)) := nr (by kernel_rfl)
@[go_sem] theorem Tryz.fld69_0 : tFld Tryz.prog 69 0 = (some 0) := nr (by kernel_rfl)
@[go_sem] theorem Tryz.fld69_1 : tFld Tryz.prog 69 1 = (some 1) := nr (by kernel_rfl)
@[go_sem] theorem Tryz.fld69_2 : tFld Tryz.prog 69 2 = (some 2) := nr (by kernel_rfl)
@[go_sem] theorem Tryz.fld69_3 : tFld Tryz.prog 69 3 = (some 3) := nr (by kernel_rfl)
@[go_sem] theorem Tryz.kd70 : tKind Tryz.prog 70 = 1 := nr (by kernel_rfl)
@[go_sem] theorem Tryz.lay70 : tLay Tryz.prog 70 = (some (false, 1)) := nr (by kernel_rfl)
@[go_sem] theorem Tryz.zs70 : tZ Tryz.prog 70 = (some ((.slice none 0 0) :: [])) := nr (by kernel_rfl)
@[go_sem] theorem Tryz.elm70 : tElem Tryz.prog 70 = (some 22) := nr (by kernel_rfl)
@[go_sem] theorem Tryz.el70 : tEl Tryz.prog 70 = (some ⟨69, 22, 200, ((.int .i64 0) :: ((.int .i64 0) :: ((.int .i64 0) :: ((.int .i64 0) :: ((.slice none 0 0) :: ((.int .i64 0) :: ((.int .i64 0) :: ((.int .i64 0) :: ((.int .i64 0) :: ((.slice none 0 0) :: ((.int .i64 0) :: ((.int .i64 0) :: ((.bool false) :: ((.bool false) :: ((.int .i64 0) :: ((.int .i64 0) :: ((.int .i64 0) :: ((.int .i64 0) :: ((.int .i64 0) :: ((.int .i64 0) :: ((.bool false) :: ((.int .i64 0) :: []))))))))))))))))))))))⟩) := nr (by kernel_rfl)
@[go_sem] theorem Tryz.kd71 : tKind Tryz.prog 71 = 4 := nr (by kernel_rfl)
@[go_sem] theorem Tryz.lay71 : tLay Tryz.prog 71 = (some (false, 1)) := nr (by kernel_rfl)
@[go_sem] theorem Tryz.zs71 : tZ Tryz.prog 71 = (some (.nilFunc :: [])) := nr (by kernel_rfl)
@[go_sem] theorem Tryz.kd72 : tKind Tryz.prog 72 = 4 := nr (by kernel_rfl)
@[go_sem] theorem Tryz.lay72 : tLay Tryz.prog 72 = (some (false, 1)) := nr (by kernel_rfl)
@[go_sem] theorem Tryz.zs72 : tZ Tryz.prog 72 = (some (.nilFunc :: [])) := nr (by kernel_rfl)
@[go_sem] theorem Tryz.kd73 : tKind Tryz.prog 73 = 4 := nr (by kernel_rfl)
@[go_sem] theorem Tryz.lay73 : tLay Tryz.prog 73 = (some (false, 1)) := nr (by kernel_rfl)
@[go_sem] theorem Tryz.zs73 : tZ Tryz.prog 73 = (some (.nilFunc :: [])) := nr (by kernel_rfl)
@[go_sem] theorem Tryz.kd74 : tKind Tryz.prog 74 = 4 := nr (by kernel_rfl)
@[go_sem] theorem Tryz.lay74 : tLay Tryz.prog 74 = (some (false, 1)) := nr (by kernel_rfl)
@[go_sem] theorem Tryz.zs74 : tZ Tryz.prog 74 = (some (.nilFunc :: [])) := nr (by kernel_rfl)
@[go_sem] theorem Tryz.kd75 : tKind Tryz.prog 75 = 4 := nr (by kernel_rfl)
@[go_sem] theorem Tryz.lay75 : tLay Tryz.prog 75 = (some (false, 1)) := nr (by kernel_rfl)
@[go_sem] theorem Tryz.zs75 : tZ Tryz.prog 75 = (some (.nilFunc :: [])) := nr (by kernel_rfl)
@[go_sem] theorem Tryz.kd76 : tKind Tryz.prog 76 = 4 := nr (by kernel_rfl)
@[go_sem] theorem Tryz.lay76 : tLay Tryz.prog 76 = (some (false, 1)) := nr (by kernel_rfl)
@[go_sem] theorem Tryz.zs76 : tZ Tryz.prog 76 = (some (.nilFunc :: [])) := nr (by kernel_rfl)
@[go_sem] theorem Tryz.kd77 : tKind Tryz.prog 77 = 4 := nr (by kernel_rfl)
@[go_sem] theorem Tryz.lay77 : tLay Tryz.prog 77 = (some (false, 1)) := nr (by kernel_rfl)
@[go_sem] theorem Tryz.zs77 : tZ Tryz.prog 77 = (some (.nilFunc :: [])) := nr (by kernel_rfl)
@[go_sem] theorem Tryz.kd78 : tKind Tryz.prog 78 = 4 := nr (by kernel_rfl)
@[go_sem] theorem Tryz.lay78 : tLay Tryz.prog 78 = (some (false, 1)) := nr (by kernel_rfl)
@[go_sem] theorem Tryz.zs78 : tZ Tryz.prog 78 = (some (.nilFunc :: [])) := nr (by kernel_rfl)
@[go_sem] theorem Tryz.kd79 : tKind Tryz.prog 79 = 7 := nr (by kernel_rfl)
@[go_sem] theorem Tryz.lay79 : tLay Tryz.prog 79 = (some (true, 7)) := nr (by kernel_rfl)
@[go_sem] theorem Tryz.zs79 : tZ Tryz.prog 79 = (some ((.int .i64 0) :: ((.int .i64 0) :: ((.int .i64 0) :: ((.int .i64 0) :: ((.int .i64 0) :: ((.int .i64 0) :: ((.int .i64 0) :: [])))))))) := nr (by kernel_rfl)
@[go_sem] theorem Tryz.pl79_0 : tPlace Tryz.prog 79 0 = (some (0, 1)) := nr (by kernel_rfl)
@[go_sem] theorem Tryz.pl79_1 : tPlace Tryz.prog 79 1 = (some (1, 1)) := nr (by kernel_rfl)
@[go_sem] theorem Tryz.pl79_2 : tPlace Tryz.prog 79 2 = (some (2, 1)) := nr (by kernel_rfl)
@[go_sem] theorem Tryz.pl79_3 : tPlace Tryz.prog 79 3 = (some (3, 1)) := nr (by kernel_rfl)
@[go_sem] theorem Tryz.pl79_4 : tPlace Tryz.prog 79 4 = (some (4, 1)) := nr (by kernel_rfl)
@[go_sem] theorem Tryz.pl79_5 : tPlace Tryz.prog 79 5 = (some (5, 2)) := nr (by kernel_rfl)
@[go_sem] theorem Tryz.fld79_0 : tFld Tryz.prog 79 0 = (some 0) := nr (by kernel_rfl)
@[go_sem] theorem Tryz.fld79_1 : tFld Tryz.prog 79 1 = (some 1) := nr (by kernel_rfl)
@[go_sem] theorem Tryz.fld79_2 : tFld Tryz.prog 79 2 = (some 2) := nr (by kernel_rfl)
@[go_sem] theorem Tryz.fld79_3 : tFld Tryz.prog 79 3 = (some 3) := nr (by kernel_rfl)
@[go_sem] theorem Tryz.fld79_4 : tFld Tryz.prog 79 4 = (some 4) := nr (by kernel_rfl)
@[go_sem] theorem Tryz.fld79_5 : tFld Tryz.prog 79 5 = (some 5) := nr (by kernel_rfl)
@[go_sem] theorem Tryz.eqs79 : eqShape Tryz.prog 10000 79 = (some ((.i .i64) :: ((.i .i64) :: ((.i .i64) :: ((.i .i64) :: ((.i .i64) :: ((.i .i64) :: ((.i .i64) :: [])))))))) := nr (by kernel_rfl)
@[go_sem] theorem Tryz.eqg79 : Tryz.prog.eqGuardType Tryz.prog.depth 79 = false := nr (by kernel_rfl)
@[go_sem] theorem Tryz.kd80 : tKind Tryz.prog 80 = 7 := nr (by kernel_rfl)
@[go_sem] theorem Tryz.lay80 : tLay Tryz.prog 80 = (some (true, 7)) := nr (by kernel_rfl)
@[go_sem] theorem Tryz.zs80 : tZ Tryz.prog 80 = (some ((.int .i64 0) :: ((.int .i64 0) :: ((.int .i64 0) :: ((.int .i64 0) :: ((.int .i64 0) :: ((.int .i64 0) :: ((.int .i64 0) :: [])))))))) := nr (by kernel_rfl)
@[go_sem] theorem Tryz.pl80_0 : tPlace Tryz.prog 80 0 = (some (0, 1)) := nr (by kernel_rfl)
@[go_sem] theorem Tryz.pl80_1 : tPlace Tryz.prog 80 1 = (some (1, 1)) := nr (by kernel_rfl)
@[go_sem] theorem Tryz.pl80_2 : tPlace Tryz.prog 80 2 = (some (2, 1)) := nr (by kernel_rfl)
@[go_sem] theorem Tryz.pl80_3 : tPlace Tryz.prog 80 3 = (some (3, 1)) := nr (by kernel_rfl)
@[go_sem] theorem Tryz.pl80_4 : tPlace Tryz.prog 80 4 = (some (4, 1)) := nr (by kernel_rfl)
@[go_sem] theorem Tryz.pl80_5 : tPlace Tryz.prog 80 5 = (some (5, 2)) := nr (by kernel_rfl)
@[go_sem] theorem Tryz.fld80_0 : tFld Tryz.prog 80 0 = (some 0) := nr (by kernel_rfl)
@[go_sem] theorem Tryz.fld80_1 : tFld Tryz.prog 80 1 = (some 1) := nr (by kernel_rfl)
@[go_sem] theorem Tryz.fld80_2 : tFld Tryz.prog 80 2 = (some 2) := nr (by kernel_rfl)
@[go_sem] theorem Tryz.fld80_3 : tFld Tryz.prog 80 3 = (some 3) := nr (by kernel_rfl)
@[go_sem] theorem Tryz.fld80_4 : tFld Tryz.prog 80 4 = (some 4) := nr (by kernel_rfl)
@[go_sem] theorem Tryz.fld80_5 : tFld Tryz.prog 80 5 = (some 5) := nr (by kernel_rfl)
@[go_sem] theorem Tryz.eqs80 : eqShape Tryz.prog 10000 80 = (some ((.i .i64) :: ((.i .i64) :: ((.i .i64) :: ((.i .i64) :: ((.i .i64) :: ((.i .i64) :: ((.i .i64) :: [])))))))) := nr (by kernel_rfl)
@[go_sem] theorem Tryz.eqg80 : Tryz.prog.eqGuardType Tryz.prog.depth 80 = false := nr (by kernel_rfl)
@[go_sem] theorem Tryz.kd81 : tKind Tryz.prog 81 = 4 := nr (by kernel_rfl)
@[go_sem] theorem Tryz.lay81 : tLay Tryz.prog 81 = (some (false, 1)) := nr (by kernel_rfl)
@[go_sem] theorem Tryz.zs81 : tZ Tryz.prog 81 = (some (.nilFunc :: [])) := nr (by kernel_rfl)
@[go_sem] theorem Tryz.kd82 : tKind Tryz.prog 82 = 4 := nr (by kernel_rfl)
@[go_sem] theorem Tryz.lay82 : tLay Tryz.prog 82 = (some (false, 1)) := nr (by kernel_rfl)
@[go_sem] theorem Tryz.zs82 : tZ Tryz.prog 82 = (some (.nilFunc :: [])) := nr (by kernel_rfl)
@[go_sem] theorem Tryz.kd83 : tKind Tryz.prog 83 = 4 := nr (by kernel_rfl)
@[go_sem] theorem Tryz.lay83 : tLay Tryz.prog 83 = (some (false, 1)) := nr (by kernel_rfl)
@[go_sem] theorem Tryz.zs83 : tZ Tryz.prog 83 = (some (.nilFunc :: [])) := nr (by kernel_rfl)
@[go_sem] theorem Tryz.kd84 : tKind Tryz.prog 84 = 7 := nr (by kernel_rfl)
@[go_sem] theorem Tryz.lay84 : tLay Tryz.prog 84 = (some (true, 5)) := nr (by kernel_rfl)
@[go_sem] theorem Tryz.zs84 : tZ Tryz.prog 84 = (some ((.int .i64 0) :: ((.int .i64 0) :: ((.bool false) :: ((.bool false) :: (.nilFunc :: [])))))) := nr (by kernel_rfl)
@[go_sem] theorem Tryz.pl84_0 : tPlace Tryz.prog 84 0 = (some (0, 1)) := nr (by kernel_rfl)
@[go_sem] theorem Tryz.pl84_1 : tPlace Tryz.prog 84 1 = (some (1, 1)) := nr (by kernel_rfl)
@[go_sem] theorem Tryz.pl84_2 : tPlace Tryz.prog 84 2 = (some (2, 1)) := nr (by kernel_rfl)
@[go_sem] theorem Tryz.pl84_3 : tPlace Tryz.prog 84 3 = (some (3, 1)) := nr (by kernel_rfl)
@[go_sem] theorem Tryz.pl84_4 : tPlace Tryz.prog 84 4 = (some (4, 1)) := nr (by kernel_rfl)
@[go_sem] theorem Tryz.fld84_0 : tFld Tryz.prog 84 0 = (some 0) := nr (by kernel_rfl)
@[go_sem] theorem Tryz.fld84_1 : tFld Tryz.prog 84 1 = (some 1) := nr (by kernel_rfl)
@[go_sem] theorem Tryz.fld84_2 : tFld Tryz.prog 84 2 = (some 2) := nr (by kernel_rfl)
@[go_sem] theorem Tryz.fld84_3 : tFld Tryz.prog 84 3 = (some 3) := nr (by kernel_rfl)
@[go_sem] theorem Tryz.fld84_4 : tFld Tryz.prog 84 4 = (some 4) := nr (by kernel_rfl)
@[go_sem] theorem Tryz.kd85 : tKind Tryz.prog 85 = 7 := nr (by kernel_rfl)
@[go_sem] theorem Tryz.lay85 : tLay Tryz.prog 85 = (some (true, 5)) := nr (by kernel_rfl)
@[go_sem] theorem Tryz.zs85 : tZ Tryz.prog 85 = (some ((.int .i64 0) :: ((.int .i64 0) :: ((.bool false) :: ((.bool false) :: (.nilFunc :: [])))))) := nr (by kernel_rfl)
@[go_sem] theorem Tryz.pl85_0 : tPlace Tryz.prog 85 0 = (some (0, 1)) := nr (by kernel_rfl)
@[go_sem] theorem Tryz.pl85_1 : tPlace Tryz.prog 85 1 = (some (1, 1)) := nr (by kernel_rfl)
@[go_sem] theorem Tryz.pl85_2 : tPlace Tryz.prog 85 2 = (some (2, 1)) := nr (by kernel_rfl)
@[go_sem] theorem Tryz.pl85_3 : tPlace Tryz.prog 85 3 = (some (3, 1)) := nr (by kernel_rfl)
@[go_sem] theorem Tryz.pl85_4 : tPlace Tryz.prog 85 4 = (some (4, 1)) := nr (by kernel_rfl)
@[go_sem] theorem Tryz.fld85_0 : tFld Tryz.prog 85 0 = (some 0) := nr (by kernel_rfl)
@[go_sem] theorem Tryz.fld85_1 : tFld Tryz.prog 85 1 = (some 1) := nr (by kernel_rfl)
@[go_sem] theorem Tryz.fld85_2 : tFld Tryz.prog 85 2 = (some 2) := nr (by kernel_rfl)
@[go_sem] theorem Tryz.fld85_3 : tFld Tryz.prog 85 3 = (some 3) := nr (by kernel_rfl)
@[go_sem] theorem Tryz.fld85_4 : tFld Tryz.prog 85 4 = (some 4) := nr (by kernel_rfl)
@[go_sem] theorem Tryz.kd87 : tKind Tryz.prog 87 = 4 := nr (by kernel_rfl)
@[go_sem] theorem Tryz.lay87 : tLay Tryz.prog 87 = (some (false, 1)) := nr (by kernel_rfl)
@[go_sem] theorem Tryz.zs87 : tZ Tryz.prog 87 = (some (.nilFunc :: [])) := nr (by kernel_rfl)
@[go_sem] theorem Tryz.kd88 : tKind Tryz.prog 88 = 4 := nr (by kernel_rfl)
@[go_sem] theorem Tryz.lay88 : tLay Tryz.prog 88 = (some (false, 1)) := nr (by kernel_rfl)
@[go_sem] theorem Tryz.zs88 : tZ Tryz.prog 88 = (some (.nilFunc :: [])) := nr (by kernel_rfl)
@[go_sem] theorem Tryz.kd89 : tKind Tryz.prog 89 = 6 := nr (by kernel_rfl)
@[go_sem] theorem Tryz.lay89 : tLay Tryz.prog 89 = (some (false, 1)) := nr (by kernel_rfl)
@[go_sem] theorem Tryz.zs89 : tZ Tryz.prog 89 = (some ((.pointer none) :: [])) := nr (by kernel_rfl)
@[go_sem] theorem Tryz.kd90 : tKind Tryz.prog 90 = 4 := nr (by kernel_rfl)
@[go_sem] theorem Tryz.lay90 : tLay Tryz.prog 90 = (some (false, 1)) := nr (by kernel_rfl)
@[go_sem] theorem Tryz.zs90 : tZ Tryz.prog 90 = (some (.nilFunc :: [])) := nr (by kernel_rfl)
@[go_sem] theorem Tryz.kd91 : tKind Tryz.prog 91 = 4 := nr (by kernel_rfl)
@[go_sem] theorem Tryz.lay91 : tLay Tryz.prog 91 = (some (false, 1)) := nr (by kernel_rfl)
@[go_sem] theorem Tryz.zs91 : tZ Tryz.prog 91 = (some (.nilFunc :: [])) := nr (by kernel_rfl)
@[go_sem] theorem Tryz.kd92 : tKind Tryz.prog 92 = 4 := nr (by kernel_rfl)
@[go_sem] theorem Tryz.lay92 : tLay Tryz.prog 92 = (some (false, 1)) := nr (by kernel_rfl)
@[go_sem] theorem Tryz.zs92 : tZ Tryz.prog 92 = (some (.nilFunc :: [])) := nr (by kernel_rfl)
@[go_sem] theorem Tryz.kd93 : tKind Tryz.prog 93 = 4 := nr (by kernel_rfl)
@[go_sem] theorem Tryz.lay93 : tLay Tryz.prog 93 = (some (false, 1)) := nr (by kernel_rfl)
@[go_sem] theorem Tryz.zs93 : tZ Tryz.prog 93 = (some (.nilFunc :: [])) := nr (by kernel_rfl)
@[go_sem] theorem Tryz.kd94 : tKind Tryz.prog 94 = 4 := nr (by kernel_rfl)
@[go_sem] theorem Tryz.lay94 : tLay Tryz.prog 94 = (some (false, 1)) := nr (by kernel_rfl)
@[go_sem] theorem Tryz.zs94 : tZ Tryz.prog 94 = (some (.nilFunc :: [])) := nr (by kernel_rfl)
@[go_sem] theorem Tryz.kd95 : tKind Tryz.prog 95 = 4 := nr (by kernel_rfl)
@[go_sem] theorem Tryz.lay95 : tLay Tryz.prog 95 = (some (false, 1)) := nr (by kernel_rfl)
@[go_sem] theorem Tryz.zs95 : tZ Tryz.prog 95 = (some (.nilFunc :: [])) := nr (by kernel_rfl)
@[go_sem] theorem Tryz.kd96 : tKind Tryz.prog 96 = 4 := nr (by kernel_rfl)
@[go_sem] theorem Tryz.lay96 : tLay Tryz.prog 96 = (some (false, 1)) := nr (by kernel_rfl)
@[go_sem] theorem Tryz.zs96 : tZ Tryz.prog 96 = (some (.nilFunc :: [])) := nr (by kernel_rfl)
@[go_sem] theorem Tryz.kd97 : tKind Tryz.prog 97 = 4 := nr (by kernel_rfl)
@[go_sem] theorem Tryz.lay97 : tLay Tryz.prog 97 = (some (false, 1)) := nr (by kernel_rfl)
@[go_sem] theorem Tryz.zs97 : tZ Tryz.prog 97 = (some (.nilFunc :: [])) := nr (by kernel_rfl)
@[go_sem] theorem Tryz.kd98 : tKind Tryz.prog 98 = 7 := nr (by kernel_rfl)
@[go_sem] theorem Tryz.lay98 : tLay Tryz.prog 98 = (some (true, 12)) := nr (by kernel_rfl)
@[go_sem] theorem Tryz.zs98 : tZ Tryz.prog 98 = (some ((.int .i64 0) :: ((.slice none 0 0) :: ((.slice none 0 0) :: ((.slice none 0 0) :: ((.slice none 0 0) :: ((.int .i64 0) :: ((.slice none 0 0) :: ((.int .i64 0) :: ((.slice none 0 0) :: ((.slice none 0 0) :: ((.slice none 0 0) :: ((.int .i64 0) :: []))))))))))))) := nr (by kernel_rfl)
@[go_sem] theorem Tryz.pl98_0 : tPlace Tryz.prog 98 0 = (some (0, 7)) := nr (by kernel_rfl)
@[go_sem] theorem Tryz.pl98_1 : tPlace Tryz.prog 98 1 = (some (7, 4)) := nr (by kernel_rfl)
@[go_sem] theorem Tryz.pl98_2 : tPlace Tryz.prog 98 2 = (some (11, 1)) := nr (by kernel_rfl)
@[go_sem] theorem Tryz.fld98_0 : tFld Tryz.prog 98 0 = (some 0) := nr (by kernel_rfl)
@[go_sem] theorem Tryz.fld98_1 : tFld Tryz.prog 98 1 = (some 7) := nr (by kernel_rfl)
@[go_sem] theorem Tryz.fld98_2 : tFld Tryz.prog 98 2 = (some 11) := nr (by kernel_rfl)
@[go_sem] theorem Tryz.kd99 : tKind Tryz.prog 99 = 7 := nr (by kernel_rfl)
@[go_sem] theorem Tryz.lay99 : tLay Tryz.prog 99 = (some (true, 12)) := nr (by kernel_rfl)
@[go_sem] theorem Tryz.zs99 : tZ Tryz.prog 99 = (some ((.int .i64 0) :: ((.slice none 0 0) :: ((.slice none 0 0) :: ((.slice none 0 0) :: ((.slice none 0 0) :: ((.int .i64 0) :: ((.slice none 0 0) :: ((.int .i64 0) :: ((.slice none 0 0) :: ((.slice none 0 0) :: ((.slice none 0 0) :: ((.int .i64 0) :: []))))))))))))) := nr (by kernel_rfl)
@[go_sem] theorem Tryz.pl99_0 : tPlace Tryz.prog 99 0 = (some (0, 7)) := nr (by kernel_rfl)
@[go_sem] theorem Tryz.pl99_1 : tPlace Tryz.prog 99 1 = (some (7, 4)) := nr (by kernel_rfl)
@[go_sem] theorem Tryz.pl99_2 : tPlace Tryz.prog 99 2 = (some (11, 1)) := nr (by kernel_rfl)
@[go_sem] theorem Tryz.fld99_0 : tFld Tryz.prog 99 0 = (some 0) := nr (by kernel_rfl)
@[go_sem] theorem Tryz.fld99_1 : tFld Tryz.prog 99 1 = (some 7) := nr (by kernel_rfl)
@[go_sem] theorem Tryz.fld99_2 : tFld Tryz.prog 99 2 = (some 11) := nr (by kernel_rfl)
@[go_sem] theorem Tryz.kd100 : tKind Tryz.prog 100 = 4 := nr (by kernel_rfl)
@[go_sem] theorem Tryz.lay100 : tLay Tryz.prog 100 = (some (false, 1)) := nr (by kernel_rfl)
@[go_sem] theorem Tryz.zs100 : tZ Tryz.prog 100 = (some (.nilFunc :: [])) := nr (by kernel_rfl)
@[go_sem] theorem Tryz.kd101 : tKind Tryz.prog 101 = 7 := nr (by kernel_rfl)
@[go_sem] theorem Tryz.lay101 : tLay Tryz.prog 101 = (some (true, 5)) := nr (by kernel_rfl)
@[go_sem] theorem Tryz.zs101 : tZ Tryz.prog 101 = (some ((.string ByteArray.empty) :: ((.int .i64 0) :: ((.int .i64 0) :: ((.int .i64 0) :: ((.int .i64 0) :: [])))))) := nr (by kernel_rfl)
@[go_sem] theorem Tryz.pl101_0 : tPlace Tryz.prog 101 0 = (some (0, 1)) := nr (by kernel_rfl)
@[go_sem] theorem Tryz.pl101_1 : tPlace Tryz.prog 101 1 = (some (1, 1)) := nr (by kernel_rfl)
@[go_sem] theorem Tryz.pl101_2 : tPlace Tryz.prog 101 2 = (some (2, 1)) := nr (by kernel_rfl)
@[go_sem] theorem Tryz.pl101_3 : tPlace Tryz.prog 101 3 = (some (3, 2)) := nr (by kernel_rfl)
@[go_sem] theorem Tryz.fld101_0 : tFld Tryz.prog 101 0 = (some 0) := nr (by kernel_rfl)
@[go_sem] theorem Tryz.fld101_1 : tFld Tryz.prog 101 1 = (some 1) := nr (by kernel_rfl)
@[go_sem] theorem Tryz.fld101_2 : tFld Tryz.prog 101 2 = (some 2) := nr (by kernel_rfl)
@[go_sem] theorem Tryz.fld101_3 : tFld Tryz.prog 101 3 = (some 3) := nr (by kernel_rfl)
@[go_sem] theorem Tryz.eqs101 : eqShape Tryz.prog 10000 101 = (some (.s :: ((.i .i64) :: ((.i .i64) :: ((.i .i64) :: ((.i .i64) :: [])))))) := nr (by kernel_rfl)
@[go_sem] theorem Tryz.eqg101 : Tryz.prog.eqGuardType Tryz.prog.depth 101 = false := nr (by kernel_rfl)
@[go_sem] theorem Tryz.kd102 : tKind Tryz.prog 102 = 7 := nr (by kernel_rfl)
@[go_sem] theorem Tryz.lay102 : tLay Tryz.prog 102 = (some (true, 5)) := nr (by kernel_rfl)
@[go_sem] theorem Tryz.zs102 : tZ Tryz.prog 102 = (some ((.string ByteArray.empty) :: ((.int .i64 0) :: ((.int .i64 0) :: ((.int .i64 0) :: ((.int .i64 0) :: [])))))) := nr (by kernel_rfl)
@[go_sem] theorem Tryz.pl102_0 : tPlace Tryz.prog 102 0 = (some (0, 1)) := nr (by kernel_rfl)
@[go_sem] theorem Tryz.pl102_1 : tPlace Tryz.prog 102 1 = (some (1, 1)) := nr (by kernel_rfl)
@[go_sem] theorem Tryz.pl102_2 : tPlace Tryz.prog 102 2 = (some (2, 1)) := nr (by kernel_rfl)
@[go_sem] theorem Tryz.pl102_3 : tPlace Tryz.prog 102 3 = (some (3, 2)) := nr (by kernel_rfl)
@[go_sem] theorem Tryz.fld102_0 : tFld Tryz.prog 102 0 = (some 0) := nr (by kernel_rfl)
@[go_sem] theorem Tryz.fld102_1 : tFld Tryz.prog 102 1 = (some 1) := nr (by kernel_rfl)
@[go_sem] theorem Tryz.fld102_2 : tFld Tryz.prog 102 2 = (some 2) := nr (by kernel_rfl)
@[go_sem] theorem Tryz.fld102_3 : tFld Tryz.prog 102 3 = (some 3) := nr (by kernel_rfl)
@[go_sem] theorem Tryz.eqs102 : eqShape Tryz.prog 10000 102 = (some (.s :: ((.i .i64) :: ((.i .i64) :: ((.i .i64) :: ((.i .i64) :: [])))))) := nr (by kernel_rfl)
@[go_sem] theorem Tryz.eqg102 : Tryz.prog.eqGuardType Tryz.prog.depth 102 = false := nr (by kernel_rfl)
@[go_sem] theorem Tryz.kd103 : tKind Tryz.prog 103 = 4 := nr (by kernel_rfl)
@[go_sem] theorem Tryz.lay103 : tLay Tryz.prog 103 = (some (false, 1)) := nr (by kernel_rfl)
@[go_sem] theorem Tryz.zs103 : tZ Tryz.prog 103 = (some (.nilFunc :: [])) := nr (by kernel_rfl)
@[go_sem] theorem Tryz.kd104 : tKind Tryz.prog 104 = 4 := nr (by kernel_rfl)
@[go_sem] theorem Tryz.lay104 : tLay Tryz.prog 104 = (some (false, 1)) := nr (by kernel_rfl)
@[go_sem] theorem Tryz.zs104 : tZ Tryz.prog 104 = (some (.nilFunc :: [])) := nr (by kernel_rfl)
@[go_sem] theorem Tryz.kd105 : tKind Tryz.prog 105 = 6 := nr (by kernel_rfl)
@[go_sem] theorem Tryz.lay105 : tLay Tryz.prog 105 = (some (false, 1)) := nr (by kernel_rfl)
@[go_sem] theorem Tryz.zs105 : tZ Tryz.prog 105 = (some ((.pointer none) :: [])) := nr (by kernel_rfl)
@[go_sem] theorem Tryz.kd106 : tKind Tryz.prog 106 = 4 := nr (by kernel_rfl)
@[go_sem] theorem Tryz.lay106 : tLay Tryz.prog 106 = (some (false, 1)) := nr (by kernel_rfl)
@[go_sem] theorem Tryz.zs106 : tZ Tryz.prog 106 = (some (.nilFunc :: [])) := nr (by kernel_rfl)
@[go_sem] theorem Tryz.kd107 : tKind Tryz.prog 107 = 7 := nr (by kernel_rfl)
@[go_sem] theorem Tryz.lay107 : tLay Tryz.prog 107 = (some (true, 2)) := nr (by kernel_rfl)
@[go_sem] theorem Tryz.zs107 : tZ Tryz.prog 107 = (some ((.int .i64 0) :: ((.int .i64 0) :: []))) := nr (by kernel_rfl)
@[go_sem] theorem Tryz.pl107_0 : tPlace Tryz.prog 107 0 = (some (0, 1)) := nr (by kernel_rfl)
@[go_sem] theorem Tryz.pl107_1 : tPlace Tryz.prog 107 1 = (some (1, 1)) := nr (by kernel_rfl)
@[go_sem] theorem Tryz.fld107_0 : tFld Tryz.prog 107 0 = (some 0) := nr (by kernel_rfl)
@[go_sem] theorem Tryz.fld107_1 : tFld Tryz.prog 107 1 = (some 1) := nr (by kernel_rfl)
@[go_sem] theorem Tryz.eqs107 : eqShape Tryz.prog 10000 107 = (some ((.i .i64) :: ((.i .i64) :: []))) := nr (by kernel_rfl)
@[go_sem] theorem Tryz.eqg107 : Tryz.prog.eqGuardType Tryz.prog.depth 107 = false := nr (by kernel_rfl)
@[go_sem] theorem Tryz.kd108 : tKind Tryz.prog 108 = 7 := nr (by kernel_rfl)
@[go_sem] theorem Tryz.lay108 : tLay Tryz.prog 108 = (some (true, 2)) := nr (by kernel_rfl)
@[go_sem] theorem Tryz.zs108 : tZ Tryz.prog 108 = (some ((.int .i64 0) :: ((.int .i64 0) :: []))) := nr (by kernel_rfl)
@[go_sem] theorem Tryz.pl108_0 : tPlace Tryz.prog 108 0 = (some (0, 1)) := nr (by kernel_rfl)
@[go_sem] theorem Tryz.pl108_1 : tPlace Tryz.prog 108 1 = (some (1, 1)) := nr (by kernel_rfl)
@[go_sem] theorem Tryz.fld108_0 : tFld Tryz.prog 108 0 = (some 0) := nr (by kernel_rfl)
@[go_sem] theorem Tryz.fld108_1 : tFld Tryz.prog 108 1 = (some 1) := nr (by kernel_rfl)
@[go_sem] theorem Tryz.eqs108 : eqShape Tryz.prog 10000 108 = (some ((.i .i64) :: ((.i .i64) :: []))) := nr (by kernel_rfl)
@[go_sem] theorem Tryz.eqg108 : Tryz.prog.eqGuardType Tryz.prog.depth 108 = false := nr (by kernel_rfl)
@[go_sem] theorem Tryz.kd109 : tKind Tryz.prog 109 = 4 := nr (by kernel_rfl)
@[go_sem] theorem Tryz.lay109 : tLay Tryz.prog 109 = (some (false, 1)) := nr (by kernel_rfl)
@[go_sem] theorem Tryz.zs109 : tZ Tryz.prog 109 = (some (.nilFunc :: [])) := nr (by kernel_rfl)
@[go_sem] theorem Tryz.kd110 : tKind Tryz.prog 110 = 4 := nr (by kernel_rfl)
@[go_sem] theorem Tryz.lay110 : tLay Tryz.prog 110 = (some (false, 1)) := nr (by kernel_rfl)
@[go_sem] theorem Tryz.zs110 : tZ Tryz.prog 110 = (some (.nilFunc :: [])) := nr (by kernel_rfl)
@[go_sem] theorem Tryz.kd112 : tKind Tryz.prog 112 = 4 := nr (by kernel_rfl)
@[go_sem] theorem Tryz.lay112 : tLay Tryz.prog 112 = (some (false, 1)) := nr (by kernel_rfl)
@[go_sem] theorem Tryz.zs112 : tZ Tryz.prog 112 = (some (.nilFunc :: [])) := nr (by kernel_rfl)
@[go_sem] theorem Tryz.kd113 : tKind Tryz.prog 113 = 4 := nr (by kernel_rfl)
@[go_sem] theorem Tryz.lay113 : tLay Tryz.prog 113 = (some (false, 1)) := nr (by kernel_rfl)
@[go_sem] theorem Tryz.zs113 : tZ Tryz.prog 113 = (some (.nilFunc :: [])) := nr (by kernel_rfl)
@[go_sem] theorem Tryz.kd114 : tKind Tryz.prog 114 = 3 := nr (by kernel_rfl)
@[go_sem] theorem Tryz.lay114 : tLay Tryz.prog 114 = (some (false, 1)) := nr (by kernel_rfl)
@[go_sem] theorem Tryz.zs114 : tZ Tryz.prog 114 = (some ((.map none) :: [])) := nr (by kernel_rfl)
@[go_sem] theorem Tryz.mp114 : tMap Tryz.prog 114 = (some ((.int .i64), (.agg ⟨((.int .i64 0) :: ((.int .i64 0) :: ((.bool false) :: ((.bool false) :: (.nilFunc :: [])))))⟩))) := nr (by kernel_rfl)
@[go_sem] theorem Tryz.kd115 : tKind Tryz.prog 115 = 4 := nr (by kernel_rfl)
@[go_sem] theorem Tryz.lay115 : tLay Tryz.prog 115 = (some (false, 1)) := nr (by kernel_rfl)
@[go_sem] theorem Tryz.zs115 : tZ Tryz.prog 115 = (some (.nilFunc :: [])) := nr (by kernel_rfl)
@[go_sem] theorem Tryz.kd116 : tKind Tryz.prog 116 = 4 := nr (by kernel_rfl)
@[go_sem] theorem Tryz.lay116 : tLay Tryz.prog 116 = (some (false, 1)) := nr (by kernel_rfl)
@[go_sem] theorem Tryz.zs116 : tZ Tryz.prog 116 = (some (.nilFunc :: [])) := nr (by kernel_rfl)
@[go_sem] theorem Tryz.kd117 : tKind Tryz.prog 117 = 1 := nr (by kernel_rfl)
@[go_sem] theorem Tryz.lay117 : tLay Tryz.prog 117 = (some (false, 1)) := nr (by kernel_rfl)
@[go_sem] theorem Tryz.zs117 : tZ Tryz.prog 117 = (some ((.slice none 0 0) :: [])) := nr (by kernel_rfl)
@[go_sem] theorem Tryz.elm117 : tElem Tryz.prog 117 = (some 23) := nr (by kernel_rfl)
@[go_sem] theorem Tryz.el117 : tEl Tryz.prog 117 = (some ⟨120, 23, 208, ((.int .i64 0) :: ((.int .i64 0) :: ((.int .i64 0) :: ((.int .i64 0) :: ((.slice none 0 0) :: ((.int .i64 0) :: ((.int .i64 0) :: ((.int .i64 0) :: ((.int .i64 0) :: ((.slice none 0 0) :: ((.int .i64 0) :: ((.int .i64 0) :: ((.bool false) :: ((.bool false) :: ((.int .i64 0) :: ((.int .i64 0) :: ((.int .i64 0) :: ((.int .i64 0) :: ((.int .i64 0) :: ((.int .i64 0) :: ((.bool false) :: ((.int .i64 0) :: ((.int .i64 0) :: [])))))))))))))))))))))))⟩) := nr (by kernel_rfl)
@[go_sem] theorem Tryz.kd118 : tKind Tryz.prog 118 = 4 := nr (by kernel_rfl)
@[go_sem] theorem Tryz.lay118 : tLay Tryz.prog 118 = (some (false, 1)) := nr (by kernel_rfl)
@[go_sem] theorem Tryz.zs118 : tZ Tryz.prog 118 = (some (.nilFunc :: [])) := nr (by kernel_rfl)
@[go_sem] theorem Tryz.kd119 : tKind Tryz.prog 119 = 7 := nr (by kernel_rfl)
@[go_sem] theorem Tryz.lay119 : tLay Tryz.prog 119 = (some (true, 23)) := nr (by kernel_rfl)
@[go_sem] theorem Tryz.zs119 : tZ Tryz.prog 119 = (some ((.int .i64 0) :: ((.int .i64 0) :: ((.int .i64 0) :: ((.int .i64 0) :: ((.slice none 0 0) :: ((.int .i64 0) :: ((.int .i64 0) :: ((.int .i64 0) :: ((.int .i64 0) :: ((.slice none 0 0) :: ((.int .i64 0) :: ((.int .i64 0) :: ((.bool false) :: ((.bool false) :: ((.int .i64 0) :: ((.int .i64 0) :: ((.int .i64 0) :: ((.int .i64 0) :: ((.int .i64 0) :: ((.int .i64 0) :: ((.bool false) :: ((.int .i64 0) :: ((.int .i64 0) :: [])))))))))))))))))))))))) := nr (by kernel_rfl)
@[go_sem] theorem Tryz.pl119_0 : tPlace Tryz.prog 119 0 = (some (0, 22)) := nr (by kernel_rfl)
@[go_sem] theorem Tryz.pl119_1 : tPlace Tryz.prog 119 1 = (some (22, 1)) := nr (by kernel_rfl)
@[go_sem] theorem Tryz.fld119_0 : tFld Tryz.prog 119 0 = (some 0) := nr (by kernel_rfl)
@[go_sem] theorem Tryz.fld119_1 : tFld Tryz.prog 119 1 = (some 22) := nr (by kernel_rfl)
@[go_sem] theorem Tryz.kd120 : tKind Tryz.prog 120 = 7 := nr (by kernel_rfl)
@[go_sem] theorem Tryz.lay120 : tLay Tryz.prog 120 = (some (true, 23)) := nr (by kernel_rfl)
@[go_sem] theorem Tryz.zs120 : tZ Tryz.prog 120 = (some ((.int .i64 0) :: ((.int .i64 0) :: ((.int .i64 0) :: ((.int .i64 0) :: ((.slice none 0 0) :: ((.int .i64 0) :: ((.int .i64 0) :: ((.int .i64 0) :: ((.int .i64 0) :: ((.slice none 0 0) :: ((.int .i64 0) :: ((.int .i64 0) :: ((.bool false) :: ((.bool false) :: ((.int .i64 0) :: ((.int .i64 0) :: ((.int .i64 0) :: ((.int .i64 0) :: ((.int .i64 0) :: ((.int .i64 0) :: ((.bool false) :: ((.int .i64 0) :: ((.int .i64 0) :: [])))))))))))))))))))))))) := nr (by kernel_rfl)
@[go_sem] theorem Tryz.pl120_0 : tPlace Tryz.prog 120 0 = (some (0, 22)) := nr (by kernel_rfl)
@[go_sem] theorem Tryz.pl120_1 : tPlace Tryz.prog 120 1 = (some (22, 1)) := nr (by kernel_rfl)
@[go_sem] theorem Tryz.fld120_0 : tFld Tryz.prog 120 0 = (some 0) := nr (by kernel_rfl)
@[go_sem] theorem Tryz.fld120_1 : tFld Tryz.prog 120 1 = (some 22) := nr (by kernel_rfl)
@[go_sem] theorem Tryz.kd121 : tKind Tryz.prog 121 = 4 := nr (by kernel_rfl)
@[go_sem] theorem Tryz.lay121 : tLay Tryz.prog 121 = (some (false, 1)) := nr (by kernel_rfl)
@[go_sem] theorem Tryz.zs121 : tZ Tryz.prog 121 = (some (.nilFunc :: [])) := nr (by kernel_rfl)
@[go_sem] theorem Tryz.kd122 : tKind Tryz.prog 122 = 6 := nr (by kernel_rfl)
@[go_sem] theorem Tryz.lay122 : tLay Tryz.prog 122 = (some (false, 1)) := nr (by kernel_rfl)
@[go_sem] theorem Tryz.zs122 : tZ Tryz.prog 122 = (some ((.pointer none) :: [])) := nr (by kernel_rfl)
@[go_sem] theorem Tryz.kd123 : tKind Tryz.prog 123 = 4 := nr (by kernel_rfl)
@[go_sem] theorem Tryz.lay123 : tLay Tryz.prog 123 = (some (false, 1)) := nr (by kernel_rfl)
@[go_sem] theorem Tryz.zs123 : tZ Tryz.prog 123 = (some (.nilFunc :: [])) := nr (by kernel_rfl)
@[go_sem] theorem Tryz.kd124 : tKind Tryz.prog 124 = 4 := nr (by kernel_rfl)
@[go_sem] theorem Tryz.lay124 : tLay Tryz.prog 124 = (some (false, 1)) := nr (by kernel_rfl)
@[go_sem] theorem Tryz.zs124 : tZ Tryz.prog 124 = (some (.nilFunc :: [])) := nr (by kernel_rfl)
@[go_sem] theorem Tryz.kd125 : tKind Tryz.prog 125 = 4 := nr (by kernel_rfl)
@[go_sem] theorem Tryz.lay125 : tLay Tryz.prog 125 = (some (false, 1)) := nr (by kernel_rfl)
@[go_sem] theorem Tryz.zs125 : tZ Tryz.prog 125 = (some (.nilFunc :: [])) := nr (by kernel_rfl)
@[go_sem] theorem Tryz.kd126 : tKind Tryz.prog 126 = 4 := nr (by kernel_rfl)
@[go_sem] theorem Tryz.lay126 : tLay Tryz.prog 126 = (some (false, 1)) := nr (by kernel_rfl)
@[go_sem] theorem Tryz.zs126 : tZ Tryz.prog 126 = (some (.nilFunc :: [])) := nr (by kernel_rfl)
@[go_sem] theorem Tryz.kd127 : tKind Tryz.prog 127 = 4 := nr (by kernel_rfl)
@[go_sem] theorem Tryz.lay127 : tLay Tryz.prog 127 = (some (false, 1)) := nr (by kernel_rfl)
@[go_sem] theorem Tryz.zs127 : tZ Tryz.prog 127 = (some (.nilFunc :: [])) := nr (by kernel_rfl)
@[go_sem] theorem Tryz.kd128 : tKind Tryz.prog 128 = 4 := nr (by kernel_rfl)
@[go_sem] theorem Tryz.lay128 : tLay Tryz.prog 128 = (some (false, 1)) := nr (by kernel_rfl)
@[go_sem] theorem Tryz.zs128 : tZ Tryz.prog 128 = (some (.nilFunc :: [])) := nr (by kernel_rfl)
@[go_sem] theorem Tryz.kd129 : tKind Tryz.prog 129 = 4 := nr (by kernel_rfl)
@[go_sem] theorem Tryz.lay129 : tLay Tryz.prog 129 = (some (false, 1)) := nr (by kernel_rfl)
@[go_sem] theorem Tryz.zs129 : tZ Tryz.prog 129 = (some (.nilFunc :: [])) := nr (by kernel_rfl)
@[go_sem] theorem Tryz.kd130 : tKind Tryz.prog 130 = 4 := nr (by kernel_rfl)
@[go_sem] theorem Tryz.lay130 : tLay Tryz.prog 130 = (some (false, 1)) := nr (by kernel_rfl)
@[go_sem] theorem Tryz.zs130 : tZ Tryz.prog 130 = (some (.nilFunc :: [])) := nr (by kernel_rfl)
@[go_sem] theorem Tryz.kd131 : tKind Tryz.prog 131 = 4 := nr (by kernel_rfl)
@[go_sem] theorem Tryz.lay131 : tLay Tryz.prog 131 = (some (false, 1)) := nr (by kernel_rfl)
@[go_sem] theorem Tryz.zs131 : tZ Tryz.prog 131 = (some (.nilFunc :: [])) := nr (by kernel_rfl)
@[go_sem] theorem Tryz.kd132 : tKind Tryz.prog 132 = 4 := nr (by kernel_rfl)
@[go_sem] theorem Tryz.lay132 : tLay Tryz.prog 132 = (some (false, 1)) := nr (by kernel_rfl)
@[go_sem] theorem Tryz.zs132 : tZ Tryz.prog 132 = (some (.nilFunc :: [])) := nr (by kernel_rfl)
@[go_sem] theorem Tryz.kd134 : tKind Tryz.prog 134 = 4 := nr (by kernel_rfl)
@[go_sem] theorem Tryz.lay134 : tLay Tryz.prog 134 = (some (false, 1)) := nr (by kernel_rfl)
@[go_sem] theorem Tryz.zs134 : tZ Tryz.prog 134 = (some (.nilFunc :: [])) := nr (by kernel_rfl)
@[go_sem] theorem Tryz.kd135 : tKind Tryz.prog 135 = 4 := nr (by kernel_rfl)
@[go_sem] theorem Tryz.lay135 : tLay Tryz.prog 135 = (some (false, 1)) := nr (by kernel_rfl)
@[go_sem] theorem Tryz.zs135 : tZ Tryz.prog 135 = (some (.nilFunc :: [])) := nr (by kernel_rfl)
@[go_sem] theorem Tryz.kd136 : tKind Tryz.prog 136 = 4 := nr (by kernel_rfl)
@[go_sem] theorem Tryz.lay136 : tLay Tryz.prog 136 = (some (false, 1)) := nr (by kernel_rfl)
@[go_sem] theorem Tryz.zs136 : tZ Tryz.prog 136 = (some (.nilFunc :: [])) := nr (by kernel_rfl)
@[go_sem] theorem Tryz.kd137 : tKind Tryz.prog 137 = 4 := nr (by kernel_rfl)
@[go_sem] theorem Tryz.lay137 : tLay Tryz.prog 137 = (some (false, 1)) := nr (by kernel_rfl)
@[go_sem] theorem Tryz.zs137 : tZ Tryz.prog 137 = (some (.nilFunc :: [])) := nr (by kernel_rfl)
@[go_sem] theorem Tryz.kd138 : tKind Tryz.prog 138 = 7 := nr (by kernel_rfl)
@[go_sem] theorem Tryz.lay138 : tLay Tryz.prog 138 = (some (true, 17)) := nr (by kernel_rfl)
@[go_sem] theorem Tryz.zs138 : tZ Tryz.prog 138 = (some ((.int .i64 0) :: ((.int .i64 0) :: ((.int .i64 0) :: ((.int .i64 0) :: ((.slice none 0 0) :: ((.int .i64 0) :: ((.int .i64 0) :: ((.bool false) :: ((.bool false) :: ((.int .i64 0) :: ((.int .i64 0) :: ((.int .i64 0) :: ((.int .i64 0) :: ((.int .i64 0) :: ((.int .i64 0) :: ((.bool false) :: ((.pointer none) :: [])))))))))))))))))) := nr (by kernel_rfl)
@[go_sem] theorem Tryz.pl138_0 : tPlace Tryz.prog 138 0 = (some (0, 16)) := nr (by kernel_rfl)
@[go_sem] theorem Tryz.pl138_1 : tPlace Tryz.prog 138 1 = (some (16, 1)) := nr (by kernel_rfl)
@[go_sem] theorem Tryz.fld138_0 : tFld Tryz.prog 138 0 = (some 0) := nr (by kernel_rfl)
@[go_sem] theorem Tryz.fld138_1 : tFld Tryz.prog 138 1 = (some 16) := nr (by kernel_rfl)
@[go_sem] theorem Tryz.kd139 : tKind Tryz.prog 139 = 7 := nr (by kernel_rfl)
@[go_sem] theorem Tryz.lay139 : tLay Tryz.prog 139 = (some (true, 17)) := nr (by kernel_rfl)
@[go_sem] theorem Tryz.zs139 : tZ Tryz.prog 139 = (some ((.int .i64 0) :: ((.int .i64 0) :: ((.int .i64 0) :: ((.int .i64 0) :: ((.slice none 0 0) :: ((.int .i64 0) :: ((.int .i64 0) :: ((.bool false) :: ((.bool false) :: ((.int .i64 0) :: ((.int .i64 0) :: ((.int .i64 0) :: ((.int .i64 0) :: ((.int .i64 0) :: ((.int .i64 0) :: ((.bool false) :: ((.pointer none) :: [])))))))))))))))))) := nr (by kernel_rfl)
@[go_sem] theorem Tryz.pl139_0 : tPlace Tryz.prog 139 0 = (some (0, 16)) := nr (by kernel_rfl)
@[go_sem] theorem Tryz.pl139_1 : tPlace Tryz.prog 139 1 = (some (16, 1)) := nr (by kernel_rfl)
@[go_sem] theorem Tryz.fld139_0 : tFld Tryz.prog 139 0 = (some 0) := nr (by kernel_rfl)
@[go_sem] theorem Tryz.fld139_1 : tFld Tryz.prog 139 1 = (some 16) := nr (by kernel_rfl)
@[go_sem] theorem Tryz.kd140 : tKind Tryz.prog 140 = 4 := nr (by kernel_rfl)
@[go_sem] theorem Tryz.lay140 : tLay Tryz.prog 140 = (some (false, 1)) := nr (by kernel_rfl)
@[go_sem] theorem Tryz.zs140 : tZ Tryz.prog 140 = (some (.nilFunc :: [])) := nr (by kernel_rfl)
@[go_sem] theorem Tryz.kd141 : tKind Tryz.prog 141 = 4 := nr (by kernel_rfl)
@[go_sem] theorem Tryz.lay141 : tLay Tryz.prog 141 = (some (false, 1)) := nr (by kernel_rfl)
@[go_sem] theorem Tryz.zs141 : tZ Tryz.prog 141 = (some (.nilFunc :: [])) := nr (by kernel_rfl)
@[go_sem] theorem Tryz.kd142 : tKind Tryz.prog 142 = 4 := nr (by kernel_rfl)
@[go_sem] theorem Tryz.lay142 : tLay Tryz.prog 142 = (some (false, 1)) := nr (by kernel_rfl)
@[go_sem] theorem Tryz.zs142 : tZ Tryz.prog 142 = (some (.nilFunc :: [])) := nr (by kernel_rfl)
@[go_sem] theorem Tryz.kd143 : tKind Tryz.prog 143 = 4 := nr (by kernel_rfl)
@[go_sem] theorem Tryz.lay143 : tLay Tryz.prog 143 = (some (false, 1)) := nr (by kernel_rfl)
@[go_sem] theorem Tryz.zs143 : tZ Tryz.prog 143 = (some (.nilFunc :: [])) := nr (by kernel_rfl)
@[go_sem] theorem Tryz.kd144 : tKind Tryz.prog 144 = 4 := nr (by kernel_rfl)
@[go_sem] theorem Tryz.lay144 : tLay Tryz.prog 144 = (some (false, 1)) := nr (by kernel_rfl)
@[go_sem] theorem Tryz.zs144 : tZ Tryz.prog 144 = (some (.nilFunc :: [])) := nr (by kernel_rfl)
@[go_sem] theorem Tryz.kd145 : tKind Tryz.prog 145 = 4 := nr (by kernel_rfl)
@[go_sem] theorem Tryz.lay145 : tLay Tryz.prog 145 = (some (false, 1)) := nr (by kernel_rfl)
@[go_sem] theorem Tryz.zs145 : tZ Tryz.prog 145 = (some (.nilFunc :: [])) := nr (by kernel_rfl)
@[go_sem] theorem Tryz.kd146 : tKind Tryz.prog 146 = 4 := nr (by kernel_rfl)
@[go_sem] theorem Tryz.lay146 : tLay Tryz.prog 146 = (some (false, 1)) := nr (by kernel_rfl)
@[go_sem] theorem Tryz.zs146 : tZ Tryz.prog 146 = (some (.nilFunc :: [])) := nr (by kernel_rfl)
@[go_sem] theorem Tryz.kd147 : tKind Tryz.prog 147 = 4 := nr (by kernel_rfl)
@[go_sem] theorem Tryz.lay147 : tLay Tryz.prog 147 = (some (false, 1)) := nr (by kernel_rfl)
@[go_sem] theorem Tryz.zs147 : tZ Tryz.prog 147 = (some (.nilFunc :: [])) := nr (by kernel_rfl)
@[go_sem] theorem Tryz.kd148 : tKind Tryz.prog 148 = 4 := nr (by kernel_rfl)
@[go_sem] theorem Tryz.lay148 : tLay Tryz.prog 148 = (some (false, 1)) := nr (by kernel_rfl)
@[go_sem] theorem Tryz.zs148 : tZ Tryz.prog 148 = (some (.nilFunc :: [])) := nr (by kernel_rfl)
@[go_sem] theorem Tryz.kd149 : tKind Tryz.prog 149 = 4 := nr (by kernel_rfl)
@[go_sem] theorem Tryz.lay149 : tLay Tryz.prog 149 = (some (false, 1)) := nr (by kernel_rfl)
@[go_sem] theorem Tryz.zs149 : tZ Tryz.prog 149 = (some (.nilFunc :: [])) := nr (by kernel_rfl)
@[go_sem] theorem Tryz.kd150 : tKind Tryz.prog 150 = 4 := nr (by kernel_rfl)
@[go_sem] theorem Tryz.lay150 : tLay Tryz.prog 150 = (some (false, 1)) := nr (by kernel_rfl)
@[go_sem] theorem Tryz.zs150 : tZ Tryz.prog 150 = (some (.nilFunc :: [])) := nr (by kernel_rfl)
@[go_sem] theorem Tryz.kd151 : tKind Tryz.prog 151 = 9 := nr (by kernel_rfl)
@[go_sem] theorem Tryz.lay151 : tLay Tryz.prog 151 = (some (false, 1)) := nr (by kernel_rfl)
@[go_sem] theorem Tryz.zs151 : tZ Tryz.prog 151 = (some ((.int .u64 0) :: [])) := nr (by kernel_rfl)
@[go_sem] theorem Tryz.int151 : tInt Tryz.prog 151 = (some .u64) := nr (by kernel_rfl)
@[go_sem] theorem Tryz.kd152 : tKind Tryz.prog 152 = 4 := nr (by kernel_rfl)
@[go_sem] theorem Tryz.lay152 : tLay Tryz.prog 152 = (some (false, 1)) := nr (by kernel_rfl)
@[go_sem] theorem Tryz.zs152 : tZ Tryz.prog 152 = (some (.nilFunc :: [])) := nr (by kernel_rfl)
@[go_sem] theorem Tryz.kd153 : tKind Tryz.prog 153 = 4 := nr (by kernel_rfl)
@[go_sem] theorem Tryz.lay153 : tLay Tryz.prog 153 = (some (false, 1)) := nr (by kernel_rfl)
@[go_sem] theorem Tryz.zs153 : tZ Tryz.prog 153 = (some (.nilFunc :: [])) := nr (by kernel_rfl)
@[go_sem] theorem Tryz.kd154 : tKind Tryz.prog 154 = 4 := nr (by kernel_rfl)
@[go_sem] theorem Tryz.lay154 : tLay Tryz.prog 154 = (some (false, 1)) := nr (by kernel_rfl)
@[go_sem] theorem Tryz.zs154 : tZ Tryz.prog 154 = (some (.nilFunc :: [])) := nr (by kernel_rfl)
@[go_sem] theorem Tryz.kd155 : tKind Tryz.prog 155 = 1 := nr (by kernel_rfl)
@[go_sem] theorem Tryz.lay155 : tLay Tryz.prog 155 = (some (false, 1)) := nr (by kernel_rfl)
@[go_sem] theorem Tryz.zs155 : tZ Tryz.prog 155 = (some ((.slice none 0 0) :: [])) := nr (by kernel_rfl)
@[go_sem] theorem Tryz.elm155 : tElem Tryz.prog 155 = (some 1) := nr (by kernel_rfl)
@[go_sem] theorem Tryz.el155 : tEl Tryz.prog 155 = (some ⟨140, 1, 8, (.nilFunc :: [])⟩) := nr (by kernel_rfl)
@[go_sem] theorem Tryz.kd156 : tKind Tryz.prog 156 = 3 := nr (by kernel_rfl)
@[go_sem] theorem Tryz.lay156 : tLay Tryz.prog 156 = (some (false, 1)) := nr (by kernel_rfl)
@[go_sem] theorem Tryz.zs156 : tZ Tryz.prog 156 = (some ((.map none) :: [])) := nr (by kernel_rfl)
@[go_sem] theorem Tryz.mp156 : tMap Tryz.prog 156 = (some (.string, (.bool false))) := nr (by kernel_rfl)
@[go_sem] theorem Tryz.kd157 : tKind Tryz.prog 157 = 1 := nr (by kernel_rfl)
@[go_sem] theorem Tryz.lay157 : tLay Tryz.prog 157 = (some (false, 1)) := nr (by kernel_rfl)
@[go_sem] theorem Tryz.zs157 : tZ Tryz.prog 157 = (some ((.slice none 0 0) :: [])) := nr (by kernel_rfl)
@[go_sem] theorem Tryz.elm157 : tElem Tryz.prog 157 = (some 5) := nr (by kernel_rfl)
@[go_sem] theorem Tryz.el157 : tEl Tryz.prog 157 = (some ⟨102, 5, 48, ((.string ByteArray.empty) :: ((.int .i64 0) :: ((.int .i64 0) :: ((.int .i64 0) :: ((.int .i64 0) :: [])))))⟩) := nr (by kernel_rfl)
@[go_sem] theorem Tryz.kd158 : tKind Tryz.prog 158 = 4 := nr (by kernel_rfl)
@[go_sem] theorem Tryz.lay158 : tLay Tryz.prog 158 = (some (false, 1)) := nr (by kernel_rfl)
@[go_sem] theorem Tryz.zs158 : tZ Tryz.prog 158 = (some (.nilFunc :: [])) := nr (by kernel_rfl)
@[go_sem] theorem Tryz.kd159 : tKind Tryz.prog 159 = 4 := nr (by kernel_rfl)
@[go_sem] theorem Tryz.lay159 : tLay Tryz.prog 159 = (some (false, 1)) := nr (by kernel_rfl)
@[go_sem] theorem Tryz.zs159 : tZ Tryz.prog 159 = (some (.nilFunc :: [])) := nr (by kernel_rfl)
@[go_sem] theorem Tryz.kd160 : tKind Tryz.prog 160 = 4 := nr (by kernel_rfl)
@[go_sem] theorem Tryz.lay160 : tLay Tryz.prog 160 = (some (false, 1)) := nr (by kernel_rfl)
@[go_sem] theorem Tryz.zs160 : tZ Tryz.prog 160 = (some (.nilFunc :: [])) := nr (by kernel_rfl)
@[go_sem] theorem Tryz.kd161 : tKind Tryz.prog 161 = 9 := nr (by kernel_rfl)
@[go_sem] theorem Tryz.lay161 : tLay Tryz.prog 161 = (some (false, 1)) := nr (by kernel_rfl)
@[go_sem] theorem Tryz.zs161 : tZ Tryz.prog 161 = (some ((.int .i64 0) :: [])) := nr (by kernel_rfl)
@[go_sem] theorem Tryz.int161 : tInt Tryz.prog 161 = (some .i64) := nr (by kernel_rfl)
@[go_sem] theorem Tryz.kd163 : tKind Tryz.prog 163 = 4 := nr (by kernel_rfl)
@[go_sem] theorem Tryz.lay163 : tLay Tryz.prog 163 = (some (false, 1)) := nr (by kernel_rfl)
@[go_sem] theorem Tryz.zs163 : tZ Tryz.prog 163 = (some (.nilFunc :: [])) := nr (by kernel_rfl)
@[go_sem] theorem Tryz.kd164 : tKind Tryz.prog 164 = 4 := nr (by kernel_rfl)
@[go_sem] theorem Tryz.lay164 : tLay Tryz.prog 164 = (some (false, 1)) := nr (by kernel_rfl)
@[go_sem] theorem Tryz.zs164 : tZ Tryz.prog 164 = (some (.nilFunc :: [])) := nr (by kernel_rfl)
@[go_sem] theorem Tryz.kd165 : tKind Tryz.prog 165 = 4 := nr (by kernel_rfl)
@[go_sem] theorem Tryz.lay165 : tLay Tryz.prog 165 = (some (false, 1)) := nr (by kernel_rfl)
@[go_sem] theorem Tryz.zs165 : tZ Tryz.prog 165 = (some (.nilFunc :: [])) := nr (by kernel_rfl)
@[go_sem] theorem Tryz.kd166 : tKind Tryz.prog 166 = 4 := nr (by kernel_rfl)
@[go_sem] theorem Tryz.lay166 : tLay Tryz.prog 166 = (some (false, 1)) := nr (by kernel_rfl)
@[go_sem] theorem Tryz.zs166 : tZ Tryz.prog 166 = (some (.nilFunc :: [])) := nr (by kernel_rfl)
@[go_sem] theorem Tryz.kd167 : tKind Tryz.prog 167 = 4 := nr (by kernel_rfl)
@[go_sem] theorem Tryz.lay167 : tLay Tryz.prog 167 = (some (false, 1)) := nr (by kernel_rfl)
@[go_sem] theorem Tryz.zs167 : tZ Tryz.prog 167 = (some (.nilFunc :: [])) := nr (by kernel_rfl)
@[go_sem] theorem Tryz.kd168 : tKind Tryz.prog 168 = 9 := nr (by kernel_rfl)
@[go_sem] theorem Tryz.lay168 : tLay Tryz.prog 168 = (some (false, 1)) := nr (by kernel_rfl)
@[go_sem] theorem Tryz.zs168 : tZ Tryz.prog 168 = (some ((.int .u32 0) :: [])) := nr (by kernel_rfl)
@[go_sem] theorem Tryz.int168 : tInt Tryz.prog 168 = (some .u32) := nr (by kernel_rfl)
@[go_sem] theorem Tryz.kd169 : tKind Tryz.prog 169 = 4 := nr (by kernel_rfl)
@[go_sem] theorem Tryz.lay169 : tLay Tryz.prog 169 = (some (false, 1)) := nr (by kernel_rfl)
@[go_sem] theorem Tryz.zs169 : tZ Tryz.prog 169 = (some (.nilFunc :: [])) := nr (by kernel_rfl)
@[go_sem] theorem Tryz.kd170 : tKind Tryz.prog 170 = 9 := nr (by kernel_rfl)
@[go_sem] theorem Tryz.lay170 : tLay Tryz.prog 170 = (some (false, 1)) := nr (by kernel_rfl)
@[go_sem] theorem Tryz.zs170 : tZ Tryz.prog 170 = (some ((.int .u64 0) :: [])) := nr (by kernel_rfl)
@[go_sem] theorem Tryz.int170 : tInt Tryz.prog 170 = (some .u64) := nr (by kernel_rfl)
@[go_sem] theorem Tryz.kd172 : tKind Tryz.prog 172 = 4 := nr (by kernel_rfl)
@[go_sem] theorem Tryz.lay172 : tLay Tryz.prog 172 = (some (false, 1)) := nr (by kernel_rfl)
@[go_sem] theorem Tryz.zs172 : tZ Tryz.prog 172 = (some (.nilFunc :: [])) := nr (by kernel_rfl)
@[go_sem] theorem Tryz.kd173 : tKind Tryz.prog 173 = 4 := nr (by kernel_rfl)
@[go_sem] theorem Tryz.lay173 : tLay Tryz.prog 173 = (some (false, 1)) := nr (by kernel_rfl)
@[go_sem] theorem Tryz.zs173 : tZ Tryz.prog 173 = (some (.nilFunc :: [])) := nr (by kernel_rfl)
@[go_sem] theorem Tryz.kd174 : tKind Tryz.prog 174 = 4 := nr (by kernel_rfl)
@[go_sem] theorem Tryz.lay174 : tLay Tryz.prog 174 = (some (false, 1)) := nr (by kernel_rfl)
@[go_sem] theorem Tryz.zs174 : tZ Tryz.prog 174 = (some (.nilFunc :: [])) := nr (by kernel_rfl)
@[go_sem] theorem Tryz.kd175 : tKind Tryz.prog 175 = 9 := nr (by kernel_rfl)
@[go_sem] theorem Tryz.lay175 : tLay Tryz.prog 175 = (some (false, 1)) := nr (by kernel_rfl)
@[go_sem] theorem Tryz.zs175 : tZ Tryz.prog 175 = (some ((.int .u64 0) :: [])) := nr (by kernel_rfl)
@[go_sem] theorem Tryz.int175 : tInt Tryz.prog 175 = (some .u64) := nr (by kernel_rfl)
@[go_sem] theorem Tryz.kd176 : tKind Tryz.prog 176 = 4 := nr (by kernel_rfl)
@[go_sem] theorem Tryz.lay176 : tLay Tryz.prog 176 = (some (false, 1)) := nr (by kernel_rfl)
@[go_sem] theorem Tryz.zs176 : tZ Tryz.prog 176 = (some (.nilFunc :: [])) := nr (by kernel_rfl)
@[go_sem] theorem Tryz.kd177 : tKind Tryz.prog 177 = 4 := nr (by kernel_rfl)
@[go_sem] theorem Tryz.lay177 : tLay Tryz.prog 177 = (some (false, 1)) := nr (by kernel_rfl)
@[go_sem] theorem Tryz.zs177 : tZ Tryz.prog 177 = (some (.nilFunc :: [])) := nr (by kernel_rfl)
@[go_sem] theorem Tryz.kd178 : tKind Tryz.prog 178 = 4 := nr (by kernel_rfl)
@[go_sem] theorem Tryz.lay178 : tLay Tryz.prog 178 = (some (false, 1)) := nr (by kernel_rfl)
@[go_sem] theorem Tryz.zs178 : tZ Tryz.prog 178 = (some (.nilFunc :: [])) := nr (by kernel_rfl)
@[go_sem] theorem Tryz.kd179 : tKind Tryz.prog 179 = 6 := nr (by kernel_rfl)
@[go_sem] theorem Tryz.lay179 : tLay Tryz.prog 179 = (some (false, 1)) := nr (by kernel_rfl)
@[go_sem] theorem Tryz.zs179 : tZ Tryz.prog 179 = (some ((.pointer none) :: [])) := nr (by kernel_rfl)
@[go_sem] theorem Tryz.kd180 : tKind Tryz.prog 180 = 4 := nr (by kernel_rfl)
@[go_sem] theorem Tryz.lay180 : tLay Tryz.prog 180 = (some (false, 1)) := nr (by kernel_rfl)
@[go_sem] theorem Tryz.zs180 : tZ Tryz.prog 180 = (some (.nilFunc :: [])) := nr (by kernel_rfl)
@[go_sem] theorem Tryz.kd181 : tKind Tryz.prog 181 = 1 := nr (by kernel_rfl)
@[go_sem] theorem Tryz.lay181 : tLay Tryz.prog 181 = (some (false, 1)) := nr (by kernel_rfl)
@[go_sem] theorem Tryz.zs181 : tZ Tryz.prog 181 = (some ((.slice none 0 0) :: [])) := nr (by kernel_rfl)
@[go_sem] theorem Tryz.elm181 : tElem Tryz.prog 181 = (some 1) := nr (by kernel_rfl)
@[go_sem] theorem Tryz.el181 : tEl Tryz.prog 181 = (some ⟨170, 1, 8, ((.int .u64 0) :: [])⟩) := nr (by kernel_rfl)
@[go_sem] theorem Tryz.kd182 : tKind Tryz.prog 182 = 6 := nr (by kernel_rfl)
@[go_sem] theorem Tryz.lay182 : tLay Tryz.prog 182 = (some (false, 1)) := nr (by kernel_rfl)
@[go_sem] theorem Tryz.zs182 : tZ Tryz.prog 182 = (some ((.pointer none) :: [])) := nr (by kernel_rfl)
@[go_sem] theorem Tryz.kd184 : tKind Tryz.prog 184 = 4 := nr (by kernel_rfl)
@[go_sem] theorem Tryz.lay184 : tLay Tryz.prog 184 = (some (false, 1)) := nr (by kernel_rfl)
@[go_sem] theorem Tryz.zs184 : tZ Tryz.prog 184 = (some (.nilFunc :: [])) := nr (by kernel_rfl)
@[go_sem] theorem Tryz.kd185 : tKind Tryz.prog 185 = 4 := nr (by kernel_rfl)
@[go_sem] theorem Tryz.lay185 : tLay Tryz.prog 185 = (some (false, 1)) := nr (by kernel_rfl)
@[go_sem] theorem Tryz.zs185 : tZ Tryz.prog 185 = (some (.nilFunc :: [])) := nr (by kernel_rfl)
@[go_sem] theorem Tryz.kd186 : tKind Tryz.prog 186 = 7 := nr (by kernel_rfl)
@[go_sem] theorem Tryz.lay186 : tLay Tryz.prog 186 = (some (true, 4)) := nr (by kernel_rfl)
@[go_sem] theorem Tryz.zs186 : tZ Tryz.prog 186 = (some ((.pointer none) :: ((.pointer none) :: ((.pointer none) :: ((.string ByteArray.empty) :: []))))) := nr (by kernel_rfl)
@[go_sem] theorem Tryz.pl186_0 : tPlace Tryz.prog 186 0 = (some (0, 1)) := nr (by kernel_rfl)
@[go_sem] theorem Tryz.pl186_1 : tPlace Tryz.prog 186 1 = (some (1, 1)) := nr (by kernel_rfl)
@[go_sem] theorem Tryz.pl186_2 : tPlace Tryz.prog 186 2 = (some (2, 1)) := nr (by kernel_rfl)
@[go_sem] theorem Tryz.pl186_3 : tPlace Tryz.prog 186 3 = (some (3, 1)) := nr (by kernel_rfl)
@[go_sem] theorem Tryz.fld186_0 : tFld Tryz.prog 186 0 = (some 0) := nr (by kernel_rfl)
@[go_sem] theorem Tryz.fld186_1 : tFld Tryz.prog 186 1 = (some 1) := nr (by kernel_rfl)
@[go_sem] theorem Tryz.fld186_2 : tFld Tryz.prog 186 2 = (some 2) := nr (by kernel_rfl)
@[go_sem] theorem Tryz.fld186_3 : tFld Tryz.prog 186 3 = (some 3) := nr (by kernel_rfl)
@[go_sem] theorem Tryz.kd187 : tKind Tryz.prog 187 = 7 := nr (by kernel_rfl)
@[go_sem] theorem Tryz.lay187 : tLay Tryz.prog 187 = (some (true, 4)) := nr (by kernel_rfl)
@[go_sem] theorem Tryz.zs187 : tZ Tryz.prog 187 = (some ((.pointer none) :: ((.pointer none) :: ((.pointer none) :: ((.string ByteArray.empty) :: []))))) := nr (by kernel_rfl)
@[go_sem] theorem Tryz.pl187_0 : tPlace Tryz.prog 187 0 = (some (0, 1)) := nr (by kernel_rfl)
@[go_sem] theorem Tryz.pl187_1 : tPlace Tryz.prog 187 1 = (some (1, 1)) := nr (by kernel_rfl)
@[go_sem] theorem Tryz.pl187_2 : tPlace Tryz.prog 187 2 = (some (2, 1)) := nr (by kernel_rfl)
@[go_sem] theorem Tryz.pl187_3 : tPlace Tryz.prog 187 3 = (some (3, 1)) := nr (by kernel_rfl)
@[go_sem] theorem Tryz.fld187_0 : tFld Tryz.prog 187 0 = (some 0) := nr (by kernel_rfl)
@[go_sem] theorem Tryz.fld187_1 : tFld Tryz.prog 187 1 = (some 1) := nr (by kernel_rfl)
@[go_sem] theorem Tryz.fld187_2 : tFld Tryz.prog 187 2 = (some 2) := nr (by kernel_rfl)
@[go_sem] theorem Tryz.fld187_3 : tFld Tryz.prog 187 3 = (some 3) := nr (by kernel_rfl)
@[go_sem] theorem Tryz.kd188 : tKind Tryz.prog 188 = 8 := nr (by kernel_rfl)
@[go_sem] theorem Tryz.lay188 : tLay Tryz.prog 188 = (some (true, 0)) := nr (by kernel_rfl)
@[go_sem] theorem Tryz.zs188 : tZ Tryz.prog 188 = (some []) := nr (by kernel_rfl)
@[go_sem] theorem Tryz.elm188 : tElem Tryz.prog 188 = none := nr (by kernel_rfl)
@[go_sem] theorem Tryz.arr188 : tArr Tryz.prog 188 = (some (0, 1)) := nr (by kernel_rfl)
@[go_sem] theorem Tryz.pl188_0 : tPlace Tryz.prog 188 0 = (some (0, 1)) := nr (by kernel_rfl)
@[go_sem] theorem Tryz.pl188_1 : tPlace Tryz.prog 188 1 = (some (1, 1)) := nr (by kernel_rfl)
@[go_sem] theorem Tryz.pl188_2 : tPlace Tryz.prog 188 2 = (some (2, 1)) := nr (by kernel_rfl)
@[go_sem] theorem Tryz.pl188_3 : tPlace Tryz.prog 188 3 = (some (3, 1)) := nr (by kernel_rfl)
@[go_sem] theorem Tryz.pl188_4 : tPlace Tryz.prog 188 4 = (some (4, 1)) := nr (by kernel_rfl)
@[go_sem] theorem Tryz.pl188_5 : tPlace Tryz.prog 188 5 = (some (5, 1)) := nr (by kernel_rfl)
@[go_sem] theorem Tryz.pl188_6 : tPlace Tryz.prog 188 6 = (some (6, 1)) := nr (by kernel_rfl)
@[go_sem] theorem Tryz.pl188_7 : tPlace Tryz.prog 188 7 = (some (7, 1)) := nr (by kernel_rfl)
@[go_sem] theorem Tryz.pl188_8 : tPlace Tryz.prog 188 8 = (some (8, 1)) := nr (by kernel_rfl)
@[go_sem] theorem Tryz.pl188_9 : tPlace Tryz.prog 188 9 = (some (9, 1)) := nr (by kernel_rfl)
@[go_sem] theorem Tryz.pl188_10 : tPlace Tryz.prog 188 10 = (some (10, 1)) := nr (by kernel_rfl)
@[go_sem] theorem Tryz.pl188_11 : tPlace Tryz.prog 188 11 = (some (11, 1)) := nr (by kernel_rfl)
@[go_sem] theorem Tryz.kd189 : tKind Tryz.prog 189 = 7 := nr (by kernel_rfl)
@[go_sem] theorem Tryz.lay189 : tLay Tryz.prog 189 = (some (true, 0)) := nr (by kernel_rfl)
@[go_sem] theorem Tryz.zs189 : tZ Tryz.prog 189 = (some []) := nr (by kernel_rfl)
@[go_sem] theorem Tryz.pl189_0 : tPlace Tryz.prog 189 0 = (some (0, 0)) := nr (by kernel_rfl)
@[go_sem] theorem Tryz.kd190 : tKind Tryz.prog 190 = 7 := nr (by kernel_rfl)
@[go_sem] theorem Tryz.lay190 : tLay Tryz.prog 190 = (some (true, 0)) := nr (by kernel_rfl)
@[go_sem] theorem Tryz.zs190 : tZ Tryz.prog 190 = (some []) := nr (by kernel_rfl)
@[go_sem] theorem Tryz.pl190_0 : tPlace Tryz.prog 190 0 = (some (0, 0)) := nr (by kernel_rfl)
@[go_sem] theorem Tryz.kd191 : tKind Tryz.prog 191 = 4 := nr (by kernel_rfl)
@[go_sem] theorem Tryz.lay191 : tLay Tryz.prog 191 = (some (false, 1)) := nr (by kernel_rfl)
@[go_sem] theorem Tryz.zs191 : tZ Tryz.prog 191 = (some (.nilFunc :: [])) := nr (by kernel_rfl)
@[go_sem] theorem Tryz.kd192 : tKind Tryz.prog 192 = 9 := nr (by kernel_rfl)
@[go_sem] theorem Tryz.lay192 : tLay Tryz.prog 192 = (some (false, 1)) := nr (by kernel_rfl)
@[go_sem] theorem Tryz.zs192 : tZ Tryz.prog 192 = (some ((.int .u8 0) :: [])) := nr (by kernel_rfl)
@[go_sem] theorem Tryz.int192 : tInt Tryz.prog 192 = (some .u8) := nr (by kernel_rfl)
@[go_sem] theorem Tryz.kd193 : tKind Tryz.prog 193 = 9 := nr (by kernel_rfl)
@[go_sem] theorem Tryz.lay193 : tLay Tryz.prog 193 = (some (false, 1)) := nr (by kernel_rfl)
@[go_sem] theorem Tryz.zs193 : tZ Tryz.prog 193 = (some ((.int .u8 0) :: [])) := nr (by kernel_rfl)
@[go_sem] theorem Tryz.int193 : tInt Tryz.prog 193 = (some .u8) := nr (by kernel_rfl)
@[go_sem] theorem Tryz.kd194 : tKind Tryz.prog 194 = 4 := nr (by kernel_rfl)
@[go_sem] theorem Tryz.lay194 : tLay Tryz.prog 194 = (some (false, 1)) := nr (by kernel_rfl)
@[go_sem] theorem Tryz.zs194 : tZ Tryz.prog 194 = (some (.nilFunc :: [])) := nr (by kernel_rfl)
@[go_sem] theorem Tryz.kd195 : tKind Tryz.prog 195 = 6 := nr (by kernel_rfl)
@[go_sem] theorem Tryz.lay195 : tLay Tryz.prog 195 = (some (false, 1)) := nr (by kernel_rfl)
@[go_sem] theorem Tryz.zs195 : tZ Tryz.prog 195 = (some ((.pointer none) :: [])) := nr (by kernel_rfl)
@[go_sem] theorem Tryz.kd196 : tKind Tryz.prog 196 = 9 := nr (by kernel_rfl)
@[go_sem] theorem Tryz.lay196 : tLay Tryz.prog 196 = (some (false, 1)) := nr (by kernel_rfl)
@[go_sem] theorem Tryz.zs196 : tZ Tryz.prog 196 = (some ((.int .i32 0) :: [])) := nr (by kernel_rfl)
@[go_sem] theorem Tryz.int196 : tInt Tryz.prog 196 = (some .i32) := nr (by kernel_rfl)
@[go_sem] theorem Tryz.kd197 : tKind Tryz.prog 197 = 9 := nr (by kernel_rfl)
@[go_sem] theorem Tryz.lay197 : tLay Tryz.prog 197 = (some (false, 1)) := nr (by kernel_rfl)
@[go_sem] theorem Tryz.zs197 : tZ Tryz.prog 197 = (some ((.int .i32 0) :: [])) := nr (by kernel_rfl)
@[go_sem] theorem Tryz.int197 : tInt Tryz.prog 197 = (some .i32) := nr (by kernel_rfl)
@[go_sem] theorem Tryz.kd198 : tKind Tryz.prog 198 = 7 := nr (by kernel_rfl)
@[go_sem] theorem Tryz.lay198 : tLay Tryz.prog 198 = (some (true, 11)) := nr (by kernel_rfl)
@[go_sem] theorem Tryz.zs198 : tZ Tryz.prog 198 = (some ((.int .u64 0) :: ((.int .u64 0) :: ((.int .u32 0) :: ((.int .u8 0) :: ((.int .u8 0) :: ((.int .u8 0) :: ((.int .u8 0) :: (.nilFunc :: ((.pointer none) :: ((.int .i32 0) :: ((.int .i32 0) :: [])))))))))))) := nr (by kernel_rfl)
@[go_sem] theorem Tryz.pl198_0 : tPlace Tryz.prog 198 0 = (some (0, 1)) := nr (by kernel_rfl)
@[go_sem] theorem Tryz.pl198_1 : tPlace Tryz.prog 198 1 = (some (1, 1)) := nr (by kernel_rfl)
@[go_sem] theorem Tryz.pl198_2 : tPlace Tryz.prog 198 2 = (some (2, 1)) := nr (by kernel_rfl)
@[go_sem] theorem Tryz.pl198_3 : tPlace Tryz.prog 198 3 = (some (3, 1)) := nr (by kernel_rfl)
@[go_sem] theorem Tryz.pl198_4 : tPlace Tryz.prog 198 4 = (some (4, 1)) := nr (by kernel_rfl)
@[go_sem] theorem Tryz.pl198_5 : tPlace Tryz.prog 198 5 = (some (5, 1)) := nr (by kernel_rfl)
@[go_sem] theorem Tryz.pl198_6 : tPlace Tryz.prog 198 6 = (some (6, 1)) := nr (by kernel_rfl)
@[go_sem] theorem Tryz.pl198_7 : tPlace Tryz.prog 198 7 = (some (7, 1)) := nr (by kernel_rfl)
@[go_sem] theorem Tryz.pl198_8 : tPlace Tryz.prog 198 8 = (some (8, 1)) := nr (by kernel_rfl)
@[go_sem] theorem Tryz.pl198_9 : tPlace Tryz.prog 198 9 = (some (9, 1)) := nr (by kernel_rfl)
@[go_sem] theorem Tryz.pl198_10 : tPlace Tryz.prog 198 10 = (some (10, 1)) := nr (by kernel_rfl)
@[go_sem] theorem Tryz.fld198_0 : tFld Tryz.prog 198 0 = (some 0) := nr (by kernel_rfl)
@[go_sem] theorem Tryz.fld198_1 : tFld Tryz.prog 198 1 = (some 1) := nr (by kernel_rfl)
@[go_sem] theorem Tryz.fld198_2 : tFld Tryz.prog 198 2 = (some 2) := nr (by kernel_rfl)
@[go_sem] theorem Tryz.fld198_3 : tFld Tryz.prog 198 3 = (some 3) := nr (by kernel_rfl)
@[go_sem] theorem Tryz.fld198_4 : tFld Tryz.prog 198 4 = (some 4) := nr (by kernel_rfl)
@[go_sem] theorem Tryz.fld198_5 : tFld Tryz.prog 198 5 = (some 5) := nr (by kernel_rfl)
@[go_sem] theorem Tryz.fld198_6 : tFld Tryz.prog 198 6 = (some 6) := nr (by kernel_rfl)
@[go_sem] theorem Tryz.fld198_7 : tFld Tryz.prog 198 7 = (some 7) := nr (by kernel_rfl)
@[go_sem] theorem Tryz.fld198_8 : tFld Tryz.prog 198 8 = (some 8) := nr (by kernel_rfl)
@[go_sem] theorem Tryz.fld198_9 : tFld Tryz.prog 198 9 = (some 9) := nr (by kernel_rfl)
@[go_sem] theorem Tryz.fld198_10 : tFld Tryz.prog 198 10 = (some 10) := nr (by kernel_rfl)
@[go_sem] theorem Tryz.kd199 : tKind Tryz.prog 199 = 7 := nr (by kernel_rfl)
@[go_sem] theorem Tryz.lay199 : tLay Tryz.prog 199 = (some (true, 11)) := nr (by kernel_rfl)
@[go_sem] theorem Tryz.zs199 : tZ Tryz.prog 199 = (some ((.int .u64 0) :: ((.int .u64 0) :: ((.int .u32 0) :: ((.int .u8 0) :: ((.int .u8 0) :: ((.int .u8 0) :: ((.int .u8 0) :: (.nilFunc :: ((.pointer none) :: ((.int .i32 0) :: ((.int .i32 0) :: [])))))))))))) := nr (by kernel_rfl)
@[go_sem] theorem Tryz.pl199_0 : tPlace Tryz.prog 199 0 = (some (0, 1)) := nr (by kernel_rfl)
@[go_sem] theorem Tryz.pl199_1 : tPlace Tryz.prog 199 1 = (some (1, 1)) := nr (by kernel_rfl)
@[go_sem] theorem Tryz.pl199_2 : tPlace Tryz.prog 199 2 = (some (2, 1)) := nr (by kernel_rfl)
@[go_sem] theorem Tryz.pl199_3 : tPlace Tryz.prog 199 3 = (some (3, 1)) := nr (by kernel_rfl)
@[go_sem] theorem Tryz.pl199_4 : tPlace Tryz.prog 199 4 = (some (4, 1)) := nr (by kernel_rfl)
@[go_sem] theorem Tryz.pl199_5 : tPlace Tryz.prog 199 5 = (some (5, 1)) := nr (by kernel_rfl)
@[go_sem] theorem Tryz.pl199_6 : tPlace Tryz.prog 199 6 = (some (6, 1)) := nr (by kernel_rfl)
@[go_sem] theorem Tryz.pl199_7 : tPlace Tryz.prog 199 7 = (some (7, 1)) := nr (by kernel_rfl)
@[go_sem] theorem Tryz.pl199_8 : tPlace Tryz.prog 199 8 = (some (8, 1)) := nr (by kernel_rfl)
@[go_sem] theorem Tryz.pl199_9 : tPlace Tryz.prog 199 9 = (some (9, 1)) := nr (by kernel_rfl)
@[go_sem] theorem Tryz.pl199_10 : tPlace Tryz.prog 199 10 = (some (10, 1)) := nr (by kernel_rfl)
@[go_sem] theorem Tryz.fld199_0 : tFld Tryz.prog 199 0 = (some 0) := nr (by kernel_rfl)
@[go_sem] theorem Tryz.fld199_1 : tFld Tryz.prog 199 1 = (some 1) := nr (by kernel_rfl)
@[go_sem] theorem Tryz.fld199_2 : tFld Tryz.prog 199 2 = (some 2) := nr (by kernel_rfl)
@[go_sem] theorem Tryz.fld199_3 : tFld Tryz.prog 199 3 = (some 3) := nr (by kernel_rfl)
@[go_sem] theorem Tryz.fld199_4 : tFld Tryz.prog 199 4 = (some 4) := nr (by kernel_rfl)
@[go_sem] theorem Tryz.fld199_5 : tFld Tryz.prog 199 5 = (some 5) := nr (by kernel_rfl)
@[go_sem] theorem Tryz.fld199_6 : tFld Tryz.prog 199 6 = (some 6) := nr (by kernel_rfl)
@[go_sem] theorem Tryz.fld199_7 : tFld Tryz.prog 199 7 = (some 7) := nr (by kernel_rfl)
@[go_sem] theorem Tryz.fld199_8 : tFld Tryz.prog 199 8 = (some 8) := nr (by kernel_rfl)
@[go_sem] theorem Tryz.fld199_9 : tFld Tryz.prog 199 9 = (some 9) := nr (by kernel_rfl)
@[go_sem] theorem Tryz.fld199_10 : tFld Tryz.prog 199 10 = (some 10) := nr (by kernel_rfl)
@[go_sem] theorem Tryz.kd200 : tKind Tryz.prog 200 = 4 := nr (by kernel_rfl)
@[go_sem] theorem Tryz.lay200 : tLay Tryz.prog 200 = (some (false, 1)) := nr (by kernel_rfl)
@[go_sem] theorem Tryz.zs200 : tZ Tryz.prog 200 = (some (.nilFunc :: [])) := nr (by kernel_rfl)
@[go_sem] theorem Tryz.kd202 : tKind Tryz.prog 202 = 1 := nr (by kernel_rfl)
@[go_sem] theorem Tryz.lay202 : tLay Tryz.prog 202 = (some (false, 1)) := nr (by kernel_rfl)
@[go_sem] theorem Tryz.zs202 : tZ Tryz.prog 202 = (some ((.slice none 0 0) :: [])) := nr (by kernel_rfl)
@[go_sem] theorem Tryz.elm202 : tElem Tryz.prog 202 = (some 3) := nr (by kernel_rfl)
@[go_sem] theorem Tryz.el202 : tEl Tryz.prog 202 = (some ⟨204, 3, 24, ((.int .i64 0) :: ((.int .i64 0) :: ((.int .i64 0) :: [])))⟩) := nr (by kernel_rfl)
@[go_sem] theorem Tryz.kd203 : tKind Tryz.prog 203 = 7 := nr (by kernel_rfl)
@[go_sem] theorem Tryz.lay203 : tLay Tryz.prog 203 = (some (true, 3)) := nr (by kernel_rfl)
@[go_sem] theorem Tryz.zs203 : tZ Tryz.prog 203 = (some ((.int .i64 0) :: ((.int .i64 0) :: ((.int .i64 0) :: [])))) := nr (by kernel_rfl)
@[go_sem] theorem Tryz.pl203_0 : tPlace Tryz.prog 203 0 = (some (0, 1)) := nr (by kernel_rfl)
@[go_sem] theorem Tryz.pl203_1 : tPlace Tryz.prog 203 1 = (some (1, 2)) := nr (by kernel_rfl)
@[go_sem] theorem Tryz.fld203_0 : tFld Tryz.prog 203 0 = (some 0) := nr (by kernel_rfl)
@[go_sem] theorem Tryz.fld203_1 : tFld Tryz.prog 203 1 = (some 1) := nr (by kernel_rfl)
@[go_sem] theorem Tryz.eqs203 : eqShape Tryz.prog 10000 203 = (some ((.i .i64) :: ((.i .i64) :: ((.i .i64) :: [])))) := nr (by kernel_rfl)
@[go_sem] theorem Tryz.eqg203 : Tryz.prog.eqGuardType Tryz.prog.depth 203 = false := nr (by kernel_rfl)
@[go_sem] theorem Tryz.kd204 : tKind Tryz.prog 204 = 7 := nr (by kernel_rfl)
@[go_sem] theorem Tryz.lay204 : tLay Tryz.prog 204 = (some (true, 3)) := nr (by kernel_rfl)
@[go_sem] theorem Tryz.zs204 : tZ Tryz.prog 204 = (some ((.int .i64 0) :: ((.int .i64 0) :: ((.int .i64 0) :: [])))) := nr (by kernel_rfl)
@[go_sem] theorem Tryz.pl204_0 : tPlace Tryz.prog 204 0 = (some (0, 1)) := nr (by kernel_rfl)
@[go_sem] theorem Tryz.pl204_1 : tPlace Tryz.prog 204 1 = (some (1, 2)) := nr (by kernel_rfl)
@[go_sem] theorem Tryz.fld204_0 : tFld Tryz.prog 204 0 = (some 0) := nr (by kernel_rfl)
@[go_sem] theorem Tryz.fld204_1 : tFld Tryz.prog 204 1 = (some 1) := nr (by kernel_rfl)
@[go_sem] theorem Tryz.eqs204 : eqShape Tryz.prog 10000 204 = (some ((.i .i64) :: ((.i .i64) :: ((.i .i64) :: [])))) := nr (by kernel_rfl)
@[go_sem] theorem Tryz.eqg204 : Tryz.prog.eqGuardType Tryz.prog.depth 204 = false := nr (by kernel_rfl)
@[go_sem] theorem Tryz.cb2 : callable Tryz.prog 2 = true := nr (by kernel_rfl)
@[go_sem] theorem Tryz.cb3 : callable Tryz.prog 3 = true := nr (by kernel_rfl)
@[go_sem] theorem Tryz.cb4 : callable Tryz.prog 4 = true := nr (by kernel_rfl)
@[go_sem] theorem Tryz.cb5 : callable Tryz.prog 5 = true := nr (by kernel_rfl)
@[go_sem] theorem Tryz.cb6 : callable Tryz.prog 6 = true := nr (by kernel_rfl)
@[go_sem] theorem Tryz.cb7 : callable Tryz.prog 7 = true := nr (by kernel_rfl)
@[go_sem] theorem Tryz.cb8 : callable Tryz.prog 8 = true := nr (by kernel_rfl)
@[go_sem] theorem Tryz.cb9 : callable Tryz.prog 9 = true := nr (by kernel_rfl)
@[go_sem] theorem Tryz.cb10 : callable Tryz.prog 10 = true := nr (by kernel_rfl)
@[go_sem] theorem Tryz.cb11 : callable Tryz.prog 11 = true := nr (by kernel_rfl)
@[go_sem] theorem Tryz.cb12 : callable Tryz.prog 12 = true := nr (by kernel_rfl)
@[go_sem] theorem Tryz.cb13 : callable Tryz.prog 13 = true := nr (by kernel_rfl)
@[go_sem] theorem Tryz.cb14 : callable Tryz.prog 14 = true := nr (by kernel_rfl)
@[go_sem] theorem Tryz.cb15 : callable Tryz.prog 15 = true := nr (by kernel_rfl)
@[go_sem] theorem Tryz.cb16 : callable Tryz.prog 16 = true := nr (by kernel_rfl)
@[go_sem] theorem Tryz.cb17 : callable Tryz.prog 17 = true := nr (by kernel_rfl)
@[go_sem] theorem Tryz.cb18 : callable Tryz.prog 18 = true := nr (by kernel_rfl)
@[go_sem] theorem Tryz.cb19 : callable Tryz.prog 19 = true := nr (by kernel_rfl)
@[go_sem] theorem Tryz.cb20 : callable Tryz.prog 20 = true := nr (by kernel_rfl)
@[go_sem] theorem Tryz.cb21 : callable Tryz.prog 21 = true := nr (by kernel_rfl)
@[go_sem] theorem Tryz.cb22 : callable Tryz.prog 22 = true := nr (by kernel_rfl)
@[go_sem] theorem Tryz.cb23 : callable Tryz.prog 23 = true := nr (by kernel_rfl)
@[go_sem] theorem Tryz.cb24 : callable Tryz.prog 24 = true := nr (by kernel_rfl)
@[go_sem] theorem Tryz.cb25 : callable Tryz.prog 25 = true := nr (by kernel_rfl)
@[go_sem] theorem Tryz.cb26 : callable Tryz.prog 26 = true := nr (by kernel_rfl)
@[go_sem] theorem Tryz.cb27 : callable Tryz.prog 27 = true := nr (by kernel_rfl)
@[go_sem] theorem Tryz.cb28 : callable Tryz.prog 28 = true := nr (by kernel_rfl)
@[go_sem] theorem Tryz.cb29 : callable Tryz.prog 29 = true := nr (by kernel_rfl)
@[go_sem] theorem Tryz.cb30 : callable Tryz.prog 30 = true := nr (by kernel_rfl)
@[go_sem] theorem Tryz.cb31 : callable Tryz.prog 31 = true := nr (by kernel_rfl)
@[go_sem] theorem Tryz.cb32 : callable Tryz.prog 32 = true := nr (by kernel_rfl)
@[go_sem] theorem Tryz.cb33 : callable Tryz.prog 33 = true := nr (by kernel_rfl)
@[go_sem] theorem Tryz.cb34 : callable Tryz.prog 34 = true := nr (by kernel_rfl)
@[go_sem] theorem Tryz.cb35 : callable Tryz.prog 35 = true := nr (by kernel_rfl)
@[go_sem] theorem Tryz.cb36 : callable Tryz.prog 36 = true := nr (by kernel_rfl)
@[go_sem] theorem Tryz.cb37 : callable Tryz.prog 37 = true := nr (by kernel_rfl)
@[go_sem] theorem Tryz.cb38 : callable Tryz.prog 38 = true := nr (by kernel_rfl)
@[go_sem] theorem Tryz.cb39 : callable Tryz.prog 39 = true := nr (by kernel_rfl)
@[go_sem] theorem Tryz.cb40 : callable Tryz.prog 40 = true := nr (by kernel_rfl)
@[go_sem] theorem Tryz.cb41 : callable Tryz.prog 41 = true := nr (by kernel_rfl)
@[go_sem] theorem Tryz.cb42 : callable Tryz.prog 42 = true := nr (by kernel_rfl)
@[go_sem] theorem Tryz.cb43 : callable Tryz.prog 43 = true := nr (by kernel_rfl)
@[go_sem] theorem Tryz.cb44 : callable Tryz.prog 44 = true := nr (by kernel_rfl)
@[go_sem] theorem Tryz.cb45 : callable Tryz.prog 45 = true := nr (by kernel_rfl)
@[go_sem] theorem Tryz.cb46 : callable Tryz.prog 46 = true := nr (by kernel_rfl)
@[go_sem] theorem Tryz.cb47 : callable Tryz.prog 47 = true := nr (by kernel_rfl)
@[go_sem] theorem Tryz.cb48 : callable Tryz.prog 48 = true := nr (by kernel_rfl)
@[go_sem] theorem Tryz.cb49 : callable Tryz.prog 49 = true := nr (by kernel_rfl)
@[go_sem] theorem Tryz.cb50 : callable Tryz.prog 50 = true := nr (by kernel_rfl)
@[go_sem] theorem Tryz.cb51 : callable Tryz.prog 51 = true := nr (by kernel_rfl)
@[go_sem] theorem Tryz.cb52 : callable Tryz.prog 52 = true := nr (by kernel_rfl)
@[go_sem] theorem Tryz.cb53 : callable Tryz.prog 53 = true := nr (by kernel_rfl)
@[go_sem] theorem Tryz.cb54 : callable Tryz.prog 54 = true := nr (by kernel_rfl)
@[go_sem] theorem Tryz.cb55 : callable Tryz.prog 55 = true := nr (by kernel_rfl)
@[go_sem] theorem Tryz.cb56 : callable Tryz.prog 56 = true := nr (by kernel_rfl)
@[go_sem] theorem Tryz.cb57 : callable Tryz.prog 57 = true := nr (by kernel_rfl)
@[go_sem] theorem Tryz.cb58 : callable Tryz.prog 58 = true := nr (by kernel_rfl)
@[go_sem] theorem Tryz.cb59 : callable Tryz.prog 59 = true := nr (by kernel_rfl)
@[go_sem] theorem Tryz.cb60 : callable Tryz.prog 60 = true := nr (by kernel_rfl)
@[go_sem] theorem Tryz.cb61 : callable Tryz.prog 61 = true := nr (by kernel_rfl)
@[go_sem] theorem Tryz.cb62 : callable Tryz.prog 62 = true := nr (by kernel_rfl)
@[go_sem] theorem Tryz.cb63 : callable Tryz.prog 63 = true := nr (by kernel_rfl)
@[go_sem] theorem Tryz.cb64 : callable Tryz.prog 64 = true := nr (by kernel_rfl)
@[go_sem] theorem Tryz.cb65 : callable Tryz.prog 65 = true := nr (by kernel_rfl)
@[go_sem] theorem Tryz.cb66 : callable Tryz.prog 66 = true := nr (by kernel_rfl)
@[go_sem] theorem Tryz.cb67 : callable Tryz.prog 67 = true := nr (by kernel_rfl)
@[go_sem] theorem Tryz.cb68 : callable Tryz.prog 68 = true := nr (by kernel_rfl)
@[go_sem] theorem Tryz.cb69 : callable Tryz.prog 69 = true := nr (by kernel_rfl)
@[go_sem] theorem Tryz.cb70 : callable Tryz.prog 70 = true := nr (by kernel_rfl)
@[go_sem] theorem Tryz.cb71 : callable Tryz.prog 71 = true := nr (by kernel_rfl)
@[go_sem] theorem Tryz.cb72 : callable Tryz.prog 72 = true := nr (by kernel_rfl)
@[go_sem] theorem Tryz.cb73 : callable Tryz.prog 73 = true := nr (by kernel_rfl)
@[go_sem] theorem Tryz.cb74 : callable Tryz.prog 74 = true := nr (by kernel_rfl)
@[go_sem] theorem Tryz.cb75 : callable Tryz.prog 75 = true := nr (by kernel_rfl)
@[go_sem] theorem Tryz.cb76 : callable Tryz.prog 76 = true := nr (by kernel_rfl)
@[go_sem] theorem Tryz.cb77 : callable Tryz.prog 77 = true := nr (by kernel_rfl)
@[go_sem] theorem Tryz.cb78 : callable Tryz.prog 78 = true := nr (by kernel_rfl)
@[go_sem] theorem Tryz.cb79 : callable Tryz.prog 79 = true := nr (by kernel_rfl)
@[go_sem] theorem Tryz.cb80 : callable Tryz.prog 80 = true := nr (by kernel_rfl)
@[go_sem] theorem Tryz.cb81 : callable Tryz.prog 81 = true := nr (by kernel_rfl)
@[go_sem] theorem Tryz.cb82 : callable Tryz.prog 82 = true := nr (by kernel_rfl)
@[go_sem] theorem Tryz.cb83 : callable Tryz.prog 83 = true := nr (by kernel_rfl)
@[go_sem] theorem Tryz.cb84 : callable Tryz.prog 84 = true := nr (by kernel_rfl)
@[go_sem] theorem Tryz.cb85 : callable Tryz.prog 85 = true := nr (by kernel_rfl)
@[go_sem] theorem Tryz.cb86 : callable Tryz.prog 86 = true := nr (by kernel_rfl)
@[go_sem] theorem Tryz.cb87 : callable Tryz.prog 87 = true := nr (by kernel_rfl)
@[go_sem] theorem Tryz.cb88 : callable Tryz.prog 88 = true := nr (by kernel_rfl)
@[go_sem] theorem Tryz.cb89 : callable Tryz.prog 89 = true := nr (by kernel_rfl)
@[go_sem] theorem Tryz.cb90 : callable Tryz.prog 90 = true := nr (by kernel_rfl)
@[go_sem] theorem Tryz.cb91 : callable Tryz.prog 91 = true := nr (by kernel_rfl)
@[go_sem] theorem Tryz.cb92 : callable Tryz.prog 92 = true := nr (by kernel_rfl)
@[go_sem] theorem Tryz.cb93 : callable Tryz.prog 93 = true := nr (by kernel_rfl)
@[go_sem] theorem Tryz.cb94 : callable Tryz.prog 94 = true := nr (by kernel_rfl)
@[go_sem] theorem Tryz.cb95 : callable Tryz.prog 95 = true := nr (by kernel_rfl)
@[go_sem] theorem Tryz.cb96 : callable Tryz.prog 96 = true := nr (by kernel_rfl)
@[go_sem] theorem Tryz.cb97 : callable Tryz.prog 97 = true := nr (by kernel_rfl)
@[go_sem] theorem Tryz.cb98 : callable Tryz.prog 98 = true := nr (by kernel_rfl)
@[go_sem] theorem Tryz.cb99 : callable Tryz.prog 99 = true := nr (by kernel_rfl)
@[go_sem] theorem Tryz.cb100 : callable Tryz.prog 100 = true := nr (by kernel_rfl)
@[go_sem] theorem Tryz.cb101 : callable Tryz.prog 101 = true := nr (by kernel_rfl)
@[go_sem] theorem Tryz.cb102 : callable Tryz.prog 102 = true := nr (by kernel_rfl)
@[go_sem] theorem Tryz.cb103 : callable Tryz.prog 103 = true := nr (by kernel_rfl)
@[go_sem] theorem Tryz.cb104 : callable Tryz.prog 104 = true := nr (by kernel_rfl)
@[go_sem] theorem Tryz.cb105 : callable Tryz.prog 105 = true := nr (by kernel_rfl)
@[go_sem] theorem Tryz.cb106 : callable Tryz.prog 106 = true := nr (by kernel_rfl)
@[go_sem] theorem Tryz.cb107 : callable Tryz.prog 107 = true := nr (by kernel_rfl)
@[go_sem] theorem Tryz.cb108 : callable Tryz.prog 108 = true := nr (by kernel_rfl)
@[go_sem] theorem Tryz.cb109 : callable Tryz.prog 109 = true := nr (by kernel_rfl)
@[go_sem] theorem Tryz.cb110 : callable Tryz.prog 110 = true := nr (by kernel_rfl)
@[go_sem] theorem Tryz.cb111 : callable Tryz.prog 111 = true := nr (by kernel_rfl)
@[go_sem] theorem Tryz.cb112 : callable Tryz.prog 112 = true := nr (by kernel_rfl)
@[go_sem] theorem Tryz.cb113 : callable Tryz.prog 113 = true := nr (by kernel_rfl)
@[go_sem] theorem Tryz.cb114 : callable Tryz.prog 114 = true := nr (by kernel_rfl)
@[go_sem] theorem Tryz.cb115 : callable Tryz.prog 115 = true := nr (by kernel_rfl)
@[go_sem] theorem Tryz.cb116 : callable Tryz.prog 116 = true := nr (by kernel_rfl)
@[go_sem] theorem Tryz.cb117 : callable Tryz.prog 117 = true := nr (by kernel_rfl)
@[go_sem] theorem Tryz.cb118 : callable Tryz.prog 118 = true := nr (by kernel_rfl)
@[go_sem] theorem Tryz.cb119 : callable Tryz.prog 119 = true := nr (by kernel_rfl)
@[go_sem] theorem Tryz.cb120 : callable Tryz.prog 120 = true := nr (by kernel_rfl)
@[go_sem] theorem Tryz.cb121 : callable Tryz.prog 121 = true := nr (by kernel_rfl)
@[go_sem] theorem Tryz.cb122 : callable Tryz.prog 122 = true := nr (by kernel_rfl)
@[go_sem] theorem Tryz.cb123 : callable Tryz.prog 123 = true := nr (by kernel_rfl)
@[go_sem] theorem Tryz.cb124 : callable Tryz.prog 124 = true := nr (by kernel_rfl)
@[go_sem] theorem Tryz.cb125 : callable Tryz.prog 125 = true := nr (by kernel_rfl)
@[go_sem] theorem Tryz.cb126 : callable Tryz.prog 126 = true := nr (by kernel_rfl)
@[go_sem] theorem Tryz.cb127 : callable Tryz.prog 127 = true := nr (by kernel_rfl)
@[go_sem] theorem Tryz.cb149 : callable Tryz.prog 149 = true := nr (by kernel_rfl)
end Go.Proofs
end
section
/-
  How the program's data read as abstract values, part 2: marks that can be changed.
-/
namespace Go.Abs
open Go
def clcD (x : Es.Clause) (p : D) : D := .agg [.v (.int .i64 x.kind), .v (.int .i64 x.role), .v (.int .i64 x.act), .v (.int .i64 x.need), slD 2 condC x.start, .v (.int .i64 x.after), .v (.int .i64 x.grace), .v (.bool x.business), .v (.bool x.final), .v (.int .i64 x.pause), .v (.int .i64 x.resume), .v (.int .i64 x.value.num), .v (.int .i64 x.value.den), .v (.int .i64 x.unit), .v (.int .i64 x.to), .v (.bool x.waived), p]
@[go_sem] theorem clcD_fold (x : Es.Clause) (p : D) : D.agg [.v (.int .i64 x.kind), .v (.int .i64 x.role), .v (.int .i64 x.act), .v (.int .i64 x.need), slD 2 condC x.start, .v (.int .i64 x.after), .v (.int .i64 x.grace), .v (.bool x.business), .v (.bool x.final), .v (.int .i64 x.pause), .v (.int .i64 x.resume), .v (.int .i64 x.value.num), .v (.int .i64 x.value.den), .v (.int .i64 x.unit), .v (.int .i64 x.to), .v (.bool x.waived), p] = clcD x p := nr rfl
@[go_sem] theorem clcD_cells (x : Es.Clause) (p : D) : (clcD x p).cells? = some [.v (.int .i64 x.kind), .v (.int .i64 x.role), .v (.int .i64 x.act), .v (.int .i64 x.need), slD 2 condC x.start, .v (.int .i64 x.after), .v (.int .i64 x.grace), .v (.bool x.business), .v (.bool x.final), .v (.int .i64 x.pause), .v (.int .i64 x.resume), .v (.int .i64 x.value.num), .v (.int .i64 x.value.den), .v (.int .i64 x.unit), .v (.int .i64 x.to), .v (.bool x.waived), p] := nr rfl
@[go_sem] theorem rowsOf_row {α : Type} [Inhabited α] (f : α → Nat → D) (l : List α) (r : Nat) : rowsOf f l r = f (Es.at_ l (r : Int)) := nr rfl
theorem setC_mrk {ms : List Es.Mark} {r j : Nat} (hr : r < ms.length) {d : D} {m : Es.Mark} (h : ∀ c, mrkC m c = if c = j then d else mrkC (Es.at_ ms (r : Int)) c) : setC (rowsOf mrkC ms) r j [d] = rowsOf mrkC (ms.set r m) := by
  funext r' c'
  simp only [setC, rowsOf, List.length_cons, List.length_nil]
  by_cases hrr : r' = r
  · subst hrr
    simp only [List.getD_eq_getElem?_getD, List.getElem?_set, hr, if_true, Option.getD_some, true_and]
    rw [h]
    by_cases hc : c' = j
    · subst hc; rw [if_pos (by omega), if_pos rfl]; simp
    · rw [if_neg (by omega), if_neg hc]; simp [Es.at_, List.getD]
  · rw [if_neg (by omega)]
    simp only [List.getD_eq_getElem?_getD, List.getElem?_set, if_neg (Ne.symm hrr)]
theorem setC_mrk0 {ms : List Es.Mark} {r : Nat} (hr : r < ms.length) (v : Int) : setC (rowsOf mrkC ms) r 0 [.v (.int .i64 v)] = rowsOf mrkC (ms.set r { Es.at_ ms (r : Int) with status := v }) :=
  setC_mrk hr (fun c => by rcases c with _ | _ | _ | _ | _ | c <;> rfl)
theorem setC_mrk1 {ms : List Es.Mark} {r : Nat} (hr : r < ms.length) (v : Int) : setC (rowsOf mrkC ms) r 1 [.v (.int .i64 v)] = rowsOf mrkC (ms.set r { Es.at_ ms (r : Int) with left := v }) :=
  setC_mrk hr (fun c => by rcases c with _ | _ | _ | _ | _ | c <;> rfl)
theorem setC_mrk2 {ms : List Es.Mark} {r : Nat} (hr : r < ms.length) (v : Int) : setC (rowsOf mrkC ms) r 2 [.v (.int .i64 v)] = rowsOf mrkC (ms.set r { Es.at_ ms (r : Int) with got := v }) :=
  setC_mrk hr (fun c => by rcases c with _ | _ | _ | _ | _ | c <;> rfl)
theorem setC_mrk3 {ms : List Es.Mark} {r : Nat} (hr : r < ms.length) (v : Int) : setC (rowsOf mrkC ms) r 3 [.v (.int .i64 v)] = rowsOf mrkC (ms.set r { Es.at_ ms (r : Int) with bearer := v }) :=
  setC_mrk hr (fun c => by rcases c with _ | _ | _ | _ | _ | c <;> rfl)
theorem setC_mrk4 {ms : List Es.Mark} {r : Nat} (hr : r < ms.length) (v : Bool) : setC (rowsOf mrkC ms) r 4 [.v (.bool v)] = rowsOf mrkC (ms.set r { Es.at_ ms (r : Int) with paused := v }) :=
  setC_mrk hr (fun c => by rcases c with _ | _ | _ | _ | _ | c <;> rfl)
theorem at_set {α : Type} [Inhabited α] {l : List α} {r : Nat} (hr : r < l.length) (m : α) : Es.at_ (l.set r m) (r : Int) = m := by simp [Es.at_, List.getD, hr]
end Go.Abs
end
section
/-
  What the program's functions compute, part 2.
-/
namespace Es
/-! ### contract, the whole -/
def offOk (days : Int) : Int → List Int → Bool
  | _, [] => true
  | last, d :: l => if decide (d ≤ last) || decide (days ≤ d) then false else offOk days d l
def frame (c : Contract) : Bool :=
  if !(qValid c.units).2 || decide (c.parties < 1) || decide (c.days < 1) || (len c.holders == 0) then false
  else if !c.holders.all (fun p => under p c.parties) then false
  else if !c.acts.all (act c) then false
  else offOk c.days (-1) c.off
/-- An error, and the clause that has it. -/
def valid2 (c : Contract) : Int × Int :=
  if decide (12 < c.parties) || decide (2000 < c.days) || decide (12 < len c.holders) || decide (20 < len c.units) || decide (60 < len c.acts) || decide (400 < len c.clauses) then (3, -1)
  else if !frame c then (1, -1)
  else match (List.range c.clauses.length).find? (fun i : Nat => !clauseOk c (i : Int)) with
    | some i => (1, i)
    | .none => (0, -1)
/-- Lists that are no longer than a machine counts. -/
structure Fits (c : Contract) : Prop where
  holders : c.holders.length ≤ 9223372036854775807
  units : c.units.length ≤ 9223372036854775807
  acts : c.acts.length ≤ 9223372036854775807
  clauses : c.clauses.length ≤ 9223372036854775807
  off : c.off.length ≤ 9223372036854775807
end Es
end
section
/-
  What the program's functions compute, part 3: slices, and the states of a contract.
-/
namespace Es
/-- The place of the first element that has a property; -1: none has. -/
def index {α : Type} (p : α → Bool) (l : List α) : Int :=
  match l.findIdx? p with
  | some i => (i : Int)
  | .none => -1
theorem index_some {α : Type} [Inhabited α] {p : α → Bool} {l : List α} {k : Nat} (hk : k < l.length) (h : p (at_ l (k : Int)) = true) (hall : ∀ j : Nat, j < k → p (at_ l (j : Int)) = false) : index p l = k := by
  unfold index
  have : l.findIdx? p = some k := by
    rw [List.findIdx?_eq_some_iff_getElem]
    refine ⟨hk, by rw [← at_nat hk]; exact h, fun j hj => ?_⟩
    have := hall j hj
    rw [at_nat (Nat.lt_trans hj hk)] at this
    simp [this]
  rw [this]
theorem index_none {α : Type} [Inhabited α] {p : α → Bool} {l : List α} (hall : ∀ j : Nat, j < l.length → p (at_ l (j : Int)) = false) : index p l = -1 := by
  unfold index
  have : l.findIdx? p = .none := by
    rw [List.findIdx?_eq_none_iff]
    intro x hx
    obtain ⟨j, hj, rfl⟩ := List.mem_iff_getElem.1 hx
    rw [← at_nat hj]; exact hall j hj
  rw [this]
theorem index_ge {α : Type} (p : α → Bool) (l : List α) : decide (0 ≤ index p l) = l.any p := by
  unfold index
  cases h : l.findIdx? p with
  | none =>
    rw [List.findIdx?_eq_none_iff] at h
    have : l.any p = false := by rw [List.any_eq_false]; intro x hx; simp [h x hx]
    rw [this]; rfl
  | some i =>
    have : l.any p = true := by
      rw [List.any_eq_true]
      obtain ⟨hi, h1, _⟩ := List.findIdx?_eq_some_iff_getElem.1 h
      exact ⟨_, List.getElem_mem hi, h1⟩
    rw [this]
    simp

/-! ### system -/
/-- A condition of a clause that does not hold. -/
def fails (s : State) (x : Cond) : Bool :=
  let st := (at_ s.marks x.clause).status
  if x.is == 2 then st != 3 else if x.is == 3 then st != 4 else if x.is == 4 then st != 5 else st == 0
def ready (c : Contract) (s : State) (i : Int) : Bool :=
  ((at_ s.marks i).status == 0) && !(at_ c.clauses i).waived && !(at_ c.clauses i).start.any (fails s)
end Es
end
section
/-
  What the program's functions compute, part 4: states.
-/
namespace Es
def allN (n : Nat) (p : Nat → Bool) : Bool := (List.range n).all p
theorem allN_bad {n k : Nat} {p : Nat → Bool} (hk : k < n) (h : p k = false) : allN n p = false := by
  unfold allN; rw [List.all_eq_false]; exact ⟨k, by simpa using hk, by simp [h]⟩
theorem allN_end {n k : Nat} {p : Nat → Bool} (hk : n ≤ k) (h : ∀ j, j < k → p j = true) : allN n p = true := by
  unfold allN; rw [List.all_eq_true]; intro j hj; exact h j (Nat.lt_of_lt_of_le (List.mem_range.1 hj) hk)
theorem allN_iff {n : Nat} {p : Nat → Bool} : allN n p = true ↔ ∀ j, j < n → p j = true := by
  unfold allN; rw [List.all_eq_true]; simp
theorem upto_step {k : Nat} {p : Nat → Bool} (h : ∀ j, j < k → p j = true) (hk : p k = true) : ∀ j, j < k + 1 → p j = true := by
  intro j hj
  rcases Nat.lt_or_ge j k with hh | hh
  · exact h j hh
  · have : j = k := by omega
    rw [this]; exact hk
theorem mark_beq (a b : Mark) : (a == b) = (a.status == b.status && (a.left == b.left && (a.got == b.got && (a.bearer == b.bearer && a.paused == b.paused)))) := by
  cases a; cases b; rw [Bool.eq_iff_iff]; simp
def party (c : Contract) (p : Int) : Bool := decide (0 ≤ p) && decide (p < c.parties)
def wellFormed (c : Contract) (x : Clause) (m : Mark) : Bool :=
  if m.status == 3 || m.status == 4 || m.status == 5 then
    (m.left == 0) && !m.paused && decide (0 ≤ m.got) && decide (m.got ≤ 9) && (party c m.bearer || m.bearer == -1)
  else if m.status == 0 then !x.waived && (m == ⟨0, 0, 0, -1, false⟩)
  else if m.status == 1 || m.status == 2 then
    !x.waived && (if x.kind == 1 then decide (0 ≤ m.got) && decide (m.got < x.need) else m.got == 0) && decide (1 ≤ m.left) &&
      decide (m.left ≤ (if m.status == 2 then x.grace else x.after)) && (!m.paused || decide (0 ≤ x.pause)) && ((x.kind == 4 && m.bearer == -1) || (x.kind != 4 && party c m.bearer))
  else false
def sValid (c : Contract) (s : State) : Bool :=
  if !((valid2 c).1 == 0) || decide (s.day < 0) || decide (c.days < s.day) || (len s.holders != len c.holders) || (len s.used != len c.acts) || (len s.marks != len c.clauses) then false
  else if s.holders.any (fun p => decide (p < 0) || decide (c.parties ≤ p)) then false
  else if !allN s.used.length (fun i => !(at_ s.used (i : Int) && (at_ c.acts (i : Int)).kind == 1)) then false
  else if !allN s.marks.length (fun i => wellFormed c (at_ c.clauses (i : Int)) (at_ s.marks (i : Int))) then false
  else allN s.marks.length (fun i => !ready c s (i : Int))
structure SFits (s : State) : Prop where
  holders : s.holders.length ≤ 9223372036854775807
  used : s.used.length ≤ 9223372036854775807
  marks : s.marks.length ≤ 9223372036854775807
theorem valid2_clause {c : Contract} (h : ((valid2 c).1 == 0) = true) {j : Nat} (hj : j < c.clauses.length) : clauseOk c j = true := by
  unfold valid2 at h
  split at h
  · simp at h
  · split at h
    · simp at h
    · split at h
      · simp at h
      · rename_i hn
        rw [List.find?_eq_none] at hn
        have := hn j (List.mem_range.2 hj)
        simpa using this
theorem clauseB_start {c : Contract} {i : Int} {x : Clause} {d p f : Bool} {n g : Int} (h : clauseB c i x d n g p f = true) : len x.start ≤ 8 ∧ ∀ y ∈ x.start, condOk c i y = true := by
  unfold clauseB at h
  split at h
  · cases h
  · rename_i h1
    split at h
    · cases h
    · rename_i h2
      simp only [Bool.or_eq_true, not_or, Bool.not_eq_true, decide_eq_false_iff_not] at h1
      refine ⟨by omega, ?_⟩
      have : x.start.all (condOk c i) = true := by simpa using h2
      exact List.all_eq_true.1 this
theorem clauseOk_start {c : Contract} {i : Int} (h : clauseOk c i = true) : len (at_ c.clauses i).start ≤ 8 ∧ ∀ y ∈ (at_ c.clauses i).start, condOk c i y = true := by
  unfold clauseOk at h
  simp only at h
  split at h
  · exact clauseB_start h
  · split at h
    · exact clauseB_start h
    · split at h
      · exact clauseB_start h
      · split at h
        · exact clauseB_start h
        · cases h
end Es
end
section
/-
  Patches and amendments, and what the functions of patch and version compute, as plain functions.
-/
namespace Es
structure Patch where
  kind : Int
  clauses : List Int
  new : Clause
  days : Int
instance : Inhabited Patch := ⟨⟨0, [], default, 0⟩⟩
structure Amend where
  number : Int
  day : Int
  known : Int
  patch : Patch
instance : Inhabited Amend := ⟨⟨0, 0, 0, default⟩⟩
def zeroClause (x : Clause) : Bool :=
  x.start.isEmpty && x.kind == 0 && x.role == 0 && x.act == 0 && x.need == 0 && x.after == 0 && x.grace == 0 && !x.business && !x.final && x.pause == 0 && x.resume == 0 && x.value.num == 0 && x.value.den == 0 && x.unit == 0 && x.to == 0 && !x.waived
/-- The clauses of a patch: in order, and clauses of the contract. -/
def inOrdB (n : Int) (l : List Int) (k : Nat) : Bool := decide (0 ≤ at_ l (k : Int)) && decide (at_ l (k : Int) < n) && (decide (k = 0) || decide (at_ l ((k : Int) - 1) < at_ l (k : Int)))
def inOrder (n : Int) (l : List Int) : Bool := allN l.length (inOrdB n l)
def leastOf (k : Int) : Int := if k == 1 then 0 else 1
def mostOf (k : Int) : Int := if k == 1 then 0 else if k == 2 || k == 3 then 1 else 400
def formed (c : Contract) (p : Patch) : Bool :=
  if !(decide (1 ≤ p.kind) && decide (p.kind ≤ 5)) || decide (len p.clauses < leastOf p.kind) || decide (mostOf p.kind < len p.clauses) || (!(p.kind == 1 || p.kind == 2) && !zeroClause p.new) then false
  else if !inOrder (len c.clauses) p.clauses then false
  else if p.kind == 5 then decide (1 ≤ p.days) && decide (p.days ≤ 400) else p.days == 0
/-- What a patch does to a clause that it names. -/
def change (p : Patch) (x : Clause) : Clause := if p.kind == 2 then p.new else if p.kind == 5 then { x with after := p.days } else { x with waived := true }
def changeAt (p : Patch) (l : List Clause) (i : Int) : List Clause := l.set i.toNat (change p (at_ l i))
def changedL (p : Patch) (l : List Clause) : List Clause := p.clauses.foldl (changeAt p) (if p.kind == 1 then l ++ [p.new] else l)
def changed (c : Contract) (p : Patch) : Contract := { c with clauses := changedL p c.clauses }
def zeroCon : Contract := ⟨0, [], [], [], [], 0, []⟩
def applyP (c : Contract) (p : Patch) : Contract × Int :=
  if !formed c p || !((valid2 c).1 == 0) then (zeroCon, 1)
  else if p.kind == 1 && len c.clauses == 400 then (zeroCon, 3)
  else if !((valid2 (changed c p)).1 == 0) then (zeroCon, 1) else (changed c p, 0)
/-! ### version -/
/-- An amendment comes before another one, or with it. -/
def leA (a b : Amend) : Bool := decide (a.day < b.day) || (a.day == b.day && decide (a.number ≤ b.number))
/-- The same with the index as last key. -/
def leP (a b : Amend × Nat) : Bool := decide (a.1.day < b.1.day) || (a.1.day == b.1.day && (decide (a.1.number < b.1.number) || (a.1.number == b.1.number && decide (a.2 ≤ b.2))))
def ins {α : Type} (le : α → α → Bool) (x : α) : List α → List α
  | [] => [x]
  | y :: l => if le x y then x :: y :: l else y :: ins le x l
def isort {α : Type} (le : α → α → Bool) : List α → List α
  | [] => []
  | x :: l => ins le x (isort le l)
def sortedP (l : List Amend) : List (Amend × Nat) := isort leP l.zipIdx
def sortedA (l : List Amend) : List Amend := isort leA l
def orderA (l : List Amend) : List Int := (sortedP l).map fun x => (x.2 : Int)
/-- The contract after each amendment that is known and can be applied, in the order. -/
def versionsA (known : Int) : List Amend → Contract → List (Amend × Contract)
  | [], _ => []
  | x :: l, c => if decide (known < x.known) || !((applyP c x.patch).2 == 0) then versionsA known l c else (x, (applyP c x.patch).1) :: versionsA known l (applyP c x.patch).1
def checkA (c : Contract) (l : List Amend) : Int := if !((valid2 c).1 == 0) then 1 else if decide (60 < len l) then 3 else 0
def lastC (c : Contract) (v : List (Amend × Contract)) : Contract := (v.getLast?.map (·.2)).getD c
def uptoDay (day : Int) (v : List (Amend × Contract)) : List (Amend × Contract) := v.takeWhile fun x => decide (x.1.day ≤ day)
def inForce (c : Contract) (l : List Amend) (day known : Int) : Contract × List Int × Int :=
  if checkA c l != 0 then (zeroCon, [], checkA c l)
  else (lastC c (uptoDay day (versionsA known (sortedA l) c)), (uptoDay day (versionsA known (sortedA l) c)).map (·.1.number), 0)
/-- The contract at the end of each day with amendments: one version more. -/
def pushE (acc : List (Int × Contract)) (x : Amend × Contract) : List (Int × Contract) :=
  match acc.getLast? with
  | .none => [(x.1.day, x.2)]
  | some y => if decide (y.1 < x.1.day) then acc ++ [(x.1.day, x.2)] else acc.dropLast ++ [(y.1, x.2)]
def endsA (v : List (Amend × Contract)) : List (Int × Contract) := v.foldl pushE []
def eqL {α : Type} [Inhabited α] (f : α → α → Bool) (l m : List α) : Bool := len l == len m && allN l.length fun i => f (at_ l (i : Int)) (at_ m (i : Int))
def eqCond (x y : Cond) : Bool := x.clause == y.clause && x.is == y.is
/-- Clauses without their conditions. -/
def eqPlain (x y : Clause) : Bool :=
  x.kind == y.kind && x.role == y.role && x.act == y.act && x.need == y.need && x.after == y.after && x.grace == y.grace && x.business == y.business && x.final == y.final && x.pause == y.pause && x.resume == y.resume && x.value == y.value && x.unit == y.unit && x.to == y.to && x.waived == y.waived
def eqClause (x y : Clause) : Bool := eqL eqCond x.start y.start && eqPlain x y
def eqUnt (x y : Unt) : Bool := x.name == y.name && x.kind == y.kind && x.base == y.base && x.factor == y.factor
def eqAct (x y : ActT) : Bool := x.kind == y.kind && x.role == y.role && x.give == y.give && x.to == y.to && x.unit == y.unit && x.lot == y.lot
def sameC (a b : Contract) : Bool :=
  a.parties == b.parties && a.days == b.days && a.holders == b.holders && a.off == b.off && eqL eqUnt a.units b.units && eqL eqAct a.acts b.acts && eqL eqClause a.clauses b.clauses
/-- The days on which another contract comes into force. -/
def turnsA : Contract → List (Int × Contract) → List Int
  | _, [] => []
  | last, y :: l => if eqL eqClause y.2.clauses last.clauses then turnsA y.2 l else y.1 :: turnsA y.2 l
def daysA (c : Contract) (l : List Amend) (known : Int) : List Int × Int :=
  if checkA c l != 0 then ([], checkA c l) else (turnsA c (endsA (versionsA known (sortedA l) c)), 0)
end Es
end
section
/-
  How patches and amendments read as abstract values.
-/
namespace Go.Abs
open Go
def patC (x : Es.Patch) : Nat → D
  | 0 => .v (.int .i64 x.kind)
  | 1 => slD 1 intC x.clauses
  | 2 => .v (.int .i64 x.new.kind)
  | 3 => .v (.int .i64 x.new.role)
  | 4 => .v (.int .i64 x.new.act)
  | 5 => .v (.int .i64 x.new.need)
  | 6 => slD 2 condC x.new.start
  | 7 => .v (.int .i64 x.new.after)
  | 8 => .v (.int .i64 x.new.grace)
  | 9 => .v (.bool x.new.business)
  | 10 => .v (.bool x.new.final)
  | 11 => .v (.int .i64 x.new.pause)
  | 12 => .v (.int .i64 x.new.resume)
  | 13 => .v (.int .i64 x.new.value.num)
  | 14 => .v (.int .i64 x.new.value.den)
  | 15 => .v (.int .i64 x.new.unit)
  | 16 => .v (.int .i64 x.new.to)
  | 17 => .v (.bool x.new.waived)
  | 18 => .v (.int .i64 x.days)
  | _ => .any
@[go_sem] theorem patC_0 (x : Es.Patch) : patC x 0 = .v (.int .i64 x.kind) := nr rfl
@[go_sem] theorem patC_1 (x : Es.Patch) : patC x 1 = slD 1 intC x.clauses := nr rfl
@[go_sem] theorem patC_2 (x : Es.Patch) : patC x 2 = .v (.int .i64 x.new.kind) := nr rfl
@[go_sem] theorem patC_3 (x : Es.Patch) : patC x 3 = .v (.int .i64 x.new.role) := nr rfl
@[go_sem] theorem patC_4 (x : Es.Patch) : patC x 4 = .v (.int .i64 x.new.act) := nr rfl
@[go_sem] theorem patC_5 (x : Es.Patch) : patC x 5 = .v (.int .i64 x.new.need) := nr rfl
@[go_sem] theorem patC_6 (x : Es.Patch) : patC x 6 = slD 2 condC x.new.start := nr rfl
@[go_sem] theorem patC_7 (x : Es.Patch) : patC x 7 = .v (.int .i64 x.new.after) := nr rfl
@[go_sem] theorem patC_8 (x : Es.Patch) : patC x 8 = .v (.int .i64 x.new.grace) := nr rfl
@[go_sem] theorem patC_9 (x : Es.Patch) : patC x 9 = .v (.bool x.new.business) := nr rfl
@[go_sem] theorem patC_10 (x : Es.Patch) : patC x 10 = .v (.bool x.new.final) := nr rfl
@[go_sem] theorem patC_11 (x : Es.Patch) : patC x 11 = .v (.int .i64 x.new.pause) := nr rfl
@[go_sem] theorem patC_12 (x : Es.Patch) : patC x 12 = .v (.int .i64 x.new.resume) := nr rfl
@[go_sem] theorem patC_13 (x : Es.Patch) : patC x 13 = .v (.int .i64 x.new.value.num) := nr rfl
@[go_sem] theorem patC_14 (x : Es.Patch) : patC x 14 = .v (.int .i64 x.new.value.den) := nr rfl
@[go_sem] theorem patC_15 (x : Es.Patch) : patC x 15 = .v (.int .i64 x.new.unit) := nr rfl
@[go_sem] theorem patC_16 (x : Es.Patch) : patC x 16 = .v (.int .i64 x.new.to) := nr rfl
@[go_sem] theorem patC_17 (x : Es.Patch) : patC x 17 = .v (.bool x.new.waived) := nr rfl
@[go_sem] theorem patC_18 (x : Es.Patch) : patC x 18 = .v (.int .i64 x.days) := nr rfl
def patD (x : Es.Patch) : D := .agg [.v (.int .i64 x.kind), slD 1 intC x.clauses, .v (.int .i64 x.new.kind), .v (.int .i64 x.new.role), .v (.int .i64 x.new.act), .v (.int .i64 x.new.need), slD 2 condC x.new.start, .v (.int .i64 x.new.after), .v (.int .i64 x.new.grace), .v (.bool x.new.business), .v (.bool x.new.final), .v (.int .i64 x.new.pause), .v (.int .i64 x.new.resume), .v (.int .i64 x.new.value.num), .v (.int .i64 x.new.value.den), .v (.int .i64 x.new.unit), .v (.int .i64 x.new.to), .v (.bool x.new.waived), .v (.int .i64 x.days)]
theorem patD_eq (x : Es.Patch) : patD x = .agg [.v (.int .i64 x.kind), slD 1 intC x.clauses, .v (.int .i64 x.new.kind), .v (.int .i64 x.new.role), .v (.int .i64 x.new.act), .v (.int .i64 x.new.need), slD 2 condC x.new.start, .v (.int .i64 x.new.after), .v (.int .i64 x.new.grace), .v (.bool x.new.business), .v (.bool x.new.final), .v (.int .i64 x.new.pause), .v (.int .i64 x.new.resume), .v (.int .i64 x.new.value.num), .v (.int .i64 x.new.value.den), .v (.int .i64 x.new.unit), .v (.int .i64 x.new.to), .v (.bool x.new.waived), .v (.int .i64 x.days)] := nr rfl
@[go_sem] theorem patD_fold (x : Es.Patch) : D.agg [.v (.int .i64 x.kind), slD 1 intC x.clauses, .v (.int .i64 x.new.kind), .v (.int .i64 x.new.role), .v (.int .i64 x.new.act), .v (.int .i64 x.new.need), slD 2 condC x.new.start, .v (.int .i64 x.new.after), .v (.int .i64 x.new.grace), .v (.bool x.new.business), .v (.bool x.new.final), .v (.int .i64 x.new.pause), .v (.int .i64 x.new.resume), .v (.int .i64 x.new.value.num), .v (.int .i64 x.new.value.den), .v (.int .i64 x.new.unit), .v (.int .i64 x.new.to), .v (.bool x.new.waived), .v (.int .i64 x.days)] = patD x := nr rfl
@[go_sem] theorem patD_cells (x : Es.Patch) : (patD x).cells? = some [.v (.int .i64 x.kind), slD 1 intC x.clauses, .v (.int .i64 x.new.kind), .v (.int .i64 x.new.role), .v (.int .i64 x.new.act), .v (.int .i64 x.new.need), slD 2 condC x.new.start, .v (.int .i64 x.new.after), .v (.int .i64 x.new.grace), .v (.bool x.new.business), .v (.bool x.new.final), .v (.int .i64 x.new.pause), .v (.int .i64 x.new.resume), .v (.int .i64 x.new.value.num), .v (.int .i64 x.new.value.den), .v (.int .i64 x.new.unit), .v (.int .i64 x.new.to), .v (.bool x.new.waived), .v (.int .i64 x.days)] := nr rfl
@[go_sem] theorem patD_load (x : Es.Patch) : mkv true 19 (offRow (patC x) 0) = patD x := nr rfl
@[go_sem] theorem patD_off (x : Es.Patch) : mkv true 19 (patC x) = patD x := nr rfl
@[go_sem] theorem patD_p2_cls (x : Es.Patch) : mkv true 16 (offRow (patC x) 2) = clsD x.new := nr rfl
@[go_sem] theorem patD_p13_rat (x : Es.Patch) : mkv true 2 (offRow (patC x) 13) = ratD x.new.value := nr rfl
theorem pu_patC (x : Es.Patch) (j : Nat) : Pu (patC x j) := by
  unfold patC; split <;> first
    | exact .v _
    | exact .any
    | exact pu_slD pu_condC _
    | exact pu_slD pu_intC _
theorem pu_patD (x : Es.Patch) : Pu (patD x) := Pu_agg ⟨.v _, pu_slD pu_intC _, .v _, .v _, .v _, .v _, pu_slD pu_condC _, .v _, .v _, .v _, .v _, .v _, .v _, .v _, .v _, .v _, .v _, .v _, .v _, trivial⟩
theorem fz_pat {s : S} {f i n : Nat} {ty : TypeId} {x : Es.Patch} (ho : s.o f i = some (.blk 19 n ty (rowOf [.v (.int .i64 x.kind), slD 1 intC x.clauses, .v (.int .i64 x.new.kind), .v (.int .i64 x.new.role), .v (.int .i64 x.new.act), .v (.int .i64 x.new.need), slD 2 condC x.new.start, .v (.int .i64 x.new.after), .v (.int .i64 x.new.grace), .v (.bool x.new.business), .v (.bool x.new.final), .v (.int .i64 x.new.pause), .v (.int .i64 x.new.resume), .v (.int .i64 x.new.value.num), .v (.int .i64 x.new.value.den), .v (.int .i64 x.new.unit), .v (.int .i64 x.new.to), .v (.bool x.new.waived), .v (.int .i64 x.days)]))) (hn : 0 < n) : Fz s (.mp f i 19 0 0) (.rp 19 (patC x) 0) :=
  fz_box ho hn fun j hj => ⟨by
    have : j = 0 ∨ j = 1 ∨ j = 2 ∨ j = 3 ∨ j = 4 ∨ j = 5 ∨ j = 6 ∨ j = 7 ∨ j = 8 ∨ j = 9 ∨ j = 10 ∨ j = 11 ∨ j = 12 ∨ j = 13 ∨ j = 14 ∨ j = 15 ∨ j = 16 ∨ j = 17 ∨ j = 18 := by omega
    rcases this with rfl | rfl | rfl | rfl | rfl | rfl | rfl | rfl | rfl | rfl | rfl | rfl | rfl | rfl | rfl | rfl | rfl | rfl | rfl <;> rfl, pu_patC x j⟩
def amdC (x : Es.Amend) : Nat → D
  | 0 => .v (.int .i64 x.number)
  | 1 => .v (.int .i64 x.day)
  | 2 => .v (.int .i64 x.known)
  | 3 => .v (.int .i64 x.patch.kind)
  | 4 => slD 1 intC x.patch.clauses
  | 5 => .v (.int .i64 x.patch.new.kind)
  | 6 => .v (.int .i64 x.patch.new.role)
  | 7 => .v (.int .i64 x.patch.new.act)
  | 8 => .v (.int .i64 x.patch.new.need)
  | 9 => slD 2 condC x.patch.new.start
  | 10 => .v (.int .i64 x.patch.new.after)
  | 11 => .v (.int .i64 x.patch.new.grace)
  | 12 => .v (.bool x.patch.new.business)
  | 13 => .v (.bool x.patch.new.final)
  | 14 => .v (.int .i64 x.patch.new.pause)
  | 15 => .v (.int .i64 x.patch.new.resume)
  | 16 => .v (.int .i64 x.patch.new.value.num)
  | 17 => .v (.int .i64 x.patch.new.value.den)
  | 18 => .v (.int .i64 x.patch.new.unit)
  | 19 => .v (.int .i64 x.patch.new.to)
  | 20 => .v (.bool x.patch.new.waived)
  | 21 => .v (.int .i64 x.patch.days)
  | _ => .any
@[go_sem] theorem amdC_0 (x : Es.Amend) : amdC x 0 = .v (.int .i64 x.number) := nr rfl
@[go_sem] theorem amdC_1 (x : Es.Amend) : amdC x 1 = .v (.int .i64 x.day) := nr rfl
@[go_sem] theorem amdC_2 (x : Es.Amend) : amdC x 2 = .v (.int .i64 x.known) := nr rfl
@[go_sem] theorem amdC_3 (x : Es.Amend) : amdC x 3 = .v (.int .i64 x.patch.kind) := nr rfl
@[go_sem] theorem amdC_4 (x : Es.Amend) : amdC x 4 = slD 1 intC x.patch.clauses := nr rfl
@[go_sem] theorem amdC_5 (x : Es.Amend) : amdC x 5 = .v (.int .i64 x.patch.new.kind) := nr rfl
@[go_sem] theorem amdC_6 (x : Es.Amend) : amdC x 6 = .v (.int .i64 x.patch.new.role) := nr rfl
@[go_sem] theorem amdC_7 (x : Es.Amend) : amdC x 7 = .v (.int .i64 x.patch.new.act) := nr rfl
@[go_sem] theorem amdC_8 (x : Es.Amend) : amdC x 8 = .v (.int .i64 x.patch.new.need) := nr rfl
@[go_sem] theorem amdC_9 (x : Es.Amend) : amdC x 9 = slD 2 condC x.patch.new.start := nr rfl
@[go_sem] theorem amdC_10 (x : Es.Amend) : amdC x 10 = .v (.int .i64 x.patch.new.after) := nr rfl
@[go_sem] theorem amdC_11 (x : Es.Amend) : amdC x 11 = .v (.int .i64 x.patch.new.grace) := nr rfl
@[go_sem] theorem amdC_12 (x : Es.Amend) : amdC x 12 = .v (.bool x.patch.new.business) := nr rfl
@[go_sem] theorem amdC_13 (x : Es.Amend) : amdC x 13 = .v (.bool x.patch.new.final) := nr rfl
@[go_sem] theorem amdC_14 (x : Es.Amend) : amdC x 14 = .v (.int .i64 x.patch.new.pause) := nr rfl
@[go_sem] theorem amdC_15 (x : Es.Amend) : amdC x 15 = .v (.int .i64 x.patch.new.resume) := nr rfl
@[go_sem] theorem amdC_16 (x : Es.Amend) : amdC x 16 = .v (.int .i64 x.patch.new.value.num) := nr rfl
@[go_sem] theorem amdC_17 (x : Es.Amend) : amdC x 17 = .v (.int .i64 x.patch.new.value.den) := nr rfl
@[go_sem] theorem amdC_18 (x : Es.Amend) : amdC x 18 = .v (.int .i64 x.patch.new.unit) := nr rfl
@[go_sem] theorem amdC_19 (x : Es.Amend) : amdC x 19 = .v (.int .i64 x.patch.new.to) := nr rfl
@[go_sem] theorem amdC_20 (x : Es.Amend) : amdC x 20 = .v (.bool x.patch.new.waived) := nr rfl
@[go_sem] theorem amdC_21 (x : Es.Amend) : amdC x 21 = .v (.int .i64 x.patch.days) := nr rfl
def amdD (x : Es.Amend) : D := .agg [.v (.int .i64 x.number), .v (.int .i64 x.day), .v (.int .i64 x.known), .v (.int .i64 x.patch.kind), slD 1 intC x.patch.clauses, .v (.int .i64 x.patch.new.kind), .v (.int .i64 x.patch.new.role), .v (.int .i64 x.patch.new.act), .v (.int .i64 x.patch.new.need), slD 2 condC x.patch.new.start, .v (.int .i64 x.patch.new.after), .v (.int .i64 x.patch.new.grace), .v (.bool x.patch.new.business), .v (.bool x.patch.new.final), .v (.int .i64 x.patch.new.pause), .v (.int .i64 x.patch.new.resume), .v (.int .i64 x.patch.new.value.num), .v (.int .i64 x.patch.new.value.den), .v (.int .i64 x.patch.new.unit), .v (.int .i64 x.patch.new.to), .v (.bool x.patch.new.waived), .v (.int .i64 x.patch.days)]
theorem amdD_eq (x : Es.Amend) : amdD x = .agg [.v (.int .i64 x.number), .v (.int .i64 x.day), .v (.int .i64 x.known), .v (.int .i64 x.patch.kind), slD 1 intC x.patch.clauses, .v (.int .i64 x.patch.new.kind), .v (.int .i64 x.patch.new.role), .v (.int .i64 x.patch.new.act), .v (.int .i64 x.patch.new.need), slD 2 condC x.patch.new.start, .v (.int .i64 x.patch.new.after), .v (.int .i64 x.patch.new.grace), .v (.bool x.patch.new.business), .v (.bool x.patch.new.final), .v (.int .i64 x.patch.new.pause), .v (.int .i64 x.patch.new.resume), .v (.int .i64 x.patch.new.value.num), .v (.int .i64 x.patch.new.value.den), .v (.int .i64 x.patch.new.unit), .v (.int .i64 x.patch.new.to), .v (.bool x.patch.new.waived), .v (.int .i64 x.patch.days)] := nr rfl
@[go_sem] theorem amdD_fold (x : Es.Amend) : D.agg [.v (.int .i64 x.number), .v (.int .i64 x.day), .v (.int .i64 x.known), .v (.int .i64 x.patch.kind), slD 1 intC x.patch.clauses, .v (.int .i64 x.patch.new.kind), .v (.int .i64 x.patch.new.role), .v (.int .i64 x.patch.new.act), .v (.int .i64 x.patch.new.need), slD 2 condC x.patch.new.start, .v (.int .i64 x.patch.new.after), .v (.int .i64 x.patch.new.grace), .v (.bool x.patch.new.business), .v (.bool x.patch.new.final), .v (.int .i64 x.patch.new.pause), .v (.int .i64 x.patch.new.resume), .v (.int .i64 x.patch.new.value.num), .v (.int .i64 x.patch.new.value.den), .v (.int .i64 x.patch.new.unit), .v (.int .i64 x.patch.new.to), .v (.bool x.patch.new.waived), .v (.int .i64 x.patch.days)] = amdD x := nr rfl
@[go_sem] theorem amdD_cells (x : Es.Amend) : (amdD x).cells? = some [.v (.int .i64 x.number), .v (.int .i64 x.day), .v (.int .i64 x.known), .v (.int .i64 x.patch.kind), slD 1 intC x.patch.clauses, .v (.int .i64 x.patch.new.kind), .v (.int .i64 x.patch.new.role), .v (.int .i64 x.patch.new.act), .v (.int .i64 x.patch.new.need), slD 2 condC x.patch.new.start, .v (.int .i64 x.patch.new.after), .v (.int .i64 x.patch.new.grace), .v (.bool x.patch.new.business), .v (.bool x.patch.new.final), .v (.int .i64 x.patch.new.pause), .v (.int .i64 x.patch.new.resume), .v (.int .i64 x.patch.new.value.num), .v (.int .i64 x.patch.new.value.den), .v (.int .i64 x.patch.new.unit), .v (.int .i64 x.patch.new.to), .v (.bool x.patch.new.waived), .v (.int .i64 x.patch.days)] := nr rfl
@[go_sem] theorem amdD_load (x : Es.Amend) : mkv true 22 (offRow (amdC x) 0) = amdD x := nr rfl
@[go_sem] theorem amdD_off (x : Es.Amend) : mkv true 22 (amdC x) = amdD x := nr rfl
@[go_sem] theorem amdD_p3_pat (x : Es.Amend) : mkv true 19 (offRow (amdC x) 3) = patD x.patch := nr rfl
@[go_sem] theorem amdD_p5_cls (x : Es.Amend) : mkv true 16 (offRow (amdC x) 5) = clsD x.patch.new := nr rfl
@[go_sem] theorem amdD_p16_rat (x : Es.Amend) : mkv true 2 (offRow (amdC x) 16) = ratD x.patch.new.value := nr rfl
theorem pu_amdC (x : Es.Amend) (j : Nat) : Pu (amdC x j) := by
  unfold amdC; split <;> first
    | exact .v _
    | exact .any
    | exact pu_slD pu_condC _
    | exact pu_slD pu_intC _
theorem pu_amdD (x : Es.Amend) : Pu (amdD x) := Pu_agg ⟨.v _, .v _, .v _, .v _, pu_slD pu_intC _, .v _, .v _, .v _, .v _, pu_slD pu_condC _, .v _, .v _, .v _, .v _, .v _, .v _, .v _, .v _, .v _, .v _, .v _, .v _, trivial⟩
theorem fz_amd {s : S} {f i n : Nat} {ty : TypeId} {x : Es.Amend} (ho : s.o f i = some (.blk 22 n ty (rowOf [.v (.int .i64 x.number), .v (.int .i64 x.day), .v (.int .i64 x.known), .v (.int .i64 x.patch.kind), slD 1 intC x.patch.clauses, .v (.int .i64 x.patch.new.kind), .v (.int .i64 x.patch.new.role), .v (.int .i64 x.patch.new.act), .v (.int .i64 x.patch.new.need), slD 2 condC x.patch.new.start, .v (.int .i64 x.patch.new.after), .v (.int .i64 x.patch.new.grace), .v (.bool x.patch.new.business), .v (.bool x.patch.new.final), .v (.int .i64 x.patch.new.pause), .v (.int .i64 x.patch.new.resume), .v (.int .i64 x.patch.new.value.num), .v (.int .i64 x.patch.new.value.den), .v (.int .i64 x.patch.new.unit), .v (.int .i64 x.patch.new.to), .v (.bool x.patch.new.waived), .v (.int .i64 x.patch.days)]))) (hn : 0 < n) : Fz s (.mp f i 22 0 0) (.rp 22 (amdC x) 0) :=
  fz_box ho hn fun j hj => ⟨by
    have : j = 0 ∨ j = 1 ∨ j = 2 ∨ j = 3 ∨ j = 4 ∨ j = 5 ∨ j = 6 ∨ j = 7 ∨ j = 8 ∨ j = 9 ∨ j = 10 ∨ j = 11 ∨ j = 12 ∨ j = 13 ∨ j = 14 ∨ j = 15 ∨ j = 16 ∨ j = 17 ∨ j = 18 ∨ j = 19 ∨ j = 20 ∨ j = 21 := by omega
    rcases this with rfl | rfl | rfl | rfl | rfl | rfl | rfl | rfl | rfl | rfl | rfl | rfl | rfl | rfl | rfl | rfl | rfl | rfl | rfl | rfl | rfl | rfl <;> rfl, pu_amdC x j⟩
def entC (x : Es.Amend × Nat) : Nat → D
  | 0 => .v (.int .i64 x.1.number)
  | 1 => .v (.int .i64 x.1.day)
  | 2 => .v (.int .i64 x.1.known)
  | 3 => .v (.int .i64 x.1.patch.kind)
  | 4 => slD 1 intC x.1.patch.clauses
  | 5 => .v (.int .i64 x.1.patch.new.kind)
  | 6 => .v (.int .i64 x.1.patch.new.role)
  | 7 => .v (.int .i64 x.1.patch.new.act)
  | 8 => .v (.int .i64 x.1.patch.new.need)
  | 9 => slD 2 condC x.1.patch.new.start
  | 10 => .v (.int .i64 x.1.patch.new.after)
  | 11 => .v (.int .i64 x.1.patch.new.grace)
  | 12 => .v (.bool x.1.patch.new.business)
  | 13 => .v (.bool x.1.patch.new.final)
  | 14 => .v (.int .i64 x.1.patch.new.pause)
  | 15 => .v (.int .i64 x.1.patch.new.resume)
  | 16 => .v (.int .i64 x.1.patch.new.value.num)
  | 17 => .v (.int .i64 x.1.patch.new.value.den)
  | 18 => .v (.int .i64 x.1.patch.new.unit)
  | 19 => .v (.int .i64 x.1.patch.new.to)
  | 20 => .v (.bool x.1.patch.new.waived)
  | 21 => .v (.int .i64 x.1.patch.days)
  | 22 => .v (.int .i64 (x.2 : Int))
  | _ => .any
@[go_sem] theorem entC_0 (x : Es.Amend × Nat) : entC x 0 = .v (.int .i64 x.1.number) := nr rfl
@[go_sem] theorem entC_1 (x : Es.Amend × Nat) : entC x 1 = .v (.int .i64 x.1.day) := nr rfl
@[go_sem] theorem entC_2 (x : Es.Amend × Nat) : entC x 2 = .v (.int .i64 x.1.known) := nr rfl
@[go_sem] theorem entC_3 (x : Es.Amend × Nat) : entC x 3 = .v (.int .i64 x.1.patch.kind) := nr rfl
@[go_sem] theorem entC_4 (x : Es.Amend × Nat) : entC x 4 = slD 1 intC x.1.patch.clauses := nr rfl
@[go_sem] theorem entC_5 (x : Es.Amend × Nat) : entC x 5 = .v (.int .i64 x.1.patch.new.kind) := nr rfl
@[go_sem] theorem entC_6 (x : Es.Amend × Nat) : entC x 6 = .v (.int .i64 x.1.patch.new.role) := nr rfl
@[go_sem] theorem entC_7 (x : Es.Amend × Nat) : entC x 7 = .v (.int .i64 x.1.patch.new.act) := nr rfl
@[go_sem] theorem entC_8 (x : Es.Amend × Nat) : entC x 8 = .v (.int .i64 x.1.patch.new.need) := nr rfl
@[go_sem] theorem entC_9 (x : Es.Amend × Nat) : entC x 9 = slD 2 condC x.1.patch.new.start := nr rfl
@[go_sem] theorem entC_10 (x : Es.Amend × Nat) : entC x 10 = .v (.int .i64 x.1.patch.new.after) := nr rfl
@[go_sem] theorem entC_11 (x : Es.Amend × Nat) : entC x 11 = .v (.int .i64 x.1.patch.new.grace) := nr rfl
@[go_sem] theorem entC_12 (x : Es.Amend × Nat) : entC x 12 = .v (.bool x.1.patch.new.business) := nr rfl
@[go_sem] theorem entC_13 (x : Es.Amend × Nat) : entC x 13 = .v (.bool x.1.patch.new.final) := nr rfl
@[go_sem] theorem entC_14 (x : Es.Amend × Nat) : entC x 14 = .v (.int .i64 x.1.patch.new.pause) := nr rfl
@[go_sem] theorem entC_15 (x : Es.Amend × Nat) : entC x 15 = .v (.int .i64 x.1.patch.new.resume) := nr rfl
@[go_sem] theorem entC_16 (x : Es.Amend × Nat) : entC x 16 = .v (.int .i64 x.1.patch.new.value.num) := nr rfl
@[go_sem] theorem entC_17 (x : Es.Amend × Nat) : entC x 17 = .v (.int .i64 x.1.patch.new.value.den) := nr rfl
@[go_sem] theorem entC_18 (x : Es.Amend × Nat) : entC x 18 = .v (.int .i64 x.1.patch.new.unit) := nr rfl
@[go_sem] theorem entC_19 (x : Es.Amend × Nat) : entC x 19 = .v (.int .i64 x.1.patch.new.to) := nr rfl
@[go_sem] theorem entC_20 (x : Es.Amend × Nat) : entC x 20 = .v (.bool x.1.patch.new.waived) := nr rfl
@[go_sem] theorem entC_21 (x : Es.Amend × Nat) : entC x 21 = .v (.int .i64 x.1.patch.days) := nr rfl
@[go_sem] theorem entC_22 (x : Es.Amend × Nat) : entC x 22 = .v (.int .i64 (x.2 : Int)) := nr rfl
def entD (x : Es.Amend × Nat) : D := .agg [.v (.int .i64 x.1.number), .v (.int .i64 x.1.day), .v (.int .i64 x.1.known), .v (.int .i64 x.1.patch.kind), slD 1 intC x.1.patch.clauses, .v (.int .i64 x.1.patch.new.kind), .v (.int .i64 x.1.patch.new.role), .v (.int .i64 x.1.patch.new.act), .v (.int .i64 x.1.patch.new.need), slD 2 condC x.1.patch.new.start, .v (.int .i64 x.1.patch.new.after), .v (.int .i64 x.1.patch.new.grace), .v (.bool x.1.patch.new.business), .v (.bool x.1.patch.new.final), .v (.int .i64 x.1.patch.new.pause), .v (.int .i64 x.1.patch.new.resume), .v (.int .i64 x.1.patch.new.value.num), .v (.int .i64 x.1.patch.new.value.den), .v (.int .i64 x.1.patch.new.unit), .v (.int .i64 x.1.patch.new.to), .v (.bool x.1.patch.new.waived), .v (.int .i64 x.1.patch.days), .v (.int .i64 (x.2 : Int))]
theorem entD_eq (x : Es.Amend × Nat) : entD x = .agg [.v (.int .i64 x.1.number), .v (.int .i64 x.1.day), .v (.int .i64 x.1.known), .v (.int .i64 x.1.patch.kind), slD 1 intC x.1.patch.clauses, .v (.int .i64 x.1.patch.new.kind), .v (.int .i64 x.1.patch.new.role), .v (.int .i64 x.1.patch.new.act), .v (.int .i64 x.1.patch.new.need), slD 2 condC x.1.patch.new.start, .v (.int .i64 x.1.patch.new.after), .v (.int .i64 x.1.patch.new.grace), .v (.bool x.1.patch.new.business), .v (.bool x.1.patch.new.final), .v (.int .i64 x.1.patch.new.pause), .v (.int .i64 x.1.patch.new.resume), .v (.int .i64 x.1.patch.new.value.num), .v (.int .i64 x.1.patch.new.value.den), .v (.int .i64 x.1.patch.new.unit), .v (.int .i64 x.1.patch.new.to), .v (.bool x.1.patch.new.waived), .v (.int .i64 x.1.patch.days), .v (.int .i64 (x.2 : Int))] := nr rfl
@[go_sem] theorem entD_fold (x : Es.Amend × Nat) : D.agg [.v (.int .i64 x.1.number), .v (.int .i64 x.1.day), .v (.int .i64 x.1.known), .v (.int .i64 x.1.patch.kind), slD 1 intC x.1.patch.clauses, .v (.int .i64 x.1.patch.new.kind), .v (.int .i64 x.1.patch.new.role), .v (.int .i64 x.1.patch.new.act), .v (.int .i64 x.1.patch.new.need), slD 2 condC x.1.patch.new.start, .v (.int .i64 x.1.patch.new.after), .v (.int .i64 x.1.patch.new.grace), .v (.bool x.1.patch.new.business), .v (.bool x.1.patch.new.final), .v (.int .i64 x.1.patch.new.pause), .v (.int .i64 x.1.patch.new.resume), .v (.int .i64 x.1.patch.new.value.num), .v (.int .i64 x.1.patch.new.value.den), .v (.int .i64 x.1.patch.new.unit), .v (.int .i64 x.1.patch.new.to), .v (.bool x.1.patch.new.waived), .v (.int .i64 x.1.patch.days), .v (.int .i64 (x.2 : Int))] = entD x := nr rfl
@[go_sem] theorem entD_cells (x : Es.Amend × Nat) : (entD x).cells? = some [.v (.int .i64 x.1.number), .v (.int .i64 x.1.day), .v (.int .i64 x.1.known), .v (.int .i64 x.1.patch.kind), slD 1 intC x.1.patch.clauses, .v (.int .i64 x.1.patch.new.kind), .v (.int .i64 x.1.patch.new.role), .v (.int .i64 x.1.patch.new.act), .v (.int .i64 x.1.patch.new.need), slD 2 condC x.1.patch.new.start, .v (.int .i64 x.1.patch.new.after), .v (.int .i64 x.1.patch.new.grace), .v (.bool x.1.patch.new.business), .v (.bool x.1.patch.new.final), .v (.int .i64 x.1.patch.new.pause), .v (.int .i64 x.1.patch.new.resume), .v (.int .i64 x.1.patch.new.value.num), .v (.int .i64 x.1.patch.new.value.den), .v (.int .i64 x.1.patch.new.unit), .v (.int .i64 x.1.patch.new.to), .v (.bool x.1.patch.new.waived), .v (.int .i64 x.1.patch.days), .v (.int .i64 (x.2 : Int))] := nr rfl
@[go_sem] theorem entD_load (x : Es.Amend × Nat) : mkv true 23 (offRow (entC x) 0) = entD x := nr rfl
@[go_sem] theorem entD_off (x : Es.Amend × Nat) : mkv true 23 (entC x) = entD x := nr rfl
@[go_sem] theorem entD_p0_amd (x : Es.Amend × Nat) : mkv true 22 (offRow (entC x) 0) = amdD x.1 := nr rfl
@[go_sem] theorem entD_p3_pat (x : Es.Amend × Nat) : mkv true 19 (offRow (entC x) 3) = patD x.1.patch := nr rfl
@[go_sem] theorem entD_p5_cls (x : Es.Amend × Nat) : mkv true 16 (offRow (entC x) 5) = clsD x.1.patch.new := nr rfl
@[go_sem] theorem entD_p16_rat (x : Es.Amend × Nat) : mkv true 2 (offRow (entC x) 16) = ratD x.1.patch.new.value := nr rfl
theorem pu_entC (x : Es.Amend × Nat) (j : Nat) : Pu (entC x j) := by
  unfold entC; split <;> first
    | exact .v _
    | exact .any
    | exact pu_slD pu_condC _
    | exact pu_slD pu_intC _
theorem pu_entD (x : Es.Amend × Nat) : Pu (entD x) := Pu_agg ⟨.v _, .v _, .v _, .v _, pu_slD pu_intC _, .v _, .v _, .v _, .v _, pu_slD pu_condC _, .v _, .v _, .v _, .v _, .v _, .v _, .v _, .v _, .v _, .v _, .v _, .v _, .v _, trivial⟩
theorem fz_ent {s : S} {f i n : Nat} {ty : TypeId} {x : Es.Amend × Nat} (ho : s.o f i = some (.blk 23 n ty (rowOf [.v (.int .i64 x.1.number), .v (.int .i64 x.1.day), .v (.int .i64 x.1.known), .v (.int .i64 x.1.patch.kind), slD 1 intC x.1.patch.clauses, .v (.int .i64 x.1.patch.new.kind), .v (.int .i64 x.1.patch.new.role), .v (.int .i64 x.1.patch.new.act), .v (.int .i64 x.1.patch.new.need), slD 2 condC x.1.patch.new.start, .v (.int .i64 x.1.patch.new.after), .v (.int .i64 x.1.patch.new.grace), .v (.bool x.1.patch.new.business), .v (.bool x.1.patch.new.final), .v (.int .i64 x.1.patch.new.pause), .v (.int .i64 x.1.patch.new.resume), .v (.int .i64 x.1.patch.new.value.num), .v (.int .i64 x.1.patch.new.value.den), .v (.int .i64 x.1.patch.new.unit), .v (.int .i64 x.1.patch.new.to), .v (.bool x.1.patch.new.waived), .v (.int .i64 x.1.patch.days), .v (.int .i64 (x.2 : Int))]))) (hn : 0 < n) : Fz s (.mp f i 23 0 0) (.rp 23 (entC x) 0) :=
  fz_box ho hn fun j hj => ⟨by
    have : j = 0 ∨ j = 1 ∨ j = 2 ∨ j = 3 ∨ j = 4 ∨ j = 5 ∨ j = 6 ∨ j = 7 ∨ j = 8 ∨ j = 9 ∨ j = 10 ∨ j = 11 ∨ j = 12 ∨ j = 13 ∨ j = 14 ∨ j = 15 ∨ j = 16 ∨ j = 17 ∨ j = 18 ∨ j = 19 ∨ j = 20 ∨ j = 21 ∨ j = 22 := by omega
    rcases this with rfl | rfl | rfl | rfl | rfl | rfl | rfl | rfl | rfl | rfl | rfl | rfl | rfl | rfl | rfl | rfl | rfl | rfl | rfl | rfl | rfl | rfl | rfl <;> rfl, pu_entC x j⟩
theorem setC_gen {α : Type} [Inhabited α] {f : α → Nat → D} {l : List α} {r off : Nat} {ds : List D} {m : α} (hr : r < l.length) (h : ∀ c, f m c = if off ≤ c ∧ c < off + ds.length then ds.getD (c - off) .any else f (Es.at_ l (r : Int)) c) : setC (rowsOf f l) r off ds = rowsOf f (l.set r m) := by
  funext r' c'
  simp only [setC, rowsOf]
  by_cases hrr : r' = r
  · subst hrr
    simp only [List.getD_eq_getElem?_getD, List.getElem?_set, hr, if_true, Option.getD_some, true_and]
    rw [h]
    by_cases hc : off ≤ c' ∧ c' < off + ds.length
    · rw [if_pos hc, if_pos hc]; rw [List.getD_eq_getElem?_getD]
    · rw [if_neg hc, if_neg hc]; simp [Es.at_, List.getD]
  · rw [if_neg (by omega)]
    simp only [List.getD_eq_getElem?_getD, List.getElem?_set, if_neg (Ne.symm hrr)]
@[go_sem] theorem condD_bin (P : Program) (op : BinOp) (t : Nat) (x y : Es.Cond) (s : S) (K : D → S → Prop) : aBin P op t (condD x) (condD y) s K = ABinA P op t (eqShape P 10000 t) [.v (.int .i64 x.clause), .v (.int .i64 x.is)] [.v (.int .i64 y.clause), .v (.int .i64 y.is)] s K := nr rfl
def plainL (x : Es.Clause) : List D := [.v (.int .i64 x.kind), .v (.int .i64 x.role), .v (.int .i64 x.act), .v (.int .i64 x.need), .v (.int .i64 x.after), .v (.int .i64 x.grace), .v (.int .i64 x.pause), .v (.int .i64 x.resume), .v (.int .i64 x.unit), .v (.int .i64 x.to), .v (.int .i64 0), .v (.bool x.business), .v (.bool x.final), .v (.bool x.waived), .v (.int .i64 x.value.num), .v (.int .i64 x.value.den)]
@[go_sem] theorem plainL_eq (x : Es.Clause) : plainL x = [.v (.int .i64 x.kind), .v (.int .i64 x.role), .v (.int .i64 x.act), .v (.int .i64 x.need), .v (.int .i64 x.after), .v (.int .i64 x.grace), .v (.int .i64 x.pause), .v (.int .i64 x.resume), .v (.int .i64 x.unit), .v (.int .i64 x.to), .v (.int .i64 0), .v (.bool x.business), .v (.bool x.final), .v (.bool x.waived), .v (.int .i64 x.value.num), .v (.int .i64 x.value.den)] := nr rfl
def plainD (x : Es.Clause) : D := .agg (plainL x)
@[go_sem] theorem plainD_bin (P : Program) (op : BinOp) (t : Nat) (x y : Es.Clause) (s : S) (K : D → S → Prop) : aBin P op t (plainD x) (plainD y) s K = ABinA P op t (eqShape P 10000 t) (plainL x) (plainL y) s K := nr rfl
theorem pu_plainD (x : Es.Clause) : Pu (plainD x) := Pu_agg ⟨.v _, .v _, .v _, .v _, .v _, .v _, .v _, .v _, .v _, .v _, .v _, .v _, .v _, .v _, .v _, .v _, trivial⟩
/-- One row more. -/
theorem app_rows {α : Type} [Inhabited α] {f : α → Nat → D} {w : Nat} {l : List α} {x : α} {cell src : Nat → Nat → D} (hc : ∀ r c, r < l.length → c < w → cell r c = rowsOf f l r c) (hs : ∀ j, j < w → src 0 j = f x j) :
    ∀ r c, r < l.length + 1 → c < w → appC cell l.length src r c = rowsOf f (l ++ [x]) r c := by
  intro r c hr hc'
  simp only [appC]
  by_cases h1 : r < l.length
  · rw [if_pos h1, hc r c h1 hc']; simp [rowsOf, List.getD_eq_getElem?_getD, List.getElem?_append_left h1]
  · have : r = l.length := by omega
    subst this
    rw [if_neg h1, Nat.sub_self, hs c hc']; simp [rowsOf, List.getD_eq_getElem?_getD]
/-- A list that grows: nothing, or an owned slice from n0 on. -/
def OutL {α : Type} [Inhabited α] (f : α → Nat → D) (w : Nat) (ty : TypeId) (n0 : Nat) (st : S) (d : D) (l : List α) : Prop :=
  (l = [] ∧ d = .v (.slice none 0 0)) ∨ ∃ g cell, d = .ms g 0 w 0 l.length ∧ n0 ≤ g ∧ g < st.nx ∧ st.o g 0 = some (.blk w l.length ty cell) ∧ ∀ r c, r < l.length → c < w → cell r c = rowsOf f l r c
section
variable {α : Type} [Inhabited α] {f : α → Nat → D} {w : Nat} {ty : TypeId} {n0 : Nat} {st st' : S} {d : D} {l : List α}
theorem OutL.nil : OutL f w ty n0 st (.v (.slice none 0 0)) [] := .inl ⟨rfl, rfl⟩
theorem OutL.keep (h : OutL f w ty n0 st d l) (hn : st.nx ≤ st'.nx) (ho : ∀ g, n0 ≤ g → g < st.nx → st'.o g 0 = st.o g 0) : OutL f w ty n0 st' d l := by
  rcases h with h | ⟨g, cell, h1, h2, h3, h4, h5⟩
  · exact .inl h
  · exact .inr ⟨g, cell, h1, h2, by omega, (ho g h2 h3).trans h4, h5⟩
theorem OutL.fz (h : OutL f w ty n0 st d l) (ho : ∀ g, n0 ≤ g → g < st.nx → st'.o g 0 = st.o g 0) (hf : ∀ x j, Pu (f x j)) : Fz st' d (slD w f l) := by
  rcases h with ⟨rfl, rfl⟩ | ⟨g, cell, rfl, h2, h3, h4, h5⟩
  · exact .nil _ _
  · exact fz_ms ((ho g h2 h3).trans h4) rfl hf h5
/-- The first row. -/
theorem OutL.one {x : α} {g : Nat} {cell src : Nat → Nat → D} (h2 : n0 ≤ g) (h3 : g < st.nx) (ho : st.o g 0 = some (.blk w 1 ty (appC cell 0 src))) (hs : ∀ j, j < w → src 0 j = f x j) : OutL f w ty n0 st (.ms g 0 w 0 1) [x] :=
  .inr ⟨g, _, rfl, h2, h3, ho, app_rows (l := []) (fun _ _ h => by simp at h) hs⟩
/-- One row more. -/
theorem OutL.more {x : α} {g : Nat} {cell src : Nat → Nat → D} (h2 : n0 ≤ g) (h3 : g < st.nx) (ho : st.o g 0 = some (.blk w (l.length + 1) ty (appC cell l.length src))) (hc : ∀ r c, r < l.length → c < w → cell r c = rowsOf f l r c) (hs : ∀ j, j < w → src 0 j = f x j) : OutL f w ty n0 st (.ms g 0 w 0 (l.length + 1)) (l ++ [x]) :=
  .inr ⟨g, _, by simp, h2, h3, by rw [List.length_append]; exact ho, fun r c hr hc' => app_rows hc hs r c (by simpa using hr) hc'⟩
theorem OutL.one' {o : St} {x : α} {g : Nat} {cell src : Nat → Nat → D} (h2 : n0 ≤ g) (hs : ∀ j, j < w → src 0 j = f x j) : OutL f w ty n0 ⟨St.set o g 0 (some (.blk w 1 ty (appC cell 0 src))), g + 1⟩ (.ms g 0 w 0 1) [x] :=
  OutL.one h2 (Nat.lt_succ_self _) (St_set_self _ _ _ _) hs
theorem OutL.more' {o : St} {x : α} {g : Nat} {cell src : Nat → Nat → D} (h2 : n0 ≤ g) (hc : ∀ r c, r < l.length → c < w → cell r c = rowsOf f l r c) (hs : ∀ j, j < w → src 0 j = f x j) : OutL f w ty n0 ⟨St.set o g 0 (some (.blk w (l.length + 1) ty (appC cell l.length src))), g + 1⟩ (.ms g 0 w 0 (l.length + 1)) (l ++ [x]) :=
  OutL.more h2 (Nat.lt_succ_self _) (St_set_self _ _ _ _) hc hs
/-- One row changed. -/
theorem set_rows {x : α} {cell : Nat → Nat → D} {r : Nat} {ds : List D} (hr : r < l.length) (hl : ds.length = w) (hd : ∀ j, j < w → ds.getD j .any = f x j) (hc : ∀ r c, r < l.length → c < w → cell r c = rowsOf f l r c) :
    ∀ r' c, r' < (l.set r x).length → c < w → setC cell r 0 ds r' c = rowsOf f (l.set r x) r' c := by
  intro r' c hr' hc'
  simp only [setC, Nat.zero_le, true_and, Nat.zero_add, Nat.sub_zero]
  rw [List.length_set] at hr'
  by_cases h : r' = r
  · subst h
    rw [if_pos ⟨rfl, by omega⟩, hd c hc']
    simp [rowsOf, List.getD_eq_getElem?_getD, List.getElem?_set, hr]
  · rw [if_neg (fun hh => h hh.1), hc r' c hr' hc']
    simp [rowsOf, List.getD_eq_getElem?_getD, List.getElem?_set, Ne.symm h]
end
theorem setC_cls {l : List Es.Clause} {r : Nat} (hr : r < l.length) (x : Es.Clause) : setC (rowsOf clsC l) r 0 [.v (.int .i64 x.kind), .v (.int .i64 x.role), .v (.int .i64 x.act), .v (.int .i64 x.need), slD 2 condC x.start, .v (.int .i64 x.after), .v (.int .i64 x.grace), .v (.bool x.business), .v (.bool x.final), .v (.int .i64 x.pause), .v (.int .i64 x.resume), .v (.int .i64 x.value.num), .v (.int .i64 x.value.den), .v (.int .i64 x.unit), .v (.int .i64 x.to), .v (.bool x.waived)] = rowsOf clsC (l.set r x) :=
  setC_gen hr fun c => by
    rcases Nat.lt_or_ge c 16 with h | h
    · have : c = 0 ∨ c = 1 ∨ c = 2 ∨ c = 3 ∨ c = 4 ∨ c = 5 ∨ c = 6 ∨ c = 7 ∨ c = 8 ∨ c = 9 ∨ c = 10 ∨ c = 11 ∨ c = 12 ∨ c = 13 ∨ c = 14 ∨ c = 15 := by omega
      rcases this with rfl | rfl | rfl | rfl | rfl | rfl | rfl | rfl | rfl | rfl | rfl | rfl | rfl | rfl | rfl | rfl <;> rfl
    · rw [if_neg (by simp only [List.length_cons, List.length_nil]; omega)]
      obtain ⟨d, rfl⟩ : ∃ d, c = 16 + d := ⟨c - 16, by omega⟩
      rw [Nat.add_comm]; rfl
theorem setC_ent {l : List (Es.Amend × Nat)} {r : Nat} (hr : r < l.length) (x : Es.Amend × Nat) {cs : List D} (hcs : (entD x).cells? = some cs) : setC (rowsOf entC l) r 0 cs = rowsOf entC (l.set r x) := by
  rw [entD_cells, Option.some.injEq] at hcs
  subst hcs
  refine setC_gen hr fun c => ?_
  rcases Nat.lt_or_ge c 23 with h | h
  · have : c = 0 ∨ c = 1 ∨ c = 2 ∨ c = 3 ∨ c = 4 ∨ c = 5 ∨ c = 6 ∨ c = 7 ∨ c = 8 ∨ c = 9 ∨ c = 10 ∨ c = 11 ∨ c = 12 ∨ c = 13 ∨ c = 14 ∨ c = 15 ∨ c = 16 ∨ c = 17 ∨ c = 18 ∨ c = 19 ∨ c = 20 ∨ c = 21 ∨ c = 22 := by omega
    rcases this with rfl | rfl | rfl | rfl | rfl | rfl | rfl | rfl | rfl | rfl | rfl | rfl | rfl | rfl | rfl | rfl | rfl | rfl | rfl | rfl | rfl | rfl | rfl <;> rfl
  · rw [if_neg (by simp only [List.length_cons, List.length_nil]; omega)]
    obtain ⟨d, rfl⟩ : ∃ d, c = 23 + d := ⟨c - 23, by omega⟩
    rw [Nat.add_comm]; rfl
theorem cls_one {y x : Es.Clause} {j : Nat} {d : D} (h1 : clsC y j = d) (h2 : ∀ c, c ≠ j → clsC y c = clsC x c) (c : Nat) : clsC y c = if j ≤ c ∧ c < j + [d].length then [d].getD (c - j) .any else clsC x c := by
  by_cases hc : c = j
  · subst hc; rw [if_pos (by simp), h1]; simp
  · rw [if_neg (by simp only [List.length_cons, List.length_nil]; omega), h2 c hc]
theorem cls_rest (c : Nat) (x : Es.Clause) : clsC x (c + 16) = .any := rfl
theorem setC_cls5 {l : List Es.Clause} {r : Nat} (hr : r < l.length) (v : Int) : setC (rowsOf clsC l) r 5 [.v (.int .i64 v)] = rowsOf clsC (l.set r { Es.at_ l (r : Int) with after := v }) :=
  setC_gen hr (cls_one rfl fun c hc => by
    rcases c with _ | _ | _ | _ | _ | _ | _ | _ | _ | _ | _ | _ | _ | _ | _ | _ | c <;> first | rfl | exact absurd rfl hc)
theorem setC_cls15 {l : List Es.Clause} {r : Nat} (hr : r < l.length) (v : Bool) : setC (rowsOf clsC l) r 15 [.v (.bool v)] = rowsOf clsC (l.set r { Es.at_ l (r : Int) with waived := v }) :=
  setC_gen hr (cls_one rfl fun c hc => by
    rcases c with _ | _ | _ | _ | _ | _ | _ | _ | _ | _ | _ | _ | _ | _ | _ | _ | c <;> first | rfl | exact absurd rfl hc)
end Go.Abs
end
section
namespace Go.Proofs
open Go Go.Abs
set_option linter.unusedSimpArgs false
set_option linter.unusedVariables false
set_option maxRecDepth 10000
namespace Tryz
theorem c_int : prog.cellsOf 3 = 1 := by kernel_rfl
theorem c_bool : prog.cellsOf 4 = 1 := by kernel_rfl
theorem c_string : prog.cellsOf 9 = 1 := by kernel_rfl
theorem c_ratio : prog.cellsOf 30 = 2 := by kernel_rfl
theorem c_unit : prog.cellsOf 102 = 5 := by kernel_rfl
theorem c_act : prog.cellsOf 80 = 7 := by kernel_rfl
theorem c_cond : prog.cellsOf 108 = 2 := by kernel_rfl
theorem c_clause : prog.cellsOf 32 = 16 := by kernel_rfl
theorem c_contract : prog.cellsOf 27 = 7 := by kernel_rfl
theorem c_mark : prog.cellsOf 47 = 5 := by kernel_rfl
theorem c_state : prog.cellsOf 38 = 4 := by kernel_rfl
theorem c_patch : prog.cellsOf 34 = 19 := by kernel_rfl
theorem c_amend : prog.cellsOf 69 = 22 := by kernel_rfl
theorem c_sl_act : prog.cellsOf 24 = 1 := by kernel_rfl
theorem c_sl_bool : prog.cellsOf 35 = 1 := by kernel_rfl
theorem c_sl_clause : prog.cellsOf 25 = 1 := by kernel_rfl
theorem c_sl_cond : prog.cellsOf 28 = 1 := by kernel_rfl
theorem c_sl_int : prog.cellsOf 22 = 1 := by kernel_rfl
theorem c_sl_mark : prog.cellsOf 36 = 1 := by kernel_rfl
theorem c_sl_unit : prog.cellsOf 23 = 1 := by kernel_rfl
theorem c_sl_amend : prog.cellsOf 70 = 1 := by kernel_rfl
section
variable {H : Type} {enc : TypeId × Value → H} {W : World} {spare : Nat → Bool} {held : Bool} {fuel : Nat} {cs : List Value} {x : DataW H × List MemPlace}
theorem rd_i (h : Treads enc prog W spare held fuel 3 cs x) : ∃ n : Int, RowRep W (intC n) 1 cs := by
  obtain ⟨n, _, h⟩ := rd_int underlying3 h
  exact ⟨n, h.1, fun j hj => (by obtain rfl : j = 0 := (by omega); exact h.2 0 hj)⟩
theorem rd_b (h : Treads enc prog W spare held fuel 4 cs x) : ∃ n : Bool, RowRep W (booC n) 1 cs := by
  obtain ⟨n, h⟩ := rd_bool underlying4 h
  exact ⟨n, h.1, fun j hj => (by obtain rfl : j = 0 := (by omega); exact h.2 0 hj)⟩
theorem rd_s (h : Treads enc prog W spare held fuel 9 cs x) : ∃ l : List UInt8, l.length ≤ maxLen ∧ RowRep W (fun _ => .v (.string ⟨l.toArray⟩)) 1 cs := rd_string underlying9 h
theorem rd_ratio (h : Treads enc prog W spare held fuel 30 cs x) : ∃ a : Es.Ratio, RowRep W (ratC a) 2 cs := by
  obtain ⟨hl, n, hf⟩ := rd_struct underlying30 h
  rw [c_ratio] at hl
  obtain ⟨y0, h0⟩ : ∃ y, Treads enc prog W spare held n 3 ((cs.drop 0).take (prog.cellsOf 3)) y := hf 0 _ rfl
  rw [c_int] at h0
  obtain ⟨a0, r0⟩ := rd_i h0
  obtain ⟨y1, h1⟩ : ∃ y, Treads enc prog W spare held n 3 ((cs.drop 1).take (prog.cellsOf 3)) y := hf 1 _ rfl
  rw [c_int] at h1
  obtain ⟨a1, r1⟩ := rd_i h1
  refine ⟨⟨a0, a1⟩, hl, fun j hj => ?_⟩
  match j, hj with
  | 0, _ => exact r0.at (j := 0) (by decide) rfl
  | 1, _ => exact r1.at (j := 0) (by decide) rfl
theorem rd_unit (h : Treads enc prog W spare held fuel 102 cs x) : ∃ a : Es.Unt, a.name.length ≤ maxLen ∧ RowRep W (untC a) 5 cs := by
  obtain ⟨hl, n, hf⟩ := rd_struct underlying102 h
  rw [c_unit] at hl
  obtain ⟨y0, h0⟩ : ∃ y, Treads enc prog W spare held n 9 ((cs.drop 0).take (prog.cellsOf 9)) y := hf 0 _ rfl
  rw [c_string] at h0
  obtain ⟨a0, b0, r0⟩ := rd_s h0
  obtain ⟨y1, h1⟩ : ∃ y, Treads enc prog W spare held n 3 ((cs.drop 1).take (prog.cellsOf 3)) y := hf 1 _ rfl
  rw [c_int] at h1
  obtain ⟨a1, r1⟩ := rd_i h1
  obtain ⟨y2, h2⟩ : ∃ y, Treads enc prog W spare held n 3 ((cs.drop 2).take (prog.cellsOf 3)) y := hf 2 _ rfl
  rw [c_int] at h2
  obtain ⟨a2, r2⟩ := rd_i h2
  obtain ⟨y3, h3⟩ : ∃ y, Treads enc prog W spare held n 30 ((cs.drop 3).take (prog.cellsOf 30)) y := hf 3 _ rfl
  rw [c_ratio] at h3
  obtain ⟨a3, r3⟩ := rd_ratio h3
  refine ⟨⟨a0, a1, a2, a3⟩, b0, hl, fun j hj => ?_⟩
  match j, hj with
  | 0, _ => exact r0.at (j := 0) (by decide) rfl
  | 1, _ => exact r1.at (j := 0) (by decide) rfl
  | 2, _ => exact r2.at (j := 0) (by decide) rfl
  | 3, _ => exact r3.at (j := 0) (by decide) rfl
  | 4, _ => exact r3.at (j := 1) (by decide) rfl
theorem rd_act (h : Treads enc prog W spare held fuel 80 cs x) : ∃ a : Es.ActT, RowRep W (actC a) 7 cs := by
  obtain ⟨hl, n, hf⟩ := rd_struct underlying80 h
  rw [c_act] at hl
  obtain ⟨y0, h0⟩ : ∃ y, Treads enc prog W spare held n 3 ((cs.drop 0).take (prog.cellsOf 3)) y := hf 0 _ rfl
  rw [c_int] at h0
  obtain ⟨a0, r0⟩ := rd_i h0
  obtain ⟨y1, h1⟩ : ∃ y, Treads enc prog W spare held n 3 ((cs.drop 1).take (prog.cellsOf 3)) y := hf 1 _ rfl
  rw [c_int] at h1
  obtain ⟨a1, r1⟩ := rd_i h1
  obtain ⟨y2, h2⟩ : ∃ y, Treads enc prog W spare held n 3 ((cs.drop 2).take (prog.cellsOf 3)) y := hf 2 _ rfl
  rw [c_int] at h2
  obtain ⟨a2, r2⟩ := rd_i h2
  obtain ⟨y3, h3⟩ : ∃ y, Treads enc prog W spare held n 3 ((cs.drop 3).take (prog.cellsOf 3)) y := hf 3 _ rfl
  rw [c_int] at h3
  obtain ⟨a3, r3⟩ := rd_i h3
  obtain ⟨y4, h4⟩ : ∃ y, Treads enc prog W spare held n 3 ((cs.drop 4).take (prog.cellsOf 3)) y := hf 4 _ rfl
  rw [c_int] at h4
  obtain ⟨a4, r4⟩ := rd_i h4
  obtain ⟨y5, h5⟩ : ∃ y, Treads enc prog W spare held n 30 ((cs.drop 5).take (prog.cellsOf 30)) y := hf 5 _ rfl
  rw [c_ratio] at h5
  obtain ⟨a5, r5⟩ := rd_ratio h5
  refine ⟨⟨a0, a1, a2, a3, a4, a5⟩, hl, fun j hj => ?_⟩
  match j, hj with
  | 0, _ => exact r0.at (j := 0) (by decide) rfl
  | 1, _ => exact r1.at (j := 0) (by decide) rfl
  | 2, _ => exact r2.at (j := 0) (by decide) rfl
  | 3, _ => exact r3.at (j := 0) (by decide) rfl
  | 4, _ => exact r4.at (j := 0) (by decide) rfl
  | 5, _ => exact r5.at (j := 0) (by decide) rfl
  | 6, _ => exact r5.at (j := 1) (by decide) rfl
theorem rd_cond (h : Treads enc prog W spare held fuel 108 cs x) : ∃ a : Es.Cond, RowRep W (condC a) 2 cs := by
  obtain ⟨hl, n, hf⟩ := rd_struct underlying108 h
  rw [c_cond] at hl
  obtain ⟨y0, h0⟩ : ∃ y, Treads enc prog W spare held n 3 ((cs.drop 0).take (prog.cellsOf 3)) y := hf 0 _ rfl
  rw [c_int] at h0
  obtain ⟨a0, r0⟩ := rd_i h0
  obtain ⟨y1, h1⟩ : ∃ y, Treads enc prog W spare held n 3 ((cs.drop 1).take (prog.cellsOf 3)) y := hf 1 _ rfl
  rw [c_int] at h1
  obtain ⟨a1, r1⟩ := rd_i h1
  refine ⟨⟨a0, a1⟩, hl, fun j hj => ?_⟩
  match j, hj with
  | 0, _ => exact r0.at (j := 0) (by decide) rfl
  | 1, _ => exact r1.at (j := 0) (by decide) rfl
theorem rd_clause (h : Treads enc prog W spare held fuel 32 cs x) : ∃ a : Es.Clause, a.start.length ≤ maxLen ∧ RowRep W (clsC a) 16 cs := by
  obtain ⟨hl, n, hf⟩ := rd_struct underlying32 h
  rw [c_clause] at hl
  obtain ⟨y0, h0⟩ : ∃ y, Treads enc prog W spare held n 3 ((cs.drop 0).take (prog.cellsOf 3)) y := hf 0 _ rfl
  rw [c_int] at h0
  obtain ⟨a0, r0⟩ := rd_i h0
  obtain ⟨y1, h1⟩ : ∃ y, Treads enc prog W spare held n 3 ((cs.drop 1).take (prog.cellsOf 3)) y := hf 1 _ rfl
  rw [c_int] at h1
  obtain ⟨a1, r1⟩ := rd_i h1
  obtain ⟨y2, h2⟩ : ∃ y, Treads enc prog W spare held n 3 ((cs.drop 2).take (prog.cellsOf 3)) y := hf 2 _ rfl
  rw [c_int] at h2
  obtain ⟨a2, r2⟩ := rd_i h2
  obtain ⟨y3, h3⟩ : ∃ y, Treads enc prog W spare held n 3 ((cs.drop 3).take (prog.cellsOf 3)) y := hf 3 _ rfl
  rw [c_int] at h3
  obtain ⟨a3, r3⟩ := rd_i h3
  obtain ⟨y4, h4⟩ : ∃ y, Treads enc prog W spare held n 28 ((cs.drop 4).take (prog.cellsOf 28)) y := hf 4 _ rfl
  rw [c_sl_cond] at h4
  obtain ⟨a4, b4, r4⟩ := rd_slice (f := condC) underlying28 c_cond (by decide) (fun _ _ _ h => rd_cond h) h4
  obtain ⟨y5, h5⟩ : ∃ y, Treads enc prog W spare held n 3 ((cs.drop 5).take (prog.cellsOf 3)) y := hf 5 _ rfl
  rw [c_int] at h5
  obtain ⟨a5, r5⟩ := rd_i h5
  obtain ⟨y6, h6⟩ : ∃ y, Treads enc prog W spare held n 3 ((cs.drop 6).take (prog.cellsOf 3)) y := hf 6 _ rfl
  rw [c_int] at h6
  obtain ⟨a6, r6⟩ := rd_i h6
  obtain ⟨y7, h7⟩ : ∃ y, Treads enc prog W spare held n 4 ((cs.drop 7).take (prog.cellsOf 4)) y := hf 7 _ rfl
  rw [c_bool] at h7
  obtain ⟨a7, r7⟩ := rd_b h7
  obtain ⟨y8, h8⟩ : ∃ y, Treads enc prog W spare held n 4 ((cs.drop 8).take (prog.cellsOf 4)) y := hf 8 _ rfl
  rw [c_bool] at h8
  obtain ⟨a8, r8⟩ := rd_b h8
  obtain ⟨y9, h9⟩ : ∃ y, Treads enc prog W spare held n 3 ((cs.drop 9).take (prog.cellsOf 3)) y := hf 9 _ rfl
  rw [c_int] at h9
  obtain ⟨a9, r9⟩ := rd_i h9
  obtain ⟨y10, h10⟩ : ∃ y, Treads enc prog W spare held n 3 ((cs.drop 10).take (prog.cellsOf 3)) y := hf 10 _ rfl
  rw [c_int] at h10
  obtain ⟨a10, r10⟩ := rd_i h10
  obtain ⟨y11, h11⟩ : ∃ y, Treads enc prog W spare held n 30 ((cs.drop 11).take (prog.cellsOf 30)) y := hf 11 _ rfl
  rw [c_ratio] at h11
  obtain ⟨a11, r11⟩ := rd_ratio h11
  obtain ⟨y12, h12⟩ : ∃ y, Treads enc prog W spare held n 3 ((cs.drop 13).take (prog.cellsOf 3)) y := hf 12 _ rfl
  rw [c_int] at h12
  obtain ⟨a12, r12⟩ := rd_i h12
  obtain ⟨y13, h13⟩ : ∃ y, Treads enc prog W spare held n 3 ((cs.drop 14).take (prog.cellsOf 3)) y := hf 13 _ rfl
  rw [c_int] at h13
  obtain ⟨a13, r13⟩ := rd_i h13
  obtain ⟨y14, h14⟩ : ∃ y, Treads enc prog W spare held n 4 ((cs.drop 15).take (prog.cellsOf 4)) y := hf 14 _ rfl
  rw [c_bool] at h14
  obtain ⟨a14, r14⟩ := rd_b h14
  refine ⟨⟨a0, a1, a2, a3, a4, a5, a6, a7, a8, a9, a10, a11, a12, a13, a14⟩, b4, hl, fun j hj => ?_⟩
  match j, hj with
  | 0, _ => exact r0.at (j := 0) (by decide) rfl
  | 1, _ => exact r1.at (j := 0) (by decide) rfl
  | 2, _ => exact r2.at (j := 0) (by decide) rfl
  | 3, _ => exact r3.at (j := 0) (by decide) rfl
  | 4, _ => exact r4.at (j := 0) (by decide) rfl
  | 5, _ => exact r5.at (j := 0) (by decide) rfl
  | 6, _ => exact r6.at (j := 0) (by decide) rfl
  | 7, _ => exact r7.at (j := 0) (by decide) rfl
  | 8, _ => exact r8.at (j := 0) (by decide) rfl
  | 9, _ => exact r9.at (j := 0) (by decide) rfl
  | 10, _ => exact r10.at (j := 0) (by decide) rfl
  | 11, _ => exact r11.at (j := 0) (by decide) rfl
  | 12, _ => exact r11.at (j := 1) (by decide) rfl
  | 13, _ => exact r12.at (j := 0) (by decide) rfl
  | 14, _ => exact r13.at (j := 0) (by decide) rfl
  | 15, _ => exact r14.at (j := 0) (by decide) rfl
  | j + 16, h => omega
theorem rd_contract (h : Treads enc prog W spare held fuel 27 cs x) : ∃ a : Es.Contract, a.holders.length ≤ maxLen ∧ a.units.length ≤ maxLen ∧ a.acts.length ≤ maxLen ∧ a.clauses.length ≤ maxLen ∧ a.off.length ≤ maxLen ∧ RowRep W (conC a) 7 cs := by
  obtain ⟨hl, n, hf⟩ := rd_struct underlying27 h
  rw [c_contract] at hl
  obtain ⟨y0, h0⟩ : ∃ y, Treads enc prog W spare held n 3 ((cs.drop 0).take (prog.cellsOf 3)) y := hf 0 _ rfl
  rw [c_int] at h0
  obtain ⟨a0, r0⟩ := rd_i h0
  obtain ⟨y1, h1⟩ : ∃ y, Treads enc prog W spare held n 22 ((cs.drop 1).take (prog.cellsOf 22)) y := hf 1 _ rfl
  rw [c_sl_int] at h1
  obtain ⟨a1, b1, r1⟩ := rd_slice (f := intC) underlying22 c_int (by decide) (fun _ _ _ h => rd_i h) h1
  obtain ⟨y2, h2⟩ : ∃ y, Treads enc prog W spare held n 23 ((cs.drop 2).take (prog.cellsOf 23)) y := hf 2 _ rfl
  rw [c_sl_unit] at h2
  obtain ⟨a2, b2, r2⟩ := rd_slice (f := untC) underlying23 c_unit (by decide) (fun _ _ _ h => let ⟨a, _, h⟩ := rd_unit h; ⟨a, h⟩) h2
  obtain ⟨y3, h3⟩ : ∃ y, Treads enc prog W spare held n 24 ((cs.drop 3).take (prog.cellsOf 24)) y := hf 3 _ rfl
  rw [c_sl_act] at h3
  obtain ⟨a3, b3, r3⟩ := rd_slice (f := actC) underlying24 c_act (by decide) (fun _ _ _ h => rd_act h) h3
  obtain ⟨y4, h4⟩ : ∃ y, Treads enc prog W spare held n 25 ((cs.drop 4).take (prog.cellsOf 25)) y := hf 4 _ rfl
  rw [c_sl_clause] at h4
  obtain ⟨a4, b4, r4⟩ := rd_slice (f := clsC) underlying25 c_clause (by decide) (fun _ _ _ h => let ⟨a, _, h⟩ := rd_clause h; ⟨a, h⟩) h4
  obtain ⟨y5, h5⟩ : ∃ y, Treads enc prog W spare held n 3 ((cs.drop 5).take (prog.cellsOf 3)) y := hf 5 _ rfl
  rw [c_int] at h5
  obtain ⟨a5, r5⟩ := rd_i h5
  obtain ⟨y6, h6⟩ : ∃ y, Treads enc prog W spare held n 22 ((cs.drop 6).take (prog.cellsOf 22)) y := hf 6 _ rfl
  rw [c_sl_int] at h6
  obtain ⟨a6, b6, r6⟩ := rd_slice (f := intC) underlying22 c_int (by decide) (fun _ _ _ h => rd_i h) h6
  refine ⟨⟨a0, a1, a2, a3, a4, a5, a6⟩, b1, b2, b3, b4, b6, hl, fun j hj => ?_⟩
  match j, hj with
  | 0, _ => exact r0.at (j := 0) (by decide) rfl
  | 1, _ => exact r1.at (j := 0) (by decide) rfl
  | 2, _ => exact r2.at (j := 0) (by decide) rfl
  | 3, _ => exact r3.at (j := 0) (by decide) rfl
  | 4, _ => exact r4.at (j := 0) (by decide) rfl
  | 5, _ => exact r5.at (j := 0) (by decide) rfl
  | 6, _ => exact r6.at (j := 0) (by decide) rfl
theorem rd_mark (h : Treads enc prog W spare held fuel 47 cs x) : ∃ a : Es.Mark, RowRep W (mrkC a) 5 cs := by
  obtain ⟨hl, n, hf⟩ := rd_struct underlying47 h
  rw [c_mark] at hl
  obtain ⟨y0, h0⟩ : ∃ y, Treads enc prog W spare held n 3 ((cs.drop 0).take (prog.cellsOf 3)) y := hf 0 _ rfl
  rw [c_int] at h0
  obtain ⟨a0, r0⟩ := rd_i h0
  obtain ⟨y1, h1⟩ : ∃ y, Treads enc prog W spare held n 3 ((cs.drop 1).take (prog.cellsOf 3)) y := hf 1 _ rfl
  rw [c_int] at h1
  obtain ⟨a1, r1⟩ := rd_i h1
  obtain ⟨y2, h2⟩ : ∃ y, Treads enc prog W spare held n 3 ((cs.drop 2).take (prog.cellsOf 3)) y := hf 2 _ rfl
  rw [c_int] at h2
  obtain ⟨a2, r2⟩ := rd_i h2
  obtain ⟨y3, h3⟩ : ∃ y, Treads enc prog W spare held n 3 ((cs.drop 3).take (prog.cellsOf 3)) y := hf 3 _ rfl
  rw [c_int] at h3
  obtain ⟨a3, r3⟩ := rd_i h3
  obtain ⟨y4, h4⟩ : ∃ y, Treads enc prog W spare held n 4 ((cs.drop 4).take (prog.cellsOf 4)) y := hf 4 _ rfl
  rw [c_bool] at h4
  obtain ⟨a4, r4⟩ := rd_b h4
  refine ⟨⟨a0, a1, a2, a3, a4⟩, hl, fun j hj => ?_⟩
  match j, hj with
  | 0, _ => exact r0.at (j := 0) (by decide) rfl
  | 1, _ => exact r1.at (j := 0) (by decide) rfl
  | 2, _ => exact r2.at (j := 0) (by decide) rfl
  | 3, _ => exact r3.at (j := 0) (by decide) rfl
  | 4, _ => exact r4.at (j := 0) (by decide) rfl
theorem rd_state (h : Treads enc prog W spare held fuel 38 cs x) : ∃ a : Es.State, a.holders.length ≤ maxLen ∧ a.used.length ≤ maxLen ∧ a.marks.length ≤ maxLen ∧ RowRep W (staC a) 4 cs := by
  obtain ⟨hl, n, hf⟩ := rd_struct underlying38 h
  rw [c_state] at hl
  obtain ⟨y0, h0⟩ : ∃ y, Treads enc prog W spare held n 3 ((cs.drop 0).take (prog.cellsOf 3)) y := hf 0 _ rfl
  rw [c_int] at h0
  obtain ⟨a0, r0⟩ := rd_i h0
  obtain ⟨y1, h1⟩ : ∃ y, Treads enc prog W spare held n 22 ((cs.drop 1).take (prog.cellsOf 22)) y := hf 1 _ rfl
  rw [c_sl_int] at h1
  obtain ⟨a1, b1, r1⟩ := rd_slice (f := intC) underlying22 c_int (by decide) (fun _ _ _ h => rd_i h) h1
  obtain ⟨y2, h2⟩ : ∃ y, Treads enc prog W spare held n 35 ((cs.drop 2).take (prog.cellsOf 35)) y := hf 2 _ rfl
  rw [c_sl_bool] at h2
  obtain ⟨a2, b2, r2⟩ := rd_slice (f := booC) underlying35 c_bool (by decide) (fun _ _ _ h => rd_b h) h2
  obtain ⟨y3, h3⟩ : ∃ y, Treads enc prog W spare held n 36 ((cs.drop 3).take (prog.cellsOf 36)) y := hf 3 _ rfl
  rw [c_sl_mark] at h3
  obtain ⟨a3, b3, r3⟩ := rd_slice (f := mrkC) underlying36 c_mark (by decide) (fun _ _ _ h => rd_mark h) h3
  refine ⟨⟨a0, a1, a2, a3⟩, b1, b2, b3, hl, fun j hj => ?_⟩
  match j, hj with
  | 0, _ => exact r0.at (j := 0) (by decide) rfl
  | 1, _ => exact r1.at (j := 0) (by decide) rfl
  | 2, _ => exact r2.at (j := 0) (by decide) rfl
  | 3, _ => exact r3.at (j := 0) (by decide) rfl
theorem rd_patch (h : Treads enc prog W spare held fuel 34 cs x) : ∃ a : Es.Patch, a.clauses.length ≤ maxLen ∧ RowRep W (patC a) 19 cs := by
  obtain ⟨hl, n, hf⟩ := rd_struct underlying34 h
  rw [c_patch] at hl
  obtain ⟨y0, h0⟩ : ∃ y, Treads enc prog W spare held n 3 ((cs.drop 0).take (prog.cellsOf 3)) y := hf 0 _ rfl
  rw [c_int] at h0
  obtain ⟨a0, r0⟩ := rd_i h0
  obtain ⟨y1, h1⟩ : ∃ y, Treads enc prog W spare held n 22 ((cs.drop 1).take (prog.cellsOf 22)) y := hf 1 _ rfl
  rw [c_sl_int] at h1
  obtain ⟨a1, b1, r1⟩ := rd_slice (f := intC) underlying22 c_int (by decide) (fun _ _ _ h => rd_i h) h1
  obtain ⟨y2, h2⟩ : ∃ y, Treads enc prog W spare held n 32 ((cs.drop 2).take (prog.cellsOf 32)) y := hf 2 _ rfl
  rw [c_clause] at h2
  obtain ⟨a2, _, r2⟩ := rd_clause h2
  obtain ⟨y3, h3⟩ : ∃ y, Treads enc prog W spare held n 3 ((cs.drop 18).take (prog.cellsOf 3)) y := hf 3 _ rfl
  rw [c_int] at h3
  obtain ⟨a3, r3⟩ := rd_i h3
  refine ⟨⟨a0, a1, a2, a3⟩, b1, hl, fun j hj => ?_⟩
  match j, hj with
  | 0, _ => exact r0.at (j := 0) (by decide) rfl
  | 1, _ => exact r1.at (j := 0) (by decide) rfl
  | 2, _ => exact r2.at (j := 0) (by decide) rfl
  | 3, _ => exact r2.at (j := 1) (by decide) rfl
  | 4, _ => exact r2.at (j := 2) (by decide) rfl
  | 5, _ => exact r2.at (j := 3) (by decide) rfl
  | 6, _ => exact r2.at (j := 4) (by decide) rfl
  | 7, _ => exact r2.at (j := 5) (by decide) rfl
  | 8, _ => exact r2.at (j := 6) (by decide) rfl
  | 9, _ => exact r2.at (j := 7) (by decide) rfl
  | 10, _ => exact r2.at (j := 8) (by decide) rfl
  | 11, _ => exact r2.at (j := 9) (by decide) rfl
  | 12, _ => exact r2.at (j := 10) (by decide) rfl
  | 13, _ => exact r2.at (j := 11) (by decide) rfl
  | 14, _ => exact r2.at (j := 12) (by decide) rfl
  | 15, _ => exact r2.at (j := 13) (by decide) rfl
  | 16, _ => exact r2.at (j := 14) (by decide) rfl
  | 17, _ => exact r2.at (j := 15) (by decide) rfl
  | 18, _ => exact r3.at (j := 0) (by decide) rfl
  | j + 19, h => omega
theorem rd_amend (h : Treads enc prog W spare held fuel 69 cs x) : ∃ a : Es.Amend, RowRep W (amdC a) 22 cs := by
  obtain ⟨hl, n, hf⟩ := rd_struct underlying69 h
  rw [c_amend] at hl
  obtain ⟨y0, h0⟩ : ∃ y, Treads enc prog W spare held n 3 ((cs.drop 0).take (prog.cellsOf 3)) y := hf 0 _ rfl
  rw [c_int] at h0
  obtain ⟨a0, r0⟩ := rd_i h0
  obtain ⟨y1, h1⟩ : ∃ y, Treads enc prog W spare held n 3 ((cs.drop 1).take (prog.cellsOf 3)) y := hf 1 _ rfl
  rw [c_int] at h1
  obtain ⟨a1, r1⟩ := rd_i h1
  obtain ⟨y2, h2⟩ : ∃ y, Treads enc prog W spare held n 3 ((cs.drop 2).take (prog.cellsOf 3)) y := hf 2 _ rfl
  rw [c_int] at h2
  obtain ⟨a2, r2⟩ := rd_i h2
  obtain ⟨y3, h3⟩ : ∃ y, Treads enc prog W spare held n 34 ((cs.drop 3).take (prog.cellsOf 34)) y := hf 3 _ rfl
  rw [c_patch] at h3
  obtain ⟨a3, _, r3⟩ := rd_patch h3
  refine ⟨⟨a0, a1, a2, a3⟩, hl, fun j hj => ?_⟩
  match j, hj with
  | 0, _ => exact r0.at (j := 0) (by decide) rfl
  | 1, _ => exact r1.at (j := 0) (by decide) rfl
  | 2, _ => exact r2.at (j := 0) (by decide) rfl
  | 3, _ => exact r3.at (j := 0) (by decide) rfl
  | 4, _ => exact r3.at (j := 1) (by decide) rfl
  | 5, _ => exact r3.at (j := 2) (by decide) rfl
  | 6, _ => exact r3.at (j := 3) (by decide) rfl
  | 7, _ => exact r3.at (j := 4) (by decide) rfl
  | 8, _ => exact r3.at (j := 5) (by decide) rfl
  | 9, _ => exact r3.at (j := 6) (by decide) rfl
  | 10, _ => exact r3.at (j := 7) (by decide) rfl
  | 11, _ => exact r3.at (j := 8) (by decide) rfl
  | 12, _ => exact r3.at (j := 9) (by decide) rfl
  | 13, _ => exact r3.at (j := 10) (by decide) rfl
  | 14, _ => exact r3.at (j := 11) (by decide) rfl
  | 15, _ => exact r3.at (j := 12) (by decide) rfl
  | 16, _ => exact r3.at (j := 13) (by decide) rfl
  | 17, _ => exact r3.at (j := 14) (by decide) rfl
  | 18, _ => exact r3.at (j := 15) (by decide) rfl
  | 19, _ => exact r3.at (j := 16) (by decide) rfl
  | 20, _ => exact r3.at (j := 17) (by decide) rfl
  | 21, _ => exact r3.at (j := 18) (by decide) rfl
  | j + 22, h => omega
end

end Tryz
end Go.Proofs
end
section
/-
  What the program's functions compute, part 5: clauses start.
-/
namespace Es
def startMark (c : Contract) (s : State) (i : Int) : Mark := ⟨1, (at_ c.clauses i).after, 0, if (at_ c.clauses i).kind != 4 then at_ s.holders (at_ c.clauses i).role else -1, false⟩
def stepB (c : Contract) (s : State) (acc : List Mark × Bool) (i : Nat) : List Mark × Bool :=
  if ready c { s with marks := acc.1 } (i : Int) then (acc.1.set i (startMark c s (i : Int)), true) else acc
def pass (c : Contract) (s : State) (k : Nat) : List Mark × Bool := (List.range k).foldl (stepB c s) (s.marks, false)
theorem pass_succ (c : Contract) (s : State) (k : Nat) : pass c s (k + 1) = stepB c s (pass c s k) k := by
  unfold pass; rw [List.range_succ, List.foldl_append]; rfl
def beginF : Nat → Contract → State → State
  | 0, _, s => s
  | n + 1, c, s =>
    let p := pass c s c.clauses.length
    if p.2 then beginF n c { s with marks := p.1 } else { s with marks := p.1 }
def idle (ms : List Mark) : Nat := ms.countP (fun m => m.status == 0)
def begin_ (c : Contract) (s : State) : State := beginF (idle s.marks + 1) c s

theorem idle_set {ms : List Mark} {i : Nat} {m : Mark} (hi : i < ms.length) (h0 : ((at_ ms (i : Int)).status == 0) = true) (hm : (m.status == 0) = false) : idle (ms.set i m) + 1 = idle ms := by
  unfold idle
  rw [at_nat hi] at h0
  rw [List.countP_set hi]
  simp only [h0, hm, if_true, Bool.false_eq_true, if_false, Nat.add_zero]
  have : 0 < ms.countP (fun m => m.status == 0) := List.countP_pos_iff.2 ⟨ms[i], List.getElem_mem _, h0⟩
  omega
theorem ready_idle {c : Contract} {s : State} {i : Int} (h : ready c s i = true) : ((at_ s.marks i).status == 0) = true := by
  unfold ready at h
  simp only [Bool.and_eq_true] at h
  exact h.1.1
theorem pass_idle (c : Contract) (s : State) : ∀ k : Nat, k ≤ s.marks.length → (pass c s k).1.length = s.marks.length ∧ idle (pass c s k).1 + (if (pass c s k).2 then 1 else 0) ≤ idle s.marks
  | 0, _ => ⟨rfl, by simp [pass]⟩
  | k + 1, hk => by
    obtain ⟨h1, h2⟩ := pass_idle c s k (by omega)
    rw [pass_succ]
    unfold stepB
    split
    · rename_i hr
      have h0 := ready_idle hr
      have hlt : k < (pass c s k).1.length := by omega
      have := idle_set (m := startMark c s (k : Int)) hlt h0 rfl
      refine ⟨by simpa using h1, ?_⟩
      simp only [if_true]
      split at h2 <;> omega
    · exact ⟨h1, h2⟩
theorem beginF_step {c : Contract} {s : State} (hl : s.marks.length = c.clauses.length) (h : (pass c s c.clauses.length).2 = true) : begin_ c s = begin_ c { s with marks := (pass c s c.clauses.length).1 } := by
  have key : ∀ (n m : Nat) (s : State), s.marks.length = c.clauses.length → idle s.marks < n → idle s.marks < m → beginF n c s = beginF m c s := by
    intro n
    induction n with
    | zero => intro m s _ h; omega
    | succ n ih =>
      intro m s hl hn hm
      cases m with
      | zero => omega
      | succ m =>
        simp only [beginF]
        have hp := pass_idle c s c.clauses.length (by omega)
        split
        · rename_i h
          rw [if_pos h] at hp
          exact ih m _ (by simp only; omega) (by simp only; omega) (by simp only; omega)
        · rfl
  unfold begin_
  have hp := pass_idle c s c.clauses.length (by omega)
  rw [if_pos h] at hp
  show beginF (idle s.marks + 1) c s = _
  rw [show beginF (idle s.marks + 1) c s = beginF (idle s.marks) c { s with marks := (pass c s c.clauses.length).1 } by simp only [beginF, h, if_true]]
  exact key _ _ _ (by simp only; omega) (by simp only; omega) (by simp only; omega)
theorem begin_done {c : Contract} {s : State} (h : (pass c s c.clauses.length).2 = false) : begin_ c s = { s with marks := (pass c s c.clauses.length).1 } := by
  unfold begin_; simp only [beginF, h, Bool.false_eq_true, if_false]
def runs (m : Mark) : Bool := m.status == 1 || m.status == 2
/-- The marks, when the first k clauses have been met by a round that does g. -/
def met (g : Nat → Mark → Mark) (ms : List Mark) (k : Nat) : List Mark :=
  (List.range k).foldl (fun (l : List Mark) (i : Nat) => if runs (at_ l (i : Int)) then l.set i (g i (at_ l (i : Int))) else l) ms
theorem met_succ (g : Nat → Mark → Mark) (ms : List Mark) (k : Nat) : met g ms (k + 1) = if runs (at_ (met g ms k) (k : Int)) then (met g ms k).set k (g k (at_ (met g ms k) (k : Int))) else met g ms k := by
  unfold met; rw [List.range_succ, List.foldl_append]; rfl
theorem met_length (g : Nat → Mark → Mark) (ms : List Mark) : ∀ k : Nat, (met g ms k).length = ms.length
  | 0 => rfl
  | k + 1 => by
    rw [met_succ]
    split
    · rw [List.length_set]; exact met_length g ms k
    · exact met_length g ms k
/-- What has not been met is as it was. -/
theorem met_at (g : Nat → Mark → Mark) (ms : List Mark) : ∀ (k j : Nat), k ≤ j → at_ (met g ms k) (j : Int) = at_ ms (j : Int)
  | 0, _, _ => rfl
  | k + 1, j, h => by
    rw [met_succ]
    split
    · rw [← met_at g ms k j (by omega)]
      simp only [at_, Int.toNat_natCast, List.getD_eq_getElem?_getD, List.getElem?_set]
      rw [if_neg (by omega)]
    · exact met_at g ms k j (by omega)
theorem at_set_self {l : List Mark} {r : Nat} (hr : r < l.length) (m : Mark) : at_ (l.set r m) (r : Int) = m := by simp [at_, List.getD, hr]
theorem at_set_ne {l : List Mark} {r j : Nat} (hr : r ≠ j) (m : Mark) : at_ (l.set r m) (j : Int) = at_ l (j : Int) := by
  simp [at_, List.getD, List.getElem?_set, hr]
theorem met_done (g : Nat → Mark → Mark) (ms : List Mark) : ∀ (k j : Nat), j < k → j < ms.length → at_ (met g ms k) (j : Int) = if runs (at_ ms (j : Int)) then g j (at_ ms (j : Int)) else at_ ms (j : Int)
  | 0, _, h, _ => by omega
  | k + 1, j, h, hl => by
    rw [met_succ]
    rcases Nat.lt_or_ge j k with hj | hj
    · rw [← met_done g ms k j hj hl]
      split
      · exact at_set_ne (by omega) _
      · rfl
    · have : j = k := by omega
      subst this
      have hm := met_at g ms j j (Nat.le_refl _)
      split
      · rename_i hr
        rw [hm] at hr
        rw [at_set_self (by rw [met_length]; exact hl), hm, if_pos hr]
      · rename_i hr
        rw [hm] at hr
        rw [if_neg hr, hm]
end Es
end
section
/-
  What the program's functions compute, part 6: days and acts.
-/
namespace Es
def older (x : Clause) (m : Mark) : Mark :=
  if x.kind == 1 then
    if m.status == 1 && decide (0 < x.grace) then { m with status := 2, left := x.grace } else { m with status := 4, left := 0, paused := false }
  else if x.kind == 2 then { m with status := 3, left := 0, paused := false }
  else { m with status := 5, left := 0, paused := false }
/-- What a day does to the mark of a running clause. -/
def dayMark (c : Contract) (s : State) (i : Nat) (m : Mark) : Mark :=
  if m.paused || ((at_ c.clauses (i : Int)).business && c.off.contains s.day) then m
  else if m.left - 1 == 0 then older (at_ c.clauses (i : Int)) { m with left := m.left - 1 } else { m with left := m.left - 1 }
end Es
end
section
/-
  What the program's functions compute, part 7: acts and steps.
-/
namespace Es
theorem at_nn {α : Type} [Inhabited α] (l : List α) (i : Int) : at_ l (i.toNat : Int) = at_ l i := by unfold at_; rw [Int.toNat_natCast]
def ended (m : Mark) (st : Int) : Mark := { m with status := st, left := 0, paused := false }
def countedM (x : Clause) (m : Mark) : Mark :=
  if x.kind == 1 then (if m.got + 1 == x.need then ended { m with got := m.got + 1 } 3 else { m with got := m.got + 1 })
  else if x.kind == 2 then (if m.paused then m else ended m 4)
  else ended m 3
/-- What an act does to the mark of a running clause. -/
def actMark (c : Contract) (act who : Int) (i : Nat) (m : Mark) : Mark :=
  let x := at_ c.clauses (i : Int)
  let m := if x.pause == act then { m with paused := true } else m
  let m := if x.resume == act then { m with paused := false } else m
  if x.act == act && (x.kind == 4 || m.bearer == who) then countedM x m else m
def novMark (c : Contract) (a : ActT) (i : Nat) (m : Mark) : Mark :=
  if (at_ c.clauses (i : Int)).kind != 4 && (at_ c.clauses (i : Int)).role == a.give then { m with bearer := a.to } else m
def doer (c : Contract) (s : State) (a : Int) : Int := if (at_ c.acts a).role == -1 then -1 else at_ s.holders (at_ c.acts a).role
def tickS (c : Contract) (s : State) : State := { s with marks := met (dayMark c s) s.marks c.clauses.length }
def doS (c : Contract) (s : State) (act : Int) : State :=
  if at_ s.used act then s else
  let a := at_ c.acts act
  let m1 := met (actMark c act (doer c s act)) s.marks c.clauses.length
  let m2 := if a.kind == 3 then met (novMark c a) m1 c.clauses.length else m1
  { s with marks := m2, holders := if a.kind != 1 then s.holders.set a.give.toNat a.to else s.holders, used := if a.kind != 1 then s.used.set act.toNat true else s.used }
def step (c : Contract) (s : State) (k : Int) : State × Int :=
  if !sValid c s || decide (k < -1) || decide (len c.acts ≤ k) then (⟨0, [], [], []⟩, 1)
  else if s.day == c.days then (⟨0, [], [], []⟩, 13)
  else (begin_ c (if k == -1 then { tickS c s with day := s.day + 1 } else doS c s k), 0)
def mark0 (x : Clause) : Mark := ⟨if x.waived then 5 else 0, 0, 0, -1, false⟩
def state0 (c : Contract) : State := ⟨0, c.holders, List.replicate c.acts.length false, c.clauses.map mark0⟩
def start (c : Contract) : State × Int :=
  if !((valid2 c).1 == 0) then (⟨0, [], [], []⟩, 1) else (begin_ c (state0 c), 0)
def doerX (c : Contract) (s : State) (act : Int) : Int := if !sValid c s || decide (act < 0) || decide (len c.acts ≤ act) then -2 else doer c s act
def breach (c : Contract) (s : State) (p : Int) : Bool :=
  if !sValid c s || decide (p < 0) then false else (List.range s.marks.length).any fun i => (at_ c.clauses (i : Int)).final && ((at_ s.marks (i : Int)).status == 4) && ((at_ s.marks (i : Int)).bearer == p)
end Es
end
section
/-
  Plain laws of the states of a contract, part 1: what a valid contract gives; clauses start; a well-formed state stays so.
-/
namespace Es
structure COk (c : Contract) (x : Clause) : Prop where
  kind : x.kind = 1 ∨ x.kind = 2 ∨ x.kind = 3 ∨ x.kind = 4
  act : 0 ≤ x.act ∧ x.act < len c.acts
  need : 1 ≤ x.need ∧ x.need ≤ 9
  after : 1 ≤ x.after ∧ x.after ≤ 400
  grace : 0 ≤ x.grace ∧ x.grace ≤ 400
  role : x.kind ≠ 4 → 0 ≤ x.role ∧ x.role < len c.holders
  late : x.kind ≠ 1 → x.grace = 0
theorem clauseB_facts {c : Contract} {i : Int} {x : Clause} {d p f : Bool} {n g : Int} (h : clauseB c i x d n g p f = true) :
    d = true ∧ (0 ≤ x.act ∧ x.act < len c.acts) ∧ (1 ≤ x.need ∧ x.need ≤ n) ∧ (0 ≤ x.grace ∧ x.grace ≤ g) ∧ (1 ≤ x.after ∧ x.after ≤ 400) := by
  unfold clauseB at h
  split at h
  · cases h
  · rename_i h1
    simp only [under, within, Bool.or_eq_true, Bool.not_eq_true', not_or, Bool.not_eq_false, Bool.and_eq_true, decide_eq_true_eq] at h1
    obtain ⟨⟨⟨⟨⟨⟨h1, h2⟩, h3⟩, h4⟩, h5⟩, _⟩, _⟩ := h1
    exact ⟨h1, h2, h3, h4, h5⟩
theorem clauseOk_facts {c : Contract} {i : Int} (h : clauseOk c i = true) : COk c (at_ c.clauses i) := by
  unfold clauseOk at h
  simp only at h
  generalize at_ c.clauses i = x at *
  split at h
  · rename_i hk
    simp only [beq_iff_eq] at hk
    obtain ⟨h1, h2, h3, h4, h5⟩ := clauseB_facts h
    simp only [under, Bool.and_eq_true, decide_eq_true_eq] at h1
    exact ⟨.inl hk, h2, ⟨by omega, by omega⟩, h5, h4, fun _ => h1.1, fun hn => absurd hk hn⟩
  · split at h
    · rename_i hk
      simp only [beq_iff_eq] at hk
      obtain ⟨h1, h2, h3, h4, h5⟩ := clauseB_facts h
      simp only [under, Bool.and_eq_true, decide_eq_true_eq] at h1
      exact ⟨.inr (.inl hk), h2, ⟨by omega, by omega⟩, h5, ⟨by omega, by omega⟩, fun _ => h1.1, fun _ => by omega⟩
    · split at h
      · rename_i hk
        simp only [beq_iff_eq] at hk
        obtain ⟨h1, h2, h3, h4, h5⟩ := clauseB_facts h
        simp only [under, Bool.and_eq_true, decide_eq_true_eq] at h1
        exact ⟨.inr (.inr (.inl hk)), h2, ⟨by omega, by omega⟩, h5, ⟨by omega, by omega⟩, fun _ => h1.1, fun _ => by omega⟩
      · split at h
        · rename_i hk
          simp only [beq_iff_eq] at hk
          obtain ⟨h1, h2, h3, h4, h5⟩ := clauseB_facts h
          exact ⟨.inr (.inr (.inr hk)), h2, ⟨by omega, by omega⟩, h5, ⟨by omega, by omega⟩, fun hn => absurd hk hn, fun _ => by omega⟩
        · cases h
/-- What a valid contract gives. -/
structure VOk (c : Contract) : Prop where
  small : c.parties ≤ 12 ∧ c.days ≤ 2000 ∧ c.holders.length ≤ 12 ∧ c.units.length ≤ 20 ∧ c.acts.length ≤ 60 ∧ c.clauses.length ≤ 400
  pos : 1 ≤ c.parties ∧ 1 ≤ c.days
  hne : c.holders.length ≠ 0
  holders : ∀ p ∈ c.holders, 0 ≤ p ∧ p < c.parties
  acts : ∀ a ∈ c.acts, act c a = true
  off : offOk c.days (-1) c.off = true
  clause : ∀ j : Nat, j < c.clauses.length → COk c (at_ c.clauses (j : Int))
theorem valid2_ok {c : Contract} (h : (valid2 c).1 = 0) : VOk c := by
  have hc := fun (j : Nat) hj => clauseOk_facts (valid2_clause (c := c) (by simpa using h) (j := j) hj)
  unfold valid2 at h
  split at h
  · simp at h
  rename_i h1
  split at h
  · simp at h
  rename_i h2
  simp only [Bool.or_eq_true, not_or, decide_eq_true_eq] at h1
  simp only [len] at h1
  unfold frame at h2
  simp only [Bool.not_eq_true', Bool.not_eq_false] at h2
  split at h2
  · cases h2
  rename_i h3
  split at h2
  · cases h2
  rename_i h4
  split at h2
  · cases h2
  rename_i h5
  simp only [Bool.or_eq_true, not_or, decide_eq_true_eq] at h3
  simp only [Bool.not_eq_true', Bool.not_eq_false, List.all_eq_true, under, Bool.and_eq_true, decide_eq_true_eq] at h4 h5
  exact ⟨by clear h h2 h3 h4 h5; omega, by omega, by have := h3.2; simpa [len] using this, h4, h5, h2, hc⟩
theorem act_moves {c : Contract} {a : ActT} (h : act c a = true) (hk : a.kind ≠ 1) : (a.kind = 2 ∨ a.kind = 3) ∧ (0 ≤ a.role ∧ a.role < len c.holders) ∧ (0 ≤ a.give ∧ a.give < len c.holders) ∧ (0 ≤ a.to ∧ a.to < c.parties) := by
  unfold act at h
  split at h
  · rename_i hm
    simp only [role, under, Bool.and_eq_true, decide_eq_true_eq] at h
    simp only [moves, Bool.or_eq_true, beq_iff_eq] at hm
    exact ⟨hm, h.1.1.1, h.1.1.2, h.1.2⟩
  · rw [if_pos (by simp [hk])] at h; cases h
theorem act_role {c : Contract} {a : ActT} (h : act c a = true) (hr : a.role ≠ -1) : 0 ≤ a.role ∧ a.role < len c.holders := by
  unfold act at h
  split at h
  · simp only [role, under, Bool.and_eq_true, decide_eq_true_eq] at h
    exact h.1.1.1
  · split at h
    · cases h
    · split at h
      · rename_i hh; exact absurd (by simpa only [beq_iff_eq] using hh) hr
      · simp only [role, Bool.and_eq_true] at h
        have := h.1
        simp only [under, Bool.and_eq_true, decide_eq_true_eq] at this
        exact this
theorem off_sorted {days : Int} : ∀ (l : List Int) (last : Int), offOk days last l = true → (∀ x ∈ l, last < x) ∧ ∀ a b : Nat, a < b → b < l.length → at_ l (a : Int) < at_ l (b : Int)
  | [], _, _ => ⟨fun x h => (by cases h), fun a b _ h => (by simp at h)⟩
  | d :: l, last, h => by
    unfold offOk at h
    split at h
    · cases h
    rename_i h1
    simp only [Bool.or_eq_true, decide_eq_true_eq, not_or] at h1
    obtain ⟨g1, g2⟩ := off_sorted l d h
    refine ⟨fun x hx => ?_, fun a b hab hb => ?_⟩
    · rcases List.mem_cons.1 hx with rfl | hx
      · omega
      · have := g1 x hx; omega
    · cases b with
      | zero => omega
      | succ b =>
        have hb' : b < l.length := by simpa using hb
        cases a with
        | zero =>
          have : at_ l (b : Int) ∈ l := at_mem hb'
          have := g1 _ this
          simpa [at_] using this
        | succ a => simpa [at_] using g2 a b (by omega) hb'

/-- A state that is well-formed, but for clauses that could start. -/
structure Core (c : Contract) (s : State) : Prop where
  con : (valid2 c).1 = 0
  day : 0 ≤ s.day ∧ s.day ≤ c.days
  hl : s.holders.length = c.holders.length
  ul : s.used.length = c.acts.length
  ml : s.marks.length = c.clauses.length
  holders : ∀ p ∈ s.holders, 0 ≤ p ∧ p < c.parties
  used : ∀ i : Nat, i < s.used.length → at_ s.used (i : Int) = true → (at_ c.acts (i : Int)).kind ≠ 1
  marks : ∀ i : Nat, i < s.marks.length → wellFormed c (at_ c.clauses (i : Int)) (at_ s.marks (i : Int)) = true
theorem sValid_iff {c : Contract} {s : State} : sValid c s = true ↔ Core c s ∧ ∀ i : Nat, i < s.marks.length → ready c s (i : Int) = false := by
  unfold sValid
  constructor
  · intro h
    split at h
    · cases h
    rename_i h1
    split at h
    · cases h
    rename_i h2
    split at h
    · cases h
    rename_i h3
    split at h
    · cases h
    rename_i h4
    simp only [Bool.or_eq_true, not_or, Bool.not_eq_true', Bool.not_eq_false, beq_iff_eq, decide_eq_true_eq, bne_iff_ne, ne_eq, Decidable.not_not] at h1
    simp only [len] at h1
    simp only [List.any_eq_true, not_exists, not_and, Bool.or_eq_true, decide_eq_true_eq, not_or] at h2
    simp only [Bool.not_eq_true', Bool.not_eq_false, allN_iff] at h3 h4 h
    refine ⟨⟨by omega, by omega, by omega, by omega, by omega, fun p hp => ?_, fun i hi hu => ?_, h4⟩, fun i hi => ?_⟩
    · have := h2 p hp; omega
    · have := h3 i hi; simpa [hu] using this
    · simpa using h i hi
  · rintro ⟨⟨a1, a2, a3, a4, a5, a6, a7, a8⟩, a9⟩
    rw [if_neg, if_neg, if_neg, if_neg]
    · rw [allN_iff]; intro j hj; simp [a9 j hj]
    · simp only [Bool.not_eq_true', Bool.not_eq_false, allN_iff]; exact a8
    · simp only [Bool.not_eq_true', Bool.not_eq_false, allN_iff]
      intro j hj
      cases hu : at_ s.used (j : Int) with
      | false => rfl
      | true => simpa using a7 j hj hu
    · simp only [List.any_eq_true, not_exists, not_and, Bool.or_eq_true, decide_eq_true_eq, not_or]
      intro p hp; have := a6 p hp; omega
    · simp only [Bool.or_eq_true, not_or, Bool.not_eq_true', Bool.not_eq_false, beq_iff_eq, decide_eq_true_eq, bne_iff_ne, ne_eq, Decidable.not_not]
      simp only [len]
      omega

/-! ### clauses start -/
/-- What clauses that start leave: idle clauses may run now, with all their days; the others are as they were. -/
structure Began (c : Contract) (s : State) (ms : List Mark) : Prop where
  len : ms.length = s.marks.length
  old : ∀ i : Nat, i < s.marks.length → (at_ s.marks (i : Int)).status ≠ 0 → at_ ms (i : Int) = at_ s.marks (i : Int)
  new : ∀ i : Nat, i < s.marks.length → (at_ s.marks (i : Int)).status = 0 → at_ ms (i : Int) = at_ s.marks (i : Int) ∨
    (at_ ms (i : Int) = startMark c s (i : Int) ∧ (at_ c.clauses (i : Int)).waived = false ∧ ∀ x ∈ (at_ c.clauses (i : Int)).start, fails { s with marks := ms } x = false)
theorem startMark_marks (c : Contract) (s : State) (ms : List Mark) (i : Int) : startMark c { s with marks := ms } i = startMark c s i := rfl
/-- A condition that holds goes on to hold while clauses start. -/
theorem fails_set {c : Contract} {s : State} {ms : List Mark} {i : Nat} (h0 : (at_ ms (i : Int)).status = 0) (hi : i < ms.length) {x : Cond} (h : fails { s with marks := ms } x = false) : fails { s with marks := ms.set i (startMark c s (i : Int)) } x = false := by
  unfold fails at h ⊢
  simp only at h ⊢
  by_cases hx : i = x.clause.toNat
  · have e1 : at_ ms x.clause = at_ ms (i : Int) := by rw [hx]; exact (at_nn _ _).symm
    have e2 : at_ (ms.set i (startMark c s (i : Int))) x.clause = startMark c s (i : Int) := by
      have := at_set_self hi (startMark c s (i : Int))
      simp only [at_, Int.toNat_natCast] at this ⊢
      rw [← hx]; exact this
    rw [e1, h0] at h
    rw [e2]
    by_cases h2 : x.is = 2
    · simp [h2] at h
    · by_cases h3 : x.is = 3
      · simp [h3] at h
      · by_cases h4 : x.is = 4
        · simp [h4] at h
        · simp [h2, h3, h4] at h
  · have e2 : at_ (ms.set i (startMark c s (i : Int))) x.clause = at_ ms x.clause := by
      simp [at_, List.getD, List.getElem?_set, hx]
    rw [e2]; exact h
theorem Began.refl (c : Contract) (s : State) : Began c s s.marks := ⟨rfl, fun _ _ _ => rfl, fun _ _ _ => .inl rfl⟩
theorem Began.step {c : Contract} {s : State} {ms : List Mark} {f : Bool} (h : Began c s ms) (k : Nat) : Began c s (stepB c s (ms, f) k).1 := by
  unfold stepB
  simp only
  split
  · rename_i hr
    by_cases hk : k < s.marks.length
    case neg =>
      simp only
      rw [List.set_eq_of_length_le (by rw [h.len]; omega)]; exact h
    have h0 := ready_idle hr
    simp only [beq_iff_eq] at h0
    have hkl : k < ms.length := by rw [h.len]; exact hk
    have hs0 : (at_ s.marks (k : Int)).status = 0 := by
      rcases Decidable.em ((at_ s.marks (k : Int)).status = 0) with h1 | h1
      · exact h1
      · have := h.old k hk h1; rw [this] at h0; exact absurd h0 h1
    refine ⟨by simpa using h.len, fun i hi hne => ?_, fun i hi he => ?_⟩
    · have hik : k ≠ i := by rintro rfl; exact hne hs0
      simp only [at_set_ne hik]
      exact h.old i hi hne
    · by_cases hik : k = i
      · subst hik
        refine .inr ⟨at_set_self hkl _, ?_, fun x hx => ?_⟩
        · unfold ready at hr; simp only [Bool.and_eq_true, Bool.not_eq_true'] at hr; exact hr.1.2
        · have : fails { s with marks := ms } x = false := by
            unfold ready at hr
            simp only [Bool.and_eq_true, Bool.not_eq_true', List.any_eq_false] at hr
            simpa using hr.2 x hx
          exact fails_set h0 hkl this
      · rcases h.new i hi he with h1 | ⟨h1, h2, h3⟩
        · exact .inl (by simp only [at_set_ne hik]; exact h1)
        · exact .inr ⟨by simp only [at_set_ne hik]; exact h1, h2, fun x hx => fails_set h0 hkl (h3 x hx)⟩
  · exact h
theorem Began.pass {c : Contract} {s : State} : ∀ k : Nat, Began c s (pass c s k).1
  | 0 => Began.refl c s
  | k + 1 => by
    rw [pass_succ]
    have h := Began.pass (c := c) (s := s) k
    generalize Es.pass c s k = p at *
    obtain ⟨ms, f⟩ := p
    exact h.step k
theorem Began.trans {c : Contract} {s : State} {ms ms' : List Mark} (h : Began c s ms) (k : Began c { s with marks := ms } ms') : Began c s ms' := by
  refine ⟨k.len.trans h.len, fun i hi hne => ?_, fun i hi he => ?_⟩
  · have h1 := h.old i hi hne
    have := k.old i (by simp only; rw [h.len]; exact hi) (by simp only; rw [h1]; exact hne)
    simp only at this
    rw [this, h1]
  · rcases h.new i hi he with h1 | ⟨h1, h2, h3⟩
    · have he' : (at_ ms (i : Int)).status = 0 := by rw [h1]; exact he
      rcases k.new i (by simp only; rw [h.len]; exact hi) he' with k1 | ⟨k1, k2, k3⟩
      · exact .inl (by simp only at k1; rw [k1, h1])
      · exact .inr ⟨k1, k2, k3⟩
    · have hne : (at_ ms (i : Int)).status ≠ 0 := by rw [h1]; simp [startMark]
      have := k.old i (by simp only; rw [h.len]; exact hi) hne
      simp only at this
      refine .inr ⟨by rw [this, h1], h2, fun x hx => ?_⟩
      have hf := h3 x hx
      unfold fails at hf ⊢
      simp only at hf ⊢
      by_cases hxl : x.clause.toNat < s.marks.length
      · have hcast : at_ ms x.clause = at_ ms (x.clause.toNat : Int) := (at_nn _ _).symm
        have hcast' : at_ ms' x.clause = at_ ms' (x.clause.toNat : Int) := (at_nn _ _).symm
        by_cases hz : (at_ ms x.clause).status = 0
        · rw [hz] at hf
          by_cases h2 : x.is = 2
          · simp [h2] at hf
          · by_cases h3 : x.is = 3
            · simp [h3] at hf
            · by_cases h4 : x.is = 4
              · simp [h4] at hf
              · simp [h2, h3, h4] at hf
        · rw [hcast] at hz
          have := k.old x.clause.toNat (by simp only; rw [h.len]; exact hxl) hz
          simp only at this
          rw [hcast', this, ← hcast]; exact hf
      · have e1 : at_ ms' x.clause = at_ ms x.clause := by
          have h1 := k.len
          have h2 := h.len
          simp only at h1
          simp [at_, List.getD, List.getElem?_eq_none (show ms'.length ≤ x.clause.toNat by omega), List.getElem?_eq_none (show ms.length ≤ x.clause.toNat by omega)]
        rw [e1]; exact hf
theorem pass_false {c : Contract} {s : State} : ∀ k : Nat, (pass c s k).2 = false → (pass c s k).1 = s.marks ∧ ∀ i : Nat, i < k → ready c s (i : Int) = false
  | 0, _ => ⟨rfl, fun i h => by omega⟩
  | k + 1, h => by
    rw [pass_succ] at h ⊢
    unfold stepB at h ⊢
    split at h
    · simp at h
    · rename_i hr
      obtain ⟨h1, h2⟩ := pass_false k h
      rw [if_neg hr]
      refine ⟨h1, fun i hi => ?_⟩
      rcases Nat.lt_or_ge i k with hh | hh
      · exact h2 i hh
      · have : i = k := by omega
        subst this
        rw [h1] at hr
        simpa using hr
theorem beginF_spec {c : Contract} : ∀ (n : Nat) (s : State), s.marks.length = c.clauses.length → idle s.marks < n →
    ∃ ms, beginF n c s = { s with marks := ms } ∧ Began c s ms ∧ ∀ i : Nat, i < c.clauses.length → ready c { s with marks := ms } (i : Int) = false
  | 0, s, _, h => by omega
  | n + 1, s, hl, h => by
    simp only [beginF]
    have hp := pass_idle c s c.clauses.length (by omega)
    have hb := Began.pass (c := c) (s := s) c.clauses.length
    split
    · rename_i hq
      rw [if_pos hq] at hp
      obtain ⟨ms, h1, h2, h3⟩ := beginF_spec (c := c) n { s with marks := (pass c s c.clauses.length).1 } (by simp only; omega) (by simp only; omega)
      exact ⟨ms, h1, hb.trans h2, h3⟩
    · rename_i hq
      obtain ⟨h1, h2⟩ := pass_false c.clauses.length (by simpa using hq)
      exact ⟨_, rfl, hb, by rw [h1]; exact h2⟩
theorem begin_spec {c : Contract} {s : State} (hl : s.marks.length = c.clauses.length) :
    ∃ ms, begin_ c s = { s with marks := ms } ∧ Began c s ms ∧ ∀ i : Nat, i < c.clauses.length → ready c { s with marks := ms } (i : Int) = false := beginF_spec _ s hl (Nat.lt_succ_self _)
theorem pass_none {c : Contract} {s : State} : ∀ k : Nat, (∀ i : Nat, i < k → ready c s (i : Int) = false) → pass c s k = (s.marks, false)
  | 0, _ => rfl
  | k + 1, h => by
    rw [pass_succ, pass_none k fun i hi => h i (by omega)]
    unfold stepB
    rw [if_neg (by simpa using h k (by omega))]
/-- Where nothing can start, nothing does. -/
theorem begin_none {c : Contract} {s : State} (h : ∀ i : Nat, i < c.clauses.length → ready c s (i : Int) = false) : begin_ c s = s := by
  unfold begin_
  simp only [beginF, pass_none _ h, Bool.false_eq_true, if_false]
theorem role_party {c : Contract} {s : State} (hl : s.holders.length = c.holders.length) (hp : ∀ p ∈ s.holders, 0 ≤ p ∧ p < c.parties) {r : Int} (h : 0 ≤ r ∧ r < len c.holders) : 0 ≤ at_ s.holders r ∧ at_ s.holders r < c.parties := by
  have : at_ s.holders r = at_ s.holders (r.toNat : Int) := (at_nn _ _).symm
  rw [this]
  exact hp _ (at_mem (by have := h.2; simp only [len] at this; omega))
theorem Core.began {c : Contract} {s : State} (h : Core c s) {ms : List Mark} (hb : Began c s ms) : Core c { s with marks := ms } := by
  have hv := valid2_ok h.con
  refine ⟨h.con, h.day, h.hl, h.ul, hb.len.trans h.ml, h.holders, h.used, fun i hi => ?_⟩
  have hi' : i < s.marks.length := by rw [← hb.len]; exact hi
  have hc := hv.clause i (by rw [← h.ml]; exact hi')
  simp only
  by_cases h0 : (at_ s.marks (i : Int)).status = 0
  · rcases hb.new i hi' h0 with h1 | ⟨h1, h2, _⟩
    · rw [h1]; exact h.marks i hi'
    · rw [h1]
      have ha := hc.after
      have hn := hc.need
      by_cases hk : (at_ c.clauses (i : Int)).kind = 4
      · unfold wellFormed startMark; simp [hk, h2]; omega
      · have hr := role_party h.hl h.holders (hc.role hk)
        unfold wellFormed startMark party; simp [hk, h2]; omega
  · rw [hb.old i hi' h0]; exact h.marks i hi'
theorem Core.begin {c : Contract} {s : State} (h : Core c s) : sValid c (begin_ c s) = true := by
  obtain ⟨ms, h1, h2, h3⟩ := begin_spec (c := c) (s := s) h.ml
  rw [h1, sValid_iff]
  exact ⟨h.began h2, fun i hi => h3 i (by rw [← h.ml, ← h2.len]; exact hi)⟩
end Es
end
