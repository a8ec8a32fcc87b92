/-
  Parts of an abstract machine over the model, of the program's data and of what its functions compute: the texts Facts EncB ModB ModC ModD ModV EncV Read ModE ModF ModG LawA, merged.
-/
import Derived.Test.YtmdnombjckcfoaaDoorBb
import Derived.Test.YtmdnombjckcfoaaDoorProg
import Derived.KernelRfl
set_option linter.unusedSimpArgs false
set_option linter.unusedVariables false
section
/-
  Closed facts on the tables of types of the program, each asked of the kernel.
-/
namespace Go.Proofs
open Go Go.Abs
@[go_sem] theorem Tryd.kd1 : tKind Tryd.prog 1 = 4 := nr (by kernel_rfl)
@[go_sem] theorem Tryd.lay1 : tLay Tryd.prog 1 = (some (false, 1)) := nr (by kernel_rfl)
@[go_sem] theorem Tryd.zs1 : tZ Tryd.prog 1 = (some (.nilFunc :: [])) := nr (by kernel_rfl)
@[go_sem] theorem Tryd.kd2 : tKind Tryd.prog 2 = 9 := nr (by kernel_rfl)
@[go_sem] theorem Tryd.lay2 : tLay Tryd.prog 2 = (some (false, 1)) := nr (by kernel_rfl)
@[go_sem] theorem Tryd.zs2 : tZ Tryd.prog 2 = (some ((.int .i64 0) :: [])) := nr (by kernel_rfl)
@[go_sem] theorem Tryd.int2 : tInt Tryd.prog 2 = (some .i64) := nr (by kernel_rfl)
@[go_sem] theorem Tryd.kd3 : tKind Tryd.prog 3 = 9 := nr (by kernel_rfl)
@[go_sem] theorem Tryd.lay3 : tLay Tryd.prog 3 = (some (false, 1)) := nr (by kernel_rfl)
@[go_sem] theorem Tryd.zs3 : tZ Tryd.prog 3 = (some ((.int .i64 0) :: [])) := nr (by kernel_rfl)
@[go_sem] theorem Tryd.int3 : tInt Tryd.prog 3 = (some .i64) := nr (by kernel_rfl)
@[go_sem] theorem Tryd.kd4 : tKind Tryd.prog 4 = 5 := nr (by kernel_rfl)
@[go_sem] theorem Tryd.lay4 : tLay Tryd.prog 4 = (some (false, 1)) := nr (by kernel_rfl)
@[go_sem] theorem Tryd.zs4 : tZ Tryd.prog 4 = (some ((.bool false) :: [])) := nr (by kernel_rfl)
@[go_sem] theorem Tryd.kd5 : tKind Tryd.prog 5 = 9 := nr (by kernel_rfl)
@[go_sem] theorem Tryd.lay5 : tLay Tryd.prog 5 = (some (false, 1)) := nr (by kernel_rfl)
@[go_sem] theorem Tryd.zs5 : tZ Tryd.prog 5 = (some ((.int .u8 0) :: [])) := nr (by kernel_rfl)
@[go_sem] theorem Tryd.int5 : tInt Tryd.prog 5 = (some .u8) := nr (by kernel_rfl)
@[go_sem] theorem Tryd.kd6 : tKind Tryd.prog 6 = 9 := nr (by kernel_rfl)
@[go_sem] theorem Tryd.lay6 : tLay Tryd.prog 6 = (some (false, 1)) := nr (by kernel_rfl)
@[go_sem] theorem Tryd.zs6 : tZ Tryd.prog 6 = (some ((.int .u8 0) :: [])) := nr (by kernel_rfl)
@[go_sem] theorem Tryd.int6 : tInt Tryd.prog 6 = (some .u8) := nr (by kernel_rfl)
@[go_sem] theorem Tryd.kd7 : tKind Tryd.prog 7 = 7 := nr (by kernel_rfl)
@[go_sem] theorem Tryd.lay7 : tLay Tryd.prog 7 = (some (true, 4)) := nr (by kernel_rfl)
@[go_sem] theorem Tryd.zs7 : tZ Tryd.prog 7 = (some ((.int .i64 0) :: ((.int .i64 0) :: ((.bool false) :: ((.int .u8 0) :: []))))) := nr (by kernel_rfl)
@[go_sem] theorem Tryd.pl7_0 : tPlace Tryd.prog 7 0 = (some (0, 1)) := nr (by kernel_rfl)
@[go_sem] theorem Tryd.pl7_1 : tPlace Tryd.prog 7 1 = (some (1, 1)) := nr (by kernel_rfl)
@[go_sem] theorem Tryd.pl7_2 : tPlace Tryd.prog 7 2 = (some (2, 1)) := nr (by kernel_rfl)
@[go_sem] theorem Tryd.pl7_3 : tPlace Tryd.prog 7 3 = (some (3, 1)) := nr (by kernel_rfl)
@[go_sem] theorem Tryd.fld7_0 : tFld Tryd.prog 7 0 = (some 0) := nr (by kernel_rfl)
@[go_sem] theorem Tryd.fld7_1 : tFld Tryd.prog 7 1 = (some 1) := nr (by kernel_rfl)
@[go_sem] theorem Tryd.fld7_2 : tFld Tryd.prog 7 2 = (some 2) := nr (by kernel_rfl)
@[go_sem] theorem Tryd.fld7_3 : tFld Tryd.prog 7 3 = (some 3) := nr (by kernel_rfl)
@[go_sem] theorem Tryd.eqs7 : eqShape Tryd.prog 10000 7 = (some ((.i .i64) :: ((.i .i64) :: (.b :: ((.i .u8) :: []))))) := nr (by kernel_rfl)
@[go_sem] theorem Tryd.eqg7 : Tryd.prog.eqGuardType Tryd.prog.depth 7 = false := nr (by kernel_rfl)
@[go_sem] theorem Tryd.kd8 : tKind Tryd.prog 8 = 7 := nr (by kernel_rfl)
@[go_sem] theorem Tryd.lay8 : tLay Tryd.prog 8 = (some (true, 4)) := nr (by kernel_rfl)
@[go_sem] theorem Tryd.zs8 : tZ Tryd.prog 8 = (some ((.int .i64 0) :: ((.int .i64 0) :: ((.bool false) :: ((.int .u8 0) :: []))))) := nr (by kernel_rfl)
@[go_sem] theorem Tryd.pl8_0 : tPlace Tryd.prog 8 0 = (some (0, 1)) := nr (by kernel_rfl)
@[go_sem] theorem Tryd.pl8_1 : tPlace Tryd.prog 8 1 = (some (1, 1)) := nr (by kernel_rfl)
@[go_sem] theorem Tryd.pl8_2 : tPlace Tryd.prog 8 2 = (some (2, 1)) := nr (by kernel_rfl)
@[go_sem] theorem Tryd.pl8_3 : tPlace Tryd.prog 8 3 = (some (3, 1)) := nr (by kernel_rfl)
@[go_sem] theorem Tryd.fld8_0 : tFld Tryd.prog 8 0 = (some 0) := nr (by kernel_rfl)
@[go_sem] theorem Tryd.fld8_1 : tFld Tryd.prog 8 1 = (some 1) := nr (by kernel_rfl)
@[go_sem] theorem Tryd.fld8_2 : tFld Tryd.prog 8 2 = (some 2) := nr (by kernel_rfl)
@[go_sem] theorem Tryd.fld8_3 : tFld Tryd.prog 8 3 = (some 3) := nr (by kernel_rfl)
@[go_sem] theorem Tryd.eqs8 : eqShape Tryd.prog 10000 8 = (some ((.i .i64) :: ((.i .i64) :: (.b :: ((.i .u8) :: []))))) := nr (by kernel_rfl)
@[go_sem] theorem Tryd.eqg8 : Tryd.prog.eqGuardType Tryd.prog.depth 8 = false := nr (by kernel_rfl)
@[go_sem] theorem Tryd.kd9 : tKind Tryd.prog 9 = 2 := nr (by kernel_rfl)
@[go_sem] theorem Tryd.lay9 : tLay Tryd.prog 9 = (some (false, 1)) := nr (by kernel_rfl)
@[go_sem] theorem Tryd.zs9 : tZ Tryd.prog 9 = (some ((.string ByteArray.empty) :: [])) := nr (by kernel_rfl)
@[go_sem] theorem Tryd.kd10 : tKind Tryd.prog 10 = 2 := nr (by kernel_rfl)
@[go_sem] theorem Tryd.lay10 : tLay Tryd.prog 10 = (some (false, 1)) := nr (by kernel_rfl)
@[go_sem] theorem Tryd.zs10 : tZ Tryd.prog 10 = (some ((.string ByteArray.empty) :: [])) := nr (by kernel_rfl)
@[go_sem] theorem Tryd.kd11 : tKind Tryd.prog 11 = 2 := nr (by kernel_rfl)
@[go_sem] theorem Tryd.lay11 : tLay Tryd.prog 11 = (some (false, 1)) := nr (by kernel_rfl)
@[go_sem] theorem Tryd.zs11 : tZ Tryd.prog 11 = (some ((.string ByteArray.empty) :: [])) := nr (by kernel_rfl)
@[go_sem] theorem Tryd.kd12 : tKind Tryd.prog 12 = 9 := nr (by kernel_rfl)
@[go_sem] theorem Tryd.lay12 : tLay Tryd.prog 12 = (some (false, 1)) := nr (by kernel_rfl)
@[go_sem] theorem Tryd.zs12 : tZ Tryd.prog 12 = (some ((.int .u64 0) :: [])) := nr (by kernel_rfl)
@[go_sem] theorem Tryd.int12 : tInt Tryd.prog 12 = (some .u64) := nr (by kernel_rfl)
@[go_sem] theorem Tryd.kd13 : tKind Tryd.prog 13 = 7 := nr (by kernel_rfl)
@[go_sem] theorem Tryd.lay13 : tLay Tryd.prog 13 = (some (true, 2)) := nr (by kernel_rfl)
@[go_sem] theorem Tryd.zs13 : tZ Tryd.prog 13 = (some ((.string ByteArray.empty) :: ((.int .u64 0) :: []))) := nr (by kernel_rfl)
@[go_sem] theorem Tryd.pl13_0 : tPlace Tryd.prog 13 0 = (some (0, 1)) := nr (by kernel_rfl)
@[go_sem] theorem Tryd.pl13_1 : tPlace Tryd.prog 13 1 = (some (1, 1)) := nr (by kernel_rfl)
@[go_sem] theorem Tryd.fld13_0 : tFld Tryd.prog 13 0 = (some 0) := nr (by kernel_rfl)
@[go_sem] theorem Tryd.fld13_1 : tFld Tryd.prog 13 1 = (some 1) := nr (by kernel_rfl)
@[go_sem] theorem Tryd.kd14 : tKind Tryd.prog 14 = 7 := nr (by kernel_rfl)
@[go_sem] theorem Tryd.lay14 : tLay Tryd.prog 14 = (some (true, 2)) := nr (by kernel_rfl)
@[go_sem] theorem Tryd.zs14 : tZ Tryd.prog 14 = (some ((.string ByteArray.empty) :: ((.int .u64 0) :: []))) := nr (by kernel_rfl)
@[go_sem] theorem Tryd.pl14_0 : tPlace Tryd.prog 14 0 = (some (0, 1)) := nr (by kernel_rfl)
@[go_sem] theorem Tryd.pl14_1 : tPlace Tryd.prog 14 1 = (some (1, 1)) := nr (by kernel_rfl)
@[go_sem] theorem Tryd.fld14_0 : tFld Tryd.prog 14 0 = (some 0) := nr (by kernel_rfl)
@[go_sem] theorem Tryd.fld14_1 : tFld Tryd.prog 14 1 = (some 1) := nr (by kernel_rfl)
@[go_sem] theorem Tryd.kd15 : tKind Tryd.prog 15 = 6 := nr (by kernel_rfl)
@[go_sem] theorem Tryd.lay15 : tLay Tryd.prog 15 = (some (false, 1)) := nr (by kernel_rfl)
@[go_sem] theorem Tryd.zs15 : tZ Tryd.prog 15 = (some ((.pointer none) :: [])) := nr (by kernel_rfl)
@[go_sem] theorem Tryd.kd16 : tKind Tryd.prog 16 = 6 := nr (by kernel_rfl)
@[go_sem] theorem Tryd.lay16 : tLay Tryd.prog 16 = (some (false, 1)) := nr (by kernel_rfl)
@[go_sem] theorem Tryd.zs16 : tZ Tryd.prog 16 = (some ((.pointer none) :: [])) := nr (by kernel_rfl)
@[go_sem] theorem Tryd.kd17 : tKind Tryd.prog 17 = 6 := nr (by kernel_rfl)
@[go_sem] theorem Tryd.lay17 : tLay Tryd.prog 17 = (some (false, 1)) := nr (by kernel_rfl)
@[go_sem] theorem Tryd.zs17 : tZ Tryd.prog 17 = (some ((.pointer none) :: [])) := nr (by kernel_rfl)
@[go_sem] theorem Tryd.kd18 : tKind Tryd.prog 18 = 7 := nr (by kernel_rfl)
@[go_sem] theorem Tryd.lay18 : tLay Tryd.prog 18 = (some (true, 1)) := nr (by kernel_rfl)
@[go_sem] theorem Tryd.zs18 : tZ Tryd.prog 18 = (some ((.pointer none) :: [])) := nr (by kernel_rfl)
@[go_sem] theorem Tryd.pl18_0 : tPlace Tryd.prog 18 0 = (some (0, 1)) := nr (by kernel_rfl)
@[go_sem] theorem Tryd.fld18_0 : tFld Tryd.prog 18 0 = (some 0) := nr (by kernel_rfl)
@[go_sem] theorem Tryd.kd19 : tKind Tryd.prog 19 = 7 := nr (by kernel_rfl)
@[go_sem] theorem Tryd.lay19 : tLay Tryd.prog 19 = (some (true, 1)) := nr (by kernel_rfl)
@[go_sem] theorem Tryd.zs19 : tZ Tryd.prog 19 = (some ((.pointer none) :: [])) := nr (by kernel_rfl)
@[go_sem] theorem Tryd.pl19_0 : tPlace Tryd.prog 19 0 = (some (0, 1)) := nr (by kernel_rfl)
@[go_sem] theorem Tryd.fld19_0 : tFld Tryd.prog 19 0 = (some 0) := nr (by kernel_rfl)
@[go_sem] theorem Tryd.kd20 : tKind Tryd.prog 20 = 10 := nr (by kernel_rfl)
@[go_sem] theorem Tryd.lay20 : tLay Tryd.prog 20 = (some (false, 1)) := nr (by kernel_rfl)
@[go_sem] theorem Tryd.zs20 : tZ Tryd.prog 20 = (some (.nilIface :: [])) := nr (by kernel_rfl)
@[go_sem] theorem Tryd.kd21 : tKind Tryd.prog 21 = 9 := nr (by kernel_rfl)
@[go_sem] theorem Tryd.lay21 : tLay Tryd.prog 21 = (some (false, 1)) := nr (by kernel_rfl)
@[go_sem] theorem Tryd.zs21 : tZ Tryd.prog 21 = (some ((.int .i32 0) :: [])) := nr (by kernel_rfl)
@[go_sem] theorem Tryd.int21 : tInt Tryd.prog 21 = (some .i32) := nr (by kernel_rfl)
@[go_sem] theorem Tryd.kd22 : tKind Tryd.prog 22 = 1 := nr (by kernel_rfl)
@[go_sem] theorem Tryd.lay22 : tLay Tryd.prog 22 = (some (false, 1)) := nr (by kernel_rfl)
@[go_sem] theorem Tryd.zs22 : tZ Tryd.prog 22 = (some ((.slice none 0 0) :: [])) := nr (by kernel_rfl)
@[go_sem] theorem Tryd.elm22 : tElem Tryd.prog 22 = (some 1) := nr (by kernel_rfl)
@[go_sem] theorem Tryd.el22 : tEl Tryd.prog 22 = (some ⟨3, 1, 8, ((.int .i64 0) :: [])⟩) := nr (by kernel_rfl)
@[go_sem] theorem Tryd.kd23 : tKind Tryd.prog 23 = 1 := nr (by kernel_rfl)
@[go_sem] theorem Tryd.lay23 : tLay Tryd.prog 23 = (some (false, 1)) := nr (by kernel_rfl)
@[go_sem] theorem Tryd.zs23 : tZ Tryd.prog 23 = (some ((.slice none 0 0) :: [])) := nr (by kernel_rfl)
@[go_sem] theorem Tryd.elm23 : tElem Tryd.prog 23 = (some 5) := nr (by kernel_rfl)
@[go_sem] theorem Tryd.el23 : tEl Tryd.prog 23 = (some ⟨107, 5, 48, ((.string ByteArray.empty) :: ((.int .i64 0) :: ((.int .i64 0) :: ((.int .i64 0) :: ((.int .i64 0) :: [])))))⟩) := nr (by kernel_rfl)
@[go_sem] theorem Tryd.kd24 : tKind Tryd.prog 24 = 1 := nr (by kernel_rfl)
@[go_sem] theorem Tryd.lay24 : tLay Tryd.prog 24 = (some (false, 1)) := nr (by kernel_rfl)
@[go_sem] theorem Tryd.zs24 : tZ Tryd.prog 24 = (some ((.slice none 0 0) :: [])) := nr (by kernel_rfl)
@[go_sem] theorem Tryd.elm24 : tElem Tryd.prog 24 = (some 7) := nr (by kernel_rfl)
@[go_sem] theorem Tryd.el24 : tEl Tryd.prog 24 = (some ⟨53, 7, 56, ((.int .i64 0) :: ((.int .i64 0) :: ((.int .i64 0) :: ((.int .i64 0) :: ((.int .i64 0) :: ((.int .i64 0) :: ((.int .i64 0) :: [])))))))⟩) := nr (by kernel_rfl)
@[go_sem] theorem Tryd.kd25 : tKind Tryd.prog 25 = 1 := nr (by kernel_rfl)
@[go_sem] theorem Tryd.lay25 : tLay Tryd.prog 25 = (some (false, 1)) := nr (by kernel_rfl)
@[go_sem] theorem Tryd.zs25 : tZ Tryd.prog 25 = (some ((.slice none 0 0) :: [])) := nr (by kernel_rfl)
@[go_sem] theorem Tryd.elm25 : tElem Tryd.prog 25 = (some 16) := nr (by kernel_rfl)
@[go_sem] theorem Tryd.el25 : tEl Tryd.prog 25 = (some ⟨60, 16, 136, ((.int .i64 0) :: ((.int .i64 0) :: ((.int .i64 0) :: ((.int .i64 0) :: ((.slice none 0 0) :: ((.int .i64 0) :: ((.int .i64 0) :: ((.bool false) :: ((.bool false) :: ((.int .i64 0) :: ((.int .i64 0) :: ((.int .i64 0) :: ((.int .i64 0) :: ((.int .i64 0) :: ((.int .i64 0) :: ((.bool false) :: []))))))))))))))))⟩) := nr (by kernel_rfl)
@[go_sem] theorem Tryd.kd26 : tKind Tryd.prog 26 = 7 := nr (by kernel_rfl)
@[go_sem] theorem Tryd.lay26 : tLay Tryd.prog 26 = (some (true, 7)) := nr (by kernel_rfl)
@[go_sem] theorem Tryd.zs26 : tZ Tryd.prog 26 = (some ((.int .i64 0) :: ((.slice none 0 0) :: ((.slice none 0 0) :: ((.slice none 0 0) :: ((.slice none 0 0) :: ((.int .i64 0) :: ((.slice none 0 0) :: [])))))))) := nr (by kernel_rfl)
@[go_sem] theorem Tryd.pl26_0 : tPlace Tryd.prog 26 0 = (some (0, 1)) := nr (by kernel_rfl)
@[go_sem] theorem Tryd.pl26_1 : tPlace Tryd.prog 26 1 = (some (1, 1)) := nr (by kernel_rfl)
@[go_sem] theorem Tryd.pl26_2 : tPlace Tryd.prog 26 2 = (some (2, 1)) := nr (by kernel_rfl)
@[go_sem] theorem Tryd.pl26_3 : tPlace Tryd.prog 26 3 = (some (3, 1)) := nr (by kernel_rfl)
@[go_sem] theorem Tryd.pl26_4 : tPlace Tryd.prog 26 4 = (some (4, 1)) := nr (by kernel_rfl)
@[go_sem] theorem Tryd.pl26_5 : tPlace Tryd.prog 26 5 = (some (5, 1)) := nr (by kernel_rfl)
@[go_sem] theorem Tryd.pl26_6 : tPlace Tryd.prog 26 6 = (some (6, 1)) := nr (by kernel_rfl)
@[go_sem] theorem Tryd.fld26_0 : tFld Tryd.prog 26 0 = (some 0) := nr (by kernel_rfl)
@[go_sem] theorem Tryd.fld26_1 : tFld Tryd.prog 26 1 = (some 1) := nr (by kernel_rfl)
@[go_sem] theorem Tryd.fld26_2 : tFld Tryd.prog 26 2 = (some 2) := nr (by kernel_rfl)
@[go_sem] theorem Tryd.fld26_3 : tFld Tryd.prog 26 3 = (some 3) := nr (by kernel_rfl)
@[go_sem] theorem Tryd.fld26_4 : tFld Tryd.prog 26 4 = (some 4) := nr (by kernel_rfl)
@[go_sem] theorem Tryd.fld26_5 : tFld Tryd.prog 26 5 = (some 5) := nr (by kernel_rfl)
@[go_sem] theorem Tryd.fld26_6 : tFld Tryd.prog 26 6 = (some 6) := nr (by kernel_rfl)
@[go_sem] theorem Tryd.kd27 : tKind Tryd.prog 27 = 7 := nr (by kernel_rfl)
@[go_sem] theorem Tryd.lay27 : tLay Tryd.prog 27 = (some (true, 7)) := nr (by kernel_rfl)
@[go_sem] theorem Tryd.zs27 : tZ Tryd.prog 27 = (some ((.int .i64 0) :: ((.slice none 0 0) :: ((.slice none 0 0) :: ((.slice none 0 0) :: ((.slice none 0 0) :: ((.int .i64 0) :: ((.slice none 0 0) :: [])))))))) := nr (by kernel_rfl)
@[go_sem] theorem Tryd.pl27_0 : tPlace Tryd.prog 27 0 = (some (0, 1)) := nr (by kernel_rfl)
@[go_sem] theorem Tryd.pl27_1 : tPlace Tryd.prog 27 1 = (some (1, 1)) := nr (by kernel_rfl)
@[go_sem] theorem Tryd.pl27_2 : tPlace Tryd.prog 27 2 = (some (2, 1)) := nr (by kernel_rfl)
@[go_sem] theorem Tryd.pl27_3 : tPlace Tryd.prog 27 3 = (some (3, 1)) := nr (by kernel_rfl)
@[go_sem] theorem Tryd.pl27_4 : tPlace Tryd.prog 27 4 = (some (4, 1)) := nr (by kernel_rfl)
@[go_sem] theorem Tryd.pl27_5 : tPlace Tryd.prog 27 5 = (some (5, 1)) := nr (by kernel_rfl)
@[go_sem] theorem Tryd.pl27_6 : tPlace Tryd.prog 27 6 = (some (6, 1)) := nr (by kernel_rfl)
@[go_sem] theorem Tryd.fld27_0 : tFld Tryd.prog 27 0 = (some 0) := nr (by kernel_rfl)
@[go_sem] theorem Tryd.fld27_1 : tFld Tryd.prog 27 1 = (some 1) := nr (by kernel_rfl)
@[go_sem] theorem Tryd.fld27_2 : tFld Tryd.prog 27 2 = (some 2) := nr (by kernel_rfl)
@[go_sem] theorem Tryd.fld27_3 : tFld Tryd.prog 27 3 = (some 3) := nr (by kernel_rfl)
@[go_sem] theorem Tryd.fld27_4 : tFld Tryd.prog 27 4 = (some 4) := nr (by kernel_rfl)
@[go_sem] theorem Tryd.fld27_5 : tFld Tryd.prog 27 5 = (some 5) := nr (by kernel_rfl)
@[go_sem] theorem Tryd.fld27_6 : tFld Tryd.prog 27 6 = (some 6) := nr (by kernel_rfl)
@[go_sem] theorem Tryd.kd28 : tKind Tryd.prog 28 = 4 := nr (by kernel_rfl)
@[go_sem] theorem Tryd.lay28 : tLay Tryd.prog 28 = (some (false, 1)) := nr (by kernel_rfl)
@[go_sem] theorem Tryd.zs28 : tZ Tryd.prog 28 = (some (.nilFunc :: [])) := nr (by kernel_rfl)
@[go_sem] theorem Tryd.kd29 : tKind Tryd.prog 29 = 4 := nr (by kernel_rfl)
@[go_sem] theorem Tryd.lay29 : tLay Tryd.prog 29 = (some (false, 1)) := nr (by kernel_rfl)
@[go_sem] theorem Tryd.zs29 : tZ Tryd.prog 29 = (some (.nilFunc :: [])) := nr (by kernel_rfl)
@[go_sem] theorem Tryd.kd30 : tKind Tryd.prog 30 = 9 := nr (by kernel_rfl)
@[go_sem] theorem Tryd.lay30 : tLay Tryd.prog 30 = (some (false, 1)) := nr (by kernel_rfl)
@[go_sem] theorem Tryd.zs30 : tZ Tryd.prog 30 = (some ((.int .i64 0) :: [])) := nr (by kernel_rfl)
@[go_sem] theorem Tryd.int30 : tInt Tryd.prog 30 = (some .i64) := nr (by kernel_rfl)
@[go_sem] theorem Tryd.kd32 : tKind Tryd.prog 32 = 4 := nr (by kernel_rfl)
@[go_sem] theorem Tryd.lay32 : tLay Tryd.prog 32 = (some (false, 1)) := nr (by kernel_rfl)
@[go_sem] theorem Tryd.zs32 : tZ Tryd.prog 32 = (some (.nilFunc :: [])) := nr (by kernel_rfl)
@[go_sem] theorem Tryd.kd33 : tKind Tryd.prog 33 = 4 := nr (by kernel_rfl)
@[go_sem] theorem Tryd.lay33 : tLay Tryd.prog 33 = (some (false, 1)) := nr (by kernel_rfl)
@[go_sem] theorem Tryd.zs33 : tZ Tryd.prog 33 = (some (.nilFunc :: [])) := nr (by kernel_rfl)
@[go_sem] theorem Tryd.kd34 : tKind Tryd.prog 34 = 4 := nr (by kernel_rfl)
@[go_sem] theorem Tryd.lay34 : tLay Tryd.prog 34 = (some (false, 1)) := nr (by kernel_rfl)
@[go_sem] theorem Tryd.zs34 : tZ Tryd.prog 34 = (some (.nilFunc :: [])) := nr (by kernel_rfl)
@[go_sem] theorem Tryd.kd35 : tKind Tryd.prog 35 = 4 := nr (by kernel_rfl)
@[go_sem] theorem Tryd.lay35 : tLay Tryd.prog 35 = (some (false, 1)) := nr (by kernel_rfl)
@[go_sem] theorem Tryd.zs35 : tZ Tryd.prog 35 = (some (.nilFunc :: [])) := nr (by kernel_rfl)
@[go_sem] theorem Tryd.kd36 : tKind Tryd.prog 36 = 4 := nr (by kernel_rfl)
@[go_sem] theorem Tryd.lay36 : tLay Tryd.prog 36 = (some (false, 1)) := nr (by kernel_rfl)
@[go_sem] theorem Tryd.zs36 : tZ Tryd.prog 36 = (some (.nilFunc :: [])) := nr (by kernel_rfl)
@[go_sem] theorem Tryd.kd37 : tKind Tryd.prog 37 = 1 := nr (by kernel_rfl)
@[go_sem] theorem Tryd.lay37 : tLay Tryd.prog 37 = (some (false, 1)) := nr (by kernel_rfl)
@[go_sem] theorem Tryd.zs37 : tZ Tryd.prog 37 = (some ((.slice none 0 0) :: [])) := nr (by kernel_rfl)
@[go_sem] theorem Tryd.elm37 : tElem Tryd.prog 37 = (some 1) := nr (by kernel_rfl)
@[go_sem] theorem Tryd.el37 : tEl Tryd.prog 37 = (some ⟨4, 1, 1, ((.bool false) :: [])⟩) := nr (by kernel_rfl)
@[go_sem] theorem Tryd.kd38 : tKind Tryd.prog 38 = 1 := nr (by kernel_rfl)
@[go_sem] theorem Tryd.lay38 : tLay Tryd.prog 38 = (some (false, 1)) := nr (by kernel_rfl)
@[go_sem] theorem Tryd.zs38 : tZ Tryd.prog 38 = (some ((.slice none 0 0) :: [])) := nr (by kernel_rfl)
@[go_sem] theorem Tryd.elm38 : tElem Tryd.prog 38 = (some 5) := nr (by kernel_rfl)
@[go_sem] theorem Tryd.el38 : tEl Tryd.prog 38 = (some ⟨86, 5, 40, ((.int .i64 0) :: ((.int .i64 0) :: ((.int .i64 0) :: ((.int .i64 0) :: ((.bool false) :: [])))))⟩) := nr (by kernel_rfl)
@[go_sem] theorem Tryd.kd39 : tKind Tryd.prog 39 = 7 := nr (by kernel_rfl)
@[go_sem] theorem Tryd.lay39 : tLay Tryd.prog 39 = (some (true, 4)) := nr (by kernel_rfl)
@[go_sem] theorem Tryd.zs39 : tZ Tryd.prog 39 = (some ((.int .i64 0) :: ((.slice none 0 0) :: ((.slice none 0 0) :: ((.slice none 0 0) :: []))))) := nr (by kernel_rfl)
@[go_sem] theorem Tryd.pl39_0 : tPlace Tryd.prog 39 0 = (some (0, 1)) := nr (by kernel_rfl)
@[go_sem] theorem Tryd.pl39_1 : tPlace Tryd.prog 39 1 = (some (1, 1)) := nr (by kernel_rfl)
@[go_sem] theorem Tryd.pl39_2 : tPlace Tryd.prog 39 2 = (some (2, 1)) := nr (by kernel_rfl)
@[go_sem] theorem Tryd.pl39_3 : tPlace Tryd.prog 39 3 = (some (3, 1)) := nr (by kernel_rfl)
@[go_sem] theorem Tryd.fld39_0 : tFld Tryd.prog 39 0 = (some 0) := nr (by kernel_rfl)
@[go_sem] theorem Tryd.fld39_1 : tFld Tryd.prog 39 1 = (some 1) := nr (by kernel_rfl)
@[go_sem] theorem Tryd.fld39_2 : tFld Tryd.prog 39 2 = (some 2) := nr (by kernel_rfl)
@[go_sem] theorem Tryd.fld39_3 : tFld Tryd.prog 39 3 = (some 3) := nr (by kernel_rfl)
@[go_sem] theorem Tryd.kd40 : tKind Tryd.prog 40 = 7 := nr (by kernel_rfl)
@[go_sem] theorem Tryd.lay40 : tLay Tryd.prog 40 = (some (true, 4)) := nr (by kernel_rfl)
@[go_sem] theorem Tryd.zs40 : tZ Tryd.prog 40 = (some ((.int .i64 0) :: ((.slice none 0 0) :: ((.slice none 0 0) :: ((.slice none 0 0) :: []))))) := nr (by kernel_rfl)
@[go_sem] theorem Tryd.pl40_0 : tPlace Tryd.prog 40 0 = (some (0, 1)) := nr (by kernel_rfl)
@[go_sem] theorem Tryd.pl40_1 : tPlace Tryd.prog 40 1 = (some (1, 1)) := nr (by kernel_rfl)
@[go_sem] theorem Tryd.pl40_2 : tPlace Tryd.prog 40 2 = (some (2, 1)) := nr (by kernel_rfl)
@[go_sem] theorem Tryd.pl40_3 : tPlace Tryd.prog 40 3 = (some (3, 1)) := nr (by kernel_rfl)
@[go_sem] theorem Tryd.fld40_0 : tFld Tryd.prog 40 0 = (some 0) := nr (by kernel_rfl)
@[go_sem] theorem Tryd.fld40_1 : tFld Tryd.prog 40 1 = (some 1) := nr (by kernel_rfl)
@[go_sem] theorem Tryd.fld40_2 : tFld Tryd.prog 40 2 = (some 2) := nr (by kernel_rfl)
@[go_sem] theorem Tryd.fld40_3 : tFld Tryd.prog 40 3 = (some 3) := nr (by kernel_rfl)
@[go_sem] theorem Tryd.kd42 : tKind Tryd.prog 42 = 4 := nr (by kernel_rfl)
@[go_sem] theorem Tryd.lay42 : tLay Tryd.prog 42 = (some (false, 1)) := nr (by kernel_rfl)
@[go_sem] theorem Tryd.zs42 : tZ Tryd.prog 42 = (some (.nilFunc :: [])) := nr (by kernel_rfl)
@[go_sem] theorem Tryd.kd43 : tKind Tryd.prog 43 = 4 := nr (by kernel_rfl)
@[go_sem] theorem Tryd.lay43 : tLay Tryd.prog 43 = (some (false, 1)) := nr (by kernel_rfl)
@[go_sem] theorem Tryd.zs43 : tZ Tryd.prog 43 = (some (.nilFunc :: [])) := nr (by kernel_rfl)
@[go_sem] theorem Tryd.kd44 : tKind Tryd.prog 44 = 4 := nr (by kernel_rfl)
@[go_sem] theorem Tryd.lay44 : tLay Tryd.prog 44 = (some (false, 1)) := nr (by kernel_rfl)
@[go_sem] theorem Tryd.zs44 : tZ Tryd.prog 44 = (some (.nilFunc :: [])) := nr (by kernel_rfl)
@[go_sem] theorem Tryd.kd45 : tKind Tryd.prog 45 = 4 := nr (by kernel_rfl)
@[go_sem] theorem Tryd.lay45 : tLay Tryd.prog 45 = (some (false, 1)) := nr (by kernel_rfl)
@[go_sem] theorem Tryd.zs45 : tZ Tryd.prog 45 = (some (.nilFunc :: [])) := nr (by kernel_rfl)
@[go_sem] theorem Tryd.kd46 : tKind Tryd.prog 46 = 4 := nr (by kernel_rfl)
@[go_sem] theorem Tryd.lay46 : tLay Tryd.prog 46 = (some (false, 1)) := nr (by kernel_rfl)
@[go_sem] theorem Tryd.zs46 : tZ Tryd.prog 46 = (some (.nilFunc :: [])) := nr (by kernel_rfl)
@[go_sem] theorem Tryd.kd47 : tKind Tryd.prog 47 = 4 := nr (by kernel_rfl)
@[go_sem] theorem Tryd.lay47 : tLay Tryd.prog 47 = (some (false, 1)) := nr (by kernel_rfl)
@[go_sem] theorem Tryd.zs47 : tZ Tryd.prog 47 = (some (.nilFunc :: [])) := nr (by kernel_rfl)
@[go_sem] theorem Tryd.kd48 : tKind Tryd.prog 48 = 4 := nr (by kernel_rfl)
@[go_sem] theorem Tryd.lay48 : tLay Tryd.prog 48 = (some (false, 1)) := nr (by kernel_rfl)
@[go_sem] theorem Tryd.zs48 : tZ Tryd.prog 48 = (some (.nilFunc :: [])) := nr (by kernel_rfl)
@[go_sem] theorem Tryd.kd49 : tKind Tryd.prog 49 = 4 := nr (by kernel_rfl)
@[go_sem] theorem Tryd.lay49 : tLay Tryd.prog 49 = (some (false, 1)) := nr (by kernel_rfl)
@[go_sem] theorem Tryd.zs49 : tZ Tryd.prog 49 = (some (.nilFunc :: [])) := nr (by kernel_rfl)
@[go_sem] theorem Tryd.kd50 : tKind Tryd.prog 50 = 7 := nr (by kernel_rfl)
@[go_sem] theorem Tryd.lay50 : tLay Tryd.prog 50 = (some (true, 2)) := nr (by kernel_rfl)
@[go_sem] theorem Tryd.zs50 : tZ Tryd.prog 50 = (some ((.int .i64 0) :: ((.int .i64 0) :: []))) := nr (by kernel_rfl)
@[go_sem] theorem Tryd.pl50_0 : tPlace Tryd.prog 50 0 = (some (0, 1)) := nr (by kernel_rfl)
@[go_sem] theorem Tryd.pl50_1 : tPlace Tryd.prog 50 1 = (some (1, 1)) := nr (by kernel_rfl)
@[go_sem] theorem Tryd.fld50_0 : tFld Tryd.prog 50 0 = (some 0) := nr (by kernel_rfl)
@[go_sem] theorem Tryd.fld50_1 : tFld Tryd.prog 50 1 = (some 1) := nr (by kernel_rfl)
@[go_sem] theorem Tryd.eqs50 : eqShape Tryd.prog 10000 50 = (some ((.i .i64) :: ((.i .i64) :: []))) := nr (by kernel_rfl)
@[go_sem] theorem Tryd.eqg50 : Tryd.prog.eqGuardType Tryd.prog.depth 50 = false := nr (by kernel_rfl)
@[go_sem] theorem Tryd.kd51 : tKind Tryd.prog 51 = 7 := nr (by kernel_rfl)
@[go_sem] theorem Tryd.lay51 : tLay Tryd.prog 51 = (some (true, 2)) := nr (by kernel_rfl)
@[go_sem] theorem Tryd.zs51 : tZ Tryd.prog 51 = (some ((.int .i64 0) :: ((.int .i64 0) :: []))) := nr (by kernel_rfl)
@[go_sem] theorem Tryd.pl51_0 : tPlace Tryd.prog 51 0 = (some (0, 1)) := nr (by kernel_rfl)
@[go_sem] theorem Tryd.pl51_1 : tPlace Tryd.prog 51 1 = (some (1, 1)) := nr (by kernel_rfl)
@[go_sem] theorem Tryd.fld51_0 : tFld Tryd.prog 51 0 = (some 0) := nr (by kernel_rfl)
@[go_sem] theorem Tryd.fld51_1 : tFld Tryd.prog 51 1 = (some 1) := nr (by kernel_rfl)
@[go_sem] theorem Tryd.eqs51 : eqShape Tryd.prog 10000 51 = (some ((.i .i64) :: ((.i .i64) :: []))) := nr (by kernel_rfl)
@[go_sem] theorem Tryd.eqg51 : Tryd.prog.eqGuardType Tryd.prog.depth 51 = false := nr (by kernel_rfl)
@[go_sem] theorem Tryd.kd52 : tKind Tryd.prog 52 = 7 := nr (by kernel_rfl)
@[go_sem] theorem Tryd.lay52 : tLay Tryd.prog 52 = (some (true, 7)) := nr (by kernel_rfl)
@[go_sem] theorem Tryd.zs52 : tZ Tryd.prog 52 = (some ((.int .i64 0) :: ((.int .i64 0) :: ((.int .i64 0) :: ((.int .i64 0) :: ((.int .i64 0) :: ((.int .i64 0) :: ((.int .i64 0) :: [])))))))) := nr (by kernel_rfl)
@[go_sem] theorem Tryd.pl52_0 : tPlace Tryd.prog 52 0 = (some (0, 1)) := nr (by kernel_rfl)
@[go_sem] theorem Tryd.pl52_1 : tPlace Tryd.prog 52 1 = (some (1, 1)) := nr (by kernel_rfl)
@[go_sem] theorem Tryd.pl52_2 : tPlace Tryd.prog 52 2 = (some (2, 1)) := nr (by kernel_rfl)
@[go_sem] theorem Tryd.pl52_3 : tPlace Tryd.prog 52 3 = (some (3, 1)) := nr (by kernel_rfl)
@[go_sem] theorem Tryd.pl52_4 : tPlace Tryd.prog 52 4 = (some (4, 1)) := nr (by kernel_rfl)
@[go_sem] theorem Tryd.pl52_5 : tPlace Tryd.prog 52 5 = (some (5, 2)) := nr (by kernel_rfl)
@[go_sem] theorem Tryd.fld52_0 : tFld Tryd.prog 52 0 = (some 0) := nr (by kernel_rfl)
@[go_sem] theorem Tryd.fld52_1 : tFld Tryd.prog 52 1 = (some 1) := nr (by kernel_rfl)
@[go_sem] theorem Tryd.fld52_2 : tFld Tryd.prog 52 2 = (some 2) := nr (by kernel_rfl)
@[go_sem] theorem Tryd.fld52_3 : tFld Tryd.prog 52 3 = (some 3) := nr (by kernel_rfl)
@[go_sem] theorem Tryd.fld52_4 : tFld Tryd.prog 52 4 = (some 4) := nr (by kernel_rfl)
@[go_sem] theorem Tryd.fld52_5 : tFld Tryd.prog 52 5 = (some 5) := nr (by kernel_rfl)
@[go_sem] theorem Tryd.eqs52 : eqShape Tryd.prog 10000 52 = (some ((.i .i64) :: ((.i .i64) :: ((.i .i64) :: ((.i .i64) :: ((.i .i64) :: ((.i .i64) :: ((.i .i64) :: [])))))))) := nr (by kernel_rfl)
@[go_sem] theorem Tryd.eqg52 : Tryd.prog.eqGuardType Tryd.prog.depth 52 = false := nr (by kernel_rfl)
@[go_sem] theorem Tryd.kd53 : tKind Tryd.prog 53 = 7 := nr (by kernel_rfl)
@[go_sem] theorem Tryd.lay53 : tLay Tryd.prog 53 = (some (true, 7)) := nr (by kernel_rfl)
@[go_sem] theorem Tryd.zs53 : tZ Tryd.prog 53 = (some ((.int .i64 0) :: ((.int .i64 0) :: ((.int .i64 0) :: ((.int .i64 0) :: ((.int .i64 0) :: ((.int .i64 0) :: ((.int .i64 0) :: [])))))))) := nr (by kernel_rfl)
@[go_sem] theorem Tryd.pl53_0 : tPlace Tryd.prog 53 0 = (some (0, 1)) := nr (by kernel_rfl)
@[go_sem] theorem Tryd.pl53_1 : tPlace Tryd.prog 53 1 = (some (1, 1)) := nr (by kernel_rfl)
@[go_sem] theorem Tryd.pl53_2 : tPlace Tryd.prog 53 2 = (some (2, 1)) := nr (by kernel_rfl)
@[go_sem] theorem Tryd.pl53_3 : tPlace Tryd.prog 53 3 = (some (3, 1)) := nr (by kernel_rfl)
@[go_sem] theorem Tryd.pl53_4 : tPlace Tryd.prog 53 4 = (some (4, 1)) := nr (by kernel_rfl)
@[go_sem] theorem Tryd.pl53_5 : tPlace Tryd.prog 53 5 = (some (5, 2)) := nr (by kernel_rfl)
@[go_sem] theorem Tryd.fld53_0 : tFld Tryd.prog 53 0 = (some 0) := nr (by kernel_rfl)
@[go_sem] theorem Tryd.fld53_1 : tFld Tryd.prog 53 1 = (some 1) := nr (by kernel_rfl)
@[go_sem] theorem Tryd.fld53_2 : tFld Tryd.prog 53 2 = (some 2) := nr (by kernel_rfl)
@[go_sem] theorem Tryd.fld53_3 : tFld Tryd.prog 53 3 = (some 3) := nr (by kernel_rfl)
@[go_sem] theorem Tryd.fld53_4 : tFld Tryd.prog 53 4 = (some 4) := nr (by kernel_rfl)
@[go_sem] theorem Tryd.fld53_5 : tFld Tryd.prog 53 5 = (some 5) := nr (by kernel_rfl)
@[go_sem] theorem Tryd.eqs53 : eqShape Tryd.prog 10000 53 = (some ((.i .i64) :: ((.i .i64) :: ((.i .i64) :: ((.i .i64) :: ((.i .i64) :: ((.i .i64) :: ((.i .i64) :: [])))))))) := nr (by kernel_rfl)
@[go_sem] theorem Tryd.eqg53 : Tryd.prog.eqGuardType Tryd.prog.depth 53 = false := nr (by kernel_rfl)
@[go_sem] theorem Tryd.kd54 : tKind Tryd.prog 54 = 4 := nr (by kernel_rfl)
@[go_sem] theorem Tryd.lay54 : tLay Tryd.prog 54 = (some (false, 1)) := nr (by kernel_rfl)
@[go_sem] theorem Tryd.zs54 : tZ Tryd.prog 54 = (some (.nilFunc :: [])) := nr (by kernel_rfl)
@[go_sem] theorem Tryd.kd55 : tKind Tryd.prog 55 = 4 := nr (by kernel_rfl)
@[go_sem] theorem Tryd.lay55 : tLay Tryd.prog 55 = (some (false, 1)) := nr (by kernel_rfl)
@[go_sem] theorem Tryd.zs55 : tZ Tryd.prog 55 = (some (.nilFunc :: [])) := nr (by kernel_rfl)
@[go_sem] theorem Tryd.kd56 : tKind Tryd.prog 56 = 1 := nr (by kernel_rfl)
@[go_sem] theorem Tryd.lay56 : tLay Tryd.prog 56 = (some (false, 1)) := nr (by kernel_rfl)
@[go_sem] theorem Tryd.zs56 : tZ Tryd.prog 56 = (some ((.slice none 0 0) :: [])) := nr (by kernel_rfl)
@[go_sem] theorem Tryd.elm56 : tElem Tryd.prog 56 = (some 22) := nr (by kernel_rfl)
@[go_sem] theorem Tryd.el56 : tEl Tryd.prog 56 = (some ⟨64, 22, 200, ((.int .i64 0) :: ((.int .i64 0) :: ((.int .i64 0) :: ((.int .i64 0) :: ((.slice none 0 0) :: ((.int .i64 0) :: ((.int .i64 0) :: ((.int .i64 0) :: ((.int .i64 0) :: ((.slice none 0 0) :: ((.int .i64 0) :: ((.int .i64 0) :: ((.bool false) :: ((.bool false) :: ((.int .i64 0) :: ((.int .i64 0) :: ((.int .i64 0) :: ((.int .i64 0) :: ((.int .i64 0) :: ((.int .i64 0) :: ((.bool false) :: ((.int .i64 0) :: []))))))))))))))))))))))⟩) := nr (by kernel_rfl)
@[go_sem] theorem Tryd.kd57 : tKind Tryd.prog 57 = 4 := nr (by kernel_rfl)
@[go_sem] theorem Tryd.lay57 : tLay Tryd.prog 57 = (some (false, 1)) := nr (by kernel_rfl)
@[go_sem] theorem Tryd.zs57 : tZ Tryd.prog 57 = (some (.nilFunc :: [])) := nr (by kernel_rfl)
@[go_sem] theorem Tryd.kd58 : tKind Tryd.prog 58 = 1 := nr (by kernel_rfl)
@[go_sem] theorem Tryd.lay58 : tLay Tryd.prog 58 = (some (false, 1)) := nr (by kernel_rfl)
@[go_sem] theorem Tryd.zs58 : tZ Tryd.prog 58 = (some ((.slice none 0 0) :: [])) := nr (by kernel_rfl)
@[go_sem] theorem Tryd.elm58 : tElem Tryd.prog 58 = (some 2) := nr (by kernel_rfl)
@[go_sem] theorem Tryd.el58 : tEl Tryd.prog 58 = (some ⟨136, 2, 16, ((.int .i64 0) :: ((.int .i64 0) :: []))⟩) := nr (by kernel_rfl)
@[go_sem] theorem Tryd.kd59 : tKind Tryd.prog 59 = 7 := nr (by kernel_rfl)
@[go_sem] theorem Tryd.lay59 : tLay Tryd.prog 59 = (some (true, 16)) := nr (by kernel_rfl)
@[go_sem] theorem Tryd.zs59 : tZ Tryd.prog 59 = (some ((.int .i64 0) :: ((.int .i64 0) :: ((.int .i64 0) :: ((.int .i64 0) :: ((.slice none 0 0) :: ((.int .i64 0) :: ((.int .i64 0) :: ((.bool false) :: ((.bool false) :: ((.int .i64 0) :: ((.int .i64 0) :: ((.int .i64 0) :: ((.int .i64 0) :: ((.int .i64 0) :: ((.int .i64 0) :: ((.bool false) :: []))))))))))))))))) := nr (by kernel_rfl)
@[go_sem] theorem Tryd.pl59_0 : tPlace Tryd.prog 59 0 = (some (0, 1)) := nr (by kernel_rfl)
@[go_sem] theorem Tryd.pl59_1 : tPlace Tryd.prog 59 1 = (some (1, 1)) := nr (by kernel_rfl)
@[go_sem] theorem Tryd.pl59_2 : tPlace Tryd.prog 59 2 = (some (2, 1)) := nr (by kernel_rfl)
@[go_sem] theorem Tryd.pl59_3 : tPlace Tryd.prog 59 3 = (some (3, 1)) := nr (by kernel_rfl)
@[go_sem] theorem Tryd.pl59_4 : tPlace Tryd.prog 59 4 = (some (4, 1)) := nr (by kernel_rfl)
@[go_sem] theorem Tryd.pl59_5 : tPlace Tryd.prog 59 5 = (some (5, 1)) := nr (by kernel_rfl)
@[go_sem] theorem Tryd.pl59_6 : tPlace Tryd.prog 59 6 = (some (6, 1)) := nr (by kernel_rfl)
@[go_sem] theorem Tryd.pl59_7 : tPlace Tryd.prog 59 7 = (some (7, 1)) := nr (by kernel_rfl)
@[go_sem] theorem Tryd.pl59_8 : tPlace Tryd.prog 59 8 = (some (8, 1)) := nr (by kernel_rfl)
@[go_sem] theorem Tryd.pl59_9 : tPlace Tryd.prog 59 9 = (some (9, 1)) := nr (by kernel_rfl)
@[go_sem] theorem Tryd.pl59_10 : tPlace Tryd.prog 59 10 = (some (10, 1)) := nr (by kernel_rfl)
@[go_sem] theorem Tryd.pl59_11 : tPlace Tryd.prog 59 11 = (some (11, 2)) := nr (by kernel_rfl)
@[go_sem] theorem Tryd.pl59_12 : tPlace Tryd.prog 59 12 = (some (13, 1)) := nr (by kernel_rfl)
@[go_sem] theorem Tryd.pl59_13 : tPlace Tryd.prog 59 13 = (some (14, 1)) := nr (by kernel_rfl)
@[go_sem] theorem Tryd.pl59_14 : tPlace Tryd.prog 59 14 = (some (15, 1)) := nr (by kernel_rfl)
@[go_sem] theorem Tryd.fld59_0 : tFld Tryd.prog 59 0 = (some 0) := nr (by kernel_rfl)
@[go_sem] theorem Tryd.fld59_1 : tFld Tryd.prog 59 1 = (some 1) := nr (by kernel_rfl)
@[go_sem] theorem Tryd.fld59_2 : tFld Tryd.prog 59 2 = (some 2) := nr (by kernel_rfl)
@[go_sem] theorem Tryd.fld59_3 : tFld Tryd.prog 59 3 = (some 3) := nr (by kernel_rfl)
@[go_sem] theorem Tryd.fld59_4 : tFld Tryd.prog 59 4 = (some 4) := nr (by kernel_rfl)
@[go_sem] theorem Tryd.fld59_5 : tFld Tryd.prog 59 5 = (some 5) := nr (by kernel_rfl)
@[go_sem] theorem Tryd.fld59_6 : tFld Tryd.prog 59 6 = (some 6) := nr (by kernel_rfl)
@[go_sem] theorem Tryd.fld59_7 : tFld Tryd.prog 59 7 = (some 7) := nr (by kernel_rfl)
@[go_sem] theorem Tryd.fld59_8 : tFld Tryd.prog 59 8 = (some 8) := nr (by kernel_rfl)
@[go_sem] theorem Tryd.fld59_9 : tFld Tryd.prog 59 9 = (some 9) := nr (by kernel_rfl)
@[go_sem] theorem Tryd.fld59_10 : tFld Tryd.prog 59 10 = (some 10) := nr (by kernel_rfl)
@[go_sem] theorem Tryd.fld59_11 : tFld Tryd.prog 59 11 = (some 11) := nr (by kernel_rfl)
@[go_sem] theorem Tryd.fld59_12 : tFld Tryd.prog 59 12 = (some 13) := nr (by kernel_rfl)
@[go_sem] theorem Tryd.fld59_13 : tFld Tryd.prog 59 13 = (some 14) := nr (by kernel_rfl)
@[go_sem] theorem Tryd.fld59_14 : tFld Tryd.prog 59 14 = (some 15) := nr (by kernel_rfl)
@[go_sem] theorem Tryd.kd60 : tKind Tryd.prog 60 = 7 := nr (by kernel_rfl)
@[go_sem] theorem Tryd.lay60 : tLay Tryd.prog 60 = (some (true, 16)) := nr (by kernel_rfl)
@[go_sem] theorem Tryd.zs60 : tZ Tryd.prog 60 = (some ((.int .i64 0) :: ((.int .i64 0) :: ((.int .i64 0) :: ((.int .i64 0) :: ((.slice none 0 0) :: ((.int .i64 0) :: ((.int .i64 0) :: ((.bool false) :: ((.bool false) :: ((.int .i64 0) :: ((.int .i64 0) :: ((.int .i64 0) :: ((.int .i64 0) :: ((.int .i64 0) :: ((.int .i64 0) :: ((.bool false) :: []))))))))))))))))) := nr (by kernel_rfl)
@[go_sem] theorem Tryd.pl60_0 : tPlace Tryd.prog 60 0 = (some (0, 1)) := nr (by kernel_rfl)
@[go_sem] theorem Tryd.pl60_1 : tPlace Tryd.prog 60 1 = (some (1, 1)) := nr (by kernel_rfl)
@[go_sem] theorem Tryd.pl60_2 : tPlace Tryd.prog 60 2 = (some (2, 1)) := nr (by kernel_rfl)
@[go_sem] theorem Tryd.pl60_3 : tPlace Tryd.prog 60 3 = (some (3, 1)) := nr (by kernel_rfl)
@[go_sem] theorem Tryd.pl60_4 : tPlace Tryd.prog 60 4 = (some (4, 1)) := nr (by kernel_rfl)
@[go_sem] theorem Tryd.pl60_5 : tPlace Tryd.prog 60 5 = (some (5, 1)) := nr (by kernel_rfl)
@[go_sem] theorem Tryd.pl60_6 : tPlace Tryd.prog 60 6 = (some (6, 1)) := nr (by kernel_rfl)
@[go_sem] theorem Tryd.pl60_7 : tPlace Tryd.prog 60 7 = (some (7, 1)) := nr (by kernel_rfl)
@[go_sem] theorem Tryd.pl60_8 : tPlace Tryd.prog 60 8 = (some (8, 1)) := nr (by kernel_rfl)
@[go_sem] theorem Tryd.pl60_9 : tPlace Tryd.prog 60 9 = (some (9, 1)) := nr (by kernel_rfl)
@[go_sem] theorem Tryd.pl60_10 : tPlace Tryd.prog 60 10 = (some (10, 1)) := nr (by kernel_rfl)
@[go_sem] theorem Tryd.pl60_11 : tPlace Tryd.prog 60 11 = (some (11, 2)) := nr (by kernel_rfl)
@[go_sem] theorem Tryd.pl60_12 : tPlace Tryd.prog 60 12 = (some (13, 1)) := nr (by kernel_rfl)
@[go_sem] theorem Tryd.pl60_13 : tPlace Tryd.prog 60 13 = (some (14, 1)) := nr (by kernel_rfl)
@[go_sem] theorem Tryd.pl60_14 : tPlace Tryd.prog 60 14 = (some (15, 1)) := nr (by kernel_rfl)
@[go_sem] theorem Tryd.fld60_0 : tFld Tryd.prog 60 0 = (some 0) := nr (by kernel_rfl)
@[go_sem] theorem Tryd.fld60_1 : tFld Tryd.prog 60 1 = (some 1) := nr (by kernel_rfl)
@[go_sem] theorem Tryd.fld60_2 : tFld Tryd.prog 60 2 = (some 2) := nr (by kernel_rfl)
@[go_sem] theorem Tryd.fld60_3 : tFld Tryd.prog 60 3 = (some 3) := nr (by kernel_rfl)
@[go_sem] theorem Tryd.fld60_4 : tFld Tryd.prog 60 4 = (some 4) := nr (by kernel_rfl)
@[go_sem] theorem Tryd.fld60_5 : tFld Tryd.prog 60 5 = (some 5) := nr (by kernel_rfl)
@[go_sem] theorem Tryd.fld60_6 : tFld Tryd.prog 60 6 = (some 6) := nr (by kernel_rfl)
@[go_sem] theorem Tryd.fld60_7 : tFld Tryd.prog 60 7 = (some 7) := nr (by kernel_rfl)
@[go_sem] theorem Tryd.fld60_8 : tFld Tryd.prog 60 8 = (some 8) := nr (by kernel_rfl)
@[go_sem] theorem Tryd.fld60_9 : tFld Tryd.prog 60 9 = (some 9) := nr (by kernel_rfl)
@[go_sem] theorem Tryd.fld60_10 : tFld Tryd.prog 60 10 = (some 10) := nr (by kernel_rfl)
@[go_sem] theorem Tryd.fld60_11 : tFld Tryd.prog 60 11 = (some 11) := nr (by kernel_rfl)
@[go_sem] theorem Tryd.fld60_12 : tFld Tryd.prog 60 12 = (some 13) := nr (by kernel_rfl)
@[go_sem] theorem Tryd.fld60_13 : tFld Tryd.prog 60 13 = (some 14) := nr (by kernel_rfl)
@[go_sem] theorem Tryd.fld60_14 : tFld Tryd.prog 60 14 = (some 15) := nr (by kernel_rfl)
@[go_sem] theorem Tryd.kd61 : tKind Tryd.prog 61 = 7 := nr (by kernel_rfl)
@[go_sem] theorem Tryd.lay61 : tLay Tryd.prog 61 = (some (true, 19)) := nr (by kernel_rfl)
@[go_sem] theorem Tryd.zs61 : tZ Tryd.prog 61 = (some ((.int .i64 0) :: ((.slice none 0 0) :: ((.int .i64 0) :: ((.int .i64 0) :: ((.int .i64 0) :: ((.int .i64 0) :: ((.slice none 0 0) :: ((.int .i64 0) :: ((.int .i64 0) :: ((.bool false) :: ((.bool false) :: ((.int .i64 0) :: ((.int .i64 0) :: ((.int .i64 0) :: ((.int .i64 0) :: ((.int .i64 0) :: ((.int .i64 0) :: ((.bool false) :: ((.int .i64 0) :: [])))))))))))))))))))) := nr (by kernel_rfl)
@[go_sem] theorem Tryd.pl61_0 : tPlace Tryd.prog 61 0 = (some (0, 1)) := nr (by kernel_rfl)
@[go_sem] theorem Tryd.pl61_1 : tPlace Tryd.prog 61 1 = (some (1, 1)) := nr (by kernel_rfl)
@[go_sem] theorem Tryd.pl61_2 : tPlace Tryd.prog 61 2 = (some (2, 16)) := nr (by kernel_rfl)
@[go_sem] theorem Tryd.pl61_3 : tPlace Tryd.prog 61 3 = (some (18, 1)) := nr (by kernel_rfl)
@[go_sem] theorem Tryd.fld61_0 : tFld Tryd.prog 61 0 = (some 0) := nr (by kernel_rfl)
@[go_sem] theorem Tryd.fld61_1 : tFld Tryd.prog 61 1 = (some 1) := nr (by kernel_rfl)
@[go_sem] theorem Tryd.fld61_2 : tFld Tryd.prog 61 2 = (some 2) := nr (by kernel_rfl)
@[go_sem] theorem Tryd.fld61_3 : tFld Tryd.prog 61 3 = (some 18) := nr (by kernel_rfl)
@[go_sem] theorem Tryd.kd62 : tKind Tryd.prog 62 = 7 := nr (by kernel_rfl)
@[go_sem] theorem Tryd.lay62 : tLay Tryd.prog 62 = (some (true, 19)) := nr (by kernel_rfl)
@[go_sem] theorem Tryd.zs62 : tZ Tryd.prog 62 = (some ((.int .i64 0) :: ((.slice none 0 0) :: ((.int .i64 0) :: ((.int .i64 0) :: ((.int .i64 0) :: ((.int .i64 0) :: ((.slice none 0 0) :: ((.int .i64 0) :: ((.int .i64 0) :: ((.bool false) :: ((.bool false) :: ((.int .i64 0) :: ((.int .i64 0) :: ((.int .i64 0) :: ((.int .i64 0) :: ((.int .i64 0) :: ((.int .i64 0) :: ((.bool false) :: ((.int .i64 0) :: [])))))))))))))))))))) := nr (by kernel_rfl)
@[go_sem] theorem Tryd.pl62_0 : tPlace Tryd.prog 62 0 = (some (0, 1)) := nr (by kernel_rfl)
@[go_sem] theorem Tryd.pl62_1 : tPlace Tryd.prog 62 1 = (some (1, 1)) := nr (by kernel_rfl)
@[go_sem] theorem Tryd.pl62_2 : tPlace Tryd.prog 62 2 = (some (2, 16)) := nr (by kernel_rfl)
@[go_sem] theorem Tryd.pl62_3 : tPlace Tryd.prog 62 3 = (some (18, 1)) := nr (by kernel_rfl)
@[go_sem] theorem Tryd.fld62_0 : tFld Tryd.prog 62 0 = (some 0) := nr (by kernel_rfl)
@[go_sem] theorem Tryd.fld62_1 : tFld Tryd.prog 62 1 = (some 1) := nr (by kernel_rfl)
@[go_sem] theorem Tryd.fld62_2 : tFld Tryd.prog 62 2 = (some 2) := nr (by kernel_rfl)
@[go_sem] theorem Tryd.fld62_3 : tFld Tryd.prog 62 3 = (some 18) := nr (by kernel_rfl)
@[go_sem] theorem Tryd.kd63 : tKind Tryd.prog 63 = 7 := nr (by kernel_rfl)
@[go_sem] theorem Tryd.lay63 : tLay Tryd.prog 63 = (some (true, 22)) := nr (by kernel_rfl)
@[go_sem] theorem Tryd.zs63 : tZ Tryd.prog 63 = (some ((.int .i64 0) :: ((.int .i64 0) :: ((.int .i64 0) :: ((.int .i64 0) :: ((.slice none 0 0) :: ((.int .i64 0) :: ((.int .i64 0) :: ((.int .i64 0) :: ((.int .i64 0) :: ((.slice none 0 0) :: ((.int .i64 0) :: ((.int .i64 0) :: ((.bool false) :: ((.bool false) :: ((.int .i64 0) :: ((.int .i64 0) :: ((.int .i64 0) :: ((.int .i64 0) :: ((.int .i64 0) :: ((.int .i64 0) :: ((.bool false) :: ((.int .i64 0) :: []))))))))))))))))))))))) := nr (by kernel_rfl)
@[go_sem] theorem Tryd.pl63_0 : tPlace Tryd.prog 63 0 = (some (0, 1)) := nr (by kernel_rfl)
@[go_sem] theorem Tryd.pl63_1 : tPlace Tryd.prog 63 1 = (some (1, 1)) := nr (by kernel_rfl)
@[go_sem] theorem Tryd.pl63_2 : tPlace Tryd.prog 63 2 = (some (2, 1)) := nr (by kernel_rfl)
@[go_sem] theorem Tryd.pl63_3 : tPlace Tryd.prog 63 3 = (some (3, 19)) := nr (by kernel_rfl)
@[go_sem] theorem Tryd.fld63_0 : tFld Tryd.prog 63 0 = (some 0) := nr (by kernel_rfl)
@[go_sem] theorem Tryd.fld63_1 : tFld Tryd.prog 63 1 = (some 1) := nr (by kernel_rfl)
@[go_sem] theorem Tryd.fld63_2 : tFld Tryd.prog 63 2 = (some 2) := nr (by kernel_rfl)
@[go_sem] theorem Tryd.fld63_3 : tFld Tryd.prog 63 3 = (some 3) := nr (by kernel_rfl)
@[go_sem] theorem Tryd.kd64 : tKind Tryd.prog 64 = 7 := nr (by kernel_rfl)
@[go_sem] theorem Tryd.lay64 : tLay Tryd.prog 64 = (some (true, 22)) := nr (by kernel_rfl)
@[go_sem] theorem Tryd.zs64 : tZ Tryd.prog 64 = (some ((.int .i64 0) :: ((.int .i64 0) :: ((.int .i64 0) :: ((.int .i64 0) :: ((.slice none 0 0) :: ((.int .i64 0) :: ((.int .i64 0) :: ((.int .i64 0) :: ((.int .i64 0) :: ((.slice none 0 0) :: ((.int .i64 0) :: ((.int .i64 0) :: ((.bool false) :: ((.bool false) :: ((.int .i64 0) :: ((.int .i64 0) :: ((.int .i64 0) :: ((.int .i64 0) :: ((.int .i64 0) :: ((.int .i64 0) :: ((.bool false) :: ((.int .i64 0) :: []))))))))))))))))))))))) := nr (by kernel_rfl)
@[go_sem] theorem Tryd.pl64_0 : tPlace Tryd.prog 64 0 = (some (0, 1)) := nr (by kernel_rfl)
@[go_sem] theorem Tryd.pl64_1 : tPlace Tryd.prog 64 1 = (some (1, 1)) := nr (by kernel_rfl)
@[go_sem] theorem Tryd.pl64_2 : tPlace Tryd.prog 64 2 = (some (2, 1)) := nr (by kernel_rfl)
@[go_sem] theorem Tryd.pl64_3 : tPlace Tryd.prog 64 3 = (some (3, 19)) := nr (by kernel_rfl)
@[go_sem] theorem Tryd.fld64_0 : tFld Tryd.prog 64 0 = (some 0) := nr (by kernel_rfl)
@[go_sem] theorem Tryd.fld64_1 : tFld Tryd.prog 64 1 = (some 1) := nr (by kernel_rfl)
@[go_sem] theorem Tryd.fld64_2 : tFld Tryd.prog 64 2 = (some 2) := nr (by kernel_rfl)
@[go_sem] theorem Tryd.fld64_3 : tFld Tryd.prog 64 3 = (some 3) := nr (by kernel_rfl)
@[go_sem] theorem Tryd.kd65 : tKind Tryd.prog 65 = 4 := nr (by kernel_rfl)
@[go_sem] theorem Tryd.lay65 : tLay Tryd.prog 65 = (some (false, 1)) := nr (by kernel_rfl)
@[go_sem] theorem Tryd.zs65 : tZ Tryd.prog 65 = (some (.nilFunc :: [])) := nr (by kernel_rfl)
@[go_sem] theorem Tryd.kd66 : tKind Tryd.prog 66 = 4 := nr (by kernel_rfl)
@[go_sem] theorem Tryd.lay66 : tLay Tryd.prog 66 = (some (false, 1)) := nr (by kernel_rfl)
@[go_sem] theorem Tryd.zs66 : tZ Tryd.prog 66 = (some (.nilFunc :: [])) := nr (by kernel_rfl)
@[go_sem] theorem Tryd.kd68 : tKind Tryd.prog 68 = 4 := nr (by kernel_rfl)
@[go_sem] theorem Tryd.lay68 : tLay Tryd.prog 68 = (some (false, 1)) := nr (by kernel_rfl)
@[go_sem] theorem Tryd.zs68 : tZ Tryd.prog 68 = (some (.nilFunc :: [])) := nr (by kernel_rfl)
@[go_sem] theorem Tryd.kd69 : tKind Tryd.prog 69 = 4 := nr (by kernel_rfl)
@[go_sem] theorem Tryd.lay69 : tLay Tryd.prog 69 = (some (false, 1)) := nr (by kernel_rfl)
@[go_sem] theorem Tryd.zs69 : tZ Tryd.prog 69 = (some (.nilFunc :: [])) := nr (by kernel_rfl)
@[go_sem] theorem Tryd.kd70 : tKind Tryd.prog 70 = 4 := nr (by kernel_rfl)
@[go_sem] theorem Tryd.lay70 : tLay Tryd.prog 70 = (some (false, 1)) := nr (by kernel_rfl)
@[go_sem] theorem Tryd.zs70 : tZ Tryd.prog 70 = (some (.nilFunc :: [])) := nr (by kernel_rfl)
@[go_sem] theorem Tryd.kd71 : tKind Tryd.prog 71 = 4 := nr (by kernel_rfl)
@[go_sem] theorem Tryd.lay71 : tLay Tryd.prog 71 = (some (false, 1)) := nr (by kernel_rfl)
@[go_sem] theorem Tryd.zs71 : tZ Tryd.prog 71 = (some (.nilFunc :: [])) := nr (by kernel_rfl)
@[go_sem] theorem Tryd.kd72 : tKind Tryd.prog 72 = 4 := nr (by kernel_rfl)
@[go_sem] theorem Tryd.lay72 : tLay Tryd.prog 72 = (some (false, 1)) := nr (by kernel_rfl)
@[go_sem] theorem Tryd.zs72 : tZ Tryd.prog 72 = (some (.nilFunc :: [])) := nr (by kernel_rfl)
@[go_sem] theorem Tryd.kd73 : tKind Tryd.prog 73 = 4 := nr (by kernel_rfl)
@[go_sem] theorem Tryd.lay73 : tLay Tryd.prog 73 = (some (false, 1)) := nr (by kernel_rfl)
@[go_sem] theorem Tryd.zs73 : tZ Tryd.prog 73 = (some (.nilFunc :: [])) := nr (by kernel_rfl)
@[go_sem] theorem Tryd.kd75 : tKind Tryd.prog 75 = 4 := nr (by kernel_rfl)
@[go_sem] theorem Tryd.lay75 : tLay Tryd.prog 75 = (some (false, 1)) := nr (by kernel_rfl)
@[go_sem] theorem Tryd.zs75 : tZ Tryd.prog 75 = (some (.nilFunc :: [])) := nr (by kernel_rfl)
@[go_sem] theorem Tryd.kd77 : tKind Tryd.prog 77 = 4 := nr (by kernel_rfl)
@[go_sem] theorem Tryd.lay77 : tLay Tryd.prog 77 = (some (false, 1)) := nr (by kernel_rfl)
@[go_sem] theorem Tryd.zs77 : tZ Tryd.prog 77 = (some (.nilFunc :: [])) := nr (by kernel_rfl)
@[go_sem] theorem Tryd.kd78 : tKind Tryd.prog 78 = 4 := nr (by kernel_rfl)
@[go_sem] theorem Tryd.lay78 : tLay Tryd.prog 78 = (some (false, 1)) := nr (by kernel_rfl)
@[go_sem] theorem Tryd.zs78 : tZ Tryd.prog 78 = (some (.nilFunc :: [])) := nr (by kernel_rfl)
@[go_sem] theorem Tryd.kd79 : tKind Tryd.prog 79 = 4 := nr (by kernel_rfl)
@[go_sem] theorem Tryd.lay79 : tLay Tryd.prog 79 = (some (false, 1)) := nr (by kernel_rfl)
@[go_sem] theorem Tryd.zs79 : tZ Tryd.prog 79 = (some (.nilFunc :: [])) := nr (by kernel_rfl)
@[go_sem] theorem Tryd.kd80 : tKind Tryd.prog 80 = 4 := nr (by kernel_rfl)
@[go_sem] theorem Tryd.lay80 : tLay Tryd.prog 80 = (some (false, 1)) := nr (by kernel_rfl)
@[go_sem] theorem Tryd.zs80 : tZ Tryd.prog 80 = (some (.nilFunc :: [])) := nr (by kernel_rfl)
@[go_sem] theorem Tryd.kd81 : tKind Tryd.prog 81 = 4 := nr (by kernel_rfl)
@[go_sem] theorem Tryd.lay81 : tLay Tryd.prog 81 = (some (false, 1)) := nr (by kernel_rfl)
@[go_sem] theorem Tryd.zs81 : tZ Tryd.prog 81 = (some (.nilFunc :: [])) := nr (by kernel_rfl)
@[go_sem] theorem Tryd.kd82 : tKind Tryd.prog 82 = 4 := nr (by kernel_rfl)
@[go_sem] theorem Tryd.lay82 : tLay Tryd.prog 82 = (some (false, 1)) := nr (by kernel_rfl)
@[go_sem] theorem Tryd.zs82 : tZ Tryd.prog 82 = (some (.nilFunc :: [])) := nr (by kernel_rfl)
@[go_sem] theorem Tryd.kd83 : tKind Tryd.prog 83 = 4 := nr (by kernel_rfl)
@[go_sem] theorem Tryd.lay83 : tLay Tryd.prog 83 = (some (false, 1)) := nr (by kernel_rfl)
@[go_sem] theorem Tryd.zs83 : tZ Tryd.prog 83 = (some (.nilFunc :: [])) := nr (by kernel_rfl)
@[go_sem] theorem Tryd.kd84 : tKind Tryd.prog 84 = 4 := nr (by kernel_rfl)
@[go_sem] theorem Tryd.lay84 : tLay Tryd.prog 84 = (some (false, 1)) := nr (by kernel_rfl)
@[go_sem] theorem Tryd.zs84 : tZ Tryd.prog 84 = (some (.nilFunc :: [])) := nr (by kernel_rfl)
@[go_sem] theorem Tryd.kd85 : tKind Tryd.prog 85 = 7 := nr (by kernel_rfl)
@[go_sem] theorem Tryd.lay85 : tLay Tryd.prog 85 = (some (true, 5)) := nr (by kernel_rfl)
@[go_sem] theorem Tryd.zs85 : tZ Tryd.prog 85 = (some ((.int .i64 0) :: ((.int .i64 0) :: ((.int .i64 0) :: ((.int .i64 0) :: ((.bool false) :: [])))))) := nr (by kernel_rfl)
@[go_sem] theorem Tryd.pl85_0 : tPlace Tryd.prog 85 0 = (some (0, 1)) := nr (by kernel_rfl)
@[go_sem] theorem Tryd.pl85_1 : tPlace Tryd.prog 85 1 = (some (1, 1)) := nr (by kernel_rfl)
@[go_sem] theorem Tryd.pl85_2 : tPlace Tryd.prog 85 2 = (some (2, 1)) := nr (by kernel_rfl)
@[go_sem] theorem Tryd.pl85_3 : tPlace Tryd.prog 85 3 = (some (3, 1)) := nr (by kernel_rfl)
@[go_sem] theorem Tryd.pl85_4 : tPlace Tryd.prog 85 4 = (some (4, 1)) := nr (by kernel_rfl)
@[go_sem] theorem Tryd.fld85_0 : tFld Tryd.prog 85 0 = (some 0) := nr (by kernel_rfl)
@[go_sem] theorem Tryd.fld85_1 : tFld Tryd.prog 85 1 = (some 1) := nr (by kernel_rfl)
@[go_sem] theorem Tryd.fld85_2 : tFld Tryd.prog 85 2 = (some 2) := nr (by kernel_rfl)
@[go_sem] theorem Tryd.fld85_3 : tFld Tryd.prog 85 3 = (some 3) := nr (by kernel_rfl)
@[go_sem] theorem Tryd.fld85_4 : tFld Tryd.prog 85 4 = (some 4) := nr (by kernel_rfl)
@[go_sem] theorem Tryd.eqs85 : eqShape Tryd.prog 10000 85 = (some ((.i .i64) :: ((.i .i64) :: ((.i .i64) :: ((.i .i64) :: (.b :: [])))))) := nr (by kernel_rfl)
@[go_sem] theorem Tryd.eqg85 : Tryd.prog.eqGuardType Tryd.prog.depth 85 = false := nr (by kernel_rfl)
@[go_sem] theorem Tryd.kd86 : tKind Tryd.prog 86 = 7 := nr (by kernel_rfl)
@[go_sem] theorem Tryd.lay86 : tLay Tryd.prog 86 = (some (true, 5)) := nr (by kernel_rfl)
@[go_sem] theorem Tryd.zs86 : tZ Tryd.prog 86 = (some ((.int .i64 0) :: ((.int .i64 0) :: ((.int .i64 0) :: ((.int .i64 0) :: ((.bool false) :: [])))))) := nr (by kernel_rfl)
@[go_sem] theorem Tryd.pl86_0 : tPlace Tryd.prog 86 0 = (some (0, 1)) := nr (by kernel_rfl)
@[go_sem] theorem Tryd.pl86_1 : tPlace Tryd.prog 86 1 = (some (1, 1)) := nr (by kernel_rfl)
@[go_sem] theorem Tryd.pl86_2 : tPlace Tryd.prog 86 2 = (some (2, 1)) := nr (by kernel_rfl)
@[go_sem] theorem Tryd.pl86_3 : tPlace Tryd.prog 86 3 = (some (3, 1)) := nr (by kernel_rfl)
@[go_sem] theorem Tryd.pl86_4 : tPlace Tryd.prog 86 4 = (some (4, 1)) := nr (by kernel_rfl)
@[go_sem] theorem Tryd.fld86_0 : tFld Tryd.prog 86 0 = (some 0) := nr (by kernel_rfl)
@[go_sem] theorem Tryd.fld86_1 : tFld Tryd.prog 86 1 = (some 1) := nr (by kernel_rfl)
@[go_sem] theorem Tryd.fld86_2 : tFld Tryd.prog 86 2 = (some 2) := nr (by kernel_rfl)
@[go_sem] theorem Tryd.fld86_3 : tFld Tryd.prog 86 3 = (some 3) := nr (by kernel_rfl)
@[go_sem] theorem Tryd.fld86_4 : tFld Tryd.prog 86 4 = (some 4) := nr (by kernel_rfl)
@[go_sem] theorem Tryd.eqs86 : eqShape Tryd.prog 10000 86 = (some ((.i .i64) :: ((.i .i64) :: ((.i .i64) :: ((.i .i64) :: (.b :: [])))))) := nr (by kernel_rfl)
@[go_sem] theorem Tryd.eqg86 : Tryd.prog.eqGuardType Tryd.prog.depth 86 = false := nr (by kernel_rfl)
@[go_sem] theorem Tryd.kd87 : tKind Tryd.prog 87 = 4 := nr (by kernel_rfl)
@[go_sem] theorem Tryd.lay87 : tLay Tryd.prog 87 = (some (false, 1)) := nr (by kernel_rfl)
@[go_sem] theorem Tryd.zs87 : tZ Tryd.prog 87 = (some (.nilFunc :: [])) := nr (by kernel_rfl)
@[go_sem] theorem Tryd.kd88 : tKind Tryd.prog 88 = 4 := nr (by kernel_rfl)
@[go_sem] theorem Tryd.lay88 : tLay Tryd.prog 88 = (some (false, 1)) := nr (by kernel_rfl)
@[go_sem] theorem Tryd.zs88 : tZ Tryd.prog 88 = (some (.nilFunc :: [])) := nr (by kernel_rfl)
@[go_sem] theorem Tryd.kd89 : tKind Tryd.prog 89 = 4 := nr (by kernel_rfl)
@[go_sem] theorem Tryd.lay89 : tLay Tryd.prog 89 = (some (false, 1)) := nr (by kernel_rfl)
@[go_sem] theorem Tryd.zs89 : tZ Tryd.prog 89 = (some (.nilFunc :: [])) := nr (by kernel_rfl)
@[go_sem] theorem Tryd.kd90 : tKind Tryd.prog 90 = 4 := nr (by kernel_rfl)
@[go_sem] theorem Tryd.lay90 : tLay Tryd.prog 90 = (some (false, 1)) := nr (by kernel_rfl)
@[go_sem] theorem Tryd.zs90 : tZ Tryd.prog 90 = (some (.nilFunc :: [])) := nr (by kernel_rfl)
@[go_sem] theorem Tryd.kd91 : tKind Tryd.prog 91 = 4 := nr (by kernel_rfl)
@[go_sem] theorem Tryd.lay91 : tLay Tryd.prog 91 = (some (false, 1)) := nr (by kernel_rfl)
@[go_sem] theorem Tryd.zs91 : tZ Tryd.prog 91 = (some (.nilFunc :: [])) := nr (by kernel_rfl)
@[go_sem] theorem Tryd.kd92 : tKind Tryd.prog 92 = 4 := nr (by kernel_rfl)
@[go_sem] theorem Tryd.lay92 : tLay Tryd.prog 92 = (some (false, 1)) := nr (by kernel_rfl)
@[go_sem] theorem Tryd.zs92 : tZ Tryd.prog 92 = (some (.nilFunc :: [])) := nr (by kernel_rfl)
@[go_sem] theorem Tryd.kd93 : tKind Tryd.prog 93 = 4 := nr (by kernel_rfl)
@[go_sem] theorem Tryd.lay93 : tLay Tryd.prog 93 = (some (false, 1)) := nr (by kernel_rfl)
@[go_sem] theorem Tryd.zs93 : tZ Tryd.prog 93 = (some (.nilFunc :: [])) := nr (by kernel_rfl)
@[go_sem] theorem Tryd.kd94 : tKind Tryd.prog 94 = 4 := nr (by kernel_rfl)
@[go_sem] theorem Tryd.lay94 : tLay Tryd.prog 94 = (some (false, 1)) := nr (by kernel_rfl)
@[go_sem] theorem Tryd.zs94 : tZ Tryd.prog 94 = (some (.nilFunc :: [])) := nr (by kernel_rfl)
@[go_sem] theorem Tryd.kd95 : tKind Tryd.prog 95 = 4 := nr (by kernel_rfl)
@[go_sem] theorem Tryd.lay95 : tLay Tryd.prog 95 = (some (false, 1)) := nr (by kernel_rfl)
@[go_sem] theorem Tryd.zs95 : tZ Tryd.prog 95 = (some (.nilFunc :: [])) := nr (by kernel_rfl)
@[go_sem] theorem Tryd.kd96 : tKind Tryd.prog 96 = 1 := nr (by kernel_rfl)
@[go_sem] theorem Tryd.lay96 : tLay Tryd.prog 96 = (some (false, 1)) := nr (by kernel_rfl)
@[go_sem] theorem Tryd.zs96 : tZ Tryd.prog 96 = (some ((.slice none 0 0) :: [])) := nr (by kernel_rfl)
@[go_sem] theorem Tryd.elm96 : tElem Tryd.prog 96 = (some 23) := nr (by kernel_rfl)
@[go_sem] theorem Tryd.el96 : tEl Tryd.prog 96 = (some ⟨99, 23, 208, ((.int .i64 0) :: ((.int .i64 0) :: ((.int .i64 0) :: ((.int .i64 0) :: ((.slice none 0 0) :: ((.int .i64 0) :: ((.int .i64 0) :: ((.int .i64 0) :: ((.int .i64 0) :: ((.slice none 0 0) :: ((.int .i64 0) :: ((.int .i64 0) :: ((.bool false) :: ((.bool false) :: ((.int .i64 0) :: ((.int .i64 0) :: ((.int .i64 0) :: ((.int .i64 0) :: ((.int .i64 0) :: ((.int .i64 0) :: ((.bool false) :: ((.int .i64 0) :: ((.int .i64 0) :: [])))))))))))))))))))))))⟩) := nr (by kernel_rfl)
@[go_sem] theorem Tryd.kd97 : tKind Tryd.prog 97 = 4 := nr (by kernel_rfl)
@[go_sem] theorem Tryd.lay97 : tLay Tryd.prog 97 = (some (false, 1)) := nr (by kernel_rfl)
@[go_sem] theorem Tryd.zs97 : tZ Tryd.prog 97 = (some (.nilFunc :: [])) := nr (by kernel_rfl)
@[go_sem] theorem Tryd.kd98 : tKind Tryd.prog 98 = 7 := nr (by kernel_rfl)
@[go_sem] theorem Tryd.lay98 : tLay Tryd.prog 98 = (some (true, 23)) := nr (by kernel_rfl)
@[go_sem] theorem Tryd.zs98 : tZ Tryd.prog 98 = (some ((.int .i64 0) :: ((.int .i64 0) :: ((.int .i64 0) :: ((.int .i64 0) :: ((.slice none 0 0) :: ((.int .i64 0) :: ((.int .i64 0) :: ((.int .i64 0) :: ((.int .i64 0) :: ((.slice none 0 0) :: ((.int .i64 0) :: ((.int .i64 0) :: ((.bool false) :: ((.bool false) :: ((.int .i64 0) :: ((.int .i64 0) :: ((.int .i64 0) :: ((.int .i64 0) :: ((.int .i64 0) :: ((.int .i64 0) :: ((.bool false) :: ((.int .i64 0) :: ((.int .i64 0) :: [])))))))))))))))))))))))) := nr (by kernel_rfl)
@[go_sem] theorem Tryd.pl98_0 : tPlace Tryd.prog 98 0 = (some (0, 22)) := nr (by kernel_rfl)
@[go_sem] theorem Tryd.pl98_1 : tPlace Tryd.prog 98 1 = (some (22, 1)) := nr (by kernel_rfl)
@[go_sem] theorem Tryd.fld98_0 : tFld Tryd.prog 98 0 = (some 0) := nr (by kernel_rfl)
@[go_sem] theorem Tryd.fld98_1 : tFld Tryd.prog 98 1 = (some 22) := nr (by kernel_rfl)
@[go_sem] theorem Tryd.kd99 : tKind Tryd.prog 99 = 7 := nr (by kernel_rfl)
@[go_sem] theorem Tryd.lay99 : tLay Tryd.prog 99 = (some (true, 23)) := nr (by kernel_rfl)
@[go_sem] theorem Tryd.zs99 : tZ Tryd.prog 99 = (some ((.int .i64 0) :: ((.int .i64 0) :: ((.int .i64 0) :: ((.int .i64 0) :: ((.slice none 0 0) :: ((.int .i64 0) :: ((.int .i64 0) :: ((.int .i64 0) :: ((.int .i64 0) :: ((.slice none 0 0) :: ((.int .i64 0) :: ((.int .i64 0) :: ((.bool false) :: ((.bool false) :: ((.int .i64 0) :: ((.int .i64 0) :: ((.int .i64 0) :: ((.int .i64 0) :: ((.int .i64 0) :: ((.int .i64 0) :: ((.bool false) :: ((.int .i64 0) :: ((.int .i64 0) :: [])))))))))))))))))))))))) := nr (by kernel_rfl)
@[go_sem] theorem Tryd.pl99_0 : tPlace Tryd.prog 99 0 = (some (0, 22)) := nr (by kernel_rfl)
@[go_sem] theorem Tryd.pl99_1 : tPlace Tryd.prog 99 1 = (some (22, 1)) := nr (by kernel_rfl)
@[go_sem] theorem Tryd.fld99_0 : tFld Tryd.prog 99 0 = (some 0) := nr (by kernel_rfl)
@[go_sem] theorem Tryd.fld99_1 : tFld Tryd.prog 99 1 = (some 22) := nr (by kernel_rfl)
@[go_sem] theorem Tryd.kd100 : tKind Tryd.prog 100 = 4 := nr (by kernel_rfl)
@[go_sem] theorem Tryd.lay100 : tLay Tryd.prog 100 = (some (false, 1)) := nr (by kernel_rfl)
@[go_sem] theorem Tryd.zs100 : tZ Tryd.prog 100 = (some (.nilFunc :: [])) := nr (by kernel_rfl)
@[go_sem] theorem Tryd.kd101 : tKind Tryd.prog 101 = 4 := nr (by kernel_rfl)
@[go_sem] theorem Tryd.lay101 : tLay Tryd.prog 101 = (some (false, 1)) := nr (by kernel_rfl)
@[go_sem] theorem Tryd.zs101 : tZ Tryd.prog 101 = (some (.nilFunc :: [])) := nr (by kernel_rfl)
@[go_sem] theorem Tryd.kd102 : tKind Tryd.prog 102 = 4 := nr (by kernel_rfl)
@[go_sem] theorem Tryd.lay102 : tLay Tryd.prog 102 = (some (false, 1)) := nr (by kernel_rfl)
@[go_sem] theorem Tryd.zs102 : tZ Tryd.prog 102 = (some (.nilFunc :: [])) := nr (by kernel_rfl)
@[go_sem] theorem Tryd.kd103 : tKind Tryd.prog 103 = 4 := nr (by kernel_rfl)
@[go_sem] theorem Tryd.lay103 : tLay Tryd.prog 103 = (some (false, 1)) := nr (by kernel_rfl)
@[go_sem] theorem Tryd.zs103 : tZ Tryd.prog 103 = (some (.nilFunc :: [])) := nr (by kernel_rfl)
@[go_sem] theorem Tryd.kd104 : tKind Tryd.prog 104 = 4 := nr (by kernel_rfl)
@[go_sem] theorem Tryd.lay104 : tLay Tryd.prog 104 = (some (false, 1)) := nr (by kernel_rfl)
@[go_sem] theorem Tryd.zs104 : tZ Tryd.prog 104 = (some (.nilFunc :: [])) := nr (by kernel_rfl)
@[go_sem] theorem Tryd.kd105 : tKind Tryd.prog 105 = 1 := nr (by kernel_rfl)
@[go_sem] theorem Tryd.lay105 : tLay Tryd.prog 105 = (some (false, 1)) := nr (by kernel_rfl)
@[go_sem] theorem Tryd.zs105 : tZ Tryd.prog 105 = (some ((.slice none 0 0) :: [])) := nr (by kernel_rfl)
@[go_sem] theorem Tryd.elm105 : tElem Tryd.prog 105 = (some 7) := nr (by kernel_rfl)
@[go_sem] theorem Tryd.el105 : tEl Tryd.prog 105 = (some ⟨27, 7, 136, ((.int .i64 0) :: ((.slice none 0 0) :: ((.slice none 0 0) :: ((.slice none 0 0) :: ((.slice none 0 0) :: ((.int .i64 0) :: ((.slice none 0 0) :: [])))))))⟩) := nr (by kernel_rfl)
@[go_sem] theorem Tryd.kd106 : tKind Tryd.prog 106 = 7 := nr (by kernel_rfl)
@[go_sem] theorem Tryd.lay106 : tLay Tryd.prog 106 = (some (true, 5)) := nr (by kernel_rfl)
@[go_sem] theorem Tryd.zs106 : tZ Tryd.prog 106 = (some ((.string ByteArray.empty) :: ((.int .i64 0) :: ((.int .i64 0) :: ((.int .i64 0) :: ((.int .i64 0) :: [])))))) := nr (by kernel_rfl)
@[go_sem] theorem Tryd.pl106_0 : tPlace Tryd.prog 106 0 = (some (0, 1)) := nr (by kernel_rfl)
@[go_sem] theorem Tryd.pl106_1 : tPlace Tryd.prog 106 1 = (some (1, 1)) := nr (by kernel_rfl)
@[go_sem] theorem Tryd.pl106_2 : tPlace Tryd.prog 106 2 = (some (2, 1)) := nr (by kernel_rfl)
@[go_sem] theorem Tryd.pl106_3 : tPlace Tryd.prog 106 3 = (some (3, 2)) := nr (by kernel_rfl)
@[go_sem] theorem Tryd.fld106_0 : tFld Tryd.prog 106 0 = (some 0) := nr (by kernel_rfl)
@[go_sem] theorem Tryd.fld106_1 : tFld Tryd.prog 106 1 = (some 1) := nr (by kernel_rfl)
@[go_sem] theorem Tryd.fld106_2 : tFld Tryd.prog 106 2 = (some 2) := nr (by kernel_rfl)
@[go_sem] theorem Tryd.fld106_3 : tFld Tryd.prog 106 3 = (some 3) := nr (by kernel_rfl)
@[go_sem] theorem Tryd.eqs106 : eqShape Tryd.prog 10000 106 = (some (.s :: ((.i .i64) :: ((.i .i64) :: ((.i .i64) :: ((.i .i64) :: [])))))) := nr (by kernel_rfl)
@[go_sem] theorem Tryd.eqg106 : Tryd.prog.eqGuardType Tryd.prog.depth 106 = false := nr (by kernel_rfl)
@[go_sem] theorem Tryd.kd107 : tKind Tryd.prog 107 = 7 := nr (by kernel_rfl)
@[go_sem] theorem Tryd.lay107 : tLay Tryd.prog 107 = (some (true, 5)) := nr (by kernel_rfl)
@[go_sem] theorem Tryd.zs107 : tZ Tryd.prog 107 = (some ((.string ByteArray.empty) :: ((.int .i64 0) :: ((.int .i64 0) :: ((.int .i64 0) :: ((.int .i64 0) :: [])))))) := nr (by kernel_rfl)
@[go_sem] theorem Tryd.pl107_0 : tPlace Tryd.prog 107 0 = (some (0, 1)) := nr (by kernel_rfl)
@[go_sem] theorem Tryd.pl107_1 : tPlace Tryd.prog 107 1 = (some (1, 1)) := nr (by kernel_rfl)
@[go_sem] theorem Tryd.pl107_2 : tPlace Tryd.prog 107 2 = (some (2, 1)) := nr (by kernel_rfl)
@[go_sem] theorem Tryd.pl107_3 : tPlace Tryd.prog 107 3 = (some (3, 2)) := nr (by kernel_rfl)
@[go_sem] theorem Tryd.fld107_0 : tFld Tryd.prog 107 0 = (some 0) := nr (by kernel_rfl)
@[go_sem] theorem Tryd.fld107_1 : tFld Tryd.prog 107 1 = (some 1) := nr (by kernel_rfl)
@[go_sem] theorem Tryd.fld107_2 : tFld Tryd.prog 107 2 = (some 2) := nr (by kernel_rfl)
@[go_sem] theorem Tryd.fld107_3 : tFld Tryd.prog 107 3 = (some 3) := nr (by kernel_rfl)
@[go_sem] theorem Tryd.eqs107 : eqShape Tryd.prog 10000 107 = (some (.s :: ((.i .i64) :: ((.i .i64) :: ((.i .i64) :: ((.i .i64) :: [])))))) := nr (by kernel_rfl)
@[go_sem] theorem Tryd.eqg107 : Tryd.prog.eqGuardType Tryd.prog.depth 107 = false := nr (by kernel_rfl)
@[go_sem] theorem Tryd.kd108 : tKind Tryd.prog 108 = 4 := nr (by kernel_rfl)
@[go_sem] theorem Tryd.lay108 : tLay Tryd.prog 108 = (some (false, 1)) := nr (by kernel_rfl)
@[go_sem] theorem Tryd.zs108 : tZ Tryd.prog 108 = (some (.nilFunc :: [])) := nr (by kernel_rfl)
@[go_sem] theorem Tryd.kd109 : tKind Tryd.prog 109 = 4 := nr (by kernel_rfl)
@[go_sem] theorem Tryd.lay109 : tLay Tryd.prog 109 = (some (false, 1)) := nr (by kernel_rfl)
@[go_sem] theorem Tryd.zs109 : tZ Tryd.prog 109 = (some (.nilFunc :: [])) := nr (by kernel_rfl)
@[go_sem] theorem Tryd.kd110 : tKind Tryd.prog 110 = 7 := nr (by kernel_rfl)
@[go_sem] theorem Tryd.lay110 : tLay Tryd.prog 110 = (some (true, 5)) := nr (by kernel_rfl)
@[go_sem] theorem Tryd.zs110 : tZ Tryd.prog 110 = (some ((.int .i64 0) :: ((.int .i64 0) :: ((.bool false) :: ((.bool false) :: (.nilFunc :: [])))))) := nr (by kernel_rfl)
@[go_sem] theorem Tryd.pl110_0 : tPlace Tryd.prog 110 0 = (some (0, 1)) := nr (by kernel_rfl)
@[go_sem] theorem Tryd.pl110_1 : tPlace Tryd.prog 110 1 = (some (1, 1)) := nr (by kernel_rfl)
@[go_sem] theorem Tryd.pl110_2 : tPlace Tryd.prog 110 2 = (some (2, 1)) := nr (by kernel_rfl)
@[go_sem] theorem Tryd.pl110_3 : tPlace Tryd.prog 110 3 = (some (3, 1)) := nr (by kernel_rfl)
@[go_sem] theorem Tryd.pl110_4 : tPlace Tryd.prog 110 4 = (some (4, 1)) := nr (by kernel_rfl)
@[go_sem] theorem Tryd.fld110_0 : tFld Tryd.prog 110 0 = (some 0) := nr (by kernel_rfl)
@[go_sem] theorem Tryd.fld110_1 : tFld Tryd.prog 110 1 = (some 1) := nr (by kernel_rfl)
@[go_sem] theorem Tryd.fld110_2 : tFld Tryd.prog 110 2 = (some 2) := nr (by kernel_rfl)
@[go_sem] theorem Tryd.fld110_3 : tFld Tryd.prog 110 3 = (some 3) := nr (by kernel_rfl)
@[go_sem] theorem Tryd.fld110_4 : tFld Tryd.prog 110 4 = (some 4) := nr (by kernel_rfl)
@[go_sem] theorem Tryd.kd111 : tKind Tryd.prog 111 = 7 := nr (by kernel_rfl)
@[go_sem] theorem Tryd.lay111 : tLay Tryd.prog 111 = (some (true, 5)) := nr (by kernel_rfl)
@[go_sem] theorem Tryd.zs111 : tZ Tryd.prog 111 = (some ((.int .i64 0) :: ((.int .i64 0) :: ((.bool false) :: ((.bool false) :: (.nilFunc :: [])))))) := nr (by kernel_rfl)
@[go_sem] theorem Tryd.pl111_0 : tPlace Tryd.prog 111 0 = (some (0, 1)) := nr (by kernel_rfl)
@[go_sem] theorem Tryd.pl111_1 : tPlace Tryd.prog 111 1 = (some (1, 1)) := nr (by kernel_rfl)
@[go_sem] theorem Tryd.pl111_2 : tPlace Tryd.prog 111 2 = (some (2, 1)) := nr (by kernel_rfl)
@[go_sem] theorem Tryd.pl111_3 : tPlace Tryd.prog 111 3 = (some (3, 1)) := nr (by kernel_rfl)
@[go_sem] theorem Tryd.pl111_4 : tPlace Tryd.prog 111 4 = (some (4, 1)) := nr (by kernel_rfl)
@[go_sem] theorem Tryd.fld111_0 : tFld Tryd.prog 111 0 = (some 0) := nr (by kernel_rfl)
@[go_sem] theorem Tryd.fld111_1 : tFld Tryd.prog 111 1 = (some 1) := nr (by kernel_rfl)
@[go_sem] theorem Tryd.fld111_2 : tFld Tryd.prog 111 2 = (some 2) := nr (by kernel_rfl)
@[go_sem] theorem Tryd.fld111_3 : tFld Tryd.prog 111 3 = (some 3) := nr (by kernel_rfl)
@[go_sem] theorem Tryd.fld111_4 : tFld Tryd.prog 111 4 = (some 4) := nr (by kernel_rfl)
@[go_sem] theorem Tryd.kd113 : tKind Tryd.prog 113 = 4 := nr (by kernel_rfl)
@[go_sem] theorem Tryd.lay113 : tLay Tryd.prog 113 = (some (false, 1)) := nr (by kernel_rfl)
@[go_sem] theorem Tryd.zs113 : tZ Tryd.prog 113 = (some (.nilFunc :: [])) := nr (by kernel_rfl)
@[go_sem] theorem Tryd.kd114 : tKind Tryd.prog 114 = 4 := nr (by kernel_rfl)
@[go_sem] theorem Tryd.lay114 : tLay Tryd.prog 114 = (some (false, 1)) := nr (by kernel_rfl)
@[go_sem] theorem Tryd.zs114 : tZ Tryd.prog 114 = (some (.nilFunc :: [])) := nr (by kernel_rfl)
@[go_sem] theorem Tryd.kd115 : tKind Tryd.prog 115 = 6 := nr (by kernel_rfl)
@[go_sem] theorem Tryd.lay115 : tLay Tryd.prog 115 = (some (false, 1)) := nr (by kernel_rfl)
@[go_sem] theorem Tryd.zs115 : tZ Tryd.prog 115 = (some ((.pointer none) :: [])) := nr (by kernel_rfl)
@[go_sem] theorem Tryd.kd116 : tKind Tryd.prog 116 = 4 := nr (by kernel_rfl)
@[go_sem] theorem Tryd.lay116 : tLay Tryd.prog 116 = (some (false, 1)) := nr (by kernel_rfl)
@[go_sem] theorem Tryd.zs116 : tZ Tryd.prog 116 = (some (.nilFunc :: [])) := nr (by kernel_rfl)
@[go_sem] theorem Tryd.kd117 : tKind Tryd.prog 117 = 4 := nr (by kernel_rfl)
@[go_sem] theorem Tryd.lay117 : tLay Tryd.prog 117 = (some (false, 1)) := nr (by kernel_rfl)
@[go_sem] theorem Tryd.zs117 : tZ Tryd.prog 117 = (some (.nilFunc :: [])) := nr (by kernel_rfl)
@[go_sem] theorem Tryd.kd118 : tKind Tryd.prog 118 = 4 := nr (by kernel_rfl)
@[go_sem] theorem Tryd.lay118 : tLay Tryd.prog 118 = (some (false, 1)) := nr (by kernel_rfl)
@[go_sem] theorem Tryd.zs118 : tZ Tryd.prog 118 = (some (.nilFunc :: [])) := nr (by kernel_rfl)
@[go_sem] theorem Tryd.kd119 : tKind Tryd.prog 119 = 4 := nr (by kernel_rfl)
@[go_sem] theorem Tryd.lay119 : tLay Tryd.prog 119 = (some (false, 1)) := nr (by kernel_rfl)
@[go_sem] theorem Tryd.zs119 : tZ Tryd.prog 119 = (some (.nilFunc :: [])) := nr (by kernel_rfl)
@[go_sem] theorem Tryd.kd120 : tKind Tryd.prog 120 = 6 := nr (by kernel_rfl)
@[go_sem] theorem Tryd.lay120 : tLay Tryd.prog 120 = (some (false, 1)) := nr (by kernel_rfl)
@[go_sem] theorem Tryd.zs120 : tZ Tryd.prog 120 = (some ((.pointer none) :: [])) := nr (by kernel_rfl)
@[go_sem] theorem Tryd.kd121 : tKind Tryd.prog 121 = 4 := nr (by kernel_rfl)
@[go_sem] theorem Tryd.lay121 : tLay Tryd.prog 121 = (some (false, 1)) := nr (by kernel_rfl)
@[go_sem] theorem Tryd.zs121 : tZ Tryd.prog 121 = (some (.nilFunc :: [])) := nr (by kernel_rfl)
@[go_sem] theorem Tryd.kd122 : tKind Tryd.prog 122 = 4 := nr (by kernel_rfl)
@[go_sem] theorem Tryd.lay122 : tLay Tryd.prog 122 = (some (false, 1)) := nr (by kernel_rfl)
@[go_sem] theorem Tryd.zs122 : tZ Tryd.prog 122 = (some (.nilFunc :: [])) := nr (by kernel_rfl)
@[go_sem] theorem Tryd.kd123 : tKind Tryd.prog 123 = 4 := nr (by kernel_rfl)
@[go_sem] theorem Tryd.lay123 : tLay Tryd.prog 123 = (some (false, 1)) := nr (by kernel_rfl)
@[go_sem] theorem Tryd.zs123 : tZ Tryd.prog 123 = (some (.nilFunc :: [])) := nr (by kernel_rfl)
@[go_sem] theorem Tryd.kd125 : tKind Tryd.prog 125 = 4 := nr (by kernel_rfl)
@[go_sem] theorem Tryd.lay125 : tLay Tryd.prog 125 = (some (false, 1)) := nr (by kernel_rfl)
@[go_sem] theorem Tryd.zs125 : tZ Tryd.prog 125 = (some (.nilFunc :: [])) := nr (by kernel_rfl)
@[go_sem] theorem Tryd.kd126 : tKind Tryd.prog 126 = 4 := nr (by kernel_rfl)
@[go_sem] theorem Tryd.lay126 : tLay Tryd.prog 126 = (some (false, 1)) := nr (by kernel_rfl)
@[go_sem] theorem Tryd.zs126 : tZ Tryd.prog 126 = (some (.nilFunc :: [])) := nr (by kernel_rfl)
@[go_sem] theorem Tryd.kd127 : tKind Tryd.prog 127 = 4 := nr (by kernel_rfl)
@[go_sem] theorem Tryd.lay127 : tLay Tryd.prog 127 = (some (false, 1)) := nr (by kernel_rfl)
@[go_sem] theorem Tryd.zs127 : tZ Tryd.prog 127 = (some (.nilFunc :: [])) := nr (by kernel_rfl)
@[go_sem] theorem Tryd.kd128 : tKind Tryd.prog 128 = 4 := nr (by kernel_rfl)
@[go_sem] theorem Tryd.lay128 : tLay Tryd.prog 128 = (some (false, 1)) := nr (by kernel_rfl)
@[go_sem] theorem Tryd.zs128 : tZ Tryd.prog 128 = (some (.nilFunc :: [])) := nr (by kernel_rfl)
@[go_sem] theorem Tryd.kd129 : tKind Tryd.prog 129 = 6 := nr (by kernel_rfl)
@[go_sem] theorem Tryd.lay129 : tLay Tryd.prog 129 = (some (false, 1)) := nr (by kernel_rfl)
@[go_sem] theorem Tryd.zs129 : tZ Tryd.prog 129 = (some ((.pointer none) :: [])) := nr (by kernel_rfl)
@[go_sem] theorem Tryd.kd130 : tKind Tryd.prog 130 = 7 := nr (by kernel_rfl)
@[go_sem] theorem Tryd.lay130 : tLay Tryd.prog 130 = (some (true, 17)) := nr (by kernel_rfl)
@[go_sem] theorem Tryd.zs130 : tZ Tryd.prog 130 = (some ((.int .i64 0) :: ((.int .i64 0) :: ((.int .i64 0) :: ((.int .i64 0) :: ((.slice none 0 0) :: ((.int .i64 0) :: ((.int .i64 0) :: ((.bool false) :: ((.bool false) :: ((.int .i64 0) :: ((.int .i64 0) :: ((.int .i64 0) :: ((.int .i64 0) :: ((.int .i64 0) :: ((.int .i64 0) :: ((.bool false) :: ((.pointer none) :: [])))))))))))))))))) := nr (by kernel_rfl)
@[go_sem] theorem Tryd.pl130_0 : tPlace Tryd.prog 130 0 = (some (0, 16)) := nr (by kernel_rfl)
@[go_sem] theorem Tryd.pl130_1 : tPlace Tryd.prog 130 1 = (some (16, 1)) := nr (by kernel_rfl)
@[go_sem] theorem Tryd.fld130_0 : tFld Tryd.prog 130 0 = (some 0) := nr (by kernel_rfl)
@[go_sem] theorem Tryd.fld130_1 : tFld Tryd.prog 130 1 = (some 16) := nr (by kernel_rfl)
@[go_sem] theorem Tryd.kd131 : tKind Tryd.prog 131 = 7 := nr (by kernel_rfl)
@[go_sem] theorem Tryd.lay131 : tLay Tryd.prog 131 = (some (true, 17)) := nr (by kernel_rfl)
@[go_sem] theorem Tryd.zs131 : tZ Tryd.prog 131 = (some ((.int .i64 0) :: ((.int .i64 0) :: ((.int .i64 0) :: ((.int .i64 0) :: ((.slice none 0 0) :: ((.int .i64 0) :: ((.int .i64 0) :: ((.bool false) :: ((.bool false) :: ((.int .i64 0) :: ((.int .i64 0) :: ((.int .i64 0) :: ((.int .i64 0) :: ((.int .i64 0) :: ((.int .i64 0) :: ((.bool false) :: ((.pointer none) :: [])))))))))))))))))) := nr (by kernel_rfl)
@[go_sem] theorem Tryd.pl131_0 : tPlace Tryd.prog 131 0 = (some (0, 16)) := nr (by kernel_rfl)
@[go_sem] theorem Tryd.pl131_1 : tPlace Tryd.prog 131 1 = (some (16, 1)) := nr (by kernel_rfl)
@[go_sem] theorem Tryd.fld131_0 : tFld Tryd.prog 131 0 = (some 0) := nr (by kernel_rfl)
@[go_sem] theorem Tryd.fld131_1 : tFld Tryd.prog 131 1 = (some 16) := nr (by kernel_rfl)
@[go_sem] theorem Tryd.kd132 : tKind Tryd.prog 132 = 4 := nr (by kernel_rfl)
@[go_sem] theorem Tryd.lay132 : tLay Tryd.prog 132 = (some (false, 1)) := nr (by kernel_rfl)
@[go_sem] theorem Tryd.zs132 : tZ Tryd.prog 132 = (some (.nilFunc :: [])) := nr (by kernel_rfl)
@[go_sem] theorem Tryd.kd133 : tKind Tryd.prog 133 = 4 := nr (by kernel_rfl)
@[go_sem] theorem Tryd.lay133 : tLay Tryd.prog 133 = (some (false, 1)) := nr (by kernel_rfl)
@[go_sem] theorem Tryd.zs133 : tZ Tryd.prog 133 = (some (.nilFunc :: [])) := nr (by kernel_rfl)
@[go_sem] theorem Tryd.kd134 : tKind Tryd.prog 134 = 4 := nr (by kernel_rfl)
@[go_sem] theorem Tryd.lay134 : tLay Tryd.prog 134 = (some (false, 1)) := nr (by kernel_rfl)
@[go_sem] theorem Tryd.zs134 : tZ Tryd.prog 134 = (some (.nilFunc :: [])) := nr (by kernel_rfl)
@[go_sem] theorem Tryd.kd135 : tKind Tryd.prog 135 = 7 := nr (by kernel_rfl)
@[go_sem] theorem Tryd.lay135 : tLay Tryd.prog 135 = (some (true, 2)) := nr (by kernel_rfl)
@[go_sem] theorem Tryd.zs135 : tZ Tryd.prog 135 = (some ((.int .i64 0) :: ((.int .i64 0) :: []))) := nr (by kernel_rfl)
@[go_sem] theorem Tryd.pl135_0 : tPlace Tryd.prog 135 0 = (some (0, 1)) := nr (by kernel_rfl)
@[go_sem] theorem Tryd.pl135_1 : tPlace Tryd.prog 135 1 = (some (1, 1)) := nr (by kernel_rfl)
@[go_sem] theorem Tryd.fld135_0 : tFld Tryd.prog 135 0 = (some 0) := nr (by kernel_rfl)
@[go_sem] theorem Tryd.fld135_1 : tFld Tryd.prog 135 1 = (some 1) := nr (by kernel_rfl)
@[go_sem] theorem Tryd.eqs135 : eqShape Tryd.prog 10000 135 = (some ((.i .i64) :: ((.i .i64) :: []))) := nr (by kernel_rfl)
@[go_sem] theorem Tryd.eqg135 : Tryd.prog.eqGuardType Tryd.prog.depth 135 = false := nr (by kernel_rfl)
@[go_sem] theorem Tryd.kd136 : tKind Tryd.prog 136 = 7 := nr (by kernel_rfl)
@[go_sem] theorem Tryd.lay136 : tLay Tryd.prog 136 = (some (true, 2)) := nr (by kernel_rfl)
@[go_sem] theorem Tryd.zs136 : tZ Tryd.prog 136 = (some ((.int .i64 0) :: ((.int .i64 0) :: []))) := nr (by kernel_rfl)
@[go_sem] theorem Tryd.pl136_0 : tPlace Tryd.prog 136 0 = (some (0, 1)) := nr (by kernel_rfl)
@[go_sem] theorem Tryd.pl136_1 : tPlace Tryd.prog 136 1 = (some (1, 1)) := nr (by kernel_rfl)
@[go_sem] theorem Tryd.fld136_0 : tFld Tryd.prog 136 0 = (some 0) := nr (by kernel_rfl)
@[go_sem] theorem Tryd.fld136_1 : tFld Tryd.prog 136 1 = (some 1) := nr (by kernel_rfl)
@[go_sem] theorem Tryd.eqs136 : eqShape Tryd.prog 10000 136 = (some ((.i .i64) :: ((.i .i64) :: []))) := nr (by kernel_rfl)
@[go_sem] theorem Tryd.eqg136 : Tryd.prog.eqGuardType Tryd.prog.depth 136 = false := nr (by kernel_rfl)
@[go_sem] theorem Tryd.kd137 : tKind Tryd.prog 137 = 4 := nr (by kernel_rfl)
@[go_sem] theorem Tryd.lay137 : tLay Tryd.prog 137 = (some (false, 1)) := nr (by kernel_rfl)
@[go_sem] theorem Tryd.zs137 : tZ Tryd.prog 137 = (some (.nilFunc :: [])) := nr (by kernel_rfl)
@[go_sem] theorem Tryd.kd138 : tKind Tryd.prog 138 = 4 := nr (by kernel_rfl)
@[go_sem] theorem Tryd.lay138 : tLay Tryd.prog 138 = (some (false, 1)) := nr (by kernel_rfl)
@[go_sem] theorem Tryd.zs138 : tZ Tryd.prog 138 = (some (.nilFunc :: [])) := nr (by kernel_rfl)
@[go_sem] theorem Tryd.kd139 : tKind Tryd.prog 139 = 4 := nr (by kernel_rfl)
@[go_sem] theorem Tryd.lay139 : tLay Tryd.prog 139 = (some (false, 1)) := nr (by kernel_rfl)
@[go_sem] theorem Tryd.zs139 : tZ Tryd.prog 139 = (some (.nilFunc :: [])) := nr (by kernel_rfl)
@[go_sem] theorem Tryd.kd140 : tKind Tryd.prog 140 = 4 := nr (by kernel_rfl)
@[go_sem] theorem Tryd.lay140 : tLay Tryd.prog 140 = (some (false, 1)) := nr (by kernel_rfl)
@[go_sem] theorem Tryd.zs140 : tZ Tryd.prog 140 = (some (.nilFunc :: [])) := nr (by kernel_rfl)
@[go_sem] theorem Tryd.kd141 : tKind Tryd.prog 141 = 4 := nr (by kernel_rfl)
@[go_sem] theorem Tryd.lay141 : tLay Tryd.prog 141 = (some (false, 1)) := nr (by kernel_rfl)
@[go_sem] theorem Tryd.zs141 : tZ Tryd.prog 141 = (some (.nilFunc :: [])) := nr (by kernel_rfl)
@[go_sem] theorem Tryd.kd142 : tKind Tryd.prog 142 = 4 := nr (by kernel_rfl)
@[go_sem] theorem Tryd.lay142 : tLay Tryd.prog 142 = (some (false, 1)) := nr (by kernel_rfl)
@[go_sem] theorem Tryd.zs142 : tZ Tryd.prog 142 = (some (.nilFunc :: [])) := nr (by kernel_rfl)
@[go_sem] theorem Tryd.kd143 : tKind Tryd.prog 143 = 4 := nr (by kernel_rfl)
@[go_sem] theorem Tryd.lay143 : tLay Tryd.prog 143 = (some (false, 1)) := nr (by kernel_rfl)
@[go_sem] theorem Tryd.zs143 : tZ Tryd.prog 143 = (some (.nilFunc :: [])) := nr (by kernel_rfl)
@[go_sem] theorem Tryd.kd144 : tKind Tryd.prog 144 = 8 := nr (by kernel_rfl)
@[go_sem] theorem Tryd.lay144 : tLay Tryd.prog 144 = (some (true, 11)) := nr (by kernel_rfl)
@[go_sem] theorem Tryd.zs144 : tZ Tryd.prog 144 = (some ((.int .i64 0) :: ((.int .i64 0) :: ((.int .i64 0) :: ((.int .i64 0) :: ((.int .i64 0) :: ((.int .i64 0) :: ((.int .i64 0) :: ((.int .i64 0) :: ((.int .i64 0) :: ((.int .i64 0) :: ((.int .i64 0) :: [])))))))))))) := nr (by kernel_rfl)
@[go_sem] theorem Tryd.elm144 : tElem Tryd.prog 144 = none := nr (by kernel_rfl)
@[go_sem] theorem Tryd.arr144 : tArr Tryd.prog 144 = (some (11, 1)) := nr (by kernel_rfl)
@[go_sem] theorem Tryd.pl144_0 : tPlace Tryd.prog 144 0 = (some (0, 1)) := nr (by kernel_rfl)
@[go_sem] theorem Tryd.pl144_1 : tPlace Tryd.prog 144 1 = (some (1, 1)) := nr (by kernel_rfl)
@[go_sem] theorem Tryd.pl144_2 : tPlace Tryd.prog 144 2 = (some (2, 1)) := nr (by kernel_rfl)
@[go_sem] theorem Tryd.pl144_3 : tPlace Tryd.prog 144 3 = (some (3, 1)) := nr (by kernel_rfl)
@[go_sem] theorem Tryd.pl144_4 : tPlace Tryd.prog 144 4 = (some (4, 1)) := nr (by kernel_rfl)
@[go_sem] theorem Tryd.pl144_5 : tPlace Tryd.prog 144 5 = (some (5, 1)) := nr (by kernel_rfl)
@[go_sem] theorem Tryd.pl144_6 : tPlace Tryd.prog 144 6 = (some (6, 1)) := nr (by kernel_rfl)
@[go_sem] theorem Tryd.pl144_7 : tPlace Tryd.prog 144 7 = (some (7, 1)) := nr (by kernel_rfl)
@[go_sem] theorem Tryd.pl144_8 : tPlace Tryd.prog 144 8 = (some (8, 1)) := nr (by kernel_rfl)
@[go_sem] theorem Tryd.pl144_9 : tPlace Tryd.prog 144 9 = (some (9, 1)) := nr (by kernel_rfl)
@[go_sem] theorem Tryd.pl144_10 : tPlace Tryd.prog 144 10 = (some (10, 1)) := nr (by kernel_rfl)
@[go_sem] theorem Tryd.pl144_11 : tPlace Tryd.prog 144 11 = (some (11, 1)) := nr (by kernel_rfl)
@[go_sem] theorem Tryd.eqs144 : eqShape Tryd.prog 10000 144 = (some ((.i .i64) :: ((.i .i64) :: ((.i .i64) :: ((.i .i64) :: ((.i .i64) :: ((.i .i64) :: ((.i .i64) :: ((.i .i64) :: ((.i .i64) :: ((.i .i64) :: ((.i .i64) :: [])))))))))))) := nr (by kernel_rfl)
@[go_sem] theorem Tryd.eqg144 : Tryd.prog.eqGuardType Tryd.prog.depth 144 = false := nr (by kernel_rfl)
@[go_sem] theorem Tryd.kd145 : tKind Tryd.prog 145 = 8 := nr (by kernel_rfl)
@[go_sem] theorem Tryd.lay145 : tLay Tryd.prog 145 = (some (true, 3)) := nr (by kernel_rfl)
@[go_sem] theorem Tryd.zs145 : tZ Tryd.prog 145 = (some ((.bool false) :: ((.bool false) :: ((.bool false) :: [])))) := nr (by kernel_rfl)
@[go_sem] theorem Tryd.elm145 : tElem Tryd.prog 145 = none := nr (by kernel_rfl)
@[go_sem] theorem Tryd.arr145 : tArr Tryd.prog 145 = (some (3, 1)) := nr (by kernel_rfl)
@[go_sem] theorem Tryd.pl145_0 : tPlace Tryd.prog 145 0 = (some (0, 1)) := nr (by kernel_rfl)
@[go_sem] theorem Tryd.pl145_1 : tPlace Tryd.prog 145 1 = (some (1, 1)) := nr (by kernel_rfl)
@[go_sem] theorem Tryd.pl145_2 : tPlace Tryd.prog 145 2 = (some (2, 1)) := nr (by kernel_rfl)
@[go_sem] theorem Tryd.pl145_3 : tPlace Tryd.prog 145 3 = (some (3, 1)) := nr (by kernel_rfl)
@[go_sem] theorem Tryd.pl145_4 : tPlace Tryd.prog 145 4 = (some (4, 1)) := nr (by kernel_rfl)
@[go_sem] theorem Tryd.pl145_5 : tPlace Tryd.prog 145 5 = (some (5, 1)) := nr (by kernel_rfl)
@[go_sem] theorem Tryd.pl145_6 : tPlace Tryd.prog 145 6 = (some (6, 1)) := nr (by kernel_rfl)
@[go_sem] theorem Tryd.pl145_7 : tPlace Tryd.prog 145 7 = (some (7, 1)) := nr (by kernel_rfl)
@[go_sem] theorem Tryd.pl145_8 : tPlace Tryd.prog 145 8 = (some (8, 1)) := nr (by kernel_rfl)
@[go_sem] theorem Tryd.pl145_9 : tPlace Tryd.prog 145 9 = (some (9, 1)) := nr (by kernel_rfl)
@[go_sem] theorem Tryd.pl145_10 : tPlace Tryd.prog 145 10 = (some (10, 1)) := nr (by kernel_rfl)
@[go_sem] theorem Tryd.pl145_11 : tPlace Tryd.prog 145 11 = (some (11, 1)) := nr (by kernel_rfl)
@[go_sem] theorem Tryd.eqs145 : eqShape Tryd.prog 10000 145 = (some (.b :: (.b :: (.b :: [])))) := nr (by kernel_rfl)
@[go_sem] theorem Tryd.eqg145 : Tryd.prog.eqGuardType Tryd.prog.depth 145 = false := nr (by kernel_rfl)
@[go_sem] theorem Tryd.kd146 : tKind Tryd.prog 146 = 7 := nr (by kernel_rfl)
@[go_sem] theorem Tryd.lay146 : tLay Tryd.prog 146 = (some (true, 16)) := nr (by kernel_rfl)
@[go_sem] theorem Tryd.zs146 : tZ Tryd.prog 146 = (some ((.int .i64 0) :: ((.int .i64 0) :: ((.int .i64 0) :: ((.int .i64 0) :: ((.int .i64 0) :: ((.int .i64 0) :: ((.int .i64 0) :: ((.int .i64 0) :: ((.int .i64 0) :: ((.int .i64 0) :: ((.int .i64 0) :: ((.bool false) :: ((.bool false) :: ((.bool false) :: ((.int .i64 0) :: ((.int .i64 0) :: []))))))))))))))))) := nr (by kernel_rfl)
@[go_sem] theorem Tryd.pl146_0 : tPlace Tryd.prog 146 0 = (some (0, 11)) := nr (by kernel_rfl)
@[go_sem] theorem Tryd.pl146_1 : tPlace Tryd.prog 146 1 = (some (11, 3)) := nr (by kernel_rfl)
@[go_sem] theorem Tryd.pl146_2 : tPlace Tryd.prog 146 2 = (some (14, 2)) := nr (by kernel_rfl)
@[go_sem] theorem Tryd.fld146_0 : tFld Tryd.prog 146 0 = (some 0) := nr (by kernel_rfl)
@[go_sem] theorem Tryd.fld146_1 : tFld Tryd.prog 146 1 = (some 11) := nr (by kernel_rfl)
@[go_sem] theorem Tryd.fld146_2 : tFld Tryd.prog 146 2 = (some 14) := nr (by kernel_rfl)
@[go_sem] theorem Tryd.eqs146 : eqShape Tryd.prog 10000 146 = (some ((.i .i64) :: ((.i .i64) :: ((.i .i64) :: ((.i .i64) :: ((.i .i64) :: ((.i .i64) :: ((.i .i64) :: ((.i .i64) :: ((.i .i64) :: ((.i .i64) :: ((.i .i64) :: (.b :: (.b :: (.b :: ((.i .i64) :: ((.i .i64) :: []))))))))))))))))) := nr (by kernel_rfl)
@[go_sem] theorem Tryd.eqg146 : Tryd.prog.eqGuardType Tryd.prog.depth 146 = false := nr (by kernel_rfl)
@[go_sem] theorem Tryd.kd147 : tKind Tryd.prog 147 = 7 := nr (by kernel_rfl)
@[go_sem] theorem Tryd.lay147 : tLay Tryd.prog 147 = (some (true, 16)) := nr (by kernel_rfl)
@[go_sem] theorem Tryd.zs147 : tZ Tryd.prog 147 = (some ((.int .i64 0) :: ((.int .i64 0) :: ((.int .i64 0) :: ((.int .i64 0) :: ((.int .i64 0) :: ((.int .i64 0) :: ((.int .i64 0) :: ((.int .i64 0) :: ((.int .i64 0) :: ((.int .i64 0) :: ((.int .i64 0) :: ((.bool false) :: ((.bool false) :: ((.bool false) :: ((.int .i64 0) :: ((.int .i64 0) :: []))))))))))))))))) := nr (by kernel_rfl)
@[go_sem] theorem Tryd.pl147_0 : tPlace Tryd.prog 147 0 = (some (0, 11)) := nr (by kernel_rfl)
@[go_sem] theorem Tryd.pl147_1 : tPlace Tryd.prog 147 1 = (some (11, 3)) := nr (by kernel_rfl)
@[go_sem] theorem Tryd.pl147_2 : tPlace Tryd.prog 147 2 = (some (14, 2)) := nr (by kernel_rfl)
@[go_sem] theorem Tryd.fld147_0 : tFld Tryd.prog 147 0 = (some 0) := nr (by kernel_rfl)
@[go_sem] theorem Tryd.fld147_1 : tFld Tryd.prog 147 1 = (some 11) := nr (by kernel_rfl)
@[go_sem] theorem Tryd.fld147_2 : tFld Tryd.prog 147 2 = (some 14) := nr (by kernel_rfl)
@[go_sem] theorem Tryd.eqs147 : eqShape Tryd.prog 10000 147 = (some ((.i .i64) :: ((.i .i64) :: ((.i .i64) :: ((.i .i64) :: ((.i .i64) :: ((.i .i64) :: ((.i .i64) :: ((.i .i64) :: ((.i .i64) :: ((.i .i64) :: ((.i .i64) :: (.b :: (.b :: (.b :: ((.i .i64) :: ((.i .i64) :: []))))))))))))))))) := nr (by kernel_rfl)
@[go_sem] theorem Tryd.eqg147 : Tryd.prog.eqGuardType Tryd.prog.depth 147 = false := nr (by kernel_rfl)
@[go_sem] theorem Tryd.kd148 : tKind Tryd.prog 148 = 4 := nr (by kernel_rfl)
@[go_sem] theorem Tryd.lay148 : tLay Tryd.prog 148 = (some (false, 1)) := nr (by kernel_rfl)
@[go_sem] theorem Tryd.zs148 : tZ Tryd.prog 148 = (some (.nilFunc :: [])) := nr (by kernel_rfl)
@[go_sem] theorem Tryd.kd149 : tKind Tryd.prog 149 = 4 := nr (by kernel_rfl)
@[go_sem] theorem Tryd.lay149 : tLay Tryd.prog 149 = (some (false, 1)) := nr (by kernel_rfl)
@[go_sem] theorem Tryd.zs149 : tZ Tryd.prog 149 = (some (.nilFunc :: [])) := nr (by kernel_rfl)
@[go_sem] theorem Tryd.kd150 : tKind Tryd.prog 150 = 4 := nr (by kernel_rfl)
@[go_sem] theorem Tryd.lay150 : tLay Tryd.prog 150 = (some (false, 1)) := nr (by kernel_rfl)
@[go_sem] theorem Tryd.zs150 : tZ Tryd.prog 150 = (some (.nilFunc :: [])) := nr (by kernel_rfl)
@[go_sem] theorem Tryd.kd151 : tKind Tryd.prog 151 = 4 := nr (by kernel_rfl)
@[go_sem] theorem Tryd.lay151 : tLay Tryd.prog 151 = (some (false, 1)) := nr (by kernel_rfl)
@[go_sem] theorem Tryd.zs151 : tZ Tryd.prog 151 = (some (.nilFunc :: [])) := nr (by kernel_rfl)
@[go_sem] theorem Tryd.kd152 : tKind Tryd.prog 152 = 4 := nr (by kernel_rfl)
@[go_sem] theorem Tryd.lay152 : tLay Tryd.prog 152 = (some (false, 1)) := nr (by kernel_rfl)
@[go_sem] theorem Tryd.zs152 : tZ Tryd.prog 152 = (some (.nilFunc :: [])) := nr (by kernel_rfl)
@[go_sem] theorem Tryd.kd153 : tKind Tryd.prog 153 = 4 := nr (by kernel_rfl)
@[go_sem] theorem Tryd.lay153 : tLay Tryd.prog 153 = (some (false, 1)) := nr (by kernel_rfl)
@[go_sem] theorem Tryd.zs153 : tZ Tryd.prog 153 = (some (.nilFunc :: [])) := nr (by kernel_rfl)
@[go_sem] theorem Tryd.kd154 : tKind Tryd.prog 154 = 3 := nr (by kernel_rfl)
@[go_sem] theorem Tryd.lay154 : tLay Tryd.prog 154 = (some (false, 1)) := nr (by kernel_rfl)
@[go_sem] theorem Tryd.zs154 : tZ Tryd.prog 154 = (some ((.map none) :: [])) := nr (by kernel_rfl)
@[go_sem] theorem Tryd.mp154 : tMap Tryd.prog 154 = (some ((.int .i64), (.agg ⟨((.int .i64 0) :: ((.int .i64 0) :: ((.bool false) :: ((.bool false) :: (.nilFunc :: [])))))⟩))) := nr (by kernel_rfl)
@[go_sem] theorem Tryd.kd155 : tKind Tryd.prog 155 = 4 := nr (by kernel_rfl)
@[go_sem] theorem Tryd.lay155 : tLay Tryd.prog 155 = (some (false, 1)) := nr (by kernel_rfl)
@[go_sem] theorem Tryd.zs155 : tZ Tryd.prog 155 = (some (.nilFunc :: [])) := nr (by kernel_rfl)
@[go_sem] theorem Tryd.kd156 : tKind Tryd.prog 156 = 4 := nr (by kernel_rfl)
@[go_sem] theorem Tryd.lay156 : tLay Tryd.prog 156 = (some (false, 1)) := nr (by kernel_rfl)
@[go_sem] theorem Tryd.zs156 : tZ Tryd.prog 156 = (some (.nilFunc :: [])) := nr (by kernel_rfl)
@[go_sem] theorem Tryd.kd157 : tKind Tryd.prog 157 = 9 := nr (by kernel_rfl)
@[go_sem] theorem Tryd.lay157 : tLay Tryd.prog 157 = (some (false, 1)) := nr (by kernel_rfl)
@[go_sem] theorem Tryd.zs157 : tZ Tryd.prog 157 = (some ((.int .u64 0) :: [])) := nr (by kernel_rfl)
@[go_sem] theorem Tryd.int157 : tInt Tryd.prog 157 = (some .u64) := nr (by kernel_rfl)
@[go_sem] theorem Tryd.kd158 : tKind Tryd.prog 158 = 4 := nr (by kernel_rfl)
@[go_sem] theorem Tryd.lay158 : tLay Tryd.prog 158 = (some (false, 1)) := nr (by kernel_rfl)
@[go_sem] theorem Tryd.zs158 : tZ Tryd.prog 158 = (some (.nilFunc :: [])) := nr (by kernel_rfl)
@[go_sem] theorem Tryd.kd159 : tKind Tryd.prog 159 = 1 := nr (by kernel_rfl)
@[go_sem] theorem Tryd.lay159 : tLay Tryd.prog 159 = (some (false, 1)) := nr (by kernel_rfl)
@[go_sem] theorem Tryd.zs159 : tZ Tryd.prog 159 = (some ((.slice none 0 0) :: [])) := nr (by kernel_rfl)
@[go_sem] theorem Tryd.elm159 : tElem Tryd.prog 159 = (some 1) := nr (by kernel_rfl)
@[go_sem] theorem Tryd.el159 : tEl Tryd.prog 159 = (some ⟨132, 1, 8, (.nilFunc :: [])⟩) := nr (by kernel_rfl)
@[go_sem] theorem Tryd.kd160 : tKind Tryd.prog 160 = 4 := nr (by kernel_rfl)
@[go_sem] theorem Tryd.lay160 : tLay Tryd.prog 160 = (some (false, 1)) := nr (by kernel_rfl)
@[go_sem] theorem Tryd.zs160 : tZ Tryd.prog 160 = (some (.nilFunc :: [])) := nr (by kernel_rfl)
@[go_sem] theorem Tryd.kd161 : tKind Tryd.prog 161 = 4 := nr (by kernel_rfl)
@[go_sem] theorem Tryd.lay161 : tLay Tryd.prog 161 = (some (false, 1)) := nr (by kernel_rfl)
@[go_sem] theorem Tryd.zs161 : tZ Tryd.prog 161 = (some (.nilFunc :: [])) := nr (by kernel_rfl)
@[go_sem] theorem Tryd.kd162 : tKind Tryd.prog 162 = 4 := nr (by kernel_rfl)
@[go_sem] theorem Tryd.lay162 : tLay Tryd.prog 162 = (some (false, 1)) := nr (by kernel_rfl)
@[go_sem] theorem Tryd.zs162 : tZ Tryd.prog 162 = (some (.nilFunc :: [])) := nr (by kernel_rfl)
@[go_sem] theorem Tryd.kd163 : tKind Tryd.prog 163 = 4 := nr (by kernel_rfl)
@[go_sem] theorem Tryd.lay163 : tLay Tryd.prog 163 = (some (false, 1)) := nr (by kernel_rfl)
@[go_sem] theorem Tryd.zs163 : tZ Tryd.prog 163 = (some (.nilFunc :: [])) := nr (by kernel_rfl)
@[go_sem] theorem Tryd.kd164 : tKind Tryd.prog 164 = 4 := nr (by kernel_rfl)
@[go_sem] theorem Tryd.lay164 : tLay Tryd.prog 164 = (some (false, 1)) := nr (by kernel_rfl)
@[go_sem] theorem Tryd.zs164 : tZ Tryd.prog 164 = (some (.nilFunc :: [])) := nr (by kernel_rfl)
@[go_sem] theorem Tryd.kd165 : tKind Tryd.prog 165 = 3 := nr (by kernel_rfl)
@[go_sem] theorem Tryd.lay165 : tLay Tryd.prog 165 = (some (false, 1)) := nr (by kernel_rfl)
@[go_sem] theorem Tryd.zs165 : tZ Tryd.prog 165 = (some ((.map none) :: [])) := nr (by kernel_rfl)
@[go_sem] theorem Tryd.mp165 : tMap Tryd.prog 165 = (some (.string, (.bool false))) := nr (by kernel_rfl)
@[go_sem] theorem Tryd.kd166 : tKind Tryd.prog 166 = 1 := nr (by kernel_rfl)
@[go_sem] theorem Tryd.lay166 : tLay Tryd.prog 166 = (some (false, 1)) := nr (by kernel_rfl)
@[go_sem] theorem Tryd.zs166 : tZ Tryd.prog 166 = (some ((.slice none 0 0) :: [])) := nr (by kernel_rfl)
@[go_sem] theorem Tryd.elm166 : tElem Tryd.prog 166 = (some 5) := nr (by kernel_rfl)
@[go_sem] theorem Tryd.el166 : tEl Tryd.prog 166 = (some ⟨107, 5, 48, ((.string ByteArray.empty) :: ((.int .i64 0) :: ((.int .i64 0) :: ((.int .i64 0) :: ((.int .i64 0) :: [])))))⟩) := nr (by kernel_rfl)
@[go_sem] theorem Tryd.kd167 : tKind Tryd.prog 167 = 4 := nr (by kernel_rfl)
@[go_sem] theorem Tryd.lay167 : tLay Tryd.prog 167 = (some (false, 1)) := nr (by kernel_rfl)
@[go_sem] theorem Tryd.zs167 : tZ Tryd.prog 167 = (some (.nilFunc :: [])) := nr (by kernel_rfl)
@[go_sem] theorem Tryd.kd168 : tKind Tryd.prog 168 = 4 := nr (by kernel_rfl)
@[go_sem] theorem Tryd.lay168 : tLay Tryd.prog 168 = (some (false, 1)) := nr (by kernel_rfl)
@[go_sem] theorem Tryd.zs168 : tZ Tryd.prog 168 = (some (.nilFunc :: [])) := nr (by kernel_rfl)
@[go_sem] theorem Tryd.kd169 : tKind Tryd.prog 169 = 4 := nr (by kernel_rfl)
@[go_sem] theorem Tryd.lay169 : tLay Tryd.prog 169 = (some (false, 1)) := nr (by kernel_rfl)
@[go_sem] theorem Tryd.zs169 : tZ Tryd.prog 169 = (some (.nilFunc :: [])) := nr (by kernel_rfl)
@[go_sem] theorem Tryd.kd170 : tKind Tryd.prog 170 = 4 := nr (by kernel_rfl)
@[go_sem] theorem Tryd.lay170 : tLay Tryd.prog 170 = (some (false, 1)) := nr (by kernel_rfl)
@[go_sem] theorem Tryd.zs170 : tZ Tryd.prog 170 = (some (.nilFunc :: [])) := nr (by kernel_rfl)
@[go_sem] theorem Tryd.kd171 : tKind Tryd.prog 171 = 9 := nr (by kernel_rfl)
@[go_sem] theorem Tryd.lay171 : tLay Tryd.prog 171 = (some (false, 1)) := nr (by kernel_rfl)
@[go_sem] theorem Tryd.zs171 : tZ Tryd.prog 171 = (some ((.int .i64 0) :: [])) := nr (by kernel_rfl)
@[go_sem] theorem Tryd.int171 : tInt Tryd.prog 171 = (some .i64) := nr (by kernel_rfl)
@[go_sem] theorem Tryd.kd173 : tKind Tryd.prog 173 = 4 := nr (by kernel_rfl)
@[go_sem] theorem Tryd.lay173 : tLay Tryd.prog 173 = (some (false, 1)) := nr (by kernel_rfl)
@[go_sem] theorem Tryd.zs173 : tZ Tryd.prog 173 = (some (.nilFunc :: [])) := nr (by kernel_rfl)
@[go_sem] theorem Tryd.kd174 : tKind Tryd.prog 174 = 4 := nr (by kernel_rfl)
@[go_sem] theorem Tryd.lay174 : tLay Tryd.prog 174 = (some (false, 1)) := nr (by kernel_rfl)
@[go_sem] theorem Tryd.zs174 : tZ Tryd.prog 174 = (some (.nilFunc :: [])) := nr (by kernel_rfl)
@[go_sem] theorem Tryd.kd175 : tKind Tryd.prog 175 = 4 := nr (by kernel_rfl)
@[go_sem] theorem Tryd.lay175 : tLay Tryd.prog 175 = (some (false, 1)) := nr (by kernel_rfl)
@[go_sem] theorem Tryd.zs175 : tZ Tryd.prog 175 = (some (.nilFunc :: [])) := nr (by kernel_rfl)
@[go_sem] theorem Tryd.kd176 : tKind Tryd.prog 176 = 4 := nr (by kernel_rfl)
@[go_sem] theorem Tryd.lay176 : tLay Tryd.prog 176 = (some (false, 1)) := nr (by kernel_rfl)
@[go_sem] theorem Tryd.zs176 : tZ Tryd.prog 176 = (some (.nilFunc :: [])) := nr (by kernel_rfl)
@[go_sem] theorem Tryd.kd177 : tKind Tryd.prog 177 = 4 := nr (by kernel_rfl)
@[go_sem] theorem Tryd.lay177 : tLay Tryd.prog 177 = (some (false, 1)) := nr (by kernel_rfl)
@[go_sem] theorem Tryd.zs177 : tZ Tryd.prog 177 = (some (.nilFunc :: [])) := nr (by kernel_rfl)
@[go_sem] theorem Tryd.kd178 : tKind Tryd.prog 178 = 9 := nr (by kernel_rfl)
@[go_sem] theorem Tryd.lay178 : tLay Tryd.prog 178 = (some (false, 1)) := nr (by kernel_rfl)
@[go_sem] theorem Tryd.zs178 : tZ Tryd.prog 178 = (some ((.int .u32 0) :: [])) := nr (by kernel_rfl)
@[go_sem] theorem Tryd.int178 : tInt Tryd.prog 178 = (some .u32) := nr (by kernel_rfl)
@[go_sem] theorem Tryd.kd179 : tKind Tryd.prog 179 = 4 := nr (by kernel_rfl)
@[go_sem] theorem Tryd.lay179 : tLay Tryd.prog 179 = (some (false, 1)) := nr (by kernel_rfl)
@[go_sem] theorem Tryd.zs179 : tZ Tryd.prog 179 = (some (.nilFunc :: [])) := nr (by kernel_rfl)
@[go_sem] theorem Tryd.kd180 : tKind Tryd.prog 180 = 9 := nr (by kernel_rfl)
@[go_sem] theorem Tryd.lay180 : tLay Tryd.prog 180 = (some (false, 1)) := nr (by kernel_rfl)
@[go_sem] theorem Tryd.zs180 : tZ Tryd.prog 180 = (some ((.int .u64 0) :: [])) := nr (by kernel_rfl)
@[go_sem] theorem Tryd.int180 : tInt Tryd.prog 180 = (some .u64) := nr (by kernel_rfl)
@[go_sem] theorem Tryd.kd182 : tKind Tryd.prog 182 = 4 := nr (by kernel_rfl)
@[go_sem] theorem Tryd.lay182 : tLay Tryd.prog 182 = (some (false, 1)) := nr (by kernel_rfl)
@[go_sem] theorem Tryd.zs182 : tZ Tryd.prog 182 = (some (.nilFunc :: [])) := nr (by kernel_rfl)
@[go_sem] theorem Tryd.kd183 : tKind Tryd.prog 183 = 4 := nr (by kernel_rfl)
@[go_sem] theorem Tryd.lay183 : tLay Tryd.prog 183 = (some (false, 1)) := nr (by kernel_rfl)
@[go_sem] theorem Tryd.zs183 : tZ Tryd.prog 183 = (some (.nilFunc :: [])) := nr (by kernel_rfl)
@[go_sem] theorem Tryd.kd184 : tKind Tryd.prog 184 = 4 := nr (by kernel_rfl)
@[go_sem] theorem Tryd.lay184 : tLay Tryd.prog 184 = (some (false, 1)) := nr (by kernel_rfl)
@[go_sem] theorem Tryd.zs184 : tZ Tryd.prog 184 = (some (.nilFunc :: [])) := nr (by kernel_rfl)
@[go_sem] theorem Tryd.kd185 : tKind Tryd.prog 185 = 4 := nr (by kernel_rfl)
@[go_sem] theorem Tryd.lay185 : tLay Tryd.prog 185 = (some (false, 1)) := nr (by kernel_rfl)
@[go_sem] theorem Tryd.zs185 : tZ Tryd.prog 185 = (some (.nilFunc :: [])) := nr (by kernel_rfl)
@[go_sem] theorem Tryd.kd186 : tKind Tryd.prog 186 = 9 := nr (by kernel_rfl)
@[go_sem] theorem Tryd.lay186 : tLay Tryd.prog 186 = (some (false, 1)) := nr (by kernel_rfl)
@[go_sem] theorem Tryd.zs186 : tZ Tryd.prog 186 = (some ((.int .u64 0) :: [])) := nr (by kernel_rfl)
@[go_sem] theorem Tryd.int186 : tInt Tryd.prog 186 = (some .u64) := nr (by kernel_rfl)
@[go_sem] theorem Tryd.kd187 : tKind Tryd.prog 187 = 4 := nr (by kernel_rfl)
@[go_sem] theorem Tryd.lay187 : tLay Tryd.prog 187 = (some (false, 1)) := nr (by kernel_rfl)
@[go_sem] theorem Tryd.zs187 : tZ Tryd.prog 187 = (some (.nilFunc :: [])) := nr (by kernel_rfl)
@[go_sem] theorem Tryd.kd188 : tKind Tryd.prog 188 = 4 := nr (by kernel_rfl)
@[go_sem] theorem Tryd.lay188 : tLay Tryd.prog 188 = (some (false, 1)) := nr (by kernel_rfl)
@[go_sem] theorem Tryd.zs188 : tZ Tryd.prog 188 = (some (.nilFunc :: [])) := nr (by kernel_rfl)
@[go_sem] theorem Tryd.kd189 : tKind Tryd.prog 189 = 4 := nr (by kernel_rfl)
@[go_sem] theorem Tryd.lay189 : tLay Tryd.prog 189 = (some (false, 1)) := nr (by kernel_rfl)
@[go_sem] theorem Tryd.zs189 : tZ Tryd.prog 189 = (some (.nilFunc :: [])) := nr (by kernel_rfl)
@[go_sem] theorem Tryd.kd190 : tKind Tryd.prog 190 = 6 := nr (by kernel_rfl)
@[go_sem] theorem Tryd.lay190 : tLay Tryd.prog 190 = (some (false, 1)) := nr (by kernel_rfl)
@[go_sem] theorem Tryd.zs190 : tZ Tryd.prog 190 = (some ((.pointer none) :: [])) := nr (by kernel_rfl)
@[go_sem] theorem Tryd.kd191 : tKind Tryd.prog 191 = 4 := nr (by kernel_rfl)
@[go_sem] theorem Tryd.lay191 : tLay Tryd.prog 191 = (some (false, 1)) := nr (by kernel_rfl)
@[go_sem] theorem Tryd.zs191 : tZ Tryd.prog 191 = (some (.nilFunc :: [])) := nr (by kernel_rfl)
@[go_sem] theorem Tryd.kd192 : tKind Tryd.prog 192 = 1 := nr (by kernel_rfl)
@[go_sem] theorem Tryd.lay192 : tLay Tryd.prog 192 = (some (false, 1)) := nr (by kernel_rfl)
@[go_sem] theorem Tryd.zs192 : tZ Tryd.prog 192 = (some ((.slice none 0 0) :: [])) := nr (by kernel_rfl)
@[go_sem] theorem Tryd.elm192 : tElem Tryd.prog 192 = (some 1) := nr (by kernel_rfl)
@[go_sem] theorem Tryd.el192 : tEl Tryd.prog 192 = (some ⟨180, 1, 8, ((.int .u64 0) :: [])⟩) := nr (by kernel_rfl)
@[go_sem] theorem Tryd.kd193 : tKind Tryd.prog 193 = 6 := nr (by kernel_rfl)
@[go_sem] theorem Tryd.lay193 : tLay Tryd.prog 193 = (some (false, 1)) := nr (by kernel_rfl)
@[go_sem] theorem Tryd.zs193 : tZ Tryd.prog 193 = (some ((.pointer none) :: [])) := nr (by kernel_rfl)
@[go_sem] theorem Tryd.kd195 : tKind Tryd.prog 195 = 4 := nr (by kernel_rfl)
@[go_sem] theorem Tryd.lay195 : tLay Tryd.prog 195 = (some (false, 1)) := nr (by kernel_rfl)
@[go_sem] theorem Tryd.zs195 : tZ Tryd.prog 195 = (some (.nilFunc :: [])) := nr (by kernel_rfl)
@[go_sem] theorem Tryd.kd196 : tKind Tryd.prog 196 = 4 := nr (by kernel_rfl)
@[go_sem] theorem Tryd.lay196 : tLay Tryd.prog 196 = (some (false, 1)) := nr (by kernel_rfl)
@[go_sem] theorem Tryd.zs196 : tZ Tryd.prog 196 = (some (.nilFunc :: [])) := nr (by kernel_rfl)
@[go_sem] theorem Tryd.kd197 : tKind Tryd.prog 197 = 7 := nr (by kernel_rfl)
@[go_sem] theorem Tryd.lay197 : tLay Tryd.prog 197 = (some (true, 4)) := nr (by kernel_rfl)
@[go_sem] theorem Tryd.zs197 : tZ Tryd.prog 197 = (some ((.pointer none) :: ((.pointer none) :: ((.pointer none) :: ((.string ByteArray.empty) :: []))))) := nr (by kernel_rfl)
@[go_sem] theorem Tryd.pl197_0 : tPlace Tryd.prog 197 0 = (some (0, 1)) := nr (by kernel_rfl)
@[go_sem] theorem Tryd.pl197_1 : tPlace Tryd.prog 197 1 = (some (1, 1)) := nr (by kernel_rfl)
@[go_sem] theorem Tryd.pl197_2 : tPlace Tryd.prog 197 2 = (some (2, 1)) := nr (by kernel_rfl)
@[go_sem] theorem Tryd.pl197_3 : tPlace Tryd.prog 197 3 = (some (3, 1)) := nr (by kernel_rfl)
@[go_sem] theorem Tryd.fld197_0 : tFld Tryd.prog 197 0 = (some 0) := nr (by kernel_rfl)
@[go_sem] theorem Tryd.fld197_1 : tFld Tryd.prog 197 1 = (some 1) := nr (by kernel_rfl)
@[go_sem] theorem Tryd.fld197_2 : tFld Tryd.prog 197 2 = (some 2) := nr (by kernel_rfl)
@[go_sem] theorem Tryd.fld197_3 : tFld Tryd.prog 197 3 = (some 3) := nr (by kernel_rfl)
@[go_sem] theorem Tryd.kd198 : tKind Tryd.prog 198 = 7 := nr (by kernel_rfl)
@[go_sem] theorem Tryd.lay198 : tLay Tryd.prog 198 = (some (true, 4)) := nr (by kernel_rfl)
@[go_sem] theorem Tryd.zs198 : tZ Tryd.prog 198 = (some ((.pointer none) :: ((.pointer none) :: ((.pointer none) :: ((.string ByteArray.empty) :: []))))) := nr (by kernel_rfl)
@[go_sem] theorem Tryd.pl198_0 : tPlace Tryd.prog 198 0 = (some (0, 1)) := nr (by kernel_rfl)
@[go_sem] theorem Tryd.pl198_1 : tPlace Tryd.prog 198 1 = (some (1, 1)) := nr (by kernel_rfl)
@[go_sem] theorem Tryd.pl198_2 : tPlace Tryd.prog 198 2 = (some (2, 1)) := nr (by kernel_rfl)
@[go_sem] theorem Tryd.pl198_3 : tPlace Tryd.prog 198 3 = (some (3, 1)) := nr (by kernel_rfl)
@[go_sem] theorem Tryd.fld198_0 : tFld Tryd.prog 198 0 = (some 0) := nr (by kernel_rfl)
@[go_sem] theorem Tryd.fld198_1 : tFld Tryd.prog 198 1 = (some 1) := nr (by kernel_rfl)
@[go_sem] theorem Tryd.fld198_2 : tFld Tryd.prog 198 2 = (some 2) := nr (by kernel_rfl)
@[go_sem] theorem Tryd.fld198_3 : tFld Tryd.prog 198 3 = (some 3) := nr (by kernel_rfl)
@[go_sem] theorem Tryd.kd199 : tKind Tryd.prog 199 = 8 := nr (by kernel_rfl)
@[go_sem] theorem Tryd.lay199 : tLay Tryd.prog 199 = (some (true, 0)) := nr (by kernel_rfl)
@[go_sem] theorem Tryd.zs199 : tZ Tryd.prog 199 = (some []) := nr (by kernel_rfl)
@[go_sem] theorem Tryd.elm199 : tElem Tryd.prog 199 = none := nr (by kernel_rfl)
@[go_sem] theorem Tryd.arr199 : tArr Tryd.prog 199 = (some (0, 1)) := nr (by kernel_rfl)
@[go_sem] theorem Tryd.pl199_0 : tPlace Tryd.prog 199 0 = (some (0, 1)) := nr (by kernel_rfl)
@[go_sem] theorem Tryd.pl199_1 : tPlace Tryd.prog 199 1 = (some (1, 1)) := nr (by kernel_rfl)
@[go_sem] theorem Tryd.pl199_2 : tPlace Tryd.prog 199 2 = (some (2, 1)) := nr (by kernel_rfl)
@[go_sem] theorem Tryd.pl199_3 : tPlace Tryd.prog 199 3 = (some (3, 1)) := nr (by kernel_rfl)
@[go_sem] theorem Tryd.pl199_4 : tPlace Tryd.prog 199 4 = (some (4, 1)) := nr (by kernel_rfl)
@[go_sem] theorem Tryd.pl199_5 : tPlace Tryd.prog 199 5 = (some (5, 1)) := nr (by kernel_rfl)
@[go_sem] theorem Tryd.pl199_6 : tPlace Tryd.prog 199 6 = (some (6, 1)) := nr (by kernel_rfl)
@[go_sem] theorem Tryd.pl199_7 : tPlace Tryd.prog 199 7 = (some (7, 1)) := nr (by kernel_rfl)
@[go_sem] theorem Tryd.pl199_8 : tPlace Tryd.prog 199 8 = (some (8, 1)) := nr (by kernel_rfl)
@[go_sem] theorem Tryd.pl199_9 : tPlace Tryd.prog 199 9 = (some (9, 1)) := nr (by kernel_rfl)
@[go_sem] theorem Tryd.pl199_10 : tPlace Tryd.prog 199 10 = (some (10, 1)) := nr (by kernel_rfl)
@[go_sem] theorem Tryd.pl199_11 : tPlace Tryd.prog 199 11 = (some (11, 1)) := nr (by kernel_rfl)
@[go_sem] theorem Tryd.kd200 : tKind Tryd.prog 200 = 7 := nr (by kernel_rfl)
@[go_sem] theorem Tryd.lay200 : tLay Tryd.prog 200 = (some (true, 0)) := nr (by kernel_rfl)
@[go_sem] theorem Tryd.zs200 : tZ Tryd.prog 200 = (some []) := nr (by kernel_rfl)
@[go_sem] theorem Tryd.pl200_0 : tPlace Tryd.prog 200 0 = (some (0, 0)) := nr (by kernel_rfl)
@[go_sem] theorem Tryd.kd201 : tKind Tryd.prog 201 = 7 := nr (by kernel_rfl)
@[go_sem] theorem Tryd.lay201 : tLay Tryd.prog 201 = (some (true, 0)) := nr (by kernel_rfl)
@[go_sem] theorem Tryd.zs201 : tZ Tryd.prog 201 = (some []) := nr (by kernel_rfl)
@[go_sem] theorem Tryd.pl201_0 : tPlace Tryd.prog 201 0 = (some (0, 0)) := nr (by kernel_rfl)
@[go_sem] theorem Tryd.kd202 : tKind Tryd.prog 202 = 4 := nr (by kernel_rfl)
@[go_sem] theorem Tryd.lay202 : tLay Tryd.prog 202 = (some (false, 1)) := nr (by kernel_rfl)
@[go_sem] theorem Tryd.zs202 : tZ Tryd.prog 202 = (some (.nilFunc :: [])) := nr (by kernel_rfl)
@[go_sem] theorem Tryd.kd203 : tKind Tryd.prog 203 = 9 := nr (by kernel_rfl)
@[go_sem] theorem Tryd.lay203 : tLay Tryd.prog 203 = (some (false, 1)) := nr (by kernel_rfl)
@[go_sem] theorem Tryd.zs203 : tZ Tryd.prog 203 = (some ((.int .u8 0) :: [])) := nr (by kernel_rfl)
@[go_sem] theorem Tryd.int203 : tInt Tryd.prog 203 = (some .u8) := nr (by kernel_rfl)
@[go_sem] theorem Tryd.kd204 : tKind Tryd.prog 204 = 9 := nr (by kernel_rfl)
@[go_sem] theorem Tryd.lay204 : tLay Tryd.prog 204 = (some (false, 1)) := nr (by kernel_rfl)
@[go_sem] theorem Tryd.zs204 : tZ Tryd.prog 204 = (some ((.int .u8 0) :: [])) := nr (by kernel_rfl)
@[go_sem] theorem Tryd.int204 : tInt Tryd.prog 204 = (some .u8) := nr (by kernel_rfl)
@[go_sem] theorem Tryd.kd205 : tKind Tryd.prog 205 = 4 := nr (by kernel_rfl)
@[go_sem] theorem Tryd.lay205 : tLay Tryd.prog 205 = (some (false, 1)) := nr (by kernel_rfl)
@[go_sem] theorem Tryd.zs205 : tZ Tryd.prog 205 = (some (.nilFunc :: [])) := nr (by kernel_rfl)
@[go_sem] theorem Tryd.kd206 : tKind Tryd.prog 206 = 6 := nr (by kernel_rfl)
@[go_sem] theorem Tryd.lay206 : tLay Tryd.prog 206 = (some (false, 1)) := nr (by kernel_rfl)
@[go_sem] theorem Tryd.zs206 : tZ Tryd.prog 206 = (some ((.pointer none) :: [])) := nr (by kernel_rfl)
@[go_sem] theorem Tryd.kd207 : tKind Tryd.prog 207 = 9 := nr (by kernel_rfl)
@[go_sem] theorem Tryd.lay207 : tLay Tryd.prog 207 = (some (false, 1)) := nr (by kernel_rfl)
@[go_sem] theorem Tryd.zs207 : tZ Tryd.prog 207 = (some ((.int .i32 0) :: [])) := nr (by kernel_rfl)
@[go_sem] theorem Tryd.int207 : tInt Tryd.prog 207 = (some .i32) := nr (by kernel_rfl)
@[go_sem] theorem Tryd.kd208 : tKind Tryd.prog 208 = 9 := nr (by kernel_rfl)
@[go_sem] theorem Tryd.lay208 : tLay Tryd.prog 208 = (some (false, 1)) := nr (by kernel_rfl)
@[go_sem] theorem Tryd.zs208 : tZ Tryd.prog 208 = (some ((.int .i32 0) :: [])) := nr (by kernel_rfl)
@[go_sem] theorem Tryd.int208 : tInt Tryd.prog 208 = (some .i32) := nr (by kernel_rfl)
@[go_sem] theorem Tryd.kd209 : tKind Tryd.prog 209 = 7 := nr (by kernel_rfl)
@[go_sem] theorem Tryd.lay209 : tLay Tryd.prog 209 = (some (true, 11)) := nr (by kernel_rfl)
@[go_sem] theorem Tryd.zs209 : tZ Tryd.prog 209 = (some ((.int .u64 0) :: ((.int .u64 0) :: ((.int .u32 0) :: ((.int .u8 0) :: ((.int .u8 0) :: ((.int .u8 0) :: ((.int .u8 0) :: (.nilFunc :: ((.pointer none) :: ((.int .i32 0) :: ((.int .i32 0) :: [])))))))))))) := nr (by kernel_rfl)
@[go_sem] theorem Tryd.pl209_0 : tPlace Tryd.prog 209 0 = (some (0, 1)) := nr (by kernel_rfl)
@[go_sem] theorem Tryd.pl209_1 : tPlace Tryd.prog 209 1 = (some (1, 1)) := nr (by kernel_rfl)
@[go_sem] theorem Tryd.pl209_2 : tPlace Tryd.prog 209 2 = (some (2, 1)) := nr (by kernel_rfl)
@[go_sem] theorem Tryd.pl209_3 : tPlace Tryd.prog 209 3 = (some (3, 1)) := nr (by kernel_rfl)
@[go_sem] theorem Tryd.pl209_4 : tPlace Tryd.prog 209 4 = (some (4, 1)) := nr (by kernel_rfl)
@[go_sem] theorem Tryd.pl209_5 : tPlace Tryd.prog 209 5 = (some (5, 1)) := nr (by kernel_rfl)
@[go_sem] theorem Tryd.pl209_6 : tPlace Tryd.prog 209 6 = (some (6, 1)) := nr (by kernel_rfl)
@[go_sem] theorem Tryd.pl209_7 : tPlace Tryd.prog 209 7 = (some (7, 1)) := nr (by kernel_rfl)
@[go_sem] theorem Tryd.pl209_8 : tPlace Tryd.prog 209 8 = (some (8, 1)) := nr (by kernel_rfl)
@[go_sem] theorem Tryd.pl209_9 : tPlace Tryd.prog 209 9 = (some (9, 1)) := nr (by kernel_rfl)
@[go_sem] theorem Tryd.pl209_10 : tPlace Tryd.prog 209 10 = (some (10, 1)) := nr (by kernel_rfl)
@[go_sem] theorem Tryd.fld209_0 : tFld Tryd.prog 209 0 = (some 0) := nr (by kernel_rfl)
@[go_sem] theorem Tryd.fld209_1 : tFld Tryd.prog 209 1 = (some 1) := nr (by kernel_rfl)
@[go_sem] theorem Tryd.fld209_2 : tFld Tryd.prog 209 2 = (some 2) := nr (by kernel_rfl)
@[go_sem] theorem Tryd.fld209_3 : tFld Tryd.prog 209 3 = (some 3) := nr (by kernel_rfl)
@[go_sem] theorem Tryd.fld209_4 : tFld Tryd.prog 209 4 = (some 4) := nr (by kernel_rfl)
@[go_sem] theorem Tryd.fld209_5 : tFld Tryd.prog 209 5 = (some 5) := nr (by kernel_rfl)
@[go_sem] theorem Tryd.fld209_6 : tFld Tryd.prog 209 6 = (some 6) := nr (by kernel_rfl)
@[go_sem] theorem Tryd.fld209_7 : tFld Tryd.prog 209 7 = (some 7) := nr (by kernel_rfl)
@[go_sem] theorem Tryd.fld209_8 : tFld Tryd.prog 209 8 = (some 8) := nr (by kernel_rfl)
@[go_sem] theorem Tryd.fld209_9 : tFld Tryd.prog 209 9 = (some 9) := nr (by kernel_rfl)
@[go_sem] theorem Tryd.fld209_10 : tFld Tryd.prog 209 10 = (some 10) := nr (by kernel_rfl)
@[go_sem] theorem Tryd.kd210 : tKind Tryd.prog 210 = 7 := nr (by kernel_rfl)
@[go_sem] theorem Tryd.lay210 : tLay Tryd.prog 210 = (some (true, 11)) := nr (by kernel_rfl)
@[go_sem] theorem Tryd.zs210 : tZ Tryd.prog 210 = (some ((.int .u64 0) :: ((.int .u64 0) :: ((.int .u32 0) :: ((.int .u8 0) :: ((.int .u8 0) :: ((.int .u8 0) :: ((.int .u8 0) :: (.nilFunc :: ((.pointer none) :: ((.int .i32 0) :: ((.int .i32 0) :: [])))))))))))) := nr (by kernel_rfl)
@[go_sem] theorem Tryd.pl210_0 : tPlace Tryd.prog 210 0 = (some (0, 1)) := nr (by kernel_rfl)
@[go_sem] theorem Tryd.pl210_1 : tPlace Tryd.prog 210 1 = (some (1, 1)) := nr (by kernel_rfl)
@[go_sem] theorem Tryd.pl210_2 : tPlace Tryd.prog 210 2 = (some (2, 1)) := nr (by kernel_rfl)
@[go_sem] theorem Tryd.pl210_3 : tPlace Tryd.prog 210 3 = (some (3, 1)) := nr (by kernel_rfl)
@[go_sem] theorem Tryd.pl210_4 : tPlace Tryd.prog 210 4 = (some (4, 1)) := nr (by kernel_rfl)
@[go_sem] theorem Tryd.pl210_5 : tPlace Tryd.prog 210 5 = (some (5, 1)) := nr (by kernel_rfl)
@[go_sem] theorem Tryd.pl210_6 : tPlace Tryd.prog 210 6 = (some (6, 1)) := nr (by kernel_rfl)
@[go_sem] theorem Tryd.pl210_7 : tPlace Tryd.prog 210 7 = (some (7, 1)) := nr (by kernel_rfl)
@[go_sem] theorem Tryd.pl210_8 : tPlace Tryd.prog 210 8 = (some (8, 1)) := nr (by kernel_rfl)
@[go_sem] theorem Tryd.pl210_9 : tPlace Tryd.prog 210 9 = (some (9, 1)) := nr (by kernel_rfl)
@[go_sem] theorem Tryd.pl210_10 : tPlace Tryd.prog 210 10 = (some (10, 1)) := nr (by kernel_rfl)
@[go_sem] theorem Tryd.fld210_0 : tFld Tryd.prog 210 0 = (some 0) := nr (by kernel_rfl)
@[go_sem] theorem Tryd.fld210_1 : tFld Tryd.prog 210 1 = (some 1) := nr (by kernel_rfl)
@[go_sem] theorem Tryd.fld210_2 : tFld Tryd.prog 210 2 = (some 2) := nr (by kernel_rfl)
@[go_sem] theorem Tryd.fld210_3 : tFld Tryd.prog 210 3 = (some 3) := nr (by kernel_rfl)
@[go_sem] theorem Tryd.fld210_4 : tFld Tryd.prog 210 4 = (some 4) := nr (by kernel_rfl)
@[go_sem] theorem Tryd.fld210_5 : tFld Tryd.prog 210 5 = (some 5) := nr (by kernel_rfl)
@[go_sem] theorem Tryd.fld210_6 : tFld Tryd.prog 210 6 = (some 6) := nr (by kernel_rfl)
@[go_sem] theorem Tryd.fld210_7 : tFld Tryd.prog 210 7 = (some 7) := nr (by kernel_rfl)
@[go_sem] theorem Tryd.fld210_8 : tFld Tryd.prog 210 8 = (some 8) := nr (by kernel_rfl)
@[go_sem] theorem Tryd.fld210_9 : tFld Tryd.prog 210 9 = (some 9) := nr (by kernel_rfl)
@[go_sem] theorem Tryd.fld210_10 : tFld Tryd.prog 210 10 = (some 10) := nr (by kernel_rfl)
@[go_sem] theorem Tryd.kd211 : tKind Tryd.prog 211 = 4 := nr (by kernel_rfl)
@[go_sem] theorem Tryd.lay211 : tLay Tryd.prog 211 = (some (false, 1)) := nr (by kernel_rfl)
@[go_sem] theorem Tryd.zs211 : tZ Tryd.prog 211 = (some (.nilFunc :: [])) := nr (by kernel_rfl)
@[go_sem] theorem Tryd.kd213 : tKind Tryd.prog 213 = 1 := nr (by kernel_rfl)
@[go_sem] theorem Tryd.lay213 : tLay Tryd.prog 213 = (some (false, 1)) := nr (by kernel_rfl)
@[go_sem] theorem Tryd.zs213 : tZ Tryd.prog 213 = (some ((.slice none 0 0) :: [])) := nr (by kernel_rfl)
@[go_sem] theorem Tryd.elm213 : tElem Tryd.prog 213 = (some 3) := nr (by kernel_rfl)
@[go_sem] theorem Tryd.el213 : tEl Tryd.prog 213 = (some ⟨215, 3, 24, ((.int .i64 0) :: ((.int .i64 0) :: ((.int .i64 0) :: [])))⟩) := nr (by kernel_rfl)
@[go_sem] theorem Tryd.kd214 : tKind Tryd.prog 214 = 7 := nr (by kernel_rfl)
@[go_sem] theorem Tryd.lay214 : tLay Tryd.prog 214 = (some (true, 3)) := nr (by kernel_rfl)
@[go_sem] theorem Tryd.zs214 : tZ Tryd.prog 214 = (some ((.int .i64 0) :: ((.int .i64 0) :: ((.int .i64 0) :: [])))) := nr (by kernel_rfl)
@[go_sem] theorem Tryd.pl214_0 : tPlace Tryd.prog 214 0 = (some (0, 1)) := nr (by kernel_rfl)
@[go_sem] theorem Tryd.pl214_1 : tPlace Tryd.prog 214 1 = (some (1, 2)) := nr (by kernel_rfl)
@[go_sem] theorem Tryd.fld214_0 : tFld Tryd.prog 214 0 = (some 0) := nr (by kernel_rfl)
@[go_sem] theorem Tryd.fld214_1 : tFld Tryd.prog 214 1 = (some 1) := nr (by kernel_rfl)
@[go_sem] theorem Tryd.eqs214 : eqShape Tryd.prog 10000 214 = (some ((.i .i64) :: ((.i .i64) :: ((.i .i64) :: [])))) := nr (by kernel_rfl)
@[go_sem] theorem Tryd.eqg214 : Tryd.prog.eqGuardType Tryd.prog.depth 214 = false := nr (by kernel_rfl)
@[go_sem] theorem Tryd.kd215 : tKind Tryd.prog 215 = 7 := nr (by kernel_rfl)
@[go_sem] theorem Tryd.lay215 : tLay Tryd.prog 215 = (some (true, 3)) := nr (by kernel_rfl)
@[go_sem] theorem Tryd.zs215 : tZ Tryd.prog 215 = (some ((.int .i64 0) :: ((.int .i64 0) :: ((.int .i64 0) :: [])))) := nr (by kernel_rfl)
@[go_sem] theorem Tryd.pl215_0 : tPlace Tryd.prog 215 0 = (some (0, 1)) := nr (by kernel_rfl)
@[go_sem] theorem Tryd.pl215_1 : tPlace Tryd.prog 215 1 = (some (1, 2)) := nr (by kernel_rfl)
@[go_sem] theorem Tryd.fld215_0 : tFld Tryd.prog 215 0 = (some 0) := nr (by kernel_rfl)
@[go_sem] theorem Tryd.fld215_1 : tFld Tryd.prog 215 1 = (some 1) := nr (by kernel_rfl)
@[go_sem] theorem Tryd.eqs215 : eqShape Tryd.prog 10000 215 = (some ((.i .i64) :: ((.i .i64) :: ((.i .i64) :: [])))) := nr (by kernel_rfl)
@[go_sem] theorem Tryd.eqg215 : Tryd.prog.eqGuardType Tryd.prog.depth 215 = false := nr (by kernel_rfl)
@[go_sem] theorem Tryd.cb2 : callable Tryd.prog 2 = true := nr (by kernel_rfl)
@[go_sem] theorem Tryd.cb3 : callable Tryd.prog 3 = true := nr (by kernel_rfl)
@[go_sem] theorem Tryd.cb4 : callable Tryd.prog 4 = true := nr (by kernel_rfl)
@[go_sem] theorem Tryd.cb5 : callable Tryd.prog 5 = true := nr (by kernel_rfl)
@[go_sem] theorem Tryd.cb6 : callable Tryd.prog 6 = true := nr (by kernel_rfl)
@[go_sem] theorem Tryd.cb7 : callable Tryd.prog 7 = true := nr (by kernel_rfl)
@[go_sem] theorem Tryd.cb8 : callable Tryd.prog 8 = true := nr (by kernel_rfl)
@[go_sem] theorem Tryd.cb9 : callable Tryd.prog 9 = true := nr (by kernel_rfl)
@[go_sem] theorem Tryd.cb10 : callable Tryd.prog 10 = true := nr (by kernel_rfl)
@[go_sem] theorem Tryd.cb11 : callable Tryd.prog 11 = true := nr (by kernel_rfl)
@[go_sem] theorem Tryd.cb12 : callable Tryd.prog 12 = true := nr (by kernel_rfl)
@[go_sem] theorem Tryd.cb13 : callable Tryd.prog 13 = true := nr (by kernel_rfl)
@[go_sem] theorem Tryd.cb14 : callable Tryd.prog 14 = true := nr (by kernel_rfl)
@[go_sem] theorem Tryd.cb15 : callable Tryd.prog 15 = true := nr (by kernel_rfl)
@[go_sem] theorem Tryd.cb16 : callable Tryd.prog 16 = true := nr (by kernel_rfl)
@[go_sem] theorem Tryd.cb17 : callable Tryd.prog 17 = true := nr (by kernel_rfl)
@[go_sem] theorem Tryd.cb18 : callable Tryd.prog 18 = true := nr (by kernel_rfl)
@[go_sem] theorem Tryd.cb19 : callable Tryd.prog 19 = true := nr (by kernel_rfl)
@[go_sem] theorem Tryd.cb20 : callable Tryd.prog 20 = true := nr (by kernel_rfl)
@[go_sem] theorem Tryd.cb21 : callable Tryd.prog 21 = true := nr (by kernel_rfl)
@[go_sem] theorem Tryd.cb22 : callable Tryd.prog 22 = true := nr (by kernel_rfl)
@[go_sem] theorem Tryd.cb23 : callable Tryd.prog 23 = true := nr (by kernel_rfl)
@[go_sem] theorem Tryd.cb24 : callable Tryd.prog 24 = true := nr (by kernel_rfl)
@[go_sem] theorem Tryd.cb25 : callable Tryd.prog 25 = true := nr (by kernel_rfl)
@[go_sem] theorem Tryd.cb26 : callable Tryd.prog 26 = true := nr (by kernel_rfl)
@[go_sem] theorem Tryd.cb27 : callable Tryd.prog 27 = true := nr (by kernel_rfl)
@[go_sem] theorem Tryd.cb28 : callable Tryd.prog 28 = true := nr (by kernel_rfl)
@[go_sem] theorem Tryd.cb29 : callable Tryd.prog 29 = true := nr (by kernel_rfl)
@[go_sem] theorem Tryd.cb30 : callable Tryd.prog 30 = true := nr (by kernel_rfl)
@[go_sem] theorem Tryd.cb31 : callable Tryd.prog 31 = true := nr (by kernel_rfl)
@[go_sem] theorem Tryd.cb32 : callable Tryd.prog 32 = true := nr (by kernel_rfl)
@[go_sem] theorem Tryd.cb33 : callable Tryd.prog 33 = true := nr (by kernel_rfl)
@[go_sem] theorem Tryd.cb34 : callable Tryd.prog 34 = true := nr (by kernel_rfl)
@[go_sem] theorem Tryd.cb35 : callable Tryd.prog 35 = true := nr (by kernel_rfl)
@[go_sem] theorem Tryd.cb36 : callable Tryd.prog 36 = true := nr (by kernel_rfl)
@[go_sem] theorem Tryd.cb37 : callable Tryd.prog 37 = true := nr (by kernel_rfl)
@[go_sem] theorem Tryd.cb38 : callable Tryd.prog 38 = true := nr (by kernel_rfl)
@[go_sem] theorem Tryd.cb39 : callable Tryd.prog 39 = true := nr (by kernel_rfl)
@[go_sem] theorem Tryd.cb40 : callable Tryd.prog 40 = true := nr (by kernel_rfl)
@[go_sem] theorem Tryd.cb41 : callable Tryd.prog 41 = true := nr (by kernel_rfl)
@[go_sem] theorem Tryd.cb42 : callable Tryd.prog 42 = true := nr (by kernel_rfl)
@[go_sem] theorem Tryd.cb43 : callable Tryd.prog 43 = true := nr (by kernel_rfl)
@[go_sem] theorem Tryd.cb44 : callable Tryd.prog 44 = true := nr (by kernel_rfl)
@[go_sem] theorem Tryd.cb45 : callable Tryd.prog 45 = true := nr (by kernel_rfl)
@[go_sem] theorem Tryd.cb46 : callable Tryd.prog 46 = true := nr (by kernel_rfl)
@[go_sem] theorem Tryd.cb47 : callable Tryd.prog 47 = true := nr (by kernel_rfl)
@[go_sem] theorem Tryd.cb48 : callable Tryd.prog 48 = true := nr (by kernel_rfl)
@[go_sem] theorem Tryd.cb49 : callable Tryd.prog 49 = true := nr (by kernel_rfl)
@[go_sem] theorem Tryd.cb50 : callable Tryd.prog 50 = true := nr (by kernel_rfl)
@[go_sem] theorem Tryd.cb51 : callable Tryd.prog 51 = true := nr (by kernel_rfl)
@[go_sem] theorem Tryd.cb52 : callable Tryd.prog 52 = true := nr (by kernel_rfl)
@[go_sem] theorem Tryd.cb53 : callable Tryd.prog 53 = true := nr (by kernel_rfl)
@[go_sem] theorem Tryd.cb54 : callable Tryd.prog 54 = true := nr (by kernel_rfl)
@[go_sem] theorem Tryd.cb55 : callable Tryd.prog 55 = true := nr (by kernel_rfl)
@[go_sem] theorem Tryd.cb56 : callable Tryd.prog 56 = true := nr (by kernel_rfl)
@[go_sem] theorem Tryd.cb57 : callable Tryd.prog 57 = true := nr (by kernel_rfl)
@[go_sem] theorem Tryd.cb58 : callable Tryd.prog 58 = true := nr (by kernel_rfl)
@[go_sem] theorem Tryd.cb59 : callable Tryd.prog 59 = true := nr (by kernel_rfl)
@[go_sem] theorem Tryd.cb60 : callable Tryd.prog 60 = true := nr (by kernel_rfl)
@[go_sem] theorem Tryd.cb61 : callable Tryd.prog 61 = true := nr (by kernel_rfl)
@[go_sem] theorem Tryd.cb62 : callable Tryd.prog 62 = true := nr (by kernel_rfl)
@[go_sem] theorem Tryd.cb63 : callable Tryd.prog 63 = true := nr (by kernel_rfl)
@[go_sem] theorem Tryd.cb64 : callable Tryd.prog 64 = true := nr (by kernel_rfl)
@[go_sem] theorem Tryd.cb65 : callable Tryd.prog 65 = true := nr (by kernel_rfl)
@[go_sem] theorem Tryd.cb66 : callable Tryd.prog 66 = true := nr (by kernel_rfl)
@[go_sem] theorem Tryd.cb67 : callable Tryd.prog 67 = true := nr (by kernel_rfl)
@[go_sem] theorem Tryd.cb68 : callable Tryd.prog 68 = true := nr (by kernel_rfl)
@[go_sem] theorem Tryd.cb69 : callable Tryd.prog 69 = true := nr (by kernel_rfl)
@[go_sem] theorem Tryd.cb70 : callable Tryd.prog 70 = true := nr (by kernel_rfl)
@[go_sem] theorem Tryd.cb71 : callable Tryd.prog 71 = true := nr (by kernel_rfl)
@[go_sem] theorem Tryd.cb72 : callable Tryd.prog 72 = true := nr (by kernel_rfl)
@[go_sem] theorem Tryd.cb73 : callable Tryd.prog 73 = true := nr (by kernel_rfl)
@[go_sem] theorem Tryd.cb74 : callable Tryd.prog 74 = true := nr (by kernel_rfl)
@[go_sem] theorem Tryd.cb75 : callable Tryd.prog 75 = true := nr (by kernel_rfl)
@[go_sem] theorem Tryd.cb76 : callable Tryd.prog 76 = true := nr (by kernel_rfl)
@[go_sem] theorem Tryd.cb77 : callable Tryd.prog 77 = true := nr (by kernel_rfl)
@[go_sem] theorem Tryd.cb78 : callable Tryd.prog 78 = true := nr (by kernel_rfl)
@[go_sem] theorem Tryd.cb79 : callable Tryd.prog 79 = true := nr (by kernel_rfl)
@[go_sem] theorem Tryd.cb80 : callable Tryd.prog 80 = true := nr (by kernel_rfl)
@[go_sem] theorem Tryd.cb81 : callable Tryd.prog 81 = true := nr (by kernel_rfl)
@[go_sem] theorem Tryd.cb82 : callable Tryd.prog 82 = true := nr (by kernel_rfl)
@[go_sem] theorem Tryd.cb83 : callable Tryd.prog 83 = true := nr (by kernel_rfl)
@[go_sem] theorem Tryd.cb84 : callable Tryd.prog 84 = true := nr (by kernel_rfl)
@[go_sem] theorem Tryd.cb85 : callable Tryd.prog 85 = true := nr (by kernel_rfl)
@[go_sem] theorem Tryd.cb86 : callable Tryd.prog 86 = true := nr (by kernel_rfl)
@[go_sem] theorem Tryd.cb87 : callable Tryd.prog 87 = true := nr (by kernel_rfl)
@[go_sem] theorem Tryd.cb88 : callable Tryd.prog 88 = true := nr (by kernel_rfl)
@[go_sem] theorem Tryd.cb89 : callable Tryd.prog 89 = true := nr (by kernel_rfl)
@[go_sem] theorem Tryd.cb90 : callable Tryd.prog 90 = true := nr (by kernel_rfl)
@[go_sem] theorem Tryd.cb91 : callable Tryd.prog 91 = true := nr (by kernel_rfl)
@[go_sem] theorem Tryd.cb92 : callable Tryd.prog 92 = true := nr (by kernel_rfl)
@[go_sem] theorem Tryd.cb93 : callable Tryd.prog 93 = true := nr (by kernel_rfl)
@[go_sem] theorem Tryd.cb94 : callable Tryd.prog 94 = true := nr (by kernel_rfl)
@[go_sem] theorem Tryd.cb95 : callable Tryd.prog 95 = true := nr (by kernel_rfl)
@[go_sem] theorem Tryd.cb96 : callable Tryd.prog 96 = true := nr (by kernel_rfl)
@[go_sem] theorem Tryd.cb97 : callable Tryd.prog 97 = true := nr (by kernel_rfl)
@[go_sem] theorem Tryd.cb98 : callable Tryd.prog 98 = true := nr (by kernel_rfl)
@[go_sem] theorem Tryd.cb99 : callable Tryd.prog 99 = true := nr (by kernel_rfl)
@[go_sem] theorem Tryd.cb100 : callable Tryd.prog 100 = true := nr (by kernel_rfl)
@[go_sem] theorem Tryd.cb101 : callable Tryd.prog 101 = true := nr (by kernel_rfl)
@[go_sem] theorem Tryd.cb102 : callable Tryd.prog 102 = true := nr (by kernel_rfl)
@[go_sem] theorem Tryd.cb103 : callable Tryd.prog 103 = true := nr (by kernel_rfl)
@[go_sem] theorem Tryd.cb104 : callable Tryd.prog 104 = true := nr (by kernel_rfl)
@[go_sem] theorem Tryd.cb105 : callable Tryd.prog 105 = true := nr (by kernel_rfl)
@[go_sem] theorem Tryd.cb106 : callable Tryd.prog 106 = true := nr (by kernel_rfl)
@[go_sem] theorem Tryd.cb107 : callable Tryd.prog 107 = true := nr (by kernel_rfl)
@[go_sem] theorem Tryd.cb108 : callable Tryd.prog 108 = true := nr (by kernel_rfl)
@[go_sem] theorem Tryd.cb109 : callable Tryd.prog 109 = true := nr (by kernel_rfl)
@[go_sem] theorem Tryd.cb110 : callable Tryd.prog 110 = true := nr (by kernel_rfl)
@[go_sem] theorem Tryd.cb111 : callable Tryd.prog 111 = true := nr (by kernel_rfl)
@[go_sem] theorem Tryd.cb112 : callable Tryd.prog 112 = true := nr (by kernel_rfl)
@[go_sem] theorem Tryd.cb113 : callable Tryd.prog 113 = true := nr (by kernel_rfl)
@[go_sem] theorem Tryd.cb114 : callable Tryd.prog 114 = true := nr (by kernel_rfl)
@[go_sem] theorem Tryd.cb115 : callable Tryd.prog 115 = true := nr (by kernel_rfl)
@[go_sem] theorem Tryd.cb116 : callable Tryd.prog 116 = true := nr (by kernel_rfl)
@[go_sem] theorem Tryd.cb117 : callable Tryd.prog 117 = true := nr (by kernel_rfl)
@[go_sem] theorem Tryd.cb118 : callable Tryd.prog 118 = true := nr (by kernel_rfl)
@[go_sem] theorem Tryd.cb119 : callable Tryd.prog 119 = true := nr (by kernel_rfl)
@[go_sem] theorem Tryd.cb120 : callable Tryd.prog 120 = true := nr (by kernel_rfl)
@[go_sem] theorem Tryd.cb121 : callable Tryd.prog 121 = true := nr (by kernel_rfl)
@[go_sem] theorem Tryd.cb122 : callable Tryd.prog 122 = true := nr (by kernel_rfl)
@[go_sem] theorem Tryd.cb123 : callable Tryd.prog 123 = true := nr (by kernel_rfl)
@[go_sem] theorem Tryd.cb124 : callable Tryd.prog 124 = true := nr (by kernel_rfl)
@[go_sem] theorem Tryd.cb125 : callable Tryd.prog 125 = true := nr (by kernel_rfl)
@[go_sem] theorem Tryd.cb126 : callable Tryd.prog 126 = true := nr (by kernel_rfl)
@[go_sem] theorem Tryd.cb127 : callable Tryd.prog 127 = true := nr (by kernel_rfl)
@[go_sem] theorem Tryd.cb128 : callable Tryd.prog 128 = true := nr (by kernel_rfl)
@[go_sem] theorem Tryd.cb129 : callable Tryd.prog 129 = true := nr (by kernel_rfl)
@[go_sem] theorem Tryd.cb130 : callable Tryd.prog 130 = true := nr (by kernel_rfl)
@[go_sem] theorem Tryd.cb131 : callable Tryd.prog 131 = true := nr (by kernel_rfl)
@[go_sem] theorem Tryd.cb132 : callable Tryd.prog 132 = true := nr (by kernel_rfl)
@[go_sem] theorem Tryd.cb133 : callable Tryd.prog 133 = true := nr (by kernel_rfl)
@[go_sem] theorem Tryd.cb134 : callable Tryd.prog 134 = true := nr (by kernel_rfl)
@[go_sem] theorem Tryd.cb135 : callable Tryd.prog 135 = true := nr (by kernel_rfl)
@[go_sem] theorem Tryd.cb136 : callable Tryd.prog 136 = true := nr (by kernel_rfl)
@[go_sem] theorem Tryd.cb137 : callable Tryd.prog 137 = true := nr (by kernel_rfl)
@[go_sem] theorem Tryd.cb138 : callable Tryd.prog 138 = true := nr (by kernel_rfl)
@[go_sem] theorem Tryd.cb139 : callable Tryd.prog 139 = true := nr (by kernel_rfl)
@[go_sem] theorem Tryd.cb140 : callable Tryd.prog 140 = true := nr (by kernel_rfl)
@[go_sem] theorem Tryd.cb141 : callable Tryd.prog 141 = true := nr (by kernel_rfl)
@[go_sem] theorem Tryd.cb142 : callable Tryd.prog 142 = true := nr (by kernel_rfl)
@[go_sem] theorem Tryd.cb143 : callable Tryd.prog 143 = true := nr (by kernel_rfl)
@[go_sem] theorem Tryd.cb165 : callable Tryd.prog 165 = true := nr (by kernel_rfl)
end Go.Proofs
end
section
/-
  How the program's data read as abstract values, part 2: marks that can be changed.
-/
namespace Go.Abs
open Go
def clcD (x : Es.Clause) (p : D) : D := .agg [.v (.int .i64 x.kind), .v (.int .i64 x.role), .v (.int .i64 x.act), .v (.int .i64 x.need), slD 2 condC x.start, .v (.int .i64 x.after), .v (.int .i64 x.grace), .v (.bool x.business), .v (.bool x.final), .v (.int .i64 x.pause), .v (.int .i64 x.resume), .v (.int .i64 x.value.num), .v (.int .i64 x.value.den), .v (.int .i64 x.unit), .v (.int .i64 x.to), .v (.bool x.waived), p]
@[go_sem] theorem clcD_fold (x : Es.Clause) (p : D) : D.agg [.v (.int .i64 x.kind), .v (.int .i64 x.role), .v (.int .i64 x.act), .v (.int .i64 x.need), slD 2 condC x.start, .v (.int .i64 x.after), .v (.int .i64 x.grace), .v (.bool x.business), .v (.bool x.final), .v (.int .i64 x.pause), .v (.int .i64 x.resume), .v (.int .i64 x.value.num), .v (.int .i64 x.value.den), .v (.int .i64 x.unit), .v (.int .i64 x.to), .v (.bool x.waived), p] = clcD x p := nr rfl
@[go_sem] theorem clcD_cells (x : Es.Clause) (p : D) : (clcD x p).cells? = some [.v (.int .i64 x.kind), .v (.int .i64 x.role), .v (.int .i64 x.act), .v (.int .i64 x.need), slD 2 condC x.start, .v (.int .i64 x.after), .v (.int .i64 x.grace), .v (.bool x.business), .v (.bool x.final), .v (.int .i64 x.pause), .v (.int .i64 x.resume), .v (.int .i64 x.value.num), .v (.int .i64 x.value.den), .v (.int .i64 x.unit), .v (.int .i64 x.to), .v (.bool x.waived), p] := nr rfl
@[go_sem] theorem rowsOf_row {α : Type} [Inhabited α] (f : α → Nat → D) (l : List α) (r : Nat) : rowsOf f l r = f (Es.at_ l (r : Int)) := nr rfl
theorem setC_mrk {ms : List Es.Mark} {r j : Nat} (hr : r < ms.length) {d : D} {m : Es.Mark} (h : ∀ c, mrkC m c = if c = j then d else mrkC (Es.at_ ms (r : Int)) c) : setC (rowsOf mrkC ms) r j [d] = rowsOf mrkC (ms.set r m) := by
  funext r' c'
  simp only [setC, rowsOf, List.length_cons, List.length_nil]
  by_cases hrr : r' = r
  · subst hrr
    simp only [List.getD_eq_getElem?_getD, List.getElem?_set, hr, if_true, Option.getD_some, true_and]
    rw [h]
    by_cases hc : c' = j
    · subst hc; rw [if_pos (by omega), if_pos rfl]; simp
    · rw [if_neg (by omega), if_neg hc]; simp [Es.at_, List.getD]
  · rw [if_neg (by omega)]
    simp only [List.getD_eq_getElem?_getD, List.getElem?_set, if_neg (Ne.symm hrr)]
theorem setC_mrk0 {ms : List Es.Mark} {r : Nat} (hr : r < ms.length) (v : Int) : setC (rowsOf mrkC ms) r 0 [.v (.int .i64 v)] = rowsOf mrkC (ms.set r { Es.at_ ms (r : Int) with status := v }) :=
  setC_mrk hr (fun c => by rcases c with _ | _ | _ | _ | _ | c <;> rfl)
theorem setC_mrk1 {ms : List Es.Mark} {r : Nat} (hr : r < ms.length) (v : Int) : setC (rowsOf mrkC ms) r 1 [.v (.int .i64 v)] = rowsOf mrkC (ms.set r { Es.at_ ms (r : Int) with left := v }) :=
  setC_mrk hr (fun c => by rcases c with _ | _ | _ | _ | _ | c <;> rfl)
theorem setC_mrk2 {ms : List Es.Mark} {r : Nat} (hr : r < ms.length) (v : Int) : setC (rowsOf mrkC ms) r 2 [.v (.int .i64 v)] = rowsOf mrkC (ms.set r { Es.at_ ms (r : Int) with got := v }) :=
  setC_mrk hr (fun c => by rcases c with _ | _ | _ | _ | _ | c <;> rfl)
theorem setC_mrk3 {ms : List Es.Mark} {r : Nat} (hr : r < ms.length) (v : Int) : setC (rowsOf mrkC ms) r 3 [.v (.int .i64 v)] = rowsOf mrkC (ms.set r { Es.at_ ms (r : Int) with bearer := v }) :=
  setC_mrk hr (fun c => by rcases c with _ | _ | _ | _ | _ | c <;> rfl)
theorem setC_mrk4 {ms : List Es.Mark} {r : Nat} (hr : r < ms.length) (v : Bool) : setC (rowsOf mrkC ms) r 4 [.v (.bool v)] = rowsOf mrkC (ms.set r { Es.at_ ms (r : Int) with paused := v }) :=
  setC_mrk hr (fun c => by rcases c with _ | _ | _ | _ | _ | c <;> rfl)
theorem at_set {α : Type} [Inhabited α] {l : List α} {r : Nat} (hr : r < l.length) (m : α) : Es.at_ (l.set r m) (r : Int) = m := by simp [Es.at_, List.getD, hr]
end Go.Abs
end
section
/-
  What the program's functions compute, part 2.
-/
namespace Es
/-! ### contract, the whole -/
def offOk (days : Int) : Int → List Int → Bool
  | _, [] => true
  | last, d :: l => if decide (d ≤ last) || decide (days ≤ d) then false else offOk days d l
def frame (c : Contract) : Bool :=
  if !(qValid c.units).2 || decide (c.parties < 1) || decide (c.days < 1) || (len c.holders == 0) then false
  else if !c.holders.all (fun p => under p c.parties) then false
  else if !c.acts.all (act c) then false
  else offOk c.days (-1) c.off
/-- An error, and the clause that has it. -/
def valid2 (c : Contract) : Int × Int :=
  if decide (12 < c.parties) || decide (2000 < c.days) || decide (12 < len c.holders) || decide (20 < len c.units) || decide (60 < len c.acts) || decide (400 < len c.clauses) then (3, -1)
  else if !frame c then (1, -1)
  else match (List.range c.clauses.length).find? (fun i : Nat => !clauseOk c (i : Int)) with
    | some i => (1, i)
    | .none => (0, -1)
/-- Lists that are no longer than a machine counts. -/
structure Fits (c : Contract) : Prop where
  holders : c.holders.length ≤ 9223372036854775807
  units : c.units.length ≤ 9223372036854775807
  acts : c.acts.length ≤ 9223372036854775807
  clauses : c.clauses.length ≤ 9223372036854775807
  off : c.off.length ≤ 9223372036854775807
end Es
end
section
/-
  What the program's functions compute, part 3: slices, and the states of a contract.
-/
namespace Es
/-- The place of the first element that has a property; -1: none has. -/
def index {α : Type} (p : α → Bool) (l : List α) : Int :=
  match l.findIdx? p with
  | some i => (i : Int)
  | .none => -1
theorem index_some {α : Type} [Inhabited α] {p : α → Bool} {l : List α} {k : Nat} (hk : k < l.length) (h : p (at_ l (k : Int)) = true) (hall : ∀ j : Nat, j < k → p (at_ l (j : Int)) = false) : index p l = k := by
  unfold index
  have : l.findIdx? p = some k := by
    rw [List.findIdx?_eq_some_iff_getElem]
    refine ⟨hk, by rw [← at_nat hk]; exact h, fun j hj => ?_⟩
    have := hall j hj
    rw [at_nat (Nat.lt_trans hj hk)] at this
    simp [this]
  rw [this]
theorem index_none {α : Type} [Inhabited α] {p : α → Bool} {l : List α} (hall : ∀ j : Nat, j < l.length → p (at_ l (j : Int)) = false) : index p l = -1 := by
  unfold index
  have : l.findIdx? p = .none := by
    rw [List.findIdx?_eq_none_iff]
    intro x hx
    obtain ⟨j, hj, rfl⟩ := List.mem_iff_getElem.1 hx
    rw [← at_nat hj]; exact hall j hj
  rw [this]
theorem index_ge {α : Type} (p : α → Bool) (l : List α) : decide (0 ≤ index p l) = l.any p := by
  unfold index
  cases h : l.findIdx? p with
  | none =>
    rw [List.findIdx?_eq_none_iff] at h
    have : l.any p = false := by rw [List.any_eq_false]; intro x hx; simp [h x hx]
    rw [this]; rfl
  | some i =>
    have : l.any p = true := by
      rw [List.any_eq_true]
      obtain ⟨hi, h1, _⟩ := List.findIdx?_eq_some_iff_getElem.1 h
      exact ⟨_, List.getElem_mem hi, h1⟩
    rw [this]
    simp

/-! ### system -/
/-- A condition of a clause that does not hold. -/
def fails (s : State) (x : Cond) : Bool :=
  let st := (at_ s.marks x.clause).status
  if x.is == 2 then st != 3 else if x.is == 3 then st != 4 else if x.is == 4 then st != 5 else st == 0
def ready (c : Contract) (s : State) (i : Int) : Bool :=
  ((at_ s.marks i).status == 0) && !(at_ c.clauses i).waived && !(at_ c.clauses i).start.any (fails s)
end Es
end
section
/-
  What the program's functions compute, part 4: states.
-/
namespace Es
def allN (n : Nat) (p : Nat → Bool) : Bool := (List.range n).all p
theorem allN_bad {n k : Nat} {p : Nat → Bool} (hk : k < n) (h : p k = false) : allN n p = false := by
  unfold allN; rw [List.all_eq_false]; exact ⟨k, by simpa using hk, by simp [h]⟩
theorem allN_end {n k : Nat} {p : Nat → Bool} (hk : n ≤ k) (h : ∀ j, j < k → p j = true) : allN n p = true := by
  unfold allN; rw [List.all_eq_true]; intro j hj; exact h j (Nat.lt_of_lt_of_le (List.mem_range.1 hj) hk)
theorem allN_iff {n : Nat} {p : Nat → Bool} : allN n p = true ↔ ∀ j, j < n → p j = true := by
  unfold allN; rw [List.all_eq_true]; simp
theorem upto_step {k : Nat} {p : Nat → Bool} (h : ∀ j, j < k → p j = true) (hk : p k = true) : ∀ j, j < k + 1 → p j = true := by
  intro j hj
  rcases Nat.lt_or_ge j k with hh | hh
  · exact h j hh
  · have : j = k := by omega
    rw [this]; exact hk
theorem mark_beq (a b : Mark) : (a == b) = (a.status == b.status && (a.left == b.left && (a.got == b.got && (a.bearer == b.bearer && a.paused == b.paused)))) := by
  cases a; cases b; rw [Bool.eq_iff_iff]; simp
def party (c : Contract) (p : Int) : Bool := decide (0 ≤ p) && decide (p < c.parties)
def wellFormed (c : Contract) (x : Clause) (m : Mark) : Bool :=
  if m.status == 3 || m.status == 4 || m.status == 5 then
    (m.left == 0) && !m.paused && decide (0 ≤ m.got) && decide (m.got ≤ 9) && (party c m.bearer || m.bearer == -1)
  else if m.status == 0 then !x.waived && (m == ⟨0, 0, 0, -1, false⟩)
  else if m.status == 1 || m.status == 2 then
    !x.waived && (if x.kind == 1 then decide (0 ≤ m.got) && decide (m.got < x.need) else m.got == 0) && decide (1 ≤ m.left) &&
      decide (m.left ≤ (if m.status == 2 then x.grace else x.after)) && (!m.paused || decide (0 ≤ x.pause)) && ((x.kind == 4 && m.bearer == -1) || (x.kind != 4 && party c m.bearer))
  else false
def sValid (c : Contract) (s : State) : Bool :=
  if !((valid2 c).1 == 0) || decide (s.day < 0) || decide (c.days < s.day) || (len s.holders != len c.holders) || (len s.used != len c.acts) || (len s.marks != len c.clauses) then false
  else if s.holders.any (fun p => decide (p < 0) || decide (c.parties ≤ p)) then false
  else if !allN s.used.length (fun i => !(at_ s.used (i : Int) && (at_ c.acts (i : Int)).kind == 1)) then false
  else if !allN s.marks.length (fun i => wellFormed c (at_ c.clauses (i : Int)) (at_ s.marks (i : Int))) then false
  else allN s.marks.length (fun i => !ready c s (i : Int))
structure SFits (s : State) : Prop where
  holders : s.holders.length ≤ 9223372036854775807
  used : s.used.length ≤ 9223372036854775807
  marks : s.marks.length ≤ 9223372036854775807
theorem valid2_clause {c : Contract} (h : ((valid2 c).1 == 0) = true) {j : Nat} (hj : j < c.clauses.length) : clauseOk c j = true := by
  unfold valid2 at h
  split at h
  · simp at h
  · split at h
    · simp at h
    · split at h
      · simp at h
      · rename_i hn
        rw [List.find?_eq_none] at hn
        have := hn j (List.mem_range.2 hj)
        simpa using this
theorem clauseB_start {c : Contract} {i : Int} {x : Clause} {d p f : Bool} {n g : Int} (h : clauseB c i x d n g p f = true) : len x.start ≤ 8 ∧ ∀ y ∈ x.start, condOk c i y = true := by
  unfold clauseB at h
  split at h
  · cases h
  · rename_i h1
    split at h
    · cases h
    · rename_i h2
      simp only [Bool.or_eq_true, not_or, Bool.not_eq_true, decide_eq_false_iff_not] at h1
      refine ⟨by omega, ?_⟩
      have : x.start.all (condOk c i) = true := by simpa using h2
      exact List.all_eq_true.1 this
theorem clauseOk_start {c : Contract} {i : Int} (h : clauseOk c i = true) : len (at_ c.clauses i).start ≤ 8 ∧ ∀ y ∈ (at_ c.clauses i).start, condOk c i y = true := by
  unfold clauseOk at h
  simp only at h
  split at h
  · exact clauseB_start h
  · split at h
    · exact clauseB_start h
    · split at h
      · exact clauseB_start h
      · split at h
        · exact clauseB_start h
        · cases h
end Es
end
section
/-
  Patches and amendments, and what the functions of patch and version compute, as plain functions.
-/
namespace Es
structure Patch where
  kind : Int
  clauses : List Int
  new : Clause
  days : Int
instance : Inhabited Patch := ⟨⟨0, [], default, 0⟩⟩
structure Amend where
  number : Int
  day : Int
  known : Int
  patch : Patch
instance : Inhabited Amend := ⟨⟨0, 0, 0, default⟩⟩
def zeroClause (x : Clause) : Bool :=
  x.start.isEmpty && x.kind == 0 && x.role == 0 && x.act == 0 && x.need == 0 && x.after == 0 && x.grace == 0 && !x.business && !x.final && x.pause == 0 && x.resume == 0 && x.value.num == 0 && x.value.den == 0 && x.unit == 0 && x.to == 0 && !x.waived
/-- The clauses of a patch: in order, and clauses of the contract. -/
def inOrdB (n : Int) (l : List Int) (k : Nat) : Bool := decide (0 ≤ at_ l (k : Int)) && decide (at_ l (k : Int) < n) && (decide (k = 0) || decide (at_ l ((k : Int) - 1) < at_ l (k : Int)))
def inOrder (n : Int) (l : List Int) : Bool := allN l.length (inOrdB n l)
def leastOf (k : Int) : Int := if k == 1 then 0 else 1
def mostOf (k : Int) : Int := if k == 1 then 0 else if k == 2 || k == 3 then 1 else 400
def formed (c : Contract) (p : Patch) : Bool :=
  if !(decide (1 ≤ p.kind) && decide (p.kind ≤ 5)) || decide (len p.clauses < leastOf p.kind) || decide (mostOf p.kind < len p.clauses) || (!(p.kind == 1 || p.kind == 2) && !zeroClause p.new) then false
  else if !inOrder (len c.clauses) p.clauses then false
  else if p.kind == 5 then decide (1 ≤ p.days) && decide (p.days ≤ 400) else p.days == 0
/-- What a patch does to a clause that it names. -/
def change (p : Patch) (x : Clause) : Clause := if p.kind == 2 then p.new else if p.kind == 5 then { x with after := p.days } else { x with waived := true }
def changeAt (p : Patch) (l : List Clause) (i : Int) : List Clause := l.set i.toNat (change p (at_ l i))
def changedL (p : Patch) (l : List Clause) : List Clause := p.clauses.foldl (changeAt p) (if p.kind == 1 then l ++ [p.new] else l)
def changed (c : Contract) (p : Patch) : Contract := { c with clauses := changedL p c.clauses }
def zeroCon : Contract := ⟨0, [], [], [], [], 0, []⟩
def applyP (c : Contract) (p : Patch) : Contract × Int :=
  if !formed c p || !((valid2 c).1 == 0) then (zeroCon, 1)
  else if p.kind == 1 && len c.clauses == 400 then (zeroCon, 3)
  else if !((valid2 (changed c p)).1 == 0) then (zeroCon, 1) else (changed c p, 0)
/-! ### version -/
/-- An amendment comes before another one, or with it. -/
def leA (a b : Amend) : Bool := decide (a.day < b.day) || (a.day == b.day && decide (a.number ≤ b.number))
/-- The same with the index as last key. -/
def leP (a b : Amend × Nat) : Bool := decide (a.1.day < b.1.day) || (a.1.day == b.1.day && (decide (a.1.number < b.1.number) || (a.1.number == b.1.number && decide (a.2 ≤ b.2))))
def ins {α : Type} (le : α → α → Bool) (x : α) : List α → List α
  | [] => [x]
  | y :: l => if le x y then x :: y :: l else y :: ins le x l
def isort {α : Type} (le : α → α → Bool) : List α → List α
  | [] => []
  | x :: l => ins le x (isort le l)
def sortedP (l : List Amend) : List (Amend × Nat) := isort leP l.zipIdx
def sortedA (l : List Amend) : List Amend := isort leA l
def orderA (l : List Amend) : List Int := (sortedP l).map fun x => (x.2 : Int)
/-- The contract after each amendment that is known and can be applied, in the order. -/
def versionsA (known : Int) : List Amend → Contract → List (Amend × Contract)
  | [], _ => []
  | x :: l, c => if decide (known < x.known) || !((applyP c x.patch).2 == 0) then versionsA known l c else (x, (applyP c x.patch).1) :: versionsA known l (applyP c x.patch).1
def checkA (c : Contract) (l : List Amend) : Int := if !((valid2 c).1 == 0) then 1 else if decide (60 < len l) then 3 else 0
def lastC (c : Contract) (v : List (Amend × Contract)) : Contract := (v.getLast?.map (·.2)).getD c
def uptoDay (day : Int) (v : List (Amend × Contract)) : List (Amend × Contract) := v.takeWhile fun x => decide (x.1.day ≤ day)
def inForce (c : Contract) (l : List Amend) (day known : Int) : Contract × List Int × Int :=
  if checkA c l != 0 then (zeroCon, [], checkA c l)
  else (lastC c (uptoDay day (versionsA known (sortedA l) c)), (uptoDay day (versionsA known (sortedA l) c)).map (·.1.number), 0)
/-- The contract at the end of each day with amendments: one version more. -/
def pushE (acc : List (Int × Contract)) (x : Amend × Contract) : List (Int × Contract) :=
  match acc.getLast? with
  | .none => [(x.1.day, x.2)]
  | some y => if decide (y.1 < x.1.day) then acc ++ [(x.1.day, x.2)] else acc.dropLast ++ [(y.1, x.2)]
def endsA (v : List (Amend × Contract)) : List (Int × Contract) := v.foldl pushE []
def eqL {α : Type} [Inhabited α] (f : α → α → Bool) (l m : List α) : Bool := len l == len m && allN l.length fun i => f (at_ l (i : Int)) (at_ m (i : Int))
def eqCond (x y : Cond) : Bool := x.clause == y.clause && x.is == y.is
/-- Clauses without their conditions. -/
def eqPlain (x y : Clause) : Bool :=
  x.kind == y.kind && x.role == y.role && x.act == y.act && x.need == y.need && x.after == y.after && x.grace == y.grace && x.business == y.business && x.final == y.final && x.pause == y.pause && x.resume == y.resume && x.value == y.value && x.unit == y.unit && x.to == y.to && x.waived == y.waived
def eqClause (x y : Clause) : Bool := eqL eqCond x.start y.start && eqPlain x y
def eqUnt (x y : Unt) : Bool := x.name == y.name && x.kind == y.kind && x.base == y.base && x.factor == y.factor
def eqAct (x y : ActT) : Bool := x.kind == y.kind && x.role == y.role && x.give == y.give && x.to == y.to && x.unit == y.unit && x.lot == y.lot
def sameC (a b : Contract) : Bool :=
  a.parties == b.parties && a.days == b.days && a.holders == b.holders && a.off == b.off && eqL eqUnt a.units b.units && eqL eqAct a.acts b.acts && eqL eqClause a.clauses b.clauses
/-- The days on which another contract comes into force. -/
def turnsA : Contract → List (Int × Contract) → List Int
  | _, [] => []
  | last, y :: l => if eqL eqClause y.2.clauses last.clauses then turnsA y.2 l else y.1 :: turnsA y.2 l
def daysA (c : Contract) (l : List Amend) (known : Int) : List Int × Int :=
  if checkA c l != 0 then ([], checkA c l) else (turnsA c (endsA (versionsA known (sortedA l) c)), 0)
end Es
end
section
/-
  How patches and amendments read as abstract values.
-/
namespace Go.Abs
open Go
def patC (x : Es.Patch) : Nat → D
  | 0 => .v (.int .i64 x.kind)
  | 1 => slD 1 intC x.clauses
  | 2 => .v (.int .i64 x.new.kind)
  | 3 => .v (.int .i64 x.new.role)
  | 4 => .v (.int .i64 x.new.act)
  | 5 => .v (.int .i64 x.new.need)
  | 6 => slD 2 condC x.new.start
  | 7 => .v (.int .i64 x.new.after)
  | 8 => .v (.int .i64 x.new.grace)
  | 9 => .v (.bool x.new.business)
  | 10 => .v (.bool x.new.final)
  | 11 => .v (.int .i64 x.new.pause)
  | 12 => .v (.int .i64 x.new.resume)
  | 13 => .v (.int .i64 x.new.value.num)
  | 14 => .v (.int .i64 x.new.value.den)
  | 15 => .v (.int .i64 x.new.unit)
  | 16 => .v (.int .i64 x.new.to)
  | 17 => .v (.bool x.new.waived)
  | 18 => .v (.int .i64 x.days)
  | _ => .any
@[go_sem] theorem patC_0 (x : Es.Patch) : patC x 0 = .v (.int .i64 x.kind) := nr rfl
@[go_sem] theorem patC_1 (x : Es.Patch) : patC x 1 = slD 1 intC x.clauses := nr rfl
@[go_sem] theorem patC_2 (x : Es.Patch) : patC x 2 = .v (.int .i64 x.new.kind) := nr rfl
@[go_sem] theorem patC_3 (x : Es.Patch) : patC x 3 = .v (.int .i64 x.new.role) := nr rfl
@[go_sem] theorem patC_4 (x : Es.Patch) : patC x 4 = .v (.int .i64 x.new.act) := nr rfl
@[go_sem] theorem patC_5 (x : Es.Patch) : patC x 5 = .v (.int .i64 x.new.need) := nr rfl
@[go_sem] theorem patC_6 (x : Es.Patch) : patC x 6 = slD 2 condC x.new.start := nr rfl
@[go_sem] theorem patC_7 (x : Es.Patch) : patC x 7 = .v (.int .i64 x.new.after) := nr rfl
@[go_sem] theorem patC_8 (x : Es.Patch) : patC x 8 = .v (.int .i64 x.new.grace) := nr rfl
@[go_sem] theorem patC_9 (x : Es.Patch) : patC x 9 = .v (.bool x.new.business) := nr rfl
@[go_sem] theorem patC_10 (x : Es.Patch) : patC x 10 = .v (.bool x.new.final) := nr rfl
@[go_sem] theorem patC_11 (x : Es.Patch) : patC x 11 = .v (.int .i64 x.new.pause) := nr rfl
@[go_sem] theorem patC_12 (x : Es.Patch) : patC x 12 = .v (.int .i64 x.new.resume) := nr rfl
@[go_sem] theorem patC_13 (x : Es.Patch) : patC x 13 = .v (.int .i64 x.new.value.num) := nr rfl
@[go_sem] theorem patC_14 (x : Es.Patch) : patC x 14 = .v (.int .i64 x.new.value.den) := nr rfl
@[go_sem] theorem patC_15 (x : Es.Patch) : patC x 15 = .v (.int .i64 x.new.unit) := nr rfl
@[go_sem] theorem patC_16 (x : Es.Patch) : patC x 16 = .v (.int .i64 x.new.to) := nr rfl
@[go_sem] theorem patC_17 (x : Es.Patch) : patC x 17 = .v (.bool x.new.waived) := nr rfl
@[go_sem] theorem patC_18 (x : Es.Patch) : patC x 18 = .v (.int .i64 x.days) := nr rfl
def patD (x : Es.Patch) : D := .agg [.v (.int .i64 x.kind), slD 1 intC x.clauses, .v (.int .i64 x.new.kind), .v (.int .i64 x.new.role), .v (.int .i64 x.new.act), .v (.int .i64 x.new.need), slD 2 condC x.new.start, .v (.int .i64 x.new.after), .v (.int .i64 x.new.grace), .v (.bool x.new.business), .v (.bool x.new.final), .v (.int .i64 x.new.pause), .v (.int .i64 x.new.resume), .v (.int .i64 x.new.value.num), .v (.int .i64 x.new.value.den), .v (.int .i64 x.new.unit), .v (.int .i64 x.new.to), .v (.bool x.new.waived), .v (.int .i64 x.days)]
theorem patD_eq (x : Es.Patch) : patD x = .agg [.v (.int .i64 x.kind), slD 1 intC x.clauses, .v (.int .i64 x.new.kind), .v (.int .i64 x.new.role), .v (.int .i64 x.new.act), .v (.int .i64 x.new.need), slD 2 condC x.new.start, .v (.int .i64 x.new.after), .v (.int .i64 x.new.grace), .v (.bool x.new.business), .v (.bool x.new.final), .v (.int .i64 x.new.pause), .v (.int .i64 x.new.resume), .v (.int .i64 x.new.value.num), .v (.int .i64 x.new.value.den), .v (.int .i64 x.new.unit), .v (.int .i64 x.new.to), .v (.bool x.new.waived), .v (.int .i64 x.days)] := nr rfl
@[go_sem] theorem patD_fold (x : Es.Patch) : D.agg [.v (.int .i64 x.kind), slD 1 intC x.clauses, .v (.int .i64 x.new.kind), .v (.int .i64 x.new.role), .v (.int .i64 x.new.act), .v (.int .i64 x.new.need), slD 2 condC x.new.start, .v (.int .i64 x.new.after), .v (.int .i64 x.new.grace), .v (.bool x.new.business), .v (.bool x.new.final), .v (.int .i64 x.new.pause), .v (.int .i64 x.new.resume), .v (.int .i64 x.new.value.num), .v (.int .i64 x.new.value.den), .v (.int .i64 x.new.unit), .v (.int .i64 x.new.to), .v (.bool x.new.waived), .v (.int .i64 x.days)] = patD x := nr rfl
@[go_sem] theorem patD_cells (x : Es.Patch) : (patD x).cells? = some [.v (.int .i64 x.kind), slD 1 intC x.clauses, .v (.int .i64 x.new.kind), .v (.int .i64 x.new.role), .v (.int .i64 x.new.act), .v (.int .i64 x.new.need), slD 2 condC x.new.start, .v (.int .i64 x.new.after), .v (.int .i64 x.new.grace), .v (.bool x.new.business), .v (.bool x.new.final), .v (.int .i64 x.new.pause), .v (.int .i64 x.new.resume), .v (.int .i64 x.new.value.num), .v (.int .i64 x.new.value.den), .v (.int .i64 x.new.unit), .v (.int .i64 x.new.to), .v (.bool x.new.waived), .v (.int .i64 x.days)] := nr rfl
@[go_sem] theorem patD_load (x : Es.Patch) : mkv true 19 (offRow (patC x) 0) = patD x := nr rfl
@[go_sem] theorem patD_off (x : Es.Patch) : mkv true 19 (patC x) = patD x := nr rfl
@[go_sem] theorem patD_p2_cls (x : Es.Patch) : mkv true 16 (offRow (patC x) 2) = clsD x.new := nr rfl
@[go_sem] theorem patD_p13_rat (x : Es.Patch) : mkv true 2 (offRow (patC x) 13) = ratD x.new.value := nr rfl
theorem pu_patC (x : Es.Patch) (j : Nat) : Pu (patC x j) := by
  unfold patC; split <;> first
    | exact .v _
    | exact .any
    | exact pu_slD pu_condC _
    | exact pu_slD pu_intC _
theorem pu_patD (x : Es.Patch) : Pu (patD x) := Pu_agg ⟨.v _, pu_slD pu_intC _, .v _, .v _, .v _, .v _, pu_slD pu_condC _, .v _, .v _, .v _, .v _, .v _, .v _, .v _, .v _, .v _, .v _, .v _, .v _, trivial⟩
theorem fz_pat {s : S} {f i n : Nat} {ty : TypeId} {x : Es.Patch} (ho : s.o f i = some (.blk 19 n ty (rowOf [.v (.int .i64 x.kind), slD 1 intC x.clauses, .v (.int .i64 x.new.kind), .v (.int .i64 x.new.role), .v (.int .i64 x.new.act), .v (.int .i64 x.new.need), slD 2 condC x.new.start, .v (.int .i64 x.new.after), .v (.int .i64 x.new.grace), .v (.bool x.new.business), .v (.bool x.new.final), .v (.int .i64 x.new.pause), .v (.int .i64 x.new.resume), .v (.int .i64 x.new.value.num), .v (.int .i64 x.new.value.den), .v (.int .i64 x.new.unit), .v (.int .i64 x.new.to), .v (.bool x.new.waived), .v (.int .i64 x.days)]))) (hn : 0 < n) : Fz s (.mp f i 19 0 0) (.rp 19 (patC x) 0) :=
  fz_box ho hn fun j hj => ⟨by
    have : j = 0 ∨ j = 1 ∨ j = 2 ∨ j = 3 ∨ j = 4 ∨ j = 5 ∨ j = 6 ∨ j = 7 ∨ j = 8 ∨ j = 9 ∨ j = 10 ∨ j = 11 ∨ j = 12 ∨ j = 13 ∨ j = 14 ∨ j = 15 ∨ j = 16 ∨ j = 17 ∨ j = 18 := by omega
    rcases this with rfl | rfl | rfl | rfl | rfl | rfl | rfl | rfl | rfl | rfl | rfl | rfl | rfl | rfl | rfl | rfl | rfl | rfl | rfl <;> rfl, pu_patC x j⟩
def amdC (x : Es.Amend) : Nat → D
  | 0 => .v (.int .i64 x.number)
  | 1 => .v (.int .i64 x.day)
  | 2 => .v (.int .i64 x.known)
  | 3 => .v (.int .i64 x.patch.kind)
  | 4 => slD 1 intC x.patch.clauses
  | 5 => .v (.int .i64 x.patch.new.kind)
  | 6 => .v (.int .i64 x.patch.new.role)
  | 7 => .v (.int .i64 x.patch.new.act)
  | 8 => .v (.int .i64 x.patch.new.need)
  | 9 => slD 2 condC x.patch.new.start
  | 10 => .v (.int .i64 x.patch.new.after)
  | 11 => .v (.int .i64 x.patch.new.grace)
  | 12 => .v (.bool x.patch.new.business)
  | 13 => .v (.bool x.patch.new.final)
  | 14 => .v (.int .i64 x.patch.new.pause)
  | 15 => .v (.int .i64 x.patch.new.resume)
  | 16 => .v (.int .i64 x.patch.new.value.num)
  | 17 => .v (.int .i64 x.patch.new.value.den)
  | 18 => .v (.int .i64 x.patch.new.unit)
  | 19 => .v (.int .i64 x.patch.new.to)
  | 20 => .v (.bool x.patch.new.waived)
  | 21 => .v (.int .i64 x.patch.days)
  | _ => .any
@[go_sem] theorem amdC_0 (x : Es.Amend) : amdC x 0 = .v (.int .i64 x.number) := nr rfl
@[go_sem] theorem amdC_1 (x : Es.Amend) : amdC x 1 = .v (.int .i64 x.day) := nr rfl
@[go_sem] theorem amdC_2 (x : Es.Amend) : amdC x 2 = .v (.int .i64 x.known) := nr rfl
@[go_sem] theorem amdC_3 (x : Es.Amend) : amdC x 3 = .v (.int .i64 x.patch.kind) := nr rfl
@[go_sem] theorem amdC_4 (x : Es.Amend) : amdC x 4 = slD 1 intC x.patch.clauses := nr rfl
@[go_sem] theorem amdC_5 (x : Es.Amend) : amdC x 5 = .v (.int .i64 x.patch.new.kind) := nr rfl
@[go_sem] theorem amdC_6 (x : Es.Amend) : amdC x 6 = .v (.int .i64 x.patch.new.role) := nr rfl
@[go_sem] theorem amdC_7 (x : Es.Amend) : amdC x 7 = .v (.int .i64 x.patch.new.act) := nr rfl
@[go_sem] theorem amdC_8 (x : Es.Amend) : amdC x 8 = .v (.int .i64 x.patch.new.need) := nr rfl
@[go_sem] theorem amdC_9 (x : Es.Amend) : amdC x 9 = slD 2 condC x.patch.new.start := nr rfl
@[go_sem] theorem amdC_10 (x : Es.Amend) : amdC x 10 = .v (.int .i64 x.patch.new.after) := nr rfl
@[go_sem] theorem amdC_11 (x : Es.Amend) : amdC x 11 = .v (.int .i64 x.patch.new.grace) := nr rfl
@[go_sem] theorem amdC_12 (x : Es.Amend) : amdC x 12 = .v (.bool x.patch.new.business) := nr rfl
@[go_sem] theorem amdC_13 (x : Es.Amend) : amdC x 13 = .v (.bool x.patch.new.final) := nr rfl
@[go_sem] theorem amdC_14 (x : Es.Amend) : amdC x 14 = .v (.int .i64 x.patch.new.pause) := nr rfl
@[go_sem] theorem amdC_15 (x : Es.Amend) : amdC x 15 = .v (.int .i64 x.patch.new.resume) := nr rfl
@[go_sem] theorem amdC_16 (x : Es.Amend) : amdC x 16 = .v (.int .i64 x.patch.new.value.num) := nr rfl
@[go_sem] theorem amdC_17 (x : Es.Amend) : amdC x 17 = .v (.int .i64 x.patch.new.value.den) := nr rfl
@[go_sem] theorem amdC_18 (x : Es.Amend) : amdC x 18 = .v (.int .i64 x.patch.new.unit) := nr rfl
@[go_sem] theorem amdC_19 (x : Es.Amend) : amdC x 19 = .v (.int .i64 x.patch.new.to) := nr rfl
@[go_sem] theorem amdC_20 (x : Es.Amend) : amdC x 20 = .v (.bool x.patch.new.waived) := nr rfl
@[go_sem] theorem amdC_21 (x : Es.Amend) : amdC x 21 = .v (.int .i64 x.patch.days) := nr rfl
def amdD (x : Es.Amend) : D := .agg [.v (.int .i64 x.number), .v (.int .i64 x.day), .v (.int .i64 x.known), .v (.int .i64 x.patch.kind), slD 1 intC x.patch.clauses, .v (.int .i64 x.patch.new.kind), .v (.int .i64 x.patch.new.role), .v (.int .i64 x.patch.new.act), .v (.int .i64 x.patch.new.need), slD 2 condC x.patch.new.start, .v (.int .i64 x.patch.new.after), .v (.int .i64 x.patch.new.grace), .v (.bool x.patch.new.business), .v (.bool x.patch.new.final), .v (.int .i64 x.patch.new.pause), .v (.int .i64 x.patch.new.resume), .v (.int .i64 x.patch.new.value.num), .v (.int .i64 x.patch.new.value.den), .v (.int .i64 x.patch.new.unit), .v (.int .i64 x.patch.new.to), .v (.bool x.patch.new.waived), .v (.int .i64 x.patch.days)]
theorem amdD_eq (x : Es.Amend) : amdD x = .agg [.v (.int .i64 x.number), .v (.int .i64 x.day), .v (.int .i64 x.known), .v (.int .i64 x.patch.kind), slD 1 intC x.patch.clauses, .v (.int .i64 x.patch.new.kind), .v (.int .i64 x.patch.new.role), .v (.int .i64 x.patch.new.act), .v (.int .i64 x.patch.new.need), slD 2 condC x.patch.new.start, .v (.int .i64 x.patch.new.after), .v (.int .i64 x.patch.new.grace), .v (.bool x.patch.new.business), .v (.bool x.patch.new.final), .v (.int .i64 x.patch.new.pause), .v (.int .i64 x.patch.new.resume), .v (.int .i64 x.patch.new.value.num), .v (.int .i64 x.patch.new.value.den), .v (.int .i64 x.patch.new.unit), .v (.int .i64 x.patch.new.to), .v (.bool x.patch.new.waived), .v (.int .i64 x.patch.days)] := nr rfl
@[go_sem] theorem amdD_fold (x : Es.Amend) : D.agg [.v (.int .i64 x.number), .v (.int .i64 x.day), .v (.int .i64 x.known), .v (.int .i64 x.patch.kind), slD 1 intC x.patch.clauses, .v (.int .i64 x.patch.new.kind), .v (.int .i64 x.patch.new.role), .v (.int .i64 x.patch.new.act), .v (.int .i64 x.patch.new.need), slD 2 condC x.patch.new.start, .v (.int .i64 x.patch.new.after), .v (.int .i64 x.patch.new.grace), .v (.bool x.patch.new.business), .v (.bool x.patch.new.final), .v (.int .i64 x.patch.new.pause), .v (.int .i64 x.patch.new.resume), .v (.int .i64 x.patch.new.value.num), .v (.int .i64 x.patch.new.value.den), .v (.int .i64 x.patch.new.unit), .v (.int .i64 x.patch.new.to), .v (.bool x.patch.new.waived), .v (.int .i64 x.patch.days)] = amdD x := nr rfl
@[go_sem] theorem amdD_cells (x : Es.Amend) : (amdD x).cells? = some [.v (.int .i64 x.number), .v (.int .i64 x.day), .v (.int .i64 x.known), .v (.int .i64 x.patch.kind), slD 1 intC x.patch.clauses, .v (.int .i64 x.patch.new.kind), .v (.int .i64 x.patch.new.role), .v (.int .i64 x.patch.new.act), .v (.int .i64 x.patch.new.need), slD 2 condC x.patch.new.start, .v (.int .i64 x.patch.new.after), .v (.int .i64 x.patch.new.grace), .v (.bool x.patch.new.business), .v (.bool x.patch.new.final), .v (.int .i64 x.patch.new.pause), .v (.int .i64 x.patch.new.resume), .v (.int .i64 x.patch.new.value.num), .v (.int .i64 x.patch.new.value.den), .v (.int .i64 x.patch.new.unit), .v (.int .i64 x.patch.new.to), .v (.bool x.patch.new.waived), .v (.int .i64 x.patch.days)] := nr rfl
@[go_sem] theorem amdD_load (x : Es.Amend) : mkv true 22 (offRow (amdC x) 0) = amdD x := nr rfl
@[go_sem] theorem amdD_off (x : Es.Amend) : mkv true 22 (amdC x) = amdD x := nr rfl
@[go_sem] theorem amdD_p3_pat (x : Es.Amend) : mkv true 19 (offRow (amdC x) 3) = patD x.patch := nr rfl
@[go_sem] theorem amdD_p5_cls (x : Es.Amend) : mkv true 16 (offRow (amdC x) 5) = clsD x.patch.new := nr rfl
@[go_sem] theorem amdD_p16_rat (x : Es.Amend) : mkv true 2 (offRow (amdC x) 16) = ratD x.patch.new.value := nr rfl
theorem pu_amdC (x : Es.Amend) (j : Nat) : Pu (amdC x j) := by
  unfold amdC; split <;> first
    | exact .v _
    | exact .any
    | exact pu_slD pu_condC _
    | exact pu_slD pu_intC _
theorem pu_amdD (x : Es.Amend) : Pu (amdD x) := Pu_agg ⟨.v _, .v _, .v _, .v _, pu_slD pu_intC _, .v _, .v _, .v _, .v _, pu_slD pu_condC _, .v _, .v _, .v _, .v _, .v _, .v _, .v _, .v _, .v _, .v _, .v _, .v _, trivial⟩
theorem fz_amd {s : S} {f i n : Nat} {ty : TypeId} {x : Es.Amend} (ho : s.o f i = some (.blk 22 n ty (rowOf [.v (.int .i64 x.number), .v (.int .i64 x.day), .v (.int .i64 x.known), .v (.int .i64 x.patch.kind), slD 1 intC x.patch.clauses, .v (.int .i64 x.patch.new.kind), .v (.int .i64 x.patch.new.role), .v (.int .i64 x.patch.new.act), .v (.int .i64 x.patch.new.need), slD 2 condC x.patch.new.start, .v (.int .i64 x.patch.new.after), .v (.int .i64 x.patch.new.grace), .v (.bool x.patch.new.business), .v (.bool x.patch.new.final), .v (.int .i64 x.patch.new.pause), .v (.int .i64 x.patch.new.resume), .v (.int .i64 x.patch.new.value.num), .v (.int .i64 x.patch.new.value.den), .v (.int .i64 x.patch.new.unit), .v (.int .i64 x.patch.new.to), .v (.bool x.patch.new.waived), .v (.int .i64 x.patch.days)]))) (hn : 0 < n) : Fz s (.mp f i 22 0 0) (.rp 22 (amdC x) 0) :=
  fz_box ho hn fun j hj => ⟨by
    have : j = 0 ∨ j = 1 ∨ j = 2 ∨ j = 3 ∨ j = 4 ∨ j = 5 ∨ j = 6 ∨ j = 7 ∨ j = 8 ∨ j = 9 ∨ j = 10 ∨ j = 11 ∨ j = 12 ∨ j = 13 ∨ j = 14 ∨ j = 15 ∨ j = 16 ∨ j = 17 ∨ j = 18 ∨ j = 19 ∨ j = 20 ∨ j = 21 := by omega
    rcases this with rfl | rfl | rfl | rfl | rfl | rfl | rfl | rfl | rfl | rfl | rfl | rfl | rfl | rfl | rfl | rfl | rfl | rfl | rfl | rfl | rfl | rfl <;> rfl, pu_amdC x j⟩
def entC (x : Es.Amend × Nat) : Nat → D
  | 0 => .v (.int .i64 x.1.number)
  | 1 => .v (.int .i64 x.1.day)
  | 2 => .v (.int .i64 x.1.known)
  | 3 => .v (.int .i64 x.1.patch.kind)
  | 4 => slD 1 intC x.1.patch.clauses
  | 5 => .v (.int .i64 x.1.patch.new.kind)
  | 6 => .v (.int .i64 x.1.patch.new.role)
  | 7 => .v (.int .i64 x.1.patch.new.act)
  | 8 => .v (.int .i64 x.1.patch.new.need)
  | 9 => slD 2 condC x.1.patch.new.start
  | 10 => .v (.int .i64 x.1.patch.new.after)
  | 11 => .v (.int .i64 x.1.patch.new.grace)
  | 12 => .v (.bool x.1.patch.new.business)
  | 13 => .v (.bool x.1.patch.new.final)
  | 14 => .v (.int .i64 x.1.patch.new.pause)
  | 15 => .v (.int .i64 x.1.patch.new.resume)
  | 16 => .v (.int .i64 x.1.patch.new.value.num)
  | 17 => .v (.int .i64 x.1.patch.new.value.den)
  | 18 => .v (.int .i64 x.1.patch.new.unit)
  | 19 => .v (.int .i64 x.1.patch.new.to)
  | 20 => .v (.bool x.1.patch.new.waived)
  | 21 => .v (.int .i64 x.1.patch.days)
  | 22 => .v (.int .i64 (x.2 : Int))
  | _ => .any
@[go_sem] theorem entC_0 (x : Es.Amend × Nat) : entC x 0 = .v (.int .i64 x.1.number) := nr rfl
@[go_sem] theorem entC_1 (x : Es.Amend × Nat) : entC x 1 = .v (.int .i64 x.1.day) := nr rfl
@[go_sem] theorem entC_2 (x : Es.Amend × Nat) : entC x 2 = .v (.int .i64 x.1.known) := nr rfl
@[go_sem] theorem entC_3 (x : Es.Amend × Nat) : entC x 3 = .v (.int .i64 x.1.patch.kind) := nr rfl
@[go_sem] theorem entC_4 (x : Es.Amend × Nat) : entC x 4 = slD 1 intC x.1.patch.clauses := nr rfl
@[go_sem] theorem entC_5 (x : Es.Amend × Nat) : entC x 5 = .v (.int .i64 x.1.patch.new.kind) := nr rfl
@[go_sem] theorem entC_6 (x : Es.Amend × Nat) : entC x 6 = .v (.int .i64 x.1.patch.new.role) := nr rfl
@[go_sem] theorem entC_7 (x : Es.Amend × Nat) : entC x 7 = .v (.int .i64 x.1.patch.new.act) := nr rfl
@[go_sem] theorem entC_8 (x : Es.Amend × Nat) : entC x 8 = .v (.int .i64 x.1.patch.new.need) := nr rfl
@[go_sem] theorem entC_9 (x : Es.Amend × Nat) : entC x 9 = slD 2 condC x.1.patch.new.start := nr rfl
@[go_sem] theorem entC_10 (x : Es.Amend × Nat) : entC x 10 = .v (.int .i64 x.1.patch.new.after) := nr rfl
@[go_sem] theorem entC_11 (x : Es.Amend × Nat) : entC x 11 = .v (.int .i64 x.1.patch.new.grace) := nr rfl
@[go_sem] theorem entC_12 (x : Es.Amend × Nat) : entC x 12 = .v (.bool x.1.patch.new.business) := nr rfl
@[go_sem] theorem entC_13 (x : Es.Amend × Nat) : entC x 13 = .v (.bool x.1.patch.new.final) := nr rfl
@[go_sem] theorem entC_14 (x : Es.Amend × Nat) : entC x 14 = .v (.int .i64 x.1.patch.new.pause) := nr rfl
@[go_sem] theorem entC_15 (x : Es.Amend × Nat) : entC x 15 = .v (.int .i64 x.1.patch.new.resume) := nr rfl
@[go_sem] theorem entC_16 (x : Es.Amend × Nat) : entC x 16 = .v (.int .i64 x.1.patch.new.value.num) := nr rfl
@[go_sem] theorem entC_17 (x : Es.Amend × Nat) : entC x 17 = .v (.int .i64 x.1.patch.new.value.den) := nr rfl
@[go_sem] theorem entC_18 (x : Es.Amend × Nat) : entC x 18 = .v (.int .i64 x.1.patch.new.unit) := nr rfl
@[go_sem] theorem entC_19 (x : Es.Amend × Nat) : entC x 19 = .v (.int .i64 x.1.patch.new.to) := nr rfl
@[go_sem] theorem entC_20 (x : Es.Amend × Nat) : entC x 20 = .v (.bool x.1.patch.new.waived) := nr rfl
@[go_sem] theorem entC_21 (x : Es.Amend × Nat) : entC x 21 = .v (.int .i64 x.1.patch.days) := nr rfl
@[go_sem] theorem entC_22 (x : Es.Amend × Nat) : entC x 22 = .v (.int .i64 (x.2 : Int)) := nr rfl
def entD (x : Es.Amend × Nat) : D := .agg [.v (.int .i64 x.1.number), .v (.int .i64 x.1.day), .v (.int .i64 x.1.known), .v (.int .i64 x.1.patch.kind), slD 1 intC x.1.patch.clauses, .v (.int .i64 x.1.patch.new.kind), .v (.int .i64 x.1.patch.new.role), .v (.int .i64 x.1.patch.new.act), .v (.int .i64 x.1.patch.new.need), slD 2 condC x.1.patch.new.start, .v (.int .i64 x.1.patch.new.after), .v (.int .i64 x.1.patch.new.grace), .v (.bool x.1.patch.new.business), .v (.bool x.1.patch.new.final), .v (.int .i64 x.1.patch.new.pause), .v (.int .i64 x.1.patch.new.resume), .v (.int .i64 x.1.patch.new.value.num), .v (.int .i64 x.1.patch.new.value.den), .v (.int .i64 x.1.patch.new.unit), .v (.int .i64 x.1.patch.new.to), .v (.bool x.1.patch.new.waived), .v (.int .i64 x.1.patch.days), .v (.int .i64 (x.2 : Int))]
theorem entD_eq (x : Es.Amend × Nat) : entD x = .agg [.v (.int .i64 x.1.number), .v (.int .i64 x.1.day), .v (.int .i64 x.1.known), .v (.int .i64 x.1.patch.kind), slD 1 intC x.1.patch.clauses, .v (.int .i64 x.1.patch.new.kind), .v (.int .i64 x.1.patch.new.role), .v (.int .i64 x.1.patch.new.act), .v (.int .i64 x.1.patch.new.need), slD 2 condC x.1.patch.new.start, .v (.int .i64 x.1.patch.new.after), .v (.int .i64 x.1.patch.new.grace), .v (.bool x.1.patch.new.business), .v (.bool x.1.patch.new.final), .v (.int .i64 x.1.patch.new.pause), .v (.int .i64 x.1.patch.new.resume), .v (.int .i64 x.1.patch.new.value.num), .v (.int .i64 x.1.patch.new.value.den), .v (.int .i64 x.1.patch.new.unit), .v (.int .i64 x.1.patch.new.to), .v (.bool x.1.patch.new.waived), .v (.int .i64 x.1.patch.days), .v (.int .i64 (x.2 : Int))] := nr rfl
@[go_sem] theorem entD_fold (x : Es.Amend × Nat) : D.agg [.v (.int .i64 x.1.number), .v (.int .i64 x.1.day), .v (.int .i64 x.1.known), .v (.int .i64 x.1.patch.kind), slD 1 intC x.1.patch.clauses, .v (.int .i64 x.1.patch.new.kind), .v (.int .i64 x.1.patch.new.role), .v (.int .i64 x.1.patch.new.act), .v (.int .i64 x.1.patch.new.need), slD 2 condC x.1.patch.new.start, .v (.int .i64 x.1.patch.new.after), .v (.int .i64 x.1.patch.new.grace), .v (.bool x.1.patch.new.business), .v (.bool x.1.patch.new.final), .v (.int .i64 x.1.patch.new.pause), .v (.int .i64 x.1.patch.new.resume), .v (.int .i64 x.1.patch.new.value.num), .v (.int .i64 x.1.patch.new.value.den), .v (.int .i64 x.1.patch.new.unit), .v (.int .i64 x.1.patch.new.to), .v (.bool x.1.patch.new.waived), .v (.int .i64 x.1.patch.days), .v (.int .i64 (x.2 : Int))] = entD x := nr rfl
@[go_sem] theorem entD_cells (x : Es.Amend × Nat) : (entD x).cells? = some [.v (.int .i64 x.1.number), .v (.int .i64 x.1.day), .v (.int .i64 x.1.known), .v (.int .i64 x.1.patch.kind), slD 1 intC x.1.patch.clauses, .v (.int .i64 x.1.patch.new.kind), .v (.int .i64 x.1.patch.new.role), .v (.int .i64 x.1.patch.new.act), .v (.int .i64 x.1.patch.new.need), slD 2 condC x.1.patch.new.start, .v (.int .i64 x.1.patch.new.after), .v (.int .i64 x.1.patch.new.grace), .v (.bool x.1.patch.new.business), .v (.bool x.1.patch.new.final), .v (.int .i64 x.1.patch.new.pause), .v (.int .i64 x.1.patch.new.resume), .v (.int .i64 x.1.patch.new.value.num), .v (.int .i64 x.1.patch.new.value.den), .v (.int .i64 x.1.patch.new.unit), .v (.int .i64 x.1.patch.new.to), .v (.bool x.1.patch.new.waived), .v (.int .i64 x.1.patch.days), .v (.int .i64 (x.2 : Int))] := nr rfl
@[go_sem] theorem entD_load (x : Es.Amend × Nat) : mkv true 23 (offRow (entC x) 0) = entD x := nr rfl
@[go_sem] theorem entD_off (x : Es.Amend × Nat) : mkv true 23 (entC x) = entD x := nr rfl
@[go_sem] theorem entD_p0_amd (x : Es.Amend × Nat) : mkv true 22 (offRow (entC x) 0) = amdD x.1 := nr rfl
@[go_sem] theorem entD_p3_pat (x : Es.Amend × Nat) : mkv true 19 (offRow (entC x) 3) = patD x.1.patch := nr rfl
@[go_sem] theorem entD_p5_cls (x : Es.Amend × Nat) : mkv true 16 (offRow (entC x) 5) = clsD x.1.patch.new := nr rfl
@[go_sem] theorem entD_p16_rat (x : Es.Amend × Nat) : mkv true 2 (offRow (entC x) 16) = ratD x.1.patch.new.value := nr rfl
theorem pu_entC (x : Es.Amend × Nat) (j : Nat) : Pu (entC x j) := by
  unfold entC; split <;> first
    | exact .v _
    | exact .any
    | exact pu_slD pu_condC _
    | exact pu_slD pu_intC _
theorem pu_entD (x : Es.Amend × Nat) : Pu (entD x) := Pu_agg ⟨.v _, .v _, .v _, .v _, pu_slD pu_intC _, .v _, .v _, .v _, .v _, pu_slD pu_condC _, .v _, .v _, .v _, .v _, .v _, .v _, .v _, .v _, .v _, .v _, .v _, .v _, .v _, trivial⟩
theorem fz_ent {s : S} {f i n : Nat} {ty : TypeId} {x : Es.Amend × Nat} (ho : s.o f i = some (.blk 23 n ty (rowOf [.v (.int .i64 x.1.number), .v (.int .i64 x.1.day), .v (.int .i64 x.1.known), .v (.int .i64 x.1.patch.kind), slD 1 intC x.1.patch.clauses, .v (.int .i64 x.1.patch.new.kind), .v (.int .i64 x.1.patch.new.role), .v (.int .i64 x.1.patch.new.act), .v (.int .i64 x.1.patch.new.need), slD 2 condC x.1.patch.new.start, .v (.int .i64 x.1.patch.new.after), .v (.int .i64 x.1.patch.new.grace), .v (.bool x.1.patch.new.business), .v (.bool x.1.patch.new.final), .v (.int .i64 x.1.patch.new.pause), .v (.int .i64 x.1.patch.new.resume), .v (.int .i64 x.1.patch.new.value.num), .v (.int .i64 x.1.patch.new.value.den), .v (.int .i64 x.1.patch.new.unit), .v (.int .i64 x.1.patch.new.to), .v (.bool x.1.patch.new.waived), .v (.int .i64 x.1.patch.days), .v (.int .i64 (x.2 : Int))]))) (hn : 0 < n) : Fz s (.mp f i 23 0 0) (.rp 23 (entC x) 0) :=
  fz_box ho hn fun j hj => ⟨by
    have : j = 0 ∨ j = 1 ∨ j = 2 ∨ j = 3 ∨ j = 4 ∨ j = 5 ∨ j = 6 ∨ j = 7 ∨ j = 8 ∨ j = 9 ∨ j = 10 ∨ j = 11 ∨ j = 12 ∨ j = 13 ∨ j = 14 ∨ j = 15 ∨ j = 16 ∨ j = 17 ∨ j = 18 ∨ j = 19 ∨ j = 20 ∨ j = 21 ∨ j = 22 := by omega
    rcases this with rfl | rfl | rfl | rfl | rfl | rfl | rfl | rfl | rfl | rfl | rfl | rfl | rfl | rfl | rfl | rfl | rfl | rfl | rfl | rfl | rfl | rfl | rfl <;> rfl, pu_entC x j⟩
theorem setC_gen {α : Type} [Inhabited α] {f : α → Nat → D} {l : List α} {r off : Nat} {ds : List D} {m : α} (hr : r < l.length) (h : ∀ c, f m c = if off ≤ c ∧ c < off + ds.length then ds.getD (c - off) .any else f (Es.at_ l (r : Int)) c) : setC (rowsOf f l) r off ds = rowsOf f (l.set r m) := by
  funext r' c'
  simp only [setC, rowsOf]
  by_cases hrr : r' = r
  · subst hrr
    simp only [List.getD_eq_getElem?_getD, List.getElem?_set, hr, if_true, Option.getD_some, true_and]
    rw [h]
    by_cases hc : off ≤ c' ∧ c' < off + ds.length
    · rw [if_pos hc, if_pos hc]; rw [List.getD_eq_getElem?_getD]
    · rw [if_neg hc, if_neg hc]; simp [Es.at_, List.getD]
  · rw [if_neg (by omega)]
    simp only [List.getD_eq_getElem?_getD, List.getElem?_set, if_neg (Ne.symm hrr)]
@[go_sem] theorem condD_bin (P : Program) (op : BinOp) (t : Nat) (x y : Es.Cond) (s : S) (K : D → S → Prop) : aBin P op t (condD x) (condD y) s K = ABinA P op t (eqShape P 10000 t) [.v (.int .i64 x.clause), .v (.int .i64 x.is)] [.v (.int .i64 y.clause), .v (.int .i64 y.is)] s K := nr rfl
def plainL (x : Es.Clause) : List D := [.v (.int .i64 x.kind), .v (.int .i64 x.role), .v (.int .i64 x.act), .v (.int .i64 x.need), .v (.int .i64 x.after), .v (.int .i64 x.grace), .v (.int .i64 x.pause), .v (.int .i64 x.resume), .v (.int .i64 x.unit), .v (.int .i64 x.to), .v (.int .i64 0), .v (.bool x.business), .v (.bool x.final), .v (.bool x.waived), .v (.int .i64 x.value.num), .v (.int .i64 x.value.den)]
@[go_sem] theorem plainL_eq (x : Es.Clause) : plainL x = [.v (.int .i64 x.kind), .v (.int .i64 x.role), .v (.int .i64 x.act), .v (.int .i64 x.need), .v (.int .i64 x.after), .v (.int .i64 x.grace), .v (.int .i64 x.pause), .v (.int .i64 x.resume), .v (.int .i64 x.unit), .v (.int .i64 x.to), .v (.int .i64 0), .v (.bool x.business), .v (.bool x.final), .v (.bool x.waived), .v (.int .i64 x.value.num), .v (.int .i64 x.value.den)] := nr rfl
def plainD (x : Es.Clause) : D := .agg (plainL x)
@[go_sem] theorem plainD_bin (P : Program) (op : BinOp) (t : Nat) (x y : Es.Clause) (s : S) (K : D → S → Prop) : aBin P op t (plainD x) (plainD y) s K = ABinA P op t (eqShape P 10000 t) (plainL x) (plainL y) s K := nr rfl
theorem pu_plainD (x : Es.Clause) : Pu (plainD x) := Pu_agg ⟨.v _, .v _, .v _, .v _, .v _, .v _, .v _, .v _, .v _, .v _, .v _, .v _, .v _, .v _, .v _, .v _, trivial⟩
/-- One row more. -/
theorem app_rows {α : Type} [Inhabited α] {f : α → Nat → D} {w : Nat} {l : List α} {x : α} {cell src : Nat → Nat → D} (hc : ∀ r c, r < l.length → c < w → cell r c = rowsOf f l r c) (hs : ∀ j, j < w → src 0 j = f x j) :
    ∀ r c, r < l.length + 1 → c < w → appC cell l.length src r c = rowsOf f (l ++ [x]) r c := by
  intro r c hr hc'
  simp only [appC]
  by_cases h1 : r < l.length
  · rw [if_pos h1, hc r c h1 hc']; simp [rowsOf, List.getD_eq_getElem?_getD, List.getElem?_append_left h1]
  · have : r = l.length := by omega
    subst this
    rw [if_neg h1, Nat.sub_self, hs c hc']; simp [rowsOf, List.getD_eq_getElem?_getD]
/-- A list that grows: nothing, or an owned slice from n0 on. -/
def OutL {α : Type} [Inhabited α] (f : α → Nat → D) (w : Nat) (ty : TypeId) (n0 : Nat) (st : S) (d : D) (l : List α) : Prop :=
  (l = [] ∧ d = .v (.slice none 0 0)) ∨ ∃ g cell, d = .ms g 0 w 0 l.length ∧ n0 ≤ g ∧ g < st.nx ∧ st.o g 0 = some (.blk w l.length ty cell) ∧ ∀ r c, r < l.length → c < w → cell r c = rowsOf f l r c
section
variable {α : Type} [Inhabited α] {f : α → Nat → D} {w : Nat} {ty : TypeId} {n0 : Nat} {st st' : S} {d : D} {l : List α}
theorem OutL.nil : OutL f w ty n0 st (.v (.slice none 0 0)) [] := .inl ⟨rfl, rfl⟩
theorem OutL.keep (h : OutL f w ty n0 st d l) (hn : st.nx ≤ st'.nx) (ho : ∀ g, n0 ≤ g → g < st.nx → st'.o g 0 = st.o g 0) : OutL f w ty n0 st' d l := by
  rcases h with h | ⟨g, cell, h1, h2, h3, h4, h5⟩
  · exact .inl h
  · exact .inr ⟨g, cell, h1, h2, by omega, (ho g h2 h3).trans h4, h5⟩
theorem OutL.fz (h : OutL f w ty n0 st d l) (ho : ∀ g, n0 ≤ g → g < st.nx → st'.o g 0 = st.o g 0) (hf : ∀ x j, Pu (f x j)) : Fz st' d (slD w f l) := by
  rcases h with ⟨rfl, rfl⟩ | ⟨g, cell, rfl, h2, h3, h4, h5⟩
  · exact .nil _ _
  · exact fz_ms ((ho g h2 h3).trans h4) rfl hf h5
/-- The first row. -/
theorem OutL.one {x : α} {g : Nat} {cell src : Nat → Nat → D} (h2 : n0 ≤ g) (h3 : g < st.nx) (ho : st.o g 0 = some (.blk w 1 ty (appC cell 0 src))) (hs : ∀ j, j < w → src 0 j = f x j) : OutL f w ty n0 st (.ms g 0 w 0 1) [x] :=
  .inr ⟨g, _, rfl, h2, h3, ho, app_rows (l := []) (fun _ _ h => by simp at h) hs⟩
/-- One row more. -/
theorem OutL.more {x : α} {g : Nat} {cell src : Nat → Nat → D} (h2 : n0 ≤ g) (h3 : g < st.nx) (ho : st.o g 0 = some (.blk w (l.length + 1) ty (appC cell l.length src))) (hc : ∀ r c, r < l.length → c < w → cell r c = rowsOf f l r c) (hs : ∀ j, j < w → src 0 j = f x j) : OutL f w ty n0 st (.ms g 0 w 0 (l.length + 1)) (l ++ [x]) :=
  .inr ⟨g, _, by simp, h2, h3, by rw [List.length_append]; exact ho, fun r c hr hc' => app_rows hc hs r c (by simpa using hr) hc'⟩
theorem OutL.one' {o : St} {x : α} {g : Nat} {cell src : Nat → Nat → D} (h2 : n0 ≤ g) (hs : ∀ j, j < w → src 0 j = f x j) : OutL f w ty n0 ⟨St.set o g 0 (some (.blk w 1 ty (appC cell 0 src))), g + 1⟩ (.ms g 0 w 0 1) [x] :=
  OutL.one h2 (Nat.lt_succ_self _) (St_set_self _ _ _ _) hs
theorem OutL.more' {o : St} {x : α} {g : Nat} {cell src : Nat → Nat → D} (h2 : n0 ≤ g) (hc : ∀ r c, r < l.length → c < w → cell r c = rowsOf f l r c) (hs : ∀ j, j < w → src 0 j = f x j) : OutL f w ty n0 ⟨St.set o g 0 (some (.blk w (l.length + 1) ty (appC cell l.length src))), g + 1⟩ (.ms g 0 w 0 (l.length + 1)) (l ++ [x]) :=
  OutL.more h2 (Nat.lt_succ_self _) (St_set_self _ _ _ _) hc hs
/-- One row changed. -/
theorem set_rows {x : α} {cell : Nat → Nat → D} {r : Nat} {ds : List D} (hr : r < l.length) (hl : ds.length = w) (hd : ∀ j, j < w → ds.getD j .any = f x j) (hc : ∀ r c, r < l.length → c < w → cell r c = rowsOf f l r c) :
    ∀ r' c, r' < (l.set r x).length → c < w → setC cell r 0 ds r' c = rowsOf f (l.set r x) r' c := by
  intro r' c hr' hc'
  simp only [setC, Nat.zero_le, true_and, Nat.zero_add, Nat.sub_zero]
  rw [List.length_set] at hr'
  by_cases h : r' = r
  · subst h
    rw [if_pos ⟨rfl, by omega⟩, hd c hc']
    simp [rowsOf, List.getD_eq_getElem?_getD, List.getElem?_set, hr]
  · rw [if_neg (fun hh => h hh.1), hc r' c hr' hc']
    simp [rowsOf, List.getD_eq_getElem?_getD, List.getElem?_set, Ne.symm h]
end
theorem setC_cls {l : List Es.Clause} {r : Nat} (hr : r < l.length) (x : Es.Clause) : setC (rowsOf clsC l) r 0 [.v (.int .i64 x.kind), .v (.int .i64 x.role), .v (.int .i64 x.act), .v (.int .i64 x.need), slD 2 condC x.start, .v (.int .i64 x.after), .v (.int .i64 x.grace), .v (.bool x.business), .v (.bool x.final), .v (.int .i64 x.pause), .v (.int .i64 x.resume), .v (.int .i64 x.value.num), .v (.int .i64 x.value.den), .v (.int .i64 x.unit), .v (.int .i64 x.to), .v (.bool x.waived)] = rowsOf clsC (l.set r x) :=
  setC_gen hr fun c => by
    rcases Nat.lt_or_ge c 16 with h | h
    · have : c = 0 ∨ c = 1 ∨ c = 2 ∨ c = 3 ∨ c = 4 ∨ c = 5 ∨ c = 6 ∨ c = 7 ∨ c = 8 ∨ c = 9 ∨ c = 10 ∨ c = 11 ∨ c = 12 ∨ c = 13 ∨ c = 14 ∨ c = 15 := by omega
      rcases this with rfl | rfl | rfl | rfl | rfl | rfl | rfl | rfl | rfl | rfl | rfl | rfl | rfl | rfl | rfl | rfl <;> rfl
    · rw [if_neg (by simp only [List.length_cons, List.length_nil]; omega)]
      obtain ⟨d, rfl⟩ : ∃ d, c = 16 + d := ⟨c - 16, by omega⟩
      rw [Nat.add_comm]; rfl
theorem setC_ent {l : List (Es.Amend × Nat)} {r : Nat} (hr : r < l.length) (x : Es.Amend × Nat) {cs : List D} (hcs : (entD x).cells? = some cs) : setC (rowsOf entC l) r 0 cs = rowsOf entC (l.set r x) := by
  rw [entD_cells, Option.some.injEq] at hcs
  subst hcs
  refine setC_gen hr fun c => ?_
  rcases Nat.lt_or_ge c 23 with h | h
  · have : c = 0 ∨ c = 1 ∨ c = 2 ∨ c = 3 ∨ c = 4 ∨ c = 5 ∨ c = 6 ∨ c = 7 ∨ c = 8 ∨ c = 9 ∨ c = 10 ∨ c = 11 ∨ c = 12 ∨ c = 13 ∨ c = 14 ∨ c = 15 ∨ c = 16 ∨ c = 17 ∨ c = 18 ∨ c = 19 ∨ c = 20 ∨ c = 21 ∨ c = 22 := by omega
    rcases this with rfl | rfl | rfl | rfl | rfl | rfl | rfl | rfl | rfl | rfl | rfl | rfl | rfl | rfl | rfl | rfl | rfl | rfl | rfl | rfl | rfl | rfl | rfl <;> rfl
  · rw [if_neg (by simp only [List.length_cons, List.length_nil]; omega)]
    obtain ⟨d, rfl⟩ : ∃ d, c = 23 + d := ⟨c - 23, by omega⟩
    rw [Nat.add_comm]; rfl
theorem cls_one {y x : Es.Clause} {j : Nat} {d : D} (h1 : clsC y j = d) (h2 : ∀ c, c ≠ j → clsC y c = clsC x c) (c : Nat) : clsC y c = if j ≤ c ∧ c < j + [d].length then [d].getD (c - j) .any else clsC x c := by
  by_cases hc : c = j
  · subst hc; rw [if_pos (by simp), h1]; simp
  · rw [if_neg (by simp only [List.length_cons, List.length_nil]; omega), h2 c hc]
theorem cls_rest (c : Nat) (x : Es.Clause) : clsC x (c + 16) = .any := rfl
theorem setC_cls5 {l : List Es.Clause} {r : Nat} (hr : r < l.length) (v : Int) : setC (rowsOf clsC l) r 5 [.v (.int .i64 v)] = rowsOf clsC (l.set r { Es.at_ l (r : Int) with after := v }) :=
  setC_gen hr (cls_one rfl fun c hc => by
    rcases c with _ | _ | _ | _ | _ | _ | _ | _ | _ | _ | _ | _ | _ | _ | _ | _ | c <;> first | rfl | exact absurd rfl hc)
theorem setC_cls15 {l : List Es.Clause} {r : Nat} (hr : r < l.length) (v : Bool) : setC (rowsOf clsC l) r 15 [.v (.bool v)] = rowsOf clsC (l.set r { Es.at_ l (r : Int) with waived := v }) :=
  setC_gen hr (cls_one rfl fun c hc => by
    rcases c with _ | _ | _ | _ | _ | _ | _ | _ | _ | _ | _ | _ | _ | _ | _ | _ | c <;> first | rfl | exact absurd rfl hc)
end Go.Abs
end
section
namespace Go.Proofs
open Go Go.Abs
set_option linter.unusedSimpArgs false
set_option linter.unusedVariables false
set_option maxRecDepth 10000
namespace Tryd
theorem c_int : prog.cellsOf 3 = 1 := by kernel_rfl
theorem c_bool : prog.cellsOf 4 = 1 := by kernel_rfl
theorem c_string : prog.cellsOf 9 = 1 := by kernel_rfl
theorem c_ratio : prog.cellsOf 51 = 2 := by kernel_rfl
theorem c_unit : prog.cellsOf 107 = 5 := by kernel_rfl
theorem c_act : prog.cellsOf 53 = 7 := by kernel_rfl
theorem c_cond : prog.cellsOf 136 = 2 := by kernel_rfl
theorem c_clause : prog.cellsOf 60 = 16 := by kernel_rfl
theorem c_contract : prog.cellsOf 27 = 7 := by kernel_rfl
theorem c_mark : prog.cellsOf 86 = 5 := by kernel_rfl
theorem c_state : prog.cellsOf 40 = 4 := by kernel_rfl
theorem c_patch : prog.cellsOf 62 = 19 := by kernel_rfl
theorem c_amend : prog.cellsOf 64 = 22 := by kernel_rfl
theorem c_sl_act : prog.cellsOf 24 = 1 := by kernel_rfl
theorem c_sl_bool : prog.cellsOf 37 = 1 := by kernel_rfl
theorem c_sl_clause : prog.cellsOf 25 = 1 := by kernel_rfl
theorem c_sl_cond : prog.cellsOf 58 = 1 := by kernel_rfl
theorem c_sl_int : prog.cellsOf 22 = 1 := by kernel_rfl
theorem c_sl_mark : prog.cellsOf 38 = 1 := by kernel_rfl
theorem c_sl_unit : prog.cellsOf 23 = 1 := by kernel_rfl
theorem c_sl_amend : prog.cellsOf 56 = 1 := by kernel_rfl
section
variable {H : Type} {enc : TypeId × Value → H} {W : World} {spare : Nat → Bool} {held : Bool} {fuel : Nat} {cs : List Value} {x : DataW H × List MemPlace}
theorem rd_i (h : Treads enc prog W spare held fuel 3 cs x) : ∃ n : Int, RowRep W (intC n) 1 cs := by
  obtain ⟨n, _, h⟩ := rd_int underlying3 h
  exact ⟨n, h.1, fun j hj => (by obtain rfl : j = 0 := (by omega); exact h.2 0 hj)⟩
theorem rd_b (h : Treads enc prog W spare held fuel 4 cs x) : ∃ n : Bool, RowRep W (booC n) 1 cs := by
  obtain ⟨n, h⟩ := rd_bool underlying4 h
  exact ⟨n, h.1, fun j hj => (by obtain rfl : j = 0 := (by omega); exact h.2 0 hj)⟩
theorem rd_s (h : Treads enc prog W spare held fuel 9 cs x) : ∃ l : List UInt8, l.length ≤ maxLen ∧ RowRep W (fun _ => .v (.string ⟨l.toArray⟩)) 1 cs := rd_string underlying9 h
theorem rd_ratio (h : Treads enc prog W spare held fuel 51 cs x) : ∃ a : Es.Ratio, RowRep W (ratC a) 2 cs := by
  obtain ⟨hl, n, hf⟩ := rd_struct underlying51 h
  rw [c_ratio] at hl
  obtain ⟨y0, h0⟩ : ∃ y, Treads enc prog W spare held n 3 ((cs.drop 0).take (prog.cellsOf 3)) y := hf 0 _ rfl
  rw [c_int] at h0
  obtain ⟨a0, r0⟩ := rd_i h0
  obtain ⟨y1, h1⟩ : ∃ y, Treads enc prog W spare held n 3 ((cs.drop 1).take (prog.cellsOf 3)) y := hf 1 _ rfl
  rw [c_int] at h1
  obtain ⟨a1, r1⟩ := rd_i h1
  refine ⟨⟨a0, a1⟩, hl, fun j hj => ?_⟩
  match j, hj with
  | 0, _ => exact r0.at (j := 0) (by decide) rfl
  | 1, _ => exact r1.at (j := 0) (by decide) rfl
theorem rd_unit (h : Treads enc prog W spare held fuel 107 cs x) : ∃ a : Es.Unt, a.name.length ≤ maxLen ∧ RowRep W (untC a) 5 cs := by
  obtain ⟨hl, n, hf⟩ := rd_struct underlying107 h
  rw [c_unit] at hl
  obtain ⟨y0, h0⟩ : ∃ y, Treads enc prog W spare held n 9 ((cs.drop 0).take (prog.cellsOf 9)) y := hf 0 _ rfl
  rw [c_string] at h0
  obtain ⟨a0, b0, r0⟩ := rd_s h0
  obtain ⟨y1, h1⟩ : ∃ y, Treads enc prog W spare held n 3 ((cs.drop 1).take (prog.cellsOf 3)) y := hf 1 _ rfl
  rw [c_int] at h1
  obtain ⟨a1, r1⟩ := rd_i h1
  obtain ⟨y2, h2⟩ : ∃ y, Treads enc prog W spare held n 3 ((cs.drop 2).take (prog.cellsOf 3)) y := hf 2 _ rfl
  rw [c_int] at h2
  obtain ⟨a2, r2⟩ := rd_i h2
  obtain ⟨y3, h3⟩ : ∃ y, Treads enc prog W spare held n 51 ((cs.drop 3).take (prog.cellsOf 51)) y := hf 3 _ rfl
  rw [c_ratio] at h3
  obtain ⟨a3, r3⟩ := rd_ratio h3
  refine ⟨⟨a0, a1, a2, a3⟩, b0, hl, fun j hj => ?_⟩
  match j, hj with
  | 0, _ => exact r0.at (j := 0) (by decide) rfl
  | 1, _ => exact r1.at (j := 0) (by decide) rfl
  | 2, _ => exact r2.at (j := 0) (by decide) rfl
  | 3, _ => exact r3.at (j := 0) (by decide) rfl
  | 4, _ => exact r3.at (j := 1) (by decide) rfl
theorem rd_act (h : Treads enc prog W spare held fuel 53 cs x) : ∃ a : Es.ActT, RowRep W (actC a) 7 cs := by
  obtain ⟨hl, n, hf⟩ := rd_struct underlying53 h
  rw [c_act] at hl
  obtain ⟨y0, h0⟩ : ∃ y, Treads enc prog W spare held n 3 ((cs.drop 0).take (prog.cellsOf 3)) y := hf 0 _ rfl
  rw [c_int] at h0
  obtain ⟨a0, r0⟩ := rd_i h0
  obtain ⟨y1, h1⟩ : ∃ y, Treads enc prog W spare held n 3 ((cs.drop 1).take (prog.cellsOf 3)) y := hf 1 _ rfl
  rw [c_int] at h1
  obtain ⟨a1, r1⟩ := rd_i h1
  obtain ⟨y2, h2⟩ : ∃ y, Treads enc prog W spare held n 3 ((cs.drop 2).take (prog.cellsOf 3)) y := hf 2 _ rfl
  rw [c_int] at h2
  obtain ⟨a2, r2⟩ := rd_i h2
  obtain ⟨y3, h3⟩ : ∃ y, Treads enc prog W spare held n 3 ((cs.drop 3).take (prog.cellsOf 3)) y := hf 3 _ rfl
  rw [c_int] at h3
  obtain ⟨a3, r3⟩ := rd_i h3
  obtain ⟨y4, h4⟩ : ∃ y, Treads enc prog W spare held n 3 ((cs.drop 4).take (prog.cellsOf 3)) y := hf 4 _ rfl
  rw [c_int] at h4
  obtain ⟨a4, r4⟩ := rd_i h4
  obtain ⟨y5, h5⟩ : ∃ y, Treads enc prog W spare held n 51 ((cs.drop 5).take (prog.cellsOf 51)) y := hf 5 _ rfl
  rw [c_ratio] at h5
  obtain ⟨a5, r5⟩ := rd_ratio h5
  refine ⟨⟨a0, a1, a2, a3, a4, a5⟩, hl, fun j hj => ?_⟩
  match j, hj with
  | 0, _ => exact r0.at (j := 0) (by decide) rfl
  | 1, _ => exact r1.at (j := 0) (by decide) rfl
  | 2, _ => exact r2.at (j := 0) (by decide) rfl
  | 3, _ => exact r3.at (j := 0) (by decide) rfl
  | 4, _ => exact r4.at (j := 0) (by decide) rfl
  | 5, _ => exact r5.at (j := 0) (by decide) rfl
  | 6, _ => exact r5.at (j := 1) (by decide) rfl
theorem rd_cond (h : Treads enc prog W spare held fuel 136 cs x) : ∃ a : Es.Cond, RowRep W (condC a) 2 cs := by
  obtain ⟨hl, n, hf⟩ := rd_struct underlying136 h
  rw [c_cond] at hl
  obtain ⟨y0, h0⟩ : ∃ y, Treads enc prog W spare held n 3 ((cs.drop 0).take (prog.cellsOf 3)) y := hf 0 _ rfl
  rw [c_int] at h0
  obtain ⟨a0, r0⟩ := rd_i h0
  obtain ⟨y1, h1⟩ : ∃ y, Treads enc prog W spare held n 3 ((cs.drop 1).take (prog.cellsOf 3)) y := hf 1 _ rfl
  rw [c_int] at h1
  obtain ⟨a1, r1⟩ := rd_i h1
  refine ⟨⟨a0, a1⟩, hl, fun j hj => ?_⟩
  match j, hj with
  | 0, _ => exact r0.at (j := 0) (by decide) rfl
  | 1, _ => exact r1.at (j := 0) (by decide) rfl
theorem rd_clause (h : Treads enc prog W spare held fuel 60 cs x) : ∃ a : Es.Clause, a.start.length ≤ maxLen ∧ RowRep W (clsC a) 16 cs := by
  obtain ⟨hl, n, hf⟩ := rd_struct underlying60 h
  rw [c_clause] at hl
  obtain ⟨y0, h0⟩ : ∃ y, Treads enc prog W spare held n 3 ((cs.drop 0).take (prog.cellsOf 3)) y := hf 0 _ rfl
  rw [c_int] at h0
  obtain ⟨a0, r0⟩ := rd_i h0
  obtain ⟨y1, h1⟩ : ∃ y, Treads enc prog W spare held n 3 ((cs.drop 1).take (prog.cellsOf 3)) y := hf 1 _ rfl
  rw [c_int] at h1
  obtain ⟨a1, r1⟩ := rd_i h1
  obtain ⟨y2, h2⟩ : ∃ y, Treads enc prog W spare held n 3 ((cs.drop 2).take (prog.cellsOf 3)) y := hf 2 _ rfl
  rw [c_int] at h2
  obtain ⟨a2, r2⟩ := rd_i h2
  obtain ⟨y3, h3⟩ : ∃ y, Treads enc prog W spare held n 3 ((cs.drop 3).take (prog.cellsOf 3)) y := hf 3 _ rfl
  rw [c_int] at h3
  obtain ⟨a3, r3⟩ := rd_i h3
  obtain ⟨y4, h4⟩ : ∃ y, Treads enc prog W spare held n 58 ((cs.drop 4).take (prog.cellsOf 58)) y := hf 4 _ rfl
  rw [c_sl_cond] at h4
  obtain ⟨a4, b4, r4⟩ := rd_slice (f := condC) underlying58 c_cond (by decide) (fun _ _ _ h => rd_cond h) h4
  obtain ⟨y5, h5⟩ : ∃ y, Treads enc prog W spare held n 3 ((cs.drop 5).take (prog.cellsOf 3)) y := hf 5 _ rfl
  rw [c_int] at h5
  obtain ⟨a5, r5⟩ := rd_i h5
  obtain ⟨y6, h6⟩ : ∃ y, Treads enc prog W spare held n 3 ((cs.drop 6).take (prog.cellsOf 3)) y := hf 6 _ rfl
  rw [c_int] at h6
  obtain ⟨a6, r6⟩ := rd_i h6
  obtain ⟨y7, h7⟩ : ∃ y, Treads enc prog W spare held n 4 ((cs.drop 7).take (prog.cellsOf 4)) y := hf 7 _ rfl
  rw [c_bool] at h7
  obtain ⟨a7, r7⟩ := rd_b h7
  obtain ⟨y8, h8⟩ : ∃ y, Treads enc prog W spare held n 4 ((cs.drop 8).take (prog.cellsOf 4)) y := hf 8 _ rfl
  rw [c_bool] at h8
  obtain ⟨a8, r8⟩ := rd_b h8
  obtain ⟨y9, h9⟩ : ∃ y, Treads enc prog W spare held n 3 ((cs.drop 9).take (prog.cellsOf 3)) y := hf 9 _ rfl
  rw [c_int] at h9
  obtain ⟨a9, r9⟩ := rd_i h9
  obtain ⟨y10, h10⟩ : ∃ y, Treads enc prog W spare held n 3 ((cs.drop 10).take (prog.cellsOf 3)) y := hf 10 _ rfl
  rw [c_int] at h10
  obtain ⟨a10, r10⟩ := rd_i h10
  obtain ⟨y11, h11⟩ : ∃ y, Treads enc prog W spare held n 51 ((cs.drop 11).take (prog.cellsOf 51)) y := hf 11 _ rfl
  rw [c_ratio] at h11
  obtain ⟨a11, r11⟩ := rd_ratio h11
  obtain ⟨y12, h12⟩ : ∃ y, Treads enc prog W spare held n 3 ((cs.drop 13).take (prog.cellsOf 3)) y := hf 12 _ rfl
  rw [c_int] at h12
  obtain ⟨a12, r12⟩ := rd_i h12
  obtain ⟨y13, h13⟩ : ∃ y, Treads enc prog W spare held n 3 ((cs.drop 14).take (prog.cellsOf 3)) y := hf 13 _ rfl
  rw [c_int] at h13
  obtain ⟨a13, r13⟩ := rd_i h13
  obtain ⟨y14, h14⟩ : ∃ y, Treads enc prog W spare held n 4 ((cs.drop 15).take (prog.cellsOf 4)) y := hf 14 _ rfl
  rw [c_bool] at h14
  obtain ⟨a14, r14⟩ := rd_b h14
  refine ⟨⟨a0, a1, a2, a3, a4, a5, a6, a7, a8, a9, a10, a11, a12, a13, a14⟩, b4, hl, fun j hj => ?_⟩
  match j, hj with
  | 0, _ => exact r0.at (j := 0) (by decide) rfl
  | 1, _ => exact r1.at (j := 0) (by decide) rfl
  | 2, _ => exact r2.at (j := 0) (by decide) rfl
  | 3, _ => exact r3.at (j := 0) (by decide) rfl
  | 4, _ => exact r4.at (j := 0) (by decide) rfl
  | 5, _ => exact r5.at (j := 0) (by decide) rfl
  | 6, _ => exact r6.at (j := 0) (by decide) rfl
  | 7, _ => exact r7.at (j := 0) (by decide) rfl
  | 8, _ => exact r8.at (j := 0) (by decide) rfl
  | 9, _ => exact r9.at (j := 0) (by decide) rfl
  | 10, _ => exact r10.at (j := 0) (by decide) rfl
  | 11, _ => exact r11.at (j := 0) (by decide) rfl
  | 12, _ => exact r11.at (j := 1) (by decide) rfl
  | 13, _ => exact r12.at (j := 0) (by decide) rfl
  | 14, _ => exact r13.at (j := 0) (by decide) rfl
  | 15, _ => exact r14.at (j := 0) (by decide) rfl
  | j + 16, h => omega
theorem rd_contract (h : Treads enc prog W spare held fuel 27 cs x) : ∃ a : Es.Contract, a.holders.length ≤ maxLen ∧ a.units.length ≤ maxLen ∧ a.acts.length ≤ maxLen ∧ a.clauses.length ≤ maxLen ∧ a.off.length ≤ maxLen ∧ RowRep W (conC a) 7 cs := by
  obtain ⟨hl, n, hf⟩ := rd_struct underlying27 h
  rw [c_contract] at hl
  obtain ⟨y0, h0⟩ : ∃ y, Treads enc prog W spare held n 3 ((cs.drop 0).take (prog.cellsOf 3)) y := hf 0 _ rfl
  rw [c_int] at h0
  obtain ⟨a0, r0⟩ := rd_i h0
  obtain ⟨y1, h1⟩ : ∃ y, Treads enc prog W spare held n 22 ((cs.drop 1).take (prog.cellsOf 22)) y := hf 1 _ rfl
  rw [c_sl_int] at h1
  obtain ⟨a1, b1, r1⟩ := rd_slice (f := intC) underlying22 c_int (by decide) (fun _ _ _ h => rd_i h) h1
  obtain ⟨y2, h2⟩ : ∃ y, Treads enc prog W spare held n 23 ((cs.drop 2).take (prog.cellsOf 23)) y := hf 2 _ rfl
  rw [c_sl_unit] at h2
  obtain ⟨a2, b2, r2⟩ := rd_slice (f := untC) underlying23 c_unit (by decide) (fun _ _ _ h => let ⟨a, _, h⟩ := rd_unit h; ⟨a, h⟩) h2
  obtain ⟨y3, h3⟩ : ∃ y, Treads enc prog W spare held n 24 ((cs.drop 3).take (prog.cellsOf 24)) y := hf 3 _ rfl
  rw [c_sl_act] at h3
  obtain ⟨a3, b3, r3⟩ := rd_slice (f := actC) underlying24 c_act (by decide) (fun _ _ _ h => rd_act h) h3
  obtain ⟨y4, h4⟩ : ∃ y, Treads enc prog W spare held n 25 ((cs.drop 4).take (prog.cellsOf 25)) y := hf 4 _ rfl
  rw [c_sl_clause] at h4
  obtain ⟨a4, b4, r4⟩ := rd_slice (f := clsC) underlying25 c_clause (by decide) (fun _ _ _ h => let ⟨a, _, h⟩ := rd_clause h; ⟨a, h⟩) h4
  obtain ⟨y5, h5⟩ : ∃ y, Treads enc prog W spare held n 3 ((cs.drop 5).take (prog.cellsOf 3)) y := hf 5 _ rfl
  rw [c_int] at h5
  obtain ⟨a5, r5⟩ := rd_i h5
  obtain ⟨y6, h6⟩ : ∃ y, Treads enc prog W spare held n 22 ((cs.drop 6).take (prog.cellsOf 22)) y := hf 6 _ rfl
  rw [c_sl_int] at h6
  obtain ⟨a6, b6, r6⟩ := rd_slice (f := intC) underlying22 c_int (by decide) (fun _ _ _ h => rd_i h) h6
  refine ⟨⟨a0, a1, a2, a3, a4, a5, a6⟩, b1, b2, b3, b4, b6, hl, fun j hj => ?_⟩
  match j, hj with
  | 0, _ => exact r0.at (j := 0) (by decide) rfl
  | 1, _ => exact r1.at (j := 0) (by decide) rfl
  | 2, _ => exact r2.at (j := 0) (by decide) rfl
  | 3, _ => exact r3.at (j := 0) (by decide) rfl
  | 4, _ => exact r4.at (j := 0) (by decide) rfl
  | 5, _ => exact r5.at (j := 0) (by decide) rfl
  | 6, _ => exact r6.at (j := 0) (by decide) rfl
theorem rd_mark (h : Treads enc prog W spare held fuel 86 cs x) : ∃ a : Es.Mark, RowRep W (mrkC a) 5 cs := by
  obtain ⟨hl, n, hf⟩ := rd_struct underlying86 h
  rw [c_mark] at hl
  obtain ⟨y0, h0⟩ : ∃ y, Treads enc prog W spare held n 3 ((cs.drop 0).take (prog.cellsOf 3)) y := hf 0 _ rfl
  rw [c_int] at h0
  obtain ⟨a0, r0⟩ := rd_i h0
  obtain ⟨y1, h1⟩ : ∃ y, Treads enc prog W spare held n 3 ((cs.drop 1).take (prog.cellsOf 3)) y := hf 1 _ rfl
  rw [c_int] at h1
  obtain ⟨a1, r1⟩ := rd_i h1
  obtain ⟨y2, h2⟩ : ∃ y, Treads enc prog W spare held n 3 ((cs.drop 2).take (prog.cellsOf 3)) y := hf 2 _ rfl
  rw [c_int] at h2
  obtain ⟨a2, r2⟩ := rd_i h2
  obtain ⟨y3, h3⟩ : ∃ y, Treads enc prog W spare held n 3 ((cs.drop 3).take (prog.cellsOf 3)) y := hf 3 _ rfl
  rw [c_int] at h3
  obtain ⟨a3, r3⟩ := rd_i h3
  obtain ⟨y4, h4⟩ : ∃ y, Treads enc prog W spare held n 4 ((cs.drop 4).take (prog.cellsOf 4)) y := hf 4 _ rfl
  rw [c_bool] at h4
  obtain ⟨a4, r4⟩ := rd_b h4
  refine ⟨⟨a0, a1, a2, a3, a4⟩, hl, fun j hj => ?_⟩
  match j, hj with
  | 0, _ => exact r0.at (j := 0) (by decide) rfl
  | 1, _ => exact r1.at (j := 0) (by decide) rfl
  | 2, _ => exact r2.at (j := 0) (by decide) rfl
  | 3, _ => exact r3.at (j := 0) (by decide) rfl
  | 4, _ => exact r4.at (j := 0) (by decide) rfl
theorem rd_state (h : Treads enc prog W spare held fuel 40 cs x) : ∃ a : Es.State, a.holders.length ≤ maxLen ∧ a.used.length ≤ maxLen ∧ a.marks.length ≤ maxLen ∧ RowRep W (staC a) 4 cs := by
  obtain ⟨hl, n, hf⟩ := rd_struct underlying40 h
  rw [c_state] at hl
  obtain ⟨y0, h0⟩ : ∃ y, Treads enc prog W spare held n 3 ((cs.drop 0).take (prog.cellsOf 3)) y := hf 0 _ rfl
  rw [c_int] at h0
  obtain ⟨a0, r0⟩ := rd_i h0
  obtain ⟨y1, h1⟩ : ∃ y, Treads enc prog W spare held n 22 ((cs.drop 1).take (prog.cellsOf 22)) y := hf 1 _ rfl
  rw [c_sl_int] at h1
  obtain ⟨a1, b1, r1⟩ := rd_slice (f := intC) underlying22 c_int (by decide) (fun _ _ _ h => rd_i h) h1
  obtain ⟨y2, h2⟩ : ∃ y, Treads enc prog W spare held n 37 ((cs.drop 2).take (prog.cellsOf 37)) y := hf 2 _ rfl
  rw [c_sl_bool] at h2
  obtain ⟨a2, b2, r2⟩ := rd_slice (f := booC) underlying37 c_bool (by decide) (fun _ _ _ h => rd_b h) h2
  obtain ⟨y3, h3⟩ : ∃ y, Treads enc prog W spare held n 38 ((cs.drop 3).take (prog.cellsOf 38)) y := hf 3 _ rfl
  rw [c_sl_mark] at h3
  obtain ⟨a3, b3, r3⟩ := rd_slice (f := mrkC) underlying38 c_mark (by decide) (fun _ _ _ h => rd_mark h) h3
  refine ⟨⟨a0, a1, a2, a3⟩, b1, b2, b3, hl, fun j hj => ?_⟩
  match j, hj with
  | 0, _ => exact r0.at (j := 0) (by decide) rfl
  | 1, _ => exact r1.at (j := 0) (by decide) rfl
  | 2, _ => exact r2.at (j := 0) (by decide) rfl
  | 3, _ => exact r3.at (j := 0) (by decide) rfl
theorem rd_patch (h : Treads enc prog W spare held fuel 62 cs x) : ∃ a : Es.Patch, a.clauses.length ≤ maxLen ∧ RowRep W (patC a) 19 cs := by
  obtain ⟨hl, n, hf⟩ := rd_struct underlying62 h
  rw [c_patch] at hl
  obtain ⟨y0, h0⟩ : ∃ y, Treads enc prog W spare held n 3 ((cs.drop 0).take (prog.cellsOf 3)) y := hf 0 _ rfl
  rw [c_int] at h0
  obtain ⟨a0, r0⟩ := rd_i h0
  obtain ⟨y1, h1⟩ : ∃ y, Treads enc prog W spare held n 22 ((cs.drop 1).take (prog.cellsOf 22)) y := hf 1 _ rfl
  rw [c_sl_int] at h1
  obtain ⟨a1, b1, r1⟩ := rd_slice (f := intC) underlying22 c_int (by decide) (fun _ _ _ h => rd_i h) h1
  obtain ⟨y2, h2⟩ : ∃ y, Treads enc prog W spare held n 60 ((cs.drop 2).take (prog.cellsOf 60)) y := hf 2 _ rfl
  rw [c_clause] at h2
  obtain ⟨a2, _, r2⟩ := rd_clause h2
  obtain ⟨y3, h3⟩ : ∃ y, Treads enc prog W spare held n 3 ((cs.drop 18).take (prog.cellsOf 3)) y := hf 3 _ rfl
  rw [c_int] at h3
  obtain ⟨a3, r3⟩ := rd_i h3
  refine ⟨⟨a0, a1, a2, a3⟩, b1, hl, fun j hj => ?_⟩
  match j, hj with
  | 0, _ => exact r0.at (j := 0) (by decide) rfl
  | 1, _ => exact r1.at (j := 0) (by decide) rfl
  | 2, _ => exact r2.at (j := 0) (by decide) rfl
  | 3, _ => exact r2.at (j := 1) (by decide) rfl
  | 4, _ => exact r2.at (j := 2) (by decide) rfl
  | 5, _ => exact r2.at (j := 3) (by decide) rfl
  | 6, _ => exact r2.at (j := 4) (by decide) rfl
  | 7, _ => exact r2.at (j := 5) (by decide) rfl
  | 8, _ => exact r2.at (j := 6) (by decide) rfl
  | 9, _ => exact r2.at (j := 7) (by decide) rfl
  | 10, _ => exact r2.at (j := 8) (by decide) rfl
  | 11, _ => exact r2.at (j := 9) (by decide) rfl
  | 12, _ => exact r2.at (j := 10) (by decide) rfl
  | 13, _ => exact r2.at (j := 11) (by decide) rfl
  | 14, _ => exact r2.at (j := 12) (by decide) rfl
  | 15, _ => exact r2.at (j := 13) (by decide) rfl
  | 16, _ => exact r2.at (j := 14) (by decide) rfl
  | 17, _ => exact r2.at (j := 15) (by decide) rfl
  | 18, _ => exact r3.at (j := 0) (by decide) rfl
  | j + 19, h => omega
theorem rd_amend (h : Treads enc prog W spare held fuel 64 cs x) : ∃ a : Es.Amend, RowRep W (amdC a) 22 cs := by
  obtain ⟨hl, n, hf⟩ := rd_struct underlying64 h
  rw [c_amend] at hl
  obtain ⟨y0, h0⟩ : ∃ y, Treads enc prog W spare held n 3 ((cs.drop 0).take (prog.cellsOf 3)) y := hf 0 _ rfl
  rw [c_int] at h0
  obtain ⟨a0, r0⟩ := rd_i h0
  obtain ⟨y1, h1⟩ : ∃ y, Treads enc prog W spare held n 3 ((cs.drop 1).take (prog.cellsOf 3)) y := hf 1 _ rfl
  rw [c_int] at h1
  obtain ⟨a1, r1⟩ := rd_i h1
  obtain ⟨y2, h2⟩ : ∃ y, Treads enc prog W spare held n 3 ((cs.drop 2).take (prog.cellsOf 3)) y := hf 2 _ rfl
  rw [c_int] at h2
  obtain ⟨a2, r2⟩ := rd_i h2
  obtain ⟨y3, h3⟩ : ∃ y, Treads enc prog W spare held n 62 ((cs.drop 3).take (prog.cellsOf 62)) y := hf 3 _ rfl
  rw [c_patch] at h3
  obtain ⟨a3, _, r3⟩ := rd_patch h3
  refine ⟨⟨a0, a1, a2, a3⟩, hl, fun j hj => ?_⟩
  match j, hj with
  | 0, _ => exact r0.at (j := 0) (by decide) rfl
  | 1, _ => exact r1.at (j := 0) (by decide) rfl
  | 2, _ => exact r2.at (j := 0) (by decide) rfl
  | 3, _ => exact r3.at (j := 0) (by decide) rfl
  | 4, _ => exact r3.at (j := 1) (by decide) rfl
  | 5, _ => exact r3.at (j := 2) (by decide) rfl
  | 6, _ => exact r3.at (j := 3) (by decide) rfl
  | 7, _ => exact r3.at (j := 4) (by decide) rfl
  | 8, _ => exact r3.at (j := 5) (by decide) rfl
  | 9, _ => exact r3.at (j := 6) (by decide) rfl
  | 10, _ => exact r3.at (j := 7) (by decide) rfl
  | 11, _ => exact r3.at (j := 8) (by decide) rfl
  | 12, _ => exact r3.at (j := 9) (by decide) rfl
  | 13, _ => exact r3.at (j := 10) (by decide) rfl
  | 14, _ => exact r3.at (j := 11) (by decide) rfl
  | 15, _ => exact r3.at (j := 12) (by decide) rfl
  | 16, _ => exact r3.at (j := 13) (by decide) rfl
  | 17, _ => exact r3.at (j := 14) (by decide) rfl
  | 18, _ => exact r3.at (j := 15) (by decide) rfl
  | 19, _ => exact r3.at (j := 16) (by decide) rfl
  | 20, _ => exact r3.at (j := 17) (by decide) rfl
  | 21, _ => exact r3.at (j := 18) (by decide) rfl
  | j + 22, h => omega
end

end Tryd
end Go.Proofs
end
section
/-
  What the program's functions compute, part 5: clauses start.
-/
namespace Es
def startMark (c : Contract) (s : State) (i : Int) : Mark := ⟨1, (at_ c.clauses i).after, 0, if (at_ c.clauses i).kind != 4 then at_ s.holders (at_ c.clauses i).role else -1, false⟩
def stepB (c : Contract) (s : State) (acc : List Mark × Bool) (i : Nat) : List Mark × Bool :=
  if ready c { s with marks := acc.1 } (i : Int) then (acc.1.set i (startMark c s (i : Int)), true) else acc
def pass (c : Contract) (s : State) (k : Nat) : List Mark × Bool := (List.range k).foldl (stepB c s) (s.marks, false)
theorem pass_succ (c : Contract) (s : State) (k : Nat) : pass c s (k + 1) = stepB c s (pass c s k) k := by
  unfold pass; rw [List.range_succ, List.foldl_append]; rfl
def beginF : Nat → Contract → State → State
  | 0, _, s => s
  | n + 1, c, s =>
    let p := pass c s c.clauses.length
    if p.2 then beginF n c { s with marks := p.1 } else { s with marks := p.1 }
def idle (ms : List Mark) : Nat := ms.countP (fun m => m.status == 0)
def begin_ (c : Contract) (s : State) : State := beginF (idle s.marks + 1) c s

theorem idle_set {ms : List Mark} {i : Nat} {m : Mark} (hi : i < ms.length) (h0 : ((at_ ms (i : Int)).status == 0) = true) (hm : (m.status == 0) = false) : idle (ms.set i m) + 1 = idle ms := by
  unfold idle
  rw [at_nat hi] at h0
  rw [List.countP_set hi]
  simp only [h0, hm, if_true, Bool.false_eq_true, if_false, Nat.add_zero]
  have : 0 < ms.countP (fun m => m.status == 0) := List.countP_pos_iff.2 ⟨ms[i], List.getElem_mem _, h0⟩
  omega
theorem ready_idle {c : Contract} {s : State} {i : Int} (h : ready c s i = true) : ((at_ s.marks i).status == 0) = true := by
  unfold ready at h
  simp only [Bool.and_eq_true] at h
  exact h.1.1
theorem pass_idle (c : Contract) (s : State) : ∀ k : Nat, k ≤ s.marks.length → (pass c s k).1.length = s.marks.length ∧ idle (pass c s k).1 + (if (pass c s k).2 then 1 else 0) ≤ idle s.marks
  | 0, _ => ⟨rfl, by simp [pass]⟩
  | k + 1, hk => by
    obtain ⟨h1, h2⟩ := pass_idle c s k (by omega)
    rw [pass_succ]
    unfold stepB
    split
    · rename_i hr
      have h0 := ready_idle hr
      have hlt : k < (pass c s k).1.length := by omega
      have := idle_set (m := startMark c s (k : Int)) hlt h0 rfl
      refine ⟨by simpa using h1, ?_⟩
      simp only [if_true]
      split at h2 <;> omega
    · exact ⟨h1, h2⟩
theorem beginF_step {c : Contract} {s : State} (hl : s.marks.length = c.clauses.length) (h : (pass c s c.clauses.length).2 = true) : begin_ c s = begin_ c { s with marks := (pass c s c.clauses.length).1 } := by
  have key : ∀ (n m : Nat) (s : State), s.marks.length = c.clauses.length → idle s.marks < n → idle s.marks < m → beginF n c s = beginF m c s := by
    intro n
    induction n with
    | zero => intro m s _ h; omega
    | succ n ih =>
      intro m s hl hn hm
      cases m with
      | zero => omega
      | succ m =>
        simp only [beginF]
        have hp := pass_idle c s c.clauses.length (by omega)
        split
        · rename_i h
          rw [if_pos h] at hp
          exact ih m _ (by simp only; omega) (by simp only; omega) (by simp only; omega)
        · rfl
  unfold begin_
  have hp := pass_idle c s c.clauses.length (by omega)
  rw [if_pos h] at hp
  show beginF (idle s.marks + 1) c s = _
  rw [show beginF (idle s.marks + 1) c s = beginF (idle s.marks) c { s with marks := (pass c s c.clauses.length).1 } by simp only [beginF, h, if_true]]
  exact key _ _ _ (by simp only; omega) (by simp only; omega) (by simp only; omega)
theorem begin_done {c : Contract} {s : State} (h : (pass c s c.clauses.length).2 = false) : begin_ c s = { s with marks := (pass c s c.clauses.length).1 } := by
  unfold begin_; simp only [beginF, h, Bool.false_eq_true, if_false]
def runs (m : Mark) : Bool := m.status == 1 || m.status == 2
/-- The marks, when the first k clauses have been met by a round that does g. -/
def met (g : Nat → Mark → Mark) (ms : List Mark) (k : Nat) : List Mark :=
  (List.range k).foldl (fun (l : List Mark) (i : Nat) => if runs (at_ l (i : Int)) then l.set i (g i (at_ l (i : Int))) else l) ms
theorem met_succ (g : Nat → Mark → Mark) (ms : List Mark) (k : Nat) : met g ms (k + 1) = if runs (at_ (met g ms k) (k : Int)) then (met g ms k).set k (g k (at_ (met g ms k) (k : Int))) else met g ms k := by
  unfold met; rw [List.range_succ, List.foldl_append]; rfl
theorem met_length (g : Nat → Mark → Mark) (ms : List Mark) : ∀ k : Nat, (met g ms k).length = ms.length
  | 0 => rfl
  | k + 1 => by
    rw [met_succ]
    split
    · rw [List.length_set]; exact met_length g ms k
    · exact met_length g ms k
/-- What has not been met is as it was. -/
theorem met_at (g : Nat → Mark → Mark) (ms : List Mark) : ∀ (k j : Nat), k ≤ j → at_ (met g ms k) (j : Int) = at_ ms (j : Int)
  | 0, _, _ => rfl
  | k + 1, j, h => by
    rw [met_succ]
    split
    · rw [← met_at g ms k j (by omega)]
      simp only [at_, Int.toNat_natCast, List.getD_eq_getElem?_getD, List.getElem?_set]
      rw [if_neg (by omega)]
    · exact met_at g ms k j (by omega)
theorem at_set_self {l : List Mark} {r : Nat} (hr : r < l.length) (m : Mark) : at_ (l.set r m) (r : Int) = m := by simp [at_, List.getD, hr]
theorem at_set_ne {l : List Mark} {r j : Nat} (hr : r ≠ j) (m : Mark) : at_ (l.set r m) (j : Int) = at_ l (j : Int) := by
  simp [at_, List.getD, List.getElem?_set, hr]
theorem met_done (g : Nat → Mark → Mark) (ms : List Mark) : ∀ (k j : Nat), j < k → j < ms.length → at_ (met g ms k) (j : Int) = if runs (at_ ms (j : Int)) then g j (at_ ms (j : Int)) else at_ ms (j : Int)
  | 0, _, h, _ => by omega
  | k + 1, j, h, hl => by
    rw [met_succ]
    rcases Nat.lt_or_ge j k with hj | hj
    · rw [← met_done g ms k j hj hl]
      split
      · exact at_set_ne (by omega) _
      · rfl
    · have : j = k := by omega
      subst this
      have hm := met_at g ms j j (Nat.le_refl _)
      split
      · rename_i hr
        rw [hm] at hr
        rw [at_set_self (by rw [met_length]; exact hl), hm, if_pos hr]
      · rename_i hr
        rw [hm] at hr
        rw [if_neg hr, hm]
end Es
end
section
/-
  What the program's functions compute, part 6: days and acts.
-/
namespace Es
def older (x : Clause) (m : Mark) : Mark :=
  if x.kind == 1 then
    if m.status == 1 && decide (0 < x.grace) then { m with status := 2, left := x.grace } else { m with status := 4, left := 0, paused := false }
  else if x.kind == 2 then { m with status := 3, left := 0, paused := false }
  else { m with status := 5, left := 0, paused := false }
/-- What a day does to the mark of a running clause. -/
def dayMark (c : Contract) (s : State) (i : Nat) (m : Mark) : Mark :=
  if m.paused || ((at_ c.clauses (i : Int)).business && c.off.contains s.day) then m
  else if m.left - 1 == 0 then older (at_ c.clauses (i : Int)) { m with left := m.left - 1 } else { m with left := m.left - 1 }
end Es
end
section
/-
  What the program's functions compute, part 7: acts and steps.
-/
namespace Es
theorem at_nn {α : Type} [Inhabited α] (l : List α) (i : Int) : at_ l (i.toNat : Int) = at_ l i := by unfold at_; rw [Int.toNat_natCast]
def ended (m : Mark) (st : Int) : Mark := { m with status := st, left := 0, paused := false }
def countedM (x : Clause) (m : Mark) : Mark :=
  if x.kind == 1 then (if m.got + 1 == x.need then ended { m with got := m.got + 1 } 3 else { m with got := m.got + 1 })
  else if x.kind == 2 then (if m.paused then m else ended m 4)
  else ended m 3
/-- What an act does to the mark of a running clause. -/
def actMark (c : Contract) (act who : Int) (i : Nat) (m : Mark) : Mark :=
  let x := at_ c.clauses (i : Int)
  let m := if x.pause == act then { m with paused := true } else m
  let m := if x.resume == act then { m with paused := false } else m
  if x.act == act && (x.kind == 4 || m.bearer == who) then countedM x m else m
def novMark (c : Contract) (a : ActT) (i : Nat) (m : Mark) : Mark :=
  if (at_ c.clauses (i : Int)).kind != 4 && (at_ c.clauses (i : Int)).role == a.give then { m with bearer := a.to } else m
def doer (c : Contract) (s : State) (a : Int) : Int := if (at_ c.acts a).role == -1 then -1 else at_ s.holders (at_ c.acts a).role
def tickS (c : Contract) (s : State) : State := { s with marks := met (dayMark c s) s.marks c.clauses.length }
def doS (c : Contract) (s : State) (act : Int) : State :=
  if at_ s.used act then s else
  let a := at_ c.acts act
  let m1 := met (actMark c act (doer c s act)) s.marks c.clauses.length
  let m2 := if a.kind == 3 then met (novMark c a) m1 c.clauses.length else m1
  { s with marks := m2, holders := if a.kind != 1 then s.holders.set a.give.toNat a.to else s.holders, used := if a.kind != 1 then s.used.set act.toNat true else s.used }
def step (c : Contract) (s : State) (k : Int) : State × Int :=
  if !sValid c s || decide (k < -1) || decide (len c.acts ≤ k) then (⟨0, [], [], []⟩, 1)
  else if s.day == c.days then (⟨0, [], [], []⟩, 13)
  else (begin_ c (if k == -1 then { tickS c s with day := s.day + 1 } else doS c s k), 0)
def mark0 (x : Clause) : Mark := ⟨if x.waived then 5 else 0, 0, 0, -1, false⟩
def state0 (c : Contract) : State := ⟨0, c.holders, List.replicate c.acts.length false, c.clauses.map mark0⟩
def start (c : Contract) : State × Int :=
  if !((valid2 c).1 == 0) then (⟨0, [], [], []⟩, 1) else (begin_ c (state0 c), 0)
def doerX (c : Contract) (s : State) (act : Int) : Int := if !sValid c s || decide (act < 0) || decide (len c.acts ≤ act) then -2 else doer c s act
def breach (c : Contract) (s : State) (p : Int) : Bool :=
  if !sValid c s || decide (p < 0) then false else (List.range s.marks.length).any fun i => (at_ c.clauses (i : Int)).final && ((at_ s.marks (i : Int)).status == 4) && ((at_ s.marks (i : Int)).bearer == p)
end Es
end
section
/-
  Plain laws of the states of a contract, part 1: what a valid contract gives; clauses start; a well-formed state stays so.
-/
namespace Es
structure COk (c : Contract) (x : Clause) : Prop where
  kind : x.kind = 1 ∨ x.kind = 2 ∨ x.kind = 3 ∨ x.kind = 4
  act : 0 ≤ x.act ∧ x.act < len c.acts
  need : 1 ≤ x.need ∧ x.need ≤ 9
  after : 1 ≤ x.after ∧ x.after ≤ 400
  grace : 0 ≤ x.grace ∧ x.grace ≤ 400
  role : x.kind ≠ 4 → 0 ≤ x.role ∧ x.role < len c.holders
  late : x.kind ≠ 1 → x.grace = 0
theorem clauseB_facts {c : Contract} {i : Int} {x : Clause} {d p f : Bool} {n g : Int} (h : clauseB c i x d n g p f = true) :
    d = true ∧ (0 ≤ x.act ∧ x.act < len c.acts) ∧ (1 ≤ x.need ∧ x.need ≤ n) ∧ (0 ≤ x.grace ∧ x.grace ≤ g) ∧ (1 ≤ x.after ∧ x.after ≤ 400) := by
  unfold clauseB at h
  split at h
  · cases h
  · rename_i h1
    simp only [under, within, Bool.or_eq_true, Bool.not_eq_true', not_or, Bool.not_eq_false, Bool.and_eq_true, decide_eq_true_eq] at h1
    obtain ⟨⟨⟨⟨⟨⟨h1, h2⟩, h3⟩, h4⟩, h5⟩, _⟩, _⟩ := h1
    exact ⟨h1, h2, h3, h4, h5⟩
theorem clauseOk_facts {c : Contract} {i : Int} (h : clauseOk c i = true) : COk c (at_ c.clauses i) := by
  unfold clauseOk at h
  simp only at h
  generalize at_ c.clauses i = x at *
  split at h
  · rename_i hk
    simp only [beq_iff_eq] at hk
    obtain ⟨h1, h2, h3, h4, h5⟩ := clauseB_facts h
    simp only [under, Bool.and_eq_true, decide_eq_true_eq] at h1
    exact ⟨.inl hk, h2, ⟨by omega, by omega⟩, h5, h4, fun _ => h1.1, fun hn => absurd hk hn⟩
  · split at h
    · rename_i hk
      simp only [beq_iff_eq] at hk
      obtain ⟨h1, h2, h3, h4, h5⟩ := clauseB_facts h
      simp only [under, Bool.and_eq_true, decide_eq_true_eq] at h1
      exact ⟨.inr (.inl hk), h2, ⟨by omega, by omega⟩, h5, ⟨by omega, by omega⟩, fun _ => h1.1, fun _ => by omega⟩
    · split at h
      · rename_i hk
        simp only [beq_iff_eq] at hk
        obtain ⟨h1, h2, h3, h4, h5⟩ := clauseB_facts h
        simp only [under, Bool.and_eq_true, decide_eq_true_eq] at h1
        exact ⟨.inr (.inr (.inl hk)), h2, ⟨by omega, by omega⟩, h5, ⟨by omega, by omega⟩, fun _ => h1.1, fun _ => by omega⟩
      · split at h
        · rename_i hk
          simp only [beq_iff_eq] at hk
          obtain ⟨h1, h2, h3, h4, h5⟩ := clauseB_facts h
          exact ⟨.inr (.inr (.inr hk)), h2, ⟨by omega, by omega⟩, h5, ⟨by omega, by omega⟩, fun hn => absurd hk hn, fun _ => by omega⟩
        · cases h
/-- What a valid contract gives. -/
structure VOk (c : Contract) : Prop where
  small : c.parties ≤ 12 ∧ c.days ≤ 2000 ∧ c.holders.length ≤ 12 ∧ c.units.length ≤ 20 ∧ c.acts.length ≤ 60 ∧ c.clauses.length ≤ 400
  pos : 1 ≤ c.parties ∧ 1 ≤ c.days
  hne : c.holders.length ≠ 0
  holders : ∀ p ∈ c.holders, 0 ≤ p ∧ p < c.parties
  acts : ∀ a ∈ c.acts, act c a = true
  off : offOk c.days (-1) c.off = true
  clause : ∀ j : Nat, j < c.clauses.length → COk c (at_ c.clauses (j : Int))
theorem valid2_ok {c : Contract} (h : (valid2 c).1 = 0) : VOk c := by
  have hc := fun (j : Nat) hj => clauseOk_facts (valid2_clause (c := c) (by simpa using h) (j := j) hj)
  unfold valid2 at h
  split at h
  · simp at h
  rename_i h1
  split at h
  · simp at h
  rename_i h2
  simp only [Bool.or_eq_true, not_or, decide_eq_true_eq] at h1
  simp only [len] at h1
  unfold frame at h2
  simp only [Bool.not_eq_true', Bool.not_eq_false] at h2
  split at h2
  · cases h2
  rename_i h3
  split at h2
  · cases h2
  rename_i h4
  split at h2
  · cases h2
  rename_i h5
  simp only [Bool.or_eq_true, not_or, decide_eq_true_eq] at h3
  simp only [Bool.not_eq_true', Bool.not_eq_false, List.all_eq_true, under, Bool.and_eq_true, decide_eq_true_eq] at h4 h5
  exact ⟨by clear h h2 h3 h4 h5; omega, by omega, by have := h3.2; simpa [len] using this, h4, h5, h2, hc⟩
theorem act_moves {c : Contract} {a : ActT} (h : act c a = true) (hk : a.kind ≠ 1) : (a.kind = 2 ∨ a.kind = 3) ∧ (0 ≤ a.role ∧ a.role < len c.holders) ∧ (0 ≤ a.give ∧ a.give < len c.holders) ∧ (0 ≤ a.to ∧ a.to < c.parties) := by
  unfold act at h
  split at h
  · rename_i hm
    simp only [role, under, Bool.and_eq_true, decide_eq_true_eq] at h
    simp only [moves, Bool.or_eq_true, beq_iff_eq] at hm
    exact ⟨hm, h.1.1.1, h.1.1.2, h.1.2⟩
  · rw [if_pos (by simp [hk])] at h; cases h
theorem act_role {c : Contract} {a : ActT} (h : act c a = true) (hr : a.role ≠ -1) : 0 ≤ a.role ∧ a.role < len c.holders := by
  unfold act at h
  split at h
  · simp only [role, under, Bool.and_eq_true, decide_eq_true_eq] at h
    exact h.1.1.1
  · split at h
    · cases h
    · split at h
      · rename_i hh; exact absurd (by simpa only [beq_iff_eq] using hh) hr
      · simp only [role, Bool.and_eq_true] at h
        have := h.1
        simp only [under, Bool.and_eq_true, decide_eq_true_eq] at this
        exact this
theorem off_sorted {days : Int} : ∀ (l : List Int) (last : Int), offOk days last l = true → (∀ x ∈ l, last < x) ∧ ∀ a b : Nat, a < b → b < l.length → at_ l (a : Int) < at_ l (b : Int)
  | [], _, _ => ⟨fun x h => (by cases h), fun a b _ h => (by simp at h)⟩
  | d :: l, last, h => by
    unfold offOk at h
    split at h
    · cases h
    rename_i h1
    simp only [Bool.or_eq_true, decide_eq_true_eq, not_or] at h1
    obtain ⟨g1, g2⟩ := off_sorted l d h
    refine ⟨fun x hx => ?_, fun a b hab hb => ?_⟩
    · rcases List.mem_cons.1 hx with rfl | hx
      · omega
      · have := g1 x hx; omega
    · cases b with
      | zero => omega
      | succ b =>
        have hb' : b < l.length := by simpa using hb
        cases a with
        | zero =>
          have : at_ l (b : Int) ∈ l := at_mem hb'
          have := g1 _ this
          simpa [at_] using this
        | succ a => simpa [at_] using g2 a b (by omega) hb'

/-- A state that is well-formed, but for clauses that could start. -/
structure Core (c : Contract) (s : State) : Prop where
  con : (valid2 c).1 = 0
  day : 0 ≤ s.day ∧ s.day ≤ c.days
  hl : s.holders.length = c.holders.length
  ul : s.used.length = c.acts.length
  ml : s.marks.length = c.clauses.length
  holders : ∀ p ∈ s.holders, 0 ≤ p ∧ p < c.parties
  used : ∀ i : Nat, i < s.used.length → at_ s.used (i : Int) = true → (at_ c.acts (i : Int)).kind ≠ 1
  marks : ∀ i : Nat, i < s.marks.length → wellFormed c (at_ c.clauses (i : Int)) (at_ s.marks (i : Int)) = true
theorem sValid_iff {c : Contract} {s : State} : sValid c s = true ↔ Core c s ∧ ∀ i : Nat, i < s.marks.length → ready c s (i : Int) = false := by
  unfold sValid
  constructor
  · intro h
    split at h
    · cases h
    rename_i h1
    split at h
    · cases h
    rename_i h2
    split at h
    · cases h
    rename_i h3
    split at h
    · cases h
    rename_i h4
    simp only [Bool.or_eq_true, not_or, Bool.not_eq_true', Bool.not_eq_false, beq_iff_eq, decide_eq_true_eq, bne_iff_ne, ne_eq, Decidable.not_not] at h1
    simp only [len] at h1
    simp only [List.any_eq_true, not_exists, not_and, Bool.or_eq_true, decide_eq_true_eq, not_or] at h2
    simp only [Bool.not_eq_true', Bool.not_eq_false, allN_iff] at h3 h4 h
    refine ⟨⟨by omega, by omega, by omega, by omega, by omega, fun p hp => ?_, fun i hi hu => ?_, h4⟩, fun i hi => ?_⟩
    · have := h2 p hp; omega
    · have := h3 i hi; simpa [hu] using this
    · simpa using h i hi
  · rintro ⟨⟨a1, a2, a3, a4, a5, a6, a7, a8⟩, a9⟩
    rw [if_neg, if_neg, if_neg, if_neg]
    · rw [allN_iff]; intro j hj; simp [a9 j hj]
    · simp only [Bool.not_eq_true', Bool.not_eq_false, allN_iff]; exact a8
    · simp only [Bool.not_eq_true', Bool.not_eq_false, allN_iff]
      intro j hj
      cases hu : at_ s.used (j : Int) with
      | false => rfl
      | true => simpa using a7 j hj hu
    · simp only [List.any_eq_true, not_exists, not_and, Bool.or_eq_true, decide_eq_true_eq, not_or]
      intro p hp; have := a6 p hp; omega
    · simp only [Bool.or_eq_true, not_or, Bool.not_eq_true', Bool.not_eq_false, beq_iff_eq, decide_eq_true_eq, bne_iff_ne, ne_eq, Decidable.not_not]
      simp only [len]
      omega

/-! ### clauses start -/
/-- What clauses that start leave: idle clauses may run now, with all their days; the others are as they were. -/
structure Began (c : Contract) (s : State) (ms : List Mark) : Prop where
  len : ms.length = s.marks.length
  old : ∀ i : Nat, i < s.marks.length → (at_ s.marks (i : Int)).status ≠ 0 → at_ ms (i : Int) = at_ s.marks (i : Int)
  new : ∀ i : Nat, i < s.marks.length → (at_ s.marks (i : Int)).status = 0 → at_ ms (i : Int) = at_ s.marks (i : Int) ∨
    (at_ ms (i : Int) = startMark c s (i : Int) ∧ (at_ c.clauses (i : Int)).waived = false ∧ ∀ x ∈ (at_ c.clauses (i : Int)).start, fails { s with marks := ms } x = false)
theorem startMark_marks (c : Contract) (s : State) (ms : List Mark) (i : Int) : startMark c { s with marks := ms } i = startMark c s i := rfl
/-- A condition that holds goes on to hold while clauses start. -/
theorem fails_set {c : Contract} {s : State} {ms : List Mark} {i : Nat} (h0 : (at_ ms (i : Int)).status = 0) (hi : i < ms.length) {x : Cond} (h : fails { s with marks := ms } x = false) : fails { s with marks := ms.set i (startMark c s (i : Int)) } x = false := by
  unfold fails at h ⊢
  simp only at h ⊢
  by_cases hx : i = x.clause.toNat
  · have e1 : at_ ms x.clause = at_ ms (i : Int) := by rw [hx]; exact (at_nn _ _).symm
    have e2 : at_ (ms.set i (startMark c s (i : Int))) x.clause = startMark c s (i : Int) := by
      have := at_set_self hi (startMark c s (i : Int))
      simp only [at_, Int.toNat_natCast] at this ⊢
      rw [← hx]; exact this
    rw [e1, h0] at h
    rw [e2]
    by_cases h2 : x.is = 2
    · simp [h2] at h
    · by_cases h3 : x.is = 3
      · simp [h3] at h
      · by_cases h4 : x.is = 4
        · simp [h4] at h
        · simp [h2, h3, h4] at h
  · have e2 : at_ (ms.set i (startMark c s (i : Int))) x.clause = at_ ms x.clause := by
      simp [at_, List.getD, List.getElem?_set, hx]
    rw [e2]; exact h
theorem Began.refl (c : Contract) (s : State) : Began c s s.marks := ⟨rfl, fun _ _ _ => rfl, fun _ _ _ => .inl rfl⟩
theorem Began.step {c : Contract} {s : State} {ms : List Mark} {f : Bool} (h : Began c s ms) (k : Nat) : Began c s (stepB c s (ms, f) k).1 := by
  unfold stepB
  simp only
  split
  · rename_i hr
    by_cases hk : k < s.marks.length
    case neg =>
      simp only
      rw [List.set_eq_of_length_le (by rw [h.len]; omega)]; exact h
    have h0 := ready_idle hr
    simp only [beq_iff_eq] at h0
    have hkl : k < ms.length := by rw [h.len]; exact hk
    have hs0 : (at_ s.marks (k : Int)).status = 0 := by
      rcases Decidable.em ((at_ s.marks (k : Int)).status = 0) with h1 | h1
      · exact h1
      · have := h.old k hk h1; rw [this] at h0; exact absurd h0 h1
    refine ⟨by simpa using h.len, fun i hi hne => ?_, fun i hi he => ?_⟩
    · have hik : k ≠ i := by rintro rfl; exact hne hs0
      simp only [at_set_ne hik]
      exact h.old i hi hne
    · by_cases hik : k = i
      · subst hik
        refine .inr ⟨at_set_self hkl _, ?_, fun x hx => ?_⟩
        · unfold ready at hr; simp only [Bool.and_eq_true, Bool.not_eq_true'] at hr; exact hr.1.2
        · have : fails { s with marks := ms } x = false := by
            unfold ready at hr
            simp only [Bool.and_eq_true, Bool.not_eq_true', List.any_eq_false] at hr
            simpa using hr.2 x hx
          exact fails_set h0 hkl this
      · rcases h.new i hi he with h1 | ⟨h1, h2, h3⟩
        · exact .inl (by simp only [at_set_ne hik]; exact h1)
        · exact .inr ⟨by simp only [at_set_ne hik]; exact h1, h2, fun x hx => fails_set h0 hkl (h3 x hx)⟩
  · exact h
theorem Began.pass {c : Contract} {s : State} : ∀ k : Nat, Began c s (pass c s k).1
  | 0 => Began.refl c s
  | k + 1 => by
    rw [pass_succ]
    have h := Began.pass (c := c) (s := s) k
    generalize Es.pass c s k = p at *
    obtain ⟨ms, f⟩ := p
    exact h.step k
theorem Began.trans {c : Contract} {s : State} {ms ms' : List Mark} (h : Began c s ms) (k : Began c { s with marks := ms } ms') : Began c s ms' := by
  refine ⟨k.len.trans h.len, fun i hi hne => ?_, fun i hi he => ?_⟩
  · have h1 := h.old i hi hne
    have := k.old i (by simp only; rw [h.len]; exact hi) (by simp only; rw [h1]; exact hne)
    simp only at this
    rw [this, h1]
  · rcases h.new i hi he with h1 | ⟨h1, h2, h3⟩
    · have he' : (at_ ms (i : Int)).status = 0 := by rw [h1]; exact he
      rcases k.new i (by simp only; rw [h.len]; exact hi) he' with k1 | ⟨k1, k2, k3⟩
      · exact .inl (by simp only at k1; rw [k1, h1])
      · exact .inr ⟨k1, k2, k3⟩
    · have hne : (at_ ms (i : Int)).status ≠ 0 := by rw [h1]; simp [startMark]
      have := k.old i (by simp only; rw [h.len]; exact hi) hne
      simp only at this
      refine .inr ⟨by rw [this, h1], h2, fun x hx => ?_⟩
      have hf := h3 x hx
      unfold fails at hf ⊢
      simp only at hf ⊢
      by_cases hxl : x.clause.toNat < s.marks.length
      · have hcast : at_ ms x.clause = at_ ms (x.clause.toNat : Int) := (at_nn _ _).symm
        have hcast' : at_ ms' x.clause = at_ ms' (x.clause.toNat : Int) := (at_nn _ _).symm
        by_cases hz : (at_ ms x.clause).status = 0
        · rw [hz] at hf
          by_cases h2 : x.is = 2
          · simp [h2] at hf
          · by_cases h3 : x.is = 3
            · simp [h3] at hf
            · by_cases h4 : x.is = 4
              · simp [h4] at hf
              · simp [h2, h3, h4] at hf
        · rw [hcast] at hz
          have := k.old x.clause.toNat (by simp only; rw [h.len]; exact hxl) hz
          simp only at this
          rw [hcast', this, ← hcast]; exact hf
      · have e1 : at_ ms' x.clause = at_ ms x.clause := by
          have h1 := k.len
          have h2 := h.len
          simp only at h1
          simp [at_, List.getD, List.getElem?_eq_none (show ms'.length ≤ x.clause.toNat by omega), List.getElem?_eq_none (show ms.length ≤ x.clause.toNat by omega)]
        rw [e1]; exact hf
theorem pass_false {c : Contract} {s : State} : ∀ k : Nat, (pass c s k).2 = false → (pass c s k).1 = s.marks ∧ ∀ i : Nat, i < k → ready c s (i : Int) = false
  | 0, _ => ⟨rfl, fun i h => by omega⟩
  | k + 1, h => by
    rw [pass_succ] at h ⊢
    unfold stepB at h ⊢
    split at h
    · simp at h
    · rename_i hr
      obtain ⟨h1, h2⟩ := pass_false k h
      rw [if_neg hr]
      refine ⟨h1, fun i hi => ?_⟩
      rcases Nat.lt_or_ge i k with hh | hh
      · exact h2 i hh
      · have : i = k := by omega
        subst this
        rw [h1] at hr
        simpa using hr
theorem beginF_spec {c : Contract} : ∀ (n : Nat) (s : State), s.marks.length = c.clauses.length → idle s.marks < n →
    ∃ ms, beginF n c s = { s with marks := ms } ∧ Began c s ms ∧ ∀ i : Nat, i < c.clauses.length → ready c { s with marks := ms } (i : Int) = false
  | 0, s, _, h => by omega
  | n + 1, s, hl, h => by
    simp only [beginF]
    have hp := pass_idle c s c.clauses.length (by omega)
    have hb := Began.pass (c := c) (s := s) c.clauses.length
    split
    · rename_i hq
      rw [if_pos hq] at hp
      obtain ⟨ms, h1, h2, h3⟩ := beginF_spec (c := c) n { s with marks := (pass c s c.clauses.length).1 } (by simp only; omega) (by simp only; omega)
      exact ⟨ms, h1, hb.trans h2, h3⟩
    · rename_i hq
      obtain ⟨h1, h2⟩ := pass_false c.clauses.length (by simpa using hq)
      exact ⟨_, rfl, hb, by rw [h1]; exact h2⟩
theorem begin_spec {c : Contract} {s : State} (hl : s.marks.length = c.clauses.length) :
    ∃ ms, begin_ c s = { s with marks := ms } ∧ Began c s ms ∧ ∀ i : Nat, i < c.clauses.length → ready c { s with marks := ms } (i : Int) = false := beginF_spec _ s hl (Nat.lt_succ_self _)
theorem pass_none {c : Contract} {s : State} : ∀ k : Nat, (∀ i : Nat, i < k → ready c s (i : Int) = false) → pass c s k = (s.marks, false)
  | 0, _ => rfl
  | k + 1, h => by
    rw [pass_succ, pass_none k fun i hi => h i (by omega)]
    unfold stepB
    rw [if_neg (by simpa using h k (by omega))]
/-- Where nothing can start, nothing does. -/
theorem begin_none {c : Contract} {s : State} (h : ∀ i : Nat, i < c.clauses.length → ready c s (i : Int) = false) : begin_ c s = s := by
  unfold begin_
  simp only [beginF, pass_none _ h, Bool.false_eq_true, if_false]
theorem role_party {c : Contract} {s : State} (hl : s.holders.length = c.holders.length) (hp : ∀ p ∈ s.holders, 0 ≤ p ∧ p < c.parties) {r : Int} (h : 0 ≤ r ∧ r < len c.holders) : 0 ≤ at_ s.holders r ∧ at_ s.holders r < c.parties := by
  have : at_ s.holders r = at_ s.holders (r.toNat : Int) := (at_nn _ _).symm
  rw [this]
  exact hp _ (at_mem (by have := h.2; simp only [len] at this; omega))
theorem Core.began {c : Contract} {s : State} (h : Core c s) {ms : List Mark} (hb : Began c s ms) : Core c { s with marks := ms } := by
  have hv := valid2_ok h.con
  refine ⟨h.con, h.day, h.hl, h.ul, hb.len.trans h.ml, h.holders, h.used, fun i hi => ?_⟩
  have hi' : i < s.marks.length := by rw [← hb.len]; exact hi
  have hc := hv.clause i (by rw [← h.ml]; exact hi')
  simp only
  by_cases h0 : (at_ s.marks (i : Int)).status = 0
  · rcases hb.new i hi' h0 with h1 | ⟨h1, h2, _⟩
    · rw [h1]; exact h.marks i hi'
    · rw [h1]
      have ha := hc.after
      have hn := hc.need
      by_cases hk : (at_ c.clauses (i : Int)).kind = 4
      · unfold wellFormed startMark; simp [hk, h2]; omega
      · have hr := role_party h.hl h.holders (hc.role hk)
        unfold wellFormed startMark party; simp [hk, h2]; omega
  · rw [hb.old i hi' h0]; exact h.marks i hi'
theorem Core.begin {c : Contract} {s : State} (h : Core c s) : sValid c (begin_ c s) = true := by
  obtain ⟨ms, h1, h2, h3⟩ := begin_spec (c := c) (s := s) h.ml
  rw [h1, sValid_iff]
  exact ⟨h.began h2, fun i hi => h3 i (by rw [← h.ml, ← h2.len]; exact hi)⟩
end Es
end
