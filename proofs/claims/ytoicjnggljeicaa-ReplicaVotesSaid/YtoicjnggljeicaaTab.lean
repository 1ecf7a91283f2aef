/- By program (gentab.py): the table of types, and that it is the program's. -/
import Derived.Test.YtoicjnggljeicaaProg
import Derived.Test.YtoicjnggljeicaaEc
import Derived.KernelRfl
namespace Go.Proofs.Ytoicjnggljeicaa
open Go Go.Ev

def ti2 : TI := (TI.mk (Ty.int IntKind.i64) 1 8 (some [(Value.int IntKind.i64 0)]) true)
def ti3 : TI := (TI.mk (Ty.int IntKind.i64) 1 8 (some [(Value.int IntKind.i64 0)]) true)
def ti4 : TI := (TI.mk Ty.bool 1 1 (some [(Value.bool false)]) true)
def ti5 : TI := (TI.mk (Ty.int IntKind.u8) 1 1 (some [(Value.int IntKind.u8 0)]) true)
def ti6 : TI := (TI.mk (Ty.int IntKind.u8) 1 1 (some [(Value.int IntKind.u8 0)]) true)
def ti7 : TI := (TI.mk (Ty.struct [(0, 2), (1, 3), (2, 4), (3, 6)]) 4 24 (some [(Value.int IntKind.i64 0), (Value.int IntKind.i64 0), (Value.bool false), (Value.int IntKind.u8 0)]) true)
def ti8 : TI := (TI.mk (Ty.struct [(0, 2), (1, 3), (2, 4), (3, 6)]) 4 24 (some [(Value.int IntKind.i64 0), (Value.int IntKind.i64 0), (Value.bool false), (Value.int IntKind.u8 0)]) true)
def ti9 : TI := (TI.mk Ty.str 1 16 (some [(Value.string (ByteArray.mk (Array.mk [])))]) true)
def ti10 : TI := (TI.mk Ty.str 1 16 (some [(Value.string (ByteArray.mk (Array.mk [])))]) true)
def ti11 : TI := (TI.mk Ty.str 1 16 (some [(Value.string (ByteArray.mk (Array.mk [])))]) true)
def ti12 : TI := (TI.mk (Ty.int IntKind.u64) 1 8 (some [(Value.int IntKind.u64 0)]) true)
def ti13 : TI := (TI.mk (Ty.struct [(0, 9), (1, 12)]) 2 24 (some [(Value.string (ByteArray.mk (Array.mk []))), (Value.int IntKind.u64 0)]) false)
def ti14 : TI := (TI.mk (Ty.struct [(0, 9), (1, 12)]) 2 24 (some [(Value.string (ByteArray.mk (Array.mk []))), (Value.int IntKind.u64 0)]) false)
def ti15 : TI := (TI.mk (Ty.ptr 108) 1 8 (some [(Value.pointer none)]) true)
def ti16 : TI := (TI.mk (Ty.ptr 111) 1 8 (some [(Value.pointer none)]) true)
def ti17 : TI := (TI.mk (Ty.ptr 121) 1 8 (some [(Value.pointer none)]) true)
def ti18 : TI := (TI.mk (Ty.struct [(0, 17)]) 1 8 (some [(Value.pointer none)]) false)
def ti19 : TI := (TI.mk (Ty.struct [(0, 17)]) 1 8 (some [(Value.pointer none)]) false)
def ti21 : TI := (TI.mk (Ty.int IntKind.i32) 1 4 (some [(Value.int IntKind.i32 0)]) true)
def ti22 : TI := (TI.mk (Ty.slice 3) 1 24 (some [(Value.slice none 0 0)]) true)
def ti24 : TI := (TI.mk (Ty.slice 32) 1 24 (some [(Value.slice none 0 0)]) true)
def ti25 : TI := (TI.mk (Ty.array 3 4) 3 3 (some [(Value.bool false), (Value.bool false), (Value.bool false)]) true)
def ti26 : TI := (TI.mk (Ty.array 3 3) 3 24 (some [(Value.int IntKind.i64 0), (Value.int IntKind.i64 0), (Value.int IntKind.i64 0)]) true)
def ti27 : TI := (TI.mk (Ty.struct [(0, 3), (1, 3), (2, 3), (3, 3), (4, 3), (5, 9), (6, 24), (7, 3), (8, 3), (9, 3), (10, 25), (13, 26), (16, 26)]) 19 160 (some [(Value.int IntKind.i64 0), (Value.int IntKind.i64 0), (Value.int IntKind.i64 0), (Value.int IntKind.i64 0), (Value.int IntKind.i64 0), (Value.string (ByteArray.mk (Array.mk []))), (Value.slice none 0 0), (Value.int IntKind.i64 0), (Value.int IntKind.i64 0), (Value.int IntKind.i64 0), (Value.bool false), (Value.bool false), (Value.bool false), (Value.int IntKind.i64 0), (Value.int IntKind.i64 0), (Value.int IntKind.i64 0), (Value.int IntKind.i64 0), (Value.int IntKind.i64 0), (Value.int IntKind.i64 0)]) true)
def ti28 : TI := (TI.mk (Ty.struct [(0, 3), (1, 3), (2, 3), (3, 3), (4, 3), (5, 9), (6, 24), (7, 3), (8, 3), (9, 3), (10, 25), (13, 26), (16, 26)]) 19 160 (some [(Value.int IntKind.i64 0), (Value.int IntKind.i64 0), (Value.int IntKind.i64 0), (Value.int IntKind.i64 0), (Value.int IntKind.i64 0), (Value.string (ByteArray.mk (Array.mk []))), (Value.slice none 0 0), (Value.int IntKind.i64 0), (Value.int IntKind.i64 0), (Value.int IntKind.i64 0), (Value.bool false), (Value.bool false), (Value.bool false), (Value.int IntKind.i64 0), (Value.int IntKind.i64 0), (Value.int IntKind.i64 0), (Value.int IntKind.i64 0), (Value.int IntKind.i64 0), (Value.int IntKind.i64 0)]) true)
def ti31 : TI := (TI.mk (Ty.struct [(0, 3), (1, 9)]) 2 24 (some [(Value.int IntKind.i64 0), (Value.string (ByteArray.mk (Array.mk [])))]) true)
def ti32 : TI := (TI.mk (Ty.struct [(0, 3), (1, 9)]) 2 24 (some [(Value.int IntKind.i64 0), (Value.string (ByteArray.mk (Array.mk [])))]) true)
def ti35 : TI := (TI.mk (Ty.slice 39) 1 24 (some [(Value.slice none 0 0)]) true)
def ti38 : TI := (TI.mk (Ty.struct [(0, 3), (1, 3), (2, 3), (3, 3), (4, 3), (5, 3), (6, 3), (7, 4), (8, 24), (9, 9)]) 10 104 (some [(Value.int IntKind.i64 0), (Value.int IntKind.i64 0), (Value.int IntKind.i64 0), (Value.int IntKind.i64 0), (Value.int IntKind.i64 0), (Value.int IntKind.i64 0), (Value.int IntKind.i64 0), (Value.bool false), (Value.slice none 0 0), (Value.string (ByteArray.mk (Array.mk [])))]) true)
def ti39 : TI := (TI.mk (Ty.struct [(0, 3), (1, 3), (2, 3), (3, 3), (4, 3), (5, 3), (6, 3), (7, 4), (8, 24), (9, 9)]) 10 104 (some [(Value.int IntKind.i64 0), (Value.int IntKind.i64 0), (Value.int IntKind.i64 0), (Value.int IntKind.i64 0), (Value.int IntKind.i64 0), (Value.int IntKind.i64 0), (Value.int IntKind.i64 0), (Value.bool false), (Value.slice none 0 0), (Value.string (ByteArray.mk (Array.mk [])))]) true)
def ti41 : TI := (TI.mk (Ty.int IntKind.i64) 1 8 (some [(Value.int IntKind.i64 0)]) true)
def ti52 : TI := (TI.mk (Ty.slice 58) 1 24 (some [(Value.slice none 0 0)]) true)
def ti54 : TI := (TI.mk (Ty.ptr 61) 1 8 (some [(Value.pointer none)]) true)
def ti57 : TI := (TI.mk (Ty.struct [(0, 3), (1, 3), (2, 3), (3, 9)]) 4 40 (some [(Value.int IntKind.i64 0), (Value.int IntKind.i64 0), (Value.int IntKind.i64 0), (Value.string (ByteArray.mk (Array.mk [])))]) true)
def ti58 : TI := (TI.mk (Ty.struct [(0, 3), (1, 3), (2, 3), (3, 9)]) 4 40 (some [(Value.int IntKind.i64 0), (Value.int IntKind.i64 0), (Value.int IntKind.i64 0), (Value.string (ByteArray.mk (Array.mk [])))]) true)
def ti59 : TI := (TI.mk (Ty.array 3 28) 57 480 (some [(Value.int IntKind.i64 0), (Value.int IntKind.i64 0), (Value.int IntKind.i64 0), (Value.int IntKind.i64 0), (Value.int IntKind.i64 0), (Value.string (ByteArray.mk (Array.mk []))), (Value.slice none 0 0), (Value.int IntKind.i64 0), (Value.int IntKind.i64 0), (Value.int IntKind.i64 0), (Value.bool false), (Value.bool false), (Value.bool false), (Value.int IntKind.i64 0), (Value.int IntKind.i64 0), (Value.int IntKind.i64 0), (Value.int IntKind.i64 0), (Value.int IntKind.i64 0), (Value.int IntKind.i64 0), (Value.int IntKind.i64 0), (Value.int IntKind.i64 0), (Value.int IntKind.i64 0), (Value.int IntKind.i64 0), (Value.int IntKind.i64 0), (Value.string (ByteArray.mk (Array.mk []))), (Value.slice none 0 0), (Value.int IntKind.i64 0), (Value.int IntKind.i64 0), (Value.int IntKind.i64 0), (Value.bool false), (Value.bool false), (Value.bool false), (Value.int IntKind.i64 0), (Value.int IntKind.i64 0), (Value.int IntKind.i64 0), (Value.int IntKind.i64 0), (Value.int IntKind.i64 0), (Value.int IntKind.i64 0), (Value.int IntKind.i64 0), (Value.int IntKind.i64 0), (Value.int IntKind.i64 0), (Value.int IntKind.i64 0), (Value.int IntKind.i64 0), (Value.string (ByteArray.mk (Array.mk []))), (Value.slice none 0 0), (Value.int IntKind.i64 0), (Value.int IntKind.i64 0), (Value.int IntKind.i64 0), (Value.bool false), (Value.bool false), (Value.bool false), (Value.int IntKind.i64 0), (Value.int IntKind.i64 0), (Value.int IntKind.i64 0), (Value.int IntKind.i64 0), (Value.int IntKind.i64 0), (Value.int IntKind.i64 0)]) true)
def ti60 : TI := (TI.mk (Ty.struct [(0, 59), (57, 35)]) 58 504 (some [(Value.int IntKind.i64 0), (Value.int IntKind.i64 0), (Value.int IntKind.i64 0), (Value.int IntKind.i64 0), (Value.int IntKind.i64 0), (Value.string (ByteArray.mk (Array.mk []))), (Value.slice none 0 0), (Value.int IntKind.i64 0), (Value.int IntKind.i64 0), (Value.int IntKind.i64 0), (Value.bool false), (Value.bool false), (Value.bool false), (Value.int IntKind.i64 0), (Value.int IntKind.i64 0), (Value.int IntKind.i64 0), (Value.int IntKind.i64 0), (Value.int IntKind.i64 0), (Value.int IntKind.i64 0), (Value.int IntKind.i64 0), (Value.int IntKind.i64 0), (Value.int IntKind.i64 0), (Value.int IntKind.i64 0), (Value.int IntKind.i64 0), (Value.string (ByteArray.mk (Array.mk []))), (Value.slice none 0 0), (Value.int IntKind.i64 0), (Value.int IntKind.i64 0), (Value.int IntKind.i64 0), (Value.bool false), (Value.bool false), (Value.bool false), (Value.int IntKind.i64 0), (Value.int IntKind.i64 0), (Value.int IntKind.i64 0), (Value.int IntKind.i64 0), (Value.int IntKind.i64 0), (Value.int IntKind.i64 0), (Value.int IntKind.i64 0), (Value.int IntKind.i64 0), (Value.int IntKind.i64 0), (Value.int IntKind.i64 0), (Value.int IntKind.i64 0), (Value.string (ByteArray.mk (Array.mk []))), (Value.slice none 0 0), (Value.int IntKind.i64 0), (Value.int IntKind.i64 0), (Value.int IntKind.i64 0), (Value.bool false), (Value.bool false), (Value.bool false), (Value.int IntKind.i64 0), (Value.int IntKind.i64 0), (Value.int IntKind.i64 0), (Value.int IntKind.i64 0), (Value.int IntKind.i64 0), (Value.int IntKind.i64 0), (Value.slice none 0 0)]) true)
def ti61 : TI := (TI.mk (Ty.struct [(0, 59), (57, 35)]) 58 504 (some [(Value.int IntKind.i64 0), (Value.int IntKind.i64 0), (Value.int IntKind.i64 0), (Value.int IntKind.i64 0), (Value.int IntKind.i64 0), (Value.string (ByteArray.mk (Array.mk []))), (Value.slice none 0 0), (Value.int IntKind.i64 0), (Value.int IntKind.i64 0), (Value.int IntKind.i64 0), (Value.bool false), (Value.bool false), (Value.bool false), (Value.int IntKind.i64 0), (Value.int IntKind.i64 0), (Value.int IntKind.i64 0), (Value.int IntKind.i64 0), (Value.int IntKind.i64 0), (Value.int IntKind.i64 0), (Value.int IntKind.i64 0), (Value.int IntKind.i64 0), (Value.int IntKind.i64 0), (Value.int IntKind.i64 0), (Value.int IntKind.i64 0), (Value.string (ByteArray.mk (Array.mk []))), (Value.slice none 0 0), (Value.int IntKind.i64 0), (Value.int IntKind.i64 0), (Value.int IntKind.i64 0), (Value.bool false), (Value.bool false), (Value.bool false), (Value.int IntKind.i64 0), (Value.int IntKind.i64 0), (Value.int IntKind.i64 0), (Value.int IntKind.i64 0), (Value.int IntKind.i64 0), (Value.int IntKind.i64 0), (Value.int IntKind.i64 0), (Value.int IntKind.i64 0), (Value.int IntKind.i64 0), (Value.int IntKind.i64 0), (Value.int IntKind.i64 0), (Value.string (ByteArray.mk (Array.mk []))), (Value.slice none 0 0), (Value.int IntKind.i64 0), (Value.int IntKind.i64 0), (Value.int IntKind.i64 0), (Value.bool false), (Value.bool false), (Value.bool false), (Value.int IntKind.i64 0), (Value.int IntKind.i64 0), (Value.int IntKind.i64 0), (Value.int IntKind.i64 0), (Value.int IntKind.i64 0), (Value.int IntKind.i64 0), (Value.slice none 0 0)]) true)
def ti65 : TI := (TI.mk (Ty.ptr 68) 1 8 (some [(Value.pointer none)]) true)
def ti67 : TI := (TI.mk (Ty.struct [(0, 28), (19, 35)]) 20 184 (some [(Value.int IntKind.i64 0), (Value.int IntKind.i64 0), (Value.int IntKind.i64 0), (Value.int IntKind.i64 0), (Value.int IntKind.i64 0), (Value.string (ByteArray.mk (Array.mk []))), (Value.slice none 0 0), (Value.int IntKind.i64 0), (Value.int IntKind.i64 0), (Value.int IntKind.i64 0), (Value.bool false), (Value.bool false), (Value.bool false), (Value.int IntKind.i64 0), (Value.int IntKind.i64 0), (Value.int IntKind.i64 0), (Value.int IntKind.i64 0), (Value.int IntKind.i64 0), (Value.int IntKind.i64 0), (Value.slice none 0 0)]) true)
def ti68 : TI := (TI.mk (Ty.struct [(0, 28), (19, 35)]) 20 184 (some [(Value.int IntKind.i64 0), (Value.int IntKind.i64 0), (Value.int IntKind.i64 0), (Value.int IntKind.i64 0), (Value.int IntKind.i64 0), (Value.string (ByteArray.mk (Array.mk []))), (Value.slice none 0 0), (Value.int IntKind.i64 0), (Value.int IntKind.i64 0), (Value.int IntKind.i64 0), (Value.bool false), (Value.bool false), (Value.bool false), (Value.int IntKind.i64 0), (Value.int IntKind.i64 0), (Value.int IntKind.i64 0), (Value.int IntKind.i64 0), (Value.int IntKind.i64 0), (Value.int IntKind.i64 0), (Value.slice none 0 0)]) true)
def ti74 : TI := (TI.mk (Ty.slice 5) 1 24 (some [(Value.slice none 0 0)]) true)
def ti76 : TI := (TI.mk (Ty.slice 98) 1 24 (some [(Value.slice none 0 0)]) true)
def ti77 : TI := (TI.mk (Ty.struct [(0, 3), (1, 3), (2, 3), (3, 3), (4, 3), (5, 9), (6, 76), (7, 3), (8, 3), (9, 3), (10, 25), (13, 26), (16, 26)]) 19 160 (some [(Value.int IntKind.i64 0), (Value.int IntKind.i64 0), (Value.int IntKind.i64 0), (Value.int IntKind.i64 0), (Value.int IntKind.i64 0), (Value.string (ByteArray.mk (Array.mk []))), (Value.slice none 0 0), (Value.int IntKind.i64 0), (Value.int IntKind.i64 0), (Value.int IntKind.i64 0), (Value.bool false), (Value.bool false), (Value.bool false), (Value.int IntKind.i64 0), (Value.int IntKind.i64 0), (Value.int IntKind.i64 0), (Value.int IntKind.i64 0), (Value.int IntKind.i64 0), (Value.int IntKind.i64 0)]) true)
def ti78 : TI := (TI.mk (Ty.struct [(0, 3), (1, 3), (2, 3), (3, 3), (4, 3), (5, 9), (6, 76), (7, 3), (8, 3), (9, 3), (10, 25), (13, 26), (16, 26)]) 19 160 (some [(Value.int IntKind.i64 0), (Value.int IntKind.i64 0), (Value.int IntKind.i64 0), (Value.int IntKind.i64 0), (Value.int IntKind.i64 0), (Value.string (ByteArray.mk (Array.mk []))), (Value.slice none 0 0), (Value.int IntKind.i64 0), (Value.int IntKind.i64 0), (Value.int IntKind.i64 0), (Value.bool false), (Value.bool false), (Value.bool false), (Value.int IntKind.i64 0), (Value.int IntKind.i64 0), (Value.int IntKind.i64 0), (Value.int IntKind.i64 0), (Value.int IntKind.i64 0), (Value.int IntKind.i64 0)]) true)
def ti80 : TI := (TI.mk (Ty.slice 86) 1 24 (some [(Value.slice none 0 0)]) true)
def ti85 : TI := (TI.mk (Ty.struct [(0, 3), (1, 3), (2, 3), (3, 3), (4, 3), (5, 3), (6, 3), (7, 4), (8, 76), (9, 9)]) 10 104 (some [(Value.int IntKind.i64 0), (Value.int IntKind.i64 0), (Value.int IntKind.i64 0), (Value.int IntKind.i64 0), (Value.int IntKind.i64 0), (Value.int IntKind.i64 0), (Value.int IntKind.i64 0), (Value.bool false), (Value.slice none 0 0), (Value.string (ByteArray.mk (Array.mk [])))]) true)
def ti86 : TI := (TI.mk (Ty.struct [(0, 3), (1, 3), (2, 3), (3, 3), (4, 3), (5, 3), (6, 3), (7, 4), (8, 76), (9, 9)]) 10 104 (some [(Value.int IntKind.i64 0), (Value.int IntKind.i64 0), (Value.int IntKind.i64 0), (Value.int IntKind.i64 0), (Value.int IntKind.i64 0), (Value.int IntKind.i64 0), (Value.int IntKind.i64 0), (Value.bool false), (Value.slice none 0 0), (Value.string (ByteArray.mk (Array.mk [])))]) true)
def ti95 : TI := (TI.mk (Ty.ptr 28) 1 8 (some [(Value.pointer none)]) true)
def ti98 : TI := (TI.mk (Ty.struct [(0, 3), (1, 9)]) 2 24 (some [(Value.int IntKind.i64 0), (Value.string (ByteArray.mk (Array.mk [])))]) true)
def ti107 : TI := (TI.mk (Ty.struct [(0, 17), (1, 17), (2, 17), (3, 9)]) 4 40 (some [(Value.pointer none), (Value.pointer none), (Value.pointer none), (Value.string (ByteArray.mk (Array.mk [])))]) false)
def ti108 : TI := (TI.mk (Ty.struct [(0, 17), (1, 17), (2, 17), (3, 9)]) 4 40 (some [(Value.pointer none), (Value.pointer none), (Value.pointer none), (Value.string (ByteArray.mk (Array.mk [])))]) false)
def ti109 : TI := (TI.mk (Ty.array 0 16) 0 0 (some []) true)
def tabs : List (Nat × TI) := [(2, ti2), (3, ti3), (4, ti4), (5, ti5), (6, ti6), (7, ti7), (8, ti8), (9, ti9), (10, ti10), (11, ti11), (12, ti12), (13, ti13), (14, ti14), (15, ti15), (16, ti16), (17, ti17), (18, ti18), (19, ti19), (21, ti21), (22, ti22), (24, ti24), (25, ti25), (26, ti26), (27, ti27), (28, ti28), (31, ti31), (32, ti32), (35, ti35), (38, ti38), (39, ti39), (41, ti41), (52, ti52), (54, ti54), (57, ti57), (58, ti58), (59, ti59), (60, ti60), (61, ti61), (65, ti65), (67, ti67), (68, ti68), (74, ti74), (76, ti76), (77, ti77), (78, ti78), (80, ti80), (85, ti85), (86, ti86), (95, ti95), (98, ti98), (107, ti107), (108, ti108), (109, ti109)]
def tab : Tab := fun t => Ev.look tabs t
theorem tab2_is : tab 2 = some ti2 := by kernel_rfl
theorem tab3_is : tab 3 = some ti3 := by kernel_rfl
theorem tab4_is : tab 4 = some ti4 := by kernel_rfl
theorem tab5_is : tab 5 = some ti5 := by kernel_rfl
theorem tab6_is : tab 6 = some ti6 := by kernel_rfl
theorem tab7_is : tab 7 = some ti7 := by kernel_rfl
theorem tab8_is : tab 8 = some ti8 := by kernel_rfl
theorem tab9_is : tab 9 = some ti9 := by kernel_rfl
theorem tab10_is : tab 10 = some ti10 := by kernel_rfl
theorem tab11_is : tab 11 = some ti11 := by kernel_rfl
theorem tab12_is : tab 12 = some ti12 := by kernel_rfl
theorem tab13_is : tab 13 = some ti13 := by kernel_rfl
theorem tab14_is : tab 14 = some ti14 := by kernel_rfl
theorem tab15_is : tab 15 = some ti15 := by kernel_rfl
theorem tab16_is : tab 16 = some ti16 := by kernel_rfl
theorem tab17_is : tab 17 = some ti17 := by kernel_rfl
theorem tab18_is : tab 18 = some ti18 := by kernel_rfl
theorem tab19_is : tab 19 = some ti19 := by kernel_rfl
theorem tab21_is : tab 21 = some ti21 := by kernel_rfl
theorem tab22_is : tab 22 = some ti22 := by kernel_rfl
theorem tab24_is : tab 24 = some ti24 := by kernel_rfl
theorem tab25_is : tab 25 = some ti25 := by kernel_rfl
theorem tab26_is : tab 26 = some ti26 := by kernel_rfl
theorem tab27_is : tab 27 = some ti27 := by kernel_rfl
theorem tab28_is : tab 28 = some ti28 := by kernel_rfl
theorem tab31_is : tab 31 = some ti31 := by kernel_rfl
theorem tab32_is : tab 32 = some ti32 := by kernel_rfl
theorem tab35_is : tab 35 = some ti35 := by kernel_rfl
theorem tab38_is : tab 38 = some ti38 := by kernel_rfl
theorem tab39_is : tab 39 = some ti39 := by kernel_rfl
theorem tab41_is : tab 41 = some ti41 := by kernel_rfl
theorem tab52_is : tab 52 = some ti52 := by kernel_rfl
theorem tab54_is : tab 54 = some ti54 := by kernel_rfl
theorem tab57_is : tab 57 = some ti57 := by kernel_rfl
theorem tab58_is : tab 58 = some ti58 := by kernel_rfl
theorem tab59_is : tab 59 = some ti59 := by kernel_rfl
theorem tab60_is : tab 60 = some ti60 := by kernel_rfl
theorem tab61_is : tab 61 = some ti61 := by kernel_rfl
theorem tab65_is : tab 65 = some ti65 := by kernel_rfl
theorem tab67_is : tab 67 = some ti67 := by kernel_rfl
theorem tab68_is : tab 68 = some ti68 := by kernel_rfl
theorem tab74_is : tab 74 = some ti74 := by kernel_rfl
theorem tab76_is : tab 76 = some ti76 := by kernel_rfl
theorem tab77_is : tab 77 = some ti77 := by kernel_rfl
theorem tab78_is : tab 78 = some ti78 := by kernel_rfl
theorem tab80_is : tab 80 = some ti80 := by kernel_rfl
theorem tab85_is : tab 85 = some ti85 := by kernel_rfl
theorem tab86_is : tab 86 = some ti86 := by kernel_rfl
theorem tab95_is : tab 95 = some ti95 := by kernel_rfl
theorem tab98_is : tab 98 = some ti98 := by kernel_rfl
theorem tab107_is : tab 107 = some ti107 := by kernel_rfl
theorem tab108_is : tab 108 = some ti108 := by kernel_rfl
theorem tab109_is : tab 109 = some ti109 := by kernel_rfl
theorem tabs_are : tabs.map (fun p => tiOf Try.prog p.1) = tabs.map (fun p => some p.2) := by kernel_rfl
theorem tabOK : TabOK Try.prog tab := by
  intro t i h
  have hm := look_mem h
  obtain ⟨n, hn, hx⟩ := List.getElem_of_mem hm
  have h1 := congrArg (fun l => l[n]?) tabs_are
  simp only [List.getElem?_map, List.getElem?_eq_getElem hn, hx, Option.map_some, Option.some.injEq] at h1
  exact h1
end Go.Proofs.Ytoicjnggljeicaa
