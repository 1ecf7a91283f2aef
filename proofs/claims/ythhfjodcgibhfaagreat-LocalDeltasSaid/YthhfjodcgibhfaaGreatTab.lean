/- By program (gentab.py): the table of types, and that it is the program's. -/
import Derived.Test.YthhfjodcgibhfaaGreatProg
import Derived.Test.YthhfjodcgibhfaaGreatEd
import Derived.KernelRfl
namespace Go.Proofs.YthhfjodcgibhfaaGreat
open Go Go.Ev

def ti0 : TI := (TI.mk Ty.other 1 0 (some [(Value.tuple (Array.mk []))]) true)
def ti1 : TI := (TI.mk Ty.other 1 8 (some [Value.nilFunc]) true)
def ti2 : TI := (TI.mk (Ty.int IntKind.i64) 1 8 (some [(Value.int IntKind.i64 0)]) true)
def ti3 : TI := (TI.mk (Ty.int IntKind.i64) 1 8 (some [(Value.int IntKind.i64 0)]) true)
def ti4 : TI := (TI.mk Ty.bool 1 1 (some [(Value.bool false)]) true)
def ti5 : TI := (TI.mk (Ty.int IntKind.u8) 1 1 (some [(Value.int IntKind.u8 0)]) true)
def ti6 : TI := (TI.mk (Ty.int IntKind.u8) 1 1 (some [(Value.int IntKind.u8 0)]) true)
def ti7 : TI := (TI.mk (Ty.struct [(0, 2), (1, 3), (2, 4), (3, 6)]) 4 24 (some [(Value.int IntKind.i64 0), (Value.int IntKind.i64 0), (Value.bool false), (Value.int IntKind.u8 0)]) true)
def ti8 : TI := (TI.mk (Ty.struct [(0, 2), (1, 3), (2, 4), (3, 6)]) 4 24 (some [(Value.int IntKind.i64 0), (Value.int IntKind.i64 0), (Value.bool false), (Value.int IntKind.u8 0)]) true)
def ti9 : TI := (TI.mk Ty.str 1 16 (some [(Value.string (ByteArray.mk (Array.mk [])))]) true)
def ti10 : TI := (TI.mk Ty.str 1 16 (some [(Value.string (ByteArray.mk (Array.mk [])))]) true)
def ti11 : TI := (TI.mk Ty.str 1 16 (some [(Value.string (ByteArray.mk (Array.mk [])))]) true)
def ti12 : TI := (TI.mk (Ty.int IntKind.u64) 1 8 (some [(Value.int IntKind.u64 0)]) true)
def ti13 : TI := (TI.mk (Ty.struct [(0, 9), (1, 12)]) 2 24 (some [(Value.string (ByteArray.mk (Array.mk []))), (Value.int IntKind.u64 0)]) false)
def ti14 : TI := (TI.mk (Ty.struct [(0, 9), (1, 12)]) 2 24 (some [(Value.string (ByteArray.mk (Array.mk []))), (Value.int IntKind.u64 0)]) false)
def ti15 : TI := (TI.mk (Ty.ptr 201) 1 8 (some [(Value.pointer none)]) true)
def ti16 : TI := (TI.mk (Ty.ptr 204) 1 8 (some [(Value.pointer none)]) true)
def ti17 : TI := (TI.mk (Ty.ptr 214) 1 8 (some [(Value.pointer none)]) true)
def ti18 : TI := (TI.mk (Ty.struct [(0, 17)]) 1 8 (some [(Value.pointer none)]) false)
def ti19 : TI := (TI.mk (Ty.struct [(0, 17)]) 1 8 (some [(Value.pointer none)]) false)
def ti20 : TI := (TI.mk Ty.other 1 16 (some [Value.nilIface]) true)
def ti21 : TI := (TI.mk (Ty.int IntKind.i32) 1 4 (some [(Value.int IntKind.i32 0)]) true)
def ti22 : TI := (TI.mk Ty.other 1 8 (some [Value.nilFunc]) true)
def ti23 : TI := (TI.mk (Ty.slice 62) 1 24 (some [(Value.slice none 0 0)]) true)
def ti24 : TI := (TI.mk (Ty.slice 98) 1 24 (some [(Value.slice none 0 0)]) true)
def ti25 : TI := (TI.mk (Ty.slice 3) 1 24 (some [(Value.slice none 0 0)]) true)
def ti26 : TI := (TI.mk (Ty.struct [(0, 3), (1, 3), (2, 3), (3, 3), (4, 23), (5, 24), (6, 25)]) 7 104 (some [(Value.int IntKind.i64 0), (Value.int IntKind.i64 0), (Value.int IntKind.i64 0), (Value.int IntKind.i64 0), (Value.slice none 0 0), (Value.slice none 0 0), (Value.slice none 0 0)]) true)
def ti27 : TI := (TI.mk (Ty.struct [(0, 3), (1, 3), (2, 3), (3, 3), (4, 23), (5, 24), (6, 25)]) 7 104 (some [(Value.int IntKind.i64 0), (Value.int IntKind.i64 0), (Value.int IntKind.i64 0), (Value.int IntKind.i64 0), (Value.slice none 0 0), (Value.slice none 0 0), (Value.slice none 0 0)]) true)
def ti28 : TI := (TI.mk (Ty.slice 50) 1 24 (some [(Value.slice none 0 0)]) true)
def ti29 : TI := (TI.mk (Ty.slice 112) 1 24 (some [(Value.slice none 0 0)]) true)
def ti30 : TI := (TI.mk (Ty.slice 103) 1 24 (some [(Value.slice none 0 0)]) true)
def ti31 : TI := (TI.mk (Ty.slice 100) 1 24 (some [(Value.slice none 0 0)]) true)
def ti32 : TI := (TI.mk (Ty.slice 48) 1 24 (some [(Value.slice none 0 0)]) true)
def ti33 : TI := (TI.mk (Ty.slice 118) 1 24 (some [(Value.slice none 0 0)]) true)
def ti34 : TI := (TI.mk (Ty.slice 121) 1 24 (some [(Value.slice none 0 0)]) true)
def ti35 : TI := (TI.mk (Ty.struct [(0, 29), (1, 30), (2, 31), (3, 32), (4, 33), (5, 34)]) 6 144 (some [(Value.slice none 0 0), (Value.slice none 0 0), (Value.slice none 0 0), (Value.slice none 0 0), (Value.slice none 0 0), (Value.slice none 0 0)]) true)
def ti36 : TI := (TI.mk (Ty.struct [(0, 29), (1, 30), (2, 31), (3, 32), (4, 33), (5, 34)]) 6 144 (some [(Value.slice none 0 0), (Value.slice none 0 0), (Value.slice none 0 0), (Value.slice none 0 0), (Value.slice none 0 0), (Value.slice none 0 0)]) true)
def ti37 : TI := (TI.mk (Ty.array 3 36) 18 432 (some [(Value.slice none 0 0), (Value.slice none 0 0), (Value.slice none 0 0), (Value.slice none 0 0), (Value.slice none 0 0), (Value.slice none 0 0), (Value.slice none 0 0), (Value.slice none 0 0), (Value.slice none 0 0), (Value.slice none 0 0), (Value.slice none 0 0), (Value.slice none 0 0), (Value.slice none 0 0), (Value.slice none 0 0), (Value.slice none 0 0), (Value.slice none 0 0), (Value.slice none 0 0), (Value.slice none 0 0)]) true)
def ti38 : TI := (TI.mk (Ty.slice 4) 1 24 (some [(Value.slice none 0 0)]) true)
def ti39 : TI := (TI.mk (Ty.slice 89) 1 24 (some [(Value.slice none 0 0)]) true)
def ti40 : TI := (TI.mk (Ty.struct [(0, 3), (1, 3), (2, 3), (3, 3), (4, 3), (5, 39), (6, 28)]) 7 88 (some [(Value.int IntKind.i64 0), (Value.int IntKind.i64 0), (Value.int IntKind.i64 0), (Value.int IntKind.i64 0), (Value.int IntKind.i64 0), (Value.slice none 0 0), (Value.slice none 0 0)]) true)
def ti41 : TI := (TI.mk (Ty.struct [(0, 3), (1, 3), (2, 3), (3, 3), (4, 3), (5, 39), (6, 28)]) 7 88 (some [(Value.int IntKind.i64 0), (Value.int IntKind.i64 0), (Value.int IntKind.i64 0), (Value.int IntKind.i64 0), (Value.int IntKind.i64 0), (Value.slice none 0 0), (Value.slice none 0 0)]) true)
def ti42 : TI := (TI.mk (Ty.struct [(0, 3), (1, 3), (2, 27), (9, 3), (10, 3), (11, 3), (12, 28), (13, 37), (31, 3), (32, 3), (33, 38), (34, 3), (35, 3), (36, 41), (43, 4), (44, 3)]) 45 760 (some [(Value.int IntKind.i64 0), (Value.int IntKind.i64 0), (Value.int IntKind.i64 0), (Value.int IntKind.i64 0), (Value.int IntKind.i64 0), (Value.int IntKind.i64 0), (Value.slice none 0 0), (Value.slice none 0 0), (Value.slice none 0 0), (Value.int IntKind.i64 0), (Value.int IntKind.i64 0), (Value.int IntKind.i64 0), (Value.slice none 0 0), (Value.slice none 0 0), (Value.slice none 0 0), (Value.slice none 0 0), (Value.slice none 0 0), (Value.slice none 0 0), (Value.slice none 0 0), (Value.slice none 0 0), (Value.slice none 0 0), (Value.slice none 0 0), (Value.slice none 0 0), (Value.slice none 0 0), (Value.slice none 0 0), (Value.slice none 0 0), (Value.slice none 0 0), (Value.slice none 0 0), (Value.slice none 0 0), (Value.slice none 0 0), (Value.slice none 0 0), (Value.int IntKind.i64 0), (Value.int IntKind.i64 0), (Value.slice none 0 0), (Value.int IntKind.i64 0), (Value.int IntKind.i64 0), (Value.int IntKind.i64 0), (Value.int IntKind.i64 0), (Value.int IntKind.i64 0), (Value.int IntKind.i64 0), (Value.int IntKind.i64 0), (Value.slice none 0 0), (Value.slice none 0 0), (Value.bool false), (Value.int IntKind.i64 0)]) true)
def ti43 : TI := (TI.mk (Ty.struct [(0, 3), (1, 3), (2, 27), (9, 3), (10, 3), (11, 3), (12, 28), (13, 37), (31, 3), (32, 3), (33, 38), (34, 3), (35, 3), (36, 41), (43, 4), (44, 3)]) 45 760 (some [(Value.int IntKind.i64 0), (Value.int IntKind.i64 0), (Value.int IntKind.i64 0), (Value.int IntKind.i64 0), (Value.int IntKind.i64 0), (Value.int IntKind.i64 0), (Value.slice none 0 0), (Value.slice none 0 0), (Value.slice none 0 0), (Value.int IntKind.i64 0), (Value.int IntKind.i64 0), (Value.int IntKind.i64 0), (Value.slice none 0 0), (Value.slice none 0 0), (Value.slice none 0 0), (Value.slice none 0 0), (Value.slice none 0 0), (Value.slice none 0 0), (Value.slice none 0 0), (Value.slice none 0 0), (Value.slice none 0 0), (Value.slice none 0 0), (Value.slice none 0 0), (Value.slice none 0 0), (Value.slice none 0 0), (Value.slice none 0 0), (Value.slice none 0 0), (Value.slice none 0 0), (Value.slice none 0 0), (Value.slice none 0 0), (Value.slice none 0 0), (Value.int IntKind.i64 0), (Value.int IntKind.i64 0), (Value.slice none 0 0), (Value.int IntKind.i64 0), (Value.int IntKind.i64 0), (Value.int IntKind.i64 0), (Value.int IntKind.i64 0), (Value.int IntKind.i64 0), (Value.int IntKind.i64 0), (Value.int IntKind.i64 0), (Value.slice none 0 0), (Value.slice none 0 0), (Value.bool false), (Value.int IntKind.i64 0)]) true)
def ti44 : TI := (TI.mk (Ty.int IntKind.i64) 1 8 (some [(Value.int IntKind.i64 0)]) true)
def ti45 : TI := (TI.mk Ty.other 1 0 (some [(Value.tuple (Array.mk [(Value.agg (Array.mk [(Value.int IntKind.i64 0), (Value.int IntKind.i64 0), (Value.int IntKind.i64 0), (Value.int IntKind.i64 0), (Value.int IntKind.i64 0), (Value.int IntKind.i64 0), (Value.slice none 0 0), (Value.slice none 0 0), (Value.slice none 0 0), (Value.int IntKind.i64 0), (Value.int IntKind.i64 0), (Value.int IntKind.i64 0), (Value.slice none 0 0), (Value.slice none 0 0), (Value.slice none 0 0), (Value.slice none 0 0), (Value.slice none 0 0), (Value.slice none 0 0), (Value.slice none 0 0), (Value.slice none 0 0), (Value.slice none 0 0), (Value.slice none 0 0), (Value.slice none 0 0), (Value.slice none 0 0), (Value.slice none 0 0), (Value.slice none 0 0), (Value.slice none 0 0), (Value.slice none 0 0), (Value.slice none 0 0), (Value.slice none 0 0), (Value.slice none 0 0), (Value.int IntKind.i64 0), (Value.int IntKind.i64 0), (Value.slice none 0 0), (Value.int IntKind.i64 0), (Value.int IntKind.i64 0), (Value.int IntKind.i64 0), (Value.int IntKind.i64 0), (Value.int IntKind.i64 0), (Value.int IntKind.i64 0), (Value.int IntKind.i64 0), (Value.slice none 0 0), (Value.slice none 0 0), (Value.bool false), (Value.int IntKind.i64 0)])), (Value.int IntKind.i64 0)]))]) true)
def ti46 : TI := (TI.mk Ty.other 1 8 (some [Value.nilFunc]) true)
def ti47 : TI := (TI.mk (Ty.struct [(0, 3), (1, 3), (2, 3)]) 3 24 (some [(Value.int IntKind.i64 0), (Value.int IntKind.i64 0), (Value.int IntKind.i64 0)]) true)
def ti48 : TI := (TI.mk (Ty.struct [(0, 3), (1, 3), (2, 3)]) 3 24 (some [(Value.int IntKind.i64 0), (Value.int IntKind.i64 0), (Value.int IntKind.i64 0)]) true)
def ti49 : TI := (TI.mk (Ty.struct [(0, 48), (3, 3), (4, 3), (5, 3), (6, 9), (7, 9), (8, 3), (9, 3), (10, 32)]) 11 120 (some [(Value.int IntKind.i64 0), (Value.int IntKind.i64 0), (Value.int IntKind.i64 0), (Value.int IntKind.i64 0), (Value.int IntKind.i64 0), (Value.int IntKind.i64 0), (Value.string (ByteArray.mk (Array.mk []))), (Value.string (ByteArray.mk (Array.mk []))), (Value.int IntKind.i64 0), (Value.int IntKind.i64 0), (Value.slice none 0 0)]) true)
def ti50 : TI := (TI.mk (Ty.struct [(0, 48), (3, 3), (4, 3), (5, 3), (6, 9), (7, 9), (8, 3), (9, 3), (10, 32)]) 11 120 (some [(Value.int IntKind.i64 0), (Value.int IntKind.i64 0), (Value.int IntKind.i64 0), (Value.int IntKind.i64 0), (Value.int IntKind.i64 0), (Value.int IntKind.i64 0), (Value.string (ByteArray.mk (Array.mk []))), (Value.string (ByteArray.mk (Array.mk []))), (Value.int IntKind.i64 0), (Value.int IntKind.i64 0), (Value.slice none 0 0)]) true)
def ti51 : TI := (TI.mk Ty.other 1 8 (some [Value.nilFunc]) true)
def ti52 : TI := (TI.mk Ty.other 1 8 (some [Value.nilFunc]) true)
def ti53 : TI := (TI.mk Ty.other 1 8 (some [Value.nilFunc]) true)
def ti54 : TI := (TI.mk Ty.other 1 8 (some [Value.nilFunc]) true)
def ti55 : TI := (TI.mk Ty.other 1 8 (some [Value.nilFunc]) true)
def ti56 : TI := (TI.mk (Ty.struct [(0, 44), (1, 3), (2, 27)]) 9 120 (some [(Value.int IntKind.i64 0), (Value.int IntKind.i64 0), (Value.int IntKind.i64 0), (Value.int IntKind.i64 0), (Value.int IntKind.i64 0), (Value.int IntKind.i64 0), (Value.slice none 0 0), (Value.slice none 0 0), (Value.slice none 0 0)]) true)
def ti57 : TI := (TI.mk (Ty.struct [(0, 44), (1, 3), (2, 27)]) 9 120 (some [(Value.int IntKind.i64 0), (Value.int IntKind.i64 0), (Value.int IntKind.i64 0), (Value.int IntKind.i64 0), (Value.int IntKind.i64 0), (Value.int IntKind.i64 0), (Value.slice none 0 0), (Value.slice none 0 0), (Value.slice none 0 0)]) true)
def ti58 : TI := (TI.mk Ty.other 1 8 (some [Value.nilFunc]) true)
def ti59 : TI := (TI.mk Ty.other 1 8 (some [Value.nilFunc]) true)
def ti60 : TI := (TI.mk Ty.other 1 8 (some [Value.nilFunc]) true)
def ti61 : TI := (TI.mk (Ty.struct [(0, 9), (1, 3), (2, 3), (3, 3), (4, 3)]) 5 48 (some [(Value.string (ByteArray.mk (Array.mk []))), (Value.int IntKind.i64 0), (Value.int IntKind.i64 0), (Value.int IntKind.i64 0), (Value.int IntKind.i64 0)]) true)
def ti62 : TI := (TI.mk (Ty.struct [(0, 9), (1, 3), (2, 3), (3, 3), (4, 3)]) 5 48 (some [(Value.string (ByteArray.mk (Array.mk []))), (Value.int IntKind.i64 0), (Value.int IntKind.i64 0), (Value.int IntKind.i64 0), (Value.int IntKind.i64 0)]) true)
def ti63 : TI := (TI.mk Ty.other 1 8 (some [Value.nilFunc]) true)
def ti64 : TI := (TI.mk Ty.other 1 8 (some [Value.nilFunc]) true)
def ti65 : TI := (TI.mk Ty.other 1 8 (some [Value.nilFunc]) true)
def ti66 : TI := (TI.mk Ty.other 1 8 (some [Value.nilFunc]) true)
def ti67 : TI := (TI.mk Ty.other 1 8 (some [Value.nilFunc]) true)
def ti68 : TI := (TI.mk Ty.other 1 0 (some [(Value.tuple (Array.mk [(Value.string (ByteArray.mk (Array.mk []))), (Value.int IntKind.i64 0)]))]) true)
def ti69 : TI := (TI.mk Ty.other 1 8 (some [Value.nilFunc]) true)
def ti70 : TI := (TI.mk Ty.other 1 8 (some [Value.nilFunc]) true)
def ti71 : TI := (TI.mk Ty.other 1 8 (some [Value.nilFunc]) true)
def ti72 : TI := (TI.mk Ty.other 1 8 (some [Value.nilFunc]) true)
def ti73 : TI := (TI.mk Ty.other 1 8 (some [Value.nilFunc]) true)
def ti74 : TI := (TI.mk Ty.other 1 8 (some [Value.nilFunc]) true)
def ti75 : TI := (TI.mk Ty.other 1 0 (some [(Value.tuple (Array.mk [(Value.agg (Array.mk [(Value.slice none 0 0), (Value.slice none 0 0), (Value.slice none 0 0), (Value.slice none 0 0), (Value.slice none 0 0), (Value.slice none 0 0)])), (Value.int IntKind.i64 0)]))]) true)
def ti76 : TI := (TI.mk Ty.other 1 8 (some [Value.nilFunc]) true)
def ti77 : TI := (TI.mk Ty.other 1 8 (some [Value.nilFunc]) true)
def ti78 : TI := (TI.mk Ty.other 1 8 (some [Value.nilFunc]) true)
def ti79 : TI := (TI.mk Ty.other 1 8 (some [Value.nilFunc]) true)
def ti80 : TI := (TI.mk Ty.other 1 8 (some [Value.nilFunc]) true)
def ti81 : TI := (TI.mk Ty.other 1 8 (some [Value.nilFunc]) true)
def ti82 : TI := (TI.mk Ty.other 1 8 (some [Value.nilFunc]) true)
def ti83 : TI := (TI.mk Ty.other 1 8 (some [Value.nilFunc]) true)
def ti84 : TI := (TI.mk Ty.other 1 8 (some [Value.nilFunc]) true)
def ti85 : TI := (TI.mk Ty.other 1 8 (some [Value.nilFunc]) true)
def ti86 : TI := (TI.mk Ty.other 1 8 (some [Value.nilFunc]) true)
def ti87 : TI := (TI.mk Ty.other 1 8 (some [Value.nilFunc]) true)
def ti88 : TI := (TI.mk (Ty.struct [(0, 9), (1, 3), (2, 3), (3, 3)]) 4 40 (some [(Value.string (ByteArray.mk (Array.mk []))), (Value.int IntKind.i64 0), (Value.int IntKind.i64 0), (Value.int IntKind.i64 0)]) true)
def ti89 : TI := (TI.mk (Ty.struct [(0, 9), (1, 3), (2, 3), (3, 3)]) 4 40 (some [(Value.string (ByteArray.mk (Array.mk []))), (Value.int IntKind.i64 0), (Value.int IntKind.i64 0), (Value.int IntKind.i64 0)]) true)
def ti90 : TI := (TI.mk Ty.other 1 8 (some [Value.nilFunc]) true)
def ti91 : TI := (TI.mk Ty.other 1 8 (some [Value.nilFunc]) true)
def ti92 : TI := (TI.mk Ty.other 1 8 (some [Value.nilFunc]) true)
def ti93 : TI := (TI.mk Ty.other 1 8 (some [Value.nilFunc]) true)
def ti94 : TI := (TI.mk Ty.other 1 8 (some [Value.nilFunc]) true)
def ti95 : TI := (TI.mk Ty.other 1 0 (some [(Value.tuple (Array.mk [(Value.agg (Array.mk [(Value.int IntKind.i64 0), (Value.int IntKind.i64 0), (Value.int IntKind.i64 0), (Value.int IntKind.i64 0), (Value.slice none 0 0), (Value.slice none 0 0), (Value.slice none 0 0)])), (Value.int IntKind.i64 0)]))]) true)
def ti96 : TI := (TI.mk Ty.other 1 8 (some [Value.nilFunc]) true)
def ti97 : TI := (TI.mk (Ty.struct [(0, 3), (1, 3)]) 2 16 (some [(Value.int IntKind.i64 0), (Value.int IntKind.i64 0)]) true)
def ti98 : TI := (TI.mk (Ty.struct [(0, 3), (1, 3)]) 2 16 (some [(Value.int IntKind.i64 0), (Value.int IntKind.i64 0)]) true)
def ti99 : TI := (TI.mk (Ty.struct [(0, 9), (1, 9), (2, 3), (3, 48)]) 6 64 (some [(Value.string (ByteArray.mk (Array.mk []))), (Value.string (ByteArray.mk (Array.mk []))), (Value.int IntKind.i64 0), (Value.int IntKind.i64 0), (Value.int IntKind.i64 0), (Value.int IntKind.i64 0)]) true)
def ti100 : TI := (TI.mk (Ty.struct [(0, 9), (1, 9), (2, 3), (3, 48)]) 6 64 (some [(Value.string (ByteArray.mk (Array.mk []))), (Value.string (ByteArray.mk (Array.mk []))), (Value.int IntKind.i64 0), (Value.int IntKind.i64 0), (Value.int IntKind.i64 0), (Value.int IntKind.i64 0)]) true)
def ti101 : TI := (TI.mk Ty.other 1 8 (some [Value.nilFunc]) true)
def ti102 : TI := (TI.mk (Ty.struct [(0, 9), (1, 9), (2, 3), (3, 3), (4, 48)]) 7 72 (some [(Value.string (ByteArray.mk (Array.mk []))), (Value.string (ByteArray.mk (Array.mk []))), (Value.int IntKind.i64 0), (Value.int IntKind.i64 0), (Value.int IntKind.i64 0), (Value.int IntKind.i64 0), (Value.int IntKind.i64 0)]) true)
def ti103 : TI := (TI.mk (Ty.struct [(0, 9), (1, 9), (2, 3), (3, 3), (4, 48)]) 7 72 (some [(Value.string (ByteArray.mk (Array.mk []))), (Value.string (ByteArray.mk (Array.mk []))), (Value.int IntKind.i64 0), (Value.int IntKind.i64 0), (Value.int IntKind.i64 0), (Value.int IntKind.i64 0), (Value.int IntKind.i64 0)]) true)
def ti104 : TI := (TI.mk Ty.other 1 8 (some [Value.nilFunc]) true)
def ti105 : TI := (TI.mk Ty.other 1 8 (some [Value.nilFunc]) true)
def ti106 : TI := (TI.mk Ty.other 1 8 (some [Value.nilFunc]) true)
def ti107 : TI := (TI.mk Ty.other 1 8 (some [Value.nilFunc]) true)
def ti108 : TI := (TI.mk Ty.other 1 0 (some [(Value.tuple (Array.mk [(Value.slice none 0 0), (Value.int IntKind.i64 0)]))]) true)
def ti109 : TI := (TI.mk Ty.other 1 8 (some [Value.nilFunc]) true)
def ti110 : TI := (TI.mk Ty.other 1 8 (some [Value.nilFunc]) true)
def ti111 : TI := (TI.mk Ty.other 1 8 (some [Value.nilFunc]) true)
def ti112 : TI := (TI.mk (Ty.struct [(0, 3), (1, 3), (2, 3)]) 3 24 (some [(Value.int IntKind.i64 0), (Value.int IntKind.i64 0), (Value.int IntKind.i64 0)]) true)
def ti113 : TI := (TI.mk Ty.other 1 8 (some [Value.nilFunc]) true)
def ti114 : TI := (TI.mk Ty.other 1 8 (some [Value.nilFunc]) true)
def ti115 : TI := (TI.mk Ty.other 1 8 (some [Value.nilFunc]) true)
def ti116 : TI := (TI.mk Ty.other 1 8 (some [Value.nilFunc]) true)
def ti117 : TI := (TI.mk (Ty.struct [(0, 9), (1, 3)]) 2 24 (some [(Value.string (ByteArray.mk (Array.mk []))), (Value.int IntKind.i64 0)]) true)
def ti118 : TI := (TI.mk (Ty.struct [(0, 9), (1, 3)]) 2 24 (some [(Value.string (ByteArray.mk (Array.mk []))), (Value.int IntKind.i64 0)]) true)
def ti119 : TI := (TI.mk Ty.other 1 8 (some [Value.nilFunc]) true)
def ti120 : TI := (TI.mk (Ty.struct [(0, 3), (1, 9), (2, 3), (3, 48)]) 6 56 (some [(Value.int IntKind.i64 0), (Value.string (ByteArray.mk (Array.mk []))), (Value.int IntKind.i64 0), (Value.int IntKind.i64 0), (Value.int IntKind.i64 0), (Value.int IntKind.i64 0)]) true)
def ti121 : TI := (TI.mk (Ty.struct [(0, 3), (1, 9), (2, 3), (3, 48)]) 6 56 (some [(Value.int IntKind.i64 0), (Value.string (ByteArray.mk (Array.mk []))), (Value.int IntKind.i64 0), (Value.int IntKind.i64 0), (Value.int IntKind.i64 0), (Value.int IntKind.i64 0)]) true)
def ti122 : TI := (TI.mk Ty.other 1 8 (some [Value.nilFunc]) true)
def ti123 : TI := (TI.mk Ty.other 1 8 (some [Value.nilFunc]) true)
def ti124 : TI := (TI.mk Ty.other 1 8 (some [Value.nilFunc]) true)
def ti125 : TI := (TI.mk Ty.other 1 8 (some [Value.nilFunc]) true)
def ti126 : TI := (TI.mk Ty.other 1 8 (some [Value.nilFunc]) true)
def ti127 : TI := (TI.mk Ty.other 1 8 (some [Value.nilFunc]) true)
def ti128 : TI := (TI.mk Ty.other 1 8 (some [Value.nilFunc]) true)
def ti129 : TI := (TI.mk Ty.other 1 8 (some [Value.nilFunc]) true)
def ti130 : TI := (TI.mk Ty.other 1 8 (some [Value.nilFunc]) true)
def ti131 : TI := (TI.mk Ty.other 1 8 (some [Value.nilFunc]) true)
def ti132 : TI := (TI.mk Ty.other 1 8 (some [Value.nilFunc]) true)
def ti133 : TI := (TI.mk Ty.other 1 8 (some [Value.nilFunc]) true)
def ti134 : TI := (TI.mk Ty.other 1 8 (some [Value.nilFunc]) true)
def ti135 : TI := (TI.mk Ty.other 1 8 (some [Value.nilFunc]) true)
def ti136 : TI := (TI.mk (Ty.slice 5) 1 24 (some [(Value.slice none 0 0)]) true)
def ti137 : TI := (TI.mk Ty.other 1 8 (some [Value.nilFunc]) true)
def ti138 : TI := (TI.mk Ty.other 1 8 (some [Value.nilFunc]) true)
def ti139 : TI := (TI.mk Ty.other 1 8 (some [Value.nilFunc]) true)
def ti140 : TI := (TI.mk Ty.other 1 8 (some [Value.nilFunc]) true)
def ti141 : TI := (TI.mk Ty.other 1 8 (some [Value.nilFunc]) true)
def ti142 : TI := (TI.mk Ty.other 1 0 (some [(Value.tuple (Array.mk [(Value.int IntKind.i64 0), (Value.bool false)]))]) true)
def ti143 : TI := (TI.mk Ty.other 1 8 (some [Value.nilFunc]) true)
def ti144 : TI := (TI.mk Ty.other 1 8 (some [Value.nilFunc]) true)
def ti145 : TI := (TI.mk (Ty.struct [(0, 3), (1, 3), (2, 3)]) 3 24 (some [(Value.int IntKind.i64 0), (Value.int IntKind.i64 0), (Value.int IntKind.i64 0)]) true)
def ti146 : TI := (TI.mk Ty.other 1 8 (some [Value.nilFunc]) true)
def ti147 : TI := (TI.mk Ty.other 1 8 (some [Value.nilFunc]) true)
def ti148 : TI := (TI.mk Ty.other 1 8 (some [Value.nilFunc]) true)
def ti149 : TI := (TI.mk Ty.other 1 8 (some [Value.nilFunc]) true)
def ti150 : TI := (TI.mk Ty.other 1 8 (some [Value.nilFunc]) true)
def ti151 : TI := (TI.mk Ty.other 1 8 (some [Value.nilFunc]) true)
def ti152 : TI := (TI.mk Ty.other 1 8 (some [Value.nilFunc]) true)
def ti153 : TI := (TI.mk Ty.other 1 8 (some [Value.nilFunc]) true)
def ti154 : TI := (TI.mk Ty.other 1 8 (some [Value.nilFunc]) true)
def ti155 : TI := (TI.mk Ty.other 1 8 (some [Value.nilFunc]) true)
def ti156 : TI := (TI.mk Ty.other 1 8 (some [Value.nilFunc]) true)
def ti157 : TI := (TI.mk Ty.other 1 8 (some [Value.nilFunc]) true)
def ti158 : TI := (TI.mk Ty.other 1 8 (some [Value.nilFunc]) true)
def ti159 : TI := (TI.mk Ty.other 1 8 (some [Value.nilFunc]) true)
def ti160 : TI := (TI.mk Ty.other 1 8 (some [Value.nilFunc]) true)
def ti161 : TI := (TI.mk Ty.other 1 8 (some [Value.nilFunc]) true)
def ti162 : TI := (TI.mk Ty.other 1 8 (some [Value.nilFunc]) true)
def ti163 : TI := (TI.mk (Ty.ptr 62) 1 8 (some [(Value.pointer none)]) true)
def ti164 : TI := (TI.mk Ty.other 1 8 (some [Value.nilFunc]) true)
def ti165 : TI := (TI.mk Ty.other 1 8 (some [Value.nilFunc]) true)
def ti166 : TI := (TI.mk Ty.other 1 8 (some [Value.nilFunc]) true)
def ti167 : TI := (TI.mk Ty.other 1 8 (some [Value.nilFunc]) true)
def ti168 : TI := (TI.mk Ty.other 1 8 (some [Value.nilFunc]) true)
def ti169 : TI := (TI.mk (Ty.struct [(0, 3), (1, 3)]) 2 16 (some [(Value.int IntKind.i64 0), (Value.int IntKind.i64 0)]) true)
def ti170 : TI := (TI.mk (Ty.struct [(0, 3), (1, 3)]) 2 16 (some [(Value.int IntKind.i64 0), (Value.int IntKind.i64 0)]) true)
def ti171 : TI := (TI.mk Ty.other 1 8 (some [Value.nilFunc]) true)
def ti172 : TI := (TI.mk Ty.other 1 8 (some [Value.nilFunc]) true)
def ti173 : TI := (TI.mk Ty.other 1 8 (some [Value.nilFunc]) true)
def ti174 : TI := (TI.mk Ty.other 1 8 (some [Value.nilFunc]) true)
def ti175 : TI := (TI.mk Ty.other 1 8 (some [Value.nilFunc]) true)
def ti176 : TI := (TI.mk Ty.other 1 8 (some [Value.nilFunc]) true)
def ti177 : TI := (TI.mk Ty.other 1 8 (some [Value.nilFunc]) true)
def ti178 : TI := (TI.mk Ty.other 1 8 (some [Value.nilFunc]) true)
def ti179 : TI := (TI.mk Ty.other 1 8 (some [Value.nilFunc]) true)
def ti180 : TI := (TI.mk Ty.other 1 8 (some [Value.nilFunc]) true)
def ti181 : TI := (TI.mk Ty.other 1 8 (some [Value.nilFunc]) true)
def ti182 : TI := (TI.mk Ty.other 1 8 (some [Value.nilFunc]) true)
def ti183 : TI := (TI.mk Ty.other 1 8 (some [Value.nilFunc]) true)
def ti184 : TI := (TI.mk Ty.other 1 8 (some [Value.nilFunc]) true)
def ti185 : TI := (TI.mk Ty.other 1 8 (some [Value.nilFunc]) true)
def ti186 : TI := (TI.mk Ty.other 1 8 (some [Value.nilFunc]) true)
def ti187 : TI := (TI.mk Ty.other 1 8 (some [Value.nilFunc]) true)
def ti188 : TI := (TI.mk (Ty.int IntKind.u64) 1 8 (some [(Value.int IntKind.u64 0)]) true)
def ti189 : TI := (TI.mk Ty.other 1 8 (some [Value.nilFunc]) true)
def ti190 : TI := (TI.mk Ty.other 1 8 (some [Value.nilFunc]) true)
def ti191 : TI := (TI.mk Ty.other 1 8 (some [Value.nilFunc]) true)
def ti192 : TI := (TI.mk Ty.other 1 8 (some [Value.nilFunc]) true)
def ti193 : TI := (TI.mk Ty.other 1 8 (some [Value.nilFunc]) true)
def ti194 : TI := (TI.mk Ty.other 1 8 (some [Value.nilFunc]) true)
def ti195 : TI := (TI.mk Ty.other 1 8 (some [Value.nilFunc]) true)
def ti196 : TI := (TI.mk Ty.other 1 8 (some [Value.nilFunc]) true)
def ti197 : TI := (TI.mk Ty.other 1 8 (some [Value.nilFunc]) true)
def ti198 : TI := (TI.mk Ty.other 1 8 (some [Value.nilFunc]) true)
def ti199 : TI := (TI.mk Ty.other 1 8 (some [Value.nilFunc]) true)
def ti200 : TI := (TI.mk (Ty.struct [(0, 17), (1, 17), (2, 17), (3, 9)]) 4 40 (some [(Value.pointer none), (Value.pointer none), (Value.pointer none), (Value.string (ByteArray.mk (Array.mk [])))]) false)
def ti201 : TI := (TI.mk (Ty.struct [(0, 17), (1, 17), (2, 17), (3, 9)]) 4 40 (some [(Value.pointer none), (Value.pointer none), (Value.pointer none), (Value.string (ByteArray.mk (Array.mk [])))]) false)
def ti202 : TI := (TI.mk (Ty.array 0 16) 0 0 (some []) true)
def ti203 : TI := (TI.mk (Ty.struct [(0, 202)]) 0 0 (some []) false)
def ti204 : TI := (TI.mk (Ty.struct [(0, 202)]) 0 0 (some []) false)
def ti205 : TI := (TI.mk Ty.other 1 8 (some [Value.nilFunc]) true)
def ti206 : TI := (TI.mk (Ty.int IntKind.u32) 1 4 (some [(Value.int IntKind.u32 0)]) true)
def ti207 : TI := (TI.mk (Ty.int IntKind.u8) 1 1 (some [(Value.int IntKind.u8 0)]) true)
def ti208 : TI := (TI.mk (Ty.int IntKind.u8) 1 1 (some [(Value.int IntKind.u8 0)]) true)
def ti209 : TI := (TI.mk Ty.other 1 8 (some [Value.nilFunc]) true)
def ti210 : TI := (TI.mk (Ty.ptr 5) 1 8 (some [(Value.pointer none)]) true)
def ti211 : TI := (TI.mk (Ty.int IntKind.i32) 1 4 (some [(Value.int IntKind.i32 0)]) true)
def ti212 : TI := (TI.mk (Ty.int IntKind.i32) 1 4 (some [(Value.int IntKind.i32 0)]) true)
def ti213 : TI := (TI.mk (Ty.struct [(0, 12), (1, 12), (2, 206), (3, 207), (4, 5), (5, 5), (6, 208), (7, 209), (8, 210), (9, 211), (10, 212)]) 11 48 (some [(Value.int IntKind.u64 0), (Value.int IntKind.u64 0), (Value.int IntKind.u32 0), (Value.int IntKind.u8 0), (Value.int IntKind.u8 0), (Value.int IntKind.u8 0), (Value.int IntKind.u8 0), Value.nilFunc, (Value.pointer none), (Value.int IntKind.i32 0), (Value.int IntKind.i32 0)]) false)
def ti214 : TI := (TI.mk (Ty.struct [(0, 12), (1, 12), (2, 206), (3, 207), (4, 5), (5, 5), (6, 208), (7, 209), (8, 210), (9, 211), (10, 212)]) 11 48 (some [(Value.int IntKind.u64 0), (Value.int IntKind.u64 0), (Value.int IntKind.u32 0), (Value.int IntKind.u8 0), (Value.int IntKind.u8 0), (Value.int IntKind.u8 0), (Value.int IntKind.u8 0), Value.nilFunc, (Value.pointer none), (Value.int IntKind.i32 0), (Value.int IntKind.i32 0)]) false)
def ti215 : TI := (TI.mk Ty.other 1 8 (some [(Value.pointer none)]) true)
def tabs : List (Nat × TI) := [(0, ti0), (1, ti1), (2, ti2), (3, ti3), (4, ti4), (5, ti5), (6, ti6), (7, ti7), (8, ti8), (9, ti9), (10, ti10), (11, ti11), (12, ti12), (13, ti13), (14, ti14), (15, ti15), (16, ti16), (17, ti17), (18, ti18), (19, ti19), (20, ti20), (21, ti21), (22, ti22), (23, ti23), (24, ti24), (25, ti25), (26, ti26), (27, ti27), (28, ti28), (29, ti29), (30, ti30), (31, ti31), (32, ti32), (33, ti33), (34, ti34), (35, ti35), (36, ti36), (37, ti37), (38, ti38), (39, ti39), (40, ti40), (41, ti41), (42, ti42), (43, ti43), (44, ti44), (45, ti45), (46, ti46), (47, ti47), (48, ti48), (49, ti49), (50, ti50), (51, ti51), (52, ti52), (53, ti53), (54, ti54), (55, ti55), (56, ti56), (57, ti57), (58, ti58), (59, ti59), (60, ti60), (61, ti61), (62, ti62), (63, ti63), (64, ti64), (65, ti65), (66, ti66), (67, ti67), (68, ti68), (69, ti69), (70, ti70), (71, ti71), (72, ti72), (73, ti73), (74, ti74), (75, ti75), (76, ti76), (77, ti77), (78, ti78), (79, ti79), (80, ti80), (81, ti81), (82, ti82), (83, ti83), (84, ti84), (85, ti85), (86, ti86), (87, ti87), (88, ti88), (89, ti89), (90, ti90), (91, ti91), (92, ti92), (93, ti93), (94, ti94), (95, ti95), (96, ti96), (97, ti97), (98, ti98), (99, ti99), (100, ti100), (101, ti101), (102, ti102), (103, ti103), (104, ti104), (105, ti105), (106, ti106), (107, ti107), (108, ti108), (109, ti109), (110, ti110), (111, ti111), (112, ti112), (113, ti113), (114, ti114), (115, ti115), (116, ti116), (117, ti117), (118, ti118), (119, ti119), (120, ti120), (121, ti121), (122, ti122), (123, ti123), (124, ti124), (125, ti125), (126, ti126), (127, ti127), (128, ti128), (129, ti129), (130, ti130), (131, ti131), (132, ti132), (133, ti133), (134, ti134), (135, ti135), (136, ti136), (137, ti137), (138, ti138), (139, ti139), (140, ti140), (141, ti141), (142, ti142), (143, ti143), (144, ti144), (145, ti145), (146, ti146), (147, ti147), (148, ti148), (149, ti149), (150, ti150), (151, ti151), (152, ti152), (153, ti153), (154, ti154), (155, ti155), (156, ti156), (157, ti157), (158, ti158), (159, ti159), (160, ti160), (161, ti161), (162, ti162), (163, ti163), (164, ti164), (165, ti165), (166, ti166), (167, ti167), (168, ti168), (169, ti169), (170, ti170), (171, ti171), (172, ti172), (173, ti173), (174, ti174), (175, ti175), (176, ti176), (177, ti177), (178, ti178), (179, ti179), (180, ti180), (181, ti181), (182, ti182), (183, ti183), (184, ti184), (185, ti185), (186, ti186), (187, ti187), (188, ti188), (189, ti189), (190, ti190), (191, ti191), (192, ti192), (193, ti193), (194, ti194), (195, ti195), (196, ti196), (197, ti197), (198, ti198), (199, ti199), (200, ti200), (201, ti201), (202, ti202), (203, ti203), (204, ti204), (205, ti205), (206, ti206), (207, ti207), (208, ti208), (209, ti209), (210, ti210), (211, ti211), (212, ti212), (213, ti213), (214, ti214), (215, ti215)]
def tab : Tab := fun t => Ev.look tabs t
theorem tab0_is : tab 0 = some ti0 := by kernel_rfl
theorem tab1_is : tab 1 = some ti1 := by kernel_rfl
theorem tab2_is : tab 2 = some ti2 := by kernel_rfl
theorem tab3_is : tab 3 = some ti3 := by kernel_rfl
theorem tab4_is : tab 4 = some ti4 := by kernel_rfl
theorem tab5_is : tab 5 = some ti5 := by kernel_rfl
theorem tab6_is : tab 6 = some ti6 := by kernel_rfl
theorem tab7_is : tab 7 = some ti7 := by kernel_rfl
theorem tab8_is : tab 8 = some ti8 := by kernel_rfl
theorem tab9_is : tab 9 = some ti9 := by kernel_rfl
theorem tab10_is : tab 10 = some ti10 := by kernel_rfl
theorem tab11_is : tab 11 = some ti11 := by kernel_rfl
theorem tab12_is : tab 12 = some ti12 := by kernel_rfl
theorem tab13_is : tab 13 = some ti13 := by kernel_rfl
theorem tab14_is : tab 14 = some ti14 := by kernel_rfl
theorem tab15_is : tab 15 = some ti15 := by kernel_rfl
theorem tab16_is : tab 16 = some ti16 := by kernel_rfl
theorem tab17_is : tab 17 = some ti17 := by kernel_rfl
theorem tab18_is : tab 18 = some ti18 := by kernel_rfl
theorem tab19_is : tab 19 = some ti19 := by kernel_rfl
theorem tab20_is : tab 20 = some ti20 := by kernel_rfl
theorem tab21_is : tab 21 = some ti21 := by kernel_rfl
theorem tab22_is : tab 22 = some ti22 := by kernel_rfl
theorem tab23_is : tab 23 = some ti23 := by kernel_rfl
theorem tab24_is : tab 24 = some ti24 := by kernel_rfl
theorem tab25_is : tab 25 = some ti25 := by kernel_rfl
theorem tab26_is : tab 26 = some ti26 := by kernel_rfl
theorem tab27_is : tab 27 = some ti27 := by kernel_rfl
theorem tab28_is : tab 28 = some ti28 := by kernel_rfl
theorem tab29_is : tab 29 = some ti29 := by kernel_rfl
theorem tab30_is : tab 30 = some ti30 := by kernel_rfl
theorem tab31_is : tab 31 = some ti31 := by kernel_rfl
theorem tab32_is : tab 32 = some ti32 := by kernel_rfl
theorem tab33_is : tab 33 = some ti33 := by kernel_rfl
theorem tab34_is : tab 34 = some ti34 := by kernel_rfl
theorem tab35_is : tab 35 = some ti35 := by kernel_rfl
theorem tab36_is : tab 36 = some ti36 := by kernel_rfl
theorem tab37_is : tab 37 = some ti37 := by kernel_rfl
theorem tab38_is : tab 38 = some ti38 := by kernel_rfl
theorem tab39_is : tab 39 = some ti39 := by kernel_rfl
theorem tab40_is : tab 40 = some ti40 := by kernel_rfl
theorem tab41_is : tab 41 = some ti41 := by kernel_rfl
theorem tab42_is : tab 42 = some ti42 := by kernel_rfl
theorem tab43_is : tab 43 = some ti43 := by kernel_rfl
theorem tab44_is : tab 44 = some ti44 := by kernel_rfl
theorem tab45_is : tab 45 = some ti45 := by kernel_rfl
theorem tab46_is : tab 46 = some ti46 := by kernel_rfl
theorem tab47_is : tab 47 = some ti47 := by kernel_rfl
theorem tab48_is : tab 48 = some ti48 := by kernel_rfl
theorem tab49_is : tab 49 = some ti49 := by kernel_rfl
theorem tab50_is : tab 50 = some ti50 := by kernel_rfl
theorem tab51_is : tab 51 = some ti51 := by kernel_rfl
theorem tab52_is : tab 52 = some ti52 := by kernel_rfl
theorem tab53_is : tab 53 = some ti53 := by kernel_rfl
theorem tab54_is : tab 54 = some ti54 := by kernel_rfl
theorem tab55_is : tab 55 = some ti55 := by kernel_rfl
theorem tab56_is : tab 56 = some ti56 := by kernel_rfl
theorem tab57_is : tab 57 = some ti57 := by kernel_rfl
theorem tab58_is : tab 58 = some ti58 := by kernel_rfl
theorem tab59_is : tab 59 = some ti59 := by kernel_rfl
theorem tab60_is : tab 60 = some ti60 := by kernel_rfl
theorem tab61_is : tab 61 = some ti61 := by kernel_rfl
theorem tab62_is : tab 62 = some ti62 := by kernel_rfl
theorem tab63_is : tab 63 = some ti63 := by kernel_rfl
theorem tab64_is : tab 64 = some ti64 := by kernel_rfl
theorem tab65_is : tab 65 = some ti65 := by kernel_rfl
theorem tab66_is : tab 66 = some ti66 := by kernel_rfl
theorem tab67_is : tab 67 = some ti67 := by kernel_rfl
theorem tab68_is : tab 68 = some ti68 := by kernel_rfl
theorem tab69_is : tab 69 = some ti69 := by kernel_rfl
theorem tab70_is : tab 70 = some ti70 := by kernel_rfl
theorem tab71_is : tab 71 = some ti71 := by kernel_rfl
theorem tab72_is : tab 72 = some ti72 := by kernel_rfl
theorem tab73_is : tab 73 = some ti73 := by kernel_rfl
theorem tab74_is : tab 74 = some ti74 := by kernel_rfl
theorem tab75_is : tab 75 = some ti75 := by kernel_rfl
theorem tab76_is : tab 76 = some ti76 := by kernel_rfl
theorem tab77_is : tab 77 = some ti77 := by kernel_rfl
theorem tab78_is : tab 78 = some ti78 := by kernel_rfl
theorem tab79_is : tab 79 = some ti79 := by kernel_rfl
theorem tab80_is : tab 80 = some ti80 := by kernel_rfl
theorem tab81_is : tab 81 = some ti81 := by kernel_rfl
theorem tab82_is : tab 82 = some ti82 := by kernel_rfl
theorem tab83_is : tab 83 = some ti83 := by kernel_rfl
theorem tab84_is : tab 84 = some ti84 := by kernel_rfl
theorem tab85_is : tab 85 = some ti85 := by kernel_rfl
theorem tab86_is : tab 86 = some ti86 := by kernel_rfl
theorem tab87_is : tab 87 = some ti87 := by kernel_rfl
theorem tab88_is : tab 88 = some ti88 := by kernel_rfl
theorem tab89_is : tab 89 = some ti89 := by kernel_rfl
theorem tab90_is : tab 90 = some ti90 := by kernel_rfl
theorem tab91_is : tab 91 = some ti91 := by kernel_rfl
theorem tab92_is : tab 92 = some ti92 := by kernel_rfl
theorem tab93_is : tab 93 = some ti93 := by kernel_rfl
theorem tab94_is : tab 94 = some ti94 := by kernel_rfl
theorem tab95_is : tab 95 = some ti95 := by kernel_rfl
theorem tab96_is : tab 96 = some ti96 := by kernel_rfl
theorem tab97_is : tab 97 = some ti97 := by kernel_rfl
theorem tab98_is : tab 98 = some ti98 := by kernel_rfl
theorem tab99_is : tab 99 = some ti99 := by kernel_rfl
theorem tab100_is : tab 100 = some ti100 := by kernel_rfl
theorem tab101_is : tab 101 = some ti101 := by kernel_rfl
theorem tab102_is : tab 102 = some ti102 := by kernel_rfl
theorem tab103_is : tab 103 = some ti103 := by kernel_rfl
theorem tab104_is : tab 104 = some ti104 := by kernel_rfl
theorem tab105_is : tab 105 = some ti105 := by kernel_rfl
theorem tab106_is : tab 106 = some ti106 := by kernel_rfl
theorem tab107_is : tab 107 = some ti107 := by kernel_rfl
theorem tab108_is : tab 108 = some ti108 := by kernel_rfl
theorem tab109_is : tab 109 = some ti109 := by kernel_rfl
theorem tab110_is : tab 110 = some ti110 := by kernel_rfl
theorem tab111_is : tab 111 = some ti111 := by kernel_rfl
theorem tab112_is : tab 112 = some ti112 := by kernel_rfl
theorem tab113_is : tab 113 = some ti113 := by kernel_rfl
theorem tab114_is : tab 114 = some ti114 := by kernel_rfl
theorem tab115_is : tab 115 = some ti115 := by kernel_rfl
theorem tab116_is : tab 116 = some ti116 := by kernel_rfl
theorem tab117_is : tab 117 = some ti117 := by kernel_rfl
theorem tab118_is : tab 118 = some ti118 := by kernel_rfl
theorem tab119_is : tab 119 = some ti119 := by kernel_rfl
theorem tab120_is : tab 120 = some ti120 := by kernel_rfl
theorem tab121_is : tab 121 = some ti121 := by kernel_rfl
theorem tab122_is : tab 122 = some ti122 := by kernel_rfl
theorem tab123_is : tab 123 = some ti123 := by kernel_rfl
theorem tab124_is : tab 124 = some ti124 := by kernel_rfl
theorem tab125_is : tab 125 = some ti125 := by kernel_rfl
theorem tab126_is : tab 126 = some ti126 := by kernel_rfl
theorem tab127_is : tab 127 = some ti127 := by kernel_rfl
theorem tab128_is : tab 128 = some ti128 := by kernel_rfl
theorem tab129_is : tab 129 = some ti129 := by kernel_rfl
theorem tab130_is : tab 130 = some ti130 := by kernel_rfl
theorem tab131_is : tab 131 = some ti131 := by kernel_rfl
theorem tab132_is : tab 132 = some ti132 := by kernel_rfl
theorem tab133_is : tab 133 = some ti133 := by kernel_rfl
theorem tab134_is : tab 134 = some ti134 := by kernel_rfl
theorem tab135_is : tab 135 = some ti135 := by kernel_rfl
theorem tab136_is : tab 136 = some ti136 := by kernel_rfl
theorem tab137_is : tab 137 = some ti137 := by kernel_rfl
theorem tab138_is : tab 138 = some ti138 := by kernel_rfl
theorem tab139_is : tab 139 = some ti139 := by kernel_rfl
theorem tab140_is : tab 140 = some ti140 := by kernel_rfl
theorem tab141_is : tab 141 = some ti141 := by kernel_rfl
theorem tab142_is : tab 142 = some ti142 := by kernel_rfl
theorem tab143_is : tab 143 = some ti143 := by kernel_rfl
theorem tab144_is : tab 144 = some ti144 := by kernel_rfl
theorem tab145_is : tab 145 = some ti145 := by kernel_rfl
theorem tab146_is : tab 146 = some ti146 := by kernel_rfl
theorem tab147_is : tab 147 = some ti147 := by kernel_rfl
theorem tab148_is : tab 148 = some ti148 := by kernel_rfl
theorem tab149_is : tab 149 = some ti149 := by kernel_rfl
theorem tab150_is : tab 150 = some ti150 := by kernel_rfl
theorem tab151_is : tab 151 = some ti151 := by kernel_rfl
theorem tab152_is : tab 152 = some ti152 := by kernel_rfl
theorem tab153_is : tab 153 = some ti153 := by kernel_rfl
theorem tab154_is : tab 154 = some ti154 := by kernel_rfl
theorem tab155_is : tab 155 = some ti155 := by kernel_rfl
theorem tab156_is : tab 156 = some ti156 := by kernel_rfl
theorem tab157_is : tab 157 = some ti157 := by kernel_rfl
theorem tab158_is : tab 158 = some ti158 := by kernel_rfl
theorem tab159_is : tab 159 = some ti159 := by kernel_rfl
theorem tab160_is : tab 160 = some ti160 := by kernel_rfl
theorem tab161_is : tab 161 = some ti161 := by kernel_rfl
theorem tab162_is : tab 162 = some ti162 := by kernel_rfl
theorem tab163_is : tab 163 = some ti163 := by kernel_rfl
theorem tab164_is : tab 164 = some ti164 := by kernel_rfl
theorem tab165_is : tab 165 = some ti165 := by kernel_rfl
theorem tab166_is : tab 166 = some ti166 := by kernel_rfl
theorem tab167_is : tab 167 = some ti167 := by kernel_rfl
theorem tab168_is : tab 168 = some ti168 := by kernel_rfl
theorem tab169_is : tab 169 = some ti169 := by kernel_rfl
theorem tab170_is : tab 170 = some ti170 := by kernel_rfl
theorem tab171_is : tab 171 = some ti171 := by kernel_rfl
theorem tab172_is : tab 172 = some ti172 := by kernel_rfl
theorem tab173_is : tab 173 = some ti173 := by kernel_rfl
theorem tab174_is : tab 174 = some ti174 := by kernel_rfl
theorem tab175_is : tab 175 = some ti175 := by kernel_rfl
theorem tab176_is : tab 176 = some ti176 := by kernel_rfl
theorem tab177_is : tab 177 = some ti177 := by kernel_rfl
theorem tab178_is : tab 178 = some ti178 := by kernel_rfl
theorem tab179_is : tab 179 = some ti179 := by kernel_rfl
theorem tab180_is : tab 180 = some ti180 := by kernel_rfl
theorem tab181_is : tab 181 = some ti181 := by kernel_rfl
theorem tab182_is : tab 182 = some ti182 := by kernel_rfl
theorem tab183_is : tab 183 = some ti183 := by kernel_rfl
theorem tab184_is : tab 184 = some ti184 := by kernel_rfl
theorem tab185_is : tab 185 = some ti185 := by kernel_rfl
theorem tab186_is : tab 186 = some ti186 := by kernel_rfl
theorem tab187_is : tab 187 = some ti187 := by kernel_rfl
theorem tab188_is : tab 188 = some ti188 := by kernel_rfl
theorem tab189_is : tab 189 = some ti189 := by kernel_rfl
theorem tab190_is : tab 190 = some ti190 := by kernel_rfl
theorem tab191_is : tab 191 = some ti191 := by kernel_rfl
theorem tab192_is : tab 192 = some ti192 := by kernel_rfl
theorem tab193_is : tab 193 = some ti193 := by kernel_rfl
theorem tab194_is : tab 194 = some ti194 := by kernel_rfl
theorem tab195_is : tab 195 = some ti195 := by kernel_rfl
theorem tab196_is : tab 196 = some ti196 := by kernel_rfl
theorem tab197_is : tab 197 = some ti197 := by kernel_rfl
theorem tab198_is : tab 198 = some ti198 := by kernel_rfl
theorem tab199_is : tab 199 = some ti199 := by kernel_rfl
theorem tab200_is : tab 200 = some ti200 := by kernel_rfl
theorem tab201_is : tab 201 = some ti201 := by kernel_rfl
theorem tab202_is : tab 202 = some ti202 := by kernel_rfl
theorem tab203_is : tab 203 = some ti203 := by kernel_rfl
theorem tab204_is : tab 204 = some ti204 := by kernel_rfl
theorem tab205_is : tab 205 = some ti205 := by kernel_rfl
theorem tab206_is : tab 206 = some ti206 := by kernel_rfl
theorem tab207_is : tab 207 = some ti207 := by kernel_rfl
theorem tab208_is : tab 208 = some ti208 := by kernel_rfl
theorem tab209_is : tab 209 = some ti209 := by kernel_rfl
theorem tab210_is : tab 210 = some ti210 := by kernel_rfl
theorem tab211_is : tab 211 = some ti211 := by kernel_rfl
theorem tab212_is : tab 212 = some ti212 := by kernel_rfl
theorem tab213_is : tab 213 = some ti213 := by kernel_rfl
theorem tab214_is : tab 214 = some ti214 := by kernel_rfl
theorem tab215_is : tab 215 = some ti215 := by kernel_rfl
theorem tabs_are : tabs.map (fun p => tiOf Tryz.prog p.1) = tabs.map (fun p => some p.2) := by kernel_rfl
theorem tabOK : TabOK Tryz.prog tab := by
  intro t i h
  have hm := look_mem h
  obtain ⟨n, hn, hx⟩ := List.getElem_of_mem hm
  have h1 := congrArg (fun l => l[n]?) tabs_are
  simp only [List.getElem?_map, List.getElem?_eq_getElem hn, hx, Option.map_some, Option.some.injEq] at h1
  exact h1
end Go.Proofs.YthhfjodcgibhfaaGreat
