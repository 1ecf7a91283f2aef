/- By program (gen.py): the functions, with the slots that are live behind each region; that they are the program's. -/
import Derived.Test.YtoicjnggljeicaaTl
namespace Go.Proofs.Ytoicjnggljeicaa
open Go Go.Ev

def sls : List (Nat × List (Nat × Nat)) := [(22, [(0, 3)]), (24, [(0, 32)]), (27, [(6, 32)]), (28, [(6, 32)]), (35, [(0, 39)]), (38, [(8, 32)]), (39, [(8, 32)]), (52, [(0, 58)]), (59, [(6, 32), (25, 32), (44, 32)]), (60, [(6, 32), (25, 32), (44, 32), (57, 39)]), (61, [(6, 32), (25, 32), (44, 32), (57, 39)]), (67, [(6, 32), (19, 39)]), (68, [(6, 32), (19, 39)]), (74, [(0, 5)]), (76, [(0, 98)]), (77, [(6, 98)]), (78, [(6, 98)]), (80, [(0, 86)]), (85, [(8, 98)]), (86, [(8, 98)])]
def sl : Sl := fun t => match Ev.look sls t with | some l => l | none => []
def shs : List (Nat × (Sh × Sh)) := [(26, (⟨[65, 39], [none, none], [(68, [6])], [false, false], [], false⟩, ⟨[], [], [], [], [], false⟩)), (27, (⟨[65, 39], [none, none], [], [false, false], [], false⟩, ⟨[], [], [(68, [6])], [], [(68, [19, 6])], true⟩)), (28, (⟨[65, 39], [none, none], [], [false, false], [], false⟩, ⟨[], [], [], [], [], true⟩)), (29, (⟨[65, 39], [none, none], [(68, [6])], [false, false], [], false⟩, ⟨[], [], [], [], [(68, [19])], false⟩)), (30, (⟨[65, 39], [none, none], [], [false, false], [], false⟩, ⟨[], [], [], [], [], true⟩)), (32, (⟨[65, 3], [none, none], [(68, [6])], [false, false], [], false⟩, ⟨[], [], [], [], [], false⟩)), (33, (⟨[65], [none], [(68, [6])], [false], [], false⟩, ⟨[], [], [], [], [(68, [19])], false⟩)), (46, (⟨[65, 3, 39], [none, none, none], [(68, [6])], [false, false, true], [], false⟩, ⟨[], [], [], [], [], false⟩)), (47, (⟨[65, 3, 4, 3], [none, none, none, none], [(68, [6])], [false, false, false, false], [], false⟩, ⟨[], [], [], [], [], false⟩)), (48, (⟨[65], [none], [(68, [6])], [false], [], false⟩, ⟨[], [], [], [], [], false⟩))]
def sh : FuncId → Sh × Sh := fun f => match Ev.look shs f with | some l => l | none => (⟨[], [], [], [], [], false⟩, ⟨[], [], [], [], [], false⟩)
def q_L3_6 : LoopA := ⟨103006, [0, 1, 2, 3, 9, 10, 11], [1, 2, 3, 9], [0], ⟨[22, 3, 3, 4, 0, 3, 3], [none, none, none, none, none, none, none], [], [false, false, false, false, false, false, false], [], false⟩, ⟨[3, 3, 4, 0], [none, none, none, none], [], [false, false, false, false], [], false⟩⟩
noncomputable def fd3 : FnDef := ⟨bod Try.f3.body, [ResultVar.tmp 8], 4, ann [[0, 1, 2, 3], [0, 1, 2, 3, 23], [8], [0, 1, 2, 3, 9], [0, 1, 2, 3, 9, 10], [0, 1, 2, 3, 9, 10, 11], [0, 1, 2, 3, 9, 10, 11, 32], [0, 1, 2, 3, 9, 10, 11], [0, 1, 2, 3, 9, 10, 11], [0, 1, 2, 3, 9, 10, 11], [1, 2, 3, 9], [1, 2, 3, 9, 12, 13], [1, 2, 3, 9, 12, 13], [1, 2, 3, 12, 13, 14, 15], [3, 14, 15, 16], [3, 14, 16, 111], [8], [3, 14, 16, 17], [3, 14, 16, 17, 112], [3, 14, 16, 17], [3, 14, 16, 19], [3, 16, 19, 21], [8]] [(23, [0, 1, 2, 3]), (32, [0, 1, 2, 3, 9, 10, 11]), (111, [3, 14, 16]), (112, [3, 14, 16, 17])] [(6, q_L3_6)]⟩
def nt3 : Nat := 160
theorem st3 : FnSt Try.prog 3 fd3 nt3 := ⟨enters_of Try.func3 (by kernel_rfl) (c := bod Try.f3.body) rfl, ⟨Try.f3, Try.func3, rfl, rfl, rfl, by kernel_rfl⟩, by kernel_rfl⟩
def q_L4_9 : LoopA := ⟨104009, [0, 1, 2, 7, 10, 11], [0, 1, 2, 7, 10], [0], ⟨[3, 3, 9, 0, 41, 3], [none, none, none, none, none, none], [(28, [6])], [false, false, false, false, false, false], [], false⟩, ⟨[3, 3, 9, 0, 41], [none, none, none, none, none], [], [false, false, false, false, false], [], false⟩⟩
noncomputable def fd4 : FnDef := ⟨bod Try.f4.body, [ResultVar.tmp 6], 3, ann [[0, 1, 2], [0, 1, 2, 22], [6], [0, 1, 2, 25], [6], [0, 1, 2], [0, 1, 2, 7], [0, 1, 2, 7, 10], [0, 1, 2, 7, 10, 11], [0, 1, 2, 7, 10, 11, 40], [0, 1, 2, 7, 10, 11], [0, 1, 2, 7, 10, 11], [0, 1, 2, 7, 10], [0, 1, 2, 7, 10, 12, 13], [0, 1, 2, 7, 10, 12, 13, 14, 15], [0, 2, 10, 12, 13, 14, 15, 16, 17], [0, 2, 16, 138], [6], [0, 2, 16, 18, 19, 20], [0, 2, 16, 18, 19, 20, 147], [6], [6]] [(22, [0, 1, 2]), (25, [0, 1, 2]), (40, [0, 1, 2, 7, 10, 11]), (138, [0, 2, 16]), (147, [0, 2, 18, 19, 20])] [(9, q_L4_9)]⟩
def nt4 : Nat := 189
theorem st4 : FnSt Try.prog 4 fd4 nt4 := ⟨enters_of Try.func4 (by kernel_rfl) (c := bod Try.f4.body) rfl, ⟨Try.f4, Try.func4, rfl, rfl, rfl, by kernel_rfl⟩, by kernel_rfl⟩
noncomputable def fd5 : FnDef := ⟨bod Try.f5.body, [ResultVar.tmp 6], 3, ann [[0, 1, 2], [0, 1, 2, 15], [6], [0, 1, 2], [0, 1, 2, 7], [0, 1, 2, 7], [0, 1, 2, 7, 8], [0, 1, 2, 7, 8, 10], [1, 2, 7, 8, 10, 12], [6]] [(15, [0, 1, 2])] []⟩
def nt5 : Nat := 92
theorem st5 : FnSt Try.prog 5 fd5 nt5 := ⟨enters_of Try.func5 (by kernel_rfl) (c := bod Try.f5.body) rfl, ⟨Try.f5, Try.func5, rfl, rfl, rfl, by kernel_rfl⟩, by kernel_rfl⟩
noncomputable def fd6 : FnDef := ⟨bod Try.f6.body, [ResultVar.tmp 6], 3, ann [[0, 1, 2], [0, 1, 2, 20], [6], [0, 1, 2], [0, 1, 2, 7], [0, 1, 2, 7], [0, 1, 2, 7], [0, 1, 2, 8, 9], [0, 1, 2, 8, 9, 11], [0, 1, 2, 8, 9, 11, 13], [0, 1, 2, 8, 9, 11, 13, 14, 15], [0, 1, 2, 15, 99], [6], [1, 2, 15, 135], [6], [1, 2, 15, 16], [1, 2, 15, 16], [1, 15, 16, 138], [1, 15, 16], [1, 17, 18], [6]] [(20, [0, 1, 2]), (99, [0, 1, 2, 15]), (135, [1, 2, 15]), (138, [1, 15, 16])] []⟩
def nt6 : Nat := 194
theorem st6 : FnSt Try.prog 6 fd6 nt6 := ⟨enters_of Try.func6 (by kernel_rfl) (c := bod Try.f6.body) rfl, ⟨Try.f6, Try.func6, rfl, rfl, rfl, by kernel_rfl⟩, by kernel_rfl⟩
def q_L9_3 : LoopA := ⟨109003, [0, 1, 2], [0, 1], [0], ⟨[4, 0, 3], [none, none, none], [(28, [6])], [false, false, false], [], false⟩, ⟨[4, 0], [none, none], [], [false, false], [], false⟩⟩
noncomputable def fd9 : FnDef := ⟨bod Try.f9.body, [ResultVar.tmp 0], 0, ann [[0], [0, 1], [0, 1, 2], [0, 1, 2, 9], [0, 1, 2], [0, 1, 2, 3, 4], [0, 1, 2, 3, 19], [0, 1], [0, 1, 2], [5, 6], [0]] [(9, [0, 1, 2]), (19, [0, 1, 2, 3])] [(3, q_L9_3)]⟩
def nt9 : Nat := 46
theorem st9 : FnSt Try.prog 9 fd9 nt9 := ⟨enters_of Try.func9 (by kernel_rfl) (c := bod Try.f9.body) rfl, ⟨Try.f9, Try.func9, rfl, rfl, rfl, by kernel_rfl⟩, by kernel_rfl⟩
noncomputable def fd10 : FnDef := ⟨bod Try.f10.body, [ResultVar.cell 2 28], 1, ann [[0, 2], [2]] [] []⟩
def nt10 : Nat := 8
theorem st10 : FnSt Try.prog 10 fd10 nt10 := ⟨enters_of Try.func10 (by kernel_rfl) (c := bod Try.f10.body) rfl, ⟨Try.f10, Try.func10, rfl, rfl, rfl, by kernel_rfl⟩, by kernel_rfl⟩
noncomputable def fd11 : FnDef := ⟨bod Try.f11.body, [ResultVar.tmp 4], 2, ann [[0, 1], [1, 5], [1, 5, 10], [5], [4]] [(10, [5])] []⟩
def nt11 : Nat := 15
theorem st11 : FnSt Try.prog 11 fd11 nt11 := ⟨enters_of Try.func11 (by kernel_rfl) (c := bod Try.f11.body) rfl, ⟨Try.f11, Try.func11, rfl, rfl, rfl, by kernel_rfl⟩, by kernel_rfl⟩
noncomputable def fd12 : FnDef := ⟨bod Try.f12.body, [ResultVar.tmp 2, ResultVar.tmp 3], 1, ann [[1], [1, 2], [2, 3]] [] []⟩
def nt12 : Nat := 13
theorem st12 : FnSt Try.prog 12 fd12 nt12 := ⟨enters_of Try.func12 (by kernel_rfl) (c := bod Try.f12.body) rfl, ⟨Try.f12, Try.func12, rfl, rfl, rfl, by kernel_rfl⟩, by kernel_rfl⟩
noncomputable def fd13 : FnDef := ⟨bod Try.f13.body, [ResultVar.cell 4 28, ResultVar.tmp 5], 2, ann [[2, 3, 4], [3, 4, 6], [3, 4, 6, 9], [3, 4, 6, 38], [4, 5], [3, 4, 6, 68], [3, 4, 6], [3, 4, 6, 89], [3, 4, 6, 89, 90], [4, 6], [3, 4, 6, 89, 95], [4, 6], [3, 4, 6, 89, 100], [4, 6], [3, 4, 6, 89, 105], [4, 6], [3, 4, 6, 110], [4, 6], [4, 5]] [(9, [3, 4, 6]), (38, [3, 4, 6]), (68, [3, 4, 6]), (90, [4, 6]), (95, [4, 6]), (100, [4, 6]), (105, [4, 6]), (110, [4, 6])] []⟩
def nt13 : Nat := 119
theorem st13 : FnSt Try.prog 13 fd13 nt13 := ⟨enters_of Try.func13 (by kernel_rfl) (c := bod Try.f13.body) rfl, ⟨Try.f13, Try.func13, rfl, rfl, rfl, by kernel_rfl⟩, by kernel_rfl⟩
noncomputable def fd14 : FnDef := ⟨bod Try.f14.body, [ResultVar.cell 4 28, ResultVar.tmp 5, ResultVar.tmp 6], 2, ann [[1, 2, 4], [1, 4, 7], [1, 4, 7, 14], [4, 5, 6], [1, 4, 7, 25], [4, 5, 6], [4, 7], [4, 7, 8], [4, 7, 8], [4, 8, 10], [4, 5, 6]] [(14, [1, 4, 7]), (25, [1, 4, 7])] []⟩
def nt14 : Nat := 76
theorem st14 : FnSt Try.prog 14 fd14 nt14 := ⟨enters_of Try.func14 (by kernel_rfl) (c := bod Try.f14.body) rfl, ⟨Try.f14, Try.func14, rfl, rfl, rfl, by kernel_rfl⟩, by kernel_rfl⟩
noncomputable def fd15 : FnDef := ⟨bod Try.f15.body, [ResultVar.cell 2 28, ResultVar.tmp 3], 1, ann [[1, 2], [2, 4], [2, 4, 12], [2, 4], [2, 3], [2, 4], [2, 4, 50], [2, 4], [2, 3]] [(12, [2, 4]), (50, [2, 4])] []⟩
def nt15 : Nat := 57
theorem st15 : FnSt Try.prog 15 fd15 nt15 := ⟨enters_of Try.func15 (by kernel_rfl) (c := bod Try.f15.body) rfl, ⟨Try.f15, Try.func15, rfl, rfl, rfl, by kernel_rfl⟩, by kernel_rfl⟩
noncomputable def fd16 : FnDef := ⟨bod Try.f16.body, [ResultVar.tmp 4], 2, ann [[2, 3], [4]] [] []⟩
def nt16 : Nat := 94
theorem st16 : FnSt Try.prog 16 fd16 nt16 := ⟨enters_of Try.func16 (by kernel_rfl) (c := bod Try.f16.body) rfl, ⟨Try.f16, Try.func16, rfl, rfl, rfl, by kernel_rfl⟩, by kernel_rfl⟩
def q_L17_3 : LoopA := ⟨117003, [1, 4, 5, 6], [1, 4, 5], [0, 1], ⟨[3, 0, 0, 3], [none, none, none, none], [(28, [6])], [false, false, false, false], [], false⟩, ⟨[3, 0, 0], [none, none, none], [], [false, false, false], [], false⟩⟩
def q_L17_8 : LoopA := ⟨117008, [1, 4, 5, 7], [4, 5], [0, 1], ⟨[3, 0, 0, 3], [none, none, none, none], [], [false, false, false, false], [], false⟩, ⟨[0, 0], [none, none], [], [false, false], [], false⟩⟩
noncomputable def fd17 : FnDef := ⟨bod Try.f17.body, [ResultVar.cell 4 28], 2, ann [[0, 1, 4], [1, 4, 5], [1, 4, 5, 6], [1, 4, 5, 6, 15], [1, 4, 5, 6], [1, 4, 5, 6], [1, 4, 5], [1, 4, 5, 7], [1, 4, 5, 7, 37], [1, 4, 5, 7], [1, 4, 5, 7], [4]] [(15, [1, 4, 5, 6]), (37, [1, 4, 5, 7])] [(3, q_L17_3), (8, q_L17_8)]⟩
def nt17 : Nat := 52
theorem st17 : FnSt Try.prog 17 fd17 nt17 := ⟨enters_of Try.func17 (by kernel_rfl) (c := bod Try.f17.body) rfl, ⟨Try.f17, Try.func17, rfl, rfl, rfl, by kernel_rfl⟩, by kernel_rfl⟩
noncomputable def fd18 : FnDef := ⟨bod Try.f18.body, [ResultVar.cell 6 28, ResultVar.tmp 7], 3, ann [[1, 2, 3, 6], [1, 2, 6, 8], [1, 2, 6, 8, 9], [1, 2, 6, 8, 42], [6, 7], [1, 2, 6, 8, 11], [1, 2, 6, 8, 11], [6, 8], [6, 7]] [(42, [1, 2, 6, 8])] []⟩
def nt18 : Nat := 89
theorem st18 : FnSt Try.prog 18 fd18 nt18 := ⟨enters_of Try.func18 (by kernel_rfl) (c := bod Try.f18.body) rfl, ⟨Try.f18, Try.func18, rfl, rfl, rfl, by kernel_rfl⟩, by kernel_rfl⟩
noncomputable def fd22 : FnDef := ⟨bod Try.f22.body, [ResultVar.cell 2 28], 1, ann [[1, 2], [2]] [] []⟩
def nt22 : Nat := 21
theorem st22 : FnSt Try.prog 22 fd22 nt22 := ⟨enters_of Try.func22 (by kernel_rfl) (c := bod Try.f22.body) rfl, ⟨Try.f22, Try.func22, rfl, rfl, rfl, by kernel_rfl⟩, by kernel_rfl⟩
noncomputable def fd23 : FnDef := ⟨bod Try.f23.body, [ResultVar.tmp 4], 2, ann [[0, 1], [0, 5], [0, 5, 23], [4], [4]] [(23, [0])] []⟩
def nt23 : Nat := 36
theorem st23 : FnSt Try.prog 23 fd23 nt23 := ⟨enters_of Try.func23 (by kernel_rfl) (c := bod Try.f23.body) rfl, ⟨Try.f23, Try.func23, rfl, rfl, rfl, by kernel_rfl⟩, by kernel_rfl⟩
noncomputable def fd24 : FnDef := ⟨bod Try.f24.body, [ResultVar.tmp 2], 1, ann [[1], [1], [2]] [] []⟩
def nt24 : Nat := 10
theorem st24 : FnSt Try.prog 24 fd24 nt24 := ⟨enters_of Try.func24 (by kernel_rfl) (c := bod Try.f24.body) rfl, ⟨Try.f24, Try.func24, rfl, rfl, rfl, by kernel_rfl⟩, by kernel_rfl⟩
noncomputable def fd25 : FnDef := ⟨bod Try.f25.body, [ResultVar.cell 2 28, ResultVar.tmp 3], 1, ann [[0, 2], [0, 2], [2, 3]] [] []⟩
def nt25 : Nat := 22
theorem st25 : FnSt Try.prog 25 fd25 nt25 := ⟨enters_of Try.func25 (by kernel_rfl) (c := bod Try.f25.body) rfl, ⟨Try.f25, Try.func25, rfl, rfl, rfl, by kernel_rfl⟩, by kernel_rfl⟩
noncomputable def fd26 : FnDef := ⟨bod Try.f26.body, [], 2, ann [[0, 3], [0, 3, 4, 5], [0, 3, 6], [0, 3, 6, 59], [0, 3, 6], []] [(59, [0, 3, 6])] []⟩
def nt26 : Nat := 76
theorem st26 : FnSt Try.prog 26 fd26 nt26 := ⟨enters_of Try.func26 (by kernel_rfl) (c := bod Try.f26.body) rfl, ⟨Try.f26, Try.func26, rfl, rfl, rfl, by kernel_rfl⟩, by kernel_rfl⟩
noncomputable def fd27 : FnDef := ⟨bod Try.f27.body, [], 2, ann [[0, 3], [0, 3, 29], [0], [0, 4], [0, 4, 41, 42], [0, 4, 41, 42, 43], [0, 4, 6, 41, 42], [0, 4, 41, 42, 45], [0, 4, 41, 42], [0, 4, 41, 42], [0, 50], [0], [0], [0, 7], [0, 7], [0], []] [(29, [0, 3]), (43, [0, 4, 41, 42]), (45, [0, 4, 41, 42]), (50, [0])] []⟩
def nt27 : Nat := 108
theorem st27 : FnSt Try.prog 27 fd27 nt27 := ⟨enters_of Try.func27 (by kernel_rfl) (c := bod Try.f27.body) rfl, ⟨Try.f27, Try.func27, rfl, rfl, rfl, by kernel_rfl⟩, by kernel_rfl⟩
def q_L28_10 : LoopA := ⟨128010, [0, 3, 82, 83, 84], [0, 3], [0, 1], ⟨[65, 0, 24, 3, 3], [none, none, none, none, none], [], [false, false, false, false, false], [], false⟩, ⟨[65, 0], [none, none], [], [false, false], [], false⟩⟩
noncomputable def fd28 : FnDef := ⟨bod Try.f28.body, [], 2, ann [[0, 3], [0, 3, 17], [], [0, 3], [0, 3, 4], [0, 3, 4, 38], [], [0, 3, 4, 56], [], [0, 3, 82, 83, 84], [0, 3, 82, 83, 84, 85], [0, 3, 6, 7, 82, 83, 84], [0, 3, 7, 8, 82, 83, 84], [0, 3, 7, 8, 82, 83, 84, 120], [0, 3, 82, 83, 84], [0, 3, 82, 83, 84], [0, 3, 9], [0, 3, 9, 156], [0, 3, 9], []] [(17, [0, 3]), (38, [0, 3]), (56, [0, 3]), (85, [0, 3, 82, 83, 84]), (120, [0, 3, 7, 8, 82, 83, 84]), (156, [0, 3, 9])] [(10, q_L28_10)]⟩
def nt28 : Nat := 176
theorem st28 : FnSt Try.prog 28 fd28 nt28 := ⟨enters_of Try.func28 (by kernel_rfl) (c := bod Try.f28.body) rfl, ⟨Try.f28, Try.func28, rfl, rfl, rfl, by kernel_rfl⟩, by kernel_rfl⟩
noncomputable def fd29 : FnDef := ⟨bod Try.f29.body, [], 2, ann [[0, 3], [0, 3, 21], [0, 3, 23], [0, 3], [0], [], [0, 3], [0, 3, 4], [0, 3, 107], []] [(21, [0, 3]), (23, [0, 3]), (107, [])] []⟩
def nt29 : Nat := 112
theorem st29 : FnSt Try.prog 29 fd29 nt29 := ⟨enters_of Try.func29 (by kernel_rfl) (c := bod Try.f29.body) rfl, ⟨Try.f29, Try.func29, rfl, rfl, rfl, by kernel_rfl⟩, by kernel_rfl⟩
noncomputable def fd30 : FnDef := ⟨bod Try.f30.body, [], 2, ann [[0, 3], [0, 3, 15], [], [0, 3], [0, 3, 4], [0, 3, 4, 40], [0, 3, 4, 5], [0, 3, 4, 5, 7], [0, 3, 4, 7, 73], [0, 3, 4, 7], [0, 3, 4], [0, 3, 4], []] [(15, [0, 3]), (40, [0, 3, 4]), (73, [0, 3, 4, 7])] []⟩
def nt30 : Nat := 126
theorem st30 : FnSt Try.prog 30 fd30 nt30 := ⟨enters_of Try.func30 (by kernel_rfl) (c := bod Try.f30.body) rfl, ⟨Try.f30, Try.func30, rfl, rfl, rfl, by kernel_rfl⟩, by kernel_rfl⟩
noncomputable def fd31 : FnDef := ⟨bod Try.f31.body, [], 2, ann [[0, 1, 5], [0, 1, 5, 6], [0, 1, 4, 5], [0, 1, 4, 5, 14], [0, 1, 5], [0, 1, 5]] [(6, [0, 1, 5]), (14, [0, 1, 5])] []⟩
def nt31 : Nat := 19
theorem st31 : FnSt Try.prog 31 fd31 nt31 := ⟨enters_of Try.func31 (by kernel_rfl) (c := bod Try.f31.body) rfl, ⟨Try.f31, Try.func31, rfl, rfl, rfl, by kernel_rfl⟩, by kernel_rfl⟩
noncomputable def fd32 : FnDef := ⟨bod Try.f32.body, [], 2, ann [[0, 1, 18], [], [0, 1, 4], [0, 1, 4, 5], []] [(18, [0, 1])] []⟩
def nt32 : Nat := 87
theorem st32 : FnSt Try.prog 32 fd32 nt32 := ⟨enters_of Try.func32 (by kernel_rfl) (c := bod Try.f32.body) rfl, ⟨Try.f32, Try.func32, rfl, rfl, rfl, by kernel_rfl⟩, by kernel_rfl⟩
noncomputable def fd33 : FnDef := ⟨bod Try.f33.body, [], 1, ann [[1], [1], [1], [1], [1], [1, 2, 3], []] [] []⟩
def nt33 : Nat := 56
theorem st33 : FnSt Try.prog 33 fd33 nt33 := ⟨enters_of Try.func33 (by kernel_rfl) (c := bod Try.f33.body) rfl, ⟨Try.f33, Try.func33, rfl, rfl, rfl, by kernel_rfl⟩, by kernel_rfl⟩
def q_L34_4 : LoopA := ⟨134004, [0, 1, 4, 12, 13], [4], [], ⟨[24, 24, 4, 3, 3], [none, none, none, none, none], [], [false, false, false, false, false], [], false⟩, ⟨[4], [none], [], [false], [], false⟩⟩
noncomputable def fd34 : FnDef := ⟨bod Try.f34.body, [ResultVar.tmp 4], 2, ann [[0, 1, 4], [0, 1, 4, 10], [4], [0, 1, 4, 12, 13], [0, 1, 4, 12, 13, 14], [0, 1, 4, 5, 12, 13], [0, 1, 4, 12, 13, 24], [4], [0, 1, 4, 12, 13], [4]] [(10, [0, 1, 4]), (14, [0, 1, 4, 12, 13]), (24, [0, 1, 4, 12, 13])] [(4, q_L34_4)]⟩
def nt34 : Nat := 26
theorem st34 : FnSt Try.prog 34 fd34 nt34 := ⟨enters_of Try.func34 (by kernel_rfl) (c := bod Try.f34.body) rfl, ⟨Try.f34, Try.func34, rfl, rfl, rfl, by kernel_rfl⟩, by kernel_rfl⟩
noncomputable def fd35 : FnDef := ⟨bod Try.f35.body, [ResultVar.tmp 2], 1, ann [[0], [0, 3], [3], [2]] [] []⟩
def nt35 : Nat := 11
theorem st35 : FnSt Try.prog 35 fd35 nt35 := ⟨enters_of Try.func35 (by kernel_rfl) (c := bod Try.f35.body) rfl, ⟨Try.f35, Try.func35, rfl, rfl, rfl, by kernel_rfl⟩, by kernel_rfl⟩
noncomputable def fd46 : FnDef := ⟨bod Try.f46.body, [], 3, ann [[0, 1, 5], [0, 5], []] [] []⟩
def nt46 : Nat := 30
theorem st46 : FnSt Try.prog 46 fd46 nt46 := ⟨enters_of Try.func46 (by kernel_rfl) (c := bod Try.f46.body) rfl, ⟨Try.f46, Try.func46, rfl, rfl, rfl, by kernel_rfl⟩, by kernel_rfl⟩
noncomputable def fd47 : FnDef := ⟨bod Try.f47.body, [], 4, ann [[]] [] []⟩
def nt47 : Nat := 14
theorem st47 : FnSt Try.prog 47 fd47 nt47 := ⟨enters_of Try.func47 (by kernel_rfl) (c := bod Try.f47.body) rfl, ⟨Try.f47, Try.func47, rfl, rfl, rfl, by kernel_rfl⟩, by kernel_rfl⟩
def q_L48_1 : LoopA := ⟨148001, [0, 12, 13, 14], [], [0], ⟨[65, 24, 3, 3], [none, none, none, none], [], [false, false, false, false], [], false⟩, ⟨[], [], [], [], [], false⟩⟩
def q_L48_5 : LoopA := ⟨148005, [0, 3, 4, 5, 12, 13, 14, 31, 32], [0, 3, 4, 5, 12, 13, 14], [0, 1], ⟨[65, 0, 3, 3, 24, 3, 3, 26, 3], [none, none, none, none, none, none, none, none, none], [], [false, false, false, false, false, false, false, false, false], [], false⟩, ⟨[65, 0, 3, 3, 24, 3, 3], [none, none, none, none, none, none, none], [], [false, false, false, false, false, false, false], [], false⟩⟩
noncomputable def fd48 : FnDef := ⟨bod Try.f48.body, [], 1, ann [[0, 12, 13, 14], [0, 12, 13, 14, 15], [0, 2, 3, 12, 13, 14], [0, 3, 4, 5, 12, 13, 14], [0, 3, 4, 5, 12, 13, 14, 31, 32], [0, 3, 4, 5, 12, 13, 14, 31, 32, 33], [0, 3, 4, 5, 7, 12, 13, 14, 31, 32], [0, 3, 4, 5, 12, 13, 14, 31, 32, 37], [0, 3, 4, 5, 12, 13, 14, 31, 32], [0, 3, 4, 5, 12, 13, 14, 31, 32], [0, 4, 12, 13, 14, 52], [0, 12, 13, 14], [0, 12, 13, 14]] [(15, [0, 12, 13, 14]), (33, [0, 3, 4, 5, 12, 13, 14, 31, 32]), (37, [0, 3, 4, 5, 12, 13, 14, 31, 32]), (52, [0, 12, 13, 14])] [(1, q_L48_1), (5, q_L48_5)]⟩
def nt48 : Nat := 65
theorem st48 : FnSt Try.prog 48 fd48 nt48 := ⟨enters_of Try.func48 (by kernel_rfl) (c := bod Try.f48.body) rfl, ⟨Try.f48, Try.func48, rfl, rfl, rfl, by kernel_rfl⟩, by kernel_rfl⟩
noncomputable def fd49 : FnDef := ⟨bod Try.f49.body, [], 4, ann [[]] [] []⟩
def nt49 : Nat := 11
theorem st49 : FnSt Try.prog 49 fd49 nt49 := ⟨enters_of Try.func49 (by kernel_rfl) (c := bod Try.f49.body) rfl, ⟨Try.f49, Try.func49, rfl, rfl, rfl, by kernel_rfl⟩, by kernel_rfl⟩
def s_empty : ByteArray := ⟨#[]⟩
def s_x : ByteArray := ⟨#[120]⟩
def s_snap : ByteArray := ⟨#[115, 110, 97, 112]⟩
def s_again : ByteArray := ⟨#[97, 103, 97, 105, 110]⟩
def s_far : ByteArray := ⟨#[102, 97, 114]⟩
end Go.Proofs.Ytoicjnggljeicaa
