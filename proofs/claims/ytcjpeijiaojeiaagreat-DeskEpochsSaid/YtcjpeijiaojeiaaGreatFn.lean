/- By program (gen.py): the functions, with the slots that are live behind each region; that they are the program's. -/
import Derived.Test.YtcjpeijiaojeiaaGreatTl
namespace Go.Proofs.YtcjpeijiaojeiaaGreat
open Go Go.Ev

def sls : List (Nat × List (Nat × Nat)) := [(24, [(0, 65)]), (25, [(0, 153)]), (26, [(0, 43)]), (27, [(0, 3)]), (28, [(0, 65), (1, 153), (2, 43), (3, 3)]), (29, [(0, 65), (1, 153), (2, 43), (3, 3)]), (30, [(0, 66)]), (31, [(0, 142)]), (32, [(0, 145)]), (33, [(0, 59)]), (34, [(0, 129)]), (35, [(0, 149)]), (36, [(0, 66), (1, 142), (2, 145), (3, 59), (4, 129), (5, 149)]), (37, [(0, 66), (1, 142), (2, 145), (3, 59), (4, 129), (5, 149)]), (38, [(0, 66), (1, 142), (2, 145), (3, 59), (4, 129), (5, 149), (6, 66), (7, 142), (8, 145), (9, 59), (10, 129), (11, 149), (12, 66), (13, 142), (14, 145), (15, 59), (16, 129), (17, 149)]), (39, [(0, 61)]), (41, [(0, 133)]), (42, [(4, 133), (5, 153), (6, 3)]), (43, [(4, 133), (5, 153), (6, 3)]), (44, [(6, 133), (7, 153), (8, 3)]), (45, [(6, 133), (7, 153), (8, 3)]), (46, [(8, 133), (9, 153), (10, 3)]), (47, [(8, 133), (9, 153), (10, 3)]), (48, [(8, 133), (9, 153), (10, 3), (19, 133), (20, 153), (21, 3), (30, 133), (31, 153), (32, 3), (41, 133), (42, 153), (43, 3), (52, 133), (53, 153), (54, 3), (63, 133), (64, 153), (65, 3)]), (49, [(0, 65), (1, 153), (2, 43), (3, 3), (4, 66), (5, 142), (6, 145), (7, 59), (8, 129), (9, 149), (10, 66), (11, 142), (12, 145), (13, 59), (14, 129), (15, 149), (16, 66), (17, 142), (18, 145), (19, 59), (20, 129), (21, 149), (22, 61), (31, 133), (32, 153), (33, 3), (42, 133), (43, 153), (44, 3), (53, 133), (54, 153), (55, 3), (64, 133), (65, 153), (66, 3), (75, 133), (76, 153), (77, 3), (86, 133), (87, 153), (88, 3), (89, 66)]), (50, [(0, 65), (1, 153), (2, 43), (3, 3), (4, 66), (5, 142), (6, 145), (7, 59), (8, 129), (9, 149), (10, 66), (11, 142), (12, 145), (13, 59), (14, 129), (15, 149), (16, 66), (17, 142), (18, 145), (19, 59), (20, 129), (21, 149), (22, 61), (31, 133), (32, 153), (33, 3), (42, 133), (43, 153), (44, 3), (53, 133), (54, 153), (55, 3), (64, 133), (65, 153), (66, 3), (75, 133), (76, 153), (77, 3), (86, 133), (87, 153), (88, 3), (89, 66)]), (54, [(0, 105)]), (55, [(5, 105), (6, 61)]), (56, [(5, 105), (6, 61)]), (60, [(10, 59)]), (61, [(10, 59)]), (69, [(0, 80)]), (70, [(0, 4)]), (77, [(0, 56)]), (79, [(3, 105), (4, 61)]), (80, [(3, 105), (4, 61)]), (99, [(0, 65), (1, 153), (2, 43), (3, 3), (4, 66), (5, 142), (6, 145), (7, 59), (8, 129), (9, 149), (10, 66), (11, 142), (12, 145), (13, 59), (14, 129), (15, 149), (16, 66), (17, 142), (18, 145), (19, 59), (20, 129), (21, 149), (22, 61), (31, 133), (32, 153), (33, 3), (42, 133), (43, 153), (44, 3), (53, 133), (54, 153), (55, 3), (64, 133), (65, 153), (66, 3), (75, 133), (76, 153), (77, 3), (86, 133), (87, 153), (88, 3), (89, 66), (96, 105), (97, 61)]), (100, [(0, 65), (1, 153), (2, 43), (3, 3), (4, 66), (5, 142), (6, 145), (7, 59), (8, 129), (9, 149), (10, 66), (11, 142), (12, 145), (13, 59), (14, 129), (15, 149), (16, 66), (17, 142), (18, 145), (19, 59), (20, 129), (21, 149), (22, 61), (31, 133), (32, 153), (33, 3), (42, 133), (43, 153), (44, 3), (53, 133), (54, 153), (55, 3), (64, 133), (65, 153), (66, 3), (75, 133), (76, 153), (77, 3), (86, 133), (87, 153), (88, 3), (89, 66), (96, 105), (97, 61)]), (125, [(0, 47)]), (156, [(0, 25)]), (158, [(0, 9)])]
def sl : Sl := fun t => match Ev.look sls t with | some l => l | none => []
def shs : List (Nat × (Sh × Sh)) := [(38, (⟨[50], [none], [], [true], [], false⟩, ⟨[50], [none], [], [false], [], false⟩)), (40, (⟨[98], [none], [], [false], [], false⟩, ⟨[45], [none], [(100, [0, 1, 2, 3, 4, 5, 6, 7, 8, 9, 10, 11, 12, 13, 14, 15, 16, 17, 18, 19, 20, 21])], [false], [(100, [4, 5, 6, 7, 8, 9, 10, 11, 12, 13, 14, 15, 16, 17, 18, 19, 20, 21, 22, 31, 32, 33, 42, 43, 44, 53, 54, 55, 64, 65, 66, 75, 76, 77, 86, 87, 88, 89])], true⟩)), (41, (⟨[43], [none], [], [true], [], false⟩, ⟨[43], [none], [], [false], [], false⟩)), (77, (⟨[29], [none], [], [true], [], false⟩, ⟨[29], [none], [], [false], [], false⟩)), (78, (⟨[39], [none], [], [true], [], false⟩, ⟨[39], [none], [], [false], [], false⟩)), (84, (⟨[98], [none], [], [false], [], false⟩, ⟨[45], [none], [], [false], [], false⟩)), (85, (⟨[98], [none], [], [false], [], false⟩, ⟨[45], [none], [(100, [0, 1, 2, 3])], [false], [(100, [4, 5, 6, 7, 8, 9, 10, 11, 12, 13, 14, 15, 16, 17, 18, 19, 20, 21, 22, 31, 32, 33, 42, 43, 44, 53, 54, 55, 64, 65, 66, 75, 76, 77, 86, 87, 88, 89])], true⟩)), (86, (⟨[98], [none], [], [false], [], false⟩, ⟨[45], [none], [(100, [0, 1, 2, 3, 4, 5, 6, 7, 8, 9, 10, 11, 12, 13, 14, 15, 16, 17, 18, 19, 20, 21])], [false], [(100, [22, 31, 32, 33, 42, 43, 44, 53, 54, 55, 64, 65, 66, 75, 76, 77, 86, 87, 88, 89])], true⟩)), (87, (⟨[98], [none], [], [false], [], false⟩, ⟨[45], [none], [(100, [0, 1, 2, 3])], [false], [(100, [4, 5, 6, 7, 8, 9, 10, 11, 12, 13, 14, 15, 16, 17, 18, 19, 20, 21, 22, 31, 32, 33, 42, 43, 44, 53, 54, 55, 64, 65, 66, 75, 76, 77, 86, 87, 88, 89])], true⟩)), (88, (⟨[98], [none], [], [false], [], false⟩, ⟨[45], [none], [(100, [0, 1, 2, 3])], [false], [(100, [4, 5, 6, 7, 8, 9, 10, 11, 12, 13, 14, 15, 16, 17, 18, 19, 20, 21, 22, 31, 32, 33, 42, 43, 44, 53, 54, 55, 64, 65, 66, 75, 76, 77, 86, 87, 88, 89])], true⟩)), (89, (⟨[98], [none], [], [false], [], false⟩, ⟨[45], [none], [(100, [0, 1, 2, 3])], [false], [(100, [89, 4, 5, 6, 7, 8, 9, 10, 11, 12, 13, 14, 15, 16, 17, 18, 19, 20, 21, 22, 31, 32, 33, 42, 43, 44, 53, 54, 55, 64, 65, 66, 75, 76, 77, 86, 87, 88])], true⟩)), (90, (⟨[98], [none], [], [false], [], false⟩, ⟨[45], [none], [], [false], [], false⟩)), (124, (⟨[29], [none], [], [true], [], false⟩, ⟨[29], [none], [], [false], [], false⟩)), (132, (⟨[98, 61], [none, none], [], [false, false], [], false⟩, ⟨[40], [none], [(100, [4, 5, 6, 7, 8, 9, 10, 11, 12, 13, 14, 15, 16, 17, 18, 19, 20, 21, 0, 1, 2, 3])], [false], [(100, [22, 31, 32, 33, 42, 43, 44, 53, 54, 55, 64, 65, 66, 75, 76, 77, 86, 87, 88, 89])], true⟩)), (138, (⟨[43], [none], [], [true], [], false⟩, ⟨[43], [none], [], [false], [], false⟩)), (150, (⟨[25], [none], [], [true], [], false⟩, ⟨[25], [none], [], [false], [], false⟩)), (151, (⟨[43], [none], [], [true], [], false⟩, ⟨[43], [none], [], [false], [], false⟩)), (156, (⟨[204, 205, 105], [none, none, none], [], [false, false, false], [], false⟩, ⟨[40], [none], [(29, [1]), (43, [5])], [false], [(29, [0, 2, 3]), (43, [4, 6])], true⟩)), (188, (⟨[37], [none], [], [true], [], false⟩, ⟨[37], [none], [], [false], [], false⟩))]
def sh : FuncId → Sh × Sh := fun f => match Ev.look shs f with | some l => l | none => (⟨[], [], [], [], [], false⟩, ⟨[], [], [], [], [], false⟩)
def q_L3_6 : LoopA := ⟨103006, [0, 2, 3, 4], [0, 2, 3], [0], ⟨[3, 4, 0, 3], [none, none, none, none], [], [false, false, false, false], [], false⟩, ⟨[3, 4, 0], [none, none, none], [], [false, false, false], [], false⟩⟩
def q_L3_14 : LoopA := ⟨103014, [0, 2, 3, 4, 9], [0, 2, 3, 4], [0], ⟨[3, 4, 0, 3, 3], [none, none, none, none, none], [], [false, false, false, false, false], [], false⟩, ⟨[3, 4, 0, 3], [none, none, none, none], [], [false, false, false, false], [], false⟩⟩
noncomputable def fd3 : FnDef := ⟨bod Tryz.f3.body, [ResultVar.tmp 2], 1, ann [[0, 2], [0, 2, 20], [2], [0, 2], [0, 2, 3], [0, 2, 3, 4], [0, 2, 3, 4, 27], [0, 2, 3, 4], [0, 2, 3, 4, 5, 6], [0, 2, 3, 4, 6, 7, 8], [0, 2, 3, 4, 7, 60], [0, 2, 3], [0, 2, 3, 4], [0, 2, 3, 4, 9], [0, 2, 3, 4, 9, 65], [0, 2, 3, 4, 9], [0, 2, 3, 4, 9, 11], [0, 2, 3, 4, 9, 11, 12], [0, 2, 3, 4, 9, 11, 12, 77], [0, 2, 3, 4, 9, 11, 12], [0, 2, 3, 4, 9, 11, 12, 80], [0, 2, 3, 4, 9, 11, 12], [0, 2, 3, 4, 9, 84], [0, 2, 3, 4], [0, 2, 3, 4, 87], [0, 2, 3, 4, 13, 14], [0, 2, 3, 4, 13, 14, 16], [0, 2, 3, 4, 13, 112], [0, 2, 3], [0, 2, 3, 4], [0, 3, 18], [2]] [(20, [0, 2]), (27, [0, 2, 3, 4]), (60, [0, 2, 3, 4, 7]), (65, [0, 2, 3, 4, 9]), (77, [0, 2, 3, 4, 9, 11, 12]), (80, [0, 2, 3, 4, 9, 11, 12]), (84, [0, 2, 3, 4, 9]), (87, [0, 2, 3, 4]), (112, [0, 2, 3, 4, 13])] [(6, q_L3_6), (14, q_L3_14)]⟩
def nt3 : Nat := 131
theorem st3 : FnSt Tryz.prog 3 fd3 nt3 := ⟨enters_of Tryz.func3 (by kernel_rfl) (c := bod Tryz.f3.body) rfl, ⟨Tryz.f3, Tryz.func3, rfl, rfl, rfl, by kernel_rfl⟩, by kernel_rfl⟩
noncomputable def fd15 : FnDef := ⟨bod Tryz.f15.body, [ResultVar.tmp 0], 0, ann [[], [1, 2], [2, 3, 4], [0]] [] []⟩
def nt15 : Nat := 41
theorem st15 : FnSt Tryz.prog 15 fd15 nt15 := ⟨enters_of Tryz.func15 (by kernel_rfl) (c := bod Tryz.f15.body) rfl, ⟨Tryz.f15, Tryz.func15, rfl, rfl, rfl, by kernel_rfl⟩, by kernel_rfl⟩
noncomputable def fd16 : FnDef := ⟨bod Tryz.f16.body, [ResultVar.tmp 4], 2, ann [[0, 1], [1, 5], [1, 5, 10], [5], [4]] [(10, [5])] []⟩
def nt16 : Nat := 15
theorem st16 : FnSt Tryz.prog 16 fd16 nt16 := ⟨enters_of Tryz.func16 (by kernel_rfl) (c := bod Tryz.f16.body) rfl, ⟨Tryz.f16, Tryz.func16, rfl, rfl, rfl, by kernel_rfl⟩, by kernel_rfl⟩
noncomputable def fd17 : FnDef := ⟨bod Tryz.f17.body, [ResultVar.cell 0 50], 0, ann [[0], [0]] [] []⟩
def nt17 : Nat := 3
theorem st17 : FnSt Tryz.prog 17 fd17 nt17 := ⟨enters_of Tryz.func17 (by kernel_rfl) (c := bod Tryz.f17.body) rfl, ⟨Tryz.f17, Tryz.func17, rfl, rfl, rfl, by kernel_rfl⟩, by kernel_rfl⟩
noncomputable def fd18 : FnDef := ⟨bod Tryz.f18.body, [ResultVar.cell 4 50, ResultVar.cell 5 45], 2, ann [[2, 3, 4, 5], [2, 3, 4, 5, 6], [2, 3, 4, 5, 6, 20], [4, 5], [2, 3, 4, 5, 32], [4, 5], [2, 3, 4, 5, 7], [2, 3, 4, 5, 7, 44], [2, 3, 4, 5, 7, 44, 45], [2, 3, 4, 5, 7, 44, 47], [2, 3, 4, 5, 7, 47], [2, 3, 4, 5, 7], [2, 3, 4, 5, 7, 8], [2, 3, 4, 5, 7, 8, 56], [4, 5], [2, 3, 4, 5, 7, 8, 68], [4, 5], [2, 3, 4, 5, 7, 78], [4, 5], [2, 3, 4, 5, 7, 9], [2, 3, 4, 5, 7, 9, 10], [2, 3, 4, 5, 7, 10, 11], [2, 3, 4, 5, 7, 10, 11, 100], [3, 4, 5, 7, 10, 11], [3, 4, 5, 7, 10, 11], [3, 4, 5, 10, 11, 104], [4, 5, 10, 11], [4, 5, 10, 11], [4, 5]] [(20, [2, 3, 4, 5]), (32, [2, 3, 4, 5]), (45, [2, 3, 4, 5, 7, 44]), (47, [2, 3, 4, 5, 7, 47]), (56, [2, 3, 4, 5, 7]), (68, [2, 3, 4, 5, 7]), (78, [2, 3, 4, 5, 7]), (100, [3, 4, 5, 7, 10, 11]), (104, [4, 5, 10, 11])] []⟩
def nt18 : Nat := 125
theorem st18 : FnSt Tryz.prog 18 fd18 nt18 := ⟨enters_of Tryz.func18 (by kernel_rfl) (c := bod Tryz.f18.body) rfl, ⟨Tryz.f18, Tryz.func18, rfl, rfl, rfl, by kernel_rfl⟩, by kernel_rfl⟩
noncomputable def fd36 : FnDef := ⟨bod Tryz.f36.body, [ResultVar.cell 4 50, ResultVar.tmp 5], 2, ann [[0, 1, 4], [4, 6, 7], [4, 6, 7, 15], [4, 5], [4, 5]] [(15, [4, 6])] []⟩
def nt36 : Nat := 20
theorem st36 : FnSt Tryz.prog 36 fd36 nt36 := ⟨enters_of Tryz.func36 (by kernel_rfl) (c := bod Tryz.f36.body) rfl, ⟨Tryz.f36, Tryz.func36, rfl, rfl, rfl, by kernel_rfl⟩, by kernel_rfl⟩
noncomputable def fd37 : FnDef := ⟨bod Tryz.f37.body, [ResultVar.cell 0 29], 0, ann [[0], [0, 1], [0]] [] []⟩
def nt37 : Nat := 11
theorem st37 : FnSt Tryz.prog 37 fd37 nt37 := ⟨enters_of Tryz.func37 (by kernel_rfl) (c := bod Tryz.f37.body) rfl, ⟨Tryz.f37, Tryz.func37, rfl, rfl, rfl, by kernel_rfl⟩, by kernel_rfl⟩
noncomputable def fd38 : FnDef := ⟨bod Tryz.f38.body, [ResultVar.cell 2 50], 1, ann [[1, 2], [1, 2], [1, 2, 19, 20], [1, 2, 19, 20, 21], [1, 2, 3, 4, 19, 20], [1, 2, 19, 20], [1, 2, 19, 20], [1, 2, 47], [1, 2, 47, 48], [1, 2, 5, 47], [1, 2, 47], [1, 2, 47], [2]] [(21, [1, 2, 19, 20]), (48, [1, 2, 47])] []⟩
def nt38 : Nat := 64
theorem st38 : FnSt Tryz.prog 38 fd38 nt38 := ⟨enters_of Tryz.func38 (by kernel_rfl) (c := bod Tryz.f38.body) rfl, ⟨Tryz.f38, Tryz.func38, rfl, rfl, rfl, by kernel_rfl⟩, by kernel_rfl⟩
noncomputable def fd39 : FnDef := ⟨bod Tryz.f39.body, [ResultVar.cell 2 45], 1, ann [[0, 2], [2]] [] []⟩
def nt39 : Nat := 5
theorem st39 : FnSt Tryz.prog 39 fd39 nt39 := ⟨enters_of Tryz.func39 (by kernel_rfl) (c := bod Tryz.f39.body) rfl, ⟨Tryz.f39, Tryz.func39, rfl, rfl, rfl, by kernel_rfl⟩, by kernel_rfl⟩
noncomputable def fd40 : FnDef := ⟨bod Tryz.f40.body, [ResultVar.cell 2 45], 1, ann [[0, 2], [0, 2, 7], [0, 2, 7, 8], [2], [0, 2, 7, 12], [2], [0, 2, 7, 16], [2], [0, 2, 7, 20], [2], [0, 2, 7, 24], [2], [0, 2, 28], [2], [2]] [(8, [0, 2]), (12, [0, 2]), (16, [0, 2]), (20, [0, 2]), (24, [0, 2]), (28, [0, 2])] []⟩
def nt40 : Nat := 34
theorem st40 : FnSt Tryz.prog 40 fd40 nt40 := ⟨enters_of Tryz.func40 (by kernel_rfl) (c := bod Tryz.f40.body) rfl, ⟨Tryz.f40, Tryz.func40, rfl, rfl, rfl, by kernel_rfl⟩, by kernel_rfl⟩
noncomputable def fd41 : FnDef := ⟨bod Tryz.f41.body, [ResultVar.cell 2 43], 1, ann [[1, 2], [1, 2], [2]] [] []⟩
def nt41 : Nat := 16
theorem st41 : FnSt Tryz.prog 41 fd41 nt41 := ⟨enters_of Tryz.func41 (by kernel_rfl) (c := bod Tryz.f41.body) rfl, ⟨Tryz.f41, Tryz.func41, rfl, rfl, rfl, by kernel_rfl⟩, by kernel_rfl⟩
noncomputable def fd43 : FnDef := ⟨bod Tryz.f43.body, [ResultVar.tmp 2], 1, ann [[1], [2]] [] []⟩
def nt43 : Nat := 45
theorem st43 : FnSt Tryz.prog 43 fd43 nt43 := ⟨enters_of Tryz.func43 (by kernel_rfl) (c := bod Tryz.f43.body) rfl, ⟨Tryz.f43, Tryz.func43, rfl, rfl, rfl, by kernel_rfl⟩, by kernel_rfl⟩
def q_L44_2 : LoopA := ⟨144002, [1, 2, 4, 5], [4], [0], ⟨[9, 0, 3, 3], [none, none, none, none], [], [false, false, false, false], [], false⟩, ⟨[3], [none], [], [false], [], false⟩⟩
noncomputable def fd44 : FnDef := ⟨bod Tryz.f44.body, [ResultVar.tmp 4], 2, ann [[1, 2, 4], [1, 2, 4, 5], [1, 2, 4, 5, 10], [1, 2, 4, 5], [1, 2, 4, 5, 20], [4], [4]] [(10, [1, 2, 4, 5]), (20, [1, 2, 4, 5])] [(2, q_L44_2)]⟩
def nt44 : Nat := 22
theorem st44 : FnSt Tryz.prog 44 fd44 nt44 := ⟨enters_of Tryz.func44 (by kernel_rfl) (c := bod Tryz.f44.body) rfl, ⟨Tryz.f44, Tryz.func44, rfl, rfl, rfl, by kernel_rfl⟩, by kernel_rfl⟩
def q_L73_4 : LoopA := ⟨173004, [0, 2, 3], [2], [], ⟨[9, 4, 3], [none, none, none], [], [false, false, false], [], false⟩, ⟨[4], [none], [], [false], [], false⟩⟩
noncomputable def fd73 : FnDef := ⟨bod Tryz.f73.body, [ResultVar.tmp 2], 1, ann [[0, 2], [0, 2, 6], [2], [0, 2, 3], [0, 2, 3, 10], [0, 2, 3], [0, 2, 3, 22], [2], [2]] [(6, [0, 2]), (10, [0, 2, 3]), (22, [0, 2, 3])] [(4, q_L73_4)]⟩
def nt73 : Nat := 23
theorem st73 : FnSt Tryz.prog 73 fd73 nt73 := ⟨enters_of Tryz.func73 (by kernel_rfl) (c := bod Tryz.f73.body) rfl, ⟨Tryz.f73, Tryz.func73, rfl, rfl, rfl, by kernel_rfl⟩, by kernel_rfl⟩
def q_L75_5 : LoopA := ⟨175005, [1, 4, 5, 6, 13, 14, 15], [1, 4, 5, 6], [0, 1, 2, 3, 4, 5, 7, 8, 9], ⟨[3, 0, 40, 0, 24, 3, 3], [none, none, none, none, none, none, none], [], [false, false, false, false, false, false, false], [], false⟩, ⟨[3, 0, 40, 0], [none, none, none, none], [], [false, false, false, false], [], false⟩⟩
noncomputable def fd75 : FnDef := ⟨bod Tryz.f75.body, [ResultVar.cell 4 29, ResultVar.tmp 5], 2, ann [[0, 1, 4, 5], [0, 1, 4, 5, 11], [4, 5], [0, 1, 4, 5, 6], [1, 4, 5, 6, 13, 14, 15], [1, 4, 5, 6, 13, 14, 15, 16], [1, 4, 5, 6, 8, 13, 14, 15], [1, 4, 5, 6, 8, 13, 14, 15, 19], [1, 4, 5, 6], [1, 4, 5, 6, 8, 13, 14, 15, 24], [1, 4, 5, 6], [1, 4, 5, 6, 8, 13, 14, 15], [1, 4, 5, 6, 13, 14, 15], [1, 4, 5, 6, 13, 14, 15], [1, 4, 6, 52], [4, 5], [4, 6], [4, 5]] [(11, [0, 1, 4, 5]), (16, [1, 4, 5, 6, 13, 14, 15]), (19, [1, 4, 5, 6, 8, 13, 14, 15]), (24, [1, 4, 5, 6, 8, 13, 14, 15]), (52, [1, 4, 6])] [(5, q_L75_5)]⟩
def nt75 : Nat := 60
theorem st75 : FnSt Tryz.prog 75 fd75 nt75 := ⟨enters_of Tryz.func75 (by kernel_rfl) (c := bod Tryz.f75.body) rfl, ⟨Tryz.f75, Tryz.func75, rfl, rfl, rfl, by kernel_rfl⟩, by kernel_rfl⟩
def q_L76_5 : LoopA := ⟨176005, [0, 1, 4, 5, 6, 7], [1, 4, 5, 6], [0, 1, 2, 3, 4, 5, 7, 8, 9], ⟨[24, 3, 0, 3, 0, 3], [none, none, none, none, none, none], [], [false, false, false, false, false, false], [], false⟩, ⟨[3, 0, 3, 0], [none, none, none, none], [], [false, false, false, false], [], false⟩⟩
noncomputable def fd76 : FnDef := ⟨bod Tryz.f76.body, [ResultVar.cell 4 29, ResultVar.tmp 5], 2, ann [[0, 1, 4, 5], [0, 1, 4, 5, 11], [4, 5], [0, 1, 4, 5, 6], [0, 1, 4, 5, 6, 7], [0, 1, 4, 5, 6, 7, 17], [0, 1, 4, 5, 6, 7], [0, 1, 4, 5, 6, 7, 25], [1, 4, 5, 6], [0, 1, 4, 5, 6, 7, 34], [1, 4, 5, 6], [0, 1, 4, 5, 6, 7, 8], [0, 1, 4, 5, 6, 7, 8], [0, 1, 4, 5, 6, 7], [1, 4, 6, 63], [4, 5], [4, 6], [4, 5]] [(11, [0, 1, 4, 5]), (17, [0, 1, 4, 5, 6, 7]), (25, [0, 1, 4, 5, 6, 7]), (34, [0, 1, 4, 5, 6, 7]), (63, [1, 4, 6])] [(5, q_L76_5)]⟩
def nt76 : Nat := 70
theorem st76 : FnSt Tryz.prog 76 fd76 nt76 := ⟨enters_of Tryz.func76 (by kernel_rfl) (c := bod Tryz.f76.body) rfl, ⟨Tryz.f76, Tryz.func76, rfl, rfl, rfl, by kernel_rfl⟩, by kernel_rfl⟩
def q_L77_3 : LoopA := ⟨177003, [1, 2, 22, 23, 24], [1, 2], [0, 1, 2, 3, 4, 5, 6, 7, 8, 9], ⟨[0, 0, 26, 3, 3], [none, none, none, none, none], [], [false, false, false, false, false], [], false⟩, ⟨[0, 0], [none, none], [], [false, false], [], false⟩⟩
noncomputable def fd77 : FnDef := ⟨bod Tryz.f77.body, [ResultVar.cell 2 29], 1, ann [[1, 2], [1, 2], [1, 2, 22, 23, 24], [1, 2, 22, 23, 24, 25], [1, 2, 3, 4, 22, 23, 24], [1, 2, 22, 23, 24], [1, 2, 22, 23, 24], [2]] [(25, [1, 2, 22, 23, 24])] [(3, q_L77_3)]⟩
def nt77 : Nat := 37
theorem st77 : FnSt Tryz.prog 77 fd77 nt77 := ⟨enters_of Tryz.func77 (by kernel_rfl) (c := bod Tryz.f77.body) rfl, ⟨Tryz.f77, Tryz.func77, rfl, rfl, rfl, by kernel_rfl⟩, by kernel_rfl⟩
def q_L78_3 : LoopA := ⟨178003, [3, 8, 9, 10], [3], [0], ⟨[39, 39, 3, 3], [none, none, none, none], [], [false, false, false, false], [], false⟩, ⟨[39], [none], [], [false], [], false⟩⟩
noncomputable def fd78 : FnDef := ⟨bod Tryz.f78.body, [ResultVar.tmp 2], 1, ann [[0], [3], [3, 8, 9, 10], [3, 8, 9, 10, 11], [3, 4, 5, 8, 9, 10], [3, 8, 9, 10], [3, 8, 9, 10], [2]] [(11, [3, 8, 9, 10])] [(3, q_L78_3)]⟩
def nt78 : Nat := 24
theorem st78 : FnSt Tryz.prog 78 fd78 nt78 := ⟨enters_of Tryz.func78 (by kernel_rfl) (c := bod Tryz.f78.body) rfl, ⟨Tryz.f78, Tryz.func78, rfl, rfl, rfl, by kernel_rfl⟩, by kernel_rfl⟩
noncomputable def fd84 : FnDef := ⟨bod Tryz.f84.body, [ResultVar.cell 2 45], 1, ann [[0, 2], [0, 2, 3], [2, 3, 6], [2], [2, 3, 27], [2], [2, 3], [2]] [(6, [2, 3]), (27, [2, 3])] []⟩
def nt84 : Nat := 46
theorem st84 : FnSt Tryz.prog 84 fd84 nt84 := ⟨enters_of Tryz.func84 (by kernel_rfl) (c := bod Tryz.f84.body) rfl, ⟨Tryz.f84, Tryz.func84, rfl, rfl, rfl, by kernel_rfl⟩, by kernel_rfl⟩
noncomputable def fd85 : FnDef := ⟨bod Tryz.f85.body, [ResultVar.cell 2 45], 1, ann [[0, 2], [0, 2, 3], [0, 2, 3, 10], [2], [0, 2, 26], [2], [0, 2, 4, 5, 6], [0, 2, 4, 5, 6, 65], [2], [2, 5], [2]] [(10, [0, 2]), (26, [0, 2]), (65, [0, 2, 4, 5])] []⟩
def nt85 : Nat := 75
theorem st85 : FnSt Tryz.prog 85 fd85 nt85 := ⟨enters_of Tryz.func85 (by kernel_rfl) (c := bod Tryz.f85.body) rfl, ⟨Tryz.f85, Tryz.func85, rfl, rfl, rfl, by kernel_rfl⟩, by kernel_rfl⟩
def q_L86_8 : LoopA := ⟨186008, [0, 2, 4, 28, 29, 30], [0, 2], [0, 1, 22, 23, 24], ⟨[98, 0, 182, 39, 3, 3], [none, none, none, none, none, none], [(100, [0, 1, 2, 3, 4, 5, 6, 7, 8, 9, 10, 11, 12, 13, 14, 15, 16, 17, 18, 19, 20, 21])], [false, false, false, false, false, false], [(45, [6, 7, 8]), (100, [22, 31, 32, 33, 42, 43, 44, 53, 54, 55, 64, 65, 66, 75, 76, 77, 86, 87, 88, 89])], false⟩, ⟨[98, 0], [none, none], [], [false, false], [], false⟩⟩
noncomputable def fd86 : FnDef := ⟨bod Tryz.f86.body, [ResultVar.cell 2 45], 1, ann [[0, 2], [0, 2, 3], [0, 2, 3, 11], [2], [0, 2, 20], [2], [0, 2, 4], [0, 2, 4, 28, 29, 30], [0, 2, 4, 28, 29, 30, 31], [0, 2, 4, 6, 28, 29, 30], [0, 2, 4, 7, 28, 29, 30], [0, 2, 4, 7, 28, 29, 30, 38], [0, 2], [0, 2, 4, 28, 29, 30], [2]] [(11, [0, 2]), (20, [0, 2]), (31, [0, 2, 4, 28, 29, 30]), (38, [0, 2, 4, 28, 29, 30])] [(8, q_L86_8)]⟩
def nt86 : Nat := 55
theorem st86 : FnSt Tryz.prog 86 fd86 nt86 := ⟨enters_of Tryz.func86 (by kernel_rfl) (c := bod Tryz.f86.body) rfl, ⟨Tryz.f86, Tryz.func86, rfl, rfl, rfl, by kernel_rfl⟩, by kernel_rfl⟩
noncomputable def fd87 : FnDef := ⟨bod Tryz.f87.body, [ResultVar.cell 2 45], 1, ann [[0, 2], [0, 2, 3], [0, 2, 3, 9], [2], [0, 2, 4, 5], [0, 2, 4, 31], [2], [0, 2, 4, 35], [2], [0, 2, 4], [2], [2]] [(9, [0, 2]), (31, [0, 2, 4]), (35, [0, 2, 4])] []⟩
def nt87 : Nat := 84
theorem st87 : FnSt Tryz.prog 87 fd87 nt87 := ⟨enters_of Tryz.func87 (by kernel_rfl) (c := bod Tryz.f87.body) rfl, ⟨Tryz.f87, Tryz.func87, rfl, rfl, rfl, by kernel_rfl⟩, by kernel_rfl⟩
noncomputable def fd88 : FnDef := ⟨bod Tryz.f88.body, [ResultVar.cell 2 45], 1, ann [[0, 2], [0, 2, 3], [0, 2, 3, 4, 5], [0, 2, 3, 4, 26], [2], [0, 2, 3, 4, 30], [2], [0, 2, 3, 4, 35], [2], [0, 2, 3, 48], [2], [2], [2]] [(26, [0, 2, 3]), (30, [0, 2, 3]), (35, [0, 2, 3]), (48, [0, 2, 3])] []⟩
def nt88 : Nat := 79
theorem st88 : FnSt Tryz.prog 88 fd88 nt88 := ⟨enters_of Tryz.func88 (by kernel_rfl) (c := bod Tryz.f88.body) rfl, ⟨Tryz.f88, Tryz.func88, rfl, rfl, rfl, by kernel_rfl⟩, by kernel_rfl⟩
noncomputable def fd89 : FnDef := ⟨bod Tryz.f89.body, [ResultVar.cell 2 45], 1, ann [[0, 2], [0, 2, 3], [0, 2, 3, 10], [2], [0, 2, 3, 14], [2], [0, 2, 3], [0, 2, 3, 4], [2, 4], [2]] [(10, [0, 2, 3]), (14, [0, 2, 3])] []⟩
def nt89 : Nat := 72
theorem st89 : FnSt Tryz.prog 89 fd89 nt89 := ⟨enters_of Tryz.func89 (by kernel_rfl) (c := bod Tryz.f89.body) rfl, ⟨Tryz.f89, Tryz.func89, rfl, rfl, rfl, by kernel_rfl⟩, by kernel_rfl⟩
noncomputable def fd90 : FnDef := ⟨bod Tryz.f90.body, [ResultVar.cell 2 45], 1, ann [[0, 2], [0, 2, 16], [2], [2], [2]] [(16, [0, 2])] []⟩
def nt90 : Nat := 34
theorem st90 : FnSt Tryz.prog 90 fd90 nt90 := ⟨enters_of Tryz.func90 (by kernel_rfl) (c := bod Tryz.f90.body) rfl, ⟨Tryz.f90, Tryz.func90, rfl, rfl, rfl, by kernel_rfl⟩, by kernel_rfl⟩
noncomputable def fd120 : FnDef := ⟨bod Tryz.f120.body, [ResultVar.tmp 2], 1, ann [[1], [2]] [] []⟩
def nt120 : Nat := 40
theorem st120 : FnSt Tryz.prog 120 fd120 nt120 := ⟨enters_of Tryz.func120 (by kernel_rfl) (c := bod Tryz.f120.body) rfl, ⟨Tryz.f120, Tryz.func120, rfl, rfl, rfl, by kernel_rfl⟩, by kernel_rfl⟩
noncomputable def fd121 : FnDef := ⟨bod Tryz.f121.body, [ResultVar.tmp 4], 2, ann [[2, 3], [4]] [] []⟩
def nt121 : Nat := 9
theorem st121 : FnSt Tryz.prog 121 fd121 nt121 := ⟨enters_of Tryz.func121 (by kernel_rfl) (c := bod Tryz.f121.body) rfl, ⟨Tryz.f121, Tryz.func121, rfl, rfl, rfl, by kernel_rfl⟩, by kernel_rfl⟩
noncomputable def fd122 : FnDef := ⟨bod Tryz.f122.body, [ResultVar.tmp 6], 3, ann [[0, 1, 2], [6]] [] []⟩
def nt122 : Nat := 15
theorem st122 : FnSt Tryz.prog 122 fd122 nt122 := ⟨enters_of Tryz.func122 (by kernel_rfl) (c := bod Tryz.f122.body) rfl, ⟨Tryz.f122, Tryz.func122, rfl, rfl, rfl, by kernel_rfl⟩, by kernel_rfl⟩
def q_L123_5 : LoopA := ⟨223005, [0, 3, 5, 6], [0, 3, 5, 6], [0], ⟨[25, 0, 25, 3], [none, none, some 153, none], [], [false, false, false, false], [], false⟩, ⟨[25, 0, 25, 3], [none, none, none, none], [], [false, false, false, false], [], false⟩⟩
def q_L123_8 : LoopA := ⟨223008, [0, 3, 5, 6], [0, 3, 5, 6], [0, 1], ⟨[25, 0, 25, 3], [none, none, none, none], [], [false, false, false, false], [], false⟩, ⟨[25, 0, 25, 3], [none, none, none, none], [], [false, false, false, false], [], false⟩⟩
noncomputable def fd123 : FnDef := ⟨bod Tryz.f123.body, [ResultVar.tmp 4], 2, ann [[0, 3], [0, 3, 21], [4], [0, 3, 5], [0, 3, 5, 6], [0, 3, 5, 6, 37], [0, 3, 5, 6], [0, 3, 5, 6], [0, 3, 5, 6, 60], [0, 3, 5, 6], [0, 3, 5, 6], [0, 5, 6], [4]] [(21, [0, 3]), (37, [0, 3, 5, 6]), (60, [0, 3, 5, 6])] [(5, q_L123_5), (8, q_L123_8)]⟩
def nt123 : Nat := 96
theorem st123 : FnSt Tryz.prog 123 fd123 nt123 := ⟨enters_of Tryz.func123 (by kernel_rfl) (c := bod Tryz.f123.body) rfl, ⟨Tryz.f123, Tryz.func123, rfl, rfl, rfl, by kernel_rfl⟩, by kernel_rfl⟩
def q_L124_3 : LoopA := ⟨224003, [1, 2, 22, 23, 24], [1, 2], [0, 1, 2, 3, 4, 5, 6, 7, 8, 9], ⟨[0, 0, 26, 3, 3], [none, none, none, none, none], [], [false, false, false, false, false], [], false⟩, ⟨[0, 0], [none, none], [], [false, false], [], false⟩⟩
noncomputable def fd124 : FnDef := ⟨bod Tryz.f124.body, [ResultVar.cell 2 29], 1, ann [[1, 2], [1, 2], [1, 2, 22, 23, 24], [1, 2, 22, 23, 24, 25], [1, 2, 3, 4, 22, 23, 24], [1, 2, 22, 23, 24], [1, 2, 22, 23, 24], [2]] [(25, [1, 2, 22, 23, 24])] [(3, q_L124_3)]⟩
def nt124 : Nat := 37
theorem st124 : FnSt Tryz.prog 124 fd124 nt124 := ⟨enters_of Tryz.func124 (by kernel_rfl) (c := bod Tryz.f124.body) rfl, ⟨Tryz.f124, Tryz.func124, rfl, rfl, rfl, by kernel_rfl⟩, by kernel_rfl⟩
def q_L125_5 : LoopA := ⟨225005, [0, 3, 5, 6, 7], [3, 5, 6], [0], ⟨[25, 0, 25, 25, 3], [none, none, some 153, some 153, none], [], [false, false, false, false, false], [], false⟩, ⟨[0, 25, 25], [none, none, none], [], [false, false, false], [], false⟩⟩
noncomputable def fd125 : FnDef := ⟨bod Tryz.f125.body, [ResultVar.tmp 4], 2, ann [[0, 3], [0, 3, 22], [4], [0, 3, 5, 6], [0, 3, 5, 6, 7], [0, 3, 5, 6, 7, 29], [0, 3, 5, 6, 7], [0, 3, 5, 6, 7], [0, 3, 5, 6, 7, 49], [0, 3, 5, 6, 7], [0, 3, 5, 6, 7, 65], [0, 3, 5, 6, 7], [4]] [(22, [0, 3]), (29, [0, 3, 5, 6, 7]), (49, [0, 3, 5, 6, 7]), (65, [0, 3, 5, 6, 7])] [(5, q_L125_5)]⟩
def nt125 : Nat := 87
theorem st125 : FnSt Tryz.prog 125 fd125 nt125 := ⟨enters_of Tryz.func125 (by kernel_rfl) (c := bod Tryz.f125.body) rfl, ⟨Tryz.f125, Tryz.func125, rfl, rfl, rfl, by kernel_rfl⟩, by kernel_rfl⟩
noncomputable def fd128 : FnDef := ⟨bod Tryz.f128.body, [ResultVar.tmp 2], 1, ann [[0], [2]] [] []⟩
def nt128 : Nat := 13
theorem st128 : FnSt Tryz.prog 128 fd128 nt128 := ⟨enters_of Tryz.func128 (by kernel_rfl) (c := bod Tryz.f128.body) rfl, ⟨Tryz.f128, Tryz.func128, rfl, rfl, rfl, by kernel_rfl⟩, by kernel_rfl⟩
noncomputable def fd130 : FnDef := ⟨bod Tryz.f130.body, [ResultVar.tmp 2], 1, ann [[0], [0, 3], [0, 3, 9], [2], [21], [2], [2]] [(9, []), (21, [])] []⟩
def nt130 : Nat := 39
theorem st130 : FnSt Tryz.prog 130 fd130 nt130 := ⟨enters_of Tryz.func130 (by kernel_rfl) (c := bod Tryz.f130.body) rfl, ⟨Tryz.f130, Tryz.func130, rfl, rfl, rfl, by kernel_rfl⟩, by kernel_rfl⟩
def q_L131_7 : LoopA := ⟨231007, [4, 5, 6, 10, 11, 12, 13, 14, 56, 57, 58], [6, 10, 11, 12, 13, 14], [0, 1, 2, 3, 4, 5, 6, 7, 8, 9, 10], ⟨[54, 0, 0, 0, 0, 40, 0, 0, 54, 3, 3], [none, none, none, none, none, none, none, none, none, none, none], [(29, [1]), (43, [5])], [false, false, false, false, false, false, false, false, false, false, false], [(29, [2, 3, 0]), (43, [4, 6])], false⟩, ⟨[0, 0, 0, 40, 0, 0], [none, none, none, none, none, none], [], [false, false, false, false, false, false], [], false⟩⟩
def q_L131_17 : LoopA := ⟨231017, [6, 10, 11, 13, 14, 19], [10, 11, 13, 14, 19], [0, 1, 2, 3, 4, 5, 6, 7, 8, 9, 10, 11, 12, 13, 14], ⟨[0, 0, 0, 0, 0, 3], [none, none, none, none, none, none], [], [false, false, false, false, false, false], [], false⟩, ⟨[0, 0, 0, 0, 3], [none, none, none, none, none], [], [false, false, false, false, false], [], false⟩⟩
noncomputable def fd131 : FnDef := ⟨bod Tryz.f131.body, [ResultVar.cell 10 29, ResultVar.cell 11 43, ResultVar.tmp 12], 5, ann [[2, 3, 4, 5, 6, 10, 11, 12], [2, 3, 4, 5, 6, 10, 11, 12, 20], [10, 11, 12], [2, 3, 4, 5, 6, 10, 11, 12, 42], [10, 11, 12], [4, 5, 6, 10, 11, 12, 13, 14], [4, 5, 6, 10, 11, 12, 13, 14, 56, 57, 58], [4, 5, 6, 10, 11, 12, 13, 14, 56, 57, 58, 59], [4, 5, 6, 10, 11, 12, 13, 14, 15, 16, 56, 57, 58], [4, 5, 6, 10, 11, 12, 13, 14, 15, 16, 17, 56, 57, 58], [4, 5, 6, 10, 11, 12, 13, 14, 16, 56, 57, 58, 87], [6, 10, 11, 12, 13, 14], [4, 5, 6, 10, 11, 12, 13, 14, 18, 56, 57, 58], [4, 5, 6, 10, 11, 12, 13, 14, 18, 56, 57, 58, 94], [6, 10, 11, 12, 13, 14], [4, 5, 6, 10, 11, 12, 13, 14, 56, 57, 58], [6, 10, 11, 13, 14, 19], [6, 10, 11, 13, 14, 19, 114], [6, 10, 11, 13, 14, 19], [10, 11, 13, 14], [10, 11, 12]] [(20, [2, 3, 4, 5, 6, 10, 11, 12]), (42, [2, 3, 4, 5, 6, 10, 11, 12]), (59, [4, 5, 6, 10, 11, 12, 13, 14, 56, 57, 58]), (87, [4, 5, 6, 10, 11, 12, 13, 14, 16, 56, 57, 58]), (94, [4, 5, 6, 10, 11, 12, 13, 14, 56, 57, 58]), (114, [6, 10, 11, 13, 14, 19])] [(7, q_L131_7), (17, q_L131_17)]⟩
def nt131 : Nat := 129
theorem st131 : FnSt Tryz.prog 131 fd131 nt131 := ⟨enters_of Tryz.func131 (by kernel_rfl) (c := bod Tryz.f131.body) rfl, ⟨Tryz.f131, Tryz.func131, rfl, rfl, rfl, by kernel_rfl⟩, by kernel_rfl⟩
noncomputable def fd132 : FnDef := ⟨bod Tryz.f132.body, [ResultVar.tmp 4], 2, ann [[0, 3], [0, 3, 5], [0, 3, 5, 6, 7], [0, 3, 5, 6, 7, 8], [0, 3, 5, 6, 7, 8, 9], [0, 3, 5, 6, 7, 8, 9, 53], [4], [0, 3, 5, 6, 7, 8, 57], [4], [0, 3, 5, 6, 7, 8, 78], [4], [0, 3, 6, 7, 8, 84], [4], [0, 3, 6, 7, 91], [4], [0, 3, 6, 7, 10], [0, 3, 6, 7, 10, 104], [4], [0, 3, 6, 7, 112], [4], [0, 3, 6, 7, 10, 11], [0, 3, 6, 7, 10, 11, 127], [4], [0, 3, 6, 11, 129], [0, 3, 11], [0, 3], [], [4]] [(53, [0, 3, 6, 7]), (57, [0, 3, 6, 7]), (78, [0, 3, 6, 7]), (84, [0, 3, 6, 7]), (91, [0, 3, 6, 7]), (104, [0, 3, 6, 7]), (112, [0, 3, 6, 7]), (127, [0, 3, 6, 7, 11]), (129, [0, 3, 11])] []⟩
def nt132 : Nat := 164
theorem st132 : FnSt Tryz.prog 132 fd132 nt132 := ⟨enters_of Tryz.func132 (by kernel_rfl) (c := bod Tryz.f132.body) rfl, ⟨Tryz.f132, Tryz.func132, rfl, rfl, rfl, by kernel_rfl⟩, by kernel_rfl⟩
noncomputable def fd134 : FnDef := ⟨bod Tryz.f134.body, [ResultVar.cell 6 43, ResultVar.tmp 7], 3, ann [[1, 2, 3, 6], [3, 6, 8], [3, 6, 8, 14], [6, 7], [6, 7]] [(14, [3, 6, 8])] []⟩
def nt134 : Nat := 22
theorem st134 : FnSt Tryz.prog 134 fd134 nt134 := ⟨enters_of Tryz.func134 (by kernel_rfl) (c := bod Tryz.f134.body) rfl, ⟨Tryz.f134, Tryz.func134, rfl, rfl, rfl, by kernel_rfl⟩, by kernel_rfl⟩
noncomputable def fd135 : FnDef := ⟨bod Tryz.f135.body, [ResultVar.cell 4 29, ResultVar.tmp 5], 2, ann [[2, 3, 4], [2, 3, 4], [2, 3, 4, 6], [2, 3, 4, 6, 16], [4, 5], [2, 4], [4, 5]] [(16, [2, 3, 4, 6])] []⟩
def nt135 : Nat := 25
theorem st135 : FnSt Tryz.prog 135 fd135 nt135 := ⟨enters_of Tryz.func135 (by kernel_rfl) (c := bod Tryz.f135.body) rfl, ⟨Tryz.f135, Tryz.func135, rfl, rfl, rfl, by kernel_rfl⟩, by kernel_rfl⟩
def q_L136_7 : LoopA := ⟨236007, [3, 6, 8, 9, 37, 38, 39], [3, 6, 8, 9], [0, 1, 2, 3, 4, 5, 6, 7, 8, 9, 10], ⟨[0, 0, 3, 0, 41, 3, 3], [none, none, none, none, none, none, none], [], [false, false, false, false, false, false, false], [], false⟩, ⟨[0, 0, 3, 0], [none, none, none, none], [], [false, false, false, false], [], false⟩⟩
def q_L136_16 : LoopA := ⟨236016, [3, 6, 8, 13, 81, 82, 83], [3, 6, 8, 13], [0, 1, 2, 3, 4, 6, 7, 8, 9], ⟨[0, 0, 3, 25, 27, 3, 3], [none, none, none, none, none, none, none], [], [false, false, false, false, false, false, false], [], false⟩, ⟨[0, 0, 3, 25], [none, none, none, none], [], [false, false, false, false], [], false⟩⟩
def q_L136_26 : LoopA := ⟨236026, [3, 6, 8, 112, 113, 114], [3, 6, 8], [0, 1, 2, 3, 4, 5, 6, 7], ⟨[0, 0, 3, 25, 3, 3], [none, none, none, none, none, none], [(29, [1])], [false, false, false, false, false, false], [(29, [2, 3, 0, 1])], false⟩, ⟨[0, 0, 3], [none, none, none], [], [false, false, false], [], false⟩⟩
noncomputable def fd136 : FnDef := ⟨bod Tryz.f136.body, [ResultVar.cell 6 29, ResultVar.tmp 7], 3, ann [[1, 2, 3, 6], [1, 2, 3, 6], [3, 6, 8], [3, 6, 8, 29], [6, 7], [3, 6, 8, 9], [3, 6, 8, 9, 37, 38, 39], [3, 6, 8, 9, 37, 38, 39, 40], [3, 6, 8, 9, 11, 37, 38, 39], [3, 6, 8, 9, 11, 12, 37, 38, 39], [3, 6, 8, 9, 11, 12, 37, 38, 39, 48], [3, 6, 8, 9, 11, 12, 37, 38, 39], [3, 6, 8, 9, 37, 38, 39], [3, 6, 8, 9, 37, 38, 39], [3, 6, 8, 9, 13], [3, 6, 8, 13, 81, 82, 83], [3, 6, 8, 13, 81, 82, 83, 84], [3, 6, 8, 13, 15, 81, 82, 83], [3, 6, 8, 13, 15, 16, 17, 81, 82, 83], [3, 6, 8, 13, 15, 16, 81, 82, 83, 93], [3, 6, 8, 13, 15, 81, 82, 83], [3, 6, 8, 13, 15, 18, 19, 81, 82, 83], [3, 6, 8, 13, 15, 18, 81, 82, 83, 103], [3, 6, 8, 13, 81, 82, 83], [3, 6, 8, 13, 81, 82, 83], [3, 6, 8, 112, 113, 114], [3, 6, 8, 112, 113, 114, 115], [3, 6, 8, 21, 112, 113, 114], [3, 6, 8, 112, 113, 114], [3, 6, 8, 112, 113, 114], [3, 6], [6, 7]] [(29, [3, 6, 8]), (40, [3, 6, 8, 9, 37, 38, 39]), (48, [3, 6, 8, 9, 37, 38, 39]), (84, [3, 6, 8, 13, 81, 82, 83]), (93, [3, 6, 8, 13, 15, 81, 82, 83]), (103, [3, 6, 8, 13, 81, 82, 83]), (115, [3, 6, 8, 112, 113, 114])] [(7, q_L136_7), (16, q_L136_16), (26, q_L136_26)]⟩
def nt136 : Nat := 133
theorem st136 : FnSt Tryz.prog 136 fd136 nt136 := ⟨enters_of Tryz.func136 (by kernel_rfl) (c := bod Tryz.f136.body) rfl, ⟨Tryz.f136, Tryz.func136, rfl, rfl, rfl, by kernel_rfl⟩, by kernel_rfl⟩
def q_L147_2 : LoopA := ⟨247002, [0, 2, 5, 6], [0, 2], [], ⟨[9, 4, 3, 3], [none, none, none, none], [], [false, false, false, false], [], false⟩, ⟨[9, 4], [none, none], [], [false, false], [], false⟩⟩
noncomputable def fd147 : FnDef := ⟨bod Tryz.f147.body, [ResultVar.tmp 2], 1, ann [[0, 2], [0, 2, 5, 6], [0, 2, 5, 6, 7], [0, 2, 3, 5, 6], [0, 2, 5, 6, 18], [0, 2], [0, 2, 5, 6], [2]] [(7, [0, 2, 5, 6]), (18, [0, 2, 5, 6])] [(2, q_L147_2)]⟩
def nt147 : Nat := 23
theorem st147 : FnSt Tryz.prog 147 fd147 nt147 := ⟨enters_of Tryz.func147 (by kernel_rfl) (c := bod Tryz.f147.body) rfl, ⟨Tryz.f147, Tryz.func147, rfl, rfl, rfl, by kernel_rfl⟩, by kernel_rfl⟩
def q_L148_2 : LoopA := ⟨248002, [0, 1, 4, 7, 8], [4], [0], ⟨[24, 106, 3, 3, 3], [none, none, none, none, none], [], [false, false, false, false, false], [], false⟩, ⟨[3], [none], [], [false], [], false⟩⟩
noncomputable def fd148 : FnDef := ⟨bod Tryz.f148.body, [ResultVar.tmp 4], 2, ann [[0, 1, 4], [0, 1, 4, 7, 8], [0, 1, 4, 7, 8, 9], [0, 1, 4, 5, 7, 8], [0, 1, 4, 5, 7, 8, 16], [4], [0, 1, 4, 7, 8], [4]] [(9, [0, 1, 4, 7, 8]), (16, [0, 1, 4, 7, 8])] [(2, q_L148_2)]⟩
def nt148 : Nat := 19
theorem st148 : FnSt Tryz.prog 148 fd148 nt148 := ⟨enters_of Tryz.func148 (by kernel_rfl) (c := bod Tryz.f148.body) rfl, ⟨Tryz.f148, Tryz.func148, rfl, rfl, rfl, by kernel_rfl⟩, by kernel_rfl⟩
noncomputable def fd149 : FnDef := ⟨bod Tryz.f149.body, [ResultVar.tmp 3], 2, ann [[1, 2], [3]] [] []⟩
def nt149 : Nat := 8
theorem st149 : FnSt Tryz.prog 149 fd149 nt149 := ⟨enters_of Tryz.func149 (by kernel_rfl) (c := bod Tryz.f149.body) rfl, ⟨Tryz.f149, Tryz.func149, rfl, rfl, rfl, by kernel_rfl⟩, by kernel_rfl⟩
noncomputable def fd150 : FnDef := ⟨bod Tryz.f150.body, [ResultVar.tmp 2], 1, ann [[0], [0, 3], [3], [2]] [] []⟩
def nt150 : Nat := 11
theorem st150 : FnSt Tryz.prog 150 fd150 nt150 := ⟨enters_of Tryz.func150 (by kernel_rfl) (c := bod Tryz.f150.body) rfl, ⟨Tryz.f150, Tryz.func150, rfl, rfl, rfl, by kernel_rfl⟩, by kernel_rfl⟩
noncomputable def fd151 : FnDef := ⟨bod Tryz.f151.body, [ResultVar.cell 2 43], 1, ann [[1, 2], [1, 2], [2]] [] []⟩
def nt151 : Nat := 16
theorem st151 : FnSt Tryz.prog 151 fd151 nt151 := ⟨enters_of Tryz.func151 (by kernel_rfl) (c := bod Tryz.f151.body) rfl, ⟨Tryz.f151, Tryz.func151, rfl, rfl, rfl, by kernel_rfl⟩, by kernel_rfl⟩
noncomputable def fd152 : FnDef := ⟨bod Tryz.f152.body, [ResultVar.tmp 4], 2, ann [[0, 1], [4]] [] []⟩
def nt152 : Nat := 9
theorem st152 : FnSt Tryz.prog 152 fd152 nt152 := ⟨enters_of Tryz.func152 (by kernel_rfl) (c := bod Tryz.f152.body) rfl, ⟨Tryz.f152, Tryz.func152, rfl, rfl, rfl, by kernel_rfl⟩, by kernel_rfl⟩
noncomputable def fd153 : FnDef := ⟨bod Tryz.f153.body, [ResultVar.tmp 3], 2, ann [[1, 2], [3]] [] []⟩
def nt153 : Nat := 8
theorem st153 : FnSt Tryz.prog 153 fd153 nt153 := ⟨enters_of Tryz.func153 (by kernel_rfl) (c := bod Tryz.f153.body) rfl, ⟨Tryz.f153, Tryz.func153, rfl, rfl, rfl, by kernel_rfl⟩, by kernel_rfl⟩
noncomputable def fd154 : FnDef := ⟨bod Tryz.f154.body, [ResultVar.tmp 4], 2, ann [[0, 1], [4]] [] []⟩
def nt154 : Nat := 9
theorem st154 : FnSt Tryz.prog 154 fd154 nt154 := ⟨enters_of Tryz.func154 (by kernel_rfl) (c := bod Tryz.f154.body) rfl, ⟨Tryz.f154, Tryz.func154, rfl, rfl, rfl, by kernel_rfl⟩, by kernel_rfl⟩
noncomputable def fd155 : FnDef := ⟨bod Tryz.f155.body, [ResultVar.tmp 3], 2, ann [[1, 2], [3]] [] []⟩
def nt155 : Nat := 9
theorem st155 : FnSt Tryz.prog 155 fd155 nt155 := ⟨enters_of Tryz.func155 (by kernel_rfl) (c := bod Tryz.f155.body) rfl, ⟨Tryz.f155, Tryz.func155, rfl, rfl, rfl, by kernel_rfl⟩, by kernel_rfl⟩
def q_L156_15 : LoopA := ⟨256015, [0, 1, 5, 7, 104, 105, 106], [0, 1, 5, 7], [0, 1, 2, 3, 4, 5, 6, 7], ⟨[204, 205, 0, 3, 25, 3, 3], [none, none, none, none, none, none, none], [(43, [5])], [false, false, false, false, false, false, false], [(43, [6])], false⟩, ⟨[204, 205, 0, 3], [none, none, none, none], [], [false, false, false, false], [], false⟩⟩
noncomputable def fd156 : FnDef := ⟨bod Tryz.f156.body, [ResultVar.tmp 6], 3, ann [[0, 1, 5], [0, 1, 5, 7], [0, 1, 5, 7, 19], [6], [0, 1, 5, 7, 36], [6], [0, 1, 5, 7, 44], [6], [0, 1, 5, 7, 56], [6], [0, 1, 5, 7, 8, 9, 10], [0, 1, 5, 7, 8, 9, 10, 98], [6], [0, 1, 5, 7, 8], [0, 1, 5, 7, 104, 105, 106], [0, 1, 5, 7, 104, 105, 106, 107], [0, 1, 5, 7, 12, 104, 105, 106], [0, 1, 5, 7, 104, 105, 106], [0, 1, 5, 7, 104, 105, 106], [0, 1, 5, 7, 122], [0, 1, 5, 7], [1, 5], [], [6]] [(19, [0, 1, 5, 7]), (36, [0, 1, 5, 7]), (44, [0, 1, 5, 7]), (56, [0, 1, 5, 7]), (98, [0, 1, 5, 7, 8, 9]), (107, [0, 1, 5, 7, 104, 105, 106]), (122, [])] [(15, q_L156_15)]⟩
def nt156 : Nat := 165
theorem st156 : FnSt Tryz.prog 156 fd156 nt156 := ⟨enters_of Tryz.func156 (by kernel_rfl) (c := bod Tryz.f156.body) rfl, ⟨Tryz.f156, Tryz.func156, rfl, rfl, rfl, by kernel_rfl⟩, by kernel_rfl⟩
noncomputable def fd158 : FnDef := ⟨bod Tryz.f158.body, [ResultVar.tmp 2], 1, ann [[1], [1, 3], [2], [1, 41], [2], [1, 46], [2], [2]] [(3, [1]), (41, [1]), (46, [1])] []⟩
def nt158 : Nat := 59
theorem st158 : FnSt Tryz.prog 158 fd158 nt158 := ⟨enters_of Tryz.func158 (by kernel_rfl) (c := bod Tryz.f158.body) rfl, ⟨Tryz.f158, Tryz.func158, rfl, rfl, rfl, by kernel_rfl⟩, by kernel_rfl⟩
noncomputable def fd159 : FnDef := ⟨bod Tryz.f159.body, [ResultVar.cell 4 43, ResultVar.tmp 5], 2, ann [[2, 3, 4], [2, 3, 4, 6], [2, 3, 4, 6, 14], [2, 3, 4, 6, 14, 15], [2, 3, 4, 6, 7], [2, 3, 4, 6, 7, 22], [4, 5], [2, 3, 4, 6, 8], [2, 3, 4, 6, 8, 55], [4, 5], [3, 4, 6, 8], [4, 6], [2, 3, 4, 6, 79], [2, 3, 4, 6, 86], [4, 5], [2, 3, 4, 6, 9, 10], [2, 3, 4, 6, 9, 97], [4, 5], [4, 6], [4, 5]] [(15, [4, 6]), (22, [2, 3, 4, 6, 7]), (55, [3, 4, 6, 8]), (79, [4, 6]), (86, [2, 3, 4, 6]), (97, [3, 4, 6, 9])] []⟩
def nt159 : Nat := 110
theorem st159 : FnSt Tryz.prog 159 fd159 nt159 := ⟨enters_of Tryz.func159 (by kernel_rfl) (c := bod Tryz.f159.body) rfl, ⟨Tryz.f159, Tryz.func159, rfl, rfl, rfl, by kernel_rfl⟩, by kernel_rfl⟩
noncomputable def fd160 : FnDef := ⟨bod Tryz.f160.body, [ResultVar.cell 4 37, ResultVar.tmp 5], 2, ann [[2, 3, 4], [2, 3, 4], [2, 3, 4, 6], [2, 3, 4, 6, 14], [4, 5], [2, 3, 4, 7, 8], [2, 3, 4, 7, 8, 26], [4, 5], [2, 3, 4], [2, 3, 4, 32], [2, 3, 4, 32, 33], [2, 4], [2, 3, 4, 32, 38], [2, 4], [2, 3, 4, 32, 43], [2, 4], [2, 3, 4, 32, 48], [2, 4], [2, 3, 4, 53], [2, 4], [4, 5]] [(14, [2, 3, 4]), (26, [2, 3, 4, 7]), (33, [2, 4]), (38, [2, 4]), (43, [2, 4]), (48, [2, 4]), (53, [2, 4])] []⟩
def nt160 : Nat := 60
theorem st160 : FnSt Tryz.prog 160 fd160 nt160 := ⟨enters_of Tryz.func160 (by kernel_rfl) (c := bod Tryz.f160.body) rfl, ⟨Tryz.f160, Tryz.func160, rfl, rfl, rfl, by kernel_rfl⟩, by kernel_rfl⟩
noncomputable def fd162 : FnDef := ⟨bod Tryz.f162.body, [ResultVar.tmp 6], 3, ann [[3, 4, 5], [6]] [] []⟩
def nt162 : Nat := 11
theorem st162 : FnSt Tryz.prog 162 fd162 nt162 := ⟨enters_of Tryz.func162 (by kernel_rfl) (c := bod Tryz.f162.body) rfl, ⟨Tryz.f162, Tryz.func162, rfl, rfl, rfl, by kernel_rfl⟩, by kernel_rfl⟩
def q_L163_5 : LoopA := ⟨263005, [1, 6, 16, 17, 18], [6], [], ⟨[3, 25, 25, 3, 3], [none, some 153, none, none, none], [], [false, false, false, false, false], [], false⟩, ⟨[25], [none], [], [false], [], false⟩⟩
def q_L163_11 : LoopA := ⟨263011, [1, 6, 16, 17, 18, 44, 45, 46], [1, 6, 16, 17, 18], [1], ⟨[3, 25, 25, 3, 3, 25, 3, 3], [none, some 153, none, none, none, none, none, none], [], [false, false, false, false, false, false, false, false], [], false⟩, ⟨[3, 25, 25, 3, 3], [none, none, none, none, none], [], [false, false, false, false, false], [], false⟩⟩
noncomputable def fd163 : FnDef := ⟨bod Tryz.f163.body, [ResultVar.tmp 4, ResultVar.tmp 5], 2, ann [[0, 1], [0, 1, 15], [4, 5], [0, 1, 6], [1, 6, 16, 17, 18], [1, 6, 16, 17, 18, 19], [1, 6, 8, 16, 17, 18], [1, 6, 8, 9, 16, 17, 18], [1, 6, 8, 9, 16, 17, 18, 33], [1, 6, 9, 16, 17, 18], [1, 6, 16, 17, 18, 44, 45, 46], [1, 6, 16, 17, 18, 44, 45, 46, 47], [1, 6, 11, 16, 17, 18, 44, 45, 46], [1, 6, 11, 16, 17, 18, 44, 45, 46, 54], [1, 6, 16, 17, 18, 44, 45, 46], [1, 6, 16, 17, 18, 44, 45, 46], [1, 6, 16, 17, 18], [4, 5]] [(15, [0, 1]), (19, [1, 6, 16, 17, 18]), (33, [1, 6, 9, 16, 17, 18]), (47, [1, 6, 16, 17, 18, 44, 45, 46]), (54, [1, 6, 16, 17, 18, 44, 45, 46])] [(5, q_L163_5), (11, q_L163_11)]⟩
def nt163 : Nat := 63
theorem st163 : FnSt Tryz.prog 163 fd163 nt163 := ⟨enters_of Tryz.func163 (by kernel_rfl) (c := bod Tryz.f163.body) rfl, ⟨Tryz.f163, Tryz.func163, rfl, rfl, rfl, by kernel_rfl⟩, by kernel_rfl⟩
def q_L164_3 : LoopA := ⟨264003, [0, 1, 6, 7, 8], [0, 1, 6, 7], [], ⟨[27, 3, 3, 3, 3], [none, none, none, none, none], [], [false, false, false, false, false], [], false⟩, ⟨[27, 3, 3, 3], [none, none, none, none], [], [false, false, false, false], [], false⟩⟩
noncomputable def fd164 : FnDef := ⟨bod Tryz.f164.body, [ResultVar.tmp 4, ResultVar.tmp 5], 2, ann [[0, 1], [0, 1, 6], [0, 1, 6, 7, 8], [0, 1, 6, 7, 8, 15], [0, 1, 6, 7, 8, 9], [0, 1, 6, 7, 8, 9, 27], [0, 1, 6, 7, 8], [0, 1, 6, 7, 8], [4, 5]] [(15, [0, 1, 6, 7, 8]), (27, [0, 1, 6, 7, 8])] [(3, q_L164_3)]⟩
def nt164 : Nat := 54
theorem st164 : FnSt Tryz.prog 164 fd164 nt164 := ⟨enters_of Tryz.func164 (by kernel_rfl) (c := bod Tryz.f164.body) rfl, ⟨Tryz.f164, Tryz.func164, rfl, rfl, rfl, by kernel_rfl⟩, by kernel_rfl⟩
def q_L177v131_2 : LoopA := ⟨1610277002, [0, 1, 4, 7, 8], [4], [0], ⟨[26, 200, 3, 3, 3], [none, none, none, none, none], [], [false, false, false, false, false], [], false⟩, ⟨[3], [none], [], [false], [], false⟩⟩
noncomputable def fd177v131 : FnDef := ⟨bod Tryz.f177.body, [ResultVar.tmp 4], 2, ann [[0, 1, 4], [0, 1, 4, 7, 8], [0, 1, 4, 7, 8, 9], [0, 1, 4, 5, 7, 8], [0, 1, 4, 5, 7, 8, 16], [4], [0, 1, 4, 7, 8], [4]] [(9, [0, 1, 4, 7, 8]), (16, [0, 1, 4, 7, 8])] [(2, q_L177v131_2)]⟩
def nt177 : Nat := 19
theorem st177v131 : FnSt Tryz.prog 177 fd177v131 nt177 := ⟨enters_of Tryz.func177 (by kernel_rfl) (c := bod Tryz.f177.body) rfl, ⟨Tryz.f177, Tryz.func177, rfl, rfl, rfl, by kernel_rfl⟩, by kernel_rfl⟩
def q_L177v162_2 : LoopA := ⟨1920277002, [0, 1, 4, 7, 8], [4], [0, 1], ⟨[26, 200, 3, 3, 3], [none, none, none, none, none], [], [false, false, false, false, false], [], false⟩, ⟨[3], [none], [], [false], [], false⟩⟩
noncomputable def fd177v162 : FnDef := ⟨bod Tryz.f177.body, [ResultVar.tmp 4], 2, ann [[0, 1, 4], [0, 1, 4, 7, 8], [0, 1, 4, 7, 8, 9], [0, 1, 4, 5, 7, 8], [0, 1, 4, 5, 7, 8, 16], [4], [0, 1, 4, 7, 8], [4]] [(9, [0, 1, 4, 7, 8]), (16, [0, 1, 4, 7, 8])] [(2, q_L177v162_2)]⟩
theorem st177v162 : FnSt Tryz.prog 177 fd177v162 nt177 := ⟨enters_of Tryz.func177 (by kernel_rfl) (c := bod Tryz.f177.body) rfl, ⟨Tryz.f177, Tryz.func177, rfl, rfl, rfl, by kernel_rfl⟩, by kernel_rfl⟩
def q_L178_2 : LoopA := ⟨278002, [0, 1, 4, 7, 8], [4], [0], ⟨[54, 202, 3, 3, 3], [none, none, none, none, none], [], [false, false, false, false, false], [], false⟩, ⟨[3], [none], [], [false], [], false⟩⟩
noncomputable def fd178 : FnDef := ⟨bod Tryz.f178.body, [ResultVar.tmp 4], 2, ann [[0, 1, 4], [0, 1, 4, 7, 8], [0, 1, 4, 7, 8, 9], [0, 1, 4, 5, 7, 8], [0, 1, 4, 5, 7, 8, 16], [4], [0, 1, 4, 7, 8], [4]] [(9, [0, 1, 4, 7, 8]), (16, [0, 1, 4, 7, 8])] [(2, q_L178_2)]⟩
def nt178 : Nat := 19
theorem st178 : FnSt Tryz.prog 178 fd178 nt178 := ⟨enters_of Tryz.func178 (by kernel_rfl) (c := bod Tryz.f178.body) rfl, ⟨Tryz.f178, Tryz.func178, rfl, rfl, rfl, by kernel_rfl⟩, by kernel_rfl⟩
def q_L179_6 : LoopA := ⟨279006, [1, 4, 5, 18, 19, 20], [4, 5], [], ⟨[3, 25, 25, 25, 3, 3], [none, some 153, some 153, none, none, none], [], [false, false, false, false, false, false], [], false⟩, ⟨[25, 25], [none, none], [], [false, false], [], false⟩⟩
noncomputable def fd179 : FnDef := ⟨bod Tryz.f179.body, [ResultVar.tmp 4, ResultVar.tmp 5, ResultVar.tmp 6], 2, ann [[0, 1, 4, 5], [0, 1, 4, 5, 10], [4, 5, 6], [0, 1, 4, 5, 13], [4, 5, 6], [1, 4, 5, 18, 19, 20], [1, 4, 5, 18, 19, 20, 21], [1, 4, 5, 8, 18, 19, 20], [1, 4, 5, 8, 9, 18, 19, 20], [1, 4, 5, 8, 9, 18, 19, 20], [1, 4, 5, 8, 9, 18, 19, 20, 35], [1, 4, 5, 8, 9, 18, 19, 20], [1, 4, 5, 8, 9, 18, 19, 20, 52], [1, 4, 5, 18, 19, 20], [1, 4, 5, 18, 19, 20], [4, 5, 6]] [(10, [0, 1, 4, 5]), (13, [0, 1, 4, 5]), (21, [1, 4, 5, 18, 19, 20]), (35, [1, 4, 5, 8, 9, 18, 19, 20]), (52, [1, 4, 5, 18, 19, 20])] [(6, q_L179_6)]⟩
def nt179 : Nat := 68
theorem st179 : FnSt Tryz.prog 179 fd179 nt179 := ⟨enters_of Tryz.func179 (by kernel_rfl) (c := bod Tryz.f179.body) rfl, ⟨Tryz.f179, Tryz.func179, rfl, rfl, rfl, by kernel_rfl⟩, by kernel_rfl⟩
noncomputable def fd182 : FnDef := ⟨bod Tryz.f182.body, [ResultVar.tmp 6], 3, ann [[0, 1, 2], [6]] [] []⟩
def nt182 : Nat := 15
theorem st182 : FnSt Tryz.prog 182 fd182 nt182 := ⟨enters_of Tryz.func182 (by kernel_rfl) (c := bod Tryz.f182.body) rfl, ⟨Tryz.f182, Tryz.func182, rfl, rfl, rfl, by kernel_rfl⟩, by kernel_rfl⟩
def q_L183_2 : LoopA := ⟨283002, [0, 2, 5, 6], [0, 2], [], ⟨[9, 4, 3, 3], [none, none, none, none], [], [false, false, false, false], [], false⟩, ⟨[9, 4], [none, none], [], [false, false], [], false⟩⟩
noncomputable def fd183 : FnDef := ⟨bod Tryz.f183.body, [ResultVar.tmp 2], 1, ann [[0, 2], [0, 2, 5, 6], [0, 2, 5, 6, 7], [0, 2, 3, 5, 6], [0, 2, 5, 6, 18], [0, 2], [0, 2, 5, 6], [2]] [(7, [0, 2, 5, 6]), (18, [0, 2, 5, 6])] [(2, q_L183_2)]⟩
def nt183 : Nat := 23
theorem st183 : FnSt Tryz.prog 183 fd183 nt183 := ⟨enters_of Tryz.func183 (by kernel_rfl) (c := bod Tryz.f183.body) rfl, ⟨Tryz.f183, Tryz.func183, rfl, rfl, rfl, by kernel_rfl⟩, by kernel_rfl⟩
noncomputable def fd184 : FnDef := ⟨bod Tryz.f184.body, [ResultVar.tmp 2], 1, ann [[1], [1, 4], [1, 4, 5], [1, 4, 7], [1, 4, 7], [1, 4, 10], [1, 12], [1, 16], [2], [22], [2], [1, 25], [2], [34], [2], [38], [2], [2]] [(5, [1, 4]), (7, [1, 4, 7]), (10, [1, 4]), (12, []), (16, [1]), (22, []), (25, [1]), (34, []), (38, [])] []⟩
def nt184 : Nat := 39
theorem st184 : FnSt Tryz.prog 184 fd184 nt184 := ⟨enters_of Tryz.func184 (by kernel_rfl) (c := bod Tryz.f184.body) rfl, ⟨Tryz.f184, Tryz.func184, rfl, rfl, rfl, by kernel_rfl⟩, by kernel_rfl⟩
def q_L185_2 : LoopA := ⟨285002, [0, 1, 4, 7, 8], [4], [0, 1], ⟨[41, 238, 3, 3, 3], [none, none, none, none, none], [], [false, false, false, false, false], [], false⟩, ⟨[3], [none], [], [false], [], false⟩⟩
noncomputable def fd185 : FnDef := ⟨bod Tryz.f185.body, [ResultVar.tmp 4], 2, ann [[0, 1, 4], [0, 1, 4, 7, 8], [0, 1, 4, 7, 8, 9], [0, 1, 4, 5, 7, 8], [0, 1, 4, 5, 7, 8, 16], [4], [0, 1, 4, 7, 8], [4]] [(9, [0, 1, 4, 7, 8]), (16, [0, 1, 4, 7, 8])] [(2, q_L185_2)]⟩
def nt185 : Nat := 19
theorem st185 : FnSt Tryz.prog 185 fd185 nt185 := ⟨enters_of Tryz.func185 (by kernel_rfl) (c := bod Tryz.f185.body) rfl, ⟨Tryz.f185, Tryz.func185, rfl, rfl, rfl, by kernel_rfl⟩, by kernel_rfl⟩
noncomputable def fd186 : FnDef := ⟨bod Tryz.f186.body, [ResultVar.tmp 3], 2, ann [[1, 2], [3]] [] []⟩
def nt186 : Nat := 9
theorem st186 : FnSt Tryz.prog 186 fd186 nt186 := ⟨enters_of Tryz.func186 (by kernel_rfl) (c := bod Tryz.f186.body) rfl, ⟨Tryz.f186, Tryz.func186, rfl, rfl, rfl, by kernel_rfl⟩, by kernel_rfl⟩
def q_L187_2 : LoopA := ⟨287002, [1, 4, 7, 8, 9], [4], [], ⟨[3, 4, 25, 3, 3], [none, none, none, none, none], [], [false, false, false, false, false], [], false⟩, ⟨[4], [none], [], [false], [], false⟩⟩
noncomputable def fd187 : FnDef := ⟨bod Tryz.f187.body, [ResultVar.tmp 4], 2, ann [[0, 1, 4], [1, 4, 7, 8, 9], [1, 4, 7, 8, 9, 10], [1, 4, 6, 7, 8, 9], [1, 4, 7, 8, 9, 22], [4], [1, 4, 7, 8, 9], [4]] [(10, [1, 4, 7, 8, 9]), (22, [1, 4, 7, 8, 9])] [(2, q_L187_2)]⟩
def nt187 : Nat := 24
theorem st187 : FnSt Tryz.prog 187 fd187 nt187 := ⟨enters_of Tryz.func187 (by kernel_rfl) (c := bod Tryz.f187.body) rfl, ⟨Tryz.f187, Tryz.func187, rfl, rfl, rfl, by kernel_rfl⟩, by kernel_rfl⟩
noncomputable def fd188 : FnDef := ⟨bod Tryz.f188.body, [ResultVar.cell 2 37], 1, ann [[1, 2], [2]] [] []⟩
def nt188 : Nat := 22
theorem st188 : FnSt Tryz.prog 188 fd188 nt188 := ⟨enters_of Tryz.func188 (by kernel_rfl) (c := bod Tryz.f188.body) rfl, ⟨Tryz.f188, Tryz.func188, rfl, rfl, rfl, by kernel_rfl⟩, by kernel_rfl⟩
noncomputable def fd189 : FnDef := ⟨bod Tryz.f189.body, [ResultVar.tmp 4, ResultVar.tmp 5], 2, ann [[0, 3], [0, 3, 6], [4, 5], [0, 3, 20], [4, 5], [4, 5]] [(6, [0, 3]), (20, [0, 3])] []⟩
def nt189 : Nat := 34
theorem st189 : FnSt Tryz.prog 189 fd189 nt189 := ⟨enters_of Tryz.func189 (by kernel_rfl) (c := bod Tryz.f189.body) rfl, ⟨Tryz.f189, Tryz.func189, rfl, rfl, rfl, by kernel_rfl⟩, by kernel_rfl⟩
noncomputable def fd190 : FnDef := ⟨bod Tryz.f190.body, [ResultVar.cell 4 37], 2, ann [[2, 3, 4], [2, 3, 4, 5], [2, 3, 4, 5, 6, 7], [2, 3, 4, 5, 6, 26], [2, 4], [2, 4, 5, 6, 36], [2, 4], [4]] [(26, [2, 4]), (36, [2, 4])] []⟩
def nt190 : Nat := 75
theorem st190 : FnSt Tryz.prog 190 fd190 nt190 := ⟨enters_of Tryz.func190 (by kernel_rfl) (c := bod Tryz.f190.body) rfl, ⟨Tryz.f190, Tryz.func190, rfl, rfl, rfl, by kernel_rfl⟩, by kernel_rfl⟩
noncomputable def fd191 : FnDef := ⟨bod Tryz.f191.body, [ResultVar.cell 4 37], 2, ann [[2, 3, 4], [2, 3, 4, 6], [2, 3, 4, 16], [4], [2, 3, 4, 7], [2, 4], [4]] [(16, [2, 3, 4])] []⟩
def nt191 : Nat := 41
theorem st191 : FnSt Tryz.prog 191 fd191 nt191 := ⟨enters_of Tryz.func191 (by kernel_rfl) (c := bod Tryz.f191.body) rfl, ⟨Tryz.f191, Tryz.func191, rfl, rfl, rfl, by kernel_rfl⟩, by kernel_rfl⟩
def q_L192_2 : LoopA := ⟨292002, [2, 4, 10, 11, 12], [2, 4], [0, 1, 2, 5, 6, 7, 8, 9, 10, 11, 12], ⟨[0, 0, 33, 3, 3], [none, none, none, none, none], [], [false, false, false, false, false], [], false⟩, ⟨[0, 0], [none, none], [], [false, false], [], false⟩⟩
noncomputable def fd192 : FnDef := ⟨bod Tryz.f192.body, [ResultVar.cell 4 37], 2, ann [[2, 3, 4], [2, 4, 10, 11, 12], [2, 4, 10, 11, 12, 13], [2, 4, 6, 10, 11, 12], [2, 4, 6, 7, 8, 10, 11, 12], [2, 4, 6, 7, 10, 11, 12, 23], [2, 4, 6, 10, 11, 12], [2, 4, 10, 11, 12], [2, 4, 10, 11, 12], [4]] [(13, [2, 4, 10, 11, 12]), (23, [2, 4, 6, 10, 11, 12])] [(2, q_L192_2)]⟩
def nt192 : Nat := 38
theorem st192 : FnSt Tryz.prog 192 fd192 nt192 := ⟨enters_of Tryz.func192 (by kernel_rfl) (c := bod Tryz.f192.body) rfl, ⟨Tryz.f192, Tryz.func192, rfl, rfl, rfl, by kernel_rfl⟩, by kernel_rfl⟩
noncomputable def fd193 : FnDef := ⟨bod Tryz.f193.body, [ResultVar.cell 4 37], 2, ann [[2, 3, 4], [2, 3, 4, 5, 6], [2, 3, 4, 5, 14], [2, 4], [4], [2, 4], [4]] [(14, [2, 3, 4, 5])] []⟩
def nt193 : Nat := 39
theorem st193 : FnSt Tryz.prog 193 fd193 nt193 := ⟨enters_of Tryz.func193 (by kernel_rfl) (c := bod Tryz.f193.body) rfl, ⟨Tryz.f193, Tryz.func193, rfl, rfl, rfl, by kernel_rfl⟩, by kernel_rfl⟩
noncomputable def fd194 : FnDef := ⟨bod Tryz.f194.body, [ResultVar.cell 4 37], 2, ann [[2, 3, 4], [2, 3, 4, 5], [2, 3, 4, 5, 6, 7], [2, 3, 4, 5, 6, 24], [2, 4], [2, 4, 5, 6, 34], [2, 4], [4]] [(24, [2, 4]), (34, [2, 4])] []⟩
def nt194 : Nat := 51
theorem st194 : FnSt Tryz.prog 194 fd194 nt194 := ⟨enters_of Tryz.func194 (by kernel_rfl) (c := bod Tryz.f194.body) rfl, ⟨Tryz.f194, Tryz.func194, rfl, rfl, rfl, by kernel_rfl⟩, by kernel_rfl⟩
noncomputable def fd196 : FnDef := ⟨bod Tryz.f196.body, [ResultVar.tmp 4], 3, ann [[1, 2, 3], [4]] [] []⟩
def nt196 : Nat := 15
theorem st196 : FnSt Tryz.prog 196 fd196 nt196 := ⟨enters_of Tryz.func196 (by kernel_rfl) (c := bod Tryz.f196.body) rfl, ⟨Tryz.f196, Tryz.func196, rfl, rfl, rfl, by kernel_rfl⟩, by kernel_rfl⟩
noncomputable def fd197 : FnDef := ⟨bod Tryz.f197.body, [ResultVar.tmp 4], 2, ann [[0, 1], [4]] [] []⟩
def nt197 : Nat := 17
theorem st197 : FnSt Tryz.prog 197 fd197 nt197 := ⟨enters_of Tryz.func197 (by kernel_rfl) (c := bod Tryz.f197.body) rfl, ⟨Tryz.f197, Tryz.func197, rfl, rfl, rfl, by kernel_rfl⟩, by kernel_rfl⟩
noncomputable def fd198 : FnDef := ⟨bod Tryz.f198.body, [ResultVar.tmp 2], 1, ann [[0], [2]] [] []⟩
def nt198 : Nat := 6
theorem st198 : FnSt Tryz.prog 198 fd198 nt198 := ⟨enters_of Tryz.func198 (by kernel_rfl) (c := bod Tryz.f198.body) rfl, ⟨Tryz.f198, Tryz.func198, rfl, rfl, rfl, by kernel_rfl⟩, by kernel_rfl⟩
def q_L205_3 : LoopA := ⟨305003, [3, 6, 7, 8], [3], [], ⟨[3, 25, 3, 3], [none, none, none, none], [], [false, false, false, false], [], false⟩, ⟨[3], [none], [], [false], [], false⟩⟩
noncomputable def fd205 : FnDef := ⟨bod Tryz.f205.body, [ResultVar.tmp 2], 1, ann [[0], [0, 3], [3, 6, 7, 8], [3, 6, 7, 8, 9], [3, 5, 6, 7, 8], [3, 6, 7, 8], [3, 6, 7, 8], [2]] [(9, [3, 6, 7, 8])] [(3, q_L205_3)]⟩
def nt205 : Nat := 21
theorem st205 : FnSt Tryz.prog 205 fd205 nt205 := ⟨enters_of Tryz.func205 (by kernel_rfl) (c := bod Tryz.f205.body) rfl, ⟨Tryz.f205, Tryz.func205, rfl, rfl, rfl, by kernel_rfl⟩, by kernel_rfl⟩
def q_L207_4 : LoopA := ⟨307004, [0, 2, 8, 9], [2], [], ⟨[33, 40, 3, 3], [none, none, none, none], [], [false, false, false, false], [], false⟩, ⟨[40], [none], [], [false], [], false⟩⟩
noncomputable def fd207 : FnDef := ⟨bod Tryz.f207.body, [ResultVar.tmp 2], 1, ann [[0, 2], [0, 2, 6], [2], [0, 2, 8, 9], [0, 2, 8, 9, 10], [0, 2, 3, 8, 9], [0, 2, 8, 9, 26], [2], [0, 2, 8, 9], [2]] [(6, [0, 2]), (10, [0, 2, 8, 9]), (26, [0, 2, 8, 9])] [(4, q_L207_4)]⟩
def nt207 : Nat := 28
theorem st207 : FnSt Tryz.prog 207 fd207 nt207 := ⟨enters_of Tryz.func207 (by kernel_rfl) (c := bod Tryz.f207.body) rfl, ⟨Tryz.f207, Tryz.func207, rfl, rfl, rfl, by kernel_rfl⟩, by kernel_rfl⟩
noncomputable def fd208 : FnDef := ⟨bod Tryz.f208.body, [ResultVar.tmp 4], 2, ann [[0, 3], [4]] [] []⟩
def nt208 : Nat := 19
theorem st208 : FnSt Tryz.prog 208 fd208 nt208 := ⟨enters_of Tryz.func208 (by kernel_rfl) (c := bod Tryz.f208.body) rfl, ⟨Tryz.f208, Tryz.func208, rfl, rfl, rfl, by kernel_rfl⟩, by kernel_rfl⟩
def q_L209_4 : LoopA := ⟨309004, [5, 21, 22, 23], [5], [], ⟨[30, 30, 3, 3], [none, none, none, none], [], [false, false, false, false], [], false⟩, ⟨[30], [none], [], [false], [], false⟩⟩
noncomputable def fd209 : FnDef := ⟨bod Tryz.f209.body, [ResultVar.tmp 4], 2, ann [[0, 1], [0, 1, 5], [1, 5], [5, 21, 22, 23], [5, 21, 22, 23, 24], [5, 7, 21, 22, 23], [5, 7, 8, 9, 21, 22, 23], [5, 7, 8, 21, 22, 23, 34], [5, 21, 22, 23], [5, 7, 8, 21, 22, 23], [5, 7, 8, 21, 22, 23], [5, 21, 22, 23], [5, 21, 22, 23], [4]] [(24, [5, 21, 22, 23]), (34, [5, 7, 8, 21, 22, 23])] [(4, q_L209_4)]⟩
def nt209 : Nat := 66
theorem st209 : FnSt Tryz.prog 209 fd209 nt209 := ⟨enters_of Tryz.func209 (by kernel_rfl) (c := bod Tryz.f209.body) rfl, ⟨Tryz.f209, Tryz.func209, rfl, rfl, rfl, by kernel_rfl⟩, by kernel_rfl⟩
noncomputable def fd210 : FnDef := ⟨bod Tryz.f210.body, [ResultVar.tmp 4, ResultVar.tmp 5], 2, ann [[2, 3], [4, 5]] [] []⟩
def nt210 : Nat := 12
theorem st210 : FnSt Tryz.prog 210 fd210 nt210 := ⟨enters_of Tryz.func210 (by kernel_rfl) (c := bod Tryz.f210.body) rfl, ⟨Tryz.f210, Tryz.func210, rfl, rfl, rfl, by kernel_rfl⟩, by kernel_rfl⟩
noncomputable def fd212 : FnDef := ⟨bod Tryz.f212.body, [ResultVar.tmp 4], 2, ann [[2, 3], [4]] [] []⟩
def nt212 : Nat := 22
theorem st212 : FnSt Tryz.prog 212 fd212 nt212 := ⟨enters_of Tryz.func212 (by kernel_rfl) (c := bod Tryz.f212.body) rfl, ⟨Tryz.f212, Tryz.func212, rfl, rfl, rfl, by kernel_rfl⟩, by kernel_rfl⟩
noncomputable def fd213 : FnDef := ⟨bod Tryz.f213.body, [ResultVar.tmp 4, ResultVar.tmp 5], 2, ann [[2, 3], [2, 3, 6], [4, 5]] [] []⟩
def nt213 : Nat := 13
theorem st213 : FnSt Tryz.prog 213 fd213 nt213 := ⟨enters_of Tryz.func213 (by kernel_rfl) (c := bod Tryz.f213.body) rfl, ⟨Tryz.f213, Tryz.func213, rfl, rfl, rfl, by kernel_rfl⟩, by kernel_rfl⟩
def q_L214_2 : LoopA := ⟨314002, [0, 1, 6, 7], [0, 1, 6], [0, 1], ⟨[32, 260, 3, 3], [none, none, none, none], [], [false, false, false, false], [], false⟩, ⟨[32, 260, 3], [none, none, none], [], [false, false, false], [], false⟩⟩
noncomputable def fd214 : FnDef := ⟨bod Tryz.f214.body, [ResultVar.tmp 4, ResultVar.tmp 5], 2, ann [[0, 1], [0, 1, 6, 7], [0, 1, 6, 7, 13], [0, 1, 6, 7, 8], [0, 1, 6, 7, 8, 24], [0, 1, 6, 7], [0, 1, 6, 7], [4, 5]] [(13, [0, 1, 6, 7]), (24, [0, 1, 6, 7])] [(2, q_L214_2)]⟩
def nt214 : Nat := 42
theorem st214 : FnSt Tryz.prog 214 fd214 nt214 := ⟨enters_of Tryz.func214 (by kernel_rfl) (c := bod Tryz.f214.body) rfl, ⟨Tryz.f214, Tryz.func214, rfl, rfl, rfl, by kernel_rfl⟩, by kernel_rfl⟩
noncomputable def fd215 : FnDef := ⟨bod Tryz.f215.body, [ResultVar.tmp 3], 2, ann [[1, 2], [3]] [] []⟩
def nt215 : Nat := 21
theorem st215 : FnSt Tryz.prog 215 fd215 nt215 := ⟨enters_of Tryz.func215 (by kernel_rfl) (c := bod Tryz.f215.body) rfl, ⟨Tryz.f215, Tryz.func215, rfl, rfl, rfl, by kernel_rfl⟩, by kernel_rfl⟩
def q_L216_3 : LoopA := ⟨316003, [2, 3, 6, 7, 8], [2, 3], [], ⟨[3, 3, 27, 3, 3], [none, none, none, none, none], [], [false, false, false, false, false], [], false⟩, ⟨[3, 3], [none, none], [], [false, false], [], false⟩⟩
noncomputable def fd216 : FnDef := ⟨bod Tryz.f216.body, [ResultVar.tmp 2], 1, ann [[0, 2], [0, 2, 3], [2, 3, 6, 7, 8], [2, 3, 6, 7, 8, 9], [2, 3, 5, 6, 7, 8], [2, 3, 5, 6, 7, 8, 14], [2, 3], [2, 3, 6, 7, 8], [2]] [(9, [2, 3, 6, 7, 8]), (14, [2, 3, 6, 7, 8])] [(3, q_L216_3)]⟩
def nt216 : Nat := 18
theorem st216 : FnSt Tryz.prog 216 fd216 nt216 := ⟨enters_of Tryz.func216 (by kernel_rfl) (c := bod Tryz.f216.body) rfl, ⟨Tryz.f216, Tryz.func216, rfl, rfl, rfl, by kernel_rfl⟩, by kernel_rfl⟩
noncomputable def fd217 : FnDef := ⟨bod Tryz.f217.body, [ResultVar.tmp 4], 2, ann [[0, 1], [0, 1, 5], [0, 1, 5, 6], [0, 1, 6, 11], [12], [4], [4], [0, 1, 13], [4], [0, 1, 16], [4], [19], [4], [4]] [(11, [0, 1, 6]), (12, []), (13, [0, 1]), (16, [0, 1]), (19, [])] []⟩
def nt217 : Nat := 20
theorem st217 : FnSt Tryz.prog 217 fd217 nt217 := ⟨enters_of Tryz.func217 (by kernel_rfl) (c := bod Tryz.f217.body) rfl, ⟨Tryz.f217, Tryz.func217, rfl, rfl, rfl, by kernel_rfl⟩, by kernel_rfl⟩
def q_L220_5 : LoopA := ⟨320005, [0, 1, 5, 6], [0, 5], [0, 1], ⟨[32, 264, 3, 3], [none, none, none, none], [], [false, false, false, false], [], false⟩, ⟨[32, 3], [none, none], [], [false, false], [], false⟩⟩
noncomputable def fd220 : FnDef := ⟨bod Tryz.f220.body, [ResultVar.tmp 4], 2, ann [[0, 1], [0, 1, 5], [0, 1, 5, 12], [4], [0, 1, 5, 6], [0, 1, 5, 6, 19], [0, 1, 5, 6], [0, 1, 5, 6, 7], [0, 1, 5, 6, 7, 29], [0, 1, 5, 6], [0, 1, 5, 6], [0, 5], [4]] [(12, [0, 1, 5]), (19, [0, 1, 5, 6]), (29, [0, 1, 5, 6])] [(5, q_L220_5)]⟩
def nt220 : Nat := 42
theorem st220 : FnSt Tryz.prog 220 fd220 nt220 := ⟨enters_of Tryz.func220 (by kernel_rfl) (c := bod Tryz.f220.body) rfl, ⟨Tryz.f220, Tryz.func220, rfl, rfl, rfl, by kernel_rfl⟩, by kernel_rfl⟩
noncomputable def fd221 : FnDef := ⟨bod Tryz.f221.body, [ResultVar.tmp 3], 2, ann [[1, 2], [3]] [] []⟩
def nt221 : Nat := 8
theorem st221 : FnSt Tryz.prog 221 fd221 nt221 := ⟨enters_of Tryz.func221 (by kernel_rfl) (c := bod Tryz.f221.body) rfl, ⟨Tryz.f221, Tryz.func221, rfl, rfl, rfl, by kernel_rfl⟩, by kernel_rfl⟩
noncomputable def fd222 : FnDef := ⟨bod Tryz.f222.body, [ResultVar.tmp 4, ResultVar.tmp 5], 2, ann [[2, 3], [4, 5]] [] []⟩
def nt222 : Nat := 12
theorem st222 : FnSt Tryz.prog 222 fd222 nt222 := ⟨enters_of Tryz.func222 (by kernel_rfl) (c := bod Tryz.f222.body) rfl, ⟨Tryz.f222, Tryz.func222, rfl, rfl, rfl, by kernel_rfl⟩, by kernel_rfl⟩
noncomputable def fd224 : FnDef := ⟨bod Tryz.f224.body, [ResultVar.tmp 4, ResultVar.tmp 5], 2, ann [[2, 3], [4, 5]] [] []⟩
def nt224 : Nat := 12
theorem st224 : FnSt Tryz.prog 224 fd224 nt224 := ⟨enters_of Tryz.func224 (by kernel_rfl) (c := bod Tryz.f224.body) rfl, ⟨Tryz.f224, Tryz.func224, rfl, rfl, rfl, by kernel_rfl⟩, by kernel_rfl⟩
noncomputable def fd226 : FnDef := ⟨bod Tryz.f226.body, [ResultVar.tmp 2], 1, ann [[0], [2]] [] []⟩
def nt226 : Nat := 6
theorem st226 : FnSt Tryz.prog 226 fd226 nt226 := ⟨enters_of Tryz.func226 (by kernel_rfl) (c := bod Tryz.f226.body) rfl, ⟨Tryz.f226, Tryz.func226, rfl, rfl, rfl, by kernel_rfl⟩, by kernel_rfl⟩
noncomputable def fd231 : FnDef := ⟨bod Tryz.f231.body, [ResultVar.tmp 4], 2, ann [[2, 3], [4]] [] []⟩
def nt231 : Nat := 22
theorem st231 : FnSt Tryz.prog 231 fd231 nt231 := ⟨enters_of Tryz.func231 (by kernel_rfl) (c := bod Tryz.f231.body) rfl, ⟨Tryz.f231, Tryz.func231, rfl, rfl, rfl, by kernel_rfl⟩, by kernel_rfl⟩
noncomputable def fd232 : FnDef := ⟨bod Tryz.f232.body, [ResultVar.tmp 6], 3, ann [[0, 1, 2], [0, 7, 8], [0, 7, 18], [6], [6]] [(18, [0, 7])] []⟩
def nt232 : Nat := 24
theorem st232 : FnSt Tryz.prog 232 fd232 nt232 := ⟨enters_of Tryz.func232 (by kernel_rfl) (c := bod Tryz.f232.body) rfl, ⟨Tryz.f232, Tryz.func232, rfl, rfl, rfl, by kernel_rfl⟩, by kernel_rfl⟩
noncomputable def fd233 : FnDef := ⟨bod Tryz.f233.body, [ResultVar.tmp 4, ResultVar.tmp 5], 2, ann [[0, 3], [4, 5]] [] []⟩
def nt233 : Nat := 11
theorem st233 : FnSt Tryz.prog 233 fd233 nt233 := ⟨enters_of Tryz.func233 (by kernel_rfl) (c := bod Tryz.f233.body) rfl, ⟨Tryz.f233, Tryz.func233, rfl, rfl, rfl, by kernel_rfl⟩, by kernel_rfl⟩
noncomputable def fd234 : FnDef := ⟨bod Tryz.f234.body, [ResultVar.cell 2 274], 1, ann [[1, 2], [2]] [] []⟩
def nt234 : Nat := 8
theorem st234 : FnSt Tryz.prog 234 fd234 nt234 := ⟨enters_of Tryz.func234 (by kernel_rfl) (c := bod Tryz.f234.body) rfl, ⟨Tryz.f234, Tryz.func234, rfl, rfl, rfl, by kernel_rfl⟩, by kernel_rfl⟩
def q_L235_2 : LoopA := ⟨335002, [0, 1, 6, 7], [0, 1, 6], [0, 1], ⟨[31, 277, 3, 3], [none, none, none, none], [], [false, false, false, false], [], false⟩, ⟨[31, 277, 3], [none, none, none], [], [false, false, false], [], false⟩⟩
noncomputable def fd235 : FnDef := ⟨bod Tryz.f235.body, [ResultVar.tmp 4, ResultVar.tmp 5], 2, ann [[0, 1], [0, 1, 6, 7], [0, 1, 6, 7, 13], [0, 1, 6, 7, 8], [0, 1, 6, 7, 8, 24], [0, 1, 6, 7], [0, 1, 6, 7], [4, 5]] [(13, [0, 1, 6, 7]), (24, [0, 1, 6, 7])] [(2, q_L235_2)]⟩
def nt235 : Nat := 42
theorem st235 : FnSt Tryz.prog 235 fd235 nt235 := ⟨enters_of Tryz.func235 (by kernel_rfl) (c := bod Tryz.f235.body) rfl, ⟨Tryz.f235, Tryz.func235, rfl, rfl, rfl, by kernel_rfl⟩, by kernel_rfl⟩
noncomputable def fd236 : FnDef := ⟨bod Tryz.f236.body, [ResultVar.tmp 3], 2, ann [[1, 2], [3]] [] []⟩
def nt236 : Nat := 8
theorem st236 : FnSt Tryz.prog 236 fd236 nt236 := ⟨enters_of Tryz.func236 (by kernel_rfl) (c := bod Tryz.f236.body) rfl, ⟨Tryz.f236, Tryz.func236, rfl, rfl, rfl, by kernel_rfl⟩, by kernel_rfl⟩
noncomputable def fd239 : FnDef := ⟨bod Tryz.f239.body, [ResultVar.tmp 4], 2, ann [[0, 1], [0, 1, 5], [0, 1, 5, 6], [0, 1, 6, 11], [12], [4], [4], [0, 1, 13], [4], [0, 1, 16], [4], [19], [4], [4]] [(11, [0, 1, 6]), (12, []), (13, [0, 1]), (16, [0, 1]), (19, [])] []⟩
def nt239 : Nat := 20
theorem st239 : FnSt Tryz.prog 239 fd239 nt239 := ⟨enters_of Tryz.func239 (by kernel_rfl) (c := bod Tryz.f239.body) rfl, ⟨Tryz.f239, Tryz.func239, rfl, rfl, rfl, by kernel_rfl⟩, by kernel_rfl⟩
def q_L240_2 : LoopA := ⟨340002, [0, 1, 6, 7], [0, 1, 6], [0, 1, 2], ⟨[33, 281, 3, 3], [none, none, none, none], [], [false, false, false, false], [], false⟩, ⟨[33, 281, 3], [none, none, none], [], [false, false, false], [], false⟩⟩
noncomputable def fd240 : FnDef := ⟨bod Tryz.f240.body, [ResultVar.tmp 4, ResultVar.tmp 5], 2, ann [[0, 1], [0, 1, 6, 7], [0, 1, 6, 7, 13], [0, 1, 6, 7, 8], [0, 1, 6, 7, 8, 24], [0, 1, 6, 7], [0, 1, 6, 7], [4, 5]] [(13, [0, 1, 6, 7]), (24, [0, 1, 6, 7])] [(2, q_L240_2)]⟩
def nt240 : Nat := 42
theorem st240 : FnSt Tryz.prog 240 fd240 nt240 := ⟨enters_of Tryz.func240 (by kernel_rfl) (c := bod Tryz.f240.body) rfl, ⟨Tryz.f240, Tryz.func240, rfl, rfl, rfl, by kernel_rfl⟩, by kernel_rfl⟩
noncomputable def fd241 : FnDef := ⟨bod Tryz.f241.body, [ResultVar.tmp 4], 3, ann [[1, 2, 3], [4]] [] []⟩
def nt241 : Nat := 9
theorem st241 : FnSt Tryz.prog 241 fd241 nt241 := ⟨enters_of Tryz.func241 (by kernel_rfl) (c := bod Tryz.f241.body) rfl, ⟨Tryz.f241, Tryz.func241, rfl, rfl, rfl, by kernel_rfl⟩, by kernel_rfl⟩
noncomputable def fd242 : FnDef := ⟨bod Tryz.f242.body, [ResultVar.tmp 2], 1, ann [[0], [2]] [] []⟩
def nt242 : Nat := 6
theorem st242 : FnSt Tryz.prog 242 fd242 nt242 := ⟨enters_of Tryz.func242 (by kernel_rfl) (c := bod Tryz.f242.body) rfl, ⟨Tryz.f242, Tryz.func242, rfl, rfl, rfl, by kernel_rfl⟩, by kernel_rfl⟩
def q_L247_2 : LoopA := ⟨347002, [0, 1, 4, 7, 8], [4], [0, 1], ⟨[32, 264, 3, 3, 3], [none, none, none, none, none], [], [false, false, false, false, false], [], false⟩, ⟨[3], [none], [], [false], [], false⟩⟩
noncomputable def fd247 : FnDef := ⟨bod Tryz.f247.body, [ResultVar.tmp 4], 2, ann [[0, 1, 4], [0, 1, 4, 7, 8], [0, 1, 4, 7, 8, 9], [0, 1, 4, 5, 7, 8], [0, 1, 4, 5, 7, 8, 16], [4], [0, 1, 4, 7, 8], [4]] [(9, [0, 1, 4, 7, 8]), (16, [0, 1, 4, 7, 8])] [(2, q_L247_2)]⟩
def nt247 : Nat := 19
theorem st247 : FnSt Tryz.prog 247 fd247 nt247 := ⟨enters_of Tryz.func247 (by kernel_rfl) (c := bod Tryz.f247.body) rfl, ⟨Tryz.f247, Tryz.func247, rfl, rfl, rfl, by kernel_rfl⟩, by kernel_rfl⟩
def q_L248_2 : LoopA := ⟨348002, [0, 1, 6, 7], [0, 1, 6], [0, 1], ⟨[34, 286, 3, 3], [none, none, none, none], [], [false, false, false, false], [], false⟩, ⟨[34, 286, 3], [none, none, none], [], [false, false, false], [], false⟩⟩
noncomputable def fd248 : FnDef := ⟨bod Tryz.f248.body, [ResultVar.tmp 4, ResultVar.tmp 5], 2, ann [[0, 1], [0, 1, 6, 7], [0, 1, 6, 7, 13], [0, 1, 6, 7, 8], [0, 1, 6, 7, 8, 24], [0, 1, 6, 7], [0, 1, 6, 7], [4, 5]] [(13, [0, 1, 6, 7]), (24, [0, 1, 6, 7])] [(2, q_L248_2)]⟩
def nt248 : Nat := 42
theorem st248 : FnSt Tryz.prog 248 fd248 nt248 := ⟨enters_of Tryz.func248 (by kernel_rfl) (c := bod Tryz.f248.body) rfl, ⟨Tryz.f248, Tryz.func248, rfl, rfl, rfl, by kernel_rfl⟩, by kernel_rfl⟩
noncomputable def fd249 : FnDef := ⟨bod Tryz.f249.body, [ResultVar.tmp 3], 2, ann [[1, 2], [3]] [] []⟩
def nt249 : Nat := 8
theorem st249 : FnSt Tryz.prog 249 fd249 nt249 := ⟨enters_of Tryz.func249 (by kernel_rfl) (c := bod Tryz.f249.body) rfl, ⟨Tryz.f249, Tryz.func249, rfl, rfl, rfl, by kernel_rfl⟩, by kernel_rfl⟩
def q_L252_2 : LoopA := ⟨352002, [0, 1, 6, 7], [0, 1, 6], [0, 1], ⟨[35, 289, 3, 3], [none, none, none, none], [], [false, false, false, false], [], false⟩, ⟨[35, 289, 3], [none, none, none], [], [false, false, false], [], false⟩⟩
noncomputable def fd252 : FnDef := ⟨bod Tryz.f252.body, [ResultVar.tmp 4, ResultVar.tmp 5], 2, ann [[0, 1], [0, 1, 6, 7], [0, 1, 6, 7, 13], [0, 1, 6, 7, 8], [0, 1, 6, 7, 8, 24], [0, 1, 6, 7], [0, 1, 6, 7], [4, 5]] [(13, [0, 1, 6, 7]), (24, [0, 1, 6, 7])] [(2, q_L252_2)]⟩
def nt252 : Nat := 42
theorem st252 : FnSt Tryz.prog 252 fd252 nt252 := ⟨enters_of Tryz.func252 (by kernel_rfl) (c := bod Tryz.f252.body) rfl, ⟨Tryz.f252, Tryz.func252, rfl, rfl, rfl, by kernel_rfl⟩, by kernel_rfl⟩
noncomputable def fd253 : FnDef := ⟨bod Tryz.f253.body, [ResultVar.tmp 3], 2, ann [[1, 2], [3]] [] []⟩
def nt253 : Nat := 8
theorem st253 : FnSt Tryz.prog 253 fd253 nt253 := ⟨enters_of Tryz.func253 (by kernel_rfl) (c := bod Tryz.f253.body) rfl, ⟨Tryz.f253, Tryz.func253, rfl, rfl, rfl, by kernel_rfl⟩, by kernel_rfl⟩
def q_L257_2 : LoopA := ⟨357002, [0, 1, 6], [0, 1, 6], [0], ⟨[30, 294, 3], [none, none, none], [], [false, false, false], [], false⟩, ⟨[30, 294, 3], [none, none, none], [], [false, false, false], [], false⟩⟩
noncomputable def fd257 : FnDef := ⟨bod Tryz.f257.body, [ResultVar.tmp 4, ResultVar.tmp 5], 2, ann [[0, 1], [0, 1, 6], [0, 1, 6, 19], [0, 1, 6], [4, 5]] [(19, [0, 1, 6])] [(2, q_L257_2)]⟩
def nt257 : Nat := 36
theorem st257 : FnSt Tryz.prog 257 fd257 nt257 := ⟨enters_of Tryz.func257 (by kernel_rfl) (c := bod Tryz.f257.body) rfl, ⟨Tryz.f257, Tryz.func257, rfl, rfl, rfl, by kernel_rfl⟩, by kernel_rfl⟩
noncomputable def fd258 : FnDef := ⟨bod Tryz.f258.body, [ResultVar.tmp 3], 2, ann [[1, 2], [3]] [] []⟩
def nt258 : Nat := 8
theorem st258 : FnSt Tryz.prog 258 fd258 nt258 := ⟨enters_of Tryz.func258 (by kernel_rfl) (c := bod Tryz.f258.body) rfl, ⟨Tryz.f258, Tryz.func258, rfl, rfl, rfl, by kernel_rfl⟩, by kernel_rfl⟩
noncomputable def fd259 : FnDef := ⟨bod Tryz.f259.body, [ResultVar.tmp 4], 2, ann [[2, 3], [4]] [] []⟩
def nt259 : Nat := 17
theorem st259 : FnSt Tryz.prog 259 fd259 nt259 := ⟨enters_of Tryz.func259 (by kernel_rfl) (c := bod Tryz.f259.body) rfl, ⟨Tryz.f259, Tryz.func259, rfl, rfl, rfl, by kernel_rfl⟩, by kernel_rfl⟩
def s_empty : ByteArray := ⟨#[]⟩
def s_a : ByteArray := ⟨#[97]⟩
def s_b : ByteArray := ⟨#[98]⟩
end Go.Proofs.YtcjpeijiaojeiaaGreat
