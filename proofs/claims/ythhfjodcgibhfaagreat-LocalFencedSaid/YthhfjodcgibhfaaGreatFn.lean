/- By program (gen.py): the functions, with the slots that are live behind each region; that they are the program's. -/
import Derived.Test.YthhfjodcgibhfaaGreatTl
namespace Go.Proofs.YthhfjodcgibhfaaGreat
open Go Go.Ev

def sls : List (Nat × List (Nat × Nat)) := [(23, [(0, 62)]), (24, [(0, 98)]), (25, [(0, 3)]), (26, [(4, 62), (5, 98), (6, 3)]), (27, [(4, 62), (5, 98), (6, 3)]), (28, [(0, 50)]), (29, [(0, 112)]), (30, [(0, 103)]), (31, [(0, 100)]), (32, [(0, 48)]), (33, [(0, 118)]), (34, [(0, 121)]), (35, [(0, 112), (1, 103), (2, 100), (3, 48), (4, 118), (5, 121)]), (36, [(0, 112), (1, 103), (2, 100), (3, 48), (4, 118), (5, 121)]), (37, [(0, 112), (1, 103), (2, 100), (3, 48), (4, 118), (5, 121), (6, 112), (7, 103), (8, 100), (9, 48), (10, 118), (11, 121), (12, 112), (13, 103), (14, 100), (15, 48), (16, 118), (17, 121)]), (38, [(0, 4)]), (39, [(0, 89)]), (40, [(5, 89), (6, 50)]), (41, [(5, 89), (6, 50)]), (42, [(6, 62), (7, 98), (8, 3), (12, 50), (13, 112), (14, 103), (15, 100), (16, 48), (17, 118), (18, 121), (19, 112), (20, 103), (21, 100), (22, 48), (23, 118), (24, 121), (25, 112), (26, 103), (27, 100), (28, 48), (29, 118), (30, 121), (33, 4), (41, 89), (42, 50)]), (43, [(6, 62), (7, 98), (8, 3), (12, 50), (13, 112), (14, 103), (15, 100), (16, 48), (17, 118), (18, 121), (19, 112), (20, 103), (21, 100), (22, 48), (23, 118), (24, 121), (25, 112), (26, 103), (27, 100), (28, 48), (29, 118), (30, 121), (33, 4), (41, 89), (42, 50)]), (49, [(10, 48)]), (50, [(10, 48)]), (56, [(6, 62), (7, 98), (8, 3)]), (57, [(6, 62), (7, 98), (8, 3)]), (136, [(0, 5)])]
def sl : Sl := fun t => match Ev.look sls t with | some l => l | none => []
def shs : List (Nat × (Sh × Sh)) := [(24, (⟨[43], [none], [], [true], [], false⟩, ⟨[43], [none], [], [false], [], false⟩)), (44, (⟨[36], [none], [], [true], [], false⟩, ⟨[36], [none], [], [false], [], false⟩)), (46, (⟨[27], [none], [], [true], [], false⟩, ⟨[27], [none], [], [false], [], false⟩)), (49, (⟨[36], [none], [], [true], [], false⟩, ⟨[36], [none], [], [false], [], false⟩)), (105, (⟨[27], [none], [], [true], [], false⟩, ⟨[27], [none], [], [false], [], false⟩))]
def sh : FuncId → Sh × Sh := fun f => match Ev.look shs f with | some l => l | none => (⟨[], [], [], [], [], false⟩, ⟨[], [], [], [], [], false⟩)
noncomputable def fd3 : FnDef := ⟨bod Tryz.f3.body, [ResultVar.tmp 4], 2, ann [[0, 1], [0, 1, 17], [4], [0, 1, 5], [0, 1, 5, 7], [0, 1, 5, 7, 8], [0, 1, 5, 7, 38], [4], [0, 1, 5, 9], [0, 1, 5, 9], [0, 1, 5, 9, 10, 11, 12], [0, 1, 5, 10, 11, 12, 13], [0, 1, 5, 10, 11, 12, 13, 45], [0, 1, 5, 10, 11, 12, 13, 45, 46], [0, 5, 10, 11, 12, 13], [0, 1, 5, 10, 11, 12, 13, 45, 51], [0, 5, 10, 11, 12, 13], [0, 5, 10, 11, 12, 13, 45, 56], [0, 5, 10, 11, 12, 13], [0, 5, 10, 11, 12, 13, 45, 61], [0, 5, 10, 11, 12, 13], [0, 5, 10, 11, 12, 13, 45, 66], [0, 5, 10, 11, 12, 13], [0, 5, 10, 11, 12, 13, 72], [0, 5, 10, 11, 13], [0, 5, 10, 11, 12, 13], [0, 5, 12, 14, 15], [5, 12, 14, 15, 88], [4], [5, 12, 14, 15, 97], [4], [4]] [(17, [0, 1]), (38, [0, 1, 5, 7]), (46, [0, 5, 10, 11, 12, 13]), (51, [0, 5, 10, 11, 12, 13]), (56, [0, 5, 10, 11, 12, 13]), (61, [0, 5, 10, 11, 12, 13]), (66, [0, 5, 10, 11, 12, 13]), (72, [0, 5, 10, 11, 12, 13]), (88, [5, 12, 14, 15]), (97, [5, 14, 15])] []⟩
def nt3 : Nat := 119
theorem st3 : FnSt Tryz.prog 3 fd3 nt3 := ⟨enters_of Tryz.func3 (by kernel_rfl) (c := bod Tryz.f3.body) rfl, ⟨Tryz.f3, Tryz.func3, rfl, rfl, rfl, by kernel_rfl⟩, by kernel_rfl⟩
def q_L4_6 : LoopA := ⟨104006, [0, 1, 4, 5, 7, 8, 9], [4], [0], ⟨[25, 38, 4, 0, 3, 4, 3], [none, none, none, none, none, none, none], [], [false, false, false, false, false, false, false], [], false⟩, ⟨[4], [none], [], [false], [], false⟩⟩
noncomputable def fd4 : FnDef := ⟨bod Tryz.f4.body, [ResultVar.tmp 4], 2, ann [[0, 1, 4], [0, 1, 4, 18], [4], [0, 1, 4, 5], [0, 1, 4, 5, 7, 8], [0, 1, 4, 5, 7, 8, 9], [0, 1, 4, 5, 7, 8, 9, 31], [0, 1, 4, 5, 7, 8, 9], [0, 1, 4, 5, 7, 8, 9, 10], [0, 1, 4, 5, 7, 8, 9, 10, 11, 12], [0, 1, 4, 5, 7, 8, 9, 10, 11, 12, 13], [0, 1, 4, 5, 7, 8, 9, 10, 11, 12, 13, 49], [0, 1, 4, 5, 7, 8, 9, 10, 11, 12, 13], [0, 1, 4, 5, 7, 8, 9, 10, 11, 12, 13, 57], [0, 1, 4, 5, 7, 8, 9, 10, 11, 12, 13, 57], [0, 1, 4, 5, 7, 8, 9, 10, 11, 12, 13], [0, 1, 4, 5, 7, 8, 9, 10, 11, 12, 13, 71], [0, 1, 4, 5, 7, 8, 9, 10, 11, 12, 13], [0, 1, 4, 5, 7, 8, 9, 10, 11, 12, 79], [4], [0, 1, 4, 5, 7, 8, 9, 10, 11, 81], [0, 1, 4, 5, 7, 8, 9, 10, 11], [0, 1, 4, 5, 7, 8, 9, 10, 11, 15], [0, 1, 4, 5, 7, 8, 9, 10, 11, 134], [4], [0, 1, 4, 5, 7, 8, 9, 10, 11, 16], [0, 1, 4, 5, 7, 8, 9, 10, 11, 16, 145], [0, 1, 4, 5, 7, 9, 10, 11, 16, 146], [0, 1, 4, 5, 7, 9, 10, 11, 16, 146, 147], [0, 1, 4, 5, 7, 9, 10, 11, 16], [0, 1, 4, 5, 7, 9, 10, 11, 16, 150], [0, 1, 4, 5, 7, 9, 10, 11, 16], [0, 1, 4, 5, 7, 8, 9, 11, 16], [0, 1, 4, 5, 7, 8, 9, 11, 16], [0, 1, 4, 5, 7, 8, 9, 12], [0, 1, 4, 5, 7, 8, 9, 179], [4], [4]] [(18, [0, 1, 4]), (31, [0, 1, 4, 5, 7, 8, 9]), (49, [0, 1, 4, 5, 7, 8, 9, 10, 11, 12, 13]), (57, [0, 1, 4, 5, 7, 8, 9, 10, 11, 12, 13, 57]), (71, [0, 1, 4, 5, 7, 8, 9, 10, 11, 12, 13]), (79, [0, 1, 4, 5, 7, 8, 9, 10, 11, 12]), (81, [0, 1, 4, 5, 7, 8, 9, 10, 11]), (134, [0, 1, 4, 5, 7, 8, 9, 10, 11]), (145, [0, 1, 4, 5, 7, 8, 9, 11, 16]), (147, [0, 1, 4, 5, 7, 9, 10, 11, 16]), (150, [0, 1, 4, 5, 7, 9, 10, 11, 16]), (179, [0, 1, 4, 5, 7, 8, 9])] [(6, q_L4_6)]⟩
def nt4 : Nat := 180
theorem st4 : FnSt Tryz.prog 4 fd4 nt4 := ⟨enters_of Tryz.func4 (by kernel_rfl) (c := bod Tryz.f4.body) rfl, ⟨Tryz.f4, Tryz.func4, rfl, rfl, rfl, by kernel_rfl⟩, by kernel_rfl⟩
noncomputable def fd5 : FnDef := ⟨bod Tryz.f5.body, [ResultVar.tmp 6], 3, ann [[0, 1, 2], [0, 1, 2, 15], [6], [0, 1, 2], [0, 1, 2, 7], [0, 1, 2, 7], [0, 1, 2, 7], [0, 1, 2, 7], [0, 1, 2, 7, 9], [0, 1, 2, 7, 9], [0, 1, 2, 7, 9, 10], [0, 1, 2, 7, 9, 10], [0, 1, 2, 7, 9, 10, 12], [0, 1, 2, 7, 9, 10, 12, 13], [0, 7, 9, 10, 12, 13, 83], [0, 7, 9, 10, 12, 13], [6]] [(15, [0, 1, 2]), (83, [0, 7, 9, 10, 12, 13])] []⟩
def nt5 : Nat := 102
theorem st5 : FnSt Tryz.prog 5 fd5 nt5 := ⟨enters_of Tryz.func5 (by kernel_rfl) (c := bod Tryz.f5.body) rfl, ⟨Tryz.f5, Tryz.func5, rfl, rfl, rfl, by kernel_rfl⟩, by kernel_rfl⟩
def q_L6_7 : LoopA := ⟨106007, [0, 1, 4, 5, 6, 7, 8], [4], [0], ⟨[25, 38, 4, 0, 3, 3, 3], [none, none, none, none, none, none, none], [], [false, false, false, false, false, false, false], [], false⟩, ⟨[4], [none], [], [false], [], false⟩⟩
noncomputable def fd6 : FnDef := ⟨bod Tryz.f6.body, [ResultVar.tmp 4], 2, ann [[0, 1, 4], [0, 1, 4, 16], [4], [0, 1, 4, 5], [0, 1, 4, 5, 6], [0, 1, 4, 5, 6, 7], [0, 1, 4, 5, 6, 7, 8], [0, 1, 4, 5, 6, 7, 8, 25], [0, 1, 4, 5, 6, 7, 8], [0, 1, 4, 5, 6, 7, 8, 9], [0, 1, 4, 5, 6, 7, 8, 9], [0, 1, 4, 5, 6, 7, 8], [0, 1, 4, 5, 6, 7, 8, 10], [0, 1, 4, 5, 6, 7, 8, 10, 11], [0, 1, 4, 5, 6, 7, 8, 10, 11, 54], [0, 1, 4, 5, 6, 7, 8, 10, 11], [0, 1, 4, 5, 6, 7, 8, 11, 12, 13], [0, 1, 4, 5, 6, 7, 8, 11, 12, 71], [4], [0, 1, 4, 5, 6, 7, 8, 11, 12, 14], [0, 1, 4, 5, 6, 7, 8, 11, 12, 14, 93], [4], [0, 1, 4, 5, 6, 7, 8, 12, 14, 94], [0, 1, 4, 5, 6, 7, 8, 12, 14, 100], [4], [0, 1, 4, 5, 6, 7, 8, 12], [0, 1, 4, 5, 6, 7, 8, 12, 109], [4], [0, 1, 4, 5, 6, 7, 8, 12], [0, 1, 4, 5, 6, 7, 8], [0, 1, 4, 5, 6, 7, 8, 118], [4], [4]] [(16, [0, 1, 4]), (25, [0, 1, 4, 5, 6, 7, 8]), (54, [0, 1, 4, 5, 6, 7, 8, 10, 11]), (71, [0, 1, 4, 5, 6, 7, 8, 11, 12]), (93, [0, 1, 4, 5, 6, 7, 8, 11, 12, 14]), (94, [0, 1, 4, 5, 6, 7, 8, 12]), (100, [0, 1, 4, 5, 6, 7, 8, 12, 14]), (109, [0, 1, 4, 5, 6, 7, 8, 12]), (118, [0, 1, 4, 5, 6, 7, 8])] [(7, q_L6_7)]⟩
def nt6 : Nat := 119
theorem st6 : FnSt Tryz.prog 6 fd6 nt6 := ⟨enters_of Tryz.func6 (by kernel_rfl) (c := bod Tryz.f6.body) rfl, ⟨Tryz.f6, Tryz.func6, rfl, rfl, rfl, by kernel_rfl⟩, by kernel_rfl⟩
def q_L7_6 : LoopA := ⟨107006, [0, 1, 5, 6], [1, 5], [0], ⟨[3, 4, 0, 3], [none, none, none, none], [], [false, false, false, false], [], false⟩, ⟨[4, 0], [none, none], [], [false, false], [], false⟩⟩
noncomputable def fd7 : FnDef := ⟨bod Tryz.f7.body, [ResultVar.tmp 4], 2, ann [[0, 1], [0, 1, 22], [4], [0, 1, 5], [0, 1, 5], [0, 1, 5, 6], [0, 1, 5, 6, 28], [0, 1, 5, 6], [0, 1, 5, 6], [1, 5], [1, 5, 7], [5, 7, 45], [5], [5, 7], [8, 9], [8, 9, 11], [8, 9, 11, 13], [8, 9, 11, 13, 14, 15], [8, 9, 11, 13, 15, 16, 17], [8, 9, 11, 13, 15, 16, 17, 18], [8, 9, 11, 13, 15, 16, 17, 18, 19, 20], [4]] [(22, [0, 1]), (28, [0, 1, 5, 6]), (45, [5, 7])] [(6, q_L7_6)]⟩
def nt7 : Nat := 166
theorem st7 : FnSt Tryz.prog 7 fd7 nt7 := ⟨enters_of Tryz.func7 (by kernel_rfl) (c := bod Tryz.f7.body) rfl, ⟨Tryz.f7, Tryz.func7, rfl, rfl, rfl, by kernel_rfl⟩, by kernel_rfl⟩
def q_L8_6 : LoopA := ⟨108006, [0, 1, 4, 5, 6, 7], [1, 4, 5, 6], [0], ⟨[25, 3, 4, 0, 3, 3], [none, none, none, none, none, none], [], [false, false, false, false, false, false], [], false⟩, ⟨[3, 4, 0, 3], [none, none, none, none], [], [false, false, false, false], [], false⟩⟩
def q_L8_18 : LoopA := ⟨108018, [1, 4, 5, 6, 10, 11, 12, 13], [1, 4, 5, 6, 10, 11, 12], [0], ⟨[3, 4, 0, 3, 28, 44, 3, 3], [none, none, none, none, none, none, none, none], [], [false, false, false, false, false, false, false, false], [], false⟩, ⟨[3, 4, 0, 3, 28, 44, 3], [none, none, none, none, none, none, none], [], [false, false, false, false, false, false, false], [], false⟩⟩
def q_L8_26 : LoopA := ⟨108026, [1, 4, 5, 6, 10, 14, 15], [1, 4, 5], [0], ⟨[3, 4, 0, 3, 28, 3, 3], [none, none, none, none, none, none, none], [], [false, false, false, false, false, false, false], [], false⟩, ⟨[3, 4, 0], [none, none, none], [], [false, false, false], [], false⟩⟩
def q_L8_34 : LoopA := ⟨108034, [1, 4, 5, 18], [4], [0], ⟨[3, 4, 0, 3], [none, none, none, none], [], [false, false, false, false], [], false⟩, ⟨[4], [none], [], [false], [], false⟩⟩
noncomputable def fd8 : FnDef := ⟨bod Tryz.f8.body, [ResultVar.tmp 4], 2, ann [[0, 1, 4], [0, 1, 4, 20], [4], [0, 1, 4, 5], [0, 1, 4, 5, 6], [0, 1, 4, 5, 6, 7], [0, 1, 4, 5, 6, 7, 29], [0, 1, 4, 5, 6, 7], [0, 1, 4, 5, 6, 7, 8, 9], [0, 1, 4, 5, 6, 7, 8, 44], [1, 4, 5, 6], [0, 1, 4, 5, 6, 7], [0, 1, 4, 5, 6, 7], [1, 4, 5, 6], [1, 4, 5, 6, 10], [1, 4, 5, 6, 10, 11], [1, 4, 5, 6, 10, 11, 12], [1, 4, 5, 6, 10, 11, 12, 13], [1, 4, 5, 6, 10, 11, 12, 13, 63], [1, 4, 5, 6, 10, 11, 12, 13], [1, 4, 5, 6, 10, 11, 12, 13, 76], [1, 4, 5, 6, 10, 11, 12, 13], [1, 4, 5, 6, 10, 93], [4], [1, 4, 5, 6, 10, 14], [1, 4, 5, 6, 10, 14, 15], [1, 4, 5, 6, 10, 14, 15, 96], [1, 4, 5, 6, 10, 14, 15], [1, 4, 5, 6, 10, 14, 15, 104], [1, 4, 5, 6, 10, 14, 15, 16, 17], [1, 4, 5, 6, 10, 14, 15, 16, 136], [1, 4, 5], [1, 4, 5, 6, 10, 14, 15], [1, 4, 5, 18], [1, 4, 5, 18, 144], [1, 4, 5, 18], [1, 4, 5, 18, 164], [4], [4]] [(20, [0, 1, 4]), (29, [0, 1, 4, 5, 6, 7]), (44, [0, 1, 4, 5, 6, 7, 8]), (63, [1, 4, 5, 6, 10, 11, 12, 13]), (76, [1, 4, 5, 6, 10, 11, 12, 13]), (93, [1, 4, 5, 6, 10]), (96, [1, 4, 5, 6, 10, 14, 15]), (104, [1, 4, 5, 6, 10, 14, 15]), (136, [1, 4, 5, 6, 10, 14, 15, 16]), (144, [1, 4, 5, 18]), (164, [1, 4, 5, 18])] [(6, q_L8_6), (18, q_L8_18), (26, q_L8_26), (34, q_L8_34)]⟩
def nt8 : Nat := 165
theorem st8 : FnSt Tryz.prog 8 fd8 nt8 := ⟨enters_of Tryz.func8 (by kernel_rfl) (c := bod Tryz.f8.body) rfl, ⟨Tryz.f8, Tryz.func8, rfl, rfl, rfl, by kernel_rfl⟩, by kernel_rfl⟩
noncomputable def fd9 : FnDef := ⟨bod Tryz.f9.body, [ResultVar.tmp 4], 2, ann [[0, 1], [0, 1, 17], [4], [0, 1, 5], [0, 1, 5, 6, 7], [0, 1, 5, 6, 7, 8], [0, 1, 5, 6, 7, 8, 36], [0, 1, 5, 6, 7, 8], [1, 5, 6, 7, 8, 10, 11], [1, 5, 6, 7, 8, 10, 11, 12, 13], [1, 5, 6, 7, 8, 10, 11, 12, 13, 15], [1, 12, 89], [4], [12, 91], [12, 91, 92], [4], [12, 108], [4], [4]] [(17, [0, 1]), (36, [0, 1, 5, 6, 7, 8]), (89, [1, 12]), (92, [12]), (108, [12])] []⟩
def nt9 : Nat := 133
theorem st9 : FnSt Tryz.prog 9 fd9 nt9 := ⟨enters_of Tryz.func9 (by kernel_rfl) (c := bod Tryz.f9.body) rfl, ⟨Tryz.f9, Tryz.func9, rfl, rfl, rfl, by kernel_rfl⟩, by kernel_rfl⟩
noncomputable def fd10 : FnDef := ⟨bod Tryz.f10.body, [ResultVar.tmp 0], 0, ann [[], [1, 2], [1, 2, 4], [0]] [] []⟩
def nt10 : Nat := 32
theorem st10 : FnSt Tryz.prog 10 fd10 nt10 := ⟨enters_of Tryz.func10 (by kernel_rfl) (c := bod Tryz.f10.body) rfl, ⟨Tryz.f10, Tryz.func10, rfl, rfl, rfl, by kernel_rfl⟩, by kernel_rfl⟩
noncomputable def fd11 : FnDef := ⟨bod Tryz.f11.body, [ResultVar.cell 6 43, ResultVar.tmp 7], 3, ann [[0, 1, 2, 6], [0, 1, 2, 6, 26], [6, 7], [6, 7]] [(26, [0, 1, 2, 6])] []⟩
def nt11 : Nat := 33
theorem st11 : FnSt Tryz.prog 11 fd11 nt11 := ⟨enters_of Tryz.func11 (by kernel_rfl) (c := bod Tryz.f11.body) rfl, ⟨Tryz.f11, Tryz.func11, rfl, rfl, rfl, by kernel_rfl⟩, by kernel_rfl⟩
def q_L12_7 : LoopA := ⟨112007, [2, 4, 8, 9, 10, 31, 32, 33], [2, 8, 9, 10], [0, 1, 2, 3, 4, 5, 6, 7, 8, 9, 10, 11, 12, 14, 15], ⟨[3, 0, 0, 44, 0, 28, 3, 3], [none, none, none, none, none, none, none, none], [(43, [13, 14, 15, 16, 17, 18, 19, 20, 21, 22, 23, 24, 25, 26, 27, 28, 29, 30])], [false, false, false, false, false, false, false, false], [(43, [19, 20, 21, 22, 23, 24, 25, 26, 27, 28, 29, 30, 33, 41, 42, 6, 7, 8, 12])], false⟩, ⟨[3, 0, 44, 0], [none, none, none, none], [], [false, false, false, false], [], false⟩⟩
noncomputable def fd12 : FnDef := ⟨bod Tryz.f12.body, [ResultVar.cell 8 43, ResultVar.tmp 9], 4, ann [[1, 2, 3, 4, 8, 9], [1, 2, 3, 4, 8, 9, 16], [8, 9], [2, 3, 4, 8, 9, 23], [8, 9], [2, 3, 4, 8, 9, 10], [2, 4, 8, 9, 10, 31, 32, 33], [2, 4, 8, 9, 10, 31, 32, 33, 34], [2, 4, 8, 9, 10, 12, 31, 32, 33], [2, 4, 8, 9, 10, 12, 31, 32, 33, 46], [2, 8, 9, 10], [2, 4, 8, 9, 10, 12, 31, 32, 33, 53], [2, 8, 9, 10], [2, 4, 8, 9, 10, 12, 13, 14, 31, 32, 33], [2, 4, 8, 9, 10, 12, 13, 14, 31, 32, 33, 67], [2, 8, 9, 10], [2, 4, 8, 9, 10, 12, 31, 32, 33], [2, 4, 8, 9, 10, 12, 15, 31, 32, 33], [2, 4, 8, 9, 10, 12, 15, 31, 32, 33, 81], [2, 4, 8, 9, 10, 12, 31, 32, 33], [2, 4, 8, 9, 10, 31, 32, 33], [2, 4, 8, 9, 10, 31, 32, 33], [8, 10], [8, 9]] [(16, [2, 3, 4, 8, 9]), (23, [2, 3, 4, 8, 9]), (34, [2, 4, 8, 9, 10, 31, 32, 33]), (46, [2, 4, 8, 9, 10, 12, 31, 32, 33]), (53, [2, 4, 8, 9, 10, 12, 31, 32, 33]), (67, [2, 4, 8, 9, 10, 12, 13, 31, 32, 33]), (81, [2, 4, 8, 9, 10, 31, 32, 33])] [(7, q_L12_7)]⟩
def nt12 : Nat := 101
theorem st12 : FnSt Tryz.prog 12 fd12 nt12 := ⟨enters_of Tryz.func12 (by kernel_rfl) (c := bod Tryz.f12.body) rfl, ⟨Tryz.f12, Tryz.func12, rfl, rfl, rfl, by kernel_rfl⟩, by kernel_rfl⟩
noncomputable def fd13 : FnDef := ⟨bod Tryz.f13.body, [ResultVar.tmp 4], 2, ann [[0, 1], [1, 5], [1, 5, 10], [5], [4]] [(10, [5])] []⟩
def nt13 : Nat := 15
theorem st13 : FnSt Tryz.prog 13 fd13 nt13 := ⟨enters_of Tryz.func13 (by kernel_rfl) (c := bod Tryz.f13.body) rfl, ⟨Tryz.f13, Tryz.func13, rfl, rfl, rfl, by kernel_rfl⟩, by kernel_rfl⟩
noncomputable def fd14 : FnDef := ⟨bod Tryz.f14.body, [ResultVar.tmp 4], 2, ann [[2, 3], [2, 3, 7], [2, 3, 7, 8], [2, 3, 5, 7], [2, 3, 7, 19], [4], [2, 3, 7], [2, 3, 6], [4]] [(8, [2, 3, 7]), (19, [2, 3, 7])] []⟩
def nt14 : Nat := 125
theorem st14 : FnSt Tryz.prog 14 fd14 nt14 := ⟨enters_of Tryz.func14 (by kernel_rfl) (c := bod Tryz.f14.body) rfl, ⟨Tryz.f14, Tryz.func14, rfl, rfl, rfl, by kernel_rfl⟩, by kernel_rfl⟩
noncomputable def fd15 : FnDef := ⟨bod Tryz.f15.body, [ResultVar.cell 4 43, ResultVar.tmp 5], 2, ann [[2, 3, 4], [2, 3, 4, 6], [2, 3, 4, 7], [2, 3, 4, 7, 14], [4, 5], [2, 3, 4], [2, 3, 4], [2, 3, 4], [2, 3, 4], [2, 3, 4, 36], [2, 3, 4, 36, 37], [2, 4], [2, 4, 52], [2, 4], [4, 5]] [(14, [2, 3, 4]), (37, [2, 4]), (52, [2, 4])] []⟩
def nt15 : Nat := 68
theorem st15 : FnSt Tryz.prog 15 fd15 nt15 := ⟨enters_of Tryz.func15 (by kernel_rfl) (c := bod Tryz.f15.body) rfl, ⟨Tryz.f15, Tryz.func15, rfl, rfl, rfl, by kernel_rfl⟩, by kernel_rfl⟩
noncomputable def fd16 : FnDef := ⟨bod Tryz.f16.body, [ResultVar.cell 6 43, ResultVar.tmp 7], 3, ann [[1, 3, 5, 6], [1, 3, 5, 6, 12], [6, 8, 9], [6, 7], [3, 5, 6, 32], [6, 7], [3, 5, 6, 10], [6, 7]] [(12, [1, 3, 5, 6]), (32, [3, 5, 6])] []⟩
def nt16 : Nat := 41
theorem st16 : FnSt Tryz.prog 16 fd16 nt16 := ⟨enters_of Tryz.func16 (by kernel_rfl) (c := bod Tryz.f16.body) rfl, ⟨Tryz.f16, Tryz.func16, rfl, rfl, rfl, by kernel_rfl⟩, by kernel_rfl⟩
noncomputable def fd17 : FnDef := ⟨bod Tryz.f17.body, [ResultVar.cell 4 43, ResultVar.tmp 5], 2, ann [[1, 2, 4], [1, 2, 4, 6], [4, 5], [1, 2, 4, 15], [4, 5], [1, 2, 4], [2, 4], [4, 5]] [(6, [1, 2, 4]), (15, [1, 2, 4])] []⟩
def nt17 : Nat := 31
theorem st17 : FnSt Tryz.prog 17 fd17 nt17 := ⟨enters_of Tryz.func17 (by kernel_rfl) (c := bod Tryz.f17.body) rfl, ⟨Tryz.f17, Tryz.func17, rfl, rfl, rfl, by kernel_rfl⟩, by kernel_rfl⟩
noncomputable def fd18 : FnDef := ⟨bod Tryz.f18.body, [ResultVar.cell 4 43, ResultVar.tmp 5], 2, ann [[2, 3, 4], [2, 3, 4, 11], [4, 5], [2, 3, 4, 17], [4, 5], [2, 3, 4, 22], [4, 5], [2, 3, 4, 29], [4, 5], [2, 3, 4], [2, 3, 4, 70], [2, 3, 4, 6], [2, 3, 4, 6, 7], [2, 3, 4], [2, 3, 4, 8], [2, 3, 4, 8, 92], [4, 5], [2, 3, 4, 9, 10], [2, 3, 4, 9, 10, 103], [4, 5], [2, 3, 4, 9], [2, 3, 4], [2, 3, 4], [2, 4], [4, 5]] [(11, [2, 3, 4]), (17, [2, 3, 4]), (22, [2, 3, 4]), (29, [2, 3, 4]), (70, [2, 3, 4]), (92, [2, 3, 4]), (103, [2, 3, 4, 9])] []⟩
def nt18 : Nat := 123
theorem st18 : FnSt Tryz.prog 18 fd18 nt18 := ⟨enters_of Tryz.func18 (by kernel_rfl) (c := bod Tryz.f18.body) rfl, ⟨Tryz.f18, Tryz.func18, rfl, rfl, rfl, by kernel_rfl⟩, by kernel_rfl⟩
noncomputable def fd19 : FnDef := ⟨bod Tryz.f19.body, [ResultVar.cell 0 43], 0, ann [[0], [0, 1], [0, 1], [0, 1], [0, 1], [0, 1], [0]] [] []⟩
def nt19 : Nat := 40
theorem st19 : FnSt Tryz.prog 19 fd19 nt19 := ⟨enters_of Tryz.func19 (by kernel_rfl) (c := bod Tryz.f19.body) rfl, ⟨Tryz.f19, Tryz.func19, rfl, rfl, rfl, by kernel_rfl⟩, by kernel_rfl⟩
def q_L20_3 : LoopA := ⟨120003, [1, 2, 3, 7, 8], [7], [0], ⟨[9, 9, 0, 32, 3], [none, none, none, some 48, none], [], [false, false, false, false, false], [], false⟩, ⟨[32], [none], [], [false], [], false⟩⟩
noncomputable def fd20 : FnDef := ⟨bod Tryz.f20.body, [ResultVar.tmp 6], 3, ann [[1, 2, 3], [1, 2, 3, 7], [1, 2, 3, 7, 8], [1, 2, 3, 7, 8, 13], [1, 2, 3, 7, 8], [1, 2, 3, 7, 8, 33], [1, 2, 3, 7, 8], [6]] [(13, [1, 2, 3, 7, 8]), (33, [1, 2, 3, 7, 8])] [(3, q_L20_3)]⟩
def nt20 : Nat := 44
theorem st20 : FnSt Tryz.prog 20 fd20 nt20 := ⟨enters_of Tryz.func20 (by kernel_rfl) (c := bod Tryz.f20.body) rfl, ⟨Tryz.f20, Tryz.func20, rfl, rfl, rfl, by kernel_rfl⟩, by kernel_rfl⟩
def q_L21_5 : LoopA := ⟨121005, [1, 4, 5, 22, 23, 24], [4, 5], [0, 1, 2, 3, 4, 5, 6, 7], ⟨[3, 0, 0, 28, 3, 3], [none, none, none, none, none, none], [], [false, false, false, false, false, false], [], false⟩, ⟨[0, 0], [none, none], [], [false, false], [], false⟩⟩
noncomputable def fd21 : FnDef := ⟨bod Tryz.f21.body, [ResultVar.cell 4 36], 2, ann [[1, 2, 4], [1, 2, 4, 15], [4], [1, 2, 4, 5], [1, 4, 5, 22, 23, 24], [1, 4, 5, 22, 23, 24, 25], [1, 4, 5, 7, 22, 23, 24], [1, 4, 5, 7, 22, 23, 24, 31], [1, 4, 5, 8, 9, 22, 23, 24], [1, 4, 5, 8, 22, 23, 24, 39], [1, 4, 5, 22, 23, 24], [1, 4, 5, 22, 23, 24], [4]] [(15, [1, 2, 4]), (25, [1, 4, 5, 22, 23, 24]), (31, [1, 4, 5, 7, 22, 23, 24]), (39, [1, 4, 5, 22, 23, 24])] [(5, q_L21_5)]⟩
def nt21 : Nat := 44
theorem st21 : FnSt Tryz.prog 21 fd21 nt21 := ⟨enters_of Tryz.func21 (by kernel_rfl) (c := bod Tryz.f21.body) rfl, ⟨Tryz.f21, Tryz.func21, rfl, rfl, rfl, by kernel_rfl⟩, by kernel_rfl⟩
def q_L22_2 : LoopA := ⟨122002, [1, 2, 3, 6, 7, 8], [6, 7], [0], ⟨[9, 3, 0, 9, 3, 3], [none, none, none, none, none, none], [], [false, false, false, false, false, false], [], false⟩, ⟨[9, 3], [none, none], [], [false, false], [], false⟩⟩
noncomputable def fd22 : FnDef := ⟨bod Tryz.f22.body, [ResultVar.tmp 6, ResultVar.tmp 7], 3, ann [[1, 2, 3, 6, 7], [1, 2, 3, 6, 7, 8], [1, 2, 3, 6, 7, 8, 13], [1, 2, 3, 6, 7, 8], [1, 2, 3, 6, 7, 8, 23], [6, 7], [6, 7]] [(13, [1, 2, 3, 6, 7, 8]), (23, [1, 2, 3, 6, 7, 8])] [(2, q_L22_2)]⟩
def nt22 : Nat := 40
theorem st22 : FnSt Tryz.prog 22 fd22 nt22 := ⟨enters_of Tryz.func22 (by kernel_rfl) (c := bod Tryz.f22.body) rfl, ⟨Tryz.f22, Tryz.func22, rfl, rfl, rfl, by kernel_rfl⟩, by kernel_rfl⟩
def q_L24_4 : LoopA := ⟨124004, [1, 2, 20, 21, 22], [1, 2], [0, 1, 2, 3, 4, 5, 6, 7, 8, 9, 10, 11, 12, 13, 14, 15, 16, 17, 18, 19, 20, 21, 22, 23, 24, 25, 26, 27, 28, 29, 30, 31], ⟨[0, 0, 28, 3, 3], [none, none, none, none, none], [], [false, false, false, false, false], [], false⟩, ⟨[0, 0], [none, none], [], [false, false], [], false⟩⟩
noncomputable def fd24 : FnDef := ⟨bod Tryz.f24.body, [ResultVar.cell 2 43], 1, ann [[1, 2], [1, 2], [1, 2], [1, 2, 20, 21, 22], [1, 2, 20, 21, 22, 23], [1, 2, 3, 4, 20, 21, 22], [1, 2, 20, 21, 22], [1, 2, 20, 21, 22], [1, 2, 35, 36], [1, 2, 35, 36, 37], [1, 2, 5, 6, 35, 36], [1, 2, 35, 36], [1, 2, 35, 36], [1, 2], [1, 2], [2]] [(23, [1, 2, 20, 21, 22]), (37, [1, 2, 35, 36])] [(4, q_L24_4)]⟩
def nt24 : Nat := 55
theorem st24 : FnSt Tryz.prog 24 fd24 nt24 := ⟨enters_of Tryz.func24 (by kernel_rfl) (c := bod Tryz.f24.body) rfl, ⟨Tryz.f24, Tryz.func24, rfl, rfl, rfl, by kernel_rfl⟩, by kernel_rfl⟩
noncomputable def fd25 : FnDef := ⟨bod Tryz.f25.body, [ResultVar.tmp 4], 2, ann [[1, 2], [4]] [] []⟩
def nt25 : Nat := 21
theorem st25 : FnSt Tryz.prog 25 fd25 nt25 := ⟨enters_of Tryz.func25 (by kernel_rfl) (c := bod Tryz.f25.body) rfl, ⟨Tryz.f25, Tryz.func25, rfl, rfl, rfl, by kernel_rfl⟩, by kernel_rfl⟩
noncomputable def fd26 : FnDef := ⟨bod Tryz.f26.body, [ResultVar.cell 4 36, ResultVar.tmp 5], 2, ann [[2, 3, 4], [2, 3, 4], [2, 3, 4, 6], [2, 3, 4, 6, 14], [4, 5], [2, 3, 4, 7, 8], [2, 3, 4, 7, 8, 26], [4, 5], [2, 3, 4], [2, 3, 4, 32], [2, 3, 4, 32, 33], [2, 4], [2, 3, 4, 32, 38], [2, 4], [2, 3, 4, 32, 43], [2, 4], [2, 3, 4, 32, 48], [2, 4], [2, 3, 4, 53], [2, 4], [4, 5]] [(14, [2, 3, 4]), (26, [2, 3, 4, 7]), (33, [2, 4]), (38, [2, 4]), (43, [2, 4]), (48, [2, 4]), (53, [2, 4])] []⟩
def nt26 : Nat := 60
theorem st26 : FnSt Tryz.prog 26 fd26 nt26 := ⟨enters_of Tryz.func26 (by kernel_rfl) (c := bod Tryz.f26.body) rfl, ⟨Tryz.f26, Tryz.func26, rfl, rfl, rfl, by kernel_rfl⟩, by kernel_rfl⟩
def q_L27_2 : LoopA := ⟨127002, [0, 1, 4, 7, 8], [4], [0, 1, 2, 3, 4, 5, 6, 7, 8, 9, 10, 11, 12, 13, 14, 15, 16, 17, 18, 19, 20, 21, 22, 23, 24], ⟨[28, 78, 3, 3, 3], [none, none, none, none, none], [], [false, false, false, false, false], [], false⟩, ⟨[3], [none], [], [false], [], false⟩⟩
noncomputable def fd27 : FnDef := ⟨bod Tryz.f27.body, [ResultVar.tmp 4], 2, ann [[0, 1, 4], [0, 1, 4, 7, 8], [0, 1, 4, 7, 8, 9], [0, 1, 4, 5, 7, 8], [0, 1, 4, 5, 7, 8, 16], [4], [0, 1, 4, 7, 8], [4]] [(9, [0, 1, 4, 7, 8]), (16, [0, 1, 4, 7, 8])] [(2, q_L27_2)]⟩
def nt27 : Nat := 19
theorem st27 : FnSt Tryz.prog 27 fd27 nt27 := ⟨enters_of Tryz.func27 (by kernel_rfl) (c := bod Tryz.f27.body) rfl, ⟨Tryz.f27, Tryz.func27, rfl, rfl, rfl, by kernel_rfl⟩, by kernel_rfl⟩
def q_L27b_2 : LoopA := ⟨20127002, [0, 1, 4, 7, 8], [4], [0, 1], ⟨[28, 78, 3, 3, 3], [none, none, none, none, none], [], [false, false, false, false, false], [], false⟩, ⟨[3], [none], [], [false], [], false⟩⟩
noncomputable def fd27b : FnDef := ⟨bod Tryz.f27.body, [ResultVar.tmp 4], 2, ann [[0, 1, 4], [0, 1, 4, 7, 8], [0, 1, 4, 7, 8, 9], [0, 1, 4, 5, 7, 8], [0, 1, 4, 5, 7, 8, 16], [4], [0, 1, 4, 7, 8], [4]] [(9, [0, 1, 4, 7, 8]), (16, [0, 1, 4, 7, 8])] [(2, q_L27b_2)]⟩
theorem st27b : FnSt Tryz.prog 27 fd27b nt27 := ⟨enters_of Tryz.func27 (by kernel_rfl) (c := bod Tryz.f27.body) rfl, ⟨Tryz.f27, Tryz.func27, rfl, rfl, rfl, by kernel_rfl⟩, by kernel_rfl⟩
noncomputable def fd28 : FnDef := ⟨bod Tryz.f28.body, [ResultVar.tmp 3], 2, ann [[1, 2], [3]] [] []⟩
def nt28 : Nat := 9
theorem st28 : FnSt Tryz.prog 28 fd28 nt28 := ⟨enters_of Tryz.func28 (by kernel_rfl) (c := bod Tryz.f28.body) rfl, ⟨Tryz.f28, Tryz.func28, rfl, rfl, rfl, by kernel_rfl⟩, by kernel_rfl⟩
noncomputable def fd30 : FnDef := ⟨bod Tryz.f30.body, [ResultVar.tmp 4], 2, ann [[2, 3], [4]] [] []⟩
def nt30 : Nat := 45
theorem st30 : FnSt Tryz.prog 30 fd30 nt30 := ⟨enters_of Tryz.func30 (by kernel_rfl) (c := bod Tryz.f30.body) rfl, ⟨Tryz.f30, Tryz.func30, rfl, rfl, rfl, by kernel_rfl⟩, by kernel_rfl⟩
noncomputable def fd31 : FnDef := ⟨bod Tryz.f31.body, [ResultVar.tmp 4], 2, ann [[2, 3], [4]] [] []⟩
def nt31 : Nat := 52
theorem st31 : FnSt Tryz.prog 31 fd31 nt31 := ⟨enters_of Tryz.func31 (by kernel_rfl) (c := bod Tryz.f31.body) rfl, ⟨Tryz.f31, Tryz.func31, rfl, rfl, rfl, by kernel_rfl⟩, by kernel_rfl⟩
def q_L32_4 : LoopA := ⟨132004, [1, 2, 6, 15, 16, 17], [6], [], ⟨[28, 83, 4, 28, 3, 3], [none, none, none, none, none, none], [], [false, false, false, false, false, false], [], false⟩, ⟨[4], [none], [], [false], [], false⟩⟩
noncomputable def fd32 : FnDef := ⟨bod Tryz.f32.body, [ResultVar.tmp 6], 3, ann [[0, 1, 2, 6], [0, 1, 2, 6, 14], [6], [1, 2, 6, 15, 16, 17], [1, 2, 6, 15, 16, 17, 18], [1, 2, 6, 7, 8, 15, 16, 17], [1, 2, 6, 8, 9, 15, 16, 17], [1, 2, 6, 15, 16, 17, 30], [6], [1, 2, 6, 15, 16, 17], [6]] [(14, [0, 1, 2, 6]), (18, [1, 2, 6, 15, 16, 17]), (30, [1, 2, 6, 15, 16, 17])] [(4, q_L32_4)]⟩
def nt32 : Nat := 32
theorem st32 : FnSt Tryz.prog 32 fd32 nt32 := ⟨enters_of Tryz.func32 (by kernel_rfl) (c := bod Tryz.f32.body) rfl, ⟨Tryz.f32, Tryz.func32, rfl, rfl, rfl, by kernel_rfl⟩, by kernel_rfl⟩
noncomputable def fd33 : FnDef := ⟨bod Tryz.f33.body, [ResultVar.tmp 4], 2, ann [[2, 3], [4]] [] []⟩
def nt33 : Nat := 66
theorem st33 : FnSt Tryz.prog 33 fd33 nt33 := ⟨enters_of Tryz.func33 (by kernel_rfl) (c := bod Tryz.f33.body) rfl, ⟨Tryz.f33, Tryz.func33, rfl, rfl, rfl, by kernel_rfl⟩, by kernel_rfl⟩
def q_L34_4 : LoopA := ⟨134004, [0, 1, 4, 12, 13], [4], [], ⟨[38, 38, 4, 3, 3], [none, none, none, none, none], [], [false, false, false, false, false], [], false⟩, ⟨[4], [none], [], [false], [], false⟩⟩
noncomputable def fd34 : FnDef := ⟨bod Tryz.f34.body, [ResultVar.tmp 4], 2, ann [[0, 1, 4], [0, 1, 4, 10], [4], [0, 1, 4, 12, 13], [0, 1, 4, 12, 13, 14], [0, 1, 4, 5, 12, 13], [0, 1, 4, 12, 13, 24], [4], [0, 1, 4, 12, 13], [4]] [(10, [0, 1, 4]), (14, [0, 1, 4, 12, 13]), (24, [0, 1, 4, 12, 13])] [(4, q_L34_4)]⟩
def nt34 : Nat := 26
theorem st34 : FnSt Tryz.prog 34 fd34 nt34 := ⟨enters_of Tryz.func34 (by kernel_rfl) (c := bod Tryz.f34.body) rfl, ⟨Tryz.f34, Tryz.func34, rfl, rfl, rfl, by kernel_rfl⟩, by kernel_rfl⟩
noncomputable def fd35 : FnDef := ⟨bod Tryz.f35.body, [ResultVar.tmp 4], 2, ann [[2, 3], [4]] [] []⟩
def nt35 : Nat := 52
theorem st35 : FnSt Tryz.prog 35 fd35 nt35 := ⟨enters_of Tryz.func35 (by kernel_rfl) (c := bod Tryz.f35.body) rfl, ⟨Tryz.f35, Tryz.func35, rfl, rfl, rfl, by kernel_rfl⟩, by kernel_rfl⟩
noncomputable def fd36 : FnDef := ⟨bod Tryz.f36.body, [ResultVar.tmp 4], 2, ann [[2, 3], [2, 3, 5], [4], [2, 3, 19], [4], [2, 3, 24], [4], [2, 3, 28], [4], [2, 3, 42], [4], [2, 3, 46], [4], [2, 3, 50], [4], [2, 3, 53], [4], [2, 3, 62], [4], [3, 66], [4], [69], [4], [4]] [(5, []), (19, []), (24, []), (28, []), (42, []), (46, []), (50, []), (53, []), (62, []), (66, []), (69, [])] []⟩
def nt36 : Nat := 89
theorem st36 : FnSt Tryz.prog 36 fd36 nt36 := ⟨enters_of Tryz.func36 (by kernel_rfl) (c := bod Tryz.f36.body) rfl, ⟨Tryz.f36, Tryz.func36, rfl, rfl, rfl, by kernel_rfl⟩, by kernel_rfl⟩
noncomputable def fd38 : FnDef := ⟨bod Tryz.f38.body, [ResultVar.cell 4 43, ResultVar.tmp 5], 2, ann [[2, 3, 4], [2, 3, 4, 6], [4, 5], [2, 3, 4, 11], [2, 4], [4, 5], [2, 3, 4, 17], [4, 5], [2, 3, 4, 26], [2, 4], [2, 4], [4, 5]] [(6, [2, 3, 4]), (11, [2, 3, 4]), (17, [2, 3, 4]), (26, [2, 4])] []⟩
def nt38 : Nat := 39
theorem st38 : FnSt Tryz.prog 38 fd38 nt38 := ⟨enters_of Tryz.func38 (by kernel_rfl) (c := bod Tryz.f38.body) rfl, ⟨Tryz.f38, Tryz.func38, rfl, rfl, rfl, by kernel_rfl⟩, by kernel_rfl⟩
noncomputable def fd39 : FnDef := ⟨bod Tryz.f39.body, [ResultVar.cell 4 43], 2, ann [[2, 3, 4], [2, 3, 4, 5], [2, 3, 4, 5], [2, 4], [2, 3, 4, 5, 13], [2, 4], [2, 3, 4, 5, 18], [2, 4], [2, 3, 4, 5, 29], [2, 3, 4, 5, 33], [2, 4], [2, 3, 4, 5, 47], [2, 4], [4]] [(13, [2, 4]), (18, [2, 4]), (29, [2, 4]), (33, [2, 4]), (47, [2, 4])] []⟩
def nt39 : Nat := 62
theorem st39 : FnSt Tryz.prog 39 fd39 nt39 := ⟨enters_of Tryz.func39 (by kernel_rfl) (c := bod Tryz.f39.body) rfl, ⟨Tryz.f39, Tryz.func39, rfl, rfl, rfl, by kernel_rfl⟩, by kernel_rfl⟩
def q_L40_3 : LoopA := ⟨140003, [1, 2, 7, 11, 12, 13], [7], [], ⟨[9, 9, 32, 31, 3, 3], [none, none, some 48, none, none, none], [], [false, false, false, false, false, false], [], false⟩, ⟨[32], [none], [], [false], [], false⟩⟩
noncomputable def fd40 : FnDef := ⟨bod Tryz.f40.body, [ResultVar.tmp 6], 3, ann [[1, 2, 3], [1, 2, 3, 7], [1, 2, 7, 11, 12, 13], [1, 2, 7, 11, 12, 13, 14], [1, 2, 7, 9, 11, 12, 13], [1, 2, 7, 9, 11, 12, 13, 26], [1, 2, 7, 11, 12, 13], [1, 2, 7, 11, 12, 13], [6]] [(14, [1, 2, 7, 11, 12, 13]), (26, [1, 2, 7, 11, 12, 13])] [(3, q_L40_3)]⟩
def nt40 : Nat := 34
theorem st40 : FnSt Tryz.prog 40 fd40 nt40 := ⟨enters_of Tryz.func40 (by kernel_rfl) (c := bod Tryz.f40.body) rfl, ⟨Tryz.f40, Tryz.func40, rfl, rfl, rfl, by kernel_rfl⟩, by kernel_rfl⟩
noncomputable def fd42 : FnDef := ⟨bod Tryz.f42.body, [ResultVar.tmp 2], 1, ann [[1], [1, 3], [2], [1, 41], [2], [1, 46], [2], [2]] [(3, [1]), (41, [1]), (46, [1])] []⟩
def nt42 : Nat := 59
theorem st42 : FnSt Tryz.prog 42 fd42 nt42 := ⟨enters_of Tryz.func42 (by kernel_rfl) (c := bod Tryz.f42.body) rfl, ⟨Tryz.f42, Tryz.func42, rfl, rfl, rfl, by kernel_rfl⟩, by kernel_rfl⟩
noncomputable def fd43 : FnDef := ⟨bod Tryz.f43.body, [ResultVar.cell 4 27, ResultVar.tmp 5], 2, ann [[2, 3, 4], [2, 3, 4, 13], [4, 5], [2, 3, 4, 16], [4, 5], [2, 3, 4, 22], [4, 5], [4, 5]] [(13, [2, 3, 4]), (16, [2, 3, 4]), (22, [2, 3, 4])] []⟩
def nt43 : Nat := 42
theorem st43 : FnSt Tryz.prog 43 fd43 nt43 := ⟨enters_of Tryz.func43 (by kernel_rfl) (c := bod Tryz.f43.body) rfl, ⟨Tryz.f43, Tryz.func43, rfl, rfl, rfl, by kernel_rfl⟩, by kernel_rfl⟩
noncomputable def fd44 : FnDef := ⟨bod Tryz.f44.body, [ResultVar.cell 2 36], 1, ann [[1, 2], [2]] [] []⟩
def nt44 : Nat := 22
theorem st44 : FnSt Tryz.prog 44 fd44 nt44 := ⟨enters_of Tryz.func44 (by kernel_rfl) (c := bod Tryz.f44.body) rfl, ⟨Tryz.f44, Tryz.func44, rfl, rfl, rfl, by kernel_rfl⟩, by kernel_rfl⟩
def q_L45_8 : LoopA := ⟨145008, [1, 2, 8, 9], [1, 2, 8], [], ⟨[3, 3, 136, 3], [none, none, none, none], [], [false, false, false, false], [], false⟩, ⟨[3, 3, 136], [none, none, none], [], [false, false, false], [], false⟩⟩
def q_L45_14 : LoopA := ⟨145014, [0], [0], [], ⟨[9], [none], [], [false], [], false⟩, ⟨[9], [none], [], [false], [], false⟩⟩
def q_L45_16 : LoopA := ⟨145016, [0], [0], [], ⟨[9], [none], [], [false], [], false⟩, ⟨[9], [none], [], [false], [], false⟩⟩
noncomputable def fd45 : FnDef := ⟨bod Tryz.f45.body, [ResultVar.tmp 6, ResultVar.tmp 7], 3, ann [[0, 1, 2], [0, 1, 2, 17], [6, 7], [0, 1, 2, 20], [6, 7], [0, 1, 2, 26], [1, 2, 8], [1, 2, 8, 9], [1, 2, 8, 9, 32], [1, 2, 8, 9], [1, 2, 8, 9, 46], [1, 2, 8, 9], [0, 1, 2], [0, 63], [0, 71], [0], [0, 84], [0], [6, 7]] [(17, [0, 1, 2]), (20, [0, 1, 2]), (26, [0, 1, 2]), (32, [1, 2, 8, 9]), (46, [1, 2, 8, 9]), (63, [0]), (71, [0]), (84, [0])] [(8, q_L45_8), (14, q_L45_14), (16, q_L45_16)]⟩
def nt45 : Nat := 91
theorem st45 : FnSt Tryz.prog 45 fd45 nt45 := ⟨enters_of Tryz.func45 (by kernel_rfl) (c := bod Tryz.f45.body) rfl, ⟨Tryz.f45, Tryz.func45, rfl, rfl, rfl, by kernel_rfl⟩, by kernel_rfl⟩
noncomputable def fd46 : FnDef := ⟨bod Tryz.f46.body, [ResultVar.cell 2 27], 1, ann [[1, 2], [1, 2], [2]] [] []⟩
def nt46 : Nat := 16
theorem st46 : FnSt Tryz.prog 46 fd46 nt46 := ⟨enters_of Tryz.func46 (by kernel_rfl) (c := bod Tryz.f46.body) rfl, ⟨Tryz.f46, Tryz.func46, rfl, rfl, rfl, by kernel_rfl⟩, by kernel_rfl⟩
noncomputable def fd48 : FnDef := ⟨bod Tryz.f48.body, [ResultVar.cell 2 50], 1, ann [[1, 2], [1, 2], [2]] [] []⟩
def nt48 : Nat := 8
theorem st48 : FnSt Tryz.prog 48 fd48 nt48 := ⟨enters_of Tryz.func48 (by kernel_rfl) (c := bod Tryz.f48.body) rfl, ⟨Tryz.f48, Tryz.func48, rfl, rfl, rfl, by kernel_rfl⟩, by kernel_rfl⟩
noncomputable def fd49 : FnDef := ⟨bod Tryz.f49.body, [ResultVar.cell 2 36], 1, ann [[1, 2], [2]] [] []⟩
def nt49 : Nat := 22
theorem st49 : FnSt Tryz.prog 49 fd49 nt49 := ⟨enters_of Tryz.func49 (by kernel_rfl) (c := bod Tryz.f49.body) rfl, ⟨Tryz.f49, Tryz.func49, rfl, rfl, rfl, by kernel_rfl⟩, by kernel_rfl⟩
noncomputable def fd50 : FnDef := ⟨bod Tryz.f50.body, [ResultVar.tmp 4, ResultVar.tmp 5], 2, ann [[0, 3], [0, 3, 6], [4, 5], [0, 3, 20], [4, 5], [4, 5]] [(6, [0, 3]), (20, [0, 3])] []⟩
def nt50 : Nat := 34
theorem st50 : FnSt Tryz.prog 50 fd50 nt50 := ⟨enters_of Tryz.func50 (by kernel_rfl) (c := bod Tryz.f50.body) rfl, ⟨Tryz.f50, Tryz.func50, rfl, rfl, rfl, by kernel_rfl⟩, by kernel_rfl⟩
noncomputable def fd51 : FnDef := ⟨bod Tryz.f51.body, [ResultVar.cell 4 36], 2, ann [[2, 3, 4], [2, 3, 4, 5], [2, 3, 4, 5, 6, 7], [2, 3, 4, 5, 6, 26], [2, 4], [2, 4, 5, 6, 36], [2, 4], [4]] [(26, [2, 4]), (36, [2, 4])] []⟩
def nt51 : Nat := 75
theorem st51 : FnSt Tryz.prog 51 fd51 nt51 := ⟨enters_of Tryz.func51 (by kernel_rfl) (c := bod Tryz.f51.body) rfl, ⟨Tryz.f51, Tryz.func51, rfl, rfl, rfl, by kernel_rfl⟩, by kernel_rfl⟩
noncomputable def fd52 : FnDef := ⟨bod Tryz.f52.body, [ResultVar.cell 4 36], 2, ann [[2, 3, 4], [2, 3, 4, 6], [2, 3, 4, 16], [4], [2, 3, 4, 7], [2, 4], [4]] [(16, [2, 3, 4])] []⟩
def nt52 : Nat := 41
theorem st52 : FnSt Tryz.prog 52 fd52 nt52 := ⟨enters_of Tryz.func52 (by kernel_rfl) (c := bod Tryz.f52.body) rfl, ⟨Tryz.f52, Tryz.func52, rfl, rfl, rfl, by kernel_rfl⟩, by kernel_rfl⟩
def q_L53_2 : LoopA := ⟨153002, [2, 4, 10, 11, 12], [2, 4], [0, 1, 2, 5, 6, 7, 8, 9, 10, 11, 12], ⟨[0, 0, 32, 3, 3], [none, none, none, none, none], [], [false, false, false, false, false], [], false⟩, ⟨[0, 0], [none, none], [], [false, false], [], false⟩⟩
noncomputable def fd53 : FnDef := ⟨bod Tryz.f53.body, [ResultVar.cell 4 36], 2, ann [[2, 3, 4], [2, 4, 10, 11, 12], [2, 4, 10, 11, 12, 13], [2, 4, 6, 10, 11, 12], [2, 4, 6, 7, 8, 10, 11, 12], [2, 4, 6, 7, 10, 11, 12, 23], [2, 4, 6, 10, 11, 12], [2, 4, 10, 11, 12], [2, 4, 10, 11, 12], [4]] [(13, [2, 4, 10, 11, 12]), (23, [2, 4, 6, 10, 11, 12])] [(2, q_L53_2)]⟩
def nt53 : Nat := 38
theorem st53 : FnSt Tryz.prog 53 fd53 nt53 := ⟨enters_of Tryz.func53 (by kernel_rfl) (c := bod Tryz.f53.body) rfl, ⟨Tryz.f53, Tryz.func53, rfl, rfl, rfl, by kernel_rfl⟩, by kernel_rfl⟩
noncomputable def fd54 : FnDef := ⟨bod Tryz.f54.body, [ResultVar.cell 4 36], 2, ann [[2, 3, 4], [2, 3, 4, 5, 6], [2, 3, 4, 5, 14], [2, 4], [4], [2, 4], [4]] [(14, [2, 3, 4, 5])] []⟩
def nt54 : Nat := 39
theorem st54 : FnSt Tryz.prog 54 fd54 nt54 := ⟨enters_of Tryz.func54 (by kernel_rfl) (c := bod Tryz.f54.body) rfl, ⟨Tryz.f54, Tryz.func54, rfl, rfl, rfl, by kernel_rfl⟩, by kernel_rfl⟩
noncomputable def fd55 : FnDef := ⟨bod Tryz.f55.body, [ResultVar.cell 4 36], 2, ann [[2, 3, 4], [2, 3, 4, 5], [2, 3, 4, 5, 6, 7], [2, 3, 4, 5, 6, 24], [2, 4], [2, 4, 5, 6, 34], [2, 4], [4]] [(24, [2, 4]), (34, [2, 4])] []⟩
def nt55 : Nat := 51
theorem st55 : FnSt Tryz.prog 55 fd55 nt55 := ⟨enters_of Tryz.func55 (by kernel_rfl) (c := bod Tryz.f55.body) rfl, ⟨Tryz.f55, Tryz.func55, rfl, rfl, rfl, by kernel_rfl⟩, by kernel_rfl⟩
def q_L56_4 : LoopA := ⟨156004, [0, 1, 4, 12, 13], [4], [], ⟨[29, 29, 4, 3, 3], [none, none, none, none, none], [], [false, false, false, false, false], [], false⟩, ⟨[4], [none], [], [false], [], false⟩⟩
noncomputable def fd56 : FnDef := ⟨bod Tryz.f56.body, [ResultVar.tmp 4], 2, ann [[0, 1, 4], [0, 1, 4, 10], [4], [0, 1, 4, 12, 13], [0, 1, 4, 12, 13, 14], [0, 1, 4, 5, 12, 13], [0, 1, 4, 12, 13, 24], [4], [0, 1, 4, 12, 13], [4]] [(10, [0, 1, 4]), (14, [0, 1, 4, 12, 13]), (24, [0, 1, 4, 12, 13])] [(4, q_L56_4)]⟩
def nt56 : Nat := 26
theorem st56 : FnSt Tryz.prog 56 fd56 nt56 := ⟨enters_of Tryz.func56 (by kernel_rfl) (c := bod Tryz.f56.body) rfl, ⟨Tryz.f56, Tryz.func56, rfl, rfl, rfl, by kernel_rfl⟩, by kernel_rfl⟩
def q_L57_4 : LoopA := ⟨157004, [0, 1, 4, 12, 13], [4], [], ⟨[30, 30, 4, 3, 3], [none, none, none, none, none], [], [false, false, false, false, false], [], false⟩, ⟨[4], [none], [], [false], [], false⟩⟩
noncomputable def fd57 : FnDef := ⟨bod Tryz.f57.body, [ResultVar.tmp 4], 2, ann [[0, 1, 4], [0, 1, 4, 10], [4], [0, 1, 4, 12, 13], [0, 1, 4, 12, 13, 14], [0, 1, 4, 5, 12, 13], [0, 1, 4, 12, 13, 24], [4], [0, 1, 4, 12, 13], [4]] [(10, [0, 1, 4]), (14, [0, 1, 4, 12, 13]), (24, [0, 1, 4, 12, 13])] [(4, q_L57_4)]⟩
def nt57 : Nat := 26
theorem st57 : FnSt Tryz.prog 57 fd57 nt57 := ⟨enters_of Tryz.func57 (by kernel_rfl) (c := bod Tryz.f57.body) rfl, ⟨Tryz.f57, Tryz.func57, rfl, rfl, rfl, by kernel_rfl⟩, by kernel_rfl⟩
def q_L58_4 : LoopA := ⟨158004, [0, 1, 4, 12, 13], [4], [], ⟨[31, 31, 4, 3, 3], [none, none, none, none, none], [], [false, false, false, false, false], [], false⟩, ⟨[4], [none], [], [false], [], false⟩⟩
noncomputable def fd58 : FnDef := ⟨bod Tryz.f58.body, [ResultVar.tmp 4], 2, ann [[0, 1, 4], [0, 1, 4, 10], [4], [0, 1, 4, 12, 13], [0, 1, 4, 12, 13, 14], [0, 1, 4, 5, 12, 13], [0, 1, 4, 12, 13, 24], [4], [0, 1, 4, 12, 13], [4]] [(10, [0, 1, 4]), (14, [0, 1, 4, 12, 13]), (24, [0, 1, 4, 12, 13])] [(4, q_L58_4)]⟩
def nt58 : Nat := 26
theorem st58 : FnSt Tryz.prog 58 fd58 nt58 := ⟨enters_of Tryz.func58 (by kernel_rfl) (c := bod Tryz.f58.body) rfl, ⟨Tryz.f58, Tryz.func58, rfl, rfl, rfl, by kernel_rfl⟩, by kernel_rfl⟩
def q_L59_4 : LoopA := ⟨159004, [0, 1, 4, 12, 13], [4], [], ⟨[32, 32, 4, 3, 3], [none, none, none, none, none], [], [false, false, false, false, false], [], false⟩, ⟨[4], [none], [], [false], [], false⟩⟩
noncomputable def fd59 : FnDef := ⟨bod Tryz.f59.body, [ResultVar.tmp 4], 2, ann [[0, 1, 4], [0, 1, 4, 10], [4], [0, 1, 4, 12, 13], [0, 1, 4, 12, 13, 14], [0, 1, 4, 5, 12, 13], [0, 1, 4, 12, 13, 24], [4], [0, 1, 4, 12, 13], [4]] [(10, [0, 1, 4]), (14, [0, 1, 4, 12, 13]), (24, [0, 1, 4, 12, 13])] [(4, q_L59_4)]⟩
def nt59 : Nat := 26
theorem st59 : FnSt Tryz.prog 59 fd59 nt59 := ⟨enters_of Tryz.func59 (by kernel_rfl) (c := bod Tryz.f59.body) rfl, ⟨Tryz.f59, Tryz.func59, rfl, rfl, rfl, by kernel_rfl⟩, by kernel_rfl⟩
def q_L60_4 : LoopA := ⟨160004, [0, 1, 4, 12, 13], [4], [], ⟨[33, 33, 4, 3, 3], [none, none, none, none, none], [], [false, false, false, false, false], [], false⟩, ⟨[4], [none], [], [false], [], false⟩⟩
noncomputable def fd60 : FnDef := ⟨bod Tryz.f60.body, [ResultVar.tmp 4], 2, ann [[0, 1, 4], [0, 1, 4, 10], [4], [0, 1, 4, 12, 13], [0, 1, 4, 12, 13, 14], [0, 1, 4, 5, 12, 13], [0, 1, 4, 12, 13, 24], [4], [0, 1, 4, 12, 13], [4]] [(10, [0, 1, 4]), (14, [0, 1, 4, 12, 13]), (24, [0, 1, 4, 12, 13])] [(4, q_L60_4)]⟩
def nt60 : Nat := 26
theorem st60 : FnSt Tryz.prog 60 fd60 nt60 := ⟨enters_of Tryz.func60 (by kernel_rfl) (c := bod Tryz.f60.body) rfl, ⟨Tryz.f60, Tryz.func60, rfl, rfl, rfl, by kernel_rfl⟩, by kernel_rfl⟩
def q_L61_4 : LoopA := ⟨161004, [0, 1, 4, 12, 13], [4], [], ⟨[34, 34, 4, 3, 3], [none, none, none, none, none], [], [false, false, false, false, false], [], false⟩, ⟨[4], [none], [], [false], [], false⟩⟩
noncomputable def fd61 : FnDef := ⟨bod Tryz.f61.body, [ResultVar.tmp 4], 2, ann [[0, 1, 4], [0, 1, 4, 10], [4], [0, 1, 4, 12, 13], [0, 1, 4, 12, 13, 14], [0, 1, 4, 5, 12, 13], [0, 1, 4, 12, 13, 24], [4], [0, 1, 4, 12, 13], [4]] [(10, [0, 1, 4]), (14, [0, 1, 4, 12, 13]), (24, [0, 1, 4, 12, 13])] [(4, q_L61_4)]⟩
def nt61 : Nat := 26
theorem st61 : FnSt Tryz.prog 61 fd61 nt61 := ⟨enters_of Tryz.func61 (by kernel_rfl) (c := bod Tryz.f61.body) rfl, ⟨Tryz.f61, Tryz.func61, rfl, rfl, rfl, by kernel_rfl⟩, by kernel_rfl⟩
def q_L62_4 : LoopA := ⟨162004, [0, 1, 4, 12, 13], [4], [], ⟨[23, 23, 4, 3, 3], [none, none, none, none, none], [], [false, false, false, false, false], [], false⟩, ⟨[4], [none], [], [false], [], false⟩⟩
noncomputable def fd62 : FnDef := ⟨bod Tryz.f62.body, [ResultVar.tmp 4], 2, ann [[0, 1, 4], [0, 1, 4, 10], [4], [0, 1, 4, 12, 13], [0, 1, 4, 12, 13, 14], [0, 1, 4, 5, 12, 13], [0, 1, 4, 12, 13, 24], [4], [0, 1, 4, 12, 13], [4]] [(10, [0, 1, 4]), (14, [0, 1, 4, 12, 13]), (24, [0, 1, 4, 12, 13])] [(4, q_L62_4)]⟩
def nt62 : Nat := 26
theorem st62 : FnSt Tryz.prog 62 fd62 nt62 := ⟨enters_of Tryz.func62 (by kernel_rfl) (c := bod Tryz.f62.body) rfl, ⟨Tryz.f62, Tryz.func62, rfl, rfl, rfl, by kernel_rfl⟩, by kernel_rfl⟩
def q_L63_4 : LoopA := ⟨163004, [0, 1, 4, 12, 13], [4], [], ⟨[24, 24, 4, 3, 3], [none, none, none, none, none], [], [false, false, false, false, false], [], false⟩, ⟨[4], [none], [], [false], [], false⟩⟩
noncomputable def fd63 : FnDef := ⟨bod Tryz.f63.body, [ResultVar.tmp 4], 2, ann [[0, 1, 4], [0, 1, 4, 10], [4], [0, 1, 4, 12, 13], [0, 1, 4, 12, 13, 14], [0, 1, 4, 5, 12, 13], [0, 1, 4, 12, 13, 24], [4], [0, 1, 4, 12, 13], [4]] [(10, [0, 1, 4]), (14, [0, 1, 4, 12, 13]), (24, [0, 1, 4, 12, 13])] [(4, q_L63_4)]⟩
def nt63 : Nat := 26
theorem st63 : FnSt Tryz.prog 63 fd63 nt63 := ⟨enters_of Tryz.func63 (by kernel_rfl) (c := bod Tryz.f63.body) rfl, ⟨Tryz.f63, Tryz.func63, rfl, rfl, rfl, by kernel_rfl⟩, by kernel_rfl⟩
def q_L64_4 : LoopA := ⟨164004, [0, 1, 4, 12, 13], [4], [], ⟨[25, 25, 4, 3, 3], [none, none, none, none, none], [], [false, false, false, false, false], [], false⟩, ⟨[4], [none], [], [false], [], false⟩⟩
noncomputable def fd64 : FnDef := ⟨bod Tryz.f64.body, [ResultVar.tmp 4], 2, ann [[0, 1, 4], [0, 1, 4, 10], [4], [0, 1, 4, 12, 13], [0, 1, 4, 12, 13, 14], [0, 1, 4, 5, 12, 13], [0, 1, 4, 12, 13, 24], [4], [0, 1, 4, 12, 13], [4]] [(10, [0, 1, 4]), (14, [0, 1, 4, 12, 13]), (24, [0, 1, 4, 12, 13])] [(4, q_L64_4)]⟩
def nt64 : Nat := 26
theorem st64 : FnSt Tryz.prog 64 fd64 nt64 := ⟨enters_of Tryz.func64 (by kernel_rfl) (c := bod Tryz.f64.body) rfl, ⟨Tryz.f64, Tryz.func64, rfl, rfl, rfl, by kernel_rfl⟩, by kernel_rfl⟩
def q_L65_4 : LoopA := ⟨165004, [0, 1, 4, 12, 13], [4], [], ⟨[39, 39, 4, 3, 3], [none, none, none, none, none], [], [false, false, false, false, false], [], false⟩, ⟨[4], [none], [], [false], [], false⟩⟩
noncomputable def fd65 : FnDef := ⟨bod Tryz.f65.body, [ResultVar.tmp 4], 2, ann [[0, 1, 4], [0, 1, 4, 10], [4], [0, 1, 4, 12, 13], [0, 1, 4, 12, 13, 14], [0, 1, 4, 5, 12, 13], [0, 1, 4, 12, 13, 24], [4], [0, 1, 4, 12, 13], [4]] [(10, [0, 1, 4]), (14, [0, 1, 4, 12, 13]), (24, [0, 1, 4, 12, 13])] [(4, q_L65_4)]⟩
def nt65 : Nat := 26
theorem st65 : FnSt Tryz.prog 65 fd65 nt65 := ⟨enters_of Tryz.func65 (by kernel_rfl) (c := bod Tryz.f65.body) rfl, ⟨Tryz.f65, Tryz.func65, rfl, rfl, rfl, by kernel_rfl⟩, by kernel_rfl⟩
noncomputable def fd66 : FnDef := ⟨bod Tryz.f66.body, [ResultVar.tmp 2], 1, ann [[1], [2]] [] []⟩
def nt66 : Nat := 7
theorem st66 : FnSt Tryz.prog 66 fd66 nt66 := ⟨enters_of Tryz.func66 (by kernel_rfl) (c := bod Tryz.f66.body) rfl, ⟨Tryz.f66, Tryz.func66, rfl, rfl, rfl, by kernel_rfl⟩, by kernel_rfl⟩
noncomputable def fd67 : FnDef := ⟨bod Tryz.f67.body, [ResultVar.tmp 4], 2, ann [[0, 1], [4]] [] []⟩
def nt67 : Nat := 9
theorem st67 : FnSt Tryz.prog 67 fd67 nt67 := ⟨enters_of Tryz.func67 (by kernel_rfl) (c := bod Tryz.f67.body) rfl, ⟨Tryz.f67, Tryz.func67, rfl, rfl, rfl, by kernel_rfl⟩, by kernel_rfl⟩
noncomputable def fd68 : FnDef := ⟨bod Tryz.f68.body, [ResultVar.tmp 2], 1, ann [[1], [2]] [] []⟩
def nt68 : Nat := 7
theorem st68 : FnSt Tryz.prog 68 fd68 nt68 := ⟨enters_of Tryz.func68 (by kernel_rfl) (c := bod Tryz.f68.body) rfl, ⟨Tryz.f68, Tryz.func68, rfl, rfl, rfl, by kernel_rfl⟩, by kernel_rfl⟩
def q_L69_2 : LoopA := ⟨169002, [0, 2, 5, 6], [0, 2], [], ⟨[9, 4, 3, 3], [none, none, none, none], [], [false, false, false, false], [], false⟩, ⟨[9, 4], [none, none], [], [false, false], [], false⟩⟩
noncomputable def fd69 : FnDef := ⟨bod Tryz.f69.body, [ResultVar.tmp 2], 1, ann [[0, 2], [0, 2, 5, 6], [0, 2, 5, 6, 7], [0, 2, 3, 5, 6], [0, 2, 5, 6, 18], [0, 2], [0, 2, 5, 6], [2]] [(7, [0, 2, 5, 6]), (18, [0, 2, 5, 6])] [(2, q_L69_2)]⟩
def nt69 : Nat := 23
theorem st69 : FnSt Tryz.prog 69 fd69 nt69 := ⟨enters_of Tryz.func69 (by kernel_rfl) (c := bod Tryz.f69.body) rfl, ⟨Tryz.f69, Tryz.func69, rfl, rfl, rfl, by kernel_rfl⟩, by kernel_rfl⟩
def q_L70_5 : LoopA := ⟨170005, [0, 1, 5, 6], [0, 5], [0, 1, 2, 3, 4, 5, 6, 7, 8, 9, 10, 11, 12, 13, 14, 15, 16, 17, 18, 19, 20, 21, 22, 23, 24], ⟨[28, 78, 3, 3], [none, none, none, none], [], [false, false, false, false], [], false⟩, ⟨[28, 3], [none, none], [], [false, false], [], false⟩⟩
noncomputable def fd70 : FnDef := ⟨bod Tryz.f70.body, [ResultVar.tmp 4], 2, ann [[0, 1], [0, 1, 5], [0, 1, 5, 12], [4], [0, 1, 5, 6], [0, 1, 5, 6, 19], [0, 1, 5, 6], [0, 1, 5, 6, 7], [0, 1, 5, 6, 7, 29], [0, 1, 5, 6], [0, 1, 5, 6], [0, 5], [4]] [(12, [0, 1, 5]), (19, [0, 1, 5, 6]), (29, [0, 1, 5, 6])] [(5, q_L70_5)]⟩
def nt70 : Nat := 42
theorem st70 : FnSt Tryz.prog 70 fd70 nt70 := ⟨enters_of Tryz.func70 (by kernel_rfl) (c := bod Tryz.f70.body) rfl, ⟨Tryz.f70, Tryz.func70, rfl, rfl, rfl, by kernel_rfl⟩, by kernel_rfl⟩
noncomputable def fd71 : FnDef := ⟨bod Tryz.f71.body, [ResultVar.tmp 3], 2, ann [[1, 2], [3]] [] []⟩
def nt71 : Nat := 17
theorem st71 : FnSt Tryz.prog 71 fd71 nt71 := ⟨enters_of Tryz.func71 (by kernel_rfl) (c := bod Tryz.f71.body) rfl, ⟨Tryz.f71, Tryz.func71, rfl, rfl, rfl, by kernel_rfl⟩, by kernel_rfl⟩
noncomputable def fd72 : FnDef := ⟨bod Tryz.f72.body, [ResultVar.tmp 6], 3, ann [[0, 1, 2], [6]] [] []⟩
def nt72 : Nat := 15
theorem st72 : FnSt Tryz.prog 72 fd72 nt72 := ⟨enters_of Tryz.func72 (by kernel_rfl) (c := bod Tryz.f72.body) rfl, ⟨Tryz.f72, Tryz.func72, rfl, rfl, rfl, by kernel_rfl⟩, by kernel_rfl⟩
def q_L73_2 : LoopA := ⟨173002, [0, 2, 5, 6], [0, 2], [], ⟨[9, 4, 3, 3], [none, none, none, none], [], [false, false, false, false], [], false⟩, ⟨[9, 4], [none, none], [], [false, false], [], false⟩⟩
noncomputable def fd73 : FnDef := ⟨bod Tryz.f73.body, [ResultVar.tmp 2], 1, ann [[0, 2], [0, 2, 5, 6], [0, 2, 5, 6, 7], [0, 2, 3, 5, 6], [0, 2, 5, 6, 18], [0, 2], [0, 2, 5, 6], [2]] [(7, [0, 2, 5, 6]), (18, [0, 2, 5, 6])] [(2, q_L73_2)]⟩
def nt73 : Nat := 23
theorem st73 : FnSt Tryz.prog 73 fd73 nt73 := ⟨enters_of Tryz.func73 (by kernel_rfl) (c := bod Tryz.f73.body) rfl, ⟨Tryz.f73, Tryz.func73, rfl, rfl, rfl, by kernel_rfl⟩, by kernel_rfl⟩
noncomputable def fd74 : FnDef := ⟨bod Tryz.f74.body, [ResultVar.tmp 2], 1, ann [[1], [1, 4], [1, 4, 5], [1, 4, 7], [1, 4, 7], [1, 4, 10], [1, 12], [1, 16], [2], [22], [2], [1, 25], [2], [34], [2], [38], [2], [2]] [(5, [1, 4]), (7, [1, 4, 7]), (10, [1, 4]), (12, []), (16, [1]), (22, []), (25, [1]), (34, []), (38, [])] []⟩
def nt74 : Nat := 39
theorem st74 : FnSt Tryz.prog 74 fd74 nt74 := ⟨enters_of Tryz.func74 (by kernel_rfl) (c := bod Tryz.f74.body) rfl, ⟨Tryz.f74, Tryz.func74, rfl, rfl, rfl, by kernel_rfl⟩, by kernel_rfl⟩
noncomputable def fd75 : FnDef := ⟨bod Tryz.f75.body, [ResultVar.cell 4 27, ResultVar.tmp 5], 2, ann [[2, 3, 4], [2, 3, 4, 6], [2, 3, 4, 6, 14], [2, 3, 4, 6, 14, 15], [2, 3, 4, 6, 7], [2, 3, 4, 6, 7, 22], [4, 5], [2, 3, 4, 6, 8], [2, 3, 4, 6, 8, 55], [4, 5], [3, 4, 6, 8], [4, 6], [2, 3, 4, 6, 79], [2, 3, 4, 6, 86], [4, 5], [2, 3, 4, 6, 9, 10], [2, 3, 4, 6, 9, 97], [4, 5], [4, 6], [4, 5]] [(15, [4, 6]), (22, [2, 3, 4, 6, 7]), (55, [3, 4, 6, 8]), (79, [4, 6]), (86, [2, 3, 4, 6]), (97, [3, 4, 6, 9])] []⟩
def nt75 : Nat := 110
theorem st75 : FnSt Tryz.prog 75 fd75 nt75 := ⟨enters_of Tryz.func75 (by kernel_rfl) (c := bod Tryz.f75.body) rfl, ⟨Tryz.f75, Tryz.func75, rfl, rfl, rfl, by kernel_rfl⟩, by kernel_rfl⟩
noncomputable def fd81 : FnDef := ⟨bod Tryz.f81.body, [ResultVar.tmp 2], 1, ann [[0], [2]] [] []⟩
def nt81 : Nat := 9
theorem st81 : FnSt Tryz.prog 81 fd81 nt81 := ⟨enters_of Tryz.func81 (by kernel_rfl) (c := bod Tryz.f81.body) rfl, ⟨Tryz.f81, Tryz.func81, rfl, rfl, rfl, by kernel_rfl⟩, by kernel_rfl⟩
noncomputable def fd85 : FnDef := ⟨bod Tryz.f85.body, [ResultVar.tmp 4], 2, ann [[0, 3], [4]] [] []⟩
def nt85 : Nat := 19
theorem st85 : FnSt Tryz.prog 85 fd85 nt85 := ⟨enters_of Tryz.func85 (by kernel_rfl) (c := bod Tryz.f85.body) rfl, ⟨Tryz.f85, Tryz.func85, rfl, rfl, rfl, by kernel_rfl⟩, by kernel_rfl⟩
def q_L86_4 : LoopA := ⟨186004, [5, 21, 22, 23], [5], [], ⟨[29, 29, 3, 3], [none, none, none, none], [], [false, false, false, false], [], false⟩, ⟨[29], [none], [], [false], [], false⟩⟩
noncomputable def fd86 : FnDef := ⟨bod Tryz.f86.body, [ResultVar.tmp 4], 2, ann [[0, 1], [0, 1, 5], [1, 5], [5, 21, 22, 23], [5, 21, 22, 23, 24], [5, 7, 21, 22, 23], [5, 7, 8, 9, 21, 22, 23], [5, 7, 8, 21, 22, 23, 34], [5, 21, 22, 23], [5, 7, 8, 21, 22, 23], [5, 7, 8, 21, 22, 23], [5, 21, 22, 23], [5, 21, 22, 23], [4]] [(24, [5, 21, 22, 23]), (34, [5, 7, 8, 21, 22, 23])] [(4, q_L86_4)]⟩
def nt86 : Nat := 66
theorem st86 : FnSt Tryz.prog 86 fd86 nt86 := ⟨enters_of Tryz.func86 (by kernel_rfl) (c := bod Tryz.f86.body) rfl, ⟨Tryz.f86, Tryz.func86, rfl, rfl, rfl, by kernel_rfl⟩, by kernel_rfl⟩
noncomputable def fd87 : FnDef := ⟨bod Tryz.f87.body, [ResultVar.tmp 4, ResultVar.tmp 5], 2, ann [[2, 3], [4, 5]] [] []⟩
def nt87 : Nat := 12
theorem st87 : FnSt Tryz.prog 87 fd87 nt87 := ⟨enters_of Tryz.func87 (by kernel_rfl) (c := bod Tryz.f87.body) rfl, ⟨Tryz.f87, Tryz.func87, rfl, rfl, rfl, by kernel_rfl⟩, by kernel_rfl⟩
noncomputable def fd89 : FnDef := ⟨bod Tryz.f89.body, [ResultVar.tmp 4], 2, ann [[2, 3], [4]] [] []⟩
def nt89 : Nat := 22
theorem st89 : FnSt Tryz.prog 89 fd89 nt89 := ⟨enters_of Tryz.func89 (by kernel_rfl) (c := bod Tryz.f89.body) rfl, ⟨Tryz.f89, Tryz.func89, rfl, rfl, rfl, by kernel_rfl⟩, by kernel_rfl⟩
noncomputable def fd90 : FnDef := ⟨bod Tryz.f90.body, [ResultVar.tmp 4, ResultVar.tmp 5], 2, ann [[2, 3], [2, 3, 6], [4, 5]] [] []⟩
def nt90 : Nat := 13
theorem st90 : FnSt Tryz.prog 90 fd90 nt90 := ⟨enters_of Tryz.func90 (by kernel_rfl) (c := bod Tryz.f90.body) rfl, ⟨Tryz.f90, Tryz.func90, rfl, rfl, rfl, by kernel_rfl⟩, by kernel_rfl⟩
def q_L91_2 : LoopA := ⟨191002, [0, 1, 6, 7], [0, 1, 6], [0, 1], ⟨[31, 151, 3, 3], [none, none, none, none], [], [false, false, false, false], [], false⟩, ⟨[31, 151, 3], [none, none, none], [], [false, false, false], [], false⟩⟩
noncomputable def fd91 : FnDef := ⟨bod Tryz.f91.body, [ResultVar.tmp 4, ResultVar.tmp 5], 2, ann [[0, 1], [0, 1, 6, 7], [0, 1, 6, 7, 13], [0, 1, 6, 7, 8], [0, 1, 6, 7, 8, 24], [0, 1, 6, 7], [0, 1, 6, 7], [4, 5]] [(13, [0, 1, 6, 7]), (24, [0, 1, 6, 7])] [(2, q_L91_2)]⟩
def nt91 : Nat := 42
theorem st91 : FnSt Tryz.prog 91 fd91 nt91 := ⟨enters_of Tryz.func91 (by kernel_rfl) (c := bod Tryz.f91.body) rfl, ⟨Tryz.f91, Tryz.func91, rfl, rfl, rfl, by kernel_rfl⟩, by kernel_rfl⟩
noncomputable def fd92 : FnDef := ⟨bod Tryz.f92.body, [ResultVar.tmp 3], 2, ann [[1, 2], [3]] [] []⟩
def nt92 : Nat := 21
theorem st92 : FnSt Tryz.prog 92 fd92 nt92 := ⟨enters_of Tryz.func92 (by kernel_rfl) (c := bod Tryz.f92.body) rfl, ⟨Tryz.f92, Tryz.func92, rfl, rfl, rfl, by kernel_rfl⟩, by kernel_rfl⟩
def q_L93_3 : LoopA := ⟨193003, [2, 3, 6, 7, 8], [2, 3], [], ⟨[3, 3, 25, 3, 3], [none, none, none, none, none], [], [false, false, false, false, false], [], false⟩, ⟨[3, 3], [none, none], [], [false, false], [], false⟩⟩
noncomputable def fd93 : FnDef := ⟨bod Tryz.f93.body, [ResultVar.tmp 2], 1, ann [[0, 2], [0, 2, 3], [2, 3, 6, 7, 8], [2, 3, 6, 7, 8, 9], [2, 3, 5, 6, 7, 8], [2, 3, 5, 6, 7, 8, 14], [2, 3], [2, 3, 6, 7, 8], [2]] [(9, [2, 3, 6, 7, 8]), (14, [2, 3, 6, 7, 8])] [(3, q_L93_3)]⟩
def nt93 : Nat := 18
theorem st93 : FnSt Tryz.prog 93 fd93 nt93 := ⟨enters_of Tryz.func93 (by kernel_rfl) (c := bod Tryz.f93.body) rfl, ⟨Tryz.f93, Tryz.func93, rfl, rfl, rfl, by kernel_rfl⟩, by kernel_rfl⟩
noncomputable def fd94 : FnDef := ⟨bod Tryz.f94.body, [ResultVar.tmp 4], 2, ann [[0, 1], [0, 1, 5], [0, 1, 5, 6], [0, 1, 6, 11], [12], [4], [4], [0, 1, 13], [4], [0, 1, 16], [4], [19], [4], [4]] [(11, [0, 1, 6]), (12, []), (13, [0, 1]), (16, [0, 1]), (19, [])] []⟩
def nt94 : Nat := 20
theorem st94 : FnSt Tryz.prog 94 fd94 nt94 := ⟨enters_of Tryz.func94 (by kernel_rfl) (c := bod Tryz.f94.body) rfl, ⟨Tryz.f94, Tryz.func94, rfl, rfl, rfl, by kernel_rfl⟩, by kernel_rfl⟩
def q_L97_5 : LoopA := ⟨197005, [0, 1, 5, 6], [0, 5], [0, 1], ⟨[31, 155, 3, 3], [none, none, none, none], [], [false, false, false, false], [], false⟩, ⟨[31, 3], [none, none], [], [false, false], [], false⟩⟩
noncomputable def fd97 : FnDef := ⟨bod Tryz.f97.body, [ResultVar.tmp 4], 2, ann [[0, 1], [0, 1, 5], [0, 1, 5, 12], [4], [0, 1, 5, 6], [0, 1, 5, 6, 19], [0, 1, 5, 6], [0, 1, 5, 6, 7], [0, 1, 5, 6, 7, 29], [0, 1, 5, 6], [0, 1, 5, 6], [0, 5], [4]] [(12, [0, 1, 5]), (19, [0, 1, 5, 6]), (29, [0, 1, 5, 6])] [(5, q_L97_5)]⟩
def nt97 : Nat := 42
theorem st97 : FnSt Tryz.prog 97 fd97 nt97 := ⟨enters_of Tryz.func97 (by kernel_rfl) (c := bod Tryz.f97.body) rfl, ⟨Tryz.f97, Tryz.func97, rfl, rfl, rfl, by kernel_rfl⟩, by kernel_rfl⟩
noncomputable def fd98 : FnDef := ⟨bod Tryz.f98.body, [ResultVar.tmp 3], 2, ann [[1, 2], [3]] [] []⟩
def nt98 : Nat := 8
theorem st98 : FnSt Tryz.prog 98 fd98 nt98 := ⟨enters_of Tryz.func98 (by kernel_rfl) (c := bod Tryz.f98.body) rfl, ⟨Tryz.f98, Tryz.func98, rfl, rfl, rfl, by kernel_rfl⟩, by kernel_rfl⟩
noncomputable def fd99 : FnDef := ⟨bod Tryz.f99.body, [ResultVar.tmp 4, ResultVar.tmp 5], 2, ann [[2, 3], [4, 5]] [] []⟩
def nt99 : Nat := 12
theorem st99 : FnSt Tryz.prog 99 fd99 nt99 := ⟨enters_of Tryz.func99 (by kernel_rfl) (c := bod Tryz.f99.body) rfl, ⟨Tryz.f99, Tryz.func99, rfl, rfl, rfl, by kernel_rfl⟩, by kernel_rfl⟩
noncomputable def fd101 : FnDef := ⟨bod Tryz.f101.body, [ResultVar.tmp 4, ResultVar.tmp 5], 2, ann [[2, 3], [4, 5]] [] []⟩
def nt101 : Nat := 12
theorem st101 : FnSt Tryz.prog 101 fd101 nt101 := ⟨enters_of Tryz.func101 (by kernel_rfl) (c := bod Tryz.f101.body) rfl, ⟨Tryz.f101, Tryz.func101, rfl, rfl, rfl, by kernel_rfl⟩, by kernel_rfl⟩
def q_L103_2 : LoopA := ⟨203002, [0, 1, 4, 7, 8], [4], [], ⟨[39, 128, 3, 3, 3], [none, none, none, none, none], [], [false, false, false, false, false], [], false⟩, ⟨[3], [none], [], [false], [], false⟩⟩
noncomputable def fd103 : FnDef := ⟨bod Tryz.f103.body, [ResultVar.tmp 4], 2, ann [[0, 1, 4], [0, 1, 4, 7, 8], [0, 1, 4, 7, 8, 9], [0, 1, 4, 5, 7, 8], [0, 1, 4, 5, 7, 8, 16], [4], [0, 1, 4, 7, 8], [4]] [(9, [0, 1, 4, 7, 8]), (16, [0, 1, 4, 7, 8])] [(2, q_L103_2)]⟩
def nt103 : Nat := 19
theorem st103 : FnSt Tryz.prog 103 fd103 nt103 := ⟨enters_of Tryz.func103 (by kernel_rfl) (c := bod Tryz.f103.body) rfl, ⟨Tryz.f103, Tryz.func103, rfl, rfl, rfl, by kernel_rfl⟩, by kernel_rfl⟩
def q_L104_4 : LoopA := ⟨204004, [0, 2, 8, 9], [2], [], ⟨[32, 44, 3, 3], [none, none, none, none], [], [false, false, false, false], [], false⟩, ⟨[44], [none], [], [false], [], false⟩⟩
noncomputable def fd104 : FnDef := ⟨bod Tryz.f104.body, [ResultVar.tmp 2], 1, ann [[0, 2], [0, 2, 6], [2], [0, 2, 8, 9], [0, 2, 8, 9, 10], [0, 2, 3, 8, 9], [0, 2, 8, 9, 26], [2], [0, 2, 8, 9], [2]] [(6, [0, 2]), (10, [0, 2, 8, 9]), (26, [0, 2, 8, 9])] [(4, q_L104_4)]⟩
def nt104 : Nat := 28
theorem st104 : FnSt Tryz.prog 104 fd104 nt104 := ⟨enters_of Tryz.func104 (by kernel_rfl) (c := bod Tryz.f104.body) rfl, ⟨Tryz.f104, Tryz.func104, rfl, rfl, rfl, by kernel_rfl⟩, by kernel_rfl⟩
noncomputable def fd105 : FnDef := ⟨bod Tryz.f105.body, [ResultVar.cell 2 27], 1, ann [[1, 2], [1, 2], [2]] [] []⟩
def nt105 : Nat := 16
theorem st105 : FnSt Tryz.prog 105 fd105 nt105 := ⟨enters_of Tryz.func105 (by kernel_rfl) (c := bod Tryz.f105.body) rfl, ⟨Tryz.f105, Tryz.func105, rfl, rfl, rfl, by kernel_rfl⟩, by kernel_rfl⟩
def q_L106_2 : LoopA := ⟨206002, [0, 1, 4, 7, 8], [4], [0, 1], ⟨[23, 162, 3, 3, 3], [none, none, none, none, none], [], [false, false, false, false, false], [], false⟩, ⟨[3], [none], [], [false], [], false⟩⟩
noncomputable def fd106 : FnDef := ⟨bod Tryz.f106.body, [ResultVar.tmp 4], 2, ann [[0, 1, 4], [0, 1, 4, 7, 8], [0, 1, 4, 7, 8, 9], [0, 1, 4, 5, 7, 8], [0, 1, 4, 5, 7, 8, 16], [4], [0, 1, 4, 7, 8], [4]] [(9, [0, 1, 4, 7, 8]), (16, [0, 1, 4, 7, 8])] [(2, q_L106_2)]⟩
def nt106 : Nat := 19
theorem st106 : FnSt Tryz.prog 106 fd106 nt106 := ⟨enters_of Tryz.func106 (by kernel_rfl) (c := bod Tryz.f106.body) rfl, ⟨Tryz.f106, Tryz.func106, rfl, rfl, rfl, by kernel_rfl⟩, by kernel_rfl⟩
noncomputable def fd107 : FnDef := ⟨bod Tryz.f107.body, [ResultVar.tmp 3], 2, ann [[1, 2], [3]] [] []⟩
def nt107 : Nat := 9
theorem st107 : FnSt Tryz.prog 107 fd107 nt107 := ⟨enters_of Tryz.func107 (by kernel_rfl) (c := bod Tryz.f107.body) rfl, ⟨Tryz.f107, Tryz.func107, rfl, rfl, rfl, by kernel_rfl⟩, by kernel_rfl⟩
def q_L108_2 : LoopA := ⟨208002, [1, 4, 7, 8, 9], [4], [], ⟨[3, 4, 24, 3, 3], [none, none, none, none, none], [], [false, false, false, false, false], [], false⟩, ⟨[4], [none], [], [false], [], false⟩⟩
noncomputable def fd108 : FnDef := ⟨bod Tryz.f108.body, [ResultVar.tmp 4], 2, ann [[0, 1, 4], [1, 4, 7, 8, 9], [1, 4, 7, 8, 9, 10], [1, 4, 6, 7, 8, 9], [1, 4, 7, 8, 9, 22], [4], [1, 4, 7, 8, 9], [4]] [(10, [1, 4, 7, 8, 9]), (22, [1, 4, 7, 8, 9])] [(2, q_L108_2)]⟩
def nt108 : Nat := 24
theorem st108 : FnSt Tryz.prog 108 fd108 nt108 := ⟨enters_of Tryz.func108 (by kernel_rfl) (c := bod Tryz.f108.body) rfl, ⟨Tryz.f108, Tryz.func108, rfl, rfl, rfl, by kernel_rfl⟩, by kernel_rfl⟩
def q_L109_3 : LoopA := ⟨209003, [0, 1, 6, 7, 8], [0, 1, 6, 7], [], ⟨[25, 3, 3, 3, 3], [none, none, none, none, none], [], [false, false, false, false, false], [], false⟩, ⟨[25, 3, 3, 3], [none, none, none, none], [], [false, false, false, false], [], false⟩⟩
noncomputable def fd109 : FnDef := ⟨bod Tryz.f109.body, [ResultVar.tmp 4, ResultVar.tmp 5], 2, ann [[0, 1], [0, 1, 6], [0, 1, 6, 7, 8], [0, 1, 6, 7, 8, 15], [0, 1, 6, 7, 8, 9], [0, 1, 6, 7, 8, 9, 27], [0, 1, 6, 7, 8], [0, 1, 6, 7, 8], [4, 5]] [(15, [0, 1, 6, 7, 8]), (27, [0, 1, 6, 7, 8])] [(3, q_L109_3)]⟩
def nt109 : Nat := 54
theorem st109 : FnSt Tryz.prog 109 fd109 nt109 := ⟨enters_of Tryz.func109 (by kernel_rfl) (c := bod Tryz.f109.body) rfl, ⟨Tryz.f109, Tryz.func109, rfl, rfl, rfl, by kernel_rfl⟩, by kernel_rfl⟩
noncomputable def fd111 : FnDef := ⟨bod Tryz.f111.body, [ResultVar.tmp 6], 3, ann [[0, 1, 2], [0, 7, 8], [0, 7, 18], [6], [6]] [(18, [0, 7])] []⟩
def nt111 : Nat := 24
theorem st111 : FnSt Tryz.prog 111 fd111 nt111 := ⟨enters_of Tryz.func111 (by kernel_rfl) (c := bod Tryz.f111.body) rfl, ⟨Tryz.f111, Tryz.func111, rfl, rfl, rfl, by kernel_rfl⟩, by kernel_rfl⟩
noncomputable def fd112 : FnDef := ⟨bod Tryz.f112.body, [ResultVar.tmp 4, ResultVar.tmp 5], 2, ann [[0, 3], [4, 5]] [] []⟩
def nt112 : Nat := 11
theorem st112 : FnSt Tryz.prog 112 fd112 nt112 := ⟨enters_of Tryz.func112 (by kernel_rfl) (c := bod Tryz.f112.body) rfl, ⟨Tryz.f112, Tryz.func112, rfl, rfl, rfl, by kernel_rfl⟩, by kernel_rfl⟩
noncomputable def fd113 : FnDef := ⟨bod Tryz.f113.body, [ResultVar.cell 2 170], 1, ann [[1, 2], [2]] [] []⟩
def nt113 : Nat := 8
theorem st113 : FnSt Tryz.prog 113 fd113 nt113 := ⟨enters_of Tryz.func113 (by kernel_rfl) (c := bod Tryz.f113.body) rfl, ⟨Tryz.f113, Tryz.func113, rfl, rfl, rfl, by kernel_rfl⟩, by kernel_rfl⟩
def q_L114_2 : LoopA := ⟨214002, [0, 1, 6, 7], [0, 1, 6], [0, 1], ⟨[30, 173, 3, 3], [none, none, none, none], [], [false, false, false, false], [], false⟩, ⟨[30, 173, 3], [none, none, none], [], [false, false, false], [], false⟩⟩
noncomputable def fd114 : FnDef := ⟨bod Tryz.f114.body, [ResultVar.tmp 4, ResultVar.tmp 5], 2, ann [[0, 1], [0, 1, 6, 7], [0, 1, 6, 7, 13], [0, 1, 6, 7, 8], [0, 1, 6, 7, 8, 24], [0, 1, 6, 7], [0, 1, 6, 7], [4, 5]] [(13, [0, 1, 6, 7]), (24, [0, 1, 6, 7])] [(2, q_L114_2)]⟩
def nt114 : Nat := 42
theorem st114 : FnSt Tryz.prog 114 fd114 nt114 := ⟨enters_of Tryz.func114 (by kernel_rfl) (c := bod Tryz.f114.body) rfl, ⟨Tryz.f114, Tryz.func114, rfl, rfl, rfl, by kernel_rfl⟩, by kernel_rfl⟩
noncomputable def fd115 : FnDef := ⟨bod Tryz.f115.body, [ResultVar.tmp 3], 2, ann [[1, 2], [3]] [] []⟩
def nt115 : Nat := 8
theorem st115 : FnSt Tryz.prog 115 fd115 nt115 := ⟨enters_of Tryz.func115 (by kernel_rfl) (c := bod Tryz.f115.body) rfl, ⟨Tryz.f115, Tryz.func115, rfl, rfl, rfl, by kernel_rfl⟩, by kernel_rfl⟩
noncomputable def fd118 : FnDef := ⟨bod Tryz.f118.body, [ResultVar.tmp 4], 2, ann [[0, 1], [0, 1, 5], [0, 1, 5, 6], [0, 1, 6, 11], [12], [4], [4], [0, 1, 13], [4], [0, 1, 16], [4], [19], [4], [4]] [(11, [0, 1, 6]), (12, []), (13, [0, 1]), (16, [0, 1]), (19, [])] []⟩
def nt118 : Nat := 20
theorem st118 : FnSt Tryz.prog 118 fd118 nt118 := ⟨enters_of Tryz.func118 (by kernel_rfl) (c := bod Tryz.f118.body) rfl, ⟨Tryz.f118, Tryz.func118, rfl, rfl, rfl, by kernel_rfl⟩, by kernel_rfl⟩
def q_L119_2 : LoopA := ⟨219002, [0, 1, 6, 7], [0, 1, 6], [0, 1, 2], ⟨[32, 177, 3, 3], [none, none, none, none], [], [false, false, false, false], [], false⟩, ⟨[32, 177, 3], [none, none, none], [], [false, false, false], [], false⟩⟩
noncomputable def fd119 : FnDef := ⟨bod Tryz.f119.body, [ResultVar.tmp 4, ResultVar.tmp 5], 2, ann [[0, 1], [0, 1, 6, 7], [0, 1, 6, 7, 13], [0, 1, 6, 7, 8], [0, 1, 6, 7, 8, 24], [0, 1, 6, 7], [0, 1, 6, 7], [4, 5]] [(13, [0, 1, 6, 7]), (24, [0, 1, 6, 7])] [(2, q_L119_2)]⟩
def nt119 : Nat := 42
theorem st119 : FnSt Tryz.prog 119 fd119 nt119 := ⟨enters_of Tryz.func119 (by kernel_rfl) (c := bod Tryz.f119.body) rfl, ⟨Tryz.f119, Tryz.func119, rfl, rfl, rfl, by kernel_rfl⟩, by kernel_rfl⟩
noncomputable def fd120 : FnDef := ⟨bod Tryz.f120.body, [ResultVar.tmp 4], 3, ann [[1, 2, 3], [4]] [] []⟩
def nt120 : Nat := 9
theorem st120 : FnSt Tryz.prog 120 fd120 nt120 := ⟨enters_of Tryz.func120 (by kernel_rfl) (c := bod Tryz.f120.body) rfl, ⟨Tryz.f120, Tryz.func120, rfl, rfl, rfl, by kernel_rfl⟩, by kernel_rfl⟩
noncomputable def fd121 : FnDef := ⟨bod Tryz.f121.body, [ResultVar.tmp 2], 1, ann [[0], [2]] [] []⟩
def nt121 : Nat := 6
theorem st121 : FnSt Tryz.prog 121 fd121 nt121 := ⟨enters_of Tryz.func121 (by kernel_rfl) (c := bod Tryz.f121.body) rfl, ⟨Tryz.f121, Tryz.func121, rfl, rfl, rfl, by kernel_rfl⟩, by kernel_rfl⟩
def q_L126_2 : LoopA := ⟨226002, [0, 1, 4, 7, 8], [4], [0, 1], ⟨[31, 155, 3, 3, 3], [none, none, none, none, none], [], [false, false, false, false, false], [], false⟩, ⟨[3], [none], [], [false], [], false⟩⟩
noncomputable def fd126 : FnDef := ⟨bod Tryz.f126.body, [ResultVar.tmp 4], 2, ann [[0, 1, 4], [0, 1, 4, 7, 8], [0, 1, 4, 7, 8, 9], [0, 1, 4, 5, 7, 8], [0, 1, 4, 5, 7, 8, 16], [4], [0, 1, 4, 7, 8], [4]] [(9, [0, 1, 4, 7, 8]), (16, [0, 1, 4, 7, 8])] [(2, q_L126_2)]⟩
def nt126 : Nat := 19
theorem st126 : FnSt Tryz.prog 126 fd126 nt126 := ⟨enters_of Tryz.func126 (by kernel_rfl) (c := bod Tryz.f126.body) rfl, ⟨Tryz.f126, Tryz.func126, rfl, rfl, rfl, by kernel_rfl⟩, by kernel_rfl⟩
def q_L127_2 : LoopA := ⟨227002, [0, 1, 6, 7], [0, 1, 6], [0, 1], ⟨[33, 182, 3, 3], [none, none, none, none], [], [false, false, false, false], [], false⟩, ⟨[33, 182, 3], [none, none, none], [], [false, false, false], [], false⟩⟩
noncomputable def fd127 : FnDef := ⟨bod Tryz.f127.body, [ResultVar.tmp 4, ResultVar.tmp 5], 2, ann [[0, 1], [0, 1, 6, 7], [0, 1, 6, 7, 13], [0, 1, 6, 7, 8], [0, 1, 6, 7, 8, 24], [0, 1, 6, 7], [0, 1, 6, 7], [4, 5]] [(13, [0, 1, 6, 7]), (24, [0, 1, 6, 7])] [(2, q_L127_2)]⟩
def nt127 : Nat := 42
theorem st127 : FnSt Tryz.prog 127 fd127 nt127 := ⟨enters_of Tryz.func127 (by kernel_rfl) (c := bod Tryz.f127.body) rfl, ⟨Tryz.f127, Tryz.func127, rfl, rfl, rfl, by kernel_rfl⟩, by kernel_rfl⟩
noncomputable def fd128 : FnDef := ⟨bod Tryz.f128.body, [ResultVar.tmp 3], 2, ann [[1, 2], [3]] [] []⟩
def nt128 : Nat := 8
theorem st128 : FnSt Tryz.prog 128 fd128 nt128 := ⟨enters_of Tryz.func128 (by kernel_rfl) (c := bod Tryz.f128.body) rfl, ⟨Tryz.f128, Tryz.func128, rfl, rfl, rfl, by kernel_rfl⟩, by kernel_rfl⟩
def q_L131_2 : LoopA := ⟨231002, [0, 1, 6, 7], [0, 1, 6], [0, 1], ⟨[34, 185, 3, 3], [none, none, none, none], [], [false, false, false, false], [], false⟩, ⟨[34, 185, 3], [none, none, none], [], [false, false, false], [], false⟩⟩
noncomputable def fd131 : FnDef := ⟨bod Tryz.f131.body, [ResultVar.tmp 4, ResultVar.tmp 5], 2, ann [[0, 1], [0, 1, 6, 7], [0, 1, 6, 7, 13], [0, 1, 6, 7, 8], [0, 1, 6, 7, 8, 24], [0, 1, 6, 7], [0, 1, 6, 7], [4, 5]] [(13, [0, 1, 6, 7]), (24, [0, 1, 6, 7])] [(2, q_L131_2)]⟩
def nt131 : Nat := 42
theorem st131 : FnSt Tryz.prog 131 fd131 nt131 := ⟨enters_of Tryz.func131 (by kernel_rfl) (c := bod Tryz.f131.body) rfl, ⟨Tryz.f131, Tryz.func131, rfl, rfl, rfl, by kernel_rfl⟩, by kernel_rfl⟩
noncomputable def fd132 : FnDef := ⟨bod Tryz.f132.body, [ResultVar.tmp 3], 2, ann [[1, 2], [3]] [] []⟩
def nt132 : Nat := 8
theorem st132 : FnSt Tryz.prog 132 fd132 nt132 := ⟨enters_of Tryz.func132 (by kernel_rfl) (c := bod Tryz.f132.body) rfl, ⟨Tryz.f132, Tryz.func132, rfl, rfl, rfl, by kernel_rfl⟩, by kernel_rfl⟩
noncomputable def fd135 : FnDef := ⟨bod Tryz.f135.body, [ResultVar.tmp 4], 2, ann [[2, 3], [4]] [] []⟩
def nt135 : Nat := 22
theorem st135 : FnSt Tryz.prog 135 fd135 nt135 := ⟨enters_of Tryz.func135 (by kernel_rfl) (c := bod Tryz.f135.body) rfl, ⟨Tryz.f135, Tryz.func135, rfl, rfl, rfl, by kernel_rfl⟩, by kernel_rfl⟩
noncomputable def fd136 : FnDef := ⟨bod Tryz.f136.body, [ResultVar.tmp 4], 2, ann [[0, 1], [4]] [] []⟩
def nt136 : Nat := 17
theorem st136 : FnSt Tryz.prog 136 fd136 nt136 := ⟨enters_of Tryz.func136 (by kernel_rfl) (c := bod Tryz.f136.body) rfl, ⟨Tryz.f136, Tryz.func136, rfl, rfl, rfl, by kernel_rfl⟩, by kernel_rfl⟩
noncomputable def fd137 : FnDef := ⟨bod Tryz.f137.body, [ResultVar.tmp 2], 1, ann [[0], [2]] [] []⟩
def nt137 : Nat := 6
theorem st137 : FnSt Tryz.prog 137 fd137 nt137 := ⟨enters_of Tryz.func137 (by kernel_rfl) (c := bod Tryz.f137.body) rfl, ⟨Tryz.f137, Tryz.func137, rfl, rfl, rfl, by kernel_rfl⟩, by kernel_rfl⟩
def q_L140_2 : LoopA := ⟨240002, [0, 1, 6], [0, 1, 6], [0], ⟨[29, 192, 3], [none, none, none], [], [false, false, false], [], false⟩, ⟨[29, 192, 3], [none, none, none], [], [false, false, false], [], false⟩⟩
noncomputable def fd140 : FnDef := ⟨bod Tryz.f140.body, [ResultVar.tmp 4, ResultVar.tmp 5], 2, ann [[0, 1], [0, 1, 6], [0, 1, 6, 19], [0, 1, 6], [4, 5]] [(19, [0, 1, 6])] [(2, q_L140_2)]⟩
def nt140 : Nat := 36
theorem st140 : FnSt Tryz.prog 140 fd140 nt140 := ⟨enters_of Tryz.func140 (by kernel_rfl) (c := bod Tryz.f140.body) rfl, ⟨Tryz.f140, Tryz.func140, rfl, rfl, rfl, by kernel_rfl⟩, by kernel_rfl⟩
def q_L140b_2 : LoopA := ⟨20240002, [0, 1, 6], [0, 1, 6], [0, 1], ⟨[29, 192, 3], [none, none, none], [], [false, false, false], [], false⟩, ⟨[29, 192, 3], [none, none, none], [], [false, false, false], [], false⟩⟩
noncomputable def fd140b : FnDef := ⟨bod Tryz.f140.body, [ResultVar.tmp 4, ResultVar.tmp 5], 2, ann [[0, 1], [0, 1, 6], [0, 1, 6, 19], [0, 1, 6], [4, 5]] [(19, [0, 1, 6])] [(2, q_L140b_2)]⟩
theorem st140b : FnSt Tryz.prog 140 fd140b nt140 := ⟨enters_of Tryz.func140 (by kernel_rfl) (c := bod Tryz.f140.body) rfl, ⟨Tryz.f140, Tryz.func140, rfl, rfl, rfl, by kernel_rfl⟩, by kernel_rfl⟩
noncomputable def fd141 : FnDef := ⟨bod Tryz.f141.body, [ResultVar.tmp 3], 2, ann [[1, 2], [3]] [] []⟩
def nt141 : Nat := 8
theorem st141 : FnSt Tryz.prog 141 fd141 nt141 := ⟨enters_of Tryz.func141 (by kernel_rfl) (c := bod Tryz.f141.body) rfl, ⟨Tryz.f141, Tryz.func141, rfl, rfl, rfl, by kernel_rfl⟩, by kernel_rfl⟩
noncomputable def fd142 : FnDef := ⟨bod Tryz.f142.body, [ResultVar.tmp 4], 2, ann [[2, 3], [4]] [] []⟩
def nt142 : Nat := 17
theorem st142 : FnSt Tryz.prog 142 fd142 nt142 := ⟨enters_of Tryz.func142 (by kernel_rfl) (c := bod Tryz.f142.body) rfl, ⟨Tryz.f142, Tryz.func142, rfl, rfl, rfl, by kernel_rfl⟩, by kernel_rfl⟩
noncomputable def fd144 : FnDef := ⟨bod Tryz.f144.body, [ResultVar.tmp 2], 1, ann [[0], [2]] [] []⟩
def nt144 : Nat := 6
theorem st144 : FnSt Tryz.prog 144 fd144 nt144 := ⟨enters_of Tryz.func144 (by kernel_rfl) (c := bod Tryz.f144.body) rfl, ⟨Tryz.f144, Tryz.func144, rfl, rfl, rfl, by kernel_rfl⟩, by kernel_rfl⟩
def s_empty : ByteArray := ⟨#[]⟩
def s_k : ByteArray := ⟨#[107]⟩
def s_a : ByteArray := ⟨#[97]⟩
def s_t : ByteArray := ⟨#[116]⟩
def s_u : ByteArray := ⟨#[117]⟩
end Go.Proofs.YthhfjodcgibhfaaGreat
