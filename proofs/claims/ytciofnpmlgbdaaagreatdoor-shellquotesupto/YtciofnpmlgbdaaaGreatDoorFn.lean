/- By program (gen.py): the functions, with the slots that are live behind each region; that they are the program's. -/
import Derived.Test.YtciofnpmlgbdaaaGreatDoorTl
namespace Go.Proofs.YtciofnpmlgbdaaaGreatDoor
open Go Go.Ev
theorem stO {f : FuncId} {fn : Func} {d : FnDef} {nt : Nat} (h : Tryz.prog.funcs[f]? = some fn) (b : fn.body = some d.body) (c : fn.results.toList = d.results) (e : fn.ntmps = nt) (k : (!(fn.name == "runtime.NumGoroutine") && (codeB nt d.body && nodup ((loopsOf d.body).map Go.Ev.keyOf))) = true) : FnSt Tryz.prog f d nt := by
 rw [Bool.and_eq_true,Bool.and_eq_true] at k
 exact ⟨enters_of h (by cases a : (fn.name == "runtime.NumGoroutine") with | false => rfl | true => rw [a] at k; cases k.1) b, ⟨fn, h, b, c, e, k.2.1⟩, k.2.2⟩
def sls:List (Nat×List (Nat×Nat)):=[(22,[(0,5)]),(24,[(0,9)]),(32,[(0,22)]),(68,[(0,4)]),(80,[(0,3)]),(87,[(1,5)]),(88,[(1,5)]),(100,[(3,3)]),(101,[(3,3)]),(113,[(6,3)]),(114,[(6,3)]),(115,[(8,3)]),(116,[(8,3)]),(117,[(10,3)]),(118,[(10,3)]),(119,[(10,3),(21,3),(32,3),(43,3),(54,3),(65,3)]),(120,[(3,3),(33,3),(44,3),(55,3),(66,3),(77,3),(88,3)]),(121,[(3,3),(33,3),(44,3),(55,3),(66,3),(77,3),(88,3)]),(129,[(23,3),(53,3),(64,3),(75,3),(86,3),(97,3),(108,3)]),(130,[(23,3),(53,3),(64,3),(75,3),(86,3),(97,3),(108,3)]),(131,[(23,3),(53,3),(64,3),(75,3),(86,3),(97,3),(108,3),(135,3),(165,3),(176,3),(187,3),(198,3),(209,3),(220,3),(247,3),(277,3),(288,3),(299,3),(310,3),(321,3),(332,3)]),(134,[(3,3),(33,3),(44,3),(55,3),(66,3),(77,3),(88,3),(114,3),(144,3),(155,3),(166,3),(177,3),(188,3),(199,3),(226,3),(256,3),(267,3),(278,3),(289,3),(300,3),(311,3),(338,3),(368,3),(379,3),(390,3),(401,3),(412,3),(423,3)]),(135,[(3,3),(33,3),(44,3),(55,3),(66,3),(77,3),(88,3),(114,3),(144,3),(155,3),(166,3),(177,3),(188,3),(199,3),(226,3),(256,3),(267,3),(278,3),(289,3),(300,3),(311,3),(338,3),(368,3),(379,3),(390,3),(401,3),(412,3),(423,3)]),(139,[(4,5),(6,5)]),(140,[(4,5),(6,5)]),(144,[(8,3),(33,4)]),(145,[(8,3),(33,4)]),(153,[(9,3),(34,4)]),(154,[(9,3),(34,4)]),(155,[(9,3),(34,4)]),(156,[(9,3),(34,4)]),(200,[(6,4),(23,3)]),(201,[(6,4),(23,3)]),(244,[(0,5)]),(245,[(0,5)]),(284,[(2,5)]),(285,[(2,5)]),(354,[(0,5)]),(355,[(0,5)]),(367,[(9,3)]),(368,[(9,3)]),(385,[(6,3)]),(444,[(0,5)]),(445,[(0,5)]),(484,[(3,3),(33,3),(44,3),(55,3),(66,3),(77,3),(88,3)]),(485,[(3,3),(33,3),(44,3),(55,3),(66,3),(77,3),(88,3)]),(530,[(6,4),(23,3)]),(531,[(6,4),(23,3)]),(532,[(6,4),(23,3)])]
def sl:Sl:=fun t=>match Ev.look sls t with | some l=>l | none=>[]
def shs:List (Nat×(Sh×Sh)):=[]
def sh:FuncId→Sh×Sh:=fun f=>match Ev.look shs f with | some l=>l | none=>(⟨[],[],[],[],[],false⟩,⟨[],[],[],[],[],false⟩)
def q_L3_8:LoopA:=⟨103008,[1,4,5,7,9],[1,4],[],⟨[22,4,24,24,3],[none,none,none,none,none],[],[false,false,false,false,false],[],false⟩,⟨[22,4],[none,none],[],[false,false],[],false⟩⟩
noncomputable def fd3:FnDef:=⟨bod Tryz.f3.body,[.tmp 4],2,ann [[0,1,4],[0,1,4,12],[4],[0,1,4,5,6],[1,4,5,6,7,8],[1,4,5,7,32],[4],[1,4,5,7,9],[1,4,5,7,9,36],[1,4,5,7,9],[1,4,5,7,9,47],[1,4],[1,10],[4]] [(12,[0,1,4]),(32,[1,4,5,7]),(36,[1,4,5,7,9]),(47,[1,4,5,7,9])] [(8,q_L3_8)]⟩
def nt3:Nat:=63
theorem st3:FnSt Tryz.prog 3 fd3 nt3:=stO Tryz.func3 rfl rfl rfl (by kernel_rfl)
def q_L4_6:LoopA:=⟨104006,[0,1,4,5,6,7],[0,1,4,5,6],[],⟨[32,9,4,9,3,3],[none,none,none,none,none,none],[],[false,false,false,false,false,false],[],false⟩,⟨[32,9,4,9,3],[none,none,none,none,none],[],[false,false,false,false,false],[],false⟩⟩
def q_L4_14:LoopA:=⟨104014,[0,4,6,8,10],[4],[],⟨[32,4,3,24,3],[none,none,none,none,none],[],[false,false,false,false,false],[],false⟩,⟨[4],[none],[],[false],[],false⟩⟩
noncomputable def fd4:FnDef:=⟨bod Tryz.f4.body,[.tmp 4],2,ann [[0,1,4],[0,1,4,12],[4],[0,1,4,5],[0,1,4,5,6],[0,1,4,5,6,7],[0,1,4,5,6,7,25],[0,1,4,5,6,7],[0,1,4,5,6,7],[0,1,4,5,6,7],[0,4,6,8,9],[0,4,6,8,54],[4],[0,4,6,8,10],[0,4,6,8,10,57],[0,4,6,8,10],[0,4,6,8,10,69],[4],[4]] [(12,[0,1,4]),(25,[0,1,4,5,6,7]),(54,[0,4,6,8]),(57,[0,4,6,8,10]),(69,[0,4,6,8,10])] [(6,q_L4_6),(14,q_L4_14)]⟩
def nt4:Nat:=70
theorem st4:FnSt Tryz.prog 4 fd4 nt4:=stO Tryz.func4 rfl rfl rfl (by kernel_rfl)
def q_L6_3:LoopA:=⟨106003,[0,2,3,4,5],[2,3,4],[],⟨[9,24,25,24,3],[none,none,none,some 9,none],[],[false,false,false,false,false],[],false⟩,⟨[24,25,24],[none,none,none],[],[false,false,false],[],false⟩⟩
def q_L6_14:LoopA:=⟨106014,[0,2,3,4,5,9],[0,2,3,4,5,9],[0],⟨[9,24,25,24,3,3],[none,none,none,none,none,none],[],[false,false,false,false,false,false],[],false⟩,⟨[9,24,25,24,3,3],[none,none,none,none,none,none],[],[false,false,false,false,false,false],[],false⟩⟩
noncomputable def fd6:FnDef:=⟨bod Tryz.f6.body,[.tmp 2,.tmp 3],1,ann [[0,2,3],[0,2,3,4],[0,2,3,4,5],[0,2,3,4,5,13],[0,2,3,4,5,23],[0,2,3,4,5],[0,2,3,4,5,29],[0,2,3,4,5,33],[0,2,3,4,5,6,7,8],[0,2,3,4,5,6,8],[0,2,3,4,5,6,66],[2,3,4],[0,2,3,4,5],[0,2,3,4,5,9],[0,2,3,4,5,9,87],[0,2,3,4,5,9,91],[0,2,3,4,5,9],[0,2,3,4,5,9],[0,2,3,4,5],[2,3]] [(13,[0,2,3,4,5]),(23,[0,2,3,4,5]),(29,[0,2,3,4,5]),(33,[0,2,3,4,5]),(66,[0,2,3,4,5,6]),(87,[0,2,3,4,5,9]),(91,[0,2,3,4,5,9])] [(3,q_L6_3),(14,q_L6_14)]⟩
def nt6:Nat:=102
theorem st6:FnSt Tryz.prog 6 fd6 nt6:=stO Tryz.func6 rfl rfl rfl (by kernel_rfl)
def q_L7_0:LoopA:=⟨107000,[0,2,3,4,5],[2,3],[],⟨[9,24,3,24,3],[none,none,none,some 9,none],[],[false,false,false,false,false],[],false⟩,⟨[24,3],[none,none],[],[true,false],[],false⟩⟩
def q_L7_3:LoopA:=⟨107003,[0,2,3,4,5],[0,2,3,4,5],[0],⟨[9,24,3,24,3],[none,none,none,some 9,none],[],[false,false,false,false,false],[],false⟩,⟨[9,24,3,24,3],[none,none,none,some 9,none],[],[false,false,false,false,false],[],false⟩⟩
def q_L7_14:LoopA:=⟨107014,[0,2,3,4,5,8],[0,2,3,4,5,8],[0],⟨[9,24,3,24,3,3],[none,none,none,some 9,none,none],[],[false,false,false,false,false,false],[],false⟩,⟨[9,24,3,24,3,3],[none,none,none,some 9,none,none],[],[false,false,false,false,false,false],[],false⟩⟩
noncomputable def fd7:FnDef:=⟨bod Tryz.f7.body,[.tmp 2,.tmp 3],1,ann [[0,2,3],[0,2,3,4],[0,2,3,4,5],[0,2,3,4,5,24],[0,2,3,4,5],[0,2,3,4,5,36],[2,3],[0,2,3,4,5,41],[0,2,3,4,6,7],[0,2,3,4,6,7,67],[2,3],[0,2,3,4,7],[0,2,3,4,5],[0,2,3,4,5,8],[0,2,3,4,5,8,89],[0,2,3,4,5,8,93],[0,2,3,4,5,8],[0,2,3,4,5,8],[0,2,3,4,5]] [(24,[0,2,3,4,5]),(36,[0,2,3,4,5]),(41,[0,2,3,4,5]),(67,[0,2,3,4,6,7]),(89,[0,2,3,4,5,8]),(93,[0,2,3,4,5,8])] [(0,q_L7_0),(3,q_L7_3),(14,q_L7_14)]⟩
def nt7:Nat:=103
theorem st7:FnSt Tryz.prog 7 fd7 nt7:=stO Tryz.func7 rfl rfl rfl (by kernel_rfl)
def q_L8_3:LoopA:=⟨108003,[3,7,8,9],[3],[],⟨[22,22,3,3],[none,none,none,none],[],[false,false,false,false],[],false⟩,⟨[22],[none],[],[false],[],false⟩⟩
noncomputable def fd8:FnDef:=⟨bod Tryz.f8.body,[.tmp 2],1,ann [[0],[0,3],[3,7,8,9],[3,7,8,9,10],[3,5,7,8,9],[3,5,7,8,9,13],[3,5,7,8,9,16],[3,5,7,8,9,19],[3,5,7,8,9,22],[3,5,7,8,9,25],[3,7,8,9],[3,7,8,9],[3,7,8,9],[3,7,8,9],[3,7,8,9],[3,7,8,9],[2]] [(10,[3,7,8,9]),(13,[3,5,7,8,9]),(16,[3,5,7,8,9]),(19,[3,5,7,8,9]),(22,[3,5,7,8,9]),(25,[3,5,7,8,9])] [(3,q_L8_3)]⟩
def nt8:Nat:=60
theorem st8:FnSt Tryz.prog 8 fd8 nt8:=stO Tryz.func8 rfl rfl rfl (by kernel_rfl)
def q_L9_4:LoopA:=⟨109004,[0,3,4,5],[4],[],⟨[22,9,22,3],[none,none,none,none],[],[false,false,false,false],[],false⟩,⟨[22],[none],[],[false],[],false⟩⟩
noncomputable def fd9:FnDef:=⟨bod Tryz.f9.body,[.tmp 2],1,ann [[0],[0,3],[0,3,4],[0,3,4,5],[0,3,4,5,11],[0,3,4,5],[0,3,4,5,6],[0,3,4,5],[0,3,4,5,6,22],[0,3,4,5],[0,3,4,5,6,33],[0,3,4,5],[0,3,4,5,6,39],[0,3,4,5],[0,3,4,5,6,45],[0,3,4,5],[2]] [(11,[0,3,4,5]),(22,[0,3,4,5]),(33,[0,3,4,5]),(39,[0,3,4,5]),(45,[0,3,4,5])] [(4,q_L9_4)]⟩
def nt9:Nat:=67
theorem st9:FnSt Tryz.prog 9 fd9 nt9:=stO Tryz.func9 rfl rfl rfl (by kernel_rfl)
def q_L11_3:LoopA:=⟨111003,[0,2,3,4,5,6],[2,3,4],[],⟨[9,9,3,4,22,3],[none,none,none,none,some 5,none],[],[false,false,false,false,false,false],[],false⟩,⟨[9,3,4],[none,none,none],[],[false,false,false],[],false⟩⟩
noncomputable def fd11:FnDef:=⟨bod Tryz.f11.body,[.tmp 2,.tmp 3,.tmp 4],1,ann [[0,2,3,4],[0,2,3,4,5],[0,2,3,4,5,6],[0,2,3,4,5,6,12],[0,2,3,4,5,6,16],[2,3,4],[0,2,3,4,5,6,7,8],[0,2,3,4,5,6,7,8,29],[0,2,3,4,5,6,8],[0,2,3,4,5,6],[2,3,4]] [(12,[0,2,3,4,5,6]),(16,[0,2,3,4,5,6]),(29,[0,2,3,4,5,6,7,8])] [(3,q_L11_3)]⟩
def nt11:Nat:=37
theorem st11:FnSt Tryz.prog 11 fd11 nt11:=stO Tryz.func11 rfl rfl rfl (by kernel_rfl)
def q_L12_3:LoopA:=⟨112003,[0,1,4,5,6],[0,1,4,5,6],[],⟨[9,3,9,3,22],[none,none,none,none,some 5],[],[false,false,false,false,false],[],false⟩,⟨[9,3,9,3,22],[none,none,none,none,none],[],[false,false,false,false,false],[],false⟩⟩
noncomputable def fd12:FnDef:=⟨bod Tryz.f12.body,[.tmp 4,.tmp 5],2,ann [[0,1,4,5],[0,1,4,5,6],[0,1,4,5,6],[0,1,4,5,6,18],[0,1,4,5,6,22],[0,1,4,5,6],[0,1,4,5,6],[0,1,4,5,6,35],[0,1,4,5,6],[0,1,4,5,6,39],[0,1,4,5,6],[0,1,4,5,6,39,40],[0,1,4,5,6,39,40],[0,1,4,5,6],[0,1,4,5,6,39,50],[0,1,4,5,6],[0,1,4,5,6,39,55],[0,1,4,5,6],[0,1,4,5,6,60],[0,1,4,5,6,82],[0,1,4,5,6],[0,1,4,5,6],[0,1,4,5,6],[0,1,4,5,6],[1,6,106],[4,5],[4,5]] [(18,[0,1,4,5,6]),(22,[0,1,4,5,6]),(35,[0,1,4,5,6]),(40,[0,1,4,5,6,39,40]),(50,[0,1,4,5,6]),(55,[0,1,4,5,6]),(60,[0,1,4,5,6]),(82,[0,1,4,5,6]),(106,[1,6])] [(3,q_L12_3)]⟩
def nt12:Nat:=111
theorem st12:FnSt Tryz.prog 12 fd12 nt12:=stO Tryz.func12 rfl rfl rfl (by kernel_rfl)
noncomputable def fd17:FnDef:=⟨bod Tryz.f17.body,[.tmp 2,.tmp 3],1,ann [[0],[0,8],[2,3],[0,13],[2,3],[0,15],[0,15,16],[0,15,16],[2,3],[0,15,21],[2,3],[0,15,23],[2,3],[0,25],[0,29],[4,5],[4,5,41],[2,3],[2,3]] [(8,[0]),(13,[0]),(16,[0,15,16]),(21,[]),(23,[]),(25,[]),(29,[0]),(41,[])] []⟩
def nt17:Nat:=47
theorem st17:FnSt Tryz.prog 17 fd17 nt17:=stO Tryz.func17 rfl rfl rfl (by kernel_rfl)
noncomputable def fd18:FnDef:=⟨bod Tryz.f18.body,[.tmp 2],1,ann [[0],[0,8],[2],[0,17],[2],[2]] [(8,[0]),(17,[])] []⟩
def nt18:Nat:=22
theorem st18:FnSt Tryz.prog 18 fd18 nt18:=stO Tryz.func18 rfl rfl rfl (by kernel_rfl)
def s_empty:ByteArray:=⟨#[]⟩
def s_0123456789abcdef:ByteArray:=⟨#[48,49,50,51,52,53,54,55,56,57,97,98,99,100,101,102]⟩
def s__20:ByteArray:=⟨#[32]⟩
def s__9:ByteArray:=⟨#[9]⟩
def s__23:ByteArray:=⟨#[35]⟩
end Go.Proofs.YtciofnpmlgbdaaaGreatDoor
