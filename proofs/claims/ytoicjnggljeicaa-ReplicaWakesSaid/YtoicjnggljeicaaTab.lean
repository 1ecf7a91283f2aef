/- By program (gentab.py): the table of types, and that it is the program's. -/
import Derived.Test.YtoicjnggljeicaaProg
import Derived.Test.YtoicjnggljeicaaEd
import Derived.KernelRfl
namespace Go.Proofs.Ytoicjnggljeicaa
open Go Go.Ev
def vB:Value:=Value.bool false
def vT:Value:=Value.string (ByteArray.mk (Array.mk []))
def vI:Value:=Value.int IntKind.i64 0
def vS:Value:=Value.slice none 0 0
def ti0:TI:=(TI.mk Ty.other 1 0 (some [(Value.tuple (Array.mk []))]) true)
def ti1:TI:=(TI.mk Ty.other 1 8 (some [Value.nilFunc]) true)
def ti2:TI:=(TI.mk (Ty.int IntKind.i64) 1 8 (some [vI]) true)
def ti3:TI:=(TI.mk (Ty.int IntKind.i64) 1 8 (some [vI]) true)
def ti4:TI:=(TI.mk Ty.bool 1 1 (some [vB]) true)
def ti5:TI:=(TI.mk (Ty.int IntKind.u8) 1 1 (some [(Value.int IntKind.u8 0)]) true)
def ti6:TI:=(TI.mk (Ty.int IntKind.u8) 1 1 (some [(Value.int IntKind.u8 0)]) true)
def ti7:TI:=(TI.mk (Ty.struct [(0,2),(1,3),(2,4),(3,6)]) 4 24 (some [vI,vI,vB,(Value.int IntKind.u8 0)]) true)
def ti8:TI:=(TI.mk (Ty.struct [(0,2),(1,3),(2,4),(3,6)]) 4 24 (some [vI,vI,vB,(Value.int IntKind.u8 0)]) true)
def ti9:TI:=(TI.mk Ty.str 1 16 (some [vT]) true)
def ti10:TI:=(TI.mk Ty.str 1 16 (some [vT]) true)
def ti11:TI:=(TI.mk Ty.str 1 16 (some [vT]) true)
def ti12:TI:=(TI.mk (Ty.int IntKind.u64) 1 8 (some [(Value.int IntKind.u64 0)]) true)
def ti13:TI:=(TI.mk (Ty.struct [(0,9),(1,12)]) 2 24 (some [vT,(Value.int IntKind.u64 0)]) false)
def ti14:TI:=(TI.mk (Ty.struct [(0,9),(1,12)]) 2 24 (some [vT,(Value.int IntKind.u64 0)]) false)
def ti15:TI:=(TI.mk (Ty.ptr 108) 1 8 (some [(Value.pointer none)]) true)
def ti16:TI:=(TI.mk (Ty.ptr 111) 1 8 (some [(Value.pointer none)]) true)
def ti17:TI:=(TI.mk (Ty.ptr 121) 1 8 (some [(Value.pointer none)]) true)
def ti18:TI:=(TI.mk (Ty.struct [(0,17)]) 1 8 (some [(Value.pointer none)]) false)
def ti19:TI:=(TI.mk (Ty.struct [(0,17)]) 1 8 (some [(Value.pointer none)]) false)
def ti20:TI:=(TI.mk Ty.other 1 16 (some [Value.nilIface]) true)
def ti21:TI:=(TI.mk (Ty.int IntKind.i32) 1 4 (some [(Value.int IntKind.i32 0)]) true)
def ti22:TI:=(TI.mk (Ty.slice 3) 1 24 (some [vS]) true)
def ti23:TI:=(TI.mk Ty.other 1 8 (some [Value.nilFunc]) true)
def ti24:TI:=(TI.mk (Ty.slice 32) 1 24 (some [vS]) true)
def ti25:TI:=(TI.mk (Ty.array 3 4) 3 3 (some [vB,vB,vB]) true)
def ti26:TI:=(TI.mk (Ty.array 3 3) 3 24 (some [vI,vI,vI]) true)
def ti27:TI:=(TI.mk (Ty.struct [(0,3),(1,3),(2,3),(3,3),(4,3),(5,9),(6,24),(7,3),(8,3),(9,3),(10,25),(13,26),(16,26)]) 19 160 (some [vI,vI,vI,vI,vI,vT,vS,vI,vI,vI,vB,vB,vB,vI,vI,vI,vI,vI,vI]) true)
def ti28:TI:=(TI.mk (Ty.struct [(0,3),(1,3),(2,3),(3,3),(4,3),(5,9),(6,24),(7,3),(8,3),(9,3),(10,25),(13,26),(16,26)]) 19 160 (some [vI,vI,vI,vI,vI,vT,vS,vI,vI,vI,vB,vB,vB,vI,vI,vI,vI,vI,vI]) true)
def ti29:TI:=(TI.mk Ty.other 1 8 (some [Value.nilFunc]) true)
def ti30:TI:=(TI.mk Ty.other 1 8 (some [Value.nilFunc]) true)
def ti31:TI:=(TI.mk (Ty.struct [(0,3),(1,9)]) 2 24 (some [vI,vT]) true)
def ti32:TI:=(TI.mk (Ty.struct [(0,3),(1,9)]) 2 24 (some [vI,vT]) true)
def ti33:TI:=(TI.mk Ty.other 1 0 (some [(Value.tuple (Array.mk [vI,vI]))]) true)
def ti34:TI:=(TI.mk Ty.other 1 8 (some [Value.nilFunc]) true)
def ti35:TI:=(TI.mk (Ty.slice 39) 1 24 (some [vS]) true)
def ti36:TI:=(TI.mk Ty.other 1 0 (some [(Value.tuple (Array.mk [(Value.agg (Array.mk [vI,vI,vI,vI,vI,vT,vS,vI,vI,vI,vB,vB,vB,vI,vI,vI,vI,vI,vI])),vS]))]) true)
def ti37:TI:=(TI.mk Ty.other 1 8 (some [Value.nilFunc]) true)
def ti38:TI:=(TI.mk (Ty.struct [(0,3),(1,3),(2,3),(3,3),(4,3),(5,3),(6,3),(7,4),(8,24),(9,9)]) 10 104 (some [vI,vI,vI,vI,vI,vI,vI,vB,vS,vT]) true)
def ti39:TI:=(TI.mk (Ty.struct [(0,3),(1,3),(2,3),(3,3),(4,3),(5,3),(6,3),(7,4),(8,24),(9,9)]) 10 104 (some [vI,vI,vI,vI,vI,vI,vI,vB,vS,vT]) true)
def ti40:TI:=(TI.mk Ty.other 1 8 (some [Value.nilFunc]) true)
def ti41:TI:=(TI.mk (Ty.int IntKind.i64) 1 8 (some [vI]) true)
def ti42:TI:=(TI.mk Ty.other 1 0 (some [(Value.tuple (Array.mk [(Value.agg (Array.mk [vI,vI,vI,vI,vI,vT,vS,vI,vI,vI,vB,vB,vB,vI,vI,vI,vI,vI,vI])),vI,vI]))]) true)
def ti43:TI:=(TI.mk Ty.other 1 8 (some [Value.nilFunc]) true)
def ti44:TI:=(TI.mk Ty.other 1 8 (some [Value.nilFunc]) true)
def ti45:TI:=(TI.mk Ty.other 1 8 (some [Value.nilFunc]) true)
def ti46:TI:=(TI.mk Ty.other 1 8 (some [Value.nilFunc]) true)
def ti47:TI:=(TI.mk Ty.other 1 8 (some [Value.nilFunc]) true)
def ti48:TI:=(TI.mk Ty.other 1 8 (some [Value.nilFunc]) true)
def ti49:TI:=(TI.mk Ty.other 1 0 (some [(Value.tuple (Array.mk [(Value.agg (Array.mk [vI,vI,vI,vI,vI,vT,vS,vI,vI,vI,vB,vB,vB,vI,vI,vI,vI,vI,vI])),vI]))]) true)
def ti50:TI:=(TI.mk Ty.other 1 8 (some [Value.nilFunc]) true)
def ti51:TI:=(TI.mk Ty.other 1 8 (some [Value.nilFunc]) true)
def ti52:TI:=(TI.mk (Ty.slice 58) 1 24 (some [vS]) true)
def ti53:TI:=(TI.mk Ty.other 1 8 (some [Value.nilFunc]) true)
def ti54:TI:=(TI.mk (Ty.ptr 61) 1 8 (some [(Value.pointer none)]) true)
def ti55:TI:=(TI.mk Ty.other 1 8 (some [Value.nilFunc]) true)
def ti56:TI:=(TI.mk Ty.other 1 8 (some [Value.nilFunc]) true)
def ti57:TI:=(TI.mk (Ty.struct [(0,3),(1,3),(2,3),(3,9)]) 4 40 (some [vI,vI,vI,vT]) true)
def ti58:TI:=(TI.mk (Ty.struct [(0,3),(1,3),(2,3),(3,9)]) 4 40 (some [vI,vI,vI,vT]) true)
def ti59:TI:=(TI.mk (Ty.array 3 28) 57 480 (some [vI,vI,vI,vI,vI,vT,vS,vI,vI,vI,vB,vB,vB,vI,vI,vI,vI,vI,vI,vI,vI,vI,vI,vI,vT,vS,vI,vI,vI,vB,vB,vB,vI,vI,vI,vI,vI,vI,vI,vI,vI,vI,vI,vT,vS,vI,vI,vI,vB,vB,vB,vI,vI,vI,vI,vI,vI]) true)
def ti60:TI:=(TI.mk (Ty.struct [(0,59),(57,35)]) 58 504 (some [vI,vI,vI,vI,vI,vT,vS,vI,vI,vI,vB,vB,vB,vI,vI,vI,vI,vI,vI,vI,vI,vI,vI,vI,vT,vS,vI,vI,vI,vB,vB,vB,vI,vI,vI,vI,vI,vI,vI,vI,vI,vI,vI,vT,vS,vI,vI,vI,vB,vB,vB,vI,vI,vI,vI,vI,vI,vS]) true)
def ti61:TI:=(TI.mk (Ty.struct [(0,59),(57,35)]) 58 504 (some [vI,vI,vI,vI,vI,vT,vS,vI,vI,vI,vB,vB,vB,vI,vI,vI,vI,vI,vI,vI,vI,vI,vI,vI,vT,vS,vI,vI,vI,vB,vB,vB,vI,vI,vI,vI,vI,vI,vI,vI,vI,vI,vI,vT,vS,vI,vI,vI,vB,vB,vB,vI,vI,vI,vI,vI,vI,vS]) true)
def ti62:TI:=(TI.mk Ty.other 1 8 (some [Value.nilFunc]) true)
def ti63:TI:=(TI.mk Ty.other 1 8 (some [Value.nilFunc]) true)
def ti64:TI:=(TI.mk Ty.other 1 8 (some [Value.nilFunc]) true)
def ti65:TI:=(TI.mk (Ty.ptr 68) 1 8 (some [(Value.pointer none)]) true)
def ti66:TI:=(TI.mk Ty.other 1 8 (some [Value.nilFunc]) true)
def ti67:TI:=(TI.mk (Ty.struct [(0,28),(19,35)]) 20 184 (some [vI,vI,vI,vI,vI,vT,vS,vI,vI,vI,vB,vB,vB,vI,vI,vI,vI,vI,vI,vS]) true)
def ti68:TI:=(TI.mk (Ty.struct [(0,28),(19,35)]) 20 184 (some [vI,vI,vI,vI,vI,vT,vS,vI,vI,vI,vB,vB,vB,vI,vI,vI,vI,vI,vI,vS]) true)
def ti69:TI:=(TI.mk Ty.other 1 8 (some [Value.nilFunc]) true)
def ti70:TI:=(TI.mk Ty.other 1 8 (some [Value.nilFunc]) true)
def ti71:TI:=(TI.mk Ty.other 1 8 (some [Value.nilFunc]) true)
def ti72:TI:=(TI.mk Ty.other 1 8 (some [Value.nilFunc]) true)
def ti73:TI:=(TI.mk Ty.other 1 8 (some [Value.nilFunc]) true)
def ti74:TI:=(TI.mk (Ty.slice 5) 1 24 (some [vS]) true)
def ti75:TI:=(TI.mk Ty.other 1 8 (some [Value.nilFunc]) true)
def ti76:TI:=(TI.mk (Ty.slice 98) 1 24 (some [vS]) true)
def ti77:TI:=(TI.mk (Ty.struct [(0,3),(1,3),(2,3),(3,3),(4,3),(5,9),(6,76),(7,3),(8,3),(9,3),(10,25),(13,26),(16,26)]) 19 160 (some [vI,vI,vI,vI,vI,vT,vS,vI,vI,vI,vB,vB,vB,vI,vI,vI,vI,vI,vI]) true)
def ti78:TI:=(TI.mk (Ty.struct [(0,3),(1,3),(2,3),(3,3),(4,3),(5,9),(6,76),(7,3),(8,3),(9,3),(10,25),(13,26),(16,26)]) 19 160 (some [vI,vI,vI,vI,vI,vT,vS,vI,vI,vI,vB,vB,vB,vI,vI,vI,vI,vI,vI]) true)
def ti79:TI:=(TI.mk Ty.other 1 8 (some [Value.nilFunc]) true)
def ti80:TI:=(TI.mk (Ty.slice 86) 1 24 (some [vS]) true)
def ti81:TI:=(TI.mk Ty.other 1 0 (some [(Value.tuple (Array.mk [(Value.agg (Array.mk [vI,vI,vI,vI,vI,vT,vS,vI,vI,vI,vB,vB,vB,vI,vI,vI,vI,vI,vI])),vS]))]) true)
def ti82:TI:=(TI.mk Ty.other 1 8 (some [Value.nilFunc]) true)
def ti83:TI:=(TI.mk Ty.other 1 8 (some [Value.nilFunc]) true)
def ti84:TI:=(TI.mk Ty.other 1 8 (some [Value.nilFunc]) true)
def ti85:TI:=(TI.mk (Ty.struct [(0,3),(1,3),(2,3),(3,3),(4,3),(5,3),(6,3),(7,4),(8,76),(9,9)]) 10 104 (some [vI,vI,vI,vI,vI,vI,vI,vB,vS,vT]) true)
def ti86:TI:=(TI.mk (Ty.struct [(0,3),(1,3),(2,3),(3,3),(4,3),(5,3),(6,3),(7,4),(8,76),(9,9)]) 10 104 (some [vI,vI,vI,vI,vI,vI,vI,vB,vS,vT]) true)
def ti87:TI:=(TI.mk Ty.other 1 8 (some [Value.nilFunc]) true)
def ti88:TI:=(TI.mk Ty.other 1 0 (some [(Value.tuple (Array.mk [(Value.agg (Array.mk [vI,vI,vI,vI,vI,vT,vS,vI,vI,vI,vB,vB,vB,vI,vI,vI,vI,vI,vI])),vI,vI]))]) true)
def ti89:TI:=(TI.mk Ty.other 1 8 (some [Value.nilFunc]) true)
def ti90:TI:=(TI.mk Ty.other 1 8 (some [Value.nilFunc]) true)
def ti91:TI:=(TI.mk Ty.other 1 0 (some [(Value.tuple (Array.mk [(Value.agg (Array.mk [vI,vI,vI,vI,vI,vT,vS,vI,vI,vI,vB,vB,vB,vI,vI,vI,vI,vI,vI])),vI]))]) true)
def ti92:TI:=(TI.mk Ty.other 1 8 (some [Value.nilFunc]) true)
def ti93:TI:=(TI.mk Ty.other 1 8 (some [Value.nilFunc]) true)
def ti94:TI:=(TI.mk Ty.other 1 8 (some [Value.nilFunc]) true)
def ti95:TI:=(TI.mk (Ty.ptr 28) 1 8 (some [(Value.pointer none)]) true)
def ti96:TI:=(TI.mk Ty.other 1 8 (some [Value.nilFunc]) true)
def ti97:TI:=(TI.mk Ty.other 1 8 (some [Value.nilFunc]) true)
def ti98:TI:=(TI.mk (Ty.struct [(0,3),(1,9)]) 2 24 (some [vI,vT]) true)
def ti99:TI:=(TI.mk Ty.other 1 8 (some [Value.nilFunc]) true)
def ti100:TI:=(TI.mk Ty.other 1 8 (some [Value.nilFunc]) true)
def ti101:TI:=(TI.mk Ty.other 1 8 (some [Value.nilFunc]) true)
def ti102:TI:=(TI.mk Ty.other 1 8 (some [Value.nilFunc]) true)
def ti103:TI:=(TI.mk Ty.other 1 8 (some [Value.nilFunc]) true)
def ti104:TI:=(TI.mk Ty.other 1 8 (some [Value.nilFunc]) true)
def ti105:TI:=(TI.mk Ty.other 1 8 (some [Value.nilFunc]) true)
def ti106:TI:=(TI.mk Ty.other 1 8 (some [Value.nilFunc]) true)
def ti107:TI:=(TI.mk (Ty.struct [(0,17),(1,17),(2,17),(3,9)]) 4 40 (some [(Value.pointer none),(Value.pointer none),(Value.pointer none),vT]) false)
def ti108:TI:=(TI.mk (Ty.struct [(0,17),(1,17),(2,17),(3,9)]) 4 40 (some [(Value.pointer none),(Value.pointer none),(Value.pointer none),vT]) false)
def ti109:TI:=(TI.mk (Ty.array 0 16) 0 0 (some []) true)
def tabs:List (Nat×TI):=[(0,ti0),(1,ti1),(2,ti2),(3,ti3),(4,ti4),(5,ti5),(6,ti6),(7,ti7),(8,ti8),(9,ti9),(10,ti10),(11,ti11),(12,ti12),(13,ti13),(14,ti14),(15,ti15),(16,ti16),(17,ti17),(18,ti18),(19,ti19),(20,ti20),(21,ti21),(22,ti22),(23,ti23),(24,ti24),(25,ti25),(26,ti26),(27,ti27),(28,ti28),(29,ti29),(30,ti30),(31,ti31),(32,ti32),(33,ti33),(34,ti34),(35,ti35),(36,ti36),(37,ti37),(38,ti38),(39,ti39),(40,ti40),(41,ti41),(42,ti42),(43,ti43),(44,ti44),(45,ti45),(46,ti46),(47,ti47),(48,ti48),(49,ti49),(50,ti50),(51,ti51),(52,ti52),(53,ti53),(54,ti54),(55,ti55),(56,ti56),(57,ti57),(58,ti58),(59,ti59),(60,ti60),(61,ti61),(62,ti62),(63,ti63),(64,ti64),(65,ti65),(66,ti66),(67,ti67),(68,ti68),(69,ti69),(70,ti70),(71,ti71),(72,ti72),(73,ti73),(74,ti74),(75,ti75),(76,ti76),(77,ti77),(78,ti78),(79,ti79),(80,ti80),(81,ti81),(82,ti82),(83,ti83),(84,ti84),(85,ti85),(86,ti86),(87,ti87),(88,ti88),(89,ti89),(90,ti90),(91,ti91),(92,ti92),(93,ti93),(94,ti94),(95,ti95),(96,ti96),(97,ti97),(98,ti98),(99,ti99),(100,ti100),(101,ti101),(102,ti102),(103,ti103),(104,ti104),(105,ti105),(106,ti106),(107,ti107),(108,ti108),(109,ti109)]
def tab:Tab:=fun t=>Ev.look tabs t
theorem tab3_is:tab 3=some ti3:=by kernel_rfl
theorem tab5_is:tab 5=some ti5:=by kernel_rfl
theorem tab32_is:tab 32=some ti32:=by kernel_rfl
theorem tab39_is:tab 39=some ti39:=by kernel_rfl
theorem tab58_is:tab 58=some ti58:=by kernel_rfl
theorem tab86_is:tab 86=some ti86:=by kernel_rfl
theorem tab98_is:tab 98=some ti98:=by kernel_rfl
theorem tabs_are:tabs.map (fun p=>tiOf Try.prog p.1)=tabs.map (fun p=>some p.2):=by kernel_rfl
theorem tabOK:TabOK Try.prog tab:=by
  intro t i h
  have hm:=look_mem h
  obtain ⟨n,hn,hx⟩:=List.getElem_of_mem hm
  have h1:=congrArg (fun l=>l[n]?) tabs_are
  simp only [List.getElem?_map,List.getElem?_eq_getElem hn,hx,Option.map_some,Option.some.injEq] at h1
  exact h1
end Go.Proofs.Ytoicjnggljeicaa
