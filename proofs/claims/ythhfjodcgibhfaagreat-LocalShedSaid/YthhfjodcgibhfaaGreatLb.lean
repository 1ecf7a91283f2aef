/- By program (genlb.py): functions of the library, by what they do. -/
import Derived.Test.YthhfjodcgibhfaaGreatTl
import Derived.Test.YthhfjodcgibhfaaGreatEe
namespace Go.Proofs.YthhfjodcgibhfaaGreat
open Go Go.Ev
set_option maxRecDepth 100000
theorem libT_23:LibT Tryz.prog (rn 38 4 2 4 0 0) :=
  ⟨by kernel_rfl,by kernel_rfl,fun w=>by kernel_rfl,fun w=>by kernel_rfl,fun w=>by kernel_rfl,by kernel_rfl,fun w=>by kernel_rfl,fun w=>by kernel_rfl,fun w=>by kernel_rfl,by kernel_rfl,fun w=>by kernel_rfl,fun w=>by kernel_rfl,fun w=>by kernel_rfl,el_of tabOK (by kernel_rfl)⟩
theorem libF_23:Tryz.prog.funcs[23]?=some (clnF (rn 38 4 2 4 0 0) Tryz.f23.name Tryz.f23.tmpNames):=by kernel_rfl
theorem okI_23:Enters Tryz.prog 23∧ClnOK Tryz.prog 23 4:=⟨enters_of Tryz.func23 (by kernel_rfl) (c:=bod Tryz.f23.body) rfl,cln_ok libT_23 libF_23⟩
theorem libT_29:LibT Tryz.prog (rn 28 50 3 4 0 0) :=
  ⟨by kernel_rfl,by kernel_rfl,fun w=>by kernel_rfl,fun w=>by kernel_rfl,fun w=>by kernel_rfl,by kernel_rfl,fun w=>by kernel_rfl,fun w=>by kernel_rfl,fun w=>by kernel_rfl,by kernel_rfl,fun w=>by kernel_rfl,fun w=>by kernel_rfl,fun w=>by kernel_rfl,el_of tabOK (by kernel_rfl)⟩
theorem libF_29:Tryz.prog.funcs[29]?=some (delF (rn 28 50 3 4 0 0) Tryz.f29.name Tryz.f29.tmpNames):=by kernel_rfl
theorem okI_29:Enters Tryz.prog 29∧DelOK Tryz.prog 29 50:=⟨enters_of Tryz.func29 (by kernel_rfl) (c:=bod Tryz.f29.body) rfl,del_ok libT_29 (zone_of tabOK (by kernel_rfl)) libF_29⟩
theorem libT_37:LibT Tryz.prog (rn 39 89 2 4 0 0) :=
  ⟨by kernel_rfl,by kernel_rfl,fun w=>by kernel_rfl,fun w=>by kernel_rfl,fun w=>by kernel_rfl,by kernel_rfl,fun w=>by kernel_rfl,fun w=>by kernel_rfl,fun w=>by kernel_rfl,by kernel_rfl,fun w=>by kernel_rfl,fun w=>by kernel_rfl,fun w=>by kernel_rfl,el_of tabOK (by kernel_rfl)⟩
theorem libF_37:Tryz.prog.funcs[37]?=some (clnF (rn 39 89 2 4 0 0) Tryz.f37.name Tryz.f37.tmpNames):=by kernel_rfl
theorem okI_37:Enters Tryz.prog 37∧ClnOK Tryz.prog 37 89:=⟨enters_of Tryz.func37 (by kernel_rfl) (c:=bod Tryz.f37.body) rfl,cln_ok libT_37 libF_37⟩
theorem libT_41:LibT Tryz.prog (rn 32 48 2 4 0 0) :=
  ⟨by kernel_rfl,by kernel_rfl,fun w=>by kernel_rfl,fun w=>by kernel_rfl,fun w=>by kernel_rfl,by kernel_rfl,fun w=>by kernel_rfl,fun w=>by kernel_rfl,fun w=>by kernel_rfl,by kernel_rfl,fun w=>by kernel_rfl,fun w=>by kernel_rfl,fun w=>by kernel_rfl,el_of tabOK (by kernel_rfl)⟩
theorem libF_41:Tryz.prog.funcs[41]?=some (clnF (rn 32 48 2 4 0 0) Tryz.f41.name Tryz.f41.tmpNames):=by kernel_rfl
theorem okI_41:Enters Tryz.prog 41∧ClnOK Tryz.prog 41 48:=⟨enters_of Tryz.func41 (by kernel_rfl) (c:=bod Tryz.f41.body) rfl,cln_ok libT_41 libF_41⟩
theorem libT_47:LibT Tryz.prog (rn 28 50 2 4 0 0) :=
  ⟨by kernel_rfl,by kernel_rfl,fun w=>by kernel_rfl,fun w=>by kernel_rfl,fun w=>by kernel_rfl,by kernel_rfl,fun w=>by kernel_rfl,fun w=>by kernel_rfl,fun w=>by kernel_rfl,by kernel_rfl,fun w=>by kernel_rfl,fun w=>by kernel_rfl,fun w=>by kernel_rfl,el_of tabOK (by kernel_rfl)⟩
theorem libF_47:Tryz.prog.funcs[47]?=some (clnF (rn 28 50 2 4 0 0) Tryz.f47.name Tryz.f47.tmpNames):=by kernel_rfl
theorem okI_47:Enters Tryz.prog 47∧ClnOK Tryz.prog 47 50:=⟨enters_of Tryz.func47 (by kernel_rfl) (c:=bod Tryz.f47.body) rfl,cln_ok libT_47 libF_47⟩
theorem libT_76:LibT Tryz.prog (rn 29 112 2 4 0 0) :=
  ⟨by kernel_rfl,by kernel_rfl,fun w=>by kernel_rfl,fun w=>by kernel_rfl,fun w=>by kernel_rfl,by kernel_rfl,fun w=>by kernel_rfl,fun w=>by kernel_rfl,fun w=>by kernel_rfl,by kernel_rfl,fun w=>by kernel_rfl,fun w=>by kernel_rfl,fun w=>by kernel_rfl,el_of tabOK (by kernel_rfl)⟩
theorem libF_76:Tryz.prog.funcs[76]?=some (clnF (rn 29 112 2 4 0 0) Tryz.f76.name Tryz.f76.tmpNames):=by kernel_rfl
theorem okI_76:Enters Tryz.prog 76∧ClnOK Tryz.prog 76 112:=⟨enters_of Tryz.func76 (by kernel_rfl) (c:=bod Tryz.f76.body) rfl,cln_ok libT_76 libF_76⟩
theorem libT_77:LibT Tryz.prog (rn 30 103 2 4 0 0) :=
  ⟨by kernel_rfl,by kernel_rfl,fun w=>by kernel_rfl,fun w=>by kernel_rfl,fun w=>by kernel_rfl,by kernel_rfl,fun w=>by kernel_rfl,fun w=>by kernel_rfl,fun w=>by kernel_rfl,by kernel_rfl,fun w=>by kernel_rfl,fun w=>by kernel_rfl,fun w=>by kernel_rfl,el_of tabOK (by kernel_rfl)⟩
theorem libF_77:Tryz.prog.funcs[77]?=some (clnF (rn 30 103 2 4 0 0) Tryz.f77.name Tryz.f77.tmpNames):=by kernel_rfl
theorem okI_77:Enters Tryz.prog 77∧ClnOK Tryz.prog 77 103:=⟨enters_of Tryz.func77 (by kernel_rfl) (c:=bod Tryz.f77.body) rfl,cln_ok libT_77 libF_77⟩
theorem libT_78:LibT Tryz.prog (rn 31 100 2 4 0 0) :=
  ⟨by kernel_rfl,by kernel_rfl,fun w=>by kernel_rfl,fun w=>by kernel_rfl,fun w=>by kernel_rfl,by kernel_rfl,fun w=>by kernel_rfl,fun w=>by kernel_rfl,fun w=>by kernel_rfl,by kernel_rfl,fun w=>by kernel_rfl,fun w=>by kernel_rfl,fun w=>by kernel_rfl,el_of tabOK (by kernel_rfl)⟩
theorem libF_78:Tryz.prog.funcs[78]?=some (clnF (rn 31 100 2 4 0 0) Tryz.f78.name Tryz.f78.tmpNames):=by kernel_rfl
theorem okI_78:Enters Tryz.prog 78∧ClnOK Tryz.prog 78 100:=⟨enters_of Tryz.func78 (by kernel_rfl) (c:=bod Tryz.f78.body) rfl,cln_ok libT_78 libF_78⟩
theorem libT_79:LibT Tryz.prog (rn 33 118 2 4 0 0) :=
  ⟨by kernel_rfl,by kernel_rfl,fun w=>by kernel_rfl,fun w=>by kernel_rfl,fun w=>by kernel_rfl,by kernel_rfl,fun w=>by kernel_rfl,fun w=>by kernel_rfl,fun w=>by kernel_rfl,by kernel_rfl,fun w=>by kernel_rfl,fun w=>by kernel_rfl,fun w=>by kernel_rfl,el_of tabOK (by kernel_rfl)⟩
theorem libF_79:Tryz.prog.funcs[79]?=some (clnF (rn 33 118 2 4 0 0) Tryz.f79.name Tryz.f79.tmpNames):=by kernel_rfl
theorem okI_79:Enters Tryz.prog 79∧ClnOK Tryz.prog 79 118:=⟨enters_of Tryz.func79 (by kernel_rfl) (c:=bod Tryz.f79.body) rfl,cln_ok libT_79 libF_79⟩
theorem libT_80:LibT Tryz.prog (rn 34 121 2 4 0 0) :=
  ⟨by kernel_rfl,by kernel_rfl,fun w=>by kernel_rfl,fun w=>by kernel_rfl,fun w=>by kernel_rfl,by kernel_rfl,fun w=>by kernel_rfl,fun w=>by kernel_rfl,fun w=>by kernel_rfl,by kernel_rfl,fun w=>by kernel_rfl,fun w=>by kernel_rfl,fun w=>by kernel_rfl,el_of tabOK (by kernel_rfl)⟩
theorem libF_80:Tryz.prog.funcs[80]?=some (clnF (rn 34 121 2 4 0 0) Tryz.f80.name Tryz.f80.tmpNames):=by kernel_rfl
theorem okI_80:Enters Tryz.prog 80∧ClnOK Tryz.prog 80 121:=⟨enters_of Tryz.func80 (by kernel_rfl) (c:=bod Tryz.f80.body) rfl,cln_ok libT_80 libF_80⟩
theorem libT_82:LibT Tryz.prog (rn 23 62 2 4 0 0) :=
  ⟨by kernel_rfl,by kernel_rfl,fun w=>by kernel_rfl,fun w=>by kernel_rfl,fun w=>by kernel_rfl,by kernel_rfl,fun w=>by kernel_rfl,fun w=>by kernel_rfl,fun w=>by kernel_rfl,by kernel_rfl,fun w=>by kernel_rfl,fun w=>by kernel_rfl,fun w=>by kernel_rfl,el_of tabOK (by kernel_rfl)⟩
theorem libF_82:Tryz.prog.funcs[82]?=some (clnF (rn 23 62 2 4 0 0) Tryz.f82.name Tryz.f82.tmpNames):=by kernel_rfl
theorem okI_82:Enters Tryz.prog 82∧ClnOK Tryz.prog 82 62:=⟨enters_of Tryz.func82 (by kernel_rfl) (c:=bod Tryz.f82.body) rfl,cln_ok libT_82 libF_82⟩
theorem libT_83:LibT Tryz.prog (rn 24 98 2 4 0 0) :=
  ⟨by kernel_rfl,by kernel_rfl,fun w=>by kernel_rfl,fun w=>by kernel_rfl,fun w=>by kernel_rfl,by kernel_rfl,fun w=>by kernel_rfl,fun w=>by kernel_rfl,fun w=>by kernel_rfl,by kernel_rfl,fun w=>by kernel_rfl,fun w=>by kernel_rfl,fun w=>by kernel_rfl,el_of tabOK (by kernel_rfl)⟩
theorem libF_83:Tryz.prog.funcs[83]?=some (clnF (rn 24 98 2 4 0 0) Tryz.f83.name Tryz.f83.tmpNames):=by kernel_rfl
theorem okI_83:Enters Tryz.prog 83∧ClnOK Tryz.prog 83 98:=⟨enters_of Tryz.func83 (by kernel_rfl) (c:=bod Tryz.f83.body) rfl,cln_ok libT_83 libF_83⟩
theorem libT_84:LibT Tryz.prog (rn 25 3 2 4 0 0) :=
  ⟨by kernel_rfl,by kernel_rfl,fun w=>by kernel_rfl,fun w=>by kernel_rfl,fun w=>by kernel_rfl,by kernel_rfl,fun w=>by kernel_rfl,fun w=>by kernel_rfl,fun w=>by kernel_rfl,by kernel_rfl,fun w=>by kernel_rfl,fun w=>by kernel_rfl,fun w=>by kernel_rfl,el_of tabOK (by kernel_rfl)⟩
theorem libF_84:Tryz.prog.funcs[84]?=some (clnF (rn 25 3 2 4 0 0) Tryz.f84.name Tryz.f84.tmpNames):=by kernel_rfl
theorem okI_84:Enters Tryz.prog 84∧ClnOK Tryz.prog 84 3:=⟨enters_of Tryz.func84 (by kernel_rfl) (c:=bod Tryz.f84.body) rfl,cln_ok libT_84 libF_84⟩
theorem libT_88:LibT Tryz.prog (rn 30 103 3 4 116 117) :=
  ⟨by kernel_rfl,by kernel_rfl,fun w=>by kernel_rfl,fun w=>by kernel_rfl,fun w=>by kernel_rfl,by kernel_rfl,fun w=>by kernel_rfl,fun w=>by kernel_rfl,fun w=>by kernel_rfl,by kernel_rfl,fun w=>by kernel_rfl,fun w=>by kernel_rfl,fun w=>by kernel_rfl,el_of tabOK (by kernel_rfl)⟩
theorem libF_88:Tryz.prog.funcs[88]?=some (insF (rn 30 103 3 4 116 117) Tryz.f88.name Tryz.f88.tmpNames):=by kernel_rfl
theorem libO_88:OvOK Tryz.prog (rn 30 103 3 4 116 117):=fun args w=>run_callFunc_extern (fn:=Tryz.f116) Tryz.func116 (by kernel_rfl) (by kernel_rfl) (by kernel_rfl) (by kernel_rfl) args w
theorem okI_88:Enters Tryz.prog 88∧InsOK Tryz.prog 88 103:=⟨enters_of Tryz.func88 (by kernel_rfl) (c:=bod Tryz.f88.body) rfl,ins_ok libT_88 libO_88 libF_88⟩
theorem libT_95:LibT Tryz.prog (rn 31 100 3 4 122 123) :=
  ⟨by kernel_rfl,by kernel_rfl,fun w=>by kernel_rfl,fun w=>by kernel_rfl,fun w=>by kernel_rfl,by kernel_rfl,fun w=>by kernel_rfl,fun w=>by kernel_rfl,fun w=>by kernel_rfl,by kernel_rfl,fun w=>by kernel_rfl,fun w=>by kernel_rfl,fun w=>by kernel_rfl,el_of tabOK (by kernel_rfl)⟩
theorem libF_95:Tryz.prog.funcs[95]?=some (insF (rn 31 100 3 4 122 123) Tryz.f95.name Tryz.f95.tmpNames):=by kernel_rfl
theorem libO_95:OvOK Tryz.prog (rn 31 100 3 4 122 123):=fun args w=>run_callFunc_extern (fn:=Tryz.f122) Tryz.func122 (by kernel_rfl) (by kernel_rfl) (by kernel_rfl) (by kernel_rfl) args w
theorem okI_95:Enters Tryz.prog 95∧InsOK Tryz.prog 95 100:=⟨enters_of Tryz.func95 (by kernel_rfl) (c:=bod Tryz.f95.body) rfl,ins_ok libT_95 libO_95 libF_95⟩
theorem libT_96:LibT Tryz.prog (rn 32 48 3 4 124 125) :=
  ⟨by kernel_rfl,by kernel_rfl,fun w=>by kernel_rfl,fun w=>by kernel_rfl,fun w=>by kernel_rfl,by kernel_rfl,fun w=>by kernel_rfl,fun w=>by kernel_rfl,fun w=>by kernel_rfl,by kernel_rfl,fun w=>by kernel_rfl,fun w=>by kernel_rfl,fun w=>by kernel_rfl,el_of tabOK (by kernel_rfl)⟩
theorem libF_96:Tryz.prog.funcs[96]?=some (insF (rn 32 48 3 4 124 125) Tryz.f96.name Tryz.f96.tmpNames):=by kernel_rfl
theorem libO_96:OvOK Tryz.prog (rn 32 48 3 4 124 125):=fun args w=>run_callFunc_extern (fn:=Tryz.f124) Tryz.func124 (by kernel_rfl) (by kernel_rfl) (by kernel_rfl) (by kernel_rfl) args w
theorem okI_96:Enters Tryz.prog 96∧InsOK Tryz.prog 96 48:=⟨enters_of Tryz.func96 (by kernel_rfl) (c:=bod Tryz.f96.body) rfl,ins_ok libT_96 libO_96 libF_96⟩
theorem libT_100:LibT Tryz.prog (rn 33 118 3 4 129 130) :=
  ⟨by kernel_rfl,by kernel_rfl,fun w=>by kernel_rfl,fun w=>by kernel_rfl,fun w=>by kernel_rfl,by kernel_rfl,fun w=>by kernel_rfl,fun w=>by kernel_rfl,fun w=>by kernel_rfl,by kernel_rfl,fun w=>by kernel_rfl,fun w=>by kernel_rfl,fun w=>by kernel_rfl,el_of tabOK (by kernel_rfl)⟩
theorem libF_100:Tryz.prog.funcs[100]?=some (insF (rn 33 118 3 4 129 130) Tryz.f100.name Tryz.f100.tmpNames):=by kernel_rfl
theorem libO_100:OvOK Tryz.prog (rn 33 118 3 4 129 130):=fun args w=>run_callFunc_extern (fn:=Tryz.f129) Tryz.func129 (by kernel_rfl) (by kernel_rfl) (by kernel_rfl) (by kernel_rfl) args w
theorem okI_100:Enters Tryz.prog 100∧InsOK Tryz.prog 100 118:=⟨enters_of Tryz.func100 (by kernel_rfl) (c:=bod Tryz.f100.body) rfl,ins_ok libT_100 libO_100 libF_100⟩
theorem libT_102:LibT Tryz.prog (rn 34 121 3 4 133 134) :=
  ⟨by kernel_rfl,by kernel_rfl,fun w=>by kernel_rfl,fun w=>by kernel_rfl,fun w=>by kernel_rfl,by kernel_rfl,fun w=>by kernel_rfl,fun w=>by kernel_rfl,fun w=>by kernel_rfl,by kernel_rfl,fun w=>by kernel_rfl,fun w=>by kernel_rfl,fun w=>by kernel_rfl,el_of tabOK (by kernel_rfl)⟩
theorem libF_102:Tryz.prog.funcs[102]?=some (insF (rn 34 121 3 4 133 134) Tryz.f102.name Tryz.f102.tmpNames):=by kernel_rfl
theorem libO_102:OvOK Tryz.prog (rn 34 121 3 4 133 134):=fun args w=>run_callFunc_extern (fn:=Tryz.f133) Tryz.func133 (by kernel_rfl) (by kernel_rfl) (by kernel_rfl) (by kernel_rfl) args w
theorem okI_102:Enters Tryz.prog 102∧InsOK Tryz.prog 102 121:=⟨enters_of Tryz.func102 (by kernel_rfl) (c:=bod Tryz.f102.body) rfl,ins_ok libT_102 libO_102 libF_102⟩
theorem libT_110:LibT Tryz.prog (rn 25 3 3 4 138 139) :=
  ⟨by kernel_rfl,by kernel_rfl,fun w=>by kernel_rfl,fun w=>by kernel_rfl,fun w=>by kernel_rfl,by kernel_rfl,fun w=>by kernel_rfl,fun w=>by kernel_rfl,fun w=>by kernel_rfl,by kernel_rfl,fun w=>by kernel_rfl,fun w=>by kernel_rfl,fun w=>by kernel_rfl,el_of tabOK (by kernel_rfl)⟩
theorem libF_110:Tryz.prog.funcs[110]?=some (insF (rn 25 3 3 4 138 139) Tryz.f110.name Tryz.f110.tmpNames):=by kernel_rfl
theorem libO_110:OvOK Tryz.prog (rn 25 3 3 4 138 139):=fun args w=>run_callFunc_extern (fn:=Tryz.f138) Tryz.func138 (by kernel_rfl) (by kernel_rfl) (by kernel_rfl) (by kernel_rfl) args w
theorem okI_110:Enters Tryz.prog 110∧InsOK Tryz.prog 110 3:=⟨enters_of Tryz.func110 (by kernel_rfl) (c:=bod Tryz.f110.body) rfl,ins_ok libT_110 libO_110 libF_110⟩
end Go.Proofs.YthhfjodcgibhfaaGreat
