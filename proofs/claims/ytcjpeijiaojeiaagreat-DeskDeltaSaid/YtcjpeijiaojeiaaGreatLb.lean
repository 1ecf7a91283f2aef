/- By program (genlb.py): functions of the library, by what they do. -/
import Derived.Test.YtcjpeijiaojeiaaGreatTl
import Derived.Test.YtcjpeijiaojeiaaGreatEe
namespace Go.Proofs.YtcjpeijiaojeiaaGreat
open Go Go.Ev
set_option maxRecDepth 100000
theorem libT_50:LibT Tryz.prog (rn 33 59 2 4 0 0) :=
  ⟨by kernel_rfl,by kernel_rfl,fun w=>by kernel_rfl,fun w=>by kernel_rfl,fun w=>by kernel_rfl,by kernel_rfl,fun w=>by kernel_rfl,fun w=>by kernel_rfl,fun w=>by kernel_rfl,by kernel_rfl,fun w=>by kernel_rfl,fun w=>by kernel_rfl,fun w=>by kernel_rfl,el_of tabOK (by kernel_rfl)⟩
theorem libF_50:Tryz.prog.funcs[50]?=some (clnF (rn 33 59 2 4 0 0) Tryz.f50.name Tryz.f50.tmpNames):=by kernel_rfl
theorem okI_50:Enters Tryz.prog 50∧ClnOK Tryz.prog 50 59:=⟨enters_of Tryz.func50 (by kernel_rfl) (c:=bod Tryz.f50.body) rfl,cln_ok libT_50 libF_50⟩
theorem libT_51:LibT Tryz.prog (rn 39 61 2 4 0 0) :=
  ⟨by kernel_rfl,by kernel_rfl,fun w=>by kernel_rfl,fun w=>by kernel_rfl,fun w=>by kernel_rfl,by kernel_rfl,fun w=>by kernel_rfl,fun w=>by kernel_rfl,fun w=>by kernel_rfl,by kernel_rfl,fun w=>by kernel_rfl,fun w=>by kernel_rfl,fun w=>by kernel_rfl,el_of tabOK (by kernel_rfl)⟩
theorem libF_51:Tryz.prog.funcs[51]?=some (clnF (rn 39 61 2 4 0 0) Tryz.f51.name Tryz.f51.tmpNames):=by kernel_rfl
theorem okI_51:Enters Tryz.prog 51∧ClnOK Tryz.prog 51 61:=⟨enters_of Tryz.func51 (by kernel_rfl) (c:=bod Tryz.f51.body) rfl,cln_ok libT_51 libF_51⟩
theorem libT_79:LibT Tryz.prog (rn 30 66 2 4 0 0) :=
  ⟨by kernel_rfl,by kernel_rfl,fun w=>by kernel_rfl,fun w=>by kernel_rfl,fun w=>by kernel_rfl,by kernel_rfl,fun w=>by kernel_rfl,fun w=>by kernel_rfl,fun w=>by kernel_rfl,by kernel_rfl,fun w=>by kernel_rfl,fun w=>by kernel_rfl,fun w=>by kernel_rfl,el_of tabOK (by kernel_rfl)⟩
theorem libF_79:Tryz.prog.funcs[79]?=some (clnF (rn 30 66 2 4 0 0) Tryz.f79.name Tryz.f79.tmpNames):=by kernel_rfl
theorem okI_79:Enters Tryz.prog 79∧ClnOK Tryz.prog 79 66:=⟨enters_of Tryz.func79 (by kernel_rfl) (c:=bod Tryz.f79.body) rfl,cln_ok libT_79 libF_79⟩
theorem libT_80:LibT Tryz.prog (rn 31 142 2 4 0 0) :=
  ⟨by kernel_rfl,by kernel_rfl,fun w=>by kernel_rfl,fun w=>by kernel_rfl,fun w=>by kernel_rfl,by kernel_rfl,fun w=>by kernel_rfl,fun w=>by kernel_rfl,fun w=>by kernel_rfl,by kernel_rfl,fun w=>by kernel_rfl,fun w=>by kernel_rfl,fun w=>by kernel_rfl,el_of tabOK (by kernel_rfl)⟩
theorem libF_80:Tryz.prog.funcs[80]?=some (clnF (rn 31 142 2 4 0 0) Tryz.f80.name Tryz.f80.tmpNames):=by kernel_rfl
theorem okI_80:Enters Tryz.prog 80∧ClnOK Tryz.prog 80 142:=⟨enters_of Tryz.func80 (by kernel_rfl) (c:=bod Tryz.f80.body) rfl,cln_ok libT_80 libF_80⟩
theorem libT_81:LibT Tryz.prog (rn 32 145 2 4 0 0) :=
  ⟨by kernel_rfl,by kernel_rfl,fun w=>by kernel_rfl,fun w=>by kernel_rfl,fun w=>by kernel_rfl,by kernel_rfl,fun w=>by kernel_rfl,fun w=>by kernel_rfl,fun w=>by kernel_rfl,by kernel_rfl,fun w=>by kernel_rfl,fun w=>by kernel_rfl,fun w=>by kernel_rfl,el_of tabOK (by kernel_rfl)⟩
theorem libF_81:Tryz.prog.funcs[81]?=some (clnF (rn 32 145 2 4 0 0) Tryz.f81.name Tryz.f81.tmpNames):=by kernel_rfl
theorem okI_81:Enters Tryz.prog 81∧ClnOK Tryz.prog 81 145:=⟨enters_of Tryz.func81 (by kernel_rfl) (c:=bod Tryz.f81.body) rfl,cln_ok libT_81 libF_81⟩
theorem libT_82:LibT Tryz.prog (rn 34 129 2 4 0 0) :=
  ⟨by kernel_rfl,by kernel_rfl,fun w=>by kernel_rfl,fun w=>by kernel_rfl,fun w=>by kernel_rfl,by kernel_rfl,fun w=>by kernel_rfl,fun w=>by kernel_rfl,fun w=>by kernel_rfl,by kernel_rfl,fun w=>by kernel_rfl,fun w=>by kernel_rfl,fun w=>by kernel_rfl,el_of tabOK (by kernel_rfl)⟩
theorem libF_82:Tryz.prog.funcs[82]?=some (clnF (rn 34 129 2 4 0 0) Tryz.f82.name Tryz.f82.tmpNames):=by kernel_rfl
theorem okI_82:Enters Tryz.prog 82∧ClnOK Tryz.prog 82 129:=⟨enters_of Tryz.func82 (by kernel_rfl) (c:=bod Tryz.f82.body) rfl,cln_ok libT_82 libF_82⟩
theorem libT_83:LibT Tryz.prog (rn 35 149 2 4 0 0) :=
  ⟨by kernel_rfl,by kernel_rfl,fun w=>by kernel_rfl,fun w=>by kernel_rfl,fun w=>by kernel_rfl,by kernel_rfl,fun w=>by kernel_rfl,fun w=>by kernel_rfl,fun w=>by kernel_rfl,by kernel_rfl,fun w=>by kernel_rfl,fun w=>by kernel_rfl,fun w=>by kernel_rfl,el_of tabOK (by kernel_rfl)⟩
theorem libF_83:Tryz.prog.funcs[83]?=some (clnF (rn 35 149 2 4 0 0) Tryz.f83.name Tryz.f83.tmpNames):=by kernel_rfl
theorem okI_83:Enters Tryz.prog 83∧ClnOK Tryz.prog 83 149:=⟨enters_of Tryz.func83 (by kernel_rfl) (c:=bod Tryz.f83.body) rfl,cln_ok libT_83 libF_83⟩
theorem libT_91:LibT Tryz.prog (rn 41 133 2 4 0 0) :=
  ⟨by kernel_rfl,by kernel_rfl,fun w=>by kernel_rfl,fun w=>by kernel_rfl,fun w=>by kernel_rfl,by kernel_rfl,fun w=>by kernel_rfl,fun w=>by kernel_rfl,fun w=>by kernel_rfl,by kernel_rfl,fun w=>by kernel_rfl,fun w=>by kernel_rfl,fun w=>by kernel_rfl,el_of tabOK (by kernel_rfl)⟩
theorem libF_91:Tryz.prog.funcs[91]?=some (clnF (rn 41 133 2 4 0 0) Tryz.f91.name Tryz.f91.tmpNames):=by kernel_rfl
theorem okI_91:Enters Tryz.prog 91∧ClnOK Tryz.prog 91 133:=⟨enters_of Tryz.func91 (by kernel_rfl) (c:=bod Tryz.f91.body) rfl,cln_ok libT_91 libF_91⟩
theorem libT_92:LibT Tryz.prog (rn 25 153 2 4 0 0) :=
  ⟨by kernel_rfl,by kernel_rfl,fun w=>by kernel_rfl,fun w=>by kernel_rfl,fun w=>by kernel_rfl,by kernel_rfl,fun w=>by kernel_rfl,fun w=>by kernel_rfl,fun w=>by kernel_rfl,by kernel_rfl,fun w=>by kernel_rfl,fun w=>by kernel_rfl,fun w=>by kernel_rfl,el_of tabOK (by kernel_rfl)⟩
theorem libF_92:Tryz.prog.funcs[92]?=some (clnF (rn 25 153 2 4 0 0) Tryz.f92.name Tryz.f92.tmpNames):=by kernel_rfl
theorem okI_92:Enters Tryz.prog 92∧ClnOK Tryz.prog 92 153:=⟨enters_of Tryz.func92 (by kernel_rfl) (c:=bod Tryz.f92.body) rfl,cln_ok libT_92 libF_92⟩
theorem libT_93:LibT Tryz.prog (rn 27 3 2 4 0 0) :=
  ⟨by kernel_rfl,by kernel_rfl,fun w=>by kernel_rfl,fun w=>by kernel_rfl,fun w=>by kernel_rfl,by kernel_rfl,fun w=>by kernel_rfl,fun w=>by kernel_rfl,fun w=>by kernel_rfl,by kernel_rfl,fun w=>by kernel_rfl,fun w=>by kernel_rfl,fun w=>by kernel_rfl,el_of tabOK (by kernel_rfl)⟩
theorem libF_93:Tryz.prog.funcs[93]?=some (clnF (rn 27 3 2 4 0 0) Tryz.f93.name Tryz.f93.tmpNames):=by kernel_rfl
theorem okI_93:Enters Tryz.prog 93∧ClnOK Tryz.prog 93 3:=⟨enters_of Tryz.func93 (by kernel_rfl) (c:=bod Tryz.f93.body) rfl,cln_ok libT_93 libF_93⟩
theorem libT_126:LibT Tryz.prog (rn 24 65 2 4 0 0) :=
  ⟨by kernel_rfl,by kernel_rfl,fun w=>by kernel_rfl,fun w=>by kernel_rfl,fun w=>by kernel_rfl,by kernel_rfl,fun w=>by kernel_rfl,fun w=>by kernel_rfl,fun w=>by kernel_rfl,by kernel_rfl,fun w=>by kernel_rfl,fun w=>by kernel_rfl,fun w=>by kernel_rfl,el_of tabOK (by kernel_rfl)⟩
theorem libF_126:Tryz.prog.funcs[126]?=some (clnF (rn 24 65 2 4 0 0) Tryz.f126.name Tryz.f126.tmpNames):=by kernel_rfl
theorem okI_126:Enters Tryz.prog 126∧ClnOK Tryz.prog 126 65:=⟨enters_of Tryz.func126 (by kernel_rfl) (c:=bod Tryz.f126.body) rfl,cln_ok libT_126 libF_126⟩
theorem libT_127:LibT Tryz.prog (rn 26 43 2 4 0 0) :=
  ⟨by kernel_rfl,by kernel_rfl,fun w=>by kernel_rfl,fun w=>by kernel_rfl,fun w=>by kernel_rfl,by kernel_rfl,fun w=>by kernel_rfl,fun w=>by kernel_rfl,fun w=>by kernel_rfl,by kernel_rfl,fun w=>by kernel_rfl,fun w=>by kernel_rfl,fun w=>by kernel_rfl,el_of tabOK (by kernel_rfl)⟩
theorem libF_127:Tryz.prog.funcs[127]?=some (clnF (rn 26 43 2 4 0 0) Tryz.f127.name Tryz.f127.tmpNames):=by kernel_rfl
theorem okI_127:Enters Tryz.prog 127∧ClnOK Tryz.prog 127 43:=⟨enters_of Tryz.func127 (by kernel_rfl) (c:=bod Tryz.f127.body) rfl,cln_ok libT_127 libF_127⟩
end Go.Proofs.YtcjpeijiaojeiaaGreat
