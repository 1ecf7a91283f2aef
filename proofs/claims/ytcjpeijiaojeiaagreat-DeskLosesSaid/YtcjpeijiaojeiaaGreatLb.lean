/- By program (genlb.py): functions of the library, by what they do. -/
import Derived.Test.YtcjpeijiaojeiaaGreatTl
import Derived.Test.YtcjpeijiaojeiaaGreatEe
namespace Go.Proofs.YtcjpeijiaojeiaaGreat
open Go Go.Ev
set_option maxRecDepth 100000
theorem libT_50:LibT Tryz.prog (rn 33 59 2 4 0 0) :=
  ⟨by kernel_rfl,by kernel_rfl,fun w=>by kernel_rfl,fun w=>by kernel_rfl,fun w=>by kernel_rfl,by kernel_rfl,fun w=>by kernel_rfl,fun w=>by kernel_rfl,fun w=>by kernel_rfl,by kernel_rfl,fun w=>by kernel_rfl,fun w=>by kernel_rfl,fun w=>by kernel_rfl,el_of tabOK (by kernel_rfl)⟩
theorem libF_50:Tryz.prog.funcs[50]?=some (clnF (rn 33 59 2 4 0 0) Tryz.f50.name Tryz.f50.tmpNames):=by kernel_rfl
theorem okI_50:Enters Tryz.prog 50∧ClnOK Tryz.prog 50 59:=⟨enters_of Tryz.func50 (by kernel_rfl) (c:=bod Tryz.f50.body) rfl,cln_ok libT_50 libF_50⟩
theorem libT_51:LibT Tryz.prog (rn 39 61 2 4 0 0) :=
  ⟨by kernel_rfl,by kernel_rfl,fun w=>by kernel_rfl,fun w=>by kernel_rfl,fun w=>by kernel_rfl,by kernel_rfl,fun w=>by kernel_rfl,fun w=>by kernel_rfl,fun w=>by kernel_rfl,by kernel_rfl,fun w=>by kernel_rfl,fun w=>by kernel_rfl,fun w=>by kernel_rfl,el_of tabOK (by kernel_rfl)⟩
theorem libF_51:Tryz.prog.funcs[51]?=some (clnF (rn 39 61 2 4 0 0) Tryz.f51.name Tryz.f51.tmpNames):=by kernel_rfl
theorem okI_51:Enters Tryz.prog 51∧ClnOK Tryz.prog 51 61:=⟨enters_of Tryz.func51 (by kernel_rfl) (c:=bod Tryz.f51.body) rfl,cln_ok libT_51 libF_51⟩
theorem libT_79:LibT Tryz.prog (rn 30 66 2 4 0 0) :=
  ⟨by kernel_rfl,by kernel_rfl,fun w=>by kernel_rfl,fun w=>by kernel_rfl,fun w=>by kernel_rfl,by kernel_rfl,fun w=>by kernel_rfl,fun w=>by kernel_rfl,fun w=>by kernel_rfl,by kernel_rfl,fun w=>by kernel_rfl,fun w=>by kernel_rfl,fun w=>by kernel_rfl,el_of tabOK (by kernel_rfl)⟩
theorem libF_79:Tryz.prog.funcs[79]?=some (clnF (rn 30 66 2 4 0 0) Tryz.f79.name Tryz.f79.tmpNames):=by kernel_rfl
theorem okI_79:Enters Tryz.prog 79∧ClnOK Tryz.prog 79 66:=⟨enters_of Tryz.func79 (by kernel_rfl) (c:=bod Tryz.f79.body) rfl,cln_ok libT_79 libF_79⟩
theorem libT_80:LibT Tryz.prog (rn 31 142 2 4 0 0) :=
  ⟨by kernel_rfl,by kernel_rfl,fun w=>by kernel_rfl,fun w=>by kernel_rfl,fun w=>by kernel_rfl,by kernel_rfl,fun w=>by kernel_rfl,fun w=>by kernel_rfl,fun w=>by kernel_rfl,by kernel_rfl,fun w=>by kernel_rfl,fun w=>by kernel_rfl,fun w=>by kernel_rfl,el_of tabOK (by kernel_rfl)⟩
theorem libF_80:Tryz.prog.funcs[80]?=some (clnF (rn 31 142 2 4 0 0) Tryz.f80.name Tryz.f80.tmpNames):=by kernel_rfl
theorem okI_80:Enters Tryz.prog 80∧ClnOK Tryz.prog 80 142:=⟨enters_of Tryz.func80 (by kernel_rfl) (c:=bod Tryz.f80.body) rfl,cln_ok libT_80 libF_80⟩
theorem libT_81:LibT Tryz.prog (rn 32 145 2 4 0 0) :=
  ⟨by kernel_rfl,by kernel_rfl,fun w=>by kernel_rfl,fun w=>by kernel_rfl,fun w=>by kernel_rfl,by kernel_rfl,fun w=>by kernel_rfl,fun w=>by kernel_rfl,fun w=>by kernel_rfl,by kernel_rfl,fun w=>by kernel_rfl,fun w=>by kernel_rfl,fun w=>by kernel_rfl,el_of tabOK (by kernel_rfl)⟩
theorem libF_81:Tryz.prog.funcs[81]?=some (clnF (rn 32 145 2 4 0 0) Tryz.f81.name Tryz.f81.tmpNames):=by kernel_rfl
theorem okI_81:Enters Tryz.prog 81∧ClnOK Tryz.prog 81 145:=⟨enters_of Tryz.func81 (by kernel_rfl) (c:=bod Tryz.f81.body) rfl,cln_ok libT_81 libF_81⟩
theorem libT_82:LibT Tryz.prog (rn 34 129 2 4 0 0) :=
  ⟨by kernel_rfl,by kernel_rfl,fun w=>by kernel_rfl,fun w=>by kernel_rfl,fun w=>by kernel_rfl,by kernel_rfl,fun w=>by kernel_rfl,fun w=>by kernel_rfl,fun w=>by kernel_rfl,by kernel_rfl,fun w=>by kernel_rfl,fun w=>by kernel_rfl,fun w=>by kernel_rfl,el_of tabOK (by kernel_rfl)⟩
theorem libF_82:Tryz.prog.funcs[82]?=some (clnF (rn 34 129 2 4 0 0) Tryz.f82.name Tryz.f82.tmpNames):=by kernel_rfl
theorem okI_82:Enters Tryz.prog 82∧ClnOK Tryz.prog 82 129:=⟨enters_of Tryz.func82 (by kernel_rfl) (c:=bod Tryz.f82.body) rfl,cln_ok libT_82 libF_82⟩
theorem libT_83:LibT Tryz.prog (rn 35 149 2 4 0 0) :=
  ⟨by kernel_rfl,by kernel_rfl,fun w=>by kernel_rfl,fun w=>by kernel_rfl,fun w=>by kernel_rfl,by kernel_rfl,fun w=>by kernel_rfl,fun w=>by kernel_rfl,fun w=>by kernel_rfl,by kernel_rfl,fun w=>by kernel_rfl,fun w=>by kernel_rfl,fun w=>by kernel_rfl,el_of tabOK (by kernel_rfl)⟩
theorem libF_83:Tryz.prog.funcs[83]?=some (clnF (rn 35 149 2 4 0 0) Tryz.f83.name Tryz.f83.tmpNames):=by kernel_rfl
theorem okI_83:Enters Tryz.prog 83∧ClnOK Tryz.prog 83 149:=⟨enters_of Tryz.func83 (by kernel_rfl) (c:=bod Tryz.f83.body) rfl,cln_ok libT_83 libF_83⟩
theorem libT_91:LibT Tryz.prog (rn 41 133 2 4 0 0) :=
  ⟨by kernel_rfl,by kernel_rfl,fun w=>by kernel_rfl,fun w=>by kernel_rfl,fun w=>by kernel_rfl,by kernel_rfl,fun w=>by kernel_rfl,fun w=>by kernel_rfl,fun w=>by kernel_rfl,by kernel_rfl,fun w=>by kernel_rfl,fun w=>by kernel_rfl,fun w=>by kernel_rfl,el_of tabOK (by kernel_rfl)⟩
theorem libF_91:Tryz.prog.funcs[91]?=some (clnF (rn 41 133 2 4 0 0) Tryz.f91.name Tryz.f91.tmpNames):=by kernel_rfl
theorem okI_91:Enters Tryz.prog 91∧ClnOK Tryz.prog 91 133:=⟨enters_of Tryz.func91 (by kernel_rfl) (c:=bod Tryz.f91.body) rfl,cln_ok libT_91 libF_91⟩
theorem libT_92:LibT Tryz.prog (rn 25 153 2 4 0 0) :=
  ⟨by kernel_rfl,by kernel_rfl,fun w=>by kernel_rfl,fun w=>by kernel_rfl,fun w=>by kernel_rfl,by kernel_rfl,fun w=>by kernel_rfl,fun w=>by kernel_rfl,fun w=>by kernel_rfl,by kernel_rfl,fun w=>by kernel_rfl,fun w=>by kernel_rfl,fun w=>by kernel_rfl,el_of tabOK (by kernel_rfl)⟩
theorem libF_92:Tryz.prog.funcs[92]?=some (clnF (rn 25 153 2 4 0 0) Tryz.f92.name Tryz.f92.tmpNames):=by kernel_rfl
theorem okI_92:Enters Tryz.prog 92∧ClnOK Tryz.prog 92 153:=⟨enters_of Tryz.func92 (by kernel_rfl) (c:=bod Tryz.f92.body) rfl,cln_ok libT_92 libF_92⟩
theorem libT_93:LibT Tryz.prog (rn 27 3 2 4 0 0) :=
  ⟨by kernel_rfl,by kernel_rfl,fun w=>by kernel_rfl,fun w=>by kernel_rfl,fun w=>by kernel_rfl,by kernel_rfl,fun w=>by kernel_rfl,fun w=>by kernel_rfl,fun w=>by kernel_rfl,by kernel_rfl,fun w=>by kernel_rfl,fun w=>by kernel_rfl,fun w=>by kernel_rfl,el_of tabOK (by kernel_rfl)⟩
theorem libF_93:Tryz.prog.funcs[93]?=some (clnF (rn 27 3 2 4 0 0) Tryz.f93.name Tryz.f93.tmpNames):=by kernel_rfl
theorem okI_93:Enters Tryz.prog 93∧ClnOK Tryz.prog 93 3:=⟨enters_of Tryz.func93 (by kernel_rfl) (c:=bod Tryz.f93.body) rfl,cln_ok libT_93 libF_93⟩
theorem libT_126:LibT Tryz.prog (rn 24 65 2 4 0 0) :=
  ⟨by kernel_rfl,by kernel_rfl,fun w=>by kernel_rfl,fun w=>by kernel_rfl,fun w=>by kernel_rfl,by kernel_rfl,fun w=>by kernel_rfl,fun w=>by kernel_rfl,fun w=>by kernel_rfl,by kernel_rfl,fun w=>by kernel_rfl,fun w=>by kernel_rfl,fun w=>by kernel_rfl,el_of tabOK (by kernel_rfl)⟩
theorem libF_126:Tryz.prog.funcs[126]?=some (clnF (rn 24 65 2 4 0 0) Tryz.f126.name Tryz.f126.tmpNames):=by kernel_rfl
theorem okI_126:Enters Tryz.prog 126∧ClnOK Tryz.prog 126 65:=⟨enters_of Tryz.func126 (by kernel_rfl) (c:=bod Tryz.f126.body) rfl,cln_ok libT_126 libF_126⟩
theorem libT_127:LibT Tryz.prog (rn 26 43 2 4 0 0) :=
  ⟨by kernel_rfl,by kernel_rfl,fun w=>by kernel_rfl,fun w=>by kernel_rfl,fun w=>by kernel_rfl,by kernel_rfl,fun w=>by kernel_rfl,fun w=>by kernel_rfl,fun w=>by kernel_rfl,by kernel_rfl,fun w=>by kernel_rfl,fun w=>by kernel_rfl,fun w=>by kernel_rfl,el_of tabOK (by kernel_rfl)⟩
theorem libF_127:Tryz.prog.funcs[127]?=some (clnF (rn 26 43 2 4 0 0) Tryz.f127.name Tryz.f127.tmpNames):=by kernel_rfl
theorem okI_127:Enters Tryz.prog 127∧ClnOK Tryz.prog 127 43:=⟨enters_of Tryz.func127 (by kernel_rfl) (c:=bod Tryz.f127.body) rfl,cln_ok libT_127 libF_127⟩
theorem libT_157:LibT Tryz.prog (rn 26 43 3 4 180 181) :=
  ⟨by kernel_rfl,by kernel_rfl,fun w=>by kernel_rfl,fun w=>by kernel_rfl,fun w=>by kernel_rfl,by kernel_rfl,fun w=>by kernel_rfl,fun w=>by kernel_rfl,fun w=>by kernel_rfl,by kernel_rfl,fun w=>by kernel_rfl,fun w=>by kernel_rfl,fun w=>by kernel_rfl,el_of tabOK (by kernel_rfl)⟩
theorem libF_157:Tryz.prog.funcs[157]?=some (insF (rn 26 43 3 4 180 181) Tryz.f157.name Tryz.f157.tmpNames):=by kernel_rfl
theorem libO_157:OvOK Tryz.prog (rn 26 43 3 4 180 181):=fun args w=>run_callFunc_extern (fn:=Tryz.f180) Tryz.func180 (by kernel_rfl) (by kernel_rfl) (by kernel_rfl) (by kernel_rfl) args w
theorem okI_157:Enters Tryz.prog 157∧InsOK Tryz.prog 157 43:=⟨enters_of Tryz.func157 (by kernel_rfl) (c:=bod Tryz.f157.body) rfl,ins_ok libT_157 libO_157 libF_157⟩
theorem libT_165:LibT Tryz.prog (rn 27 3 3 4 199 200) :=
  ⟨by kernel_rfl,by kernel_rfl,fun w=>by kernel_rfl,fun w=>by kernel_rfl,fun w=>by kernel_rfl,by kernel_rfl,fun w=>by kernel_rfl,fun w=>by kernel_rfl,fun w=>by kernel_rfl,by kernel_rfl,fun w=>by kernel_rfl,fun w=>by kernel_rfl,fun w=>by kernel_rfl,el_of tabOK (by kernel_rfl)⟩
theorem libF_165:Tryz.prog.funcs[165]?=some (insF (rn 27 3 3 4 199 200) Tryz.f165.name Tryz.f165.tmpNames):=by kernel_rfl
theorem libO_165:OvOK Tryz.prog (rn 27 3 3 4 199 200):=fun args w=>run_callFunc_extern (fn:=Tryz.f199) Tryz.func199 (by kernel_rfl) (by kernel_rfl) (by kernel_rfl) (by kernel_rfl) args w
theorem okI_165:Enters Tryz.prog 165∧InsOK Tryz.prog 165 3:=⟨enters_of Tryz.func165 (by kernel_rfl) (c:=bod Tryz.f165.body) rfl,ins_ok libT_165 libO_165 libF_165⟩
theorem libT_166:LibT Tryz.prog (rn 26 43 3 4 0 0) :=
  ⟨by kernel_rfl,by kernel_rfl,fun w=>by kernel_rfl,fun w=>by kernel_rfl,fun w=>by kernel_rfl,by kernel_rfl,fun w=>by kernel_rfl,fun w=>by kernel_rfl,fun w=>by kernel_rfl,by kernel_rfl,fun w=>by kernel_rfl,fun w=>by kernel_rfl,fun w=>by kernel_rfl,el_of tabOK (by kernel_rfl)⟩
theorem libF_166:Tryz.prog.funcs[166]?=some (delF (rn 26 43 3 4 0 0) Tryz.f166.name Tryz.f166.tmpNames):=by kernel_rfl
theorem okI_166:Enters Tryz.prog 166∧DelOK Tryz.prog 166 43:=⟨enters_of Tryz.func166 (by kernel_rfl) (c:=bod Tryz.f166.body) rfl,del_ok libT_166 (zone_of tabOK (by kernel_rfl)) libF_166⟩
theorem libT_211:LibT Tryz.prog (rn 31 142 3 4 237 238) :=
  ⟨by kernel_rfl,by kernel_rfl,fun w=>by kernel_rfl,fun w=>by kernel_rfl,fun w=>by kernel_rfl,by kernel_rfl,fun w=>by kernel_rfl,fun w=>by kernel_rfl,fun w=>by kernel_rfl,by kernel_rfl,fun w=>by kernel_rfl,fun w=>by kernel_rfl,fun w=>by kernel_rfl,el_of tabOK (by kernel_rfl)⟩
theorem libF_211:Tryz.prog.funcs[211]?=some (insF (rn 31 142 3 4 237 238) Tryz.f211.name Tryz.f211.tmpNames):=by kernel_rfl
theorem libO_211:OvOK Tryz.prog (rn 31 142 3 4 237 238):=fun args w=>run_callFunc_extern (fn:=Tryz.f237) Tryz.func237 (by kernel_rfl) (by kernel_rfl) (by kernel_rfl) (by kernel_rfl) args w
theorem okI_211:Enters Tryz.prog 211∧InsOK Tryz.prog 211 142:=⟨enters_of Tryz.func211 (by kernel_rfl) (c:=bod Tryz.f211.body) rfl,ins_ok libT_211 libO_211 libF_211⟩
theorem libT_218:LibT Tryz.prog (rn 32 145 3 4 243 244) :=
  ⟨by kernel_rfl,by kernel_rfl,fun w=>by kernel_rfl,fun w=>by kernel_rfl,fun w=>by kernel_rfl,by kernel_rfl,fun w=>by kernel_rfl,fun w=>by kernel_rfl,fun w=>by kernel_rfl,by kernel_rfl,fun w=>by kernel_rfl,fun w=>by kernel_rfl,fun w=>by kernel_rfl,el_of tabOK (by kernel_rfl)⟩
theorem libF_218:Tryz.prog.funcs[218]?=some (insF (rn 32 145 3 4 243 244) Tryz.f218.name Tryz.f218.tmpNames):=by kernel_rfl
theorem libO_218:OvOK Tryz.prog (rn 32 145 3 4 243 244):=fun args w=>run_callFunc_extern (fn:=Tryz.f243) Tryz.func243 (by kernel_rfl) (by kernel_rfl) (by kernel_rfl) (by kernel_rfl) args w
theorem okI_218:Enters Tryz.prog 218∧InsOK Tryz.prog 218 145:=⟨enters_of Tryz.func218 (by kernel_rfl) (c:=bod Tryz.f218.body) rfl,ins_ok libT_218 libO_218 libF_218⟩
theorem libT_219:LibT Tryz.prog (rn 33 59 3 4 245 246) :=
  ⟨by kernel_rfl,by kernel_rfl,fun w=>by kernel_rfl,fun w=>by kernel_rfl,fun w=>by kernel_rfl,by kernel_rfl,fun w=>by kernel_rfl,fun w=>by kernel_rfl,fun w=>by kernel_rfl,by kernel_rfl,fun w=>by kernel_rfl,fun w=>by kernel_rfl,fun w=>by kernel_rfl,el_of tabOK (by kernel_rfl)⟩
theorem libF_219:Tryz.prog.funcs[219]?=some (insF (rn 33 59 3 4 245 246) Tryz.f219.name Tryz.f219.tmpNames):=by kernel_rfl
theorem libO_219:OvOK Tryz.prog (rn 33 59 3 4 245 246):=fun args w=>run_callFunc_extern (fn:=Tryz.f245) Tryz.func245 (by kernel_rfl) (by kernel_rfl) (by kernel_rfl) (by kernel_rfl) args w
theorem okI_219:Enters Tryz.prog 219∧InsOK Tryz.prog 219 59:=⟨enters_of Tryz.func219 (by kernel_rfl) (c:=bod Tryz.f219.body) rfl,ins_ok libT_219 libO_219 libF_219⟩
theorem libT_223:LibT Tryz.prog (rn 34 129 3 4 250 251) :=
  ⟨by kernel_rfl,by kernel_rfl,fun w=>by kernel_rfl,fun w=>by kernel_rfl,fun w=>by kernel_rfl,by kernel_rfl,fun w=>by kernel_rfl,fun w=>by kernel_rfl,fun w=>by kernel_rfl,by kernel_rfl,fun w=>by kernel_rfl,fun w=>by kernel_rfl,fun w=>by kernel_rfl,el_of tabOK (by kernel_rfl)⟩
theorem libF_223:Tryz.prog.funcs[223]?=some (insF (rn 34 129 3 4 250 251) Tryz.f223.name Tryz.f223.tmpNames):=by kernel_rfl
theorem libO_223:OvOK Tryz.prog (rn 34 129 3 4 250 251):=fun args w=>run_callFunc_extern (fn:=Tryz.f250) Tryz.func250 (by kernel_rfl) (by kernel_rfl) (by kernel_rfl) (by kernel_rfl) args w
theorem okI_223:Enters Tryz.prog 223∧InsOK Tryz.prog 223 129:=⟨enters_of Tryz.func223 (by kernel_rfl) (c:=bod Tryz.f223.body) rfl,ins_ok libT_223 libO_223 libF_223⟩
theorem libT_225:LibT Tryz.prog (rn 35 149 3 4 254 255) :=
  ⟨by kernel_rfl,by kernel_rfl,fun w=>by kernel_rfl,fun w=>by kernel_rfl,fun w=>by kernel_rfl,by kernel_rfl,fun w=>by kernel_rfl,fun w=>by kernel_rfl,fun w=>by kernel_rfl,by kernel_rfl,fun w=>by kernel_rfl,fun w=>by kernel_rfl,fun w=>by kernel_rfl,el_of tabOK (by kernel_rfl)⟩
theorem libF_225:Tryz.prog.funcs[225]?=some (insF (rn 35 149 3 4 254 255) Tryz.f225.name Tryz.f225.tmpNames):=by kernel_rfl
theorem libO_225:OvOK Tryz.prog (rn 35 149 3 4 254 255):=fun args w=>run_callFunc_extern (fn:=Tryz.f254) Tryz.func254 (by kernel_rfl) (by kernel_rfl) (by kernel_rfl) (by kernel_rfl) args w
theorem okI_225:Enters Tryz.prog 225∧InsOK Tryz.prog 225 149:=⟨enters_of Tryz.func225 (by kernel_rfl) (c:=bod Tryz.f225.body) rfl,ins_ok libT_225 libO_225 libF_225⟩
end Go.Proofs.YtcjpeijiaojeiaaGreat
