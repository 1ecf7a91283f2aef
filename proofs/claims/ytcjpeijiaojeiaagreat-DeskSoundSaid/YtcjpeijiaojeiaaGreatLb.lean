/- By program (genlb.py): functions of the library, by what they do. -/
import Derived.Test.YtcjpeijiaojeiaaGreatTl
import Derived.Test.YtcjpeijiaojeiaaGreatEe
namespace Go.Proofs.YtcjpeijiaojeiaaGreat
open Go Go.Ev
set_option maxRecDepth 100000
theorem aET:eD Tryz.prog (rn 33 59 2 4 0 0) :=
  ⟨by kernel_rfl,by kernel_rfl,fun w=>by kernel_rfl,fun w=>by kernel_rfl,fun w=>by kernel_rfl,by kernel_rfl,fun w=>by kernel_rfl,fun w=>by kernel_rfl,fun w=>by kernel_rfl,by kernel_rfl,fun w=>by kernel_rfl,fun w=>by kernel_rfl,fun w=>by kernel_rfl,gG fZ (by kernel_rfl)⟩
theorem aEw:Tryz.prog.funcs[50]?=some (iH (rn 33 59 2 4 0 0) Tryz.f50.name Tryz.f50.tmpNames):=by kernel_rfl
theorem Cm:Enters Tryz.prog 50∧iT Tryz.prog 50 59:=⟨enters_of Tryz.func50 (by kernel_rfl) (c:=ah Tryz.f50.body) rfl,jT aET aEw⟩
theorem aFN:eD Tryz.prog (rn 39 61 2 4 0 0) :=
  ⟨by kernel_rfl,by kernel_rfl,fun w=>by kernel_rfl,fun w=>by kernel_rfl,fun w=>by kernel_rfl,by kernel_rfl,fun w=>by kernel_rfl,fun w=>by kernel_rfl,fun w=>by kernel_rfl,by kernel_rfl,fun w=>by kernel_rfl,fun w=>by kernel_rfl,fun w=>by kernel_rfl,gG fZ (by kernel_rfl)⟩
theorem aE5:Tryz.prog.funcs[51]?=some (iH (rn 39 61 2 4 0 0) Tryz.f51.name Tryz.f51.tmpNames):=by kernel_rfl
theorem aFo:Enters Tryz.prog 51∧iT Tryz.prog 51 61:=⟨enters_of Tryz.func51 (by kernel_rfl) (c:=ah Tryz.f51.body) rfl,jT aFN aE5⟩
theorem aEm:eD Tryz.prog (rn 30 66 2 4 0 0) :=
  ⟨by kernel_rfl,by kernel_rfl,fun w=>by kernel_rfl,fun w=>by kernel_rfl,fun w=>by kernel_rfl,by kernel_rfl,fun w=>by kernel_rfl,fun w=>by kernel_rfl,fun w=>by kernel_rfl,by kernel_rfl,fun w=>by kernel_rfl,fun w=>by kernel_rfl,fun w=>by kernel_rfl,gG fZ (by kernel_rfl)⟩
theorem aEh:Tryz.prog.funcs[79]?=some (iH (rn 30 66 2 4 0 0) Tryz.f79.name Tryz.f79.tmpNames):=by kernel_rfl
theorem P4:Enters Tryz.prog 79∧iT Tryz.prog 79 66:=⟨enters_of Tryz.func79 (by kernel_rfl) (c:=ah Tryz.f79.body) rfl,jT aEm aEh⟩
theorem aEU:eD Tryz.prog (rn 31 142 2 4 0 0) :=
  ⟨by kernel_rfl,by kernel_rfl,fun w=>by kernel_rfl,fun w=>by kernel_rfl,fun w=>by kernel_rfl,by kernel_rfl,fun w=>by kernel_rfl,fun w=>by kernel_rfl,fun w=>by kernel_rfl,by kernel_rfl,fun w=>by kernel_rfl,fun w=>by kernel_rfl,fun w=>by kernel_rfl,gG fZ (by kernel_rfl)⟩
theorem aEW:Tryz.prog.funcs[80]?=some (iH (rn 31 142 2 4 0 0) Tryz.f80.name Tryz.f80.tmpNames):=by kernel_rfl
theorem PB:Enters Tryz.prog 80∧iT Tryz.prog 80 142:=⟨enters_of Tryz.func80 (by kernel_rfl) (c:=ah Tryz.f80.body) rfl,jT aEU aEW⟩
theorem aEc:eD Tryz.prog (rn 32 145 2 4 0 0) :=
  ⟨by kernel_rfl,by kernel_rfl,fun w=>by kernel_rfl,fun w=>by kernel_rfl,fun w=>by kernel_rfl,by kernel_rfl,fun w=>by kernel_rfl,fun w=>by kernel_rfl,fun w=>by kernel_rfl,by kernel_rfl,fun w=>by kernel_rfl,fun w=>by kernel_rfl,fun w=>by kernel_rfl,gG fZ (by kernel_rfl)⟩
theorem aE4:Tryz.prog.funcs[81]?=some (iH (rn 32 145 2 4 0 0) Tryz.f81.name Tryz.f81.tmpNames):=by kernel_rfl
theorem PG:Enters Tryz.prog 81∧iT Tryz.prog 81 145:=⟨enters_of Tryz.func81 (by kernel_rfl) (c:=ah Tryz.f81.body) rfl,jT aEc aE4⟩
theorem aE8:eD Tryz.prog (rn 34 129 2 4 0 0) :=
  ⟨by kernel_rfl,by kernel_rfl,fun w=>by kernel_rfl,fun w=>by kernel_rfl,fun w=>by kernel_rfl,by kernel_rfl,fun w=>by kernel_rfl,fun w=>by kernel_rfl,fun w=>by kernel_rfl,by kernel_rfl,fun w=>by kernel_rfl,fun w=>by kernel_rfl,fun w=>by kernel_rfl,gG fZ (by kernel_rfl)⟩
theorem aFM:Tryz.prog.funcs[82]?=some (iH (rn 34 129 2 4 0 0) Tryz.f82.name Tryz.f82.tmpNames):=by kernel_rfl
theorem Ou:Enters Tryz.prog 82∧iT Tryz.prog 82 129:=⟨enters_of Tryz.func82 (by kernel_rfl) (c:=ah Tryz.f82.body) rfl,jT aE8 aFM⟩
theorem aEp:eD Tryz.prog (rn 35 149 2 4 0 0) :=
  ⟨by kernel_rfl,by kernel_rfl,fun w=>by kernel_rfl,fun w=>by kernel_rfl,fun w=>by kernel_rfl,by kernel_rfl,fun w=>by kernel_rfl,fun w=>by kernel_rfl,fun w=>by kernel_rfl,by kernel_rfl,fun w=>by kernel_rfl,fun w=>by kernel_rfl,fun w=>by kernel_rfl,gG fZ (by kernel_rfl)⟩
theorem aEj:Tryz.prog.funcs[83]?=some (iH (rn 35 149 2 4 0 0) Tryz.f83.name Tryz.f83.tmpNames):=by kernel_rfl
theorem PY:Enters Tryz.prog 83∧iT Tryz.prog 83 149:=⟨enters_of Tryz.func83 (by kernel_rfl) (c:=ah Tryz.f83.body) rfl,jT aEp aEj⟩
theorem aEu:eD Tryz.prog (rn 41 133 2 4 0 0) :=
  ⟨by kernel_rfl,by kernel_rfl,fun w=>by kernel_rfl,fun w=>by kernel_rfl,fun w=>by kernel_rfl,by kernel_rfl,fun w=>by kernel_rfl,fun w=>by kernel_rfl,fun w=>by kernel_rfl,by kernel_rfl,fun w=>by kernel_rfl,fun w=>by kernel_rfl,fun w=>by kernel_rfl,gG fZ (by kernel_rfl)⟩
theorem aFO:Tryz.prog.funcs[91]?=some (iH (rn 41 133 2 4 0 0) Tryz.f91.name Tryz.f91.tmpNames):=by kernel_rfl
theorem PD:Enters Tryz.prog 91∧iT Tryz.prog 91 133:=⟨enters_of Tryz.func91 (by kernel_rfl) (c:=ah Tryz.f91.body) rfl,jT aEu aFO⟩
theorem aEk:eD Tryz.prog (rn 25 153 2 4 0 0) :=
  ⟨by kernel_rfl,by kernel_rfl,fun w=>by kernel_rfl,fun w=>by kernel_rfl,fun w=>by kernel_rfl,by kernel_rfl,fun w=>by kernel_rfl,fun w=>by kernel_rfl,fun w=>by kernel_rfl,by kernel_rfl,fun w=>by kernel_rfl,fun w=>by kernel_rfl,fun w=>by kernel_rfl,gG fZ (by kernel_rfl)⟩
theorem aEl:Tryz.prog.funcs[92]?=some (iH (rn 25 153 2 4 0 0) Tryz.f92.name Tryz.f92.tmpNames):=by kernel_rfl
theorem wO:Enters Tryz.prog 92∧iT Tryz.prog 92 153:=⟨enters_of Tryz.func92 (by kernel_rfl) (c:=ah Tryz.f92.body) rfl,jT aEk aEl⟩
theorem aFC:eD Tryz.prog (rn 27 3 2 4 0 0) :=
  ⟨by kernel_rfl,by kernel_rfl,fun w=>by kernel_rfl,fun w=>by kernel_rfl,fun w=>by kernel_rfl,by kernel_rfl,fun w=>by kernel_rfl,fun w=>by kernel_rfl,fun w=>by kernel_rfl,by kernel_rfl,fun w=>by kernel_rfl,fun w=>by kernel_rfl,fun w=>by kernel_rfl,gG fZ (by kernel_rfl)⟩
theorem aFG:Tryz.prog.funcs[93]?=some (iH (rn 27 3 2 4 0 0) Tryz.f93.name Tryz.f93.tmpNames):=by kernel_rfl
theorem wP:Enters Tryz.prog 93∧iT Tryz.prog 93 3:=⟨enters_of Tryz.func93 (by kernel_rfl) (c:=ah Tryz.f93.body) rfl,jT aFC aFG⟩
theorem aDp:eD Tryz.prog (rn 24 65 2 4 0 0) :=
  ⟨by kernel_rfl,by kernel_rfl,fun w=>by kernel_rfl,fun w=>by kernel_rfl,fun w=>by kernel_rfl,by kernel_rfl,fun w=>by kernel_rfl,fun w=>by kernel_rfl,fun w=>by kernel_rfl,by kernel_rfl,fun w=>by kernel_rfl,fun w=>by kernel_rfl,fun w=>by kernel_rfl,gG fZ (by kernel_rfl)⟩
theorem aDm:Tryz.prog.funcs[126]?=some (iH (rn 24 65 2 4 0 0) Tryz.f126.name Tryz.f126.tmpNames):=by kernel_rfl
theorem OI:Enters Tryz.prog 126∧iT Tryz.prog 126 65:=⟨enters_of Tryz.func126 (by kernel_rfl) (c:=ah Tryz.f126.body) rfl,jT aDp aDm⟩
theorem aDK:eD Tryz.prog (rn 26 43 2 4 0 0) :=
  ⟨by kernel_rfl,by kernel_rfl,fun w=>by kernel_rfl,fun w=>by kernel_rfl,fun w=>by kernel_rfl,by kernel_rfl,fun w=>by kernel_rfl,fun w=>by kernel_rfl,fun w=>by kernel_rfl,by kernel_rfl,fun w=>by kernel_rfl,fun w=>by kernel_rfl,fun w=>by kernel_rfl,gG fZ (by kernel_rfl)⟩
theorem aC9:Tryz.prog.funcs[127]?=some (iH (rn 26 43 2 4 0 0) Tryz.f127.name Tryz.f127.tmpNames):=by kernel_rfl
theorem N1:Enters Tryz.prog 127∧iT Tryz.prog 127 43:=⟨enters_of Tryz.func127 (by kernel_rfl) (c:=ah Tryz.f127.body) rfl,jT aDK aC9⟩
theorem aDQ:eD Tryz.prog (rn 26 43 3 4 180 181) :=
  ⟨by kernel_rfl,by kernel_rfl,fun w=>by kernel_rfl,fun w=>by kernel_rfl,fun w=>by kernel_rfl,by kernel_rfl,fun w=>by kernel_rfl,fun w=>by kernel_rfl,fun w=>by kernel_rfl,by kernel_rfl,fun w=>by kernel_rfl,fun w=>by kernel_rfl,fun w=>by kernel_rfl,gG fZ (by kernel_rfl)⟩
theorem aDr:Tryz.prog.funcs[157]?=some (jI (rn 26 43 3 4 180 181) Tryz.f157.name Tryz.f157.tmpNames):=by kernel_rfl
theorem aDG:lQ Tryz.prog (rn 26 43 3 4 180 181):=fun args w=>run_callFunc_extern (fn:=Tryz.f180) Tryz.func180 (by kernel_rfl) (by kernel_rfl) (by kernel_rfl) (by kernel_rfl) args w
theorem aE2:Enters Tryz.prog 157∧kD Tryz.prog 157 43:=⟨enters_of Tryz.func157 (by kernel_rfl) (c:=ah Tryz.f157.body) rfl,mn aDQ aDG aDr⟩
theorem aDk:eD Tryz.prog (rn 27 3 3 4 199 200) :=
  ⟨by kernel_rfl,by kernel_rfl,fun w=>by kernel_rfl,fun w=>by kernel_rfl,fun w=>by kernel_rfl,by kernel_rfl,fun w=>by kernel_rfl,fun w=>by kernel_rfl,fun w=>by kernel_rfl,by kernel_rfl,fun w=>by kernel_rfl,fun w=>by kernel_rfl,fun w=>by kernel_rfl,gG fZ (by kernel_rfl)⟩
theorem aCH:Tryz.prog.funcs[165]?=some (jI (rn 27 3 3 4 199 200) Tryz.f165.name Tryz.f165.tmpNames):=by kernel_rfl
theorem aDt:lQ Tryz.prog (rn 27 3 3 4 199 200):=fun args w=>run_callFunc_extern (fn:=Tryz.f199) Tryz.func199 (by kernel_rfl) (by kernel_rfl) (by kernel_rfl) (by kernel_rfl) args w
theorem Nb:Enters Tryz.prog 165∧kD Tryz.prog 165 3:=⟨enters_of Tryz.func165 (by kernel_rfl) (c:=ah Tryz.f165.body) rfl,mn aDk aDt aCH⟩
theorem aEA:eD Tryz.prog (rn 26 43 3 4 0 0) :=
  ⟨by kernel_rfl,by kernel_rfl,fun w=>by kernel_rfl,fun w=>by kernel_rfl,fun w=>by kernel_rfl,by kernel_rfl,fun w=>by kernel_rfl,fun w=>by kernel_rfl,fun w=>by kernel_rfl,by kernel_rfl,fun w=>by kernel_rfl,fun w=>by kernel_rfl,fun w=>by kernel_rfl,gG fZ (by kernel_rfl)⟩
theorem aD7:Tryz.prog.funcs[166]?=some (sD (rn 26 43 3 4 0 0) Tryz.f166.name Tryz.f166.tmpNames):=by kernel_rfl
theorem aER:Enters Tryz.prog 166∧xT Tryz.prog 166 43:=⟨enters_of Tryz.func166 (by kernel_rfl) (c:=ah Tryz.f166.body) rfl,aFa aEA (aEi fZ (by kernel_rfl)) aD7⟩
theorem aCP:eD Tryz.prog (rn 31 142 3 4 237 238) :=
  ⟨by kernel_rfl,by kernel_rfl,fun w=>by kernel_rfl,fun w=>by kernel_rfl,fun w=>by kernel_rfl,by kernel_rfl,fun w=>by kernel_rfl,fun w=>by kernel_rfl,fun w=>by kernel_rfl,by kernel_rfl,fun w=>by kernel_rfl,fun w=>by kernel_rfl,fun w=>by kernel_rfl,gG fZ (by kernel_rfl)⟩
theorem aEF:Tryz.prog.funcs[211]?=some (jI (rn 31 142 3 4 237 238) Tryz.f211.name Tryz.f211.tmpNames):=by kernel_rfl
theorem aCN:lQ Tryz.prog (rn 31 142 3 4 237 238):=fun args w=>run_callFunc_extern (fn:=Tryz.f237) Tryz.func237 (by kernel_rfl) (by kernel_rfl) (by kernel_rfl) (by kernel_rfl) args w
theorem aEX:Enters Tryz.prog 211∧kD Tryz.prog 211 142:=⟨enters_of Tryz.func211 (by kernel_rfl) (c:=ah Tryz.f211.body) rfl,mn aCP aCN aEF⟩
theorem aCg:eD Tryz.prog (rn 32 145 3 4 243 244) :=
  ⟨by kernel_rfl,by kernel_rfl,fun w=>by kernel_rfl,fun w=>by kernel_rfl,fun w=>by kernel_rfl,by kernel_rfl,fun w=>by kernel_rfl,fun w=>by kernel_rfl,fun w=>by kernel_rfl,by kernel_rfl,fun w=>by kernel_rfl,fun w=>by kernel_rfl,fun w=>by kernel_rfl,gG fZ (by kernel_rfl)⟩
theorem aDq:Tryz.prog.funcs[218]?=some (jI (rn 32 145 3 4 243 244) Tryz.f218.name Tryz.f218.tmpNames):=by kernel_rfl
theorem aDC:lQ Tryz.prog (rn 32 145 3 4 243 244):=fun args w=>run_callFunc_extern (fn:=Tryz.f243) Tryz.func243 (by kernel_rfl) (by kernel_rfl) (by kernel_rfl) (by kernel_rfl) args w
theorem aEo:Enters Tryz.prog 218∧kD Tryz.prog 218 145:=⟨enters_of Tryz.func218 (by kernel_rfl) (c:=ah Tryz.f218.body) rfl,mn aCg aDC aDq⟩
theorem aCL:eD Tryz.prog (rn 33 59 3 4 245 246) :=
  ⟨by kernel_rfl,by kernel_rfl,fun w=>by kernel_rfl,fun w=>by kernel_rfl,fun w=>by kernel_rfl,by kernel_rfl,fun w=>by kernel_rfl,fun w=>by kernel_rfl,fun w=>by kernel_rfl,by kernel_rfl,fun w=>by kernel_rfl,fun w=>by kernel_rfl,fun w=>by kernel_rfl,gG fZ (by kernel_rfl)⟩
theorem aDf:Tryz.prog.funcs[219]?=some (jI (rn 33 59 3 4 245 246) Tryz.f219.name Tryz.f219.tmpNames):=by kernel_rfl
theorem aCx:lQ Tryz.prog (rn 33 59 3 4 245 246):=fun args w=>run_callFunc_extern (fn:=Tryz.f245) Tryz.func245 (by kernel_rfl) (by kernel_rfl) (by kernel_rfl) (by kernel_rfl) args w
theorem aEs:Enters Tryz.prog 219∧kD Tryz.prog 219 59:=⟨enters_of Tryz.func219 (by kernel_rfl) (c:=ah Tryz.f219.body) rfl,mn aCL aCx aDf⟩
theorem aDz:eD Tryz.prog (rn 34 129 3 4 250 251) :=
  ⟨by kernel_rfl,by kernel_rfl,fun w=>by kernel_rfl,fun w=>by kernel_rfl,fun w=>by kernel_rfl,by kernel_rfl,fun w=>by kernel_rfl,fun w=>by kernel_rfl,fun w=>by kernel_rfl,by kernel_rfl,fun w=>by kernel_rfl,fun w=>by kernel_rfl,fun w=>by kernel_rfl,gG fZ (by kernel_rfl)⟩
theorem aD6:Tryz.prog.funcs[223]?=some (jI (rn 34 129 3 4 250 251) Tryz.f223.name Tryz.f223.tmpNames):=by kernel_rfl
theorem aEO:lQ Tryz.prog (rn 34 129 3 4 250 251):=fun args w=>run_callFunc_extern (fn:=Tryz.f250) Tryz.func250 (by kernel_rfl) (by kernel_rfl) (by kernel_rfl) (by kernel_rfl) args w
theorem aEb:Enters Tryz.prog 223∧kD Tryz.prog 223 129:=⟨enters_of Tryz.func223 (by kernel_rfl) (c:=ah Tryz.f223.body) rfl,mn aDz aEO aD6⟩
theorem aDU:eD Tryz.prog (rn 35 149 3 4 254 255) :=
  ⟨by kernel_rfl,by kernel_rfl,fun w=>by kernel_rfl,fun w=>by kernel_rfl,fun w=>by kernel_rfl,by kernel_rfl,fun w=>by kernel_rfl,fun w=>by kernel_rfl,fun w=>by kernel_rfl,by kernel_rfl,fun w=>by kernel_rfl,fun w=>by kernel_rfl,fun w=>by kernel_rfl,gG fZ (by kernel_rfl)⟩
theorem aC2:Tryz.prog.funcs[225]?=some (jI (rn 35 149 3 4 254 255) Tryz.f225.name Tryz.f225.tmpNames):=by kernel_rfl
theorem aDa:lQ Tryz.prog (rn 35 149 3 4 254 255):=fun args w=>run_callFunc_extern (fn:=Tryz.f254) Tryz.func254 (by kernel_rfl) (by kernel_rfl) (by kernel_rfl) (by kernel_rfl) args w
theorem aEz:Enters Tryz.prog 225∧kD Tryz.prog 225 149:=⟨enters_of Tryz.func225 (by kernel_rfl) (c:=ah Tryz.f225.body) rfl,mn aDU aDa aC2⟩
end Go.Proofs.YtcjpeijiaojeiaaGreat
