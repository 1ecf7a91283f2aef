/- By program (genlb.py): functions of the library, by what they do. -/
import Derived.Test.YtcjpeijiaojeiaaGreatTl
import Derived.Test.YtcjpeijiaojeiaaGreatEe
namespace Go.Proofs.YtcjpeijiaojeiaaGreat
open Go Go.Ev
set_option maxRecDepth 100000
theorem aHE:dg Tryz.prog (rn 33 59 2 4 0 0) :=
  ⟨by kernel_rfl,by kernel_rfl,fun w=>by kernel_rfl,fun w=>by kernel_rfl,fun w=>by kernel_rfl,by kernel_rfl,fun w=>by kernel_rfl,fun w=>by kernel_rfl,fun w=>by kernel_rfl,by kernel_rfl,fun w=>by kernel_rfl,fun w=>by kernel_rfl,fun w=>by kernel_rfl,fR fD (by kernel_rfl)⟩
theorem aGX:Tryz.prog.funcs[50]?=some (gb (rn 33 59 2 4 0 0) Tryz.f50.name Tryz.f50.tmpNames):=by kernel_rfl
theorem EU:Enters Tryz.prog 50∧gr Tryz.prog 50 59:=⟨enters_of Tryz.func50 (by kernel_rfl) (c:=ab Tryz.f50.body) rfl,iw aHE aGX⟩
theorem aG2:dg Tryz.prog (rn 39 61 2 4 0 0) :=
  ⟨by kernel_rfl,by kernel_rfl,fun w=>by kernel_rfl,fun w=>by kernel_rfl,fun w=>by kernel_rfl,by kernel_rfl,fun w=>by kernel_rfl,fun w=>by kernel_rfl,fun w=>by kernel_rfl,by kernel_rfl,fun w=>by kernel_rfl,fun w=>by kernel_rfl,fun w=>by kernel_rfl,fR fD (by kernel_rfl)⟩
theorem aHO:Tryz.prog.funcs[51]?=some (gb (rn 39 61 2 4 0 0) Tryz.f51.name Tryz.f51.tmpNames):=by kernel_rfl
theorem aH5:Enters Tryz.prog 51∧gr Tryz.prog 51 61:=⟨enters_of Tryz.func51 (by kernel_rfl) (c:=ab Tryz.f51.body) rfl,iw aG2 aHO⟩
theorem aHG:dg Tryz.prog (rn 30 66 2 4 0 0) :=
  ⟨by kernel_rfl,by kernel_rfl,fun w=>by kernel_rfl,fun w=>by kernel_rfl,fun w=>by kernel_rfl,by kernel_rfl,fun w=>by kernel_rfl,fun w=>by kernel_rfl,fun w=>by kernel_rfl,by kernel_rfl,fun w=>by kernel_rfl,fun w=>by kernel_rfl,fun w=>by kernel_rfl,fR fD (by kernel_rfl)⟩
theorem aG8:Tryz.prog.funcs[79]?=some (gb (rn 30 66 2 4 0 0) Tryz.f79.name Tryz.f79.tmpNames):=by kernel_rfl
theorem R3:Enters Tryz.prog 79∧gr Tryz.prog 79 66:=⟨enters_of Tryz.func79 (by kernel_rfl) (c:=ab Tryz.f79.body) rfl,iw aHG aG8⟩
theorem aGr:dg Tryz.prog (rn 31 142 2 4 0 0) :=
  ⟨by kernel_rfl,by kernel_rfl,fun w=>by kernel_rfl,fun w=>by kernel_rfl,fun w=>by kernel_rfl,by kernel_rfl,fun w=>by kernel_rfl,fun w=>by kernel_rfl,fun w=>by kernel_rfl,by kernel_rfl,fun w=>by kernel_rfl,fun w=>by kernel_rfl,fun w=>by kernel_rfl,fR fD (by kernel_rfl)⟩
theorem aG1:Tryz.prog.funcs[80]?=some (gb (rn 31 142 2 4 0 0) Tryz.f80.name Tryz.f80.tmpNames):=by kernel_rfl
theorem RD:Enters Tryz.prog 80∧gr Tryz.prog 80 142:=⟨enters_of Tryz.func80 (by kernel_rfl) (c:=ab Tryz.f80.body) rfl,iw aGr aG1⟩
theorem aGk:dg Tryz.prog (rn 32 145 2 4 0 0) :=
  ⟨by kernel_rfl,by kernel_rfl,fun w=>by kernel_rfl,fun w=>by kernel_rfl,fun w=>by kernel_rfl,by kernel_rfl,fun w=>by kernel_rfl,fun w=>by kernel_rfl,fun w=>by kernel_rfl,by kernel_rfl,fun w=>by kernel_rfl,fun w=>by kernel_rfl,fun w=>by kernel_rfl,fR fD (by kernel_rfl)⟩
theorem aGb:Tryz.prog.funcs[81]?=some (gb (rn 32 145 2 4 0 0) Tryz.f81.name Tryz.f81.tmpNames):=by kernel_rfl
theorem Qn:Enters Tryz.prog 81∧gr Tryz.prog 81 145:=⟨enters_of Tryz.func81 (by kernel_rfl) (c:=ab Tryz.f81.body) rfl,iw aGk aGb⟩
theorem aGz:dg Tryz.prog (rn 34 129 2 4 0 0) :=
  ⟨by kernel_rfl,by kernel_rfl,fun w=>by kernel_rfl,fun w=>by kernel_rfl,fun w=>by kernel_rfl,by kernel_rfl,fun w=>by kernel_rfl,fun w=>by kernel_rfl,fun w=>by kernel_rfl,by kernel_rfl,fun w=>by kernel_rfl,fun w=>by kernel_rfl,fun w=>by kernel_rfl,fR fD (by kernel_rfl)⟩
theorem aHD:Tryz.prog.funcs[82]?=some (gb (rn 34 129 2 4 0 0) Tryz.f82.name Tryz.f82.tmpNames):=by kernel_rfl
theorem RF:Enters Tryz.prog 82∧gr Tryz.prog 82 129:=⟨enters_of Tryz.func82 (by kernel_rfl) (c:=ab Tryz.f82.body) rfl,iw aGz aHD⟩
theorem aG7:dg Tryz.prog (rn 35 149 2 4 0 0) :=
  ⟨by kernel_rfl,by kernel_rfl,fun w=>by kernel_rfl,fun w=>by kernel_rfl,fun w=>by kernel_rfl,by kernel_rfl,fun w=>by kernel_rfl,fun w=>by kernel_rfl,fun w=>by kernel_rfl,by kernel_rfl,fun w=>by kernel_rfl,fun w=>by kernel_rfl,fun w=>by kernel_rfl,fR fD (by kernel_rfl)⟩
theorem aGm:Tryz.prog.funcs[83]?=some (gb (rn 35 149 2 4 0 0) Tryz.f83.name Tryz.f83.tmpNames):=by kernel_rfl
theorem RN:Enters Tryz.prog 83∧gr Tryz.prog 83 149:=⟨enters_of Tryz.func83 (by kernel_rfl) (c:=ab Tryz.f83.body) rfl,iw aG7 aGm⟩
theorem aHB:dg Tryz.prog (rn 41 133 2 4 0 0) :=
  ⟨by kernel_rfl,by kernel_rfl,fun w=>by kernel_rfl,fun w=>by kernel_rfl,fun w=>by kernel_rfl,by kernel_rfl,fun w=>by kernel_rfl,fun w=>by kernel_rfl,fun w=>by kernel_rfl,by kernel_rfl,fun w=>by kernel_rfl,fun w=>by kernel_rfl,fun w=>by kernel_rfl,fR fD (by kernel_rfl)⟩
theorem aGv:Tryz.prog.funcs[91]?=some (gb (rn 41 133 2 4 0 0) Tryz.f91.name Tryz.f91.tmpNames):=by kernel_rfl
theorem R5:Enters Tryz.prog 91∧gr Tryz.prog 91 133:=⟨enters_of Tryz.func91 (by kernel_rfl) (c:=ab Tryz.f91.body) rfl,iw aHB aGv⟩
theorem aGh:dg Tryz.prog (rn 25 153 2 4 0 0) :=
  ⟨by kernel_rfl,by kernel_rfl,fun w=>by kernel_rfl,fun w=>by kernel_rfl,fun w=>by kernel_rfl,by kernel_rfl,fun w=>by kernel_rfl,fun w=>by kernel_rfl,fun w=>by kernel_rfl,by kernel_rfl,fun w=>by kernel_rfl,fun w=>by kernel_rfl,fun w=>by kernel_rfl,fR fD (by kernel_rfl)⟩
theorem aG9:Tryz.prog.funcs[92]?=some (gb (rn 25 153 2 4 0 0) Tryz.f92.name Tryz.f92.tmpNames):=by kernel_rfl
theorem yI:Enters Tryz.prog 92∧gr Tryz.prog 92 153:=⟨enters_of Tryz.func92 (by kernel_rfl) (c:=ab Tryz.f92.body) rfl,iw aGh aG9⟩
theorem aGY:dg Tryz.prog (rn 27 3 2 4 0 0) :=
  ⟨by kernel_rfl,by kernel_rfl,fun w=>by kernel_rfl,fun w=>by kernel_rfl,fun w=>by kernel_rfl,by kernel_rfl,fun w=>by kernel_rfl,fun w=>by kernel_rfl,fun w=>by kernel_rfl,by kernel_rfl,fun w=>by kernel_rfl,fun w=>by kernel_rfl,fun w=>by kernel_rfl,fR fD (by kernel_rfl)⟩
theorem aGi:Tryz.prog.funcs[93]?=some (gb (rn 27 3 2 4 0 0) Tryz.f93.name Tryz.f93.tmpNames):=by kernel_rfl
theorem yL:Enters Tryz.prog 93∧gr Tryz.prog 93 3:=⟨enters_of Tryz.func93 (by kernel_rfl) (c:=ab Tryz.f93.body) rfl,iw aGY aGi⟩
theorem aFz:dg Tryz.prog (rn 24 65 2 4 0 0) :=
  ⟨by kernel_rfl,by kernel_rfl,fun w=>by kernel_rfl,fun w=>by kernel_rfl,fun w=>by kernel_rfl,by kernel_rfl,fun w=>by kernel_rfl,fun w=>by kernel_rfl,fun w=>by kernel_rfl,by kernel_rfl,fun w=>by kernel_rfl,fun w=>by kernel_rfl,fun w=>by kernel_rfl,fR fD (by kernel_rfl)⟩
theorem aFQ:Tryz.prog.funcs[126]?=some (gb (rn 24 65 2 4 0 0) Tryz.f126.name Tryz.f126.tmpNames):=by kernel_rfl
theorem QF:Enters Tryz.prog 126∧gr Tryz.prog 126 65:=⟨enters_of Tryz.func126 (by kernel_rfl) (c:=ab Tryz.f126.body) rfl,iw aFz aFQ⟩
theorem aFR:dg Tryz.prog (rn 26 43 2 4 0 0) :=
  ⟨by kernel_rfl,by kernel_rfl,fun w=>by kernel_rfl,fun w=>by kernel_rfl,fun w=>by kernel_rfl,by kernel_rfl,fun w=>by kernel_rfl,fun w=>by kernel_rfl,fun w=>by kernel_rfl,by kernel_rfl,fun w=>by kernel_rfl,fun w=>by kernel_rfl,fun w=>by kernel_rfl,fR fD (by kernel_rfl)⟩
theorem aFe:Tryz.prog.funcs[127]?=some (gb (rn 26 43 2 4 0 0) Tryz.f127.name Tryz.f127.tmpNames):=by kernel_rfl
theorem QB:Enters Tryz.prog 127∧gr Tryz.prog 127 43:=⟨enters_of Tryz.func127 (by kernel_rfl) (c:=ab Tryz.f127.body) rfl,iw aFR aFe⟩
theorem aGQ:dg Tryz.prog (rn 26 43 3 4 180 181) :=
  ⟨by kernel_rfl,by kernel_rfl,fun w=>by kernel_rfl,fun w=>by kernel_rfl,fun w=>by kernel_rfl,by kernel_rfl,fun w=>by kernel_rfl,fun w=>by kernel_rfl,fun w=>by kernel_rfl,by kernel_rfl,fun w=>by kernel_rfl,fun w=>by kernel_rfl,fun w=>by kernel_rfl,fR fD (by kernel_rfl)⟩
theorem aEw:Tryz.prog.funcs[157]?=some (ia (rn 26 43 3 4 180 181) Tryz.f157.name Tryz.f157.tmpNames):=by kernel_rfl
theorem aF3:k9 Tryz.prog (rn 26 43 3 4 180 181):=fun args w=>run_callFunc_extern (fn:=Tryz.f180) Tryz.func180 (by kernel_rfl) (by kernel_rfl) (by kernel_rfl) (by kernel_rfl) args w
theorem aGc:Enters Tryz.prog 157∧j9 Tryz.prog 157 43:=⟨enters_of Tryz.func157 (by kernel_rfl) (c:=ab Tryz.f157.body) rfl,mN aGQ aF3 aEw⟩
theorem aF7:dg Tryz.prog (rn 27 3 3 4 199 200) :=
  ⟨by kernel_rfl,by kernel_rfl,fun w=>by kernel_rfl,fun w=>by kernel_rfl,fun w=>by kernel_rfl,by kernel_rfl,fun w=>by kernel_rfl,fun w=>by kernel_rfl,fun w=>by kernel_rfl,by kernel_rfl,fun w=>by kernel_rfl,fun w=>by kernel_rfl,fun w=>by kernel_rfl,fR fD (by kernel_rfl)⟩
theorem aFD:Tryz.prog.funcs[165]?=some (ia (rn 27 3 3 4 199 200) Tryz.f165.name Tryz.f165.tmpNames):=by kernel_rfl
theorem aFg:k9 Tryz.prog (rn 27 3 3 4 199 200):=fun args w=>run_callFunc_extern (fn:=Tryz.f199) Tryz.func199 (by kernel_rfl) (by kernel_rfl) (by kernel_rfl) (by kernel_rfl) args w
theorem Q1:Enters Tryz.prog 165∧j9 Tryz.prog 165 3:=⟨enters_of Tryz.func165 (by kernel_rfl) (c:=ab Tryz.f165.body) rfl,mN aF7 aFg aFD⟩
theorem aF8:dg Tryz.prog (rn 26 43 3 4 0 0) :=
  ⟨by kernel_rfl,by kernel_rfl,fun w=>by kernel_rfl,fun w=>by kernel_rfl,fun w=>by kernel_rfl,by kernel_rfl,fun w=>by kernel_rfl,fun w=>by kernel_rfl,fun w=>by kernel_rfl,by kernel_rfl,fun w=>by kernel_rfl,fun w=>by kernel_rfl,fun w=>by kernel_rfl,fR fD (by kernel_rfl)⟩
theorem aFW:Tryz.prog.funcs[166]?=some (tQ (rn 26 43 3 4 0 0) Tryz.f166.name Tryz.f166.tmpNames):=by kernel_rfl
theorem aGd:Enters Tryz.prog 166∧ym Tryz.prog 166 43:=⟨enters_of Tryz.func166 (by kernel_rfl) (c:=ab Tryz.f166.body) rfl,aHS aF8 (aGW fD (by kernel_rfl)) aFW⟩
theorem aFM:dg Tryz.prog (rn 31 142 3 4 237 238) :=
  ⟨by kernel_rfl,by kernel_rfl,fun w=>by kernel_rfl,fun w=>by kernel_rfl,fun w=>by kernel_rfl,by kernel_rfl,fun w=>by kernel_rfl,fun w=>by kernel_rfl,fun w=>by kernel_rfl,by kernel_rfl,fun w=>by kernel_rfl,fun w=>by kernel_rfl,fun w=>by kernel_rfl,fR fD (by kernel_rfl)⟩
theorem aF5:Tryz.prog.funcs[211]?=some (ia (rn 31 142 3 4 237 238) Tryz.f211.name Tryz.f211.tmpNames):=by kernel_rfl
theorem aFT:k9 Tryz.prog (rn 31 142 3 4 237 238):=fun args w=>run_callFunc_extern (fn:=Tryz.f237) Tryz.func237 (by kernel_rfl) (by kernel_rfl) (by kernel_rfl) (by kernel_rfl) args w
theorem aHL:Enters Tryz.prog 211∧j9 Tryz.prog 211 142:=⟨enters_of Tryz.func211 (by kernel_rfl) (c:=ab Tryz.f211.body) rfl,mN aFM aFT aF5⟩
theorem aFK:dg Tryz.prog (rn 32 145 3 4 243 244) :=
  ⟨by kernel_rfl,by kernel_rfl,fun w=>by kernel_rfl,fun w=>by kernel_rfl,fun w=>by kernel_rfl,by kernel_rfl,fun w=>by kernel_rfl,fun w=>by kernel_rfl,fun w=>by kernel_rfl,by kernel_rfl,fun w=>by kernel_rfl,fun w=>by kernel_rfl,fun w=>by kernel_rfl,fR fD (by kernel_rfl)⟩
theorem aFS:Tryz.prog.funcs[218]?=some (ia (rn 32 145 3 4 243 244) Tryz.f218.name Tryz.f218.tmpNames):=by kernel_rfl
theorem aGM:k9 Tryz.prog (rn 32 145 3 4 243 244):=fun args w=>run_callFunc_extern (fn:=Tryz.f243) Tryz.func243 (by kernel_rfl) (by kernel_rfl) (by kernel_rfl) (by kernel_rfl) args w
theorem aG5:Enters Tryz.prog 218∧j9 Tryz.prog 218 145:=⟨enters_of Tryz.func218 (by kernel_rfl) (c:=ab Tryz.f218.body) rfl,mN aFK aGM aFS⟩
theorem aFG:dg Tryz.prog (rn 33 59 3 4 245 246) :=
  ⟨by kernel_rfl,by kernel_rfl,fun w=>by kernel_rfl,fun w=>by kernel_rfl,fun w=>by kernel_rfl,by kernel_rfl,fun w=>by kernel_rfl,fun w=>by kernel_rfl,fun w=>by kernel_rfl,by kernel_rfl,fun w=>by kernel_rfl,fun w=>by kernel_rfl,fun w=>by kernel_rfl,fR fD (by kernel_rfl)⟩
theorem aGL:Tryz.prog.funcs[219]?=some (ia (rn 33 59 3 4 245 246) Tryz.f219.name Tryz.f219.tmpNames):=by kernel_rfl
theorem aGK:k9 Tryz.prog (rn 33 59 3 4 245 246):=fun args w=>run_callFunc_extern (fn:=Tryz.f245) Tryz.func245 (by kernel_rfl) (by kernel_rfl) (by kernel_rfl) (by kernel_rfl) args w
theorem aGa:Enters Tryz.prog 219∧j9 Tryz.prog 219 59:=⟨enters_of Tryz.func219 (by kernel_rfl) (c:=ab Tryz.f219.body) rfl,mN aFG aGK aGL⟩
theorem aFr:dg Tryz.prog (rn 34 129 3 4 250 251) :=
  ⟨by kernel_rfl,by kernel_rfl,fun w=>by kernel_rfl,fun w=>by kernel_rfl,fun w=>by kernel_rfl,by kernel_rfl,fun w=>by kernel_rfl,fun w=>by kernel_rfl,fun w=>by kernel_rfl,by kernel_rfl,fun w=>by kernel_rfl,fun w=>by kernel_rfl,fun w=>by kernel_rfl,fR fD (by kernel_rfl)⟩
theorem aEq:Tryz.prog.funcs[223]?=some (ia (rn 34 129 3 4 250 251) Tryz.f223.name Tryz.f223.tmpNames):=by kernel_rfl
theorem aFv:k9 Tryz.prog (rn 34 129 3 4 250 251):=fun args w=>run_callFunc_extern (fn:=Tryz.f250) Tryz.func250 (by kernel_rfl) (by kernel_rfl) (by kernel_rfl) (by kernel_rfl) args w
theorem aGw:Enters Tryz.prog 223∧j9 Tryz.prog 223 129:=⟨enters_of Tryz.func223 (by kernel_rfl) (c:=ab Tryz.f223.body) rfl,mN aFr aFv aEq⟩
theorem aFs:dg Tryz.prog (rn 35 149 3 4 254 255) :=
  ⟨by kernel_rfl,by kernel_rfl,fun w=>by kernel_rfl,fun w=>by kernel_rfl,fun w=>by kernel_rfl,by kernel_rfl,fun w=>by kernel_rfl,fun w=>by kernel_rfl,fun w=>by kernel_rfl,by kernel_rfl,fun w=>by kernel_rfl,fun w=>by kernel_rfl,fun w=>by kernel_rfl,fR fD (by kernel_rfl)⟩
theorem aGH:Tryz.prog.funcs[225]?=some (ia (rn 35 149 3 4 254 255) Tryz.f225.name Tryz.f225.tmpNames):=by kernel_rfl
theorem aFq:k9 Tryz.prog (rn 35 149 3 4 254 255):=fun args w=>run_callFunc_extern (fn:=Tryz.f254) Tryz.func254 (by kernel_rfl) (by kernel_rfl) (by kernel_rfl) (by kernel_rfl) args w
theorem aG4:Enters Tryz.prog 225∧j9 Tryz.prog 225 149:=⟨enters_of Tryz.func225 (by kernel_rfl) (c:=ab Tryz.f225.body) rfl,mN aFs aFq aGH⟩
end Go.Proofs.YtcjpeijiaojeiaaGreat
