/- A digit's place among the sixteen. -/
import Derived.Test.YtciofnpmlgbdaaaGreatDoorSs
import Derived.Lib.Bytealg
namespace Go.Shell
open Go Go.Ev
theorem index_hex_nat:∀ n:Fin 256,Lib.indexByte [48,49,50,51,52,53,54,55,56,57,97,98,99,100,101,102] n.val.toUInt8=hexv n.val:=by decide +kernel
theorem index_hex {c:Int}(h0:0≤c)(h1:c < 256):Lib.indexByte [48,49,50,51,52,53,54,55,56,57,97,98,99,100,101,102] c.toNat.toUInt8=hexv c:=by
  have:=index_hex_nat ⟨c.toNat,by omega⟩
  simp only at this
  rw [this,Int.toNat_of_nonneg h0]
end Go.Shell
