/- strings.IndexByte: where a byte stands in a string. -/
import Derived.Test.YtciofnpmlgbdaaaGreatDoorProg
import Derived.Shelf.Strings.Search1
import Derived.Test.YtciofnpmlgbdaaaGreatDoorEd
namespace Go.Proofs.YtciofnpmlgbdaaaGreatDoor
open Go Go.Ev Go.RowKit
set_option maxHeartbeats 1000000 in
set_option maxRecDepth 100000 in
theorem slite_calls (s:ByteArray)(c:Int)(w:World):Calls Tryz.prog 76 #[.string s,.int .u8 c] w fun e w'=>e=.returned (.int .i64 (Lib.indexByte s.data.toList c.toNat.toUInt8))∧w'=w:=by
  go_enter Tryz.func76,Tryz.ntmps76
  go_wp2
  rw [run_callFunc_extern Tryz.func148 (by kernel_rfl) (by kernel_rfl) (by kernel_rfl) (e:=Extern.BytealgIndexByte.indexByte) (by kernel_rfl),Lib.run_indexByteString]
  simp only [Result.andThen]
  rw [Oper.upon_value]
  go_wp2
  go_ret
  exact ⟨rfl,rfl⟩
theorem enters76 (args:Array Value)(w:World):(callFunc 76 args).run Tryz.prog w=.ok (.enter 76 args) w:=enters_of Tryz.func76 (by kernel_rfl) (c:=bod Tryz.f76.body) rfl args w
theorem entersIB:Enters Tryz.prog 33:=enters_of Tryz.func33 (by kernel_rfl) (c:=bod Tryz.f33.body) rfl
set_option maxHeartbeats 1000000 in
set_option maxRecDepth 100000 in
theorem index_calls (s:ByteArray)(c:Int)(w:World):Calls Tryz.prog 33 #[.string s,.int .u8 c] w fun e w'=>e=.returned (.int .i64 (Lib.indexByte s.data.toList c.toNat.toUInt8))∧w'=w:=by
  have e76:=enters76
  go_enter Tryz.func33,Tryz.ntmps33
  go_wp2_with (go_at_fn 76;refine (slite_calls _ _ _).mono ?_;rintro e w' ⟨rfl,rfl⟩)
  go_ret
  exact ⟨rfl,rfl⟩
end Go.Proofs.YtciofnpmlgbdaaaGreatDoor
