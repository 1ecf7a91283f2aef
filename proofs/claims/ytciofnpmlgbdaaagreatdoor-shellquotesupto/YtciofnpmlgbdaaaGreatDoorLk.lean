/- The chapter's example: known() returns true. -/
import Derived.Test.YtciofnpmlgbdaaaGreatDoorXc
import Derived.Test.YtciofnpmlgbdaaaGreatDoorJn
namespace Go.Proofs.YtciofnpmlgbdaaaGreatDoor
open Go Go.Cx Go.RowKit
theorem mixed:Tryz.prog.follows .mixedOrders=true:=by kernel_rfl
theorem noNum:NoNum Tryz.prog:=by
  intro f fn hf hb
  have : (Tryz.prog.funcs.toList.all fun fn => !(fn.body.isSome && fn.name == "runtime.NumGoroutine")) = true := by kernel_rfl
  rw [List.all_eq_true] at this
  have:=this fn (Array.mem_toList_iff.2 (Array.mem_of_getElem? hf))
  simpa [hb] using this
set_option maxRecDepth 1000000 in
/-- the chapter's example -/
theorem known_calls (w:World):Calls Tryz.prog 5 #[] w fun e w'=>e=.returned (.bool true)∧Below w.heap.size w w':=by
  have h:isB true (evH Tryz.prog 100000 (orcJoin 211) 100 5 [] w02)=true:=by kernel_rfl
  exact call_of (gB:=symG []) (evH_ok noNum mixed (orcJoin_ok join_calls) 100000 100 5 [] [] (symG []) w.heap.size w02 w ⟨GLe.refl _,Below.refl _ _,Nat.le_refl _,rel_start (symG_one []) w⟩ .nil) h
end Go.Proofs.YtciofnpmlgbdaaaGreatDoor
