/- The law GroupNone: what is known of calls, the looks. -/
import Derived.Test.YtogbdkfbjphkiaaGreatRows
import Derived.Test.YtogbdkfbjphkiaaGreatXc
namespace Go.Proofs.YtogbdkfbjphkiaaGreat
open Go Go.Cx Go.RowKit

noncomputable def sy (k : Nat) : Value := .complex .f32 k 2
/-- the symbol k? -/
noncomputable def isS (k : Nat) (v : Value) : Bool := match v with | .complex .f32 i 2 => Nat.beq i k | _ => false
noncomputable def isSs (k : Nat) (l : List Value) : Bool :=
  List.rec (motive := fun _ => Nat → Bool) (fun k => Nat.beq k 8) (fun v _ ih k => Bool.rec (motive := fun _ => Bool) false (ih (Nat.succ k)) (isS k v)) l k
/-- what is known of calls: of the example; of the look at the raw command -/
noncomputable def orc (b : Bool) : FuncId → List Value → Option Value := fun f args =>
  Bool.rec (motive := fun _ => Option Value) (Bool.rec (motive := fun _ => Option Value) none (match args with | [] => some (.bool true) | _ => none) (Nat.beq f 6))
    (match args with
      | [.agg ⟨l⟩] => Bool.rec (motive := fun _ => Option Value) none (some (.bool b)) (isSs 1 l)
      | _ => none) (Nat.beq f 21)
noncomputable def args5 (i : Int) : List Value := [.int .i64 i, .agg ⟨[sy 1, sy 2, sy 3, sy 4, sy 5, sy 6, sy 7]⟩]

set_option maxRecDepth 1000000 in
theorem look_f (i : Int) : isB true (evO Tryz.prog 100000 (orc false) 100 5 (args5 i) w02) = true := by kernel_rfl

end Go.Proofs.YtogbdkfbjphkiaaGreat
