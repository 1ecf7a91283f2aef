/- The law GroupNet: what calls do (1). -/
import Derived.Test.YteglbeihabjdiaaGreatNa
namespace Go.Proofs.YteglbeihabjdiaaGreat
open Go Go.Cx Go.RowKit

set_option maxRecDepth 1000000 in
theorem c0_twice_0 : allR 0 16 (fun L => allN L (fun k => ckOp 0 10 [nI k] L (.bool true) 0 ⟨L, 1, k, [], [], 1, 0, Nat.succ L⟩)) = true := by kernel_rfl
set_option maxRecDepth 1000000 in
theorem c0_twice_1 : allR 16 5 (fun L => allN L (fun k => ckOp 0 10 [nI k] L (.bool true) 0 ⟨L, 1, k, [], [], 1, 0, Nat.succ L⟩)) = true := by kernel_rfl
set_option maxRecDepth 1000000 in
theorem c0_twice_2 : allR 21 3 (fun L => allN L (fun k => ckOp 0 10 [nI k] L (.bool true) 0 ⟨L, 1, k, [], [], 1, 0, Nat.succ L⟩)) = true := by kernel_rfl
set_option maxRecDepth 1000000 in
theorem c0_twice_3 : allR 24 3 (fun L => allN L (fun k => ckOp 0 10 [nI k] L (.bool true) 0 ⟨L, 1, k, [], [], 1, 0, Nat.succ L⟩)) = true := by kernel_rfl
set_option maxRecDepth 1000000 in
theorem c0_twice_4 : allR 27 2 (fun L => allN L (fun k => ckOp 0 10 [nI k] L (.bool true) 0 ⟨L, 1, k, [], [], 1, 0, Nat.succ L⟩)) = true := by kernel_rfl
set_option maxRecDepth 1000000 in
theorem c0_twice_5 : allR 29 2 (fun L => allN L (fun k => ckOp 0 10 [nI k] L (.bool true) 0 ⟨L, 1, k, [], [], 1, 0, Nat.succ L⟩)) = true := by kernel_rfl
set_option maxRecDepth 1000000 in
theorem c0_twice_6 : allR 31 2 (fun L => allN L (fun k => ckOp 0 10 [nI k] L (.bool true) 0 ⟨L, 1, k, [], [], 1, 0, Nat.succ L⟩)) = true := by kernel_rfl
set_option maxRecDepth 1000000 in
theorem c0_twice_7 : allR 33 1 (fun L => allN L (fun k => ckOp 0 10 [nI k] L (.bool true) 0 ⟨L, 1, k, [], [], 1, 0, Nat.succ L⟩)) = true := by kernel_rfl
set_option maxRecDepth 1000000 in
theorem c0_del0_0 : allR 0 14 (fun L => allN L (fun k => ckKK 0 11 [nI k] L k 0 (.bool true) (nxC 0 0) (lvD L k (nxR 0 0)))) = true := by kernel_rfl

end Go.Proofs.YteglbeihabjdiaaGreat
