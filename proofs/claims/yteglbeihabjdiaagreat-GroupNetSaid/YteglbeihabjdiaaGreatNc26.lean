/- The law GroupNet: what calls do (26). -/
import Derived.Test.YteglbeihabjdiaaGreatNa
namespace Go.Proofs.YteglbeihabjdiaaGreat
open Go Go.Cx Go.RowKit

set_option maxRecDepth 1000000 in
theorem c3_twice_5 : allR 29 2 (fun L => allN L (fun k => ckOp 3 10 [nI k] L (.bool true) 3 ⟨L, 1, k, [], [], 1, 0, Nat.succ L⟩)) = true := by kernel_rfl
set_option maxRecDepth 1000000 in
theorem c3_twice_6 : allR 31 2 (fun L => allN L (fun k => ckOp 3 10 [nI k] L (.bool true) 3 ⟨L, 1, k, [], [], 1, 0, Nat.succ L⟩)) = true := by kernel_rfl
set_option maxRecDepth 1000000 in
theorem c3_twice_7 : allR 33 1 (fun L => allN L (fun k => ckOp 3 10 [nI k] L (.bool true) 3 ⟨L, 1, k, [], [], 1, 0, Nat.succ L⟩)) = true := by kernel_rfl
set_option maxRecDepth 1000000 in
theorem c3_del0_0 : allR 0 14 (fun L => allN L (fun k => ckKK 3 11 [nI k] L k 0 (.bool true) (nxC 3 0) (lvD L k (nxR 3 0)))) = true := by kernel_rfl
set_option maxRecDepth 1000000 in
theorem c3_del0_1 : allR 14 4 (fun L => allN L (fun k => ckKK 3 11 [nI k] L k 0 (.bool true) (nxC 3 0) (lvD L k (nxR 3 0)))) = true := by kernel_rfl
set_option maxRecDepth 1000000 in
theorem c3_del0_2 : allR 18 3 (fun L => allN L (fun k => ckKK 3 11 [nI k] L k 0 (.bool true) (nxC 3 0) (lvD L k (nxR 3 0)))) = true := by kernel_rfl
set_option maxRecDepth 1000000 in
theorem c3_del0_3 : allR 21 2 (fun L => allN L (fun k => ckKK 3 11 [nI k] L k 0 (.bool true) (nxC 3 0) (lvD L k (nxR 3 0)))) = true := by kernel_rfl
set_option maxRecDepth 1000000 in
theorem c3_del0_4 : allR 23 2 (fun L => allN L (fun k => ckKK 3 11 [nI k] L k 0 (.bool true) (nxC 3 0) (lvD L k (nxR 3 0)))) = true := by kernel_rfl
set_option maxRecDepth 1000000 in
theorem c3_del0_5 : allR 25 1 (fun L => allN L (fun k => ckKK 3 11 [nI k] L k 0 (.bool true) (nxC 3 0) (lvD L k (nxR 3 0)))) = true := by kernel_rfl

end Go.Proofs.YteglbeihabjdiaaGreat
