/- The law GroupNet: what calls do (19). -/
import Derived.Test.YteglbeihabjdiaaGreatNa
namespace Go.Proofs.YteglbeihabjdiaaGreat
open Go Go.Cx Go.RowKit

set_option maxRecDepth 1000000 in
theorem c2_del0_8 : allR 28 1 (fun L => allN L (fun k => ckKK 2 11 [nI k] L k 0 (.bool true) (nxC 2 0) (lvD L k (nxR 2 0)))) = true := by kernel_rfl
set_option maxRecDepth 1000000 in
theorem c2_del0_9 : allR 29 1 (fun L => allN L (fun k => ckKK 2 11 [nI k] L k 0 (.bool true) (nxC 2 0) (lvD L k (nxR 2 0)))) = true := by kernel_rfl
set_option maxRecDepth 1000000 in
theorem c2_del0_10 : allR 30 1 (fun L => allN L (fun k => ckKK 2 11 [nI k] L k 0 (.bool true) (nxC 2 0) (lvD L k (nxR 2 0)))) = true := by kernel_rfl
set_option maxRecDepth 1000000 in
theorem c2_del0_11 : allR 31 1 (fun L => allN L (fun k => ckKK 2 11 [nI k] L k 0 (.bool true) (nxC 2 0) (lvD L k (nxR 2 0)))) = true := by kernel_rfl
set_option maxRecDepth 1000000 in
theorem c2_del0_12 : allR 32 1 (fun L => allN L (fun k => ckKK 2 11 [nI k] L k 0 (.bool true) (nxC 2 0) (lvD L k (nxR 2 0)))) = true := by kernel_rfl
set_option maxRecDepth 1000000 in
theorem c2_del0_13 : allR 33 1 (fun L => allN L (fun k => ckKK 2 11 [nI k] L k 0 (.bool true) (nxC 2 0) (lvD L k (nxR 2 0)))) = true := by kernel_rfl
set_option maxRecDepth 1000000 in
theorem c2_del1_0 : allR 0 14 (fun L => allN L (fun k => ckKK 2 11 [nI k] L k 1 (.bool true) (nxC 2 1) (lvD L k (nxR 2 1)))) = true := by kernel_rfl
set_option maxRecDepth 1000000 in
theorem c2_del1_1 : allR 14 4 (fun L => allN L (fun k => ckKK 2 11 [nI k] L k 1 (.bool true) (nxC 2 1) (lvD L k (nxR 2 1)))) = true := by kernel_rfl
set_option maxRecDepth 1000000 in
theorem c2_del1_2 : allR 18 3 (fun L => allN L (fun k => ckKK 2 11 [nI k] L k 1 (.bool true) (nxC 2 1) (lvD L k (nxR 2 1)))) = true := by kernel_rfl

end Go.Proofs.YteglbeihabjdiaaGreat
