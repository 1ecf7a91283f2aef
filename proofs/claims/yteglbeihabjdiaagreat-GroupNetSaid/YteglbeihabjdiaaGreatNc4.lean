/- The law GroupNet: what calls do (4). -/
import Derived.Test.YteglbeihabjdiaaGreatNa
namespace Go.Proofs.YteglbeihabjdiaaGreat
open Go Go.Cx Go.RowKit

set_option maxRecDepth 1000000 in
theorem c0_del1_6 : allR 26 1 (fun L => allN L (fun k => ckKK 0 11 [nI k] L k 1 (.bool true) (nxC 0 1) (lvD L k (nxR 0 1)))) = true := by kernel_rfl
set_option maxRecDepth 1000000 in
theorem c0_del1_7 : allR 27 1 (fun L => allN L (fun k => ckKK 0 11 [nI k] L k 1 (.bool true) (nxC 0 1) (lvD L k (nxR 0 1)))) = true := by kernel_rfl
set_option maxRecDepth 1000000 in
theorem c0_del1_8 : allR 28 1 (fun L => allN L (fun k => ckKK 0 11 [nI k] L k 1 (.bool true) (nxC 0 1) (lvD L k (nxR 0 1)))) = true := by kernel_rfl
set_option maxRecDepth 1000000 in
theorem c0_del1_9 : allR 29 1 (fun L => allN L (fun k => ckKK 0 11 [nI k] L k 1 (.bool true) (nxC 0 1) (lvD L k (nxR 0 1)))) = true := by kernel_rfl
set_option maxRecDepth 1000000 in
theorem c0_del1_10 : allR 30 1 (fun L => allN L (fun k => ckKK 0 11 [nI k] L k 1 (.bool true) (nxC 0 1) (lvD L k (nxR 0 1)))) = true := by kernel_rfl
set_option maxRecDepth 1000000 in
theorem c0_del1_11 : allR 31 1 (fun L => allN L (fun k => ckKK 0 11 [nI k] L k 1 (.bool true) (nxC 0 1) (lvD L k (nxR 0 1)))) = true := by kernel_rfl
set_option maxRecDepth 1000000 in
theorem c0_del1_12 : allR 32 1 (fun L => allN L (fun k => ckKK 0 11 [nI k] L k 1 (.bool true) (nxC 0 1) (lvD L k (nxR 0 1)))) = true := by kernel_rfl
set_option maxRecDepth 1000000 in
theorem c0_del1_13 : allR 33 1 (fun L => allN L (fun k => ckKK 0 11 [nI k] L k 1 (.bool true) (nxC 0 1) (lvD L k (nxR 0 1)))) = true := by kernel_rfl
set_option maxRecDepth 1000000 in
theorem c0_del2_0 : allR 0 14 (fun L => allN L (fun k => ckKK 0 11 [nI k] L k 2 (.bool true) (nxC 0 2) (lvD L k (nxR 0 2)))) = true := by kernel_rfl
set_option maxRecDepth 1000000 in
theorem c0_del2_1 : allR 14 4 (fun L => allN L (fun k => ckKK 0 11 [nI k] L k 2 (.bool true) (nxC 0 2) (lvD L k (nxR 0 2)))) = true := by kernel_rfl

end Go.Proofs.YteglbeihabjdiaaGreat
