/- The law GroupNet: what calls do (14). -/
import Derived.Test.YteglbeihabjdiaaGreatNa
namespace Go.Proofs.YteglbeihabjdiaaGreat
open Go Go.Cx Go.RowKit

set_option maxRecDepth 1000000 in
theorem c1_del2_10 : allR 30 1 (fun L => allN L (fun k => ckKK 1 11 [nI k] L k 2 (.bool true) (nxC 1 2) (lvD L k (nxR 1 2)))) = true := by kernel_rfl
set_option maxRecDepth 1000000 in
theorem c1_del2_11 : allR 31 1 (fun L => allN L (fun k => ckKK 1 11 [nI k] L k 2 (.bool true) (nxC 1 2) (lvD L k (nxR 1 2)))) = true := by kernel_rfl
set_option maxRecDepth 1000000 in
theorem c1_del2_12 : allR 32 1 (fun L => allN L (fun k => ckKK 1 11 [nI k] L k 2 (.bool true) (nxC 1 2) (lvD L k (nxR 1 2)))) = true := by kernel_rfl
set_option maxRecDepth 1000000 in
theorem c1_del2_13 : allR 33 1 (fun L => allN L (fun k => ckKK 1 11 [nI k] L k 2 (.bool true) (nxC 1 2) (lvD L k (nxR 1 2)))) = true := by kernel_rfl
set_option maxRecDepth 1000000 in
theorem c1_del3_0 : allR 0 14 (fun L => allN L (fun k => ckKK 1 11 [nI k] L k 3 (.bool true) (nxC 1 3) (lvD L k (nxR 1 3)))) = true := by kernel_rfl
set_option maxRecDepth 1000000 in
theorem c1_del3_1 : allR 14 4 (fun L => allN L (fun k => ckKK 1 11 [nI k] L k 3 (.bool true) (nxC 1 3) (lvD L k (nxR 1 3)))) = true := by kernel_rfl
set_option maxRecDepth 1000000 in
theorem c1_del3_2 : allR 18 3 (fun L => allN L (fun k => ckKK 1 11 [nI k] L k 3 (.bool true) (nxC 1 3) (lvD L k (nxR 1 3)))) = true := by kernel_rfl
set_option maxRecDepth 1000000 in
theorem c1_del3_3 : allR 21 2 (fun L => allN L (fun k => ckKK 1 11 [nI k] L k 3 (.bool true) (nxC 1 3) (lvD L k (nxR 1 3)))) = true := by kernel_rfl
set_option maxRecDepth 1000000 in
theorem c1_del3_4 : allR 23 2 (fun L => allN L (fun k => ckKK 1 11 [nI k] L k 3 (.bool true) (nxC 1 3) (lvD L k (nxR 1 3)))) = true := by kernel_rfl

end Go.Proofs.YteglbeihabjdiaaGreat
