/- The law GroupNet: what calls do (21). -/
import Derived.Test.YteglbeihabjdiaaGreatNa
namespace Go.Proofs.YteglbeihabjdiaaGreat
open Go Go.Cx Go.RowKit

set_option maxRecDepth 1000000 in
theorem c2_del1_13 : allR 33 1 (fun L => allN L (fun k => ckKK 2 11 [nI k] L k 1 (.bool true) (nxC 2 1) (lvD L k (nxR 2 1)))) = true := by kernel_rfl
set_option maxRecDepth 1000000 in
theorem c2_del2_0 : allR 0 14 (fun L => allN L (fun k => ckKK 2 11 [nI k] L k 2 (.bool true) (nxC 2 2) (lvD L k (nxR 2 2)))) = true := by kernel_rfl
set_option maxRecDepth 1000000 in
theorem c2_del2_1 : allR 14 4 (fun L => allN L (fun k => ckKK 2 11 [nI k] L k 2 (.bool true) (nxC 2 2) (lvD L k (nxR 2 2)))) = true := by kernel_rfl
set_option maxRecDepth 1000000 in
theorem c2_del2_2 : allR 18 3 (fun L => allN L (fun k => ckKK 2 11 [nI k] L k 2 (.bool true) (nxC 2 2) (lvD L k (nxR 2 2)))) = true := by kernel_rfl
set_option maxRecDepth 1000000 in
theorem c2_del2_3 : allR 21 2 (fun L => allN L (fun k => ckKK 2 11 [nI k] L k 2 (.bool true) (nxC 2 2) (lvD L k (nxR 2 2)))) = true := by kernel_rfl
set_option maxRecDepth 1000000 in
theorem c2_del2_4 : allR 23 2 (fun L => allN L (fun k => ckKK 2 11 [nI k] L k 2 (.bool true) (nxC 2 2) (lvD L k (nxR 2 2)))) = true := by kernel_rfl
set_option maxRecDepth 1000000 in
theorem c2_del2_5 : allR 25 1 (fun L => allN L (fun k => ckKK 2 11 [nI k] L k 2 (.bool true) (nxC 2 2) (lvD L k (nxR 2 2)))) = true := by kernel_rfl
set_option maxRecDepth 1000000 in
theorem c2_del2_6 : allR 26 1 (fun L => allN L (fun k => ckKK 2 11 [nI k] L k 2 (.bool true) (nxC 2 2) (lvD L k (nxR 2 2)))) = true := by kernel_rfl
set_option maxRecDepth 1000000 in
theorem c2_del2_7 : allR 27 1 (fun L => allN L (fun k => ckKK 2 11 [nI k] L k 2 (.bool true) (nxC 2 2) (lvD L k (nxR 2 2)))) = true := by kernel_rfl
set_option maxRecDepth 1000000 in
theorem c2_del2_8 : allR 28 1 (fun L => allN L (fun k => ckKK 2 11 [nI k] L k 2 (.bool true) (nxC 2 2) (lvD L k (nxR 2 2)))) = true := by kernel_rfl

end Go.Proofs.YteglbeihabjdiaaGreat
