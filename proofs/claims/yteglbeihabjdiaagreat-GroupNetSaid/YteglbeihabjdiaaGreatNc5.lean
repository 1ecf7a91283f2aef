/- The law GroupNet: what calls do (5). -/
import Derived.Test.YteglbeihabjdiaaGreatNa
namespace Go.Proofs.YteglbeihabjdiaaGreat
open Go Go.Cx Go.RowKit

set_option maxRecDepth 1000000 in
theorem c0_del2_2 : allR 18 3 (fun L => allN L (fun k => ckKK 0 11 [nI k] L k 2 (.bool true) (nxC 0 2) (lvD L k (nxR 0 2)))) = true := by kernel_rfl
set_option maxRecDepth 1000000 in
theorem c0_del2_3 : allR 21 2 (fun L => allN L (fun k => ckKK 0 11 [nI k] L k 2 (.bool true) (nxC 0 2) (lvD L k (nxR 0 2)))) = true := by kernel_rfl
set_option maxRecDepth 1000000 in
theorem c0_del2_4 : allR 23 2 (fun L => allN L (fun k => ckKK 0 11 [nI k] L k 2 (.bool true) (nxC 0 2) (lvD L k (nxR 0 2)))) = true := by kernel_rfl
set_option maxRecDepth 1000000 in
theorem c0_del2_5 : allR 25 1 (fun L => allN L (fun k => ckKK 0 11 [nI k] L k 2 (.bool true) (nxC 0 2) (lvD L k (nxR 0 2)))) = true := by kernel_rfl
set_option maxRecDepth 1000000 in
theorem c0_del2_6 : allR 26 1 (fun L => allN L (fun k => ckKK 0 11 [nI k] L k 2 (.bool true) (nxC 0 2) (lvD L k (nxR 0 2)))) = true := by kernel_rfl
set_option maxRecDepth 1000000 in
theorem c0_del2_7 : allR 27 1 (fun L => allN L (fun k => ckKK 0 11 [nI k] L k 2 (.bool true) (nxC 0 2) (lvD L k (nxR 0 2)))) = true := by kernel_rfl
set_option maxRecDepth 1000000 in
theorem c0_del2_8 : allR 28 1 (fun L => allN L (fun k => ckKK 0 11 [nI k] L k 2 (.bool true) (nxC 0 2) (lvD L k (nxR 0 2)))) = true := by kernel_rfl
set_option maxRecDepth 1000000 in
theorem c0_del2_9 : allR 29 1 (fun L => allN L (fun k => ckKK 0 11 [nI k] L k 2 (.bool true) (nxC 0 2) (lvD L k (nxR 0 2)))) = true := by kernel_rfl
set_option maxRecDepth 1000000 in
theorem c0_del2_10 : allR 30 1 (fun L => allN L (fun k => ckKK 0 11 [nI k] L k 2 (.bool true) (nxC 0 2) (lvD L k (nxR 0 2)))) = true := by kernel_rfl
set_option maxRecDepth 1000000 in
theorem c0_del2_11 : allR 31 1 (fun L => allN L (fun k => ckKK 0 11 [nI k] L k 2 (.bool true) (nxC 0 2) (lvD L k (nxR 0 2)))) = true := by kernel_rfl

end Go.Proofs.YteglbeihabjdiaaGreat
