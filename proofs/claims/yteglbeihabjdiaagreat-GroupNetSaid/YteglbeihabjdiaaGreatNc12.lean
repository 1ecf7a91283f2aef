/- The law GroupNet: what calls do (12). -/
import Derived.Test.YteglbeihabjdiaaGreatNa
namespace Go.Proofs.YteglbeihabjdiaaGreat
open Go Go.Cx Go.RowKit

set_option maxRecDepth 1000000 in
theorem c1_del1_4 : allR 23 2 (fun L => allN L (fun k => ckKK 1 11 [nI k] L k 1 (.bool true) (nxC 1 1) (lvD L k (nxR 1 1)))) = true := by kernel_rfl
set_option maxRecDepth 1000000 in
theorem c1_del1_5 : allR 25 1 (fun L => allN L (fun k => ckKK 1 11 [nI k] L k 1 (.bool true) (nxC 1 1) (lvD L k (nxR 1 1)))) = true := by kernel_rfl
set_option maxRecDepth 1000000 in
theorem c1_del1_6 : allR 26 1 (fun L => allN L (fun k => ckKK 1 11 [nI k] L k 1 (.bool true) (nxC 1 1) (lvD L k (nxR 1 1)))) = true := by kernel_rfl
set_option maxRecDepth 1000000 in
theorem c1_del1_7 : allR 27 1 (fun L => allN L (fun k => ckKK 1 11 [nI k] L k 1 (.bool true) (nxC 1 1) (lvD L k (nxR 1 1)))) = true := by kernel_rfl
set_option maxRecDepth 1000000 in
theorem c1_del1_8 : allR 28 1 (fun L => allN L (fun k => ckKK 1 11 [nI k] L k 1 (.bool true) (nxC 1 1) (lvD L k (nxR 1 1)))) = true := by kernel_rfl
set_option maxRecDepth 1000000 in
theorem c1_del1_9 : allR 29 1 (fun L => allN L (fun k => ckKK 1 11 [nI k] L k 1 (.bool true) (nxC 1 1) (lvD L k (nxR 1 1)))) = true := by kernel_rfl
set_option maxRecDepth 1000000 in
theorem c1_del1_10 : allR 30 1 (fun L => allN L (fun k => ckKK 1 11 [nI k] L k 1 (.bool true) (nxC 1 1) (lvD L k (nxR 1 1)))) = true := by kernel_rfl
set_option maxRecDepth 1000000 in
theorem c1_del1_11 : allR 31 1 (fun L => allN L (fun k => ckKK 1 11 [nI k] L k 1 (.bool true) (nxC 1 1) (lvD L k (nxR 1 1)))) = true := by kernel_rfl
set_option maxRecDepth 1000000 in
theorem c1_del1_12 : allR 32 1 (fun L => allN L (fun k => ckKK 1 11 [nI k] L k 1 (.bool true) (nxC 1 1) (lvD L k (nxR 1 1)))) = true := by kernel_rfl
set_option maxRecDepth 1000000 in
theorem c1_del1_13 : allR 33 1 (fun L => allN L (fun k => ckKK 1 11 [nI k] L k 1 (.bool true) (nxC 1 1) (lvD L k (nxR 1 1)))) = true := by kernel_rfl

end Go.Proofs.YteglbeihabjdiaaGreat
