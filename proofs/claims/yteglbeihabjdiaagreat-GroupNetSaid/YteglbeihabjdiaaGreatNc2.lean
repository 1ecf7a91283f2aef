/- The law GroupNet: what calls do (2). -/
import Derived.Test.YteglbeihabjdiaaGreatNa
namespace Go.Proofs.YteglbeihabjdiaaGreat
open Go Go.Cx Go.RowKit

set_option maxRecDepth 1000000 in
theorem c0_del0_1 : allR 14 4 (fun L => allN L (fun k => ckKK 0 11 [nI k] L k 0 (.bool true) (nxC 0 0) (lvD L k (nxR 0 0)))) = true := by kernel_rfl
set_option maxRecDepth 1000000 in
theorem c0_del0_2 : allR 18 3 (fun L => allN L (fun k => ckKK 0 11 [nI k] L k 0 (.bool true) (nxC 0 0) (lvD L k (nxR 0 0)))) = true := by kernel_rfl
set_option maxRecDepth 1000000 in
theorem c0_del0_3 : allR 21 2 (fun L => allN L (fun k => ckKK 0 11 [nI k] L k 0 (.bool true) (nxC 0 0) (lvD L k (nxR 0 0)))) = true := by kernel_rfl
set_option maxRecDepth 1000000 in
theorem c0_del0_4 : allR 23 2 (fun L => allN L (fun k => ckKK 0 11 [nI k] L k 0 (.bool true) (nxC 0 0) (lvD L k (nxR 0 0)))) = true := by kernel_rfl
set_option maxRecDepth 1000000 in
theorem c0_del0_5 : allR 25 1 (fun L => allN L (fun k => ckKK 0 11 [nI k] L k 0 (.bool true) (nxC 0 0) (lvD L k (nxR 0 0)))) = true := by kernel_rfl
set_option maxRecDepth 1000000 in
theorem c0_del0_6 : allR 26 1 (fun L => allN L (fun k => ckKK 0 11 [nI k] L k 0 (.bool true) (nxC 0 0) (lvD L k (nxR 0 0)))) = true := by kernel_rfl
set_option maxRecDepth 1000000 in
theorem c0_del0_7 : allR 27 1 (fun L => allN L (fun k => ckKK 0 11 [nI k] L k 0 (.bool true) (nxC 0 0) (lvD L k (nxR 0 0)))) = true := by kernel_rfl
set_option maxRecDepth 1000000 in
theorem c0_del0_8 : allR 28 1 (fun L => allN L (fun k => ckKK 0 11 [nI k] L k 0 (.bool true) (nxC 0 0) (lvD L k (nxR 0 0)))) = true := by kernel_rfl
set_option maxRecDepth 1000000 in
theorem c0_del0_9 : allR 29 1 (fun L => allN L (fun k => ckKK 0 11 [nI k] L k 0 (.bool true) (nxC 0 0) (lvD L k (nxR 0 0)))) = true := by kernel_rfl
set_option maxRecDepth 1000000 in
theorem c0_del0_10 : allR 30 1 (fun L => allN L (fun k => ckKK 0 11 [nI k] L k 0 (.bool true) (nxC 0 0) (lvD L k (nxR 0 0)))) = true := by kernel_rfl

end Go.Proofs.YteglbeihabjdiaaGreat
