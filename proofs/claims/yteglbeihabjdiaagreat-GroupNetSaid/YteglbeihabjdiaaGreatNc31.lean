/- The law GroupNet: what calls do (31). -/
import Derived.Test.YteglbeihabjdiaaGreatNa
namespace Go.Proofs.YteglbeihabjdiaaGreat
open Go Go.Cx Go.RowKit

set_option maxRecDepth 1000000 in
theorem c3_del3_2 : allR 18 3 (fun L => allN L (fun k => ckKK 3 11 [nI k] L k 3 (.bool true) (nxC 3 3) (lvD L k (nxR 3 3)))) = true := by kernel_rfl
set_option maxRecDepth 1000000 in
theorem c3_del3_3 : allR 21 2 (fun L => allN L (fun k => ckKK 3 11 [nI k] L k 3 (.bool true) (nxC 3 3) (lvD L k (nxR 3 3)))) = true := by kernel_rfl
set_option maxRecDepth 1000000 in
theorem c3_del3_4 : allR 23 2 (fun L => allN L (fun k => ckKK 3 11 [nI k] L k 3 (.bool true) (nxC 3 3) (lvD L k (nxR 3 3)))) = true := by kernel_rfl
set_option maxRecDepth 1000000 in
theorem c3_del3_5 : allR 25 1 (fun L => allN L (fun k => ckKK 3 11 [nI k] L k 3 (.bool true) (nxC 3 3) (lvD L k (nxR 3 3)))) = true := by kernel_rfl
set_option maxRecDepth 1000000 in
theorem c3_del3_6 : allR 26 1 (fun L => allN L (fun k => ckKK 3 11 [nI k] L k 3 (.bool true) (nxC 3 3) (lvD L k (nxR 3 3)))) = true := by kernel_rfl
set_option maxRecDepth 1000000 in
theorem c3_del3_7 : allR 27 1 (fun L => allN L (fun k => ckKK 3 11 [nI k] L k 3 (.bool true) (nxC 3 3) (lvD L k (nxR 3 3)))) = true := by kernel_rfl
set_option maxRecDepth 1000000 in
theorem c3_del3_8 : allR 28 1 (fun L => allN L (fun k => ckKK 3 11 [nI k] L k 3 (.bool true) (nxC 3 3) (lvD L k (nxR 3 3)))) = true := by kernel_rfl
set_option maxRecDepth 1000000 in
theorem c3_del3_9 : allR 29 1 (fun L => allN L (fun k => ckKK 3 11 [nI k] L k 3 (.bool true) (nxC 3 3) (lvD L k (nxR 3 3)))) = true := by kernel_rfl
set_option maxRecDepth 1000000 in
theorem c3_del3_10 : allR 30 1 (fun L => allN L (fun k => ckKK 3 11 [nI k] L k 3 (.bool true) (nxC 3 3) (lvD L k (nxR 3 3)))) = true := by kernel_rfl
set_option maxRecDepth 1000000 in
theorem c3_del3_11 : allR 31 1 (fun L => allN L (fun k => ckKK 3 11 [nI k] L k 3 (.bool true) (nxC 3 3) (lvD L k (nxR 3 3)))) = true := by kernel_rfl

end Go.Proofs.YteglbeihabjdiaaGreat
