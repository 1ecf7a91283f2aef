/- The law GroupNet: what calls do (7). -/
import Derived.Test.YteglbeihabjdiaaGreatNa
namespace Go.Proofs.YteglbeihabjdiaaGreat
open Go Go.Cx Go.RowKit

set_option maxRecDepth 1000000 in
theorem c0_del3_7 : allR 27 1 (fun L => allN L (fun k => ckKK 0 11 [nI k] L k 3 (.bool true) (nxC 0 3) (lvD L k (nxR 0 3)))) = true := by kernel_rfl
set_option maxRecDepth 1000000 in
theorem c0_del3_8 : allR 28 1 (fun L => allN L (fun k => ckKK 0 11 [nI k] L k 3 (.bool true) (nxC 0 3) (lvD L k (nxR 0 3)))) = true := by kernel_rfl
set_option maxRecDepth 1000000 in
theorem c0_del3_9 : allR 29 1 (fun L => allN L (fun k => ckKK 0 11 [nI k] L k 3 (.bool true) (nxC 0 3) (lvD L k (nxR 0 3)))) = true := by kernel_rfl
set_option maxRecDepth 1000000 in
theorem c0_del3_10 : allR 30 1 (fun L => allN L (fun k => ckKK 0 11 [nI k] L k 3 (.bool true) (nxC 0 3) (lvD L k (nxR 0 3)))) = true := by kernel_rfl
set_option maxRecDepth 1000000 in
theorem c0_del3_11 : allR 31 1 (fun L => allN L (fun k => ckKK 0 11 [nI k] L k 3 (.bool true) (nxC 0 3) (lvD L k (nxR 0 3)))) = true := by kernel_rfl
set_option maxRecDepth 1000000 in
theorem c0_del3_12 : allR 32 1 (fun L => allN L (fun k => ckKK 0 11 [nI k] L k 3 (.bool true) (nxC 0 3) (lvD L k (nxR 0 3)))) = true := by kernel_rfl
set_option maxRecDepth 1000000 in
theorem c0_del3_13 : allR 33 1 (fun L => allN L (fun k => ckKK 0 11 [nI k] L k 3 (.bool true) (nxC 0 3) (lvD L k (nxR 0 3)))) = true := by kernel_rfl
set_option maxRecDepth 1000000 in
theorem c0_dropno_0 : allR 0 35 (fun L => ckOp 0 8 [nP 0] L (.bool false) 0 (lvI L) && (ckOp 0 8 [nI L] L (.bool false) 0 (lvI L) && ckOp 0 8 [nI (Nat.succ L)] L (.bool false) 0 (lvI L))) = true := by kernel_rfl
set_option maxRecDepth 1000000 in
theorem c0_twiceno_0 : allR 0 35 (fun L => ckOp 0 10 [nP 0] L (.bool false) 0 (lvI L) && (ckOp 0 10 [nI L] L (.bool false) 0 (lvI L) && ckOp 0 10 [nI (Nat.succ L)] L (.bool false) 0 (lvI L))) = true := by kernel_rfl

end Go.Proofs.YteglbeihabjdiaaGreat
