/- The law GroupNet: what calls do (32). -/
import Derived.Test.YteglbeihabjdiaaGreatNa
namespace Go.Proofs.YteglbeihabjdiaaGreat
open Go Go.Cx Go.RowKit

set_option maxRecDepth 1000000 in
theorem c3_del3_12 : allR 32 1 (fun L => allN L (fun k => ckKK 3 11 [nI k] L k 3 (.bool true) (nxC 3 3) (lvD L k (nxR 3 3)))) = true := by kernel_rfl
set_option maxRecDepth 1000000 in
theorem c3_del3_13 : allR 33 1 (fun L => allN L (fun k => ckKK 3 11 [nI k] L k 3 (.bool true) (nxC 3 3) (lvD L k (nxR 3 3)))) = true := by kernel_rfl
set_option maxRecDepth 1000000 in
theorem c3_dropno_0 : allR 0 35 (fun L => ckOp 3 8 [nP 0] L (.bool false) 3 (lvI L) && (ckOp 3 8 [nI L] L (.bool false) 3 (lvI L) && ckOp 3 8 [nI (Nat.succ L)] L (.bool false) 3 (lvI L))) = true := by kernel_rfl
set_option maxRecDepth 1000000 in
theorem c3_twiceno_0 : allR 0 35 (fun L => ckOp 3 10 [nP 0] L (.bool false) 3 (lvI L) && (ckOp 3 10 [nI L] L (.bool false) 3 (lvI L) && ckOp 3 10 [nI (Nat.succ L)] L (.bool false) 3 (lvI L))) = true := by kernel_rfl
set_option maxRecDepth 1000000 in
theorem c3_delno_0 : allR 0 35 (fun L => ckOp 3 11 [nP 0] L (.bool false) 3 (lvI L) && (ckOp 3 11 [nI L] L (.bool false) 3 (lvI L) && ckOp 3 11 [nI (Nat.succ L)] L (.bool false) 3 (lvI L))) = true := by kernel_rfl
set_option maxRecDepth 1000000 in
theorem c3_dropbig_0 : allR 0 35 (fun L => ckOp 3 8 [nI 1099511627776] L (.bool false) 3 (lvI L)) = true := by kernel_rfl
set_option maxRecDepth 1000000 in
theorem r_h : stB cf0 kM 80 10 5 (bs 0) ⟨0, 0, 0, [0, 1, 2, 3], [], 2, 0, 4⟩ = true := by kernel_rfl
set_option maxRecDepth 1000000 in
theorem k_h : isB true (cf0 4 [] w02) = true := by kernel_rfl

end Go.Proofs.YteglbeihabjdiaaGreat
