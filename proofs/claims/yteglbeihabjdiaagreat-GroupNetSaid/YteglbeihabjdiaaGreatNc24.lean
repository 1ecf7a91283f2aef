/- The law GroupNet: what calls do (24). -/
import Derived.Test.YteglbeihabjdiaaGreatNa
namespace Go.Proofs.YteglbeihabjdiaaGreat
open Go Go.Cx Go.RowKit

set_option maxRecDepth 1000000 in
theorem c2_dropno_0 : allR 0 35 (fun L => ckOp 2 8 [nP 0] L (.bool false) 2 (lvI L) && (ckOp 2 8 [nI L] L (.bool false) 2 (lvI L) && ckOp 2 8 [nI (Nat.succ L)] L (.bool false) 2 (lvI L))) = true := by kernel_rfl
set_option maxRecDepth 1000000 in
theorem c2_twiceno_0 : allR 0 35 (fun L => ckOp 2 10 [nP 0] L (.bool false) 2 (lvI L) && (ckOp 2 10 [nI L] L (.bool false) 2 (lvI L) && ckOp 2 10 [nI (Nat.succ L)] L (.bool false) 2 (lvI L))) = true := by kernel_rfl
set_option maxRecDepth 1000000 in
theorem c2_delno_0 : allR 0 35 (fun L => ckOp 2 11 [nP 0] L (.bool false) 2 (lvI L) && (ckOp 2 11 [nI L] L (.bool false) 2 (lvI L) && ckOp 2 11 [nI (Nat.succ L)] L (.bool false) 2 (lvI L))) = true := by kernel_rfl
set_option maxRecDepth 1000000 in
theorem c2_dropbig_0 : allR 0 35 (fun L => ckOp 2 8 [nI 1099511627776] L (.bool false) 2 (lvI L)) = true := by kernel_rfl
set_option maxRecDepth 1000000 in
theorem c3_und_0 : allR 0 35 (fun L => ckOp 3 6 [] L (nI L) 3 (lvI L)) = true := by kernel_rfl
set_option maxRecDepth 1000000 in
theorem c3_drop_0 : allR 0 16 (fun L => allN L (fun k => ckOp 3 8 [nI k] L (.bool true) 3 (lvD L k []))) = true := by kernel_rfl
set_option maxRecDepth 1000000 in
theorem c3_drop_1 : allR 16 5 (fun L => allN L (fun k => ckOp 3 8 [nI k] L (.bool true) 3 (lvD L k []))) = true := by kernel_rfl
set_option maxRecDepth 1000000 in
theorem c3_drop_2 : allR 21 3 (fun L => allN L (fun k => ckOp 3 8 [nI k] L (.bool true) 3 (lvD L k []))) = true := by kernel_rfl
set_option maxRecDepth 1000000 in
theorem c3_drop_3 : allR 24 3 (fun L => allN L (fun k => ckOp 3 8 [nI k] L (.bool true) 3 (lvD L k []))) = true := by kernel_rfl

end Go.Proofs.YteglbeihabjdiaaGreat
