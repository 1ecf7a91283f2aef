/- The law GroupNet: what calls do (8). -/
import Derived.Test.YteglbeihabjdiaaGreatNa
namespace Go.Proofs.YteglbeihabjdiaaGreat
open Go Go.Cx Go.RowKit

set_option maxRecDepth 1000000 in
theorem c0_delno_0 : allR 0 35 (fun L => ckOp 0 11 [nP 0] L (.bool false) 0 (lvI L) && (ckOp 0 11 [nI L] L (.bool false) 0 (lvI L) && ckOp 0 11 [nI (Nat.succ L)] L (.bool false) 0 (lvI L))) = true := by kernel_rfl
set_option maxRecDepth 1000000 in
theorem c0_dropbig_0 : allR 0 35 (fun L => ckOp 0 8 [nI 1099511627776] L (.bool false) 0 (lvI L)) = true := by kernel_rfl
set_option maxRecDepth 1000000 in
theorem c1_und_0 : allR 0 35 (fun L => ckOp 1 6 [] L (nI L) 1 (lvI L)) = true := by kernel_rfl
set_option maxRecDepth 1000000 in
theorem c1_drop_0 : allR 0 16 (fun L => allN L (fun k => ckOp 1 8 [nI k] L (.bool true) 1 (lvD L k []))) = true := by kernel_rfl
set_option maxRecDepth 1000000 in
theorem c1_drop_1 : allR 16 5 (fun L => allN L (fun k => ckOp 1 8 [nI k] L (.bool true) 1 (lvD L k []))) = true := by kernel_rfl
set_option maxRecDepth 1000000 in
theorem c1_drop_2 : allR 21 3 (fun L => allN L (fun k => ckOp 1 8 [nI k] L (.bool true) 1 (lvD L k []))) = true := by kernel_rfl
set_option maxRecDepth 1000000 in
theorem c1_drop_3 : allR 24 3 (fun L => allN L (fun k => ckOp 1 8 [nI k] L (.bool true) 1 (lvD L k []))) = true := by kernel_rfl
set_option maxRecDepth 1000000 in
theorem c1_drop_4 : allR 27 2 (fun L => allN L (fun k => ckOp 1 8 [nI k] L (.bool true) 1 (lvD L k []))) = true := by kernel_rfl
set_option maxRecDepth 1000000 in
theorem c1_drop_5 : allR 29 2 (fun L => allN L (fun k => ckOp 1 8 [nI k] L (.bool true) 1 (lvD L k []))) = true := by kernel_rfl

end Go.Proofs.YteglbeihabjdiaaGreat
