/- The law GroupNet: what calls do (0). -/
import Derived.Test.YteglbeihabjdiaaGreatNa
namespace Go.Proofs.YteglbeihabjdiaaGreat
open Go Go.Cx Go.RowKit

set_option maxRecDepth 1000000 in
theorem c0_und_0 : allR 0 35 (fun L => ckOp 0 6 [] L (nI L) 0 (lvI L)) = true := by kernel_rfl
set_option maxRecDepth 1000000 in
theorem c0_drop_0 : allR 0 16 (fun L => allN L (fun k => ckOp 0 8 [nI k] L (.bool true) 0 (lvD L k []))) = true := by kernel_rfl
set_option maxRecDepth 1000000 in
theorem c0_drop_1 : allR 16 5 (fun L => allN L (fun k => ckOp 0 8 [nI k] L (.bool true) 0 (lvD L k []))) = true := by kernel_rfl
set_option maxRecDepth 1000000 in
theorem c0_drop_2 : allR 21 3 (fun L => allN L (fun k => ckOp 0 8 [nI k] L (.bool true) 0 (lvD L k []))) = true := by kernel_rfl
set_option maxRecDepth 1000000 in
theorem c0_drop_3 : allR 24 3 (fun L => allN L (fun k => ckOp 0 8 [nI k] L (.bool true) 0 (lvD L k []))) = true := by kernel_rfl
set_option maxRecDepth 1000000 in
theorem c0_drop_4 : allR 27 2 (fun L => allN L (fun k => ckOp 0 8 [nI k] L (.bool true) 0 (lvD L k []))) = true := by kernel_rfl
set_option maxRecDepth 1000000 in
theorem c0_drop_5 : allR 29 2 (fun L => allN L (fun k => ckOp 0 8 [nI k] L (.bool true) 0 (lvD L k []))) = true := by kernel_rfl
set_option maxRecDepth 1000000 in
theorem c0_drop_6 : allR 31 2 (fun L => allN L (fun k => ckOp 0 8 [nI k] L (.bool true) 0 (lvD L k []))) = true := by kernel_rfl
set_option maxRecDepth 1000000 in
theorem c0_drop_7 : allR 33 1 (fun L => allN L (fun k => ckOp 0 8 [nI k] L (.bool true) 0 (lvD L k []))) = true := by kernel_rfl

end Go.Proofs.YteglbeihabjdiaaGreat
