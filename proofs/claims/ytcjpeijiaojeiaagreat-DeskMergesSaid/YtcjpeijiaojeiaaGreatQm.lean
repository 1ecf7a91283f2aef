/- Pieces of the printed functions. -/
import Derived.Test.YtcjpeijiaojeiaaGreatP
namespace Go.Proofs.YtcjpeijiaojeiaaGreat
open Go Go.Ev
set_option maxRecDepth 100000
def mergesK (y4:List Int×List Int×Bool×Int×Int×Int×Int×Desk×Cmd):Option ((List Int×List Int×Bool×Int×Int×Desk)⊕((Bool×Desk)⊕(Bool×Desk))) :=
 ob (deskDo y4.2.2.2.2.2.2.2.1 y4.2.2.2.2.2.2.2.2) fun r5 =>
 cond ((cond (decide (y4.2.2.2.2.2.2.1 > 0)) (decide (y4.2.2.2.2.2.1 > y4.2.2.2.1)) false))
 (cond ((r5.2.err != 12))
 (some (.inr (.inr (false,y4.2.2.2.2.2.2.2.1))))
 (ob (dSame r5.1 y4.2.2.2.2.2.2.2.1) fun r6 =>
 cond ((!r6))
 (some (.inr (.inr (false,y4.2.2.2.2.2.2.2.1))))
 (some (.inl (y4.1,y4.2.1,y4.2.2.1,y4.2.2.2.1,(w64 (y4.2.2.2.2.1+1)),y4.2.2.2.2.2.2.2.1)))))
 (cond ((cond (r5.2.err != 0) true (cond (r5.2.n != (cond (y4.2.2.2.2.2.2.1 == 0) (y4.2.2.2.2.2.2.2.1.log.length:Int) (max2 y4.2.2.2.1 (w64 (y4.2.2.2.2.2.1+y4.2.2.2.2.2.2.1))))) true ((r5.1.log.length:Int) != (cond (y4.2.2.2.2.2.2.1 == 0) (y4.2.2.2.2.2.2.2.1.log.length:Int) (max2 y4.2.2.2.1 (w64 (y4.2.2.2.2.2.1+y4.2.2.2.2.2.2.1))))))))
 (some (.inr (.inr (false,y4.2.2.2.2.2.2.2.1))))
 (some (.inl (y4.1,y4.2.1,y4.2.2.1,(cond (y4.2.2.2.2.2.2.1 == 0) (y4.2.2.2.2.2.2.2.1.log.length:Int) (max2 y4.2.2.2.1 (w64 (y4.2.2.2.2.2.1+y4.2.2.2.2.2.2.1)))),(w64 (y4.2.2.2.2.1+1)),r5.1))))
end Go.Proofs.YtcjpeijiaojeiaaGreat
