/- Pieces of the printed functions. -/
import Derived.Test.YtcjpeijiaojeiaaGreatP
namespace Go.Proofs.YtcjpeijiaojeiaaGreat
open Go Go.Ev
set_option maxRecDepth 100000
def reqsK (l1:List Int)(b1:Bool)(i1:Int)(i2:Int)(d1:Desk)(rx1:Reply)(r1:Int):Option ((List Int×Bool×Int×Int×Desk×Reply)⊕((Bool×Int×Desk×Reply)⊕(Bool×Int×Desk×Reply))) :=
 ob (deskDo d1 (Cmd.mk 1 2 0 (w64 (r1 - 1)) 0 [] [])) fun r2 =>
 cond ((decide ((w64 (r1 - 1)) < 1)))
 (cond ((r2.2.err != 1))
 (some (.inr (.inr (false,i1,d1,rx1))))
 (ob (dSame r2.1 d1) fun r3 =>
 cond ((!r3))
 (some (.inr (.inr (false,i1,d1,rx1))))
 (some (.inl (l1,b1,i1,(w64 (i2+1)),r2.1,rx1)))))
 (cond ((decide ((w64 (r1 - 1)) < i1)))
 (cond ((r2.2.err != 7))
 (some (.inr (.inr (false,i1,d1,rx1))))
 (ob (dSame r2.1 d1) fun r4 =>
 cond ((!r4))
 (some (.inr (.inr (false,i1,d1,rx1))))
 (some (.inl (l1,b1,i1,(w64 (i2+1)),r2.1,rx1)))))
 (cond (((w64 (r1 - 1)) == i1))
 (cond ((r2.2.err != rx1.err))
 (some (.inr (.inr (false,i1,d1,rx1))))
 (cond ((r2.2.n != rx1.n))
 (some (.inr (.inr (false,i1,d1,rx1))))
 (ob (dSame r2.1 d1) fun r5 =>
 cond ((!r5))
 (some (.inr (.inr (false,i1,d1,rx1))))
 (some (.inl (l1,b1,i1,(w64 (i2+1)),r2.1,rx1))))))
 (cond ((cond (r2.2.err != (cond (i1 == 0) 0 7)) true (r2.1.dev.a2.req != (w64 (r1 - 1)))))
 (some (.inr (.inr (false,i1,d1,rx1))))
 (some (.inl (l1,b1,(w64 (r1 - 1)),(w64 (i2+1)),r2.1,r2.2))))))
end Go.Proofs.YtcjpeijiaojeiaaGreat
