/- Pieces of the printed functions. -/
import Derived.Test.YtcjpeijiaojeiaaGreatP
namespace Go.Proofs.YtcjpeijiaojeiaaGreat
open Go Go.Ev
set_option maxRecDepth 100000
def spendsK (l1:List Int)(b1:Bool)(i1 i2 i3 i4:Int)(d1:Desk)(r1:Int):Option ((List Int×Bool×Int×Int×Int×Int×Desk)⊕((Bool×Int×Int×Desk)⊕(Bool×Int×Int×Desk))) :=
 ob (l13_step (w64 (i3+1)) 1 0) fun r2 =>
 ob (l13_step (w64 (i3+2)) 4 (cond ((w64 (r1 - 4)) == 0) 2 (w64 (r1 - 4)))) fun r3 =>
 ob (deskDo d1 (Cmd.mk 3 0 1 0 0 [] [r2,r3])) fun r4 =>
 cond ((cond (decide ((cond ((w64 (r1 - 4)) == 0) 2 (w64 (r1 - 4))) > i1)) true (decide ((w64 (0 - (cond ((w64 (r1 - 4)) == 0) 2 (w64 (r1 - 4))))) > i2))))
 (cond ((r4.2.err != 14))
 (some (.inr (.inr (false,i1,i2,d1))))
 (ob (dSame r4.1 d1) fun r5 =>
 cond ((!r5))
 (some (.inr (.inr (false,i1,i2,d1))))
 (some (.inl (l1,b1,i1,i2,i3,(w64 (i4+1)),d1)))))
 (cond ((cond (r4.2.err != 0) true (r4.2.n != (w64 (i3+2)))))
 (some (.inr (.inr (false,(cond (decide ((cond ((w64 (r1 - 4)) == 0) 2 (w64 (r1 - 4))) > 0)) (w64 (i1 - (cond ((w64 (r1 - 4)) == 0) 2 (w64 (r1 - 4))))) i1),(cond (decide ((cond ((w64 (r1 - 4)) == 0) 2 (w64 (r1 - 4))) > 0)) i2 (w64 (i2+(cond ((w64 (r1 - 4)) == 0) 2 (w64 (r1 - 4)))))),d1))))
 (some (.inl (l1,b1,(cond (decide ((cond ((w64 (r1 - 4)) == 0) 2 (w64 (r1 - 4))) > 0)) (w64 (i1 - (cond ((w64 (r1 - 4)) == 0) 2 (w64 (r1 - 4))))) i1),(cond (decide ((cond ((w64 (r1 - 4)) == 0) 2 (w64 (r1 - 4))) > 0)) i2 (w64 (i2+(cond ((w64 (r1 - 4)) == 0) 2 (w64 (r1 - 4)))))),(w64 (i3+2)),(w64 (i4+1)),r4.1))))
def spendsTail (a3:Bool×Int×Int×Desk):Option (Bool) :=
 ob (ref12Totals a3.2.2.2.book s_a) fun r5 =>
 cond ((r5.a1 == a3.2.1))
 (cond ((r5.a2 == (w64 (4 - a3.2.1))))
 (cond ((r5.a4 == a3.2.2.1))
 (cond ((r5.a5 == (w64 (3 - a3.2.2.1))))
 (ob (ref10Count a3.2.2.2.colls.a0 s_a) fun r6 =>
 some (r6 == (w64 ((w64 ((w64 (4 - a3.2.1)) - 3))+a3.2.2.1))))
 (some false))
 (some false))
 (some false))
 (some false)
end Go.Proofs.YtcjpeijiaojeiaaGreat
