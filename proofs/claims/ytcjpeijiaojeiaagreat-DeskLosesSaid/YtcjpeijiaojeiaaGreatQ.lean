/- Pieces of the printed functions. -/
import Derived.Test.YtcjpeijiaojeiaaGreatF
namespace Go.Proofs.YtcjpeijiaojeiaaGreat
open Go Go.Ev
set_option maxRecDepth 100000
def losesTail (y3:Int×Int×Int×Cmd×A5Bool):Option (Bool) :=
 ob (begun) fun r4 =>
 ob (deskDo r4 y3.2.2.2.1) fun r5 =>
 ob (deskDo r5.1 (Cmd.mk 6 0 0 0 0 [] [])) fun r6 =>
 ob (l13_step (w64 (y3.2.1+1)) 1 0) fun r7 =>
 ob (deskDo r6.1 (Cmd.mk 3 0 1 0 0 [] [r7])) fun r8 =>
 ob (deskDo r6.1 (Cmd.mk 2 0 1 9 5 [] [])) fun r9 =>
 cond ((r5.2.err == 0))
 (cond ((r6.2.err == 0))
 (cond ((r6.2.n == y3.2.1))
 (cond ((r8.2.err == 16))
 (cond ((r9.2.err == 16))
 (cond (((r6.1.book.leases.length:Int) == 0))
 (ob (r6.1.book.counters[0]?) fun e10 =>
 cond ((e10.up_ == (w64 (10 - y3.1))))
 (ob (r6.1.book.counters[0]?) fun e11 =>
 cond ((e11.down_ == 10))
 (cond (((r6.1.book.bound.length:Int) == y3.2.2.1))
 (cond (((r6.1.lost.length:Int) == 1))
 (ob (r6.1.lost[0]?) fun e12 =>
 cond ((e12.seq == y3.2.1))
 (ob (ref12Sound r6.1.book) fun r13 =>
 some r13)
 (some false))
 (some false))
 (some false))
 (some false))
 (some false))
 (some false))
 (some false))
 (some false))
 (some false))
 (some false))
 (some false)
theorem deskLoses_eq (i1:Int)(l1:List Int):deskLoses i1 l1=ob known fun r0=>cond (!r0) (some false) (ob (within i1 5) fun r1=>ob (L4_7 r1 l1 0 1 (Cmd.mk 3 0 1 0 0 [] [])) fun y2=>ob (L4_14 y2.1 y2.2.1 y2.2.2.1 0 0 y2.2.2.2 (A5Bool.mk false false false false false)) losesTail):=rfl
end Go.Proofs.YtcjpeijiaojeiaaGreat
