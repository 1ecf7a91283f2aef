/- By program (mkp18.py): pieces of the laws, cut out of the printed functions. -/
import Derived.Test.YthhfjodcgibhfaaGreatF
namespace Go.Proofs.YthhfjodcgibhfaaGreat
open Go Go.Ev

def repliesAt (j r : Int) : Option Bool :=
  ob (ready) fun r1 =>
    ob (reply r1 2 (Reply.mk 0 0 (Lease.mk 0 0 0 0 [] [] []))) fun r2 =>
    ob (begin_ r1 (Cmd.mk 4 0 0 0 0 [] [])) fun r3 =>
    ob (reply r3.1 j (Reply.mk 0 0 (Lease.mk 0 0 0 0 [] [] []))) fun r4 =>
    ob (some r) fun r5 =>
    ob (reply r3.1 3 (Reply.mk r5 0 (Lease.mk 0 0 0 0 [] [] []))) fun r6 =>
    ob (reply r6.1 3 (Reply.mk 0 0 (Lease.mk 0 0 0 0 [] [] []))) fun r7 =>
    cond ((r2.2 != 2))
      (some false)
      (ob (localSame r1 r2.1) fun r8 =>
      cond ((!r8))
        (some false)
        (cond ((r4.2 != 2))
          (some false)
          (ob (localSame r3.1 r4.1) fun r9 =>
          cond ((cond (!r9) true (cond (r6.2 != 0) true (cond (r7.2 != 2) true (r3.1.lease.last != 0)))))
            (some false)
            (ob (some r) fun r10 =>
            cond ((r10 == 0))
              (some (cond (r6.1.lease.epoch == 0) (cond (r6.1.ends == 0) (!r6.1.fenced) false) false))
              (cond ((r10 == 16))
                (some (cond r6.1.fenced (r6.1.lease.epoch == 1) false))
                (some (cond (r6.1.lease.epoch == 1) (cond (r6.1.lease.last == (-1)) (!r6.1.fenced) false) false)))))))
def ready3 : Option State := ob (ready) fun r1 => ob (begin_ r1 (Cmd.mk 4 0 0 0 0 [] [])) fun r3 => some r3.1
end Go.Proofs.YthhfjodcgibhfaaGreat
