/- By program (mkp18.py): pieces of the laws, cut out of the printed functions. -/
import Derived.Test.YthhfjodcgibhfaaGreatF
namespace Go.Proofs.YthhfjodcgibhfaaGreat
open Go Go.Ev

def repliesAt (j r : Int) : Option Bool :=
  ob (ready) fun r1 =>
    ob (reply r1 2 (Reply.mk 0 0 (Lease.mk 0 0 0 0 [] [] []))) fun r2 =>
    ob (begin_ r1 (Cmd.mk 4 0 0 0 0 [] [])) fun r3 =>
    ob (reply r3.1 j (Reply.mk 0 0 (Lease.mk 0 0 0 0 [] [] []))) fun r4 =>
    ob (some r) fun r5 =>
    ob (reply r3.1 3 (Reply.mk r5 0 (Lease.mk 0 0 0 0 [] [] []))) fun r6 =>
    ob (reply r6.1 3 (Reply.mk 0 0 (Lease.mk 0 0 0 0 [] [] []))) fun r7 =>
    cond ((r2.2 != 2))
      (some false)
      (ob (localSame r1 r2.1) fun r8 =>
      cond ((!r8))
        (some false)
        (cond ((r4.2 != 2))
          (some false)
          (ob (localSame r3.1 r4.1) fun r9 =>
          cond ((cond (!r9) true (cond (r6.2 != 0) true (cond (r7.2 != 2) true (r3.1.lease.last != 0)))))
            (some false)
            (ob (some r) fun r10 =>
            cond ((r10 == 0))
              (some (cond (r6.1.lease.epoch == 0) (cond (r6.1.ends == 0) (!r6.1.fenced) false) false))
              (cond ((r10 == 16))
                (some (cond r6.1.fenced (r6.1.lease.epoch == 1) false))
                (some (cond (r6.1.lease.epoch == 1) (cond (r6.1.lease.last == (-1)) (!r6.1.fenced) false) false)))))))
def ready3 : Option State := ob (ready) fun r1 => ob (begin_ r1 (Cmd.mk 4 0 0 0 0 [] [])) fun r3 => some r3.1
def timeAt (s1 : State) (i1 : Int) : Option (State × Int) :=
  (ob (localOwn s1) fun y2 =>
      some ((State.mk y2.device y2.epoch y2.lease y2.ends y2.seq y2.sent y2.pending y2.colls y2.at_ y2.ver y2.subs y2.req y2.asked y2.cmd y2.fenced (w64 (y2.now + i1))), 0))
def endsAt (r1 r2 r3 : Int) : Option Bool :=
  ob (localNew 1 3 [true, true, true]) fun r4 =>
    ob (begin_ r4.1 (Cmd.mk 1 0 0 0 0 [] [])) fun r5 =>
    ob (reply r5.1 1 (Reply.mk 0 1 (Lease.mk 0 0 0 0 [] [] []))) fun r6 =>
    ob (time r6.1 5) fun r7 =>
    ob (begin_ r7.1 (Cmd.mk 2 0 0 0 (w64 (1 + r1)) [] [])) fun r8 =>
    ob (timeAt r8.1 r2) fun r9 =>
    ob (reply r9.1 2 (Reply.mk 0 0 (Lease.mk 1 1 0 (-1) [(Slice.mk s_a 9 0 0 0)] [] []))) fun r10 =>
    ob (timeAt r10.1 r3) fun r11 =>
    ob (do_ r11.1 (Op.mk (Dot.mk 0 0 0) 0 0 4 s_a s_empty 1 0 [])) fun r12 =>
    some (cond (r8.2 == 0) (cond (r10.2 == 0) (cond (r11.1.ends == (w64 (5 + (w64 (1 + r1))))) (r12.2 == (cond (decide ((w64 (r2 + r3)) ≥ (w64 (1 + r1)))) 15 0)) false) false) false)
def preEnds (k : Int) : Option (State × Int) :=
  ob (localNew 1 3 [true, true, true]) fun r4 =>
    ob (begin_ r4.1 (Cmd.mk 1 0 0 0 0 [] [])) fun r5 =>
    ob (reply r5.1 1 (Reply.mk 0 1 (Lease.mk 0 0 0 0 [] [] []))) fun r6 =>
    ob (time r6.1 5) fun r7 =>
    ob (begin_ r7.1 (Cmd.mk 2 0 0 0 (w64 (1 + k)) [] [])) fun r8 =>
    some r8
def setNow (s : State) (n : Int) : State := State.mk s.device s.epoch s.lease s.ends s.seq s.sent s.pending s.colls s.at_ s.ver s.subs s.req s.asked s.cmd s.fenced n
def repEnds (s : State) : Option (State × Int) := reply s 2 (Reply.mk 0 0 (Lease.mk 1 1 0 (-1) [(Slice.mk s_a 9 0 0 0)] [] []))
/-- what Do does behind the check of the operation; b: is it late? -/
def doC (s1 : State) (o1 : Op) (b : Bool) (r16 : Int) : Option (State × Int) :=
  cond ((r16 != 0))
              (ob (localOwn s1) fun y17 =>
              some (y17, r16))
              (cond ((cond (o1.kind != 4) (o1.kind != 5) false))
                (ob (localOwn s1) fun y19 =>
                cond (fits ((y19.pending ++ [(Op.mk (Dot.mk s1.device s1.epoch (w64 (s1.seq + 1))) o1.coll s1.ver o1.kind o1.key o1.text o1.n s1.now [])]).length))
                  (ob (localOwn (State.mk y19.device y19.epoch s1.lease y19.ends (w64 (y19.seq + 1)) y19.sent (y19.pending ++ [(Op.mk (Dot.mk s1.device s1.epoch (w64 (s1.seq + 1))) o1.coll s1.ver o1.kind o1.key o1.text o1.n s1.now [])]) y19.colls y19.at_ y19.ver y19.subs y19.req y19.asked y19.cmd y19.fenced y19.now)) fun y20 =>
                  some (y20, 0))
                  (none))
                (cond ((!(s1.lease.epoch != 0)))
                  (ob (localOwn s1) fun y21 =>
                  some (y21, 14))
                  (cond ((cond (b) true (s1.lease.last != (-1))))
                    (ob (localOwn s1) fun y22 =>
                    some (y22, 15))
                    (ob (spend s1.lease (Op.mk (Dot.mk s1.device s1.epoch (w64 (s1.seq + 1))) o1.coll s1.ver o1.kind o1.key o1.text o1.n s1.now [])) fun r18 =>
                    cond ((r18.2 != 0))
                      (ob (localOwn s1) fun y23 =>
                      some (y23, r18.2))
                      (ob (localOwn s1) fun y24 =>
                      cond (fits ((y24.pending ++ [(Op.mk (Dot.mk s1.device s1.epoch (w64 (s1.seq + 1))) o1.coll s1.ver o1.kind o1.key o1.text o1.n s1.now [])]).length))
                        (ob (localOwn (State.mk y24.device y24.epoch r18.1 y24.ends (w64 (y24.seq + 1)) y24.sent (y24.pending ++ [(Op.mk (Dot.mk s1.device s1.epoch (w64 (s1.seq + 1))) o1.coll s1.ver o1.kind o1.key o1.text o1.n s1.now [])]) y24.colls y24.at_ y24.ver y24.subs y24.req y24.asked y24.cmd y24.fenced y24.now)) fun y25 =>
                        some (y25, 0))
                        (none))))))
def begB (e2 : Int) (c : Bool) (l1 : List Int) (l2 : List Bool) (b1 : Bool) (i1 : Int) (b2 : Bool) (i2 : Int) (s1 : State) : Option (((List Int) × (List Bool) × Bool × Int × Bool × Int × State) ⊕ (((Bool × State) ⊕ (Bool × State)))) :=
          ob (begin_ s1 (Cmd.mk e2 0 0 0 7 [] [])) fun r3 =>
          cond ((r3.2 != (cond (cond (e2 == 1) (decide (s1.epoch > 0)) false) 7 (cond (cond (cond (e2 != 1) (s1.epoch == 0) false) (cond (e2 != 1) (s1.epoch == 0) false) (cond (e2 == 4) (!b2) false)) 2 (cond (cond (e2 == 2) b2 false) 19 0)))))
            (some (.inr (.inr (false, s1))))
            (cond ((r3.2 != 0))
              (some (.inl (l1, l2, b1, i1, b2, (w64 (i2 + 1)), s1)))
              (ob (begin_ r3.1 (Cmd.mk e2 0 0 0 7 [] [])) fun r4 =>
              cond ((cond (r3.1.req != (w64 (i1 + 1))) true (cond (r3.1.cmd.kind != e2) true (cond (r3.1.cmd.req != (w64 (i1 + 1))) true (cond (r3.1.cmd.device != 3) true (cond (e2 == 2) (cond (r3.1.cmd.n != 7) true (cond (r3.1.cmd.epoch != 1) true (r4.2 != 7))) (r4.2 != 7)))))))
                (some (.inr (.inr (false, s1))))
                (cond (c)
                      (cond ((e2 == 1))
                        (ob (reply r3.1 (w64 (i1 + 1)) (Reply.mk 0 1 (Lease.mk 0 0 0 0 [] [] []))) fun r9 =>
                        cond ((cond (r9.2 != 0) true (cond (r9.1.cmd.kind != 0) true (!((r9.1.lease.epoch == 1) == (e2 == 2))))))
                          (some (.inr (.inr (false, r9.1))))
                          (some (.inl (l1, l2, b1, (w64 (i1 + 1)), (e2 == 2), (w64 (i2 + 1)), r9.1))))
                        (cond ((e2 == 2))
                          (ob (reply r3.1 (w64 (i1 + 1)) (Reply.mk 0 0 (Lease.mk 3 1 0 (-1) [] [] []))) fun r10 =>
                          cond ((cond (r10.2 != 0) true (cond (r10.1.cmd.kind != 0) true (!((r10.1.lease.epoch == 1) == (e2 == 2))))))
                            (some (.inr (.inr (false, r10.1))))
                            (some (.inl (l1, l2, b1, (w64 (i1 + 1)), (e2 == 2), (w64 (i2 + 1)), r10.1))))
                          (ob (reply r3.1 (w64 (i1 + 1)) (Reply.mk 0 0 (Lease.mk 0 0 0 0 [] [] []))) fun r11 =>
                          cond ((cond (r11.2 != 0) true (cond (r11.1.cmd.kind != 0) true (!((r11.1.lease.epoch == 1) == (e2 == 2))))))
                            (some (.inr (.inr (false, r11.1))))
                            (some (.inl (l1, l2, b1, (w64 (i1 + 1)), (e2 == 2), (w64 (i2 + 1)), r11.1))))))
                      (ob (reply r3.1 (w64 (i1 + 1)) (Reply.mk 22 0 (Lease.mk 0 0 0 0 [] [] []))) fun r12 =>
                      cond ((cond (r12.2 != 0) true (cond (r12.1.cmd.kind != 0) true (!((r12.1.lease.epoch == 1) == b2)))))
                        (some (.inr (.inr (false, r12.1))))
                        (some (.inl (l1, l2, b1, (w64 (i1 + 1)), b2, (w64 (i2 + 1)), r12.1)))))))
end Go.Proofs.YthhfjodcgibhfaaGreat
