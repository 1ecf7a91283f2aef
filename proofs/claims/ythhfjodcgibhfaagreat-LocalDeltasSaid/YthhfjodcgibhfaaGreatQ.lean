/- By program (mkp18.py): pieces of the laws, cut out of the printed functions. -/
import Derived.Test.YthhfjodcgibhfaaGreatF
namespace Go.Proofs.YthhfjodcgibhfaaGreat
open Go Go.Ev

def repliesAt (j r : Int) : Option Bool :=
  ob (ready) fun r1 =>
    ob (reply r1 2 (Reply.mk 0 0 (Lease.mk 0 0 0 0 [] [] []))) fun r2 =>
    ob (begin_ r1 (Cmd.mk 4 0 0 0 0 [] [])) fun r3 =>
    ob (reply r3.1 j (Reply.mk 0 0 (Lease.mk 0 0 0 0 [] [] []))) fun r4 =>
    ob (some r) fun r5 =>
    ob (reply r3.1 3 (Reply.mk r5 0 (Lease.mk 0 0 0 0 [] [] []))) fun r6 =>
    ob (reply r6.1 3 (Reply.mk 0 0 (Lease.mk 0 0 0 0 [] [] []))) fun r7 =>
    cond ((r2.2 != 2))
      (some false)
      (ob (localSame r1 r2.1) fun r8 =>
      cond ((!r8))
        (some false)
        (cond ((r4.2 != 2))
          (some false)
          (ob (localSame r3.1 r4.1) fun r9 =>
          cond ((cond (!r9) true (cond (r6.2 != 0) true (cond (r7.2 != 2) true (r3.1.lease.last != 0)))))
            (some false)
            (ob (some r) fun r10 =>
            cond ((r10 == 0))
              (some (cond (r6.1.lease.epoch == 0) (cond (r6.1.ends == 0) (!r6.1.fenced) false) false))
              (cond ((r10 == 16))
                (some (cond r6.1.fenced (r6.1.lease.epoch == 1) false))
                (some (cond (r6.1.lease.epoch == 1) (cond (r6.1.lease.last == (-1)) (!r6.1.fenced) false) false)))))))
def ready3 : Option State := ob (ready) fun r1 => ob (begin_ r1 (Cmd.mk 4 0 0 0 0 [] [])) fun r3 => some r3.1
def timeAt (s1 : State) (i1 : Int) : Option (State × Int) :=
  (ob (localOwn s1) fun y2 =>
      some ((State.mk y2.device y2.epoch y2.lease y2.ends y2.seq y2.sent y2.pending y2.colls y2.at_ y2.ver y2.subs y2.req y2.asked y2.cmd y2.fenced (w64 (y2.now + i1))), 0))
def endsAt (r1 r2 r3 : Int) : Option Bool :=
  ob (localNew 1 3 [true, true, true]) fun r4 =>
    ob (begin_ r4.1 (Cmd.mk 1 0 0 0 0 [] [])) fun r5 =>
    ob (reply r5.1 1 (Reply.mk 0 1 (Lease.mk 0 0 0 0 [] [] []))) fun r6 =>
    ob (time r6.1 5) fun r7 =>
    ob (begin_ r7.1 (Cmd.mk 2 0 0 0 (w64 (1 + r1)) [] [])) fun r8 =>
    ob (timeAt r8.1 r2) fun r9 =>
    ob (reply r9.1 2 (Reply.mk 0 0 (Lease.mk 1 1 0 (-1) [(Slice.mk s_a 9 0 0 0)] [] []))) fun r10 =>
    ob (timeAt r10.1 r3) fun r11 =>
    ob (do_ r11.1 (Op.mk (Dot.mk 0 0 0) 0 0 4 s_a s_empty 1 0 [])) fun r12 =>
    some (cond (r8.2 == 0) (cond (r10.2 == 0) (cond (r11.1.ends == (w64 (5 + (w64 (1 + r1))))) (r12.2 == (cond (decide ((w64 (r2 + r3)) ≥ (w64 (1 + r1)))) 15 0)) false) false) false)
def preEnds (k : Int) : Option (State × Int) :=
  ob (localNew 1 3 [true, true, true]) fun r4 =>
    ob (begin_ r4.1 (Cmd.mk 1 0 0 0 0 [] [])) fun r5 =>
    ob (reply r5.1 1 (Reply.mk 0 1 (Lease.mk 0 0 0 0 [] [] []))) fun r6 =>
    ob (time r6.1 5) fun r7 =>
    ob (begin_ r7.1 (Cmd.mk 2 0 0 0 (w64 (1 + k)) [] [])) fun r8 =>
    some r8
def setNow (s : State) (n : Int) : State := State.mk s.device s.epoch s.lease s.ends s.seq s.sent s.pending s.colls s.at_ s.ver s.subs s.req s.asked s.cmd s.fenced n
def repEnds (s : State) : Option (State × Int) := reply s 2 (Reply.mk 0 0 (Lease.mk 1 1 0 (-1) [(Slice.mk s_a 9 0 0 0)] [] []))
/-- what Do does behind the check of the operation; b: is it late? -/
def doC (s1 : State) (o1 : Op) (b : Bool) (r16 : Int) : Option (State × Int) :=
  cond ((r16 != 0))
              (ob (localOwn s1) fun y17 =>
              some (y17, r16))
              (cond ((cond (o1.kind != 4) (o1.kind != 5) false))
                (ob (localOwn s1) fun y19 =>
                cond (fits ((y19.pending ++ [(Op.mk (Dot.mk s1.device s1.epoch (w64 (s1.seq + 1))) o1.coll s1.ver o1.kind o1.key o1.text o1.n s1.now [])]).length))
                  (ob (localOwn (State.mk y19.device y19.epoch s1.lease y19.ends (w64 (y19.seq + 1)) y19.sent (y19.pending ++ [(Op.mk (Dot.mk s1.device s1.epoch (w64 (s1.seq + 1))) o1.coll s1.ver o1.kind o1.key o1.text o1.n s1.now [])]) y19.colls y19.at_ y19.ver y19.subs y19.req y19.asked y19.cmd y19.fenced y19.now)) fun y20 =>
                  some (y20, 0))
                  (none))
                (cond ((!(s1.lease.epoch != 0)))
                  (ob (localOwn s1) fun y21 =>
                  some (y21, 14))
                  (cond ((cond (b) true (s1.lease.last != (-1))))
                    (ob (localOwn s1) fun y22 =>
                    some (y22, 15))
                    (ob (spend s1.lease (Op.mk (Dot.mk s1.device s1.epoch (w64 (s1.seq + 1))) o1.coll s1.ver o1.kind o1.key o1.text o1.n s1.now [])) fun r18 =>
                    cond ((r18.2 != 0))
                      (ob (localOwn s1) fun y23 =>
                      some (y23, r18.2))
                      (ob (localOwn s1) fun y24 =>
                      cond (fits ((y24.pending ++ [(Op.mk (Dot.mk s1.device s1.epoch (w64 (s1.seq + 1))) o1.coll s1.ver o1.kind o1.key o1.text o1.n s1.now [])]).length))
                        (ob (localOwn (State.mk y24.device y24.epoch r18.1 y24.ends (w64 (y24.seq + 1)) y24.sent (y24.pending ++ [(Op.mk (Dot.mk s1.device s1.epoch (w64 (s1.seq + 1))) o1.coll s1.ver o1.kind o1.key o1.text o1.n s1.now [])]) y24.colls y24.at_ y24.ver y24.subs y24.req y24.asked y24.cmd y24.fenced y24.now)) fun y25 =>
                        some (y25, 0))
                        (none))))))
def begB (e2 : Int) (c : Bool) (l1 : List Int) (l2 : List Bool) (b1 : Bool) (i1 : Int) (b2 : Bool) (i2 : Int) (s1 : State) : Option (((List Int) × (List Bool) × Bool × Int × Bool × Int × State) ⊕ (((Bool × State) ⊕ (Bool × State)))) :=
          ob (begin_ s1 (Cmd.mk e2 0 0 0 7 [] [])) fun r3 =>
          cond ((r3.2 != (cond (cond (e2 == 1) (decide (s1.epoch > 0)) false) 7 (cond (cond (cond (e2 != 1) (s1.epoch == 0) false) (cond (e2 != 1) (s1.epoch == 0) false) (cond (e2 == 4) (!b2) false)) 2 (cond (cond (e2 == 2) b2 false) 19 0)))))
            (some (.inr (.inr (false, s1))))
            (cond ((r3.2 != 0))
              (some (.inl (l1, l2, b1, i1, b2, (w64 (i2 + 1)), s1)))
              (ob (begin_ r3.1 (Cmd.mk e2 0 0 0 7 [] [])) fun r4 =>
              cond ((cond (r3.1.req != (w64 (i1 + 1))) true (cond (r3.1.cmd.kind != e2) true (cond (r3.1.cmd.req != (w64 (i1 + 1))) true (cond (r3.1.cmd.device != 3) true (cond (e2 == 2) (cond (r3.1.cmd.n != 7) true (cond (r3.1.cmd.epoch != 1) true (r4.2 != 7))) (r4.2 != 7)))))))
                (some (.inr (.inr (false, s1))))
                (cond (c)
                      (cond ((e2 == 1))
                        (ob (reply r3.1 (w64 (i1 + 1)) (Reply.mk 0 1 (Lease.mk 0 0 0 0 [] [] []))) fun r9 =>
                        cond ((cond (r9.2 != 0) true (cond (r9.1.cmd.kind != 0) true (!((r9.1.lease.epoch == 1) == (e2 == 2))))))
                          (some (.inr (.inr (false, r9.1))))
                          (some (.inl (l1, l2, b1, (w64 (i1 + 1)), (e2 == 2), (w64 (i2 + 1)), r9.1))))
                        (cond ((e2 == 2))
                          (ob (reply r3.1 (w64 (i1 + 1)) (Reply.mk 0 0 (Lease.mk 3 1 0 (-1) [] [] []))) fun r10 =>
                          cond ((cond (r10.2 != 0) true (cond (r10.1.cmd.kind != 0) true (!((r10.1.lease.epoch == 1) == (e2 == 2))))))
                            (some (.inr (.inr (false, r10.1))))
                            (some (.inl (l1, l2, b1, (w64 (i1 + 1)), (e2 == 2), (w64 (i2 + 1)), r10.1))))
                          (ob (reply r3.1 (w64 (i1 + 1)) (Reply.mk 0 0 (Lease.mk 0 0 0 0 [] [] []))) fun r11 =>
                          cond ((cond (r11.2 != 0) true (cond (r11.1.cmd.kind != 0) true (!((r11.1.lease.epoch == 1) == (e2 == 2))))))
                            (some (.inr (.inr (false, r11.1))))
                            (some (.inl (l1, l2, b1, (w64 (i1 + 1)), (e2 == 2), (w64 (i2 + 1)), r11.1))))))
                      (ob (reply r3.1 (w64 (i1 + 1)) (Reply.mk 22 0 (Lease.mk 0 0 0 0 [] [] []))) fun r12 =>
                      cond ((cond (r12.2 != 0) true (cond (r12.1.cmd.kind != 0) true (!((r12.1.lease.epoch == 1) == b2)))))
                        (some (.inr (.inr (false, r12.1))))
                        (some (.inl (l1, l2, b1, (w64 (i1 + 1)), b2, (w64 (i2 + 1)), r12.1)))))))
def deltasAt (a b : Int) : Option Bool :=
  ob (localNew 1 2 [true, false, true]) fun r1 =>
    ob (delta r1.1 0 3 [(Op.mk (Dot.mk 2 1 1) 0 1 1 s_k s_t 0 0 [])]) fun r2 =>
    cond ((cond (r2.2 != 0) true (r2.1.at_ != 3)))
      (some false)
      (ob (some a) fun r3 =>
      cond ((r3 == 0))
        (ob (some b) fun r4 =>
        ob (delta r2.1 (w64 (4 + r4)) 4 [(Op.mk (Dot.mk 2 1 2) 0 1 1 s_k s_t 0 0 [])]) fun r9 =>
        ob (some a) fun r10 =>
        cond ((r10 == 5))
          (cond ((r9.2 != 0))
            (ob (localSame r2.1 r9.1) fun r11 =>
            some r11)
            (some false))
          (cond ((r9.2 == 2))
            (ob (localSame r2.1 r9.1) fun r12 =>
            some r12)
            (some false)))
        (cond ((r3 == 1))
          (ob (some b) fun r5 =>
          ob (delta r2.1 3 (w64 (2 - r5)) [(Op.mk (Dot.mk 2 1 2) 0 1 1 s_k s_t 0 0 [])]) fun r13 =>
          ob (some a) fun r14 =>
          cond ((r14 == 5))
            (cond ((r13.2 != 0))
              (ob (localSame r2.1 r13.1) fun r15 =>
              some r15)
              (some false))
            (cond ((r13.2 == 1))
              (ob (localSame r2.1 r13.1) fun r16 =>
              some r16)
              (some false)))
          (cond ((r3 == 2))
            (cond (decide (0 < ([(Op.mk (Dot.mk 2 1 2) 0 1 1 s_k s_t 0 0 [])].length : Int)))
              (ob ([(Op.mk (Dot.mk 2 1 2) 0 1 1 s_k s_t 0 0 [])][0]?) fun e6 =>
              ob (delta r2.1 3 4 ([(Op.mk (Dot.mk 2 1 2) 0 1 1 s_k s_t 0 0 [])].set 0 (Op.mk e6.dot 1 e6.ver e6.kind e6.key e6.text e6.n e6.time e6.dots))) fun r17 =>
              ob (some a) fun r18 =>
              cond ((r18 == 5))
                (cond ((r17.2 != 0))
                  (ob (localSame r2.1 r17.1) fun r19 =>
                  some r19)
                  (some false))
                (cond ((r17.2 == 1))
                  (ob (localSame r2.1 r17.1) fun r20 =>
                  some r20)
                  (some false)))
              (none))
            (cond ((r3 == 3))
              (cond (decide (0 < ([(Op.mk (Dot.mk 2 1 2) 0 1 1 s_k s_t 0 0 [])].length : Int)))
                (ob ([(Op.mk (Dot.mk 2 1 2) 0 1 1 s_k s_t 0 0 [])][0]?) fun e7 =>
                ob (delta r2.1 3 4 ([(Op.mk (Dot.mk 2 1 2) 0 1 1 s_k s_t 0 0 [])].set 0 (Op.mk e7.dot e7.coll 3 e7.kind e7.key e7.text e7.n e7.time e7.dots))) fun r21 =>
                ob (some a) fun r22 =>
                cond ((r22 == 5))
                  (cond ((r21.2 != 0))
                    (ob (localSame r2.1 r21.1) fun r23 =>
                    some r23)
                    (some false))
                  (cond ((r21.2 == 13))
                    (ob (localSame r2.1 r21.1) fun r24 =>
                    some r24)
                    (some false)))
                (none))
              (cond ((r3 == 4))
                (cond (decide (0 < ([(Op.mk (Dot.mk 2 1 2) 0 1 1 s_k s_t 0 0 [])].length : Int)))
                  (ob ([(Op.mk (Dot.mk 2 1 2) 0 1 1 s_k s_t 0 0 [])][0]?) fun e8 =>
                  ob (delta r2.1 3 4 ([(Op.mk (Dot.mk 2 1 2) 0 1 1 s_k s_t 0 0 [])].set 0 (Op.mk (Dot.mk e8.dot.device e8.dot.epoch 1) e8.coll e8.ver e8.kind e8.key e8.text e8.n e8.time e8.dots))) fun r25 =>
                  ob (some a) fun r26 =>
                  cond ((r26 == 5))
                    (cond ((r25.2 != 0))
                      (ob (localSame r2.1 r25.1) fun r27 =>
                      some r27)
                      (some false))
                    (cond ((r25.2 == 7))
                      (ob (localSame r2.1 r25.1) fun r28 =>
                      some r28)
                      (some false)))
                  (none))
                (cond ((r3 == 5))
                  (cond (fits (([(Op.mk (Dot.mk 2 1 2) 0 1 1 s_k s_t 0 0 [])] ++ [(Op.mk (Dot.mk 0 0 0) 0 0 0 s_empty s_empty 0 0 [])]).length))
                    (ob (delta r2.1 3 4 ([(Op.mk (Dot.mk 2 1 2) 0 1 1 s_k s_t 0 0 [])] ++ [(Op.mk (Dot.mk 0 0 0) 0 0 0 s_empty s_empty 0 0 [])])) fun r29 =>
                    ob (some a) fun r30 =>
                    cond ((r30 == 5))
                      (cond ((r29.2 != 0))
                        (ob (localSame r2.1 r29.1) fun r31 =>
                        some r31)
                        (some false))
                      (cond ((r29.2 == 2))
                        (ob (localSame r2.1 r29.1) fun r32 =>
                        some r32)
                        (some false)))
                    (none))
                  (ob (delta r2.1 3 4 [(Op.mk (Dot.mk 2 1 2) 0 1 1 s_k s_t 0 0 [])]) fun r33 =>
                  ob (some a) fun r34 =>
                  cond ((r34 == 5))
                    (cond ((r33.2 != 0))
                      (ob (localSame r2.1 r33.1) fun r35 =>
                      some r35)
                      (some false))
                    (cond ((r33.2 == 0))
                      (cond ((r33.1.at_ == 4))
                        (ob (localSame r2.1 r33.1) fun r36 =>
                        some (!r36))
                        (some false))
                      (some false)))))))))
def fencedAt (a : Int) (b1 : Bool) : Option Bool :=
  ob (ready) fun r1 =>
    ob (some a) fun r2 =>
    ob (L7_6 r2 b1 0 r1) fun y3 =>
    ob (delta y3.2 0 1 [(Op.mk (Dot.mk 2 1 1) 0 1 1 s_k s_t 0 0 [])]) fun r4 =>
    cond (y3.1)
      (ob (begin_ r4.1 (Cmd.mk 4 0 0 0 0 [] [])) fun r5 =>
      ob (reply r5.1 3 (Reply.mk 16 0 (Lease.mk 0 0 0 0 [] [] []))) fun r6 =>
      ob (do_ r6.1 (Op.mk (Dot.mk 0 0 0) 0 0 1 s_k s_empty 0 0 [])) fun r7 =>
      ob (begin_ r6.1 (Cmd.mk 2 0 0 0 5 [] [])) fun r8 =>
      ob (delta r6.1 1 2 [(Op.mk (Dot.mk 2 1 2) 0 1 1 s_k s_u 0 0 [])]) fun r9 =>
      ob (begin_ r9.1 (Cmd.mk 1 0 0 0 0 [] [])) fun r10 =>
      ob (reply r10.1 r10.1.req (Reply.mk 0 2 (Lease.mk 0 0 0 0 [] [] []))) fun r11 =>
      ob (refReg r11.1.colls.a0 s_k 3) fun r12 =>
      some (cond (r6.2 == 0) (cond r6.1.fenced (cond (r7.2 == 16) (cond (r8.2 == 16) (cond (r9.2 == 0) (cond (r10.2 == 0) (cond (r11.2 == 0) (cond (r11.1.epoch == 2) (cond (r11.1.seq == 0) (cond ((r11.1.pending.length : Int) == 0) (cond (r11.1.lease.epoch == 0) (cond (!r11.1.fenced) (cond (r11.1.at_ == 2) (cond (r12.2 == 0) (!sEq r12.1 s_empty) false) false) false) false) false) false) false) false) false) false) false) false) false) false))
      (ob (reply r4.1 0 (Reply.mk 16 0 (Lease.mk 0 0 0 0 [] [] []))) fun r13 =>
      ob (do_ r13.1 (Op.mk (Dot.mk 0 0 0) 0 0 1 s_k s_empty 0 0 [])) fun r14 =>
      ob (begin_ r13.1 (Cmd.mk 2 0 0 0 5 [] [])) fun r15 =>
      ob (delta r13.1 1 2 [(Op.mk (Dot.mk 2 1 2) 0 1 1 s_k s_u 0 0 [])]) fun r16 =>
      ob (begin_ r16.1 (Cmd.mk 1 0 0 0 0 [] [])) fun r17 =>
      ob (reply r17.1 r17.1.req (Reply.mk 0 2 (Lease.mk 0 0 0 0 [] [] []))) fun r18 =>
      ob (refReg r18.1.colls.a0 s_k 3) fun r19 =>
      some (cond (r13.2 == 0) (cond r13.1.fenced (cond (r14.2 == 16) (cond (r15.2 == 16) (cond (r16.2 == 0) (cond (r17.2 == 0) (cond (r18.2 == 0) (cond (r18.1.epoch == 2) (cond (r18.1.seq == 0) (cond ((r18.1.pending.length : Int) == 0) (cond (r18.1.lease.epoch == 0) (cond (!r18.1.fenced) (cond (r18.1.at_ == 2) (cond (r19.2 == 0) (!sEq r19.1 s_empty) false) false) false) false) false) false) false) false) false) false) false) false) false) false))
end Go.Proofs.YthhfjodcgibhfaaGreat
