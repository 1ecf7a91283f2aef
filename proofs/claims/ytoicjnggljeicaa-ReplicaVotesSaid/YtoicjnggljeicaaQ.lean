/- By program (mkp15.py): the laws behind the reduction of their inputs. -/
import Derived.Test.YtoicjnggljeicaaF
namespace Go.Proofs.Ytoicjnggljeicaa
open Go Go.Ev
def commitsRest (r1 r3 r4 : Int) : Option Bool :=
    ob (lead 0 r1) fun r2 =>
    ob (take r2 (Msg.mk 4 1 0 1 r3 0 0 true [] s_empty)) fun r5 =>
    ob (take r5.1 (Msg.mk 4 2 0 1 r4 0 0 true [] s_empty)) fun r6 =>
    ob (take r6.1 (Msg.mk 4 1 0 0 (w64 (r1 + 1)) 0 0 true [] s_empty)) fun r7 =>
    cond ((r2.role == 2))
      (cond ((r2.commit == 0))
        (cond ((r5.1.commit == r3))
          (cond ((r6.1.commit == (max2 r3 r4)))
            (ob (same r6.1 r7.1) fun r8 =>
            some (cond r8 (cond (r6.1.next.a1 == (w64 (r3 + 1))) (r6.1.match_.a2 == r4) false) false))
            (some false))
          (some false))
        (some false))
      (some false)
def snapsRest (r1 r4 : Int) (b1 : Bool) : Option Bool :=
    ob (lead 0 (w64 (1 + r1))) fun r2 =>
    ob (take r2 (Msg.mk 4 1 0 1 (w64 ((w64 (1 + r1)) + 1)) 0 0 true [] s_empty)) fun r3 =>
    ob (compact r3.1 (w64 (1 + r4)) s_snap) fun r5 =>
    ob (compact r5.1 (w64 (1 + r4)) s_again) fun r6 =>
    ob (compact r5.1 (w64 ((w64 (1 + r1)) + 2)) s_far) fun r7 =>
    ob (tick r5.1) fun r8 =>
    cond ((r5.2 != 0))
      (some false)
      (cond ((r6.2 != 1))
        (some false)
        (cond ((r7.2 != 1))
          (some false)
          (cond ((r5.1.base != (w64 (1 + r4))))
            (some false)
            (cond (((r5.1.log.length : Int) != (w64 ((w64 ((w64 (1 + r1)) + 1)) - (w64 (1 + r4))))))
              (some false)
              (cond (((r8.2.length : Int) != 2))
                (some false)
                (ob (same r8.1 r5.1) fun r9 =>
                cond ((!r9))
                  (some false)
                  (ob (r8.2[1]?) fun e10 =>
                  cond ((e10.kind != 5))
                    (some false)
                    (ob (r8.2[1]?) fun e11 =>
                    cond ((e11.index != (w64 (1 + r4))))
                      (some false)
                      (ob (r8.2[1]?) fun e12 =>
                      cond ((!sEq e12.snap s_snap))
                        (some false)
                        (ob (r8.2[0]?) fun e13 =>
                        cond ((e13.kind != 3))
                          (some false)
                          (ob (r8.2[0]?) fun e14 =>
                          cond ((e14.index != (w64 ((w64 (1 + r1)) + 1))))
                            (some false)
                            (cond (b1)
                              (ob (r8.2[1]?) fun e15 =>
                              ob (take (Node.mk 2 1 (-1) 0 0 s_empty [(Entry.mk 1 s_empty)] 0 0 0 (A3Bool.mk false false false) (A3Int.mk 0 0 0) (A3Int.mk 0 0 0)) e15) fun r16 =>
                              cond (((r16.2.length : Int) == 1))
                                (ob (r16.2[0]?) fun e17 =>
                                cond (e17.yes)
                                  (ob (r16.2[0]?) fun e18 =>
                                  some (cond (e18.index == (w64 (1 + r4))) (cond (r16.1.base == (w64 (1 + r4))) (cond (r16.1.commit == (w64 (1 + r4))) (cond (sEq r16.1.snap s_snap) (cond (r16.1.baseTerm == 1) (r16.1.role == 0) false) false) false) false) false))
                                  (some false))
                                (some false))
                              (ob (r8.2[1]?) fun e19 =>
                              ob (take (Node.mk 2 1 (-1) 0 0 s_empty [] 0 0 0 (A3Bool.mk false false false) (A3Int.mk 0 0 0) (A3Int.mk 0 0 0)) e19) fun r20 =>
                              cond (((r20.2.length : Int) == 1))
                                (ob (r20.2[0]?) fun e21 =>
                                cond (e21.yes)
                                  (ob (r20.2[0]?) fun e22 =>
                                  some (cond (e22.index == (w64 (1 + r4))) (cond (r20.1.base == (w64 (1 + r4))) (cond (r20.1.commit == (w64 (1 + r4))) (cond (sEq r20.1.snap s_snap) (cond (r20.1.baseTerm == 1) (r20.1.role == 0) false) false) false) false) false))
                                  (some false))
                                (some false))))))))))))))
def leadsRest (r1 i2 : Int) (s1 : ByteArray) : Option Bool :=
      ob (propose (Node.mk ((w64 ((r1.tmod 3) + 3)).tmod 3) 0 (-1) 0 0 s_empty [] 0 0 0 (A3Bool.mk false false false) (A3Int.mk 0 0 0) (A3Int.mk 0 0 0)) s_x) fun r2 =>
      ob (L4_9 r1 i2 s1 r2.2.2 0 (Node.mk ((w64 ((r1.tmod 3) + 3)).tmod 3) 0 (-1) 0 0 s_empty [] 0 0 0 (A3Bool.mk false false false) (A3Int.mk 0 0 0) (A3Int.mk 0 0 0))) fun y3 =>
      ob (within y3.2.1 2) fun r4 =>
      ob (take y3.2.2.2.2 (Msg.mk 2 ((w64 ((w64 (y3.1 + 1)) + r4)).tmod 3) y3.1 1 0 0 0 false [] s_empty)) fun r5 =>
      ob (take y3.2.2.2.2 (Msg.mk 2 ((w64 ((w64 (y3.1 + 1)) + r4)).tmod 3) y3.1 0 0 0 0 true [] s_empty)) fun r6 =>
      ob (take y3.2.2.2.2 (Msg.mk 2 ((w64 ((w64 (y3.1 + 1)) + r4)).tmod 3) y3.1 1 0 0 0 true [] s_empty)) fun r7 =>
      cond ((y3.2.2.2.1 != 21))
        (some false)
        (cond (((r5.2.length : Int) != 0))
          (some false)
          (cond (((r6.2.length : Int) != 0))
            (some false)
            (cond ((r5.1.role != 1))
              (some false)
              (cond ((r6.1.role != 1))
                (some false)
                (cond ((r7.1.role != 2))
                  (some false)
                  (cond (((r7.2.length : Int) != 2))
                    (some false)
                    (ob (r7.2[0]?) fun e8 =>
                    cond ((e8.kind != 3))
                      (some false)
                      (ob (r7.2[0]?) fun e9 =>
                      cond (((e9.entries.length : Int) != 1))
                        (some false)
                        (cond (((r7.1.log.length : Int) != 1))
                          (some false)
                          (ob (r7.1.log[0]?) fun e10 =>
                          cond ((!sEq e10.cmd s_empty))
                            (some false)
                            (ob (propose r7.1 y3.2.2.1) fun r11 =>
                            cond ((sEq y3.2.2.1 s_empty))
                              (cond ((r11.2.2 == 1))
                                (cond ((r11.2.1 == 0))
                                  (ob (same r7.1 r11.1) fun r12 =>
                                  some r12)
                                  (some false))
                                (some false))
                              (cond ((r11.2.2 == 0))
                                (cond ((r11.2.1 == 2))
                                  (ob (r11.1.log[1]?) fun e13 =>
                                  cond ((sEq e13.cmd y3.2.2.1))
                                    (ob (r11.1.log[1]?) fun e14 =>
                                    cond ((e14.term_ == 1))
                                      (cond (decide (y3.1 = 0))
                                        (some (r11.1.match_.a0 == 2))
                                        (cond (decide (y3.1 = 1))
                                          (some (r11.1.match_.a1 == 2))
                                          (cond (decide (y3.1 = 2))
                                            (some (r11.1.match_.a2 == 2))
                                            (none))))
                                      (some false))
                                    (some false))
                                  (some false))
                                (some false)))))))))))))
def leadsEnd (id_ : Int) (x : Node) (s : ByteArray) : Option Bool :=
  (ob (propose x s) fun r11 =>
                            cond ((sEq s s_empty))
                              (cond ((r11.2.2 == 1))
                                (cond ((r11.2.1 == 0))
                                  (ob (same x r11.1) fun r12 =>
                                  some r12)
                                  (some false))
                                (some false))
                              (cond ((r11.2.2 == 0))
                                (cond ((r11.2.1 == 2))
                                  (ob (r11.1.log[1]?) fun e13 =>
                                  cond ((sEq e13.cmd s))
                                    (ob (r11.1.log[1]?) fun e14 =>
                                    cond ((e14.term_ == 1))
                                      (cond (decide (id_ = 0))
                                        (some (r11.1.match_.a0 == 2))
                                        (cond (decide (id_ = 1))
                                          (some (r11.1.match_.a1 == 2))
                                          (cond (decide (id_ = 2))
                                            (some (r11.1.match_.a2 == 2))
                                            (none))))
                                      (some false))
                                    (some false))
                                  (some false))
                                (some false)))
def leadsMid (y3 : Int × Int × ByteArray × Int × Node) (r4 : Int) : Option Bool :=
      ob (take y3.2.2.2.2 (Msg.mk 2 ((w64 ((w64 (y3.1 + 1)) + r4)).tmod 3) y3.1 1 0 0 0 false [] s_empty)) fun r5 =>
      ob (take y3.2.2.2.2 (Msg.mk 2 ((w64 ((w64 (y3.1 + 1)) + r4)).tmod 3) y3.1 0 0 0 0 true [] s_empty)) fun r6 =>
      ob (take y3.2.2.2.2 (Msg.mk 2 ((w64 ((w64 (y3.1 + 1)) + r4)).tmod 3) y3.1 1 0 0 0 true [] s_empty)) fun r7 =>
      cond ((y3.2.2.2.1 != 21))
        (some false)
        (cond (((r5.2.length : Int) != 0))
          (some false)
          (cond (((r6.2.length : Int) != 0))
            (some false)
            (cond ((r5.1.role != 1))
              (some false)
              (cond ((r6.1.role != 1))
                (some false)
                (cond ((r7.1.role != 2))
                  (some false)
                  (cond (((r7.2.length : Int) != 2))
                    (some false)
                    (ob (r7.2[0]?) fun e8 =>
                    cond ((e8.kind != 3))
                      (some false)
                      (ob (r7.2[0]?) fun e9 =>
                      cond (((e9.entries.length : Int) != 1))
                        (some false)
                        (cond (((r7.1.log.length : Int) != 1))
                          (some false)
                          (ob (r7.1.log[0]?) fun e10 =>
                          cond ((!sEq e10.cmd s_empty))
                            (some false)
                            (ob (propose r7.1 y3.2.2.1) fun r11 =>
                            cond ((sEq y3.2.2.1 s_empty))
                              (cond ((r11.2.2 == 1))
                                (cond ((r11.2.1 == 0))
                                  (ob (same r7.1 r11.1) fun r12 =>
                                  some r12)
                                  (some false))
                                (some false))
                              (cond ((r11.2.2 == 0))
                                (cond ((r11.2.1 == 2))
                                  (ob (r11.1.log[1]?) fun e13 =>
                                  cond ((sEq e13.cmd y3.2.2.1))
                                    (ob (r11.1.log[1]?) fun e14 =>
                                    cond ((e14.term_ == 1))
                                      (cond (decide (y3.1 = 0))
                                        (some (r11.1.match_.a0 == 2))
                                        (cond (decide (y3.1 = 1))
                                          (some (r11.1.match_.a1 == 2))
                                          (cond (decide (y3.1 = 2))
                                            (some (r11.1.match_.a2 == 2))
                                            (none))))
                                      (some false))
                                    (some false))
                                  (some false))
                                (some false)))))))))))))
def votesRest (y1 : Int × Int × Bool × Node) : Option Bool :=
    ob (last_ (Node.mk y1.2.2.2.id_ 5 y1.2.2.2.vote y1.2.2.2.base y1.2.2.2.baseTerm y1.2.2.2.snap y1.2.2.2.log y1.2.2.2.role y1.2.2.2.commit y1.2.2.2.wait y1.2.2.2.votes y1.2.2.2.next y1.2.2.2.match_)) fun r2 =>
    ob (within y1.1 10) fun r3 =>
    ob (within y1.2.1 7) fun r4 =>
    ob (take (Node.mk y1.2.2.2.id_ 5 y1.2.2.2.vote y1.2.2.2.base y1.2.2.2.baseTerm y1.2.2.2.snap y1.2.2.2.log y1.2.2.2.role y1.2.2.2.commit y1.2.2.2.wait y1.2.2.2.votes y1.2.2.2.next y1.2.2.2.match_) (Msg.mk 1 1 0 6 r3 r4 0 false [] s_empty)) fun r5 =>
    cond (((r5.2.length : Int) != 1))
      (some false)
      (ob (r5.2[0]?) fun e6 =>
      cond ((e6.kind != 2))
        (some false)
        (ob (r5.2[0]?) fun e7 =>
        cond ((!(e7.yes == (cond (decide (r4 > r2.2)) true (cond (r4 == r2.2) (decide (r3 ≥ r2.1)) false)))))
          (some false)
          (ob (r5.2[0]?) fun e8 =>
          cond ((cond (e8.term_ != 6) true (r5.1.term_ != 6)))
            (some false)
            (ob (take r5.1 (Msg.mk 1 (cond y1.2.2.1 1 2) 0 6 9 6 0 false [] s_empty)) fun r9 =>
            ob (take r5.1 (Msg.mk 1 1 0 5 9 5 0 false [] s_empty)) fun r10 =>
            cond (((r9.2.length : Int) == 1))
              (ob (r9.2[0]?) fun e11 =>
              cond (y1.2.2.1)
                (cond ((e11.yes == true))
                  (cond (((r10.2.length : Int) == 1))
                    (ob (r10.2[0]?) fun e12 =>
                    cond ((!e12.yes))
                      (ob (r10.2[0]?) fun e13 =>
                      some (e13.term_ == 6))
                      (some false))
                    (some false))
                  (some false))
                (cond ((e11.yes == (!(cond (decide (r4 > r2.2)) true (cond (r4 == r2.2) (decide (r3 ≥ r2.1)) false)))))
                  (cond (((r10.2.length : Int) == 1))
                    (ob (r10.2[0]?) fun e14 =>
                    cond ((!e14.yes))
                      (ob (r10.2[0]?) fun e15 =>
                      some (e15.term_ == 6))
                      (some false))
                    (some false))
                  (some false)))
              (some false)))))
end Go.Proofs.Ytoicjnggljeicaa
