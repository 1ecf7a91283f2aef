/- By program (gen.py): the functions in their typed form. -/
import Derived.Test.YtoicjnggljeicaaF0
namespace Go.Proofs.Ytoicjnggljeicaa
open Go Go.Ev
set_option maxRecDepth 1000000

/-- replica.worker).heard -/
def heard (m1 : Msg) (w1 : Worker) : Option (Worker) :=
  cond ((cond (m1.term_ != w1.node.term_) true (w1.node.role != 2)))
    (some w1)
    (cond (m1.yes)
      (cond (decide (m1.from_ = 0))
        (cond (decide (m1.from_ = 0))
          (cond (decide (m1.from_ = 0))
            (cond (decide (m1.from_ = 0))
              (ob (reach (Worker.mk (Node.mk w1.node.id_ w1.node.term_ w1.node.vote w1.node.base w1.node.baseTerm w1.node.snap w1.node.log w1.node.role w1.node.commit w1.node.wait w1.node.votes (A3Int.mk (w64 ((max2 w1.node.match_.a0 m1.index) + 1)) w1.node.next.a1 w1.node.next.a2) (A3Int.mk (max2 w1.node.match_.a0 m1.index) w1.node.match_.a1 w1.node.match_.a2)) w1.out)) fun y0 =>
              some y0)
              (cond (decide (m1.from_ = 1))
                (ob (reach (Worker.mk (Node.mk w1.node.id_ w1.node.term_ w1.node.vote w1.node.base w1.node.baseTerm w1.node.snap w1.node.log w1.node.role w1.node.commit w1.node.wait w1.node.votes (A3Int.mk w1.node.next.a0 (w64 ((max2 w1.node.match_.a0 m1.index) + 1)) w1.node.next.a2) (A3Int.mk (max2 w1.node.match_.a0 m1.index) w1.node.match_.a1 w1.node.match_.a2)) w1.out)) fun y1 =>
                some y1)
                (cond (decide (m1.from_ = 2))
                  (ob (reach (Worker.mk (Node.mk w1.node.id_ w1.node.term_ w1.node.vote w1.node.base w1.node.baseTerm w1.node.snap w1.node.log w1.node.role w1.node.commit w1.node.wait w1.node.votes (A3Int.mk w1.node.next.a0 w1.node.next.a1 (w64 ((max2 w1.node.match_.a0 m1.index) + 1))) (A3Int.mk (max2 w1.node.match_.a0 m1.index) w1.node.match_.a1 w1.node.match_.a2)) w1.out)) fun y2 =>
                  some y2)
                  (none))))
            (cond (decide (m1.from_ = 1))
              (cond (decide (m1.from_ = 0))
                (ob (reach (Worker.mk (Node.mk w1.node.id_ w1.node.term_ w1.node.vote w1.node.base w1.node.baseTerm w1.node.snap w1.node.log w1.node.role w1.node.commit w1.node.wait w1.node.votes (A3Int.mk (w64 (w1.node.match_.a1 + 1)) w1.node.next.a1 w1.node.next.a2) (A3Int.mk (max2 w1.node.match_.a0 m1.index) w1.node.match_.a1 w1.node.match_.a2)) w1.out)) fun y3 =>
                some y3)
                (cond (decide (m1.from_ = 1))
                  (ob (reach (Worker.mk (Node.mk w1.node.id_ w1.node.term_ w1.node.vote w1.node.base w1.node.baseTerm w1.node.snap w1.node.log w1.node.role w1.node.commit w1.node.wait w1.node.votes (A3Int.mk w1.node.next.a0 (w64 (w1.node.match_.a1 + 1)) w1.node.next.a2) (A3Int.mk (max2 w1.node.match_.a0 m1.index) w1.node.match_.a1 w1.node.match_.a2)) w1.out)) fun y4 =>
                  some y4)
                  (cond (decide (m1.from_ = 2))
                    (ob (reach (Worker.mk (Node.mk w1.node.id_ w1.node.term_ w1.node.vote w1.node.base w1.node.baseTerm w1.node.snap w1.node.log w1.node.role w1.node.commit w1.node.wait w1.node.votes (A3Int.mk w1.node.next.a0 w1.node.next.a1 (w64 (w1.node.match_.a1 + 1))) (A3Int.mk (max2 w1.node.match_.a0 m1.index) w1.node.match_.a1 w1.node.match_.a2)) w1.out)) fun y5 =>
                    some y5)
                    (none))))
              (cond (decide (m1.from_ = 2))
                (cond (decide (m1.from_ = 0))
                  (ob (reach (Worker.mk (Node.mk w1.node.id_ w1.node.term_ w1.node.vote w1.node.base w1.node.baseTerm w1.node.snap w1.node.log w1.node.role w1.node.commit w1.node.wait w1.node.votes (A3Int.mk (w64 (w1.node.match_.a2 + 1)) w1.node.next.a1 w1.node.next.a2) (A3Int.mk (max2 w1.node.match_.a0 m1.index) w1.node.match_.a1 w1.node.match_.a2)) w1.out)) fun y6 =>
                  some y6)
                  (cond (decide (m1.from_ = 1))
                    (ob (reach (Worker.mk (Node.mk w1.node.id_ w1.node.term_ w1.node.vote w1.node.base w1.node.baseTerm w1.node.snap w1.node.log w1.node.role w1.node.commit w1.node.wait w1.node.votes (A3Int.mk w1.node.next.a0 (w64 (w1.node.match_.a2 + 1)) w1.node.next.a2) (A3Int.mk (max2 w1.node.match_.a0 m1.index) w1.node.match_.a1 w1.node.match_.a2)) w1.out)) fun y7 =>
                    some y7)
                    (cond (decide (m1.from_ = 2))
                      (ob (reach (Worker.mk (Node.mk w1.node.id_ w1.node.term_ w1.node.vote w1.node.base w1.node.baseTerm w1.node.snap w1.node.log w1.node.role w1.node.commit w1.node.wait w1.node.votes (A3Int.mk w1.node.next.a0 w1.node.next.a1 (w64 (w1.node.match_.a2 + 1))) (A3Int.mk (max2 w1.node.match_.a0 m1.index) w1.node.match_.a1 w1.node.match_.a2)) w1.out)) fun y8 =>
                      some y8)
                      (none))))
                (none))))
          (cond (decide (m1.from_ = 1))
            (cond (decide (m1.from_ = 0))
              (cond (decide (m1.from_ = 0))
                (ob (reach (Worker.mk (Node.mk w1.node.id_ w1.node.term_ w1.node.vote w1.node.base w1.node.baseTerm w1.node.snap w1.node.log w1.node.role w1.node.commit w1.node.wait w1.node.votes (A3Int.mk (w64 (w1.node.match_.a0 + 1)) w1.node.next.a1 w1.node.next.a2) (A3Int.mk w1.node.match_.a0 (max2 w1.node.match_.a0 m1.index) w1.node.match_.a2)) w1.out)) fun y9 =>
                some y9)
                (cond (decide (m1.from_ = 1))
                  (ob (reach (Worker.mk (Node.mk w1.node.id_ w1.node.term_ w1.node.vote w1.node.base w1.node.baseTerm w1.node.snap w1.node.log w1.node.role w1.node.commit w1.node.wait w1.node.votes (A3Int.mk w1.node.next.a0 (w64 (w1.node.match_.a0 + 1)) w1.node.next.a2) (A3Int.mk w1.node.match_.a0 (max2 w1.node.match_.a0 m1.index) w1.node.match_.a2)) w1.out)) fun y10 =>
                  some y10)
                  (cond (decide (m1.from_ = 2))
                    (ob (reach (Worker.mk (Node.mk w1.node.id_ w1.node.term_ w1.node.vote w1.node.base w1.node.baseTerm w1.node.snap w1.node.log w1.node.role w1.node.commit w1.node.wait w1.node.votes (A3Int.mk w1.node.next.a0 w1.node.next.a1 (w64 (w1.node.match_.a0 + 1))) (A3Int.mk w1.node.match_.a0 (max2 w1.node.match_.a0 m1.index) w1.node.match_.a2)) w1.out)) fun y11 =>
                    some y11)
                    (none))))
              (cond (decide (m1.from_ = 1))
                (cond (decide (m1.from_ = 0))
                  (ob (reach (Worker.mk (Node.mk w1.node.id_ w1.node.term_ w1.node.vote w1.node.base w1.node.baseTerm w1.node.snap w1.node.log w1.node.role w1.node.commit w1.node.wait w1.node.votes (A3Int.mk (w64 ((max2 w1.node.match_.a0 m1.index) + 1)) w1.node.next.a1 w1.node.next.a2) (A3Int.mk w1.node.match_.a0 (max2 w1.node.match_.a0 m1.index) w1.node.match_.a2)) w1.out)) fun y12 =>
                  some y12)
                  (cond (decide (m1.from_ = 1))
                    (ob (reach (Worker.mk (Node.mk w1.node.id_ w1.node.term_ w1.node.vote w1.node.base w1.node.baseTerm w1.node.snap w1.node.log w1.node.role w1.node.commit w1.node.wait w1.node.votes (A3Int.mk w1.node.next.a0 (w64 ((max2 w1.node.match_.a0 m1.index) + 1)) w1.node.next.a2) (A3Int.mk w1.node.match_.a0 (max2 w1.node.match_.a0 m1.index) w1.node.match_.a2)) w1.out)) fun y13 =>
                    some y13)
                    (cond (decide (m1.from_ = 2))
                      (ob (reach (Worker.mk (Node.mk w1.node.id_ w1.node.term_ w1.node.vote w1.node.base w1.node.baseTerm w1.node.snap w1.node.log w1.node.role w1.node.commit w1.node.wait w1.node.votes (A3Int.mk w1.node.next.a0 w1.node.next.a1 (w64 ((max2 w1.node.match_.a0 m1.index) + 1))) (A3Int.mk w1.node.match_.a0 (max2 w1.node.match_.a0 m1.index) w1.node.match_.a2)) w1.out)) fun y14 =>
                      some y14)
                      (none))))
                (cond (decide (m1.from_ = 2))
                  (cond (decide (m1.from_ = 0))
                    (ob (reach (Worker.mk (Node.mk w1.node.id_ w1.node.term_ w1.node.vote w1.node.base w1.node.baseTerm w1.node.snap w1.node.log w1.node.role w1.node.commit w1.node.wait w1.node.votes (A3Int.mk (w64 (w1.node.match_.a2 + 1)) w1.node.next.a1 w1.node.next.a2) (A3Int.mk w1.node.match_.a0 (max2 w1.node.match_.a0 m1.index) w1.node.match_.a2)) w1.out)) fun y15 =>
                    some y15)
                    (cond (decide (m1.from_ = 1))
                      (ob (reach (Worker.mk (Node.mk w1.node.id_ w1.node.term_ w1.node.vote w1.node.base w1.node.baseTerm w1.node.snap w1.node.log w1.node.role w1.node.commit w1.node.wait w1.node.votes (A3Int.mk w1.node.next.a0 (w64 (w1.node.match_.a2 + 1)) w1.node.next.a2) (A3Int.mk w1.node.match_.a0 (max2 w1.node.match_.a0 m1.index) w1.node.match_.a2)) w1.out)) fun y16 =>
                      some y16)
                      (cond (decide (m1.from_ = 2))
                        (ob (reach (Worker.mk (Node.mk w1.node.id_ w1.node.term_ w1.node.vote w1.node.base w1.node.baseTerm w1.node.snap w1.node.log w1.node.role w1.node.commit w1.node.wait w1.node.votes (A3Int.mk w1.node.next.a0 w1.node.next.a1 (w64 (w1.node.match_.a2 + 1))) (A3Int.mk w1.node.match_.a0 (max2 w1.node.match_.a0 m1.index) w1.node.match_.a2)) w1.out)) fun y17 =>
                        some y17)
                        (none))))
                  (none))))
            (cond (decide (m1.from_ = 2))
              (cond (decide (m1.from_ = 0))
                (cond (decide (m1.from_ = 0))
                  (ob (reach (Worker.mk (Node.mk w1.node.id_ w1.node.term_ w1.node.vote w1.node.base w1.node.baseTerm w1.node.snap w1.node.log w1.node.role w1.node.commit w1.node.wait w1.node.votes (A3Int.mk (w64 (w1.node.match_.a0 + 1)) w1.node.next.a1 w1.node.next.a2) (A3Int.mk w1.node.match_.a0 w1.node.match_.a1 (max2 w1.node.match_.a0 m1.index))) w1.out)) fun y18 =>
                  some y18)
                  (cond (decide (m1.from_ = 1))
                    (ob (reach (Worker.mk (Node.mk w1.node.id_ w1.node.term_ w1.node.vote w1.node.base w1.node.baseTerm w1.node.snap w1.node.log w1.node.role w1.node.commit w1.node.wait w1.node.votes (A3Int.mk w1.node.next.a0 (w64 (w1.node.match_.a0 + 1)) w1.node.next.a2) (A3Int.mk w1.node.match_.a0 w1.node.match_.a1 (max2 w1.node.match_.a0 m1.index))) w1.out)) fun y19 =>
                    some y19)
                    (cond (decide (m1.from_ = 2))
                      (ob (reach (Worker.mk (Node.mk w1.node.id_ w1.node.term_ w1.node.vote w1.node.base w1.node.baseTerm w1.node.snap w1.node.log w1.node.role w1.node.commit w1.node.wait w1.node.votes (A3Int.mk w1.node.next.a0 w1.node.next.a1 (w64 (w1.node.match_.a0 + 1))) (A3Int.mk w1.node.match_.a0 w1.node.match_.a1 (max2 w1.node.match_.a0 m1.index))) w1.out)) fun y20 =>
                      some y20)
                      (none))))
                (cond (decide (m1.from_ = 1))
                  (cond (decide (m1.from_ = 0))
                    (ob (reach (Worker.mk (Node.mk w1.node.id_ w1.node.term_ w1.node.vote w1.node.base w1.node.baseTerm w1.node.snap w1.node.log w1.node.role w1.node.commit w1.node.wait w1.node.votes (A3Int.mk (w64 (w1.node.match_.a1 + 1)) w1.node.next.a1 w1.node.next.a2) (A3Int.mk w1.node.match_.a0 w1.node.match_.a1 (max2 w1.node.match_.a0 m1.index))) w1.out)) fun y21 =>
                    some y21)
                    (cond (decide (m1.from_ = 1))
                      (ob (reach (Worker.mk (Node.mk w1.node.id_ w1.node.term_ w1.node.vote w1.node.base w1.node.baseTerm w1.node.snap w1.node.log w1.node.role w1.node.commit w1.node.wait w1.node.votes (A3Int.mk w1.node.next.a0 (w64 (w1.node.match_.a1 + 1)) w1.node.next.a2) (A3Int.mk w1.node.match_.a0 w1.node.match_.a1 (max2 w1.node.match_.a0 m1.index))) w1.out)) fun y22 =>
                      some y22)
                      (cond (decide (m1.from_ = 2))
                        (ob (reach (Worker.mk (Node.mk w1.node.id_ w1.node.term_ w1.node.vote w1.node.base w1.node.baseTerm w1.node.snap w1.node.log w1.node.role w1.node.commit w1.node.wait w1.node.votes (A3Int.mk w1.node.next.a0 w1.node.next.a1 (w64 (w1.node.match_.a1 + 1))) (A3Int.mk w1.node.match_.a0 w1.node.match_.a1 (max2 w1.node.match_.a0 m1.index))) w1.out)) fun y23 =>
                        some y23)
                        (none))))
                  (cond (decide (m1.from_ = 2))
                    (cond (decide (m1.from_ = 0))
                      (ob (reach (Worker.mk (Node.mk w1.node.id_ w1.node.term_ w1.node.vote w1.node.base w1.node.baseTerm w1.node.snap w1.node.log w1.node.role w1.node.commit w1.node.wait w1.node.votes (A3Int.mk (w64 ((max2 w1.node.match_.a0 m1.index) + 1)) w1.node.next.a1 w1.node.next.a2) (A3Int.mk w1.node.match_.a0 w1.node.match_.a1 (max2 w1.node.match_.a0 m1.index))) w1.out)) fun y24 =>
                      some y24)
                      (cond (decide (m1.from_ = 1))
                        (ob (reach (Worker.mk (Node.mk w1.node.id_ w1.node.term_ w1.node.vote w1.node.base w1.node.baseTerm w1.node.snap w1.node.log w1.node.role w1.node.commit w1.node.wait w1.node.votes (A3Int.mk w1.node.next.a0 (w64 ((max2 w1.node.match_.a0 m1.index) + 1)) w1.node.next.a2) (A3Int.mk w1.node.match_.a0 w1.node.match_.a1 (max2 w1.node.match_.a0 m1.index))) w1.out)) fun y25 =>
                        some y25)
                        (cond (decide (m1.from_ = 2))
                          (ob (reach (Worker.mk (Node.mk w1.node.id_ w1.node.term_ w1.node.vote w1.node.base w1.node.baseTerm w1.node.snap w1.node.log w1.node.role w1.node.commit w1.node.wait w1.node.votes (A3Int.mk w1.node.next.a0 w1.node.next.a1 (w64 ((max2 w1.node.match_.a0 m1.index) + 1))) (A3Int.mk w1.node.match_.a0 w1.node.match_.a1 (max2 w1.node.match_.a0 m1.index))) w1.out)) fun y26 =>
                          some y26)
                          (none))))
                    (none))))
              (none))))
        (cond (decide (m1.from_ = 1))
          (cond (decide (m1.from_ = 0))
            (cond (decide (m1.from_ = 0))
              (cond (decide (m1.from_ = 0))
                (ob (reach (Worker.mk (Node.mk w1.node.id_ w1.node.term_ w1.node.vote w1.node.base w1.node.baseTerm w1.node.snap w1.node.log w1.node.role w1.node.commit w1.node.wait w1.node.votes (A3Int.mk (w64 ((max2 w1.node.match_.a1 m1.index) + 1)) w1.node.next.a1 w1.node.next.a2) (A3Int.mk (max2 w1.node.match_.a1 m1.index) w1.node.match_.a1 w1.node.match_.a2)) w1.out)) fun y27 =>
                some y27)
                (cond (decide (m1.from_ = 1))
                  (ob (reach (Worker.mk (Node.mk w1.node.id_ w1.node.term_ w1.node.vote w1.node.base w1.node.baseTerm w1.node.snap w1.node.log w1.node.role w1.node.commit w1.node.wait w1.node.votes (A3Int.mk w1.node.next.a0 (w64 ((max2 w1.node.match_.a1 m1.index) + 1)) w1.node.next.a2) (A3Int.mk (max2 w1.node.match_.a1 m1.index) w1.node.match_.a1 w1.node.match_.a2)) w1.out)) fun y28 =>
                  some y28)
                  (cond (decide (m1.from_ = 2))
                    (ob (reach (Worker.mk (Node.mk w1.node.id_ w1.node.term_ w1.node.vote w1.node.base w1.node.baseTerm w1.node.snap w1.node.log w1.node.role w1.node.commit w1.node.wait w1.node.votes (A3Int.mk w1.node.next.a0 w1.node.next.a1 (w64 ((max2 w1.node.match_.a1 m1.index) + 1))) (A3Int.mk (max2 w1.node.match_.a1 m1.index) w1.node.match_.a1 w1.node.match_.a2)) w1.out)) fun y29 =>
                    some y29)
                    (none))))
              (cond (decide (m1.from_ = 1))
                (cond (decide (m1.from_ = 0))
                  (ob (reach (Worker.mk (Node.mk w1.node.id_ w1.node.term_ w1.node.vote w1.node.base w1.node.baseTerm w1.node.snap w1.node.log w1.node.role w1.node.commit w1.node.wait w1.node.votes (A3Int.mk (w64 (w1.node.match_.a1 + 1)) w1.node.next.a1 w1.node.next.a2) (A3Int.mk (max2 w1.node.match_.a1 m1.index) w1.node.match_.a1 w1.node.match_.a2)) w1.out)) fun y30 =>
                  some y30)
                  (cond (decide (m1.from_ = 1))
                    (ob (reach (Worker.mk (Node.mk w1.node.id_ w1.node.term_ w1.node.vote w1.node.base w1.node.baseTerm w1.node.snap w1.node.log w1.node.role w1.node.commit w1.node.wait w1.node.votes (A3Int.mk w1.node.next.a0 (w64 (w1.node.match_.a1 + 1)) w1.node.next.a2) (A3Int.mk (max2 w1.node.match_.a1 m1.index) w1.node.match_.a1 w1.node.match_.a2)) w1.out)) fun y31 =>
                    some y31)
                    (cond (decide (m1.from_ = 2))
                      (ob (reach (Worker.mk (Node.mk w1.node.id_ w1.node.term_ w1.node.vote w1.node.base w1.node.baseTerm w1.node.snap w1.node.log w1.node.role w1.node.commit w1.node.wait w1.node.votes (A3Int.mk w1.node.next.a0 w1.node.next.a1 (w64 (w1.node.match_.a1 + 1))) (A3Int.mk (max2 w1.node.match_.a1 m1.index) w1.node.match_.a1 w1.node.match_.a2)) w1.out)) fun y32 =>
                      some y32)
                      (none))))
                (cond (decide (m1.from_ = 2))
                  (cond (decide (m1.from_ = 0))
                    (ob (reach (Worker.mk (Node.mk w1.node.id_ w1.node.term_ w1.node.vote w1.node.base w1.node.baseTerm w1.node.snap w1.node.log w1.node.role w1.node.commit w1.node.wait w1.node.votes (A3Int.mk (w64 (w1.node.match_.a2 + 1)) w1.node.next.a1 w1.node.next.a2) (A3Int.mk (max2 w1.node.match_.a1 m1.index) w1.node.match_.a1 w1.node.match_.a2)) w1.out)) fun y33 =>
                    some y33)
                    (cond (decide (m1.from_ = 1))
                      (ob (reach (Worker.mk (Node.mk w1.node.id_ w1.node.term_ w1.node.vote w1.node.base w1.node.baseTerm w1.node.snap w1.node.log w1.node.role w1.node.commit w1.node.wait w1.node.votes (A3Int.mk w1.node.next.a0 (w64 (w1.node.match_.a2 + 1)) w1.node.next.a2) (A3Int.mk (max2 w1.node.match_.a1 m1.index) w1.node.match_.a1 w1.node.match_.a2)) w1.out)) fun y34 =>
                      some y34)
                      (cond (decide (m1.from_ = 2))
                        (ob (reach (Worker.mk (Node.mk w1.node.id_ w1.node.term_ w1.node.vote w1.node.base w1.node.baseTerm w1.node.snap w1.node.log w1.node.role w1.node.commit w1.node.wait w1.node.votes (A3Int.mk w1.node.next.a0 w1.node.next.a1 (w64 (w1.node.match_.a2 + 1))) (A3Int.mk (max2 w1.node.match_.a1 m1.index) w1.node.match_.a1 w1.node.match_.a2)) w1.out)) fun y35 =>
                        some y35)
                        (none))))
                  (none))))
            (cond (decide (m1.from_ = 1))
              (cond (decide (m1.from_ = 0))
                (cond (decide (m1.from_ = 0))
                  (ob (reach (Worker.mk (Node.mk w1.node.id_ w1.node.term_ w1.node.vote w1.node.base w1.node.baseTerm w1.node.snap w1.node.log w1.node.role w1.node.commit w1.node.wait w1.node.votes (A3Int.mk (w64 (w1.node.match_.a0 + 1)) w1.node.next.a1 w1.node.next.a2) (A3Int.mk w1.node.match_.a0 (max2 w1.node.match_.a1 m1.index) w1.node.match_.a2)) w1.out)) fun y36 =>
                  some y36)
                  (cond (decide (m1.from_ = 1))
                    (ob (reach (Worker.mk (Node.mk w1.node.id_ w1.node.term_ w1.node.vote w1.node.base w1.node.baseTerm w1.node.snap w1.node.log w1.node.role w1.node.commit w1.node.wait w1.node.votes (A3Int.mk w1.node.next.a0 (w64 (w1.node.match_.a0 + 1)) w1.node.next.a2) (A3Int.mk w1.node.match_.a0 (max2 w1.node.match_.a1 m1.index) w1.node.match_.a2)) w1.out)) fun y37 =>
                    some y37)
                    (cond (decide (m1.from_ = 2))
                      (ob (reach (Worker.mk (Node.mk w1.node.id_ w1.node.term_ w1.node.vote w1.node.base w1.node.baseTerm w1.node.snap w1.node.log w1.node.role w1.node.commit w1.node.wait w1.node.votes (A3Int.mk w1.node.next.a0 w1.node.next.a1 (w64 (w1.node.match_.a0 + 1))) (A3Int.mk w1.node.match_.a0 (max2 w1.node.match_.a1 m1.index) w1.node.match_.a2)) w1.out)) fun y38 =>
                      some y38)
                      (none))))
                (cond (decide (m1.from_ = 1))
                  (cond (decide (m1.from_ = 0))
                    (ob (reach (Worker.mk (Node.mk w1.node.id_ w1.node.term_ w1.node.vote w1.node.base w1.node.baseTerm w1.node.snap w1.node.log w1.node.role w1.node.commit w1.node.wait w1.node.votes (A3Int.mk (w64 ((max2 w1.node.match_.a1 m1.index) + 1)) w1.node.next.a1 w1.node.next.a2) (A3Int.mk w1.node.match_.a0 (max2 w1.node.match_.a1 m1.index) w1.node.match_.a2)) w1.out)) fun y39 =>
                    some y39)
                    (cond (decide (m1.from_ = 1))
                      (ob (reach (Worker.mk (Node.mk w1.node.id_ w1.node.term_ w1.node.vote w1.node.base w1.node.baseTerm w1.node.snap w1.node.log w1.node.role w1.node.commit w1.node.wait w1.node.votes (A3Int.mk w1.node.next.a0 (w64 ((max2 w1.node.match_.a1 m1.index) + 1)) w1.node.next.a2) (A3Int.mk w1.node.match_.a0 (max2 w1.node.match_.a1 m1.index) w1.node.match_.a2)) w1.out)) fun y40 =>
                      some y40)
                      (cond (decide (m1.from_ = 2))
                        (ob (reach (Worker.mk (Node.mk w1.node.id_ w1.node.term_ w1.node.vote w1.node.base w1.node.baseTerm w1.node.snap w1.node.log w1.node.role w1.node.commit w1.node.wait w1.node.votes (A3Int.mk w1.node.next.a0 w1.node.next.a1 (w64 ((max2 w1.node.match_.a1 m1.index) + 1))) (A3Int.mk w1.node.match_.a0 (max2 w1.node.match_.a1 m1.index) w1.node.match_.a2)) w1.out)) fun y41 =>
                        some y41)
                        (none))))
                  (cond (decide (m1.from_ = 2))
                    (cond (decide (m1.from_ = 0))
                      (ob (reach (Worker.mk (Node.mk w1.node.id_ w1.node.term_ w1.node.vote w1.node.base w1.node.baseTerm w1.node.snap w1.node.log w1.node.role w1.node.commit w1.node.wait w1.node.votes (A3Int.mk (w64 (w1.node.match_.a2 + 1)) w1.node.next.a1 w1.node.next.a2) (A3Int.mk w1.node.match_.a0 (max2 w1.node.match_.a1 m1.index) w1.node.match_.a2)) w1.out)) fun y42 =>
                      some y42)
                      (cond (decide (m1.from_ = 1))
                        (ob (reach (Worker.mk (Node.mk w1.node.id_ w1.node.term_ w1.node.vote w1.node.base w1.node.baseTerm w1.node.snap w1.node.log w1.node.role w1.node.commit w1.node.wait w1.node.votes (A3Int.mk w1.node.next.a0 (w64 (w1.node.match_.a2 + 1)) w1.node.next.a2) (A3Int.mk w1.node.match_.a0 (max2 w1.node.match_.a1 m1.index) w1.node.match_.a2)) w1.out)) fun y43 =>
                        some y43)
                        (cond (decide (m1.from_ = 2))
                          (ob (reach (Worker.mk (Node.mk w1.node.id_ w1.node.term_ w1.node.vote w1.node.base w1.node.baseTerm w1.node.snap w1.node.log w1.node.role w1.node.commit w1.node.wait w1.node.votes (A3Int.mk w1.node.next.a0 w1.node.next.a1 (w64 (w1.node.match_.a2 + 1))) (A3Int.mk w1.node.match_.a0 (max2 w1.node.match_.a1 m1.index) w1.node.match_.a2)) w1.out)) fun y44 =>
                          some y44)
                          (none))))
                    (none))))
              (cond (decide (m1.from_ = 2))
                (cond (decide (m1.from_ = 0))
                  (cond (decide (m1.from_ = 0))
                    (ob (reach (Worker.mk (Node.mk w1.node.id_ w1.node.term_ w1.node.vote w1.node.base w1.node.baseTerm w1.node.snap w1.node.log w1.node.role w1.node.commit w1.node.wait w1.node.votes (A3Int.mk (w64 (w1.node.match_.a0 + 1)) w1.node.next.a1 w1.node.next.a2) (A3Int.mk w1.node.match_.a0 w1.node.match_.a1 (max2 w1.node.match_.a1 m1.index))) w1.out)) fun y45 =>
                    some y45)
                    (cond (decide (m1.from_ = 1))
                      (ob (reach (Worker.mk (Node.mk w1.node.id_ w1.node.term_ w1.node.vote w1.node.base w1.node.baseTerm w1.node.snap w1.node.log w1.node.role w1.node.commit w1.node.wait w1.node.votes (A3Int.mk w1.node.next.a0 (w64 (w1.node.match_.a0 + 1)) w1.node.next.a2) (A3Int.mk w1.node.match_.a0 w1.node.match_.a1 (max2 w1.node.match_.a1 m1.index))) w1.out)) fun y46 =>
                      some y46)
                      (cond (decide (m1.from_ = 2))
                        (ob (reach (Worker.mk (Node.mk w1.node.id_ w1.node.term_ w1.node.vote w1.node.base w1.node.baseTerm w1.node.snap w1.node.log w1.node.role w1.node.commit w1.node.wait w1.node.votes (A3Int.mk w1.node.next.a0 w1.node.next.a1 (w64 (w1.node.match_.a0 + 1))) (A3Int.mk w1.node.match_.a0 w1.node.match_.a1 (max2 w1.node.match_.a1 m1.index))) w1.out)) fun y47 =>
                        some y47)
                        (none))))
                  (cond (decide (m1.from_ = 1))
                    (cond (decide (m1.from_ = 0))
                      (ob (reach (Worker.mk (Node.mk w1.node.id_ w1.node.term_ w1.node.vote w1.node.base w1.node.baseTerm w1.node.snap w1.node.log w1.node.role w1.node.commit w1.node.wait w1.node.votes (A3Int.mk (w64 (w1.node.match_.a1 + 1)) w1.node.next.a1 w1.node.next.a2) (A3Int.mk w1.node.match_.a0 w1.node.match_.a1 (max2 w1.node.match_.a1 m1.index))) w1.out)) fun y48 =>
                      some y48)
                      (cond (decide (m1.from_ = 1))
                        (ob (reach (Worker.mk (Node.mk w1.node.id_ w1.node.term_ w1.node.vote w1.node.base w1.node.baseTerm w1.node.snap w1.node.log w1.node.role w1.node.commit w1.node.wait w1.node.votes (A3Int.mk w1.node.next.a0 (w64 (w1.node.match_.a1 + 1)) w1.node.next.a2) (A3Int.mk w1.node.match_.a0 w1.node.match_.a1 (max2 w1.node.match_.a1 m1.index))) w1.out)) fun y49 =>
                        some y49)
                        (cond (decide (m1.from_ = 2))
                          (ob (reach (Worker.mk (Node.mk w1.node.id_ w1.node.term_ w1.node.vote w1.node.base w1.node.baseTerm w1.node.snap w1.node.log w1.node.role w1.node.commit w1.node.wait w1.node.votes (A3Int.mk w1.node.next.a0 w1.node.next.a1 (w64 (w1.node.match_.a1 + 1))) (A3Int.mk w1.node.match_.a0 w1.node.match_.a1 (max2 w1.node.match_.a1 m1.index))) w1.out)) fun y50 =>
                          some y50)
                          (none))))
                    (cond (decide (m1.from_ = 2))
                      (cond (decide (m1.from_ = 0))
                        (ob (reach (Worker.mk (Node.mk w1.node.id_ w1.node.term_ w1.node.vote w1.node.base w1.node.baseTerm w1.node.snap w1.node.log w1.node.role w1.node.commit w1.node.wait w1.node.votes (A3Int.mk (w64 ((max2 w1.node.match_.a1 m1.index) + 1)) w1.node.next.a1 w1.node.next.a2) (A3Int.mk w1.node.match_.a0 w1.node.match_.a1 (max2 w1.node.match_.a1 m1.index))) w1.out)) fun y51 =>
                        some y51)
                        (cond (decide (m1.from_ = 1))
                          (ob (reach (Worker.mk (Node.mk w1.node.id_ w1.node.term_ w1.node.vote w1.node.base w1.node.baseTerm w1.node.snap w1.node.log w1.node.role w1.node.commit w1.node.wait w1.node.votes (A3Int.mk w1.node.next.a0 (w64 ((max2 w1.node.match_.a1 m1.index) + 1)) w1.node.next.a2) (A3Int.mk w1.node.match_.a0 w1.node.match_.a1 (max2 w1.node.match_.a1 m1.index))) w1.out)) fun y52 =>
                          some y52)
                          (cond (decide (m1.from_ = 2))
                            (ob (reach (Worker.mk (Node.mk w1.node.id_ w1.node.term_ w1.node.vote w1.node.base w1.node.baseTerm w1.node.snap w1.node.log w1.node.role w1.node.commit w1.node.wait w1.node.votes (A3Int.mk w1.node.next.a0 w1.node.next.a1 (w64 ((max2 w1.node.match_.a1 m1.index) + 1))) (A3Int.mk w1.node.match_.a0 w1.node.match_.a1 (max2 w1.node.match_.a1 m1.index))) w1.out)) fun y53 =>
                            some y53)
                            (none))))
                      (none))))
                (none))))
          (cond (decide (m1.from_ = 2))
            (cond (decide (m1.from_ = 0))
              (cond (decide (m1.from_ = 0))
                (cond (decide (m1.from_ = 0))
                  (ob (reach (Worker.mk (Node.mk w1.node.id_ w1.node.term_ w1.node.vote w1.node.base w1.node.baseTerm w1.node.snap w1.node.log w1.node.role w1.node.commit w1.node.wait w1.node.votes (A3Int.mk (w64 ((max2 w1.node.match_.a2 m1.index) + 1)) w1.node.next.a1 w1.node.next.a2) (A3Int.mk (max2 w1.node.match_.a2 m1.index) w1.node.match_.a1 w1.node.match_.a2)) w1.out)) fun y54 =>
                  some y54)
                  (cond (decide (m1.from_ = 1))
                    (ob (reach (Worker.mk (Node.mk w1.node.id_ w1.node.term_ w1.node.vote w1.node.base w1.node.baseTerm w1.node.snap w1.node.log w1.node.role w1.node.commit w1.node.wait w1.node.votes (A3Int.mk w1.node.next.a0 (w64 ((max2 w1.node.match_.a2 m1.index) + 1)) w1.node.next.a2) (A3Int.mk (max2 w1.node.match_.a2 m1.index) w1.node.match_.a1 w1.node.match_.a2)) w1.out)) fun y55 =>
                    some y55)
                    (cond (decide (m1.from_ = 2))
                      (ob (reach (Worker.mk (Node.mk w1.node.id_ w1.node.term_ w1.node.vote w1.node.base w1.node.baseTerm w1.node.snap w1.node.log w1.node.role w1.node.commit w1.node.wait w1.node.votes (A3Int.mk w1.node.next.a0 w1.node.next.a1 (w64 ((max2 w1.node.match_.a2 m1.index) + 1))) (A3Int.mk (max2 w1.node.match_.a2 m1.index) w1.node.match_.a1 w1.node.match_.a2)) w1.out)) fun y56 =>
                      some y56)
                      (none))))
                (cond (decide (m1.from_ = 1))
                  (cond (decide (m1.from_ = 0))
                    (ob (reach (Worker.mk (Node.mk w1.node.id_ w1.node.term_ w1.node.vote w1.node.base w1.node.baseTerm w1.node.snap w1.node.log w1.node.role w1.node.commit w1.node.wait w1.node.votes (A3Int.mk (w64 (w1.node.match_.a1 + 1)) w1.node.next.a1 w1.node.next.a2) (A3Int.mk (max2 w1.node.match_.a2 m1.index) w1.node.match_.a1 w1.node.match_.a2)) w1.out)) fun y57 =>
                    some y57)
                    (cond (decide (m1.from_ = 1))
                      (ob (reach (Worker.mk (Node.mk w1.node.id_ w1.node.term_ w1.node.vote w1.node.base w1.node.baseTerm w1.node.snap w1.node.log w1.node.role w1.node.commit w1.node.wait w1.node.votes (A3Int.mk w1.node.next.a0 (w64 (w1.node.match_.a1 + 1)) w1.node.next.a2) (A3Int.mk (max2 w1.node.match_.a2 m1.index) w1.node.match_.a1 w1.node.match_.a2)) w1.out)) fun y58 =>
                      some y58)
                      (cond (decide (m1.from_ = 2))
                        (ob (reach (Worker.mk (Node.mk w1.node.id_ w1.node.term_ w1.node.vote w1.node.base w1.node.baseTerm w1.node.snap w1.node.log w1.node.role w1.node.commit w1.node.wait w1.node.votes (A3Int.mk w1.node.next.a0 w1.node.next.a1 (w64 (w1.node.match_.a1 + 1))) (A3Int.mk (max2 w1.node.match_.a2 m1.index) w1.node.match_.a1 w1.node.match_.a2)) w1.out)) fun y59 =>
                        some y59)
                        (none))))
                  (cond (decide (m1.from_ = 2))
                    (cond (decide (m1.from_ = 0))
                      (ob (reach (Worker.mk (Node.mk w1.node.id_ w1.node.term_ w1.node.vote w1.node.base w1.node.baseTerm w1.node.snap w1.node.log w1.node.role w1.node.commit w1.node.wait w1.node.votes (A3Int.mk (w64 (w1.node.match_.a2 + 1)) w1.node.next.a1 w1.node.next.a2) (A3Int.mk (max2 w1.node.match_.a2 m1.index) w1.node.match_.a1 w1.node.match_.a2)) w1.out)) fun y60 =>
                      some y60)
                      (cond (decide (m1.from_ = 1))
                        (ob (reach (Worker.mk (Node.mk w1.node.id_ w1.node.term_ w1.node.vote w1.node.base w1.node.baseTerm w1.node.snap w1.node.log w1.node.role w1.node.commit w1.node.wait w1.node.votes (A3Int.mk w1.node.next.a0 (w64 (w1.node.match_.a2 + 1)) w1.node.next.a2) (A3Int.mk (max2 w1.node.match_.a2 m1.index) w1.node.match_.a1 w1.node.match_.a2)) w1.out)) fun y61 =>
                        some y61)
                        (cond (decide (m1.from_ = 2))
                          (ob (reach (Worker.mk (Node.mk w1.node.id_ w1.node.term_ w1.node.vote w1.node.base w1.node.baseTerm w1.node.snap w1.node.log w1.node.role w1.node.commit w1.node.wait w1.node.votes (A3Int.mk w1.node.next.a0 w1.node.next.a1 (w64 (w1.node.match_.a2 + 1))) (A3Int.mk (max2 w1.node.match_.a2 m1.index) w1.node.match_.a1 w1.node.match_.a2)) w1.out)) fun y62 =>
                          some y62)
                          (none))))
                    (none))))
              (cond (decide (m1.from_ = 1))
                (cond (decide (m1.from_ = 0))
                  (cond (decide (m1.from_ = 0))
                    (ob (reach (Worker.mk (Node.mk w1.node.id_ w1.node.term_ w1.node.vote w1.node.base w1.node.baseTerm w1.node.snap w1.node.log w1.node.role w1.node.commit w1.node.wait w1.node.votes (A3Int.mk (w64 (w1.node.match_.a0 + 1)) w1.node.next.a1 w1.node.next.a2) (A3Int.mk w1.node.match_.a0 (max2 w1.node.match_.a2 m1.index) w1.node.match_.a2)) w1.out)) fun y63 =>
                    some y63)
                    (cond (decide (m1.from_ = 1))
                      (ob (reach (Worker.mk (Node.mk w1.node.id_ w1.node.term_ w1.node.vote w1.node.base w1.node.baseTerm w1.node.snap w1.node.log w1.node.role w1.node.commit w1.node.wait w1.node.votes (A3Int.mk w1.node.next.a0 (w64 (w1.node.match_.a0 + 1)) w1.node.next.a2) (A3Int.mk w1.node.match_.a0 (max2 w1.node.match_.a2 m1.index) w1.node.match_.a2)) w1.out)) fun y64 =>
                      some y64)
                      (cond (decide (m1.from_ = 2))
                        (ob (reach (Worker.mk (Node.mk w1.node.id_ w1.node.term_ w1.node.vote w1.node.base w1.node.baseTerm w1.node.snap w1.node.log w1.node.role w1.node.commit w1.node.wait w1.node.votes (A3Int.mk w1.node.next.a0 w1.node.next.a1 (w64 (w1.node.match_.a0 + 1))) (A3Int.mk w1.node.match_.a0 (max2 w1.node.match_.a2 m1.index) w1.node.match_.a2)) w1.out)) fun y65 =>
                        some y65)
                        (none))))
                  (cond (decide (m1.from_ = 1))
                    (cond (decide (m1.from_ = 0))
                      (ob (reach (Worker.mk (Node.mk w1.node.id_ w1.node.term_ w1.node.vote w1.node.base w1.node.baseTerm w1.node.snap w1.node.log w1.node.role w1.node.commit w1.node.wait w1.node.votes (A3Int.mk (w64 ((max2 w1.node.match_.a2 m1.index) + 1)) w1.node.next.a1 w1.node.next.a2) (A3Int.mk w1.node.match_.a0 (max2 w1.node.match_.a2 m1.index) w1.node.match_.a2)) w1.out)) fun y66 =>
                      some y66)
                      (cond (decide (m1.from_ = 1))
                        (ob (reach (Worker.mk (Node.mk w1.node.id_ w1.node.term_ w1.node.vote w1.node.base w1.node.baseTerm w1.node.snap w1.node.log w1.node.role w1.node.commit w1.node.wait w1.node.votes (A3Int.mk w1.node.next.a0 (w64 ((max2 w1.node.match_.a2 m1.index) + 1)) w1.node.next.a2) (A3Int.mk w1.node.match_.a0 (max2 w1.node.match_.a2 m1.index) w1.node.match_.a2)) w1.out)) fun y67 =>
                        some y67)
                        (cond (decide (m1.from_ = 2))
                          (ob (reach (Worker.mk (Node.mk w1.node.id_ w1.node.term_ w1.node.vote w1.node.base w1.node.baseTerm w1.node.snap w1.node.log w1.node.role w1.node.commit w1.node.wait w1.node.votes (A3Int.mk w1.node.next.a0 w1.node.next.a1 (w64 ((max2 w1.node.match_.a2 m1.index) + 1))) (A3Int.mk w1.node.match_.a0 (max2 w1.node.match_.a2 m1.index) w1.node.match_.a2)) w1.out)) fun y68 =>
                          some y68)
                          (none))))
                    (cond (decide (m1.from_ = 2))
                      (cond (decide (m1.from_ = 0))
                        (ob (reach (Worker.mk (Node.mk w1.node.id_ w1.node.term_ w1.node.vote w1.node.base w1.node.baseTerm w1.node.snap w1.node.log w1.node.role w1.node.commit w1.node.wait w1.node.votes (A3Int.mk (w64 (w1.node.match_.a2 + 1)) w1.node.next.a1 w1.node.next.a2) (A3Int.mk w1.node.match_.a0 (max2 w1.node.match_.a2 m1.index) w1.node.match_.a2)) w1.out)) fun y69 =>
                        some y69)
                        (cond (decide (m1.from_ = 1))
                          (ob (reach (Worker.mk (Node.mk w1.node.id_ w1.node.term_ w1.node.vote w1.node.base w1.node.baseTerm w1.node.snap w1.node.log w1.node.role w1.node.commit w1.node.wait w1.node.votes (A3Int.mk w1.node.next.a0 (w64 (w1.node.match_.a2 + 1)) w1.node.next.a2) (A3Int.mk w1.node.match_.a0 (max2 w1.node.match_.a2 m1.index) w1.node.match_.a2)) w1.out)) fun y70 =>
                          some y70)
                          (cond (decide (m1.from_ = 2))
                            (ob (reach (Worker.mk (Node.mk w1.node.id_ w1.node.term_ w1.node.vote w1.node.base w1.node.baseTerm w1.node.snap w1.node.log w1.node.role w1.node.commit w1.node.wait w1.node.votes (A3Int.mk w1.node.next.a0 w1.node.next.a1 (w64 (w1.node.match_.a2 + 1))) (A3Int.mk w1.node.match_.a0 (max2 w1.node.match_.a2 m1.index) w1.node.match_.a2)) w1.out)) fun y71 =>
                            some y71)
                            (none))))
                      (none))))
                (cond (decide (m1.from_ = 2))
                  (cond (decide (m1.from_ = 0))
                    (cond (decide (m1.from_ = 0))
                      (ob (reach (Worker.mk (Node.mk w1.node.id_ w1.node.term_ w1.node.vote w1.node.base w1.node.baseTerm w1.node.snap w1.node.log w1.node.role w1.node.commit w1.node.wait w1.node.votes (A3Int.mk (w64 (w1.node.match_.a0 + 1)) w1.node.next.a1 w1.node.next.a2) (A3Int.mk w1.node.match_.a0 w1.node.match_.a1 (max2 w1.node.match_.a2 m1.index))) w1.out)) fun y72 =>
                      some y72)
                      (cond (decide (m1.from_ = 1))
                        (ob (reach (Worker.mk (Node.mk w1.node.id_ w1.node.term_ w1.node.vote w1.node.base w1.node.baseTerm w1.node.snap w1.node.log w1.node.role w1.node.commit w1.node.wait w1.node.votes (A3Int.mk w1.node.next.a0 (w64 (w1.node.match_.a0 + 1)) w1.node.next.a2) (A3Int.mk w1.node.match_.a0 w1.node.match_.a1 (max2 w1.node.match_.a2 m1.index))) w1.out)) fun y73 =>
                        some y73)
                        (cond (decide (m1.from_ = 2))
                          (ob (reach (Worker.mk (Node.mk w1.node.id_ w1.node.term_ w1.node.vote w1.node.base w1.node.baseTerm w1.node.snap w1.node.log w1.node.role w1.node.commit w1.node.wait w1.node.votes (A3Int.mk w1.node.next.a0 w1.node.next.a1 (w64 (w1.node.match_.a0 + 1))) (A3Int.mk w1.node.match_.a0 w1.node.match_.a1 (max2 w1.node.match_.a2 m1.index))) w1.out)) fun y74 =>
                          some y74)
                          (none))))
                    (cond (decide (m1.from_ = 1))
                      (cond (decide (m1.from_ = 0))
                        (ob (reach (Worker.mk (Node.mk w1.node.id_ w1.node.term_ w1.node.vote w1.node.base w1.node.baseTerm w1.node.snap w1.node.log w1.node.role w1.node.commit w1.node.wait w1.node.votes (A3Int.mk (w64 (w1.node.match_.a1 + 1)) w1.node.next.a1 w1.node.next.a2) (A3Int.mk w1.node.match_.a0 w1.node.match_.a1 (max2 w1.node.match_.a2 m1.index))) w1.out)) fun y75 =>
                        some y75)
                        (cond (decide (m1.from_ = 1))
                          (ob (reach (Worker.mk (Node.mk w1.node.id_ w1.node.term_ w1.node.vote w1.node.base w1.node.baseTerm w1.node.snap w1.node.log w1.node.role w1.node.commit w1.node.wait w1.node.votes (A3Int.mk w1.node.next.a0 (w64 (w1.node.match_.a1 + 1)) w1.node.next.a2) (A3Int.mk w1.node.match_.a0 w1.node.match_.a1 (max2 w1.node.match_.a2 m1.index))) w1.out)) fun y76 =>
                          some y76)
                          (cond (decide (m1.from_ = 2))
                            (ob (reach (Worker.mk (Node.mk w1.node.id_ w1.node.term_ w1.node.vote w1.node.base w1.node.baseTerm w1.node.snap w1.node.log w1.node.role w1.node.commit w1.node.wait w1.node.votes (A3Int.mk w1.node.next.a0 w1.node.next.a1 (w64 (w1.node.match_.a1 + 1))) (A3Int.mk w1.node.match_.a0 w1.node.match_.a1 (max2 w1.node.match_.a2 m1.index))) w1.out)) fun y77 =>
                            some y77)
                            (none))))
                      (cond (decide (m1.from_ = 2))
                        (cond (decide (m1.from_ = 0))
                          (ob (reach (Worker.mk (Node.mk w1.node.id_ w1.node.term_ w1.node.vote w1.node.base w1.node.baseTerm w1.node.snap w1.node.log w1.node.role w1.node.commit w1.node.wait w1.node.votes (A3Int.mk (w64 ((max2 w1.node.match_.a2 m1.index) + 1)) w1.node.next.a1 w1.node.next.a2) (A3Int.mk w1.node.match_.a0 w1.node.match_.a1 (max2 w1.node.match_.a2 m1.index))) w1.out)) fun y78 =>
                          some y78)
                          (cond (decide (m1.from_ = 1))
                            (ob (reach (Worker.mk (Node.mk w1.node.id_ w1.node.term_ w1.node.vote w1.node.base w1.node.baseTerm w1.node.snap w1.node.log w1.node.role w1.node.commit w1.node.wait w1.node.votes (A3Int.mk w1.node.next.a0 (w64 ((max2 w1.node.match_.a2 m1.index) + 1)) w1.node.next.a2) (A3Int.mk w1.node.match_.a0 w1.node.match_.a1 (max2 w1.node.match_.a2 m1.index))) w1.out)) fun y79 =>
                            some y79)
                            (cond (decide (m1.from_ = 2))
                              (ob (reach (Worker.mk (Node.mk w1.node.id_ w1.node.term_ w1.node.vote w1.node.base w1.node.baseTerm w1.node.snap w1.node.log w1.node.role w1.node.commit w1.node.wait w1.node.votes (A3Int.mk w1.node.next.a0 w1.node.next.a1 (w64 ((max2 w1.node.match_.a2 m1.index) + 1))) (A3Int.mk w1.node.match_.a0 w1.node.match_.a1 (max2 w1.node.match_.a2 m1.index))) w1.out)) fun y80 =>
                              some y80)
                              (none))))
                        (none))))
                  (none))))
            (none))))
      (cond (decide (m1.from_ = 0))
        (cond (decide (m1.from_ = 0))
          (cond (decide (m1.from_ = 0))
            (ob (last_ (Node.mk w1.node.id_ w1.node.term_ w1.node.vote w1.node.base w1.node.baseTerm w1.node.snap w1.node.log w1.node.role w1.node.commit w1.node.wait w1.node.votes (A3Int.mk (max2 (max2 (min2 (w64 (w1.node.next.a0 - 1)) (w64 (m1.index + 1))) 1) (w64 (w1.node.match_.a0 + 1))) w1.node.next.a1 w1.node.next.a2) w1.node.match_)) fun r81 =>
            cond (decide (m1.from_ = 0))
              (cond ((decide ((max2 (max2 (min2 (w64 (w1.node.next.a0 - 1)) (w64 (m1.index + 1))) 1) (w64 (w1.node.match_.a0 + 1))) ≤ r81.1)))
                (ob (owe m1.from_ (Worker.mk (Node.mk w1.node.id_ w1.node.term_ w1.node.vote w1.node.base w1.node.baseTerm w1.node.snap w1.node.log w1.node.role w1.node.commit w1.node.wait w1.node.votes (A3Int.mk (max2 (max2 (min2 (w64 (w1.node.next.a0 - 1)) (w64 (m1.index + 1))) 1) (w64 (w1.node.match_.a0 + 1))) w1.node.next.a1 w1.node.next.a2) w1.node.match_) w1.out)) fun y82 =>
                some y82)
                (some (Worker.mk (Node.mk w1.node.id_ w1.node.term_ w1.node.vote w1.node.base w1.node.baseTerm w1.node.snap w1.node.log w1.node.role w1.node.commit w1.node.wait w1.node.votes (A3Int.mk (max2 (max2 (min2 (w64 (w1.node.next.a0 - 1)) (w64 (m1.index + 1))) 1) (w64 (w1.node.match_.a0 + 1))) w1.node.next.a1 w1.node.next.a2) w1.node.match_) w1.out)))
              (cond (decide (m1.from_ = 1))
                (cond ((decide (w1.node.next.a1 ≤ r81.1)))
                  (ob (owe m1.from_ (Worker.mk (Node.mk w1.node.id_ w1.node.term_ w1.node.vote w1.node.base w1.node.baseTerm w1.node.snap w1.node.log w1.node.role w1.node.commit w1.node.wait w1.node.votes (A3Int.mk (max2 (max2 (min2 (w64 (w1.node.next.a0 - 1)) (w64 (m1.index + 1))) 1) (w64 (w1.node.match_.a0 + 1))) w1.node.next.a1 w1.node.next.a2) w1.node.match_) w1.out)) fun y83 =>
                  some y83)
                  (some (Worker.mk (Node.mk w1.node.id_ w1.node.term_ w1.node.vote w1.node.base w1.node.baseTerm w1.node.snap w1.node.log w1.node.role w1.node.commit w1.node.wait w1.node.votes (A3Int.mk (max2 (max2 (min2 (w64 (w1.node.next.a0 - 1)) (w64 (m1.index + 1))) 1) (w64 (w1.node.match_.a0 + 1))) w1.node.next.a1 w1.node.next.a2) w1.node.match_) w1.out)))
                (cond (decide (m1.from_ = 2))
                  (cond ((decide (w1.node.next.a2 ≤ r81.1)))
                    (ob (owe m1.from_ (Worker.mk (Node.mk w1.node.id_ w1.node.term_ w1.node.vote w1.node.base w1.node.baseTerm w1.node.snap w1.node.log w1.node.role w1.node.commit w1.node.wait w1.node.votes (A3Int.mk (max2 (max2 (min2 (w64 (w1.node.next.a0 - 1)) (w64 (m1.index + 1))) 1) (w64 (w1.node.match_.a0 + 1))) w1.node.next.a1 w1.node.next.a2) w1.node.match_) w1.out)) fun y84 =>
                    some y84)
                    (some (Worker.mk (Node.mk w1.node.id_ w1.node.term_ w1.node.vote w1.node.base w1.node.baseTerm w1.node.snap w1.node.log w1.node.role w1.node.commit w1.node.wait w1.node.votes (A3Int.mk (max2 (max2 (min2 (w64 (w1.node.next.a0 - 1)) (w64 (m1.index + 1))) 1) (w64 (w1.node.match_.a0 + 1))) w1.node.next.a1 w1.node.next.a2) w1.node.match_) w1.out)))
                  (none))))
            (cond (decide (m1.from_ = 1))
              (ob (last_ (Node.mk w1.node.id_ w1.node.term_ w1.node.vote w1.node.base w1.node.baseTerm w1.node.snap w1.node.log w1.node.role w1.node.commit w1.node.wait w1.node.votes (A3Int.mk w1.node.next.a0 (max2 (max2 (min2 (w64 (w1.node.next.a0 - 1)) (w64 (m1.index + 1))) 1) (w64 (w1.node.match_.a0 + 1))) w1.node.next.a2) w1.node.match_)) fun r85 =>
              cond (decide (m1.from_ = 0))
                (cond ((decide (w1.node.next.a0 ≤ r85.1)))
                  (ob (owe m1.from_ (Worker.mk (Node.mk w1.node.id_ w1.node.term_ w1.node.vote w1.node.base w1.node.baseTerm w1.node.snap w1.node.log w1.node.role w1.node.commit w1.node.wait w1.node.votes (A3Int.mk w1.node.next.a0 (max2 (max2 (min2 (w64 (w1.node.next.a0 - 1)) (w64 (m1.index + 1))) 1) (w64 (w1.node.match_.a0 + 1))) w1.node.next.a2) w1.node.match_) w1.out)) fun y86 =>
                  some y86)
                  (some (Worker.mk (Node.mk w1.node.id_ w1.node.term_ w1.node.vote w1.node.base w1.node.baseTerm w1.node.snap w1.node.log w1.node.role w1.node.commit w1.node.wait w1.node.votes (A3Int.mk w1.node.next.a0 (max2 (max2 (min2 (w64 (w1.node.next.a0 - 1)) (w64 (m1.index + 1))) 1) (w64 (w1.node.match_.a0 + 1))) w1.node.next.a2) w1.node.match_) w1.out)))
                (cond (decide (m1.from_ = 1))
                  (cond ((decide ((max2 (max2 (min2 (w64 (w1.node.next.a0 - 1)) (w64 (m1.index + 1))) 1) (w64 (w1.node.match_.a0 + 1))) ≤ r85.1)))
                    (ob (owe m1.from_ (Worker.mk (Node.mk w1.node.id_ w1.node.term_ w1.node.vote w1.node.base w1.node.baseTerm w1.node.snap w1.node.log w1.node.role w1.node.commit w1.node.wait w1.node.votes (A3Int.mk w1.node.next.a0 (max2 (max2 (min2 (w64 (w1.node.next.a0 - 1)) (w64 (m1.index + 1))) 1) (w64 (w1.node.match_.a0 + 1))) w1.node.next.a2) w1.node.match_) w1.out)) fun y87 =>
                    some y87)
                    (some (Worker.mk (Node.mk w1.node.id_ w1.node.term_ w1.node.vote w1.node.base w1.node.baseTerm w1.node.snap w1.node.log w1.node.role w1.node.commit w1.node.wait w1.node.votes (A3Int.mk w1.node.next.a0 (max2 (max2 (min2 (w64 (w1.node.next.a0 - 1)) (w64 (m1.index + 1))) 1) (w64 (w1.node.match_.a0 + 1))) w1.node.next.a2) w1.node.match_) w1.out)))
                  (cond (decide (m1.from_ = 2))
                    (cond ((decide (w1.node.next.a2 ≤ r85.1)))
                      (ob (owe m1.from_ (Worker.mk (Node.mk w1.node.id_ w1.node.term_ w1.node.vote w1.node.base w1.node.baseTerm w1.node.snap w1.node.log w1.node.role w1.node.commit w1.node.wait w1.node.votes (A3Int.mk w1.node.next.a0 (max2 (max2 (min2 (w64 (w1.node.next.a0 - 1)) (w64 (m1.index + 1))) 1) (w64 (w1.node.match_.a0 + 1))) w1.node.next.a2) w1.node.match_) w1.out)) fun y88 =>
                      some y88)
                      (some (Worker.mk (Node.mk w1.node.id_ w1.node.term_ w1.node.vote w1.node.base w1.node.baseTerm w1.node.snap w1.node.log w1.node.role w1.node.commit w1.node.wait w1.node.votes (A3Int.mk w1.node.next.a0 (max2 (max2 (min2 (w64 (w1.node.next.a0 - 1)) (w64 (m1.index + 1))) 1) (w64 (w1.node.match_.a0 + 1))) w1.node.next.a2) w1.node.match_) w1.out)))
                    (none))))
              (cond (decide (m1.from_ = 2))
                (ob (last_ (Node.mk w1.node.id_ w1.node.term_ w1.node.vote w1.node.base w1.node.baseTerm w1.node.snap w1.node.log w1.node.role w1.node.commit w1.node.wait w1.node.votes (A3Int.mk w1.node.next.a0 w1.node.next.a1 (max2 (max2 (min2 (w64 (w1.node.next.a0 - 1)) (w64 (m1.index + 1))) 1) (w64 (w1.node.match_.a0 + 1)))) w1.node.match_)) fun r89 =>
                cond (decide (m1.from_ = 0))
                  (cond ((decide (w1.node.next.a0 ≤ r89.1)))
                    (ob (owe m1.from_ (Worker.mk (Node.mk w1.node.id_ w1.node.term_ w1.node.vote w1.node.base w1.node.baseTerm w1.node.snap w1.node.log w1.node.role w1.node.commit w1.node.wait w1.node.votes (A3Int.mk w1.node.next.a0 w1.node.next.a1 (max2 (max2 (min2 (w64 (w1.node.next.a0 - 1)) (w64 (m1.index + 1))) 1) (w64 (w1.node.match_.a0 + 1)))) w1.node.match_) w1.out)) fun y90 =>
                    some y90)
                    (some (Worker.mk (Node.mk w1.node.id_ w1.node.term_ w1.node.vote w1.node.base w1.node.baseTerm w1.node.snap w1.node.log w1.node.role w1.node.commit w1.node.wait w1.node.votes (A3Int.mk w1.node.next.a0 w1.node.next.a1 (max2 (max2 (min2 (w64 (w1.node.next.a0 - 1)) (w64 (m1.index + 1))) 1) (w64 (w1.node.match_.a0 + 1)))) w1.node.match_) w1.out)))
                  (cond (decide (m1.from_ = 1))
                    (cond ((decide (w1.node.next.a1 ≤ r89.1)))
                      (ob (owe m1.from_ (Worker.mk (Node.mk w1.node.id_ w1.node.term_ w1.node.vote w1.node.base w1.node.baseTerm w1.node.snap w1.node.log w1.node.role w1.node.commit w1.node.wait w1.node.votes (A3Int.mk w1.node.next.a0 w1.node.next.a1 (max2 (max2 (min2 (w64 (w1.node.next.a0 - 1)) (w64 (m1.index + 1))) 1) (w64 (w1.node.match_.a0 + 1)))) w1.node.match_) w1.out)) fun y91 =>
                      some y91)
                      (some (Worker.mk (Node.mk w1.node.id_ w1.node.term_ w1.node.vote w1.node.base w1.node.baseTerm w1.node.snap w1.node.log w1.node.role w1.node.commit w1.node.wait w1.node.votes (A3Int.mk w1.node.next.a0 w1.node.next.a1 (max2 (max2 (min2 (w64 (w1.node.next.a0 - 1)) (w64 (m1.index + 1))) 1) (w64 (w1.node.match_.a0 + 1)))) w1.node.match_) w1.out)))
                    (cond (decide (m1.from_ = 2))
                      (cond ((decide ((max2 (max2 (min2 (w64 (w1.node.next.a0 - 1)) (w64 (m1.index + 1))) 1) (w64 (w1.node.match_.a0 + 1))) ≤ r89.1)))
                        (ob (owe m1.from_ (Worker.mk (Node.mk w1.node.id_ w1.node.term_ w1.node.vote w1.node.base w1.node.baseTerm w1.node.snap w1.node.log w1.node.role w1.node.commit w1.node.wait w1.node.votes (A3Int.mk w1.node.next.a0 w1.node.next.a1 (max2 (max2 (min2 (w64 (w1.node.next.a0 - 1)) (w64 (m1.index + 1))) 1) (w64 (w1.node.match_.a0 + 1)))) w1.node.match_) w1.out)) fun y92 =>
                        some y92)
                        (some (Worker.mk (Node.mk w1.node.id_ w1.node.term_ w1.node.vote w1.node.base w1.node.baseTerm w1.node.snap w1.node.log w1.node.role w1.node.commit w1.node.wait w1.node.votes (A3Int.mk w1.node.next.a0 w1.node.next.a1 (max2 (max2 (min2 (w64 (w1.node.next.a0 - 1)) (w64 (m1.index + 1))) 1) (w64 (w1.node.match_.a0 + 1)))) w1.node.match_) w1.out)))
                      (none))))
                (none))))
          (cond (decide (m1.from_ = 1))
            (cond (decide (m1.from_ = 0))
              (ob (last_ (Node.mk w1.node.id_ w1.node.term_ w1.node.vote w1.node.base w1.node.baseTerm w1.node.snap w1.node.log w1.node.role w1.node.commit w1.node.wait w1.node.votes (A3Int.mk (max2 (max2 (min2 (w64 (w1.node.next.a0 - 1)) (w64 (m1.index + 1))) 1) (w64 (w1.node.match_.a1 + 1))) w1.node.next.a1 w1.node.next.a2) w1.node.match_)) fun r93 =>
              cond (decide (m1.from_ = 0))
                (cond ((decide ((max2 (max2 (min2 (w64 (w1.node.next.a0 - 1)) (w64 (m1.index + 1))) 1) (w64 (w1.node.match_.a1 + 1))) ≤ r93.1)))
                  (ob (owe m1.from_ (Worker.mk (Node.mk w1.node.id_ w1.node.term_ w1.node.vote w1.node.base w1.node.baseTerm w1.node.snap w1.node.log w1.node.role w1.node.commit w1.node.wait w1.node.votes (A3Int.mk (max2 (max2 (min2 (w64 (w1.node.next.a0 - 1)) (w64 (m1.index + 1))) 1) (w64 (w1.node.match_.a1 + 1))) w1.node.next.a1 w1.node.next.a2) w1.node.match_) w1.out)) fun y94 =>
                  some y94)
                  (some (Worker.mk (Node.mk w1.node.id_ w1.node.term_ w1.node.vote w1.node.base w1.node.baseTerm w1.node.snap w1.node.log w1.node.role w1.node.commit w1.node.wait w1.node.votes (A3Int.mk (max2 (max2 (min2 (w64 (w1.node.next.a0 - 1)) (w64 (m1.index + 1))) 1) (w64 (w1.node.match_.a1 + 1))) w1.node.next.a1 w1.node.next.a2) w1.node.match_) w1.out)))
                (cond (decide (m1.from_ = 1))
                  (cond ((decide (w1.node.next.a1 ≤ r93.1)))
                    (ob (owe m1.from_ (Worker.mk (Node.mk w1.node.id_ w1.node.term_ w1.node.vote w1.node.base w1.node.baseTerm w1.node.snap w1.node.log w1.node.role w1.node.commit w1.node.wait w1.node.votes (A3Int.mk (max2 (max2 (min2 (w64 (w1.node.next.a0 - 1)) (w64 (m1.index + 1))) 1) (w64 (w1.node.match_.a1 + 1))) w1.node.next.a1 w1.node.next.a2) w1.node.match_) w1.out)) fun y95 =>
                    some y95)
                    (some (Worker.mk (Node.mk w1.node.id_ w1.node.term_ w1.node.vote w1.node.base w1.node.baseTerm w1.node.snap w1.node.log w1.node.role w1.node.commit w1.node.wait w1.node.votes (A3Int.mk (max2 (max2 (min2 (w64 (w1.node.next.a0 - 1)) (w64 (m1.index + 1))) 1) (w64 (w1.node.match_.a1 + 1))) w1.node.next.a1 w1.node.next.a2) w1.node.match_) w1.out)))
                  (cond (decide (m1.from_ = 2))
                    (cond ((decide (w1.node.next.a2 ≤ r93.1)))
                      (ob (owe m1.from_ (Worker.mk (Node.mk w1.node.id_ w1.node.term_ w1.node.vote w1.node.base w1.node.baseTerm w1.node.snap w1.node.log w1.node.role w1.node.commit w1.node.wait w1.node.votes (A3Int.mk (max2 (max2 (min2 (w64 (w1.node.next.a0 - 1)) (w64 (m1.index + 1))) 1) (w64 (w1.node.match_.a1 + 1))) w1.node.next.a1 w1.node.next.a2) w1.node.match_) w1.out)) fun y96 =>
                      some y96)
                      (some (Worker.mk (Node.mk w1.node.id_ w1.node.term_ w1.node.vote w1.node.base w1.node.baseTerm w1.node.snap w1.node.log w1.node.role w1.node.commit w1.node.wait w1.node.votes (A3Int.mk (max2 (max2 (min2 (w64 (w1.node.next.a0 - 1)) (w64 (m1.index + 1))) 1) (w64 (w1.node.match_.a1 + 1))) w1.node.next.a1 w1.node.next.a2) w1.node.match_) w1.out)))
                    (none))))
              (cond (decide (m1.from_ = 1))
                (ob (last_ (Node.mk w1.node.id_ w1.node.term_ w1.node.vote w1.node.base w1.node.baseTerm w1.node.snap w1.node.log w1.node.role w1.node.commit w1.node.wait w1.node.votes (A3Int.mk w1.node.next.a0 (max2 (max2 (min2 (w64 (w1.node.next.a0 - 1)) (w64 (m1.index + 1))) 1) (w64 (w1.node.match_.a1 + 1))) w1.node.next.a2) w1.node.match_)) fun r97 =>
                cond (decide (m1.from_ = 0))
                  (cond ((decide (w1.node.next.a0 ≤ r97.1)))
                    (ob (owe m1.from_ (Worker.mk (Node.mk w1.node.id_ w1.node.term_ w1.node.vote w1.node.base w1.node.baseTerm w1.node.snap w1.node.log w1.node.role w1.node.commit w1.node.wait w1.node.votes (A3Int.mk w1.node.next.a0 (max2 (max2 (min2 (w64 (w1.node.next.a0 - 1)) (w64 (m1.index + 1))) 1) (w64 (w1.node.match_.a1 + 1))) w1.node.next.a2) w1.node.match_) w1.out)) fun y98 =>
                    some y98)
                    (some (Worker.mk (Node.mk w1.node.id_ w1.node.term_ w1.node.vote w1.node.base w1.node.baseTerm w1.node.snap w1.node.log w1.node.role w1.node.commit w1.node.wait w1.node.votes (A3Int.mk w1.node.next.a0 (max2 (max2 (min2 (w64 (w1.node.next.a0 - 1)) (w64 (m1.index + 1))) 1) (w64 (w1.node.match_.a1 + 1))) w1.node.next.a2) w1.node.match_) w1.out)))
                  (cond (decide (m1.from_ = 1))
                    (cond ((decide ((max2 (max2 (min2 (w64 (w1.node.next.a0 - 1)) (w64 (m1.index + 1))) 1) (w64 (w1.node.match_.a1 + 1))) ≤ r97.1)))
                      (ob (owe m1.from_ (Worker.mk (Node.mk w1.node.id_ w1.node.term_ w1.node.vote w1.node.base w1.node.baseTerm w1.node.snap w1.node.log w1.node.role w1.node.commit w1.node.wait w1.node.votes (A3Int.mk w1.node.next.a0 (max2 (max2 (min2 (w64 (w1.node.next.a0 - 1)) (w64 (m1.index + 1))) 1) (w64 (w1.node.match_.a1 + 1))) w1.node.next.a2) w1.node.match_) w1.out)) fun y99 =>
                      some y99)
                      (some (Worker.mk (Node.mk w1.node.id_ w1.node.term_ w1.node.vote w1.node.base w1.node.baseTerm w1.node.snap w1.node.log w1.node.role w1.node.commit w1.node.wait w1.node.votes (A3Int.mk w1.node.next.a0 (max2 (max2 (min2 (w64 (w1.node.next.a0 - 1)) (w64 (m1.index + 1))) 1) (w64 (w1.node.match_.a1 + 1))) w1.node.next.a2) w1.node.match_) w1.out)))
                    (cond (decide (m1.from_ = 2))
                      (cond ((decide (w1.node.next.a2 ≤ r97.1)))
                        (ob (owe m1.from_ (Worker.mk (Node.mk w1.node.id_ w1.node.term_ w1.node.vote w1.node.base w1.node.baseTerm w1.node.snap w1.node.log w1.node.role w1.node.commit w1.node.wait w1.node.votes (A3Int.mk w1.node.next.a0 (max2 (max2 (min2 (w64 (w1.node.next.a0 - 1)) (w64 (m1.index + 1))) 1) (w64 (w1.node.match_.a1 + 1))) w1.node.next.a2) w1.node.match_) w1.out)) fun y100 =>
                        some y100)
                        (some (Worker.mk (Node.mk w1.node.id_ w1.node.term_ w1.node.vote w1.node.base w1.node.baseTerm w1.node.snap w1.node.log w1.node.role w1.node.commit w1.node.wait w1.node.votes (A3Int.mk w1.node.next.a0 (max2 (max2 (min2 (w64 (w1.node.next.a0 - 1)) (w64 (m1.index + 1))) 1) (w64 (w1.node.match_.a1 + 1))) w1.node.next.a2) w1.node.match_) w1.out)))
                      (none))))
                (cond (decide (m1.from_ = 2))
                  (ob (last_ (Node.mk w1.node.id_ w1.node.term_ w1.node.vote w1.node.base w1.node.baseTerm w1.node.snap w1.node.log w1.node.role w1.node.commit w1.node.wait w1.node.votes (A3Int.mk w1.node.next.a0 w1.node.next.a1 (max2 (max2 (min2 (w64 (w1.node.next.a0 - 1)) (w64 (m1.index + 1))) 1) (w64 (w1.node.match_.a1 + 1)))) w1.node.match_)) fun r101 =>
                  cond (decide (m1.from_ = 0))
                    (cond ((decide (w1.node.next.a0 ≤ r101.1)))
                      (ob (owe m1.from_ (Worker.mk (Node.mk w1.node.id_ w1.node.term_ w1.node.vote w1.node.base w1.node.baseTerm w1.node.snap w1.node.log w1.node.role w1.node.commit w1.node.wait w1.node.votes (A3Int.mk w1.node.next.a0 w1.node.next.a1 (max2 (max2 (min2 (w64 (w1.node.next.a0 - 1)) (w64 (m1.index + 1))) 1) (w64 (w1.node.match_.a1 + 1)))) w1.node.match_) w1.out)) fun y102 =>
                      some y102)
                      (some (Worker.mk (Node.mk w1.node.id_ w1.node.term_ w1.node.vote w1.node.base w1.node.baseTerm w1.node.snap w1.node.log w1.node.role w1.node.commit w1.node.wait w1.node.votes (A3Int.mk w1.node.next.a0 w1.node.next.a1 (max2 (max2 (min2 (w64 (w1.node.next.a0 - 1)) (w64 (m1.index + 1))) 1) (w64 (w1.node.match_.a1 + 1)))) w1.node.match_) w1.out)))
                    (cond (decide (m1.from_ = 1))
                      (cond ((decide (w1.node.next.a1 ≤ r101.1)))
                        (ob (owe m1.from_ (Worker.mk (Node.mk w1.node.id_ w1.node.term_ w1.node.vote w1.node.base w1.node.baseTerm w1.node.snap w1.node.log w1.node.role w1.node.commit w1.node.wait w1.node.votes (A3Int.mk w1.node.next.a0 w1.node.next.a1 (max2 (max2 (min2 (w64 (w1.node.next.a0 - 1)) (w64 (m1.index + 1))) 1) (w64 (w1.node.match_.a1 + 1)))) w1.node.match_) w1.out)) fun y103 =>
                        some y103)
                        (some (Worker.mk (Node.mk w1.node.id_ w1.node.term_ w1.node.vote w1.node.base w1.node.baseTerm w1.node.snap w1.node.log w1.node.role w1.node.commit w1.node.wait w1.node.votes (A3Int.mk w1.node.next.a0 w1.node.next.a1 (max2 (max2 (min2 (w64 (w1.node.next.a0 - 1)) (w64 (m1.index + 1))) 1) (w64 (w1.node.match_.a1 + 1)))) w1.node.match_) w1.out)))
                      (cond (decide (m1.from_ = 2))
                        (cond ((decide ((max2 (max2 (min2 (w64 (w1.node.next.a0 - 1)) (w64 (m1.index + 1))) 1) (w64 (w1.node.match_.a1 + 1))) ≤ r101.1)))
                          (ob (owe m1.from_ (Worker.mk (Node.mk w1.node.id_ w1.node.term_ w1.node.vote w1.node.base w1.node.baseTerm w1.node.snap w1.node.log w1.node.role w1.node.commit w1.node.wait w1.node.votes (A3Int.mk w1.node.next.a0 w1.node.next.a1 (max2 (max2 (min2 (w64 (w1.node.next.a0 - 1)) (w64 (m1.index + 1))) 1) (w64 (w1.node.match_.a1 + 1)))) w1.node.match_) w1.out)) fun y104 =>
                          some y104)
                          (some (Worker.mk (Node.mk w1.node.id_ w1.node.term_ w1.node.vote w1.node.base w1.node.baseTerm w1.node.snap w1.node.log w1.node.role w1.node.commit w1.node.wait w1.node.votes (A3Int.mk w1.node.next.a0 w1.node.next.a1 (max2 (max2 (min2 (w64 (w1.node.next.a0 - 1)) (w64 (m1.index + 1))) 1) (w64 (w1.node.match_.a1 + 1)))) w1.node.match_) w1.out)))
                        (none))))
                  (none))))
            (cond (decide (m1.from_ = 2))
              (cond (decide (m1.from_ = 0))
                (ob (last_ (Node.mk w1.node.id_ w1.node.term_ w1.node.vote w1.node.base w1.node.baseTerm w1.node.snap w1.node.log w1.node.role w1.node.commit w1.node.wait w1.node.votes (A3Int.mk (max2 (max2 (min2 (w64 (w1.node.next.a0 - 1)) (w64 (m1.index + 1))) 1) (w64 (w1.node.match_.a2 + 1))) w1.node.next.a1 w1.node.next.a2) w1.node.match_)) fun r105 =>
                cond (decide (m1.from_ = 0))
                  (cond ((decide ((max2 (max2 (min2 (w64 (w1.node.next.a0 - 1)) (w64 (m1.index + 1))) 1) (w64 (w1.node.match_.a2 + 1))) ≤ r105.1)))
                    (ob (owe m1.from_ (Worker.mk (Node.mk w1.node.id_ w1.node.term_ w1.node.vote w1.node.base w1.node.baseTerm w1.node.snap w1.node.log w1.node.role w1.node.commit w1.node.wait w1.node.votes (A3Int.mk (max2 (max2 (min2 (w64 (w1.node.next.a0 - 1)) (w64 (m1.index + 1))) 1) (w64 (w1.node.match_.a2 + 1))) w1.node.next.a1 w1.node.next.a2) w1.node.match_) w1.out)) fun y106 =>
                    some y106)
                    (some (Worker.mk (Node.mk w1.node.id_ w1.node.term_ w1.node.vote w1.node.base w1.node.baseTerm w1.node.snap w1.node.log w1.node.role w1.node.commit w1.node.wait w1.node.votes (A3Int.mk (max2 (max2 (min2 (w64 (w1.node.next.a0 - 1)) (w64 (m1.index + 1))) 1) (w64 (w1.node.match_.a2 + 1))) w1.node.next.a1 w1.node.next.a2) w1.node.match_) w1.out)))
                  (cond (decide (m1.from_ = 1))
                    (cond ((decide (w1.node.next.a1 ≤ r105.1)))
                      (ob (owe m1.from_ (Worker.mk (Node.mk w1.node.id_ w1.node.term_ w1.node.vote w1.node.base w1.node.baseTerm w1.node.snap w1.node.log w1.node.role w1.node.commit w1.node.wait w1.node.votes (A3Int.mk (max2 (max2 (min2 (w64 (w1.node.next.a0 - 1)) (w64 (m1.index + 1))) 1) (w64 (w1.node.match_.a2 + 1))) w1.node.next.a1 w1.node.next.a2) w1.node.match_) w1.out)) fun y107 =>
                      some y107)
                      (some (Worker.mk (Node.mk w1.node.id_ w1.node.term_ w1.node.vote w1.node.base w1.node.baseTerm w1.node.snap w1.node.log w1.node.role w1.node.commit w1.node.wait w1.node.votes (A3Int.mk (max2 (max2 (min2 (w64 (w1.node.next.a0 - 1)) (w64 (m1.index + 1))) 1) (w64 (w1.node.match_.a2 + 1))) w1.node.next.a1 w1.node.next.a2) w1.node.match_) w1.out)))
                    (cond (decide (m1.from_ = 2))
                      (cond ((decide (w1.node.next.a2 ≤ r105.1)))
                        (ob (owe m1.from_ (Worker.mk (Node.mk w1.node.id_ w1.node.term_ w1.node.vote w1.node.base w1.node.baseTerm w1.node.snap w1.node.log w1.node.role w1.node.commit w1.node.wait w1.node.votes (A3Int.mk (max2 (max2 (min2 (w64 (w1.node.next.a0 - 1)) (w64 (m1.index + 1))) 1) (w64 (w1.node.match_.a2 + 1))) w1.node.next.a1 w1.node.next.a2) w1.node.match_) w1.out)) fun y108 =>
                        some y108)
                        (some (Worker.mk (Node.mk w1.node.id_ w1.node.term_ w1.node.vote w1.node.base w1.node.baseTerm w1.node.snap w1.node.log w1.node.role w1.node.commit w1.node.wait w1.node.votes (A3Int.mk (max2 (max2 (min2 (w64 (w1.node.next.a0 - 1)) (w64 (m1.index + 1))) 1) (w64 (w1.node.match_.a2 + 1))) w1.node.next.a1 w1.node.next.a2) w1.node.match_) w1.out)))
                      (none))))
                (cond (decide (m1.from_ = 1))
                  (ob (last_ (Node.mk w1.node.id_ w1.node.term_ w1.node.vote w1.node.base w1.node.baseTerm w1.node.snap w1.node.log w1.node.role w1.node.commit w1.node.wait w1.node.votes (A3Int.mk w1.node.next.a0 (max2 (max2 (min2 (w64 (w1.node.next.a0 - 1)) (w64 (m1.index + 1))) 1) (w64 (w1.node.match_.a2 + 1))) w1.node.next.a2) w1.node.match_)) fun r109 =>
                  cond (decide (m1.from_ = 0))
                    (cond ((decide (w1.node.next.a0 ≤ r109.1)))
                      (ob (owe m1.from_ (Worker.mk (Node.mk w1.node.id_ w1.node.term_ w1.node.vote w1.node.base w1.node.baseTerm w1.node.snap w1.node.log w1.node.role w1.node.commit w1.node.wait w1.node.votes (A3Int.mk w1.node.next.a0 (max2 (max2 (min2 (w64 (w1.node.next.a0 - 1)) (w64 (m1.index + 1))) 1) (w64 (w1.node.match_.a2 + 1))) w1.node.next.a2) w1.node.match_) w1.out)) fun y110 =>
                      some y110)
                      (some (Worker.mk (Node.mk w1.node.id_ w1.node.term_ w1.node.vote w1.node.base w1.node.baseTerm w1.node.snap w1.node.log w1.node.role w1.node.commit w1.node.wait w1.node.votes (A3Int.mk w1.node.next.a0 (max2 (max2 (min2 (w64 (w1.node.next.a0 - 1)) (w64 (m1.index + 1))) 1) (w64 (w1.node.match_.a2 + 1))) w1.node.next.a2) w1.node.match_) w1.out)))
                    (cond (decide (m1.from_ = 1))
                      (cond ((decide ((max2 (max2 (min2 (w64 (w1.node.next.a0 - 1)) (w64 (m1.index + 1))) 1) (w64 (w1.node.match_.a2 + 1))) ≤ r109.1)))
                        (ob (owe m1.from_ (Worker.mk (Node.mk w1.node.id_ w1.node.term_ w1.node.vote w1.node.base w1.node.baseTerm w1.node.snap w1.node.log w1.node.role w1.node.commit w1.node.wait w1.node.votes (A3Int.mk w1.node.next.a0 (max2 (max2 (min2 (w64 (w1.node.next.a0 - 1)) (w64 (m1.index + 1))) 1) (w64 (w1.node.match_.a2 + 1))) w1.node.next.a2) w1.node.match_) w1.out)) fun y111 =>
                        some y111)
                        (some (Worker.mk (Node.mk w1.node.id_ w1.node.term_ w1.node.vote w1.node.base w1.node.baseTerm w1.node.snap w1.node.log w1.node.role w1.node.commit w1.node.wait w1.node.votes (A3Int.mk w1.node.next.a0 (max2 (max2 (min2 (w64 (w1.node.next.a0 - 1)) (w64 (m1.index + 1))) 1) (w64 (w1.node.match_.a2 + 1))) w1.node.next.a2) w1.node.match_) w1.out)))
                      (cond (decide (m1.from_ = 2))
                        (cond ((decide (w1.node.next.a2 ≤ r109.1)))
                          (ob (owe m1.from_ (Worker.mk (Node.mk w1.node.id_ w1.node.term_ w1.node.vote w1.node.base w1.node.baseTerm w1.node.snap w1.node.log w1.node.role w1.node.commit w1.node.wait w1.node.votes (A3Int.mk w1.node.next.a0 (max2 (max2 (min2 (w64 (w1.node.next.a0 - 1)) (w64 (m1.index + 1))) 1) (w64 (w1.node.match_.a2 + 1))) w1.node.next.a2) w1.node.match_) w1.out)) fun y112 =>
                          some y112)
                          (some (Worker.mk (Node.mk w1.node.id_ w1.node.term_ w1.node.vote w1.node.base w1.node.baseTerm w1.node.snap w1.node.log w1.node.role w1.node.commit w1.node.wait w1.node.votes (A3Int.mk w1.node.next.a0 (max2 (max2 (min2 (w64 (w1.node.next.a0 - 1)) (w64 (m1.index + 1))) 1) (w64 (w1.node.match_.a2 + 1))) w1.node.next.a2) w1.node.match_) w1.out)))
                        (none))))
                  (cond (decide (m1.from_ = 2))
                    (ob (last_ (Node.mk w1.node.id_ w1.node.term_ w1.node.vote w1.node.base w1.node.baseTerm w1.node.snap w1.node.log w1.node.role w1.node.commit w1.node.wait w1.node.votes (A3Int.mk w1.node.next.a0 w1.node.next.a1 (max2 (max2 (min2 (w64 (w1.node.next.a0 - 1)) (w64 (m1.index + 1))) 1) (w64 (w1.node.match_.a2 + 1)))) w1.node.match_)) fun r113 =>
                    cond (decide (m1.from_ = 0))
                      (cond ((decide (w1.node.next.a0 ≤ r113.1)))
                        (ob (owe m1.from_ (Worker.mk (Node.mk w1.node.id_ w1.node.term_ w1.node.vote w1.node.base w1.node.baseTerm w1.node.snap w1.node.log w1.node.role w1.node.commit w1.node.wait w1.node.votes (A3Int.mk w1.node.next.a0 w1.node.next.a1 (max2 (max2 (min2 (w64 (w1.node.next.a0 - 1)) (w64 (m1.index + 1))) 1) (w64 (w1.node.match_.a2 + 1)))) w1.node.match_) w1.out)) fun y114 =>
                        some y114)
                        (some (Worker.mk (Node.mk w1.node.id_ w1.node.term_ w1.node.vote w1.node.base w1.node.baseTerm w1.node.snap w1.node.log w1.node.role w1.node.commit w1.node.wait w1.node.votes (A3Int.mk w1.node.next.a0 w1.node.next.a1 (max2 (max2 (min2 (w64 (w1.node.next.a0 - 1)) (w64 (m1.index + 1))) 1) (w64 (w1.node.match_.a2 + 1)))) w1.node.match_) w1.out)))
                      (cond (decide (m1.from_ = 1))
                        (cond ((decide (w1.node.next.a1 ≤ r113.1)))
                          (ob (owe m1.from_ (Worker.mk (Node.mk w1.node.id_ w1.node.term_ w1.node.vote w1.node.base w1.node.baseTerm w1.node.snap w1.node.log w1.node.role w1.node.commit w1.node.wait w1.node.votes (A3Int.mk w1.node.next.a0 w1.node.next.a1 (max2 (max2 (min2 (w64 (w1.node.next.a0 - 1)) (w64 (m1.index + 1))) 1) (w64 (w1.node.match_.a2 + 1)))) w1.node.match_) w1.out)) fun y115 =>
                          some y115)
                          (some (Worker.mk (Node.mk w1.node.id_ w1.node.term_ w1.node.vote w1.node.base w1.node.baseTerm w1.node.snap w1.node.log w1.node.role w1.node.commit w1.node.wait w1.node.votes (A3Int.mk w1.node.next.a0 w1.node.next.a1 (max2 (max2 (min2 (w64 (w1.node.next.a0 - 1)) (w64 (m1.index + 1))) 1) (w64 (w1.node.match_.a2 + 1)))) w1.node.match_) w1.out)))
                        (cond (decide (m1.from_ = 2))
                          (cond ((decide ((max2 (max2 (min2 (w64 (w1.node.next.a0 - 1)) (w64 (m1.index + 1))) 1) (w64 (w1.node.match_.a2 + 1))) ≤ r113.1)))
                            (ob (owe m1.from_ (Worker.mk (Node.mk w1.node.id_ w1.node.term_ w1.node.vote w1.node.base w1.node.baseTerm w1.node.snap w1.node.log w1.node.role w1.node.commit w1.node.wait w1.node.votes (A3Int.mk w1.node.next.a0 w1.node.next.a1 (max2 (max2 (min2 (w64 (w1.node.next.a0 - 1)) (w64 (m1.index + 1))) 1) (w64 (w1.node.match_.a2 + 1)))) w1.node.match_) w1.out)) fun y116 =>
                            some y116)
                            (some (Worker.mk (Node.mk w1.node.id_ w1.node.term_ w1.node.vote w1.node.base w1.node.baseTerm w1.node.snap w1.node.log w1.node.role w1.node.commit w1.node.wait w1.node.votes (A3Int.mk w1.node.next.a0 w1.node.next.a1 (max2 (max2 (min2 (w64 (w1.node.next.a0 - 1)) (w64 (m1.index + 1))) 1) (w64 (w1.node.match_.a2 + 1)))) w1.node.match_) w1.out)))
                          (none))))
                    (none))))
              (none))))
        (cond (decide (m1.from_ = 1))
          (cond (decide (m1.from_ = 0))
            (cond (decide (m1.from_ = 0))
              (ob (last_ (Node.mk w1.node.id_ w1.node.term_ w1.node.vote w1.node.base w1.node.baseTerm w1.node.snap w1.node.log w1.node.role w1.node.commit w1.node.wait w1.node.votes (A3Int.mk (max2 (max2 (min2 (w64 (w1.node.next.a1 - 1)) (w64 (m1.index + 1))) 1) (w64 (w1.node.match_.a0 + 1))) w1.node.next.a1 w1.node.next.a2) w1.node.match_)) fun r117 =>
              cond (decide (m1.from_ = 0))
                (cond ((decide ((max2 (max2 (min2 (w64 (w1.node.next.a1 - 1)) (w64 (m1.index + 1))) 1) (w64 (w1.node.match_.a0 + 1))) ≤ r117.1)))
                  (ob (owe m1.from_ (Worker.mk (Node.mk w1.node.id_ w1.node.term_ w1.node.vote w1.node.base w1.node.baseTerm w1.node.snap w1.node.log w1.node.role w1.node.commit w1.node.wait w1.node.votes (A3Int.mk (max2 (max2 (min2 (w64 (w1.node.next.a1 - 1)) (w64 (m1.index + 1))) 1) (w64 (w1.node.match_.a0 + 1))) w1.node.next.a1 w1.node.next.a2) w1.node.match_) w1.out)) fun y118 =>
                  some y118)
                  (some (Worker.mk (Node.mk w1.node.id_ w1.node.term_ w1.node.vote w1.node.base w1.node.baseTerm w1.node.snap w1.node.log w1.node.role w1.node.commit w1.node.wait w1.node.votes (A3Int.mk (max2 (max2 (min2 (w64 (w1.node.next.a1 - 1)) (w64 (m1.index + 1))) 1) (w64 (w1.node.match_.a0 + 1))) w1.node.next.a1 w1.node.next.a2) w1.node.match_) w1.out)))
                (cond (decide (m1.from_ = 1))
                  (cond ((decide (w1.node.next.a1 ≤ r117.1)))
                    (ob (owe m1.from_ (Worker.mk (Node.mk w1.node.id_ w1.node.term_ w1.node.vote w1.node.base w1.node.baseTerm w1.node.snap w1.node.log w1.node.role w1.node.commit w1.node.wait w1.node.votes (A3Int.mk (max2 (max2 (min2 (w64 (w1.node.next.a1 - 1)) (w64 (m1.index + 1))) 1) (w64 (w1.node.match_.a0 + 1))) w1.node.next.a1 w1.node.next.a2) w1.node.match_) w1.out)) fun y119 =>
                    some y119)
                    (some (Worker.mk (Node.mk w1.node.id_ w1.node.term_ w1.node.vote w1.node.base w1.node.baseTerm w1.node.snap w1.node.log w1.node.role w1.node.commit w1.node.wait w1.node.votes (A3Int.mk (max2 (max2 (min2 (w64 (w1.node.next.a1 - 1)) (w64 (m1.index + 1))) 1) (w64 (w1.node.match_.a0 + 1))) w1.node.next.a1 w1.node.next.a2) w1.node.match_) w1.out)))
                  (cond (decide (m1.from_ = 2))
                    (cond ((decide (w1.node.next.a2 ≤ r117.1)))
                      (ob (owe m1.from_ (Worker.mk (Node.mk w1.node.id_ w1.node.term_ w1.node.vote w1.node.base w1.node.baseTerm w1.node.snap w1.node.log w1.node.role w1.node.commit w1.node.wait w1.node.votes (A3Int.mk (max2 (max2 (min2 (w64 (w1.node.next.a1 - 1)) (w64 (m1.index + 1))) 1) (w64 (w1.node.match_.a0 + 1))) w1.node.next.a1 w1.node.next.a2) w1.node.match_) w1.out)) fun y120 =>
                      some y120)
                      (some (Worker.mk (Node.mk w1.node.id_ w1.node.term_ w1.node.vote w1.node.base w1.node.baseTerm w1.node.snap w1.node.log w1.node.role w1.node.commit w1.node.wait w1.node.votes (A3Int.mk (max2 (max2 (min2 (w64 (w1.node.next.a1 - 1)) (w64 (m1.index + 1))) 1) (w64 (w1.node.match_.a0 + 1))) w1.node.next.a1 w1.node.next.a2) w1.node.match_) w1.out)))
                    (none))))
              (cond (decide (m1.from_ = 1))
                (ob (last_ (Node.mk w1.node.id_ w1.node.term_ w1.node.vote w1.node.base w1.node.baseTerm w1.node.snap w1.node.log w1.node.role w1.node.commit w1.node.wait w1.node.votes (A3Int.mk w1.node.next.a0 (max2 (max2 (min2 (w64 (w1.node.next.a1 - 1)) (w64 (m1.index + 1))) 1) (w64 (w1.node.match_.a0 + 1))) w1.node.next.a2) w1.node.match_)) fun r121 =>
                cond (decide (m1.from_ = 0))
                  (cond ((decide (w1.node.next.a0 ≤ r121.1)))
                    (ob (owe m1.from_ (Worker.mk (Node.mk w1.node.id_ w1.node.term_ w1.node.vote w1.node.base w1.node.baseTerm w1.node.snap w1.node.log w1.node.role w1.node.commit w1.node.wait w1.node.votes (A3Int.mk w1.node.next.a0 (max2 (max2 (min2 (w64 (w1.node.next.a1 - 1)) (w64 (m1.index + 1))) 1) (w64 (w1.node.match_.a0 + 1))) w1.node.next.a2) w1.node.match_) w1.out)) fun y122 =>
                    some y122)
                    (some (Worker.mk (Node.mk w1.node.id_ w1.node.term_ w1.node.vote w1.node.base w1.node.baseTerm w1.node.snap w1.node.log w1.node.role w1.node.commit w1.node.wait w1.node.votes (A3Int.mk w1.node.next.a0 (max2 (max2 (min2 (w64 (w1.node.next.a1 - 1)) (w64 (m1.index + 1))) 1) (w64 (w1.node.match_.a0 + 1))) w1.node.next.a2) w1.node.match_) w1.out)))
                  (cond (decide (m1.from_ = 1))
                    (cond ((decide ((max2 (max2 (min2 (w64 (w1.node.next.a1 - 1)) (w64 (m1.index + 1))) 1) (w64 (w1.node.match_.a0 + 1))) ≤ r121.1)))
                      (ob (owe m1.from_ (Worker.mk (Node.mk w1.node.id_ w1.node.term_ w1.node.vote w1.node.base w1.node.baseTerm w1.node.snap w1.node.log w1.node.role w1.node.commit w1.node.wait w1.node.votes (A3Int.mk w1.node.next.a0 (max2 (max2 (min2 (w64 (w1.node.next.a1 - 1)) (w64 (m1.index + 1))) 1) (w64 (w1.node.match_.a0 + 1))) w1.node.next.a2) w1.node.match_) w1.out)) fun y123 =>
                      some y123)
                      (some (Worker.mk (Node.mk w1.node.id_ w1.node.term_ w1.node.vote w1.node.base w1.node.baseTerm w1.node.snap w1.node.log w1.node.role w1.node.commit w1.node.wait w1.node.votes (A3Int.mk w1.node.next.a0 (max2 (max2 (min2 (w64 (w1.node.next.a1 - 1)) (w64 (m1.index + 1))) 1) (w64 (w1.node.match_.a0 + 1))) w1.node.next.a2) w1.node.match_) w1.out)))
                    (cond (decide (m1.from_ = 2))
                      (cond ((decide (w1.node.next.a2 ≤ r121.1)))
                        (ob (owe m1.from_ (Worker.mk (Node.mk w1.node.id_ w1.node.term_ w1.node.vote w1.node.base w1.node.baseTerm w1.node.snap w1.node.log w1.node.role w1.node.commit w1.node.wait w1.node.votes (A3Int.mk w1.node.next.a0 (max2 (max2 (min2 (w64 (w1.node.next.a1 - 1)) (w64 (m1.index + 1))) 1) (w64 (w1.node.match_.a0 + 1))) w1.node.next.a2) w1.node.match_) w1.out)) fun y124 =>
                        some y124)
                        (some (Worker.mk (Node.mk w1.node.id_ w1.node.term_ w1.node.vote w1.node.base w1.node.baseTerm w1.node.snap w1.node.log w1.node.role w1.node.commit w1.node.wait w1.node.votes (A3Int.mk w1.node.next.a0 (max2 (max2 (min2 (w64 (w1.node.next.a1 - 1)) (w64 (m1.index + 1))) 1) (w64 (w1.node.match_.a0 + 1))) w1.node.next.a2) w1.node.match_) w1.out)))
                      (none))))
                (cond (decide (m1.from_ = 2))
                  (ob (last_ (Node.mk w1.node.id_ w1.node.term_ w1.node.vote w1.node.base w1.node.baseTerm w1.node.snap w1.node.log w1.node.role w1.node.commit w1.node.wait w1.node.votes (A3Int.mk w1.node.next.a0 w1.node.next.a1 (max2 (max2 (min2 (w64 (w1.node.next.a1 - 1)) (w64 (m1.index + 1))) 1) (w64 (w1.node.match_.a0 + 1)))) w1.node.match_)) fun r125 =>
                  cond (decide (m1.from_ = 0))
                    (cond ((decide (w1.node.next.a0 ≤ r125.1)))
                      (ob (owe m1.from_ (Worker.mk (Node.mk w1.node.id_ w1.node.term_ w1.node.vote w1.node.base w1.node.baseTerm w1.node.snap w1.node.log w1.node.role w1.node.commit w1.node.wait w1.node.votes (A3Int.mk w1.node.next.a0 w1.node.next.a1 (max2 (max2 (min2 (w64 (w1.node.next.a1 - 1)) (w64 (m1.index + 1))) 1) (w64 (w1.node.match_.a0 + 1)))) w1.node.match_) w1.out)) fun y126 =>
                      some y126)
                      (some (Worker.mk (Node.mk w1.node.id_ w1.node.term_ w1.node.vote w1.node.base w1.node.baseTerm w1.node.snap w1.node.log w1.node.role w1.node.commit w1.node.wait w1.node.votes (A3Int.mk w1.node.next.a0 w1.node.next.a1 (max2 (max2 (min2 (w64 (w1.node.next.a1 - 1)) (w64 (m1.index + 1))) 1) (w64 (w1.node.match_.a0 + 1)))) w1.node.match_) w1.out)))
                    (cond (decide (m1.from_ = 1))
                      (cond ((decide (w1.node.next.a1 ≤ r125.1)))
                        (ob (owe m1.from_ (Worker.mk (Node.mk w1.node.id_ w1.node.term_ w1.node.vote w1.node.base w1.node.baseTerm w1.node.snap w1.node.log w1.node.role w1.node.commit w1.node.wait w1.node.votes (A3Int.mk w1.node.next.a0 w1.node.next.a1 (max2 (max2 (min2 (w64 (w1.node.next.a1 - 1)) (w64 (m1.index + 1))) 1) (w64 (w1.node.match_.a0 + 1)))) w1.node.match_) w1.out)) fun y127 =>
                        some y127)
                        (some (Worker.mk (Node.mk w1.node.id_ w1.node.term_ w1.node.vote w1.node.base w1.node.baseTerm w1.node.snap w1.node.log w1.node.role w1.node.commit w1.node.wait w1.node.votes (A3Int.mk w1.node.next.a0 w1.node.next.a1 (max2 (max2 (min2 (w64 (w1.node.next.a1 - 1)) (w64 (m1.index + 1))) 1) (w64 (w1.node.match_.a0 + 1)))) w1.node.match_) w1.out)))
                      (cond (decide (m1.from_ = 2))
                        (cond ((decide ((max2 (max2 (min2 (w64 (w1.node.next.a1 - 1)) (w64 (m1.index + 1))) 1) (w64 (w1.node.match_.a0 + 1))) ≤ r125.1)))
                          (ob (owe m1.from_ (Worker.mk (Node.mk w1.node.id_ w1.node.term_ w1.node.vote w1.node.base w1.node.baseTerm w1.node.snap w1.node.log w1.node.role w1.node.commit w1.node.wait w1.node.votes (A3Int.mk w1.node.next.a0 w1.node.next.a1 (max2 (max2 (min2 (w64 (w1.node.next.a1 - 1)) (w64 (m1.index + 1))) 1) (w64 (w1.node.match_.a0 + 1)))) w1.node.match_) w1.out)) fun y128 =>
                          some y128)
                          (some (Worker.mk (Node.mk w1.node.id_ w1.node.term_ w1.node.vote w1.node.base w1.node.baseTerm w1.node.snap w1.node.log w1.node.role w1.node.commit w1.node.wait w1.node.votes (A3Int.mk w1.node.next.a0 w1.node.next.a1 (max2 (max2 (min2 (w64 (w1.node.next.a1 - 1)) (w64 (m1.index + 1))) 1) (w64 (w1.node.match_.a0 + 1)))) w1.node.match_) w1.out)))
                        (none))))
                  (none))))
            (cond (decide (m1.from_ = 1))
              (cond (decide (m1.from_ = 0))
                (ob (last_ (Node.mk w1.node.id_ w1.node.term_ w1.node.vote w1.node.base w1.node.baseTerm w1.node.snap w1.node.log w1.node.role w1.node.commit w1.node.wait w1.node.votes (A3Int.mk (max2 (max2 (min2 (w64 (w1.node.next.a1 - 1)) (w64 (m1.index + 1))) 1) (w64 (w1.node.match_.a1 + 1))) w1.node.next.a1 w1.node.next.a2) w1.node.match_)) fun r129 =>
                cond (decide (m1.from_ = 0))
                  (cond ((decide ((max2 (max2 (min2 (w64 (w1.node.next.a1 - 1)) (w64 (m1.index + 1))) 1) (w64 (w1.node.match_.a1 + 1))) ≤ r129.1)))
                    (ob (owe m1.from_ (Worker.mk (Node.mk w1.node.id_ w1.node.term_ w1.node.vote w1.node.base w1.node.baseTerm w1.node.snap w1.node.log w1.node.role w1.node.commit w1.node.wait w1.node.votes (A3Int.mk (max2 (max2 (min2 (w64 (w1.node.next.a1 - 1)) (w64 (m1.index + 1))) 1) (w64 (w1.node.match_.a1 + 1))) w1.node.next.a1 w1.node.next.a2) w1.node.match_) w1.out)) fun y130 =>
                    some y130)
                    (some (Worker.mk (Node.mk w1.node.id_ w1.node.term_ w1.node.vote w1.node.base w1.node.baseTerm w1.node.snap w1.node.log w1.node.role w1.node.commit w1.node.wait w1.node.votes (A3Int.mk (max2 (max2 (min2 (w64 (w1.node.next.a1 - 1)) (w64 (m1.index + 1))) 1) (w64 (w1.node.match_.a1 + 1))) w1.node.next.a1 w1.node.next.a2) w1.node.match_) w1.out)))
                  (cond (decide (m1.from_ = 1))
                    (cond ((decide (w1.node.next.a1 ≤ r129.1)))
                      (ob (owe m1.from_ (Worker.mk (Node.mk w1.node.id_ w1.node.term_ w1.node.vote w1.node.base w1.node.baseTerm w1.node.snap w1.node.log w1.node.role w1.node.commit w1.node.wait w1.node.votes (A3Int.mk (max2 (max2 (min2 (w64 (w1.node.next.a1 - 1)) (w64 (m1.index + 1))) 1) (w64 (w1.node.match_.a1 + 1))) w1.node.next.a1 w1.node.next.a2) w1.node.match_) w1.out)) fun y131 =>
                      some y131)
                      (some (Worker.mk (Node.mk w1.node.id_ w1.node.term_ w1.node.vote w1.node.base w1.node.baseTerm w1.node.snap w1.node.log w1.node.role w1.node.commit w1.node.wait w1.node.votes (A3Int.mk (max2 (max2 (min2 (w64 (w1.node.next.a1 - 1)) (w64 (m1.index + 1))) 1) (w64 (w1.node.match_.a1 + 1))) w1.node.next.a1 w1.node.next.a2) w1.node.match_) w1.out)))
                    (cond (decide (m1.from_ = 2))
                      (cond ((decide (w1.node.next.a2 ≤ r129.1)))
                        (ob (owe m1.from_ (Worker.mk (Node.mk w1.node.id_ w1.node.term_ w1.node.vote w1.node.base w1.node.baseTerm w1.node.snap w1.node.log w1.node.role w1.node.commit w1.node.wait w1.node.votes (A3Int.mk (max2 (max2 (min2 (w64 (w1.node.next.a1 - 1)) (w64 (m1.index + 1))) 1) (w64 (w1.node.match_.a1 + 1))) w1.node.next.a1 w1.node.next.a2) w1.node.match_) w1.out)) fun y132 =>
                        some y132)
                        (some (Worker.mk (Node.mk w1.node.id_ w1.node.term_ w1.node.vote w1.node.base w1.node.baseTerm w1.node.snap w1.node.log w1.node.role w1.node.commit w1.node.wait w1.node.votes (A3Int.mk (max2 (max2 (min2 (w64 (w1.node.next.a1 - 1)) (w64 (m1.index + 1))) 1) (w64 (w1.node.match_.a1 + 1))) w1.node.next.a1 w1.node.next.a2) w1.node.match_) w1.out)))
                      (none))))
                (cond (decide (m1.from_ = 1))
                  (ob (last_ (Node.mk w1.node.id_ w1.node.term_ w1.node.vote w1.node.base w1.node.baseTerm w1.node.snap w1.node.log w1.node.role w1.node.commit w1.node.wait w1.node.votes (A3Int.mk w1.node.next.a0 (max2 (max2 (min2 (w64 (w1.node.next.a1 - 1)) (w64 (m1.index + 1))) 1) (w64 (w1.node.match_.a1 + 1))) w1.node.next.a2) w1.node.match_)) fun r133 =>
                  cond (decide (m1.from_ = 0))
                    (cond ((decide (w1.node.next.a0 ≤ r133.1)))
                      (ob (owe m1.from_ (Worker.mk (Node.mk w1.node.id_ w1.node.term_ w1.node.vote w1.node.base w1.node.baseTerm w1.node.snap w1.node.log w1.node.role w1.node.commit w1.node.wait w1.node.votes (A3Int.mk w1.node.next.a0 (max2 (max2 (min2 (w64 (w1.node.next.a1 - 1)) (w64 (m1.index + 1))) 1) (w64 (w1.node.match_.a1 + 1))) w1.node.next.a2) w1.node.match_) w1.out)) fun y134 =>
                      some y134)
                      (some (Worker.mk (Node.mk w1.node.id_ w1.node.term_ w1.node.vote w1.node.base w1.node.baseTerm w1.node.snap w1.node.log w1.node.role w1.node.commit w1.node.wait w1.node.votes (A3Int.mk w1.node.next.a0 (max2 (max2 (min2 (w64 (w1.node.next.a1 - 1)) (w64 (m1.index + 1))) 1) (w64 (w1.node.match_.a1 + 1))) w1.node.next.a2) w1.node.match_) w1.out)))
                    (cond (decide (m1.from_ = 1))
                      (cond ((decide ((max2 (max2 (min2 (w64 (w1.node.next.a1 - 1)) (w64 (m1.index + 1))) 1) (w64 (w1.node.match_.a1 + 1))) ≤ r133.1)))
                        (ob (owe m1.from_ (Worker.mk (Node.mk w1.node.id_ w1.node.term_ w1.node.vote w1.node.base w1.node.baseTerm w1.node.snap w1.node.log w1.node.role w1.node.commit w1.node.wait w1.node.votes (A3Int.mk w1.node.next.a0 (max2 (max2 (min2 (w64 (w1.node.next.a1 - 1)) (w64 (m1.index + 1))) 1) (w64 (w1.node.match_.a1 + 1))) w1.node.next.a2) w1.node.match_) w1.out)) fun y135 =>
                        some y135)
                        (some (Worker.mk (Node.mk w1.node.id_ w1.node.term_ w1.node.vote w1.node.base w1.node.baseTerm w1.node.snap w1.node.log w1.node.role w1.node.commit w1.node.wait w1.node.votes (A3Int.mk w1.node.next.a0 (max2 (max2 (min2 (w64 (w1.node.next.a1 - 1)) (w64 (m1.index + 1))) 1) (w64 (w1.node.match_.a1 + 1))) w1.node.next.a2) w1.node.match_) w1.out)))
                      (cond (decide (m1.from_ = 2))
                        (cond ((decide (w1.node.next.a2 ≤ r133.1)))
                          (ob (owe m1.from_ (Worker.mk (Node.mk w1.node.id_ w1.node.term_ w1.node.vote w1.node.base w1.node.baseTerm w1.node.snap w1.node.log w1.node.role w1.node.commit w1.node.wait w1.node.votes (A3Int.mk w1.node.next.a0 (max2 (max2 (min2 (w64 (w1.node.next.a1 - 1)) (w64 (m1.index + 1))) 1) (w64 (w1.node.match_.a1 + 1))) w1.node.next.a2) w1.node.match_) w1.out)) fun y136 =>
                          some y136)
                          (some (Worker.mk (Node.mk w1.node.id_ w1.node.term_ w1.node.vote w1.node.base w1.node.baseTerm w1.node.snap w1.node.log w1.node.role w1.node.commit w1.node.wait w1.node.votes (A3Int.mk w1.node.next.a0 (max2 (max2 (min2 (w64 (w1.node.next.a1 - 1)) (w64 (m1.index + 1))) 1) (w64 (w1.node.match_.a1 + 1))) w1.node.next.a2) w1.node.match_) w1.out)))
                        (none))))
                  (cond (decide (m1.from_ = 2))
                    (ob (last_ (Node.mk w1.node.id_ w1.node.term_ w1.node.vote w1.node.base w1.node.baseTerm w1.node.snap w1.node.log w1.node.role w1.node.commit w1.node.wait w1.node.votes (A3Int.mk w1.node.next.a0 w1.node.next.a1 (max2 (max2 (min2 (w64 (w1.node.next.a1 - 1)) (w64 (m1.index + 1))) 1) (w64 (w1.node.match_.a1 + 1)))) w1.node.match_)) fun r137 =>
                    cond (decide (m1.from_ = 0))
                      (cond ((decide (w1.node.next.a0 ≤ r137.1)))
                        (ob (owe m1.from_ (Worker.mk (Node.mk w1.node.id_ w1.node.term_ w1.node.vote w1.node.base w1.node.baseTerm w1.node.snap w1.node.log w1.node.role w1.node.commit w1.node.wait w1.node.votes (A3Int.mk w1.node.next.a0 w1.node.next.a1 (max2 (max2 (min2 (w64 (w1.node.next.a1 - 1)) (w64 (m1.index + 1))) 1) (w64 (w1.node.match_.a1 + 1)))) w1.node.match_) w1.out)) fun y138 =>
                        some y138)
                        (some (Worker.mk (Node.mk w1.node.id_ w1.node.term_ w1.node.vote w1.node.base w1.node.baseTerm w1.node.snap w1.node.log w1.node.role w1.node.commit w1.node.wait w1.node.votes (A3Int.mk w1.node.next.a0 w1.node.next.a1 (max2 (max2 (min2 (w64 (w1.node.next.a1 - 1)) (w64 (m1.index + 1))) 1) (w64 (w1.node.match_.a1 + 1)))) w1.node.match_) w1.out)))
                      (cond (decide (m1.from_ = 1))
                        (cond ((decide (w1.node.next.a1 ≤ r137.1)))
                          (ob (owe m1.from_ (Worker.mk (Node.mk w1.node.id_ w1.node.term_ w1.node.vote w1.node.base w1.node.baseTerm w1.node.snap w1.node.log w1.node.role w1.node.commit w1.node.wait w1.node.votes (A3Int.mk w1.node.next.a0 w1.node.next.a1 (max2 (max2 (min2 (w64 (w1.node.next.a1 - 1)) (w64 (m1.index + 1))) 1) (w64 (w1.node.match_.a1 + 1)))) w1.node.match_) w1.out)) fun y139 =>
                          some y139)
                          (some (Worker.mk (Node.mk w1.node.id_ w1.node.term_ w1.node.vote w1.node.base w1.node.baseTerm w1.node.snap w1.node.log w1.node.role w1.node.commit w1.node.wait w1.node.votes (A3Int.mk w1.node.next.a0 w1.node.next.a1 (max2 (max2 (min2 (w64 (w1.node.next.a1 - 1)) (w64 (m1.index + 1))) 1) (w64 (w1.node.match_.a1 + 1)))) w1.node.match_) w1.out)))
                        (cond (decide (m1.from_ = 2))
                          (cond ((decide ((max2 (max2 (min2 (w64 (w1.node.next.a1 - 1)) (w64 (m1.index + 1))) 1) (w64 (w1.node.match_.a1 + 1))) ≤ r137.1)))
                            (ob (owe m1.from_ (Worker.mk (Node.mk w1.node.id_ w1.node.term_ w1.node.vote w1.node.base w1.node.baseTerm w1.node.snap w1.node.log w1.node.role w1.node.commit w1.node.wait w1.node.votes (A3Int.mk w1.node.next.a0 w1.node.next.a1 (max2 (max2 (min2 (w64 (w1.node.next.a1 - 1)) (w64 (m1.index + 1))) 1) (w64 (w1.node.match_.a1 + 1)))) w1.node.match_) w1.out)) fun y140 =>
                            some y140)
                            (some (Worker.mk (Node.mk w1.node.id_ w1.node.term_ w1.node.vote w1.node.base w1.node.baseTerm w1.node.snap w1.node.log w1.node.role w1.node.commit w1.node.wait w1.node.votes (A3Int.mk w1.node.next.a0 w1.node.next.a1 (max2 (max2 (min2 (w64 (w1.node.next.a1 - 1)) (w64 (m1.index + 1))) 1) (w64 (w1.node.match_.a1 + 1)))) w1.node.match_) w1.out)))
                          (none))))
                    (none))))
              (cond (decide (m1.from_ = 2))
                (cond (decide (m1.from_ = 0))
                  (ob (last_ (Node.mk w1.node.id_ w1.node.term_ w1.node.vote w1.node.base w1.node.baseTerm w1.node.snap w1.node.log w1.node.role w1.node.commit w1.node.wait w1.node.votes (A3Int.mk (max2 (max2 (min2 (w64 (w1.node.next.a1 - 1)) (w64 (m1.index + 1))) 1) (w64 (w1.node.match_.a2 + 1))) w1.node.next.a1 w1.node.next.a2) w1.node.match_)) fun r141 =>
                  cond (decide (m1.from_ = 0))
                    (cond ((decide ((max2 (max2 (min2 (w64 (w1.node.next.a1 - 1)) (w64 (m1.index + 1))) 1) (w64 (w1.node.match_.a2 + 1))) ≤ r141.1)))
                      (ob (owe m1.from_ (Worker.mk (Node.mk w1.node.id_ w1.node.term_ w1.node.vote w1.node.base w1.node.baseTerm w1.node.snap w1.node.log w1.node.role w1.node.commit w1.node.wait w1.node.votes (A3Int.mk (max2 (max2 (min2 (w64 (w1.node.next.a1 - 1)) (w64 (m1.index + 1))) 1) (w64 (w1.node.match_.a2 + 1))) w1.node.next.a1 w1.node.next.a2) w1.node.match_) w1.out)) fun y142 =>
                      some y142)
                      (some (Worker.mk (Node.mk w1.node.id_ w1.node.term_ w1.node.vote w1.node.base w1.node.baseTerm w1.node.snap w1.node.log w1.node.role w1.node.commit w1.node.wait w1.node.votes (A3Int.mk (max2 (max2 (min2 (w64 (w1.node.next.a1 - 1)) (w64 (m1.index + 1))) 1) (w64 (w1.node.match_.a2 + 1))) w1.node.next.a1 w1.node.next.a2) w1.node.match_) w1.out)))
                    (cond (decide (m1.from_ = 1))
                      (cond ((decide (w1.node.next.a1 ≤ r141.1)))
                        (ob (owe m1.from_ (Worker.mk (Node.mk w1.node.id_ w1.node.term_ w1.node.vote w1.node.base w1.node.baseTerm w1.node.snap w1.node.log w1.node.role w1.node.commit w1.node.wait w1.node.votes (A3Int.mk (max2 (max2 (min2 (w64 (w1.node.next.a1 - 1)) (w64 (m1.index + 1))) 1) (w64 (w1.node.match_.a2 + 1))) w1.node.next.a1 w1.node.next.a2) w1.node.match_) w1.out)) fun y143 =>
                        some y143)
                        (some (Worker.mk (Node.mk w1.node.id_ w1.node.term_ w1.node.vote w1.node.base w1.node.baseTerm w1.node.snap w1.node.log w1.node.role w1.node.commit w1.node.wait w1.node.votes (A3Int.mk (max2 (max2 (min2 (w64 (w1.node.next.a1 - 1)) (w64 (m1.index + 1))) 1) (w64 (w1.node.match_.a2 + 1))) w1.node.next.a1 w1.node.next.a2) w1.node.match_) w1.out)))
                      (cond (decide (m1.from_ = 2))
                        (cond ((decide (w1.node.next.a2 ≤ r141.1)))
                          (ob (owe m1.from_ (Worker.mk (Node.mk w1.node.id_ w1.node.term_ w1.node.vote w1.node.base w1.node.baseTerm w1.node.snap w1.node.log w1.node.role w1.node.commit w1.node.wait w1.node.votes (A3Int.mk (max2 (max2 (min2 (w64 (w1.node.next.a1 - 1)) (w64 (m1.index + 1))) 1) (w64 (w1.node.match_.a2 + 1))) w1.node.next.a1 w1.node.next.a2) w1.node.match_) w1.out)) fun y144 =>
                          some y144)
                          (some (Worker.mk (Node.mk w1.node.id_ w1.node.term_ w1.node.vote w1.node.base w1.node.baseTerm w1.node.snap w1.node.log w1.node.role w1.node.commit w1.node.wait w1.node.votes (A3Int.mk (max2 (max2 (min2 (w64 (w1.node.next.a1 - 1)) (w64 (m1.index + 1))) 1) (w64 (w1.node.match_.a2 + 1))) w1.node.next.a1 w1.node.next.a2) w1.node.match_) w1.out)))
                        (none))))
                  (cond (decide (m1.from_ = 1))
                    (ob (last_ (Node.mk w1.node.id_ w1.node.term_ w1.node.vote w1.node.base w1.node.baseTerm w1.node.snap w1.node.log w1.node.role w1.node.commit w1.node.wait w1.node.votes (A3Int.mk w1.node.next.a0 (max2 (max2 (min2 (w64 (w1.node.next.a1 - 1)) (w64 (m1.index + 1))) 1) (w64 (w1.node.match_.a2 + 1))) w1.node.next.a2) w1.node.match_)) fun r145 =>
                    cond (decide (m1.from_ = 0))
                      (cond ((decide (w1.node.next.a0 ≤ r145.1)))
                        (ob (owe m1.from_ (Worker.mk (Node.mk w1.node.id_ w1.node.term_ w1.node.vote w1.node.base w1.node.baseTerm w1.node.snap w1.node.log w1.node.role w1.node.commit w1.node.wait w1.node.votes (A3Int.mk w1.node.next.a0 (max2 (max2 (min2 (w64 (w1.node.next.a1 - 1)) (w64 (m1.index + 1))) 1) (w64 (w1.node.match_.a2 + 1))) w1.node.next.a2) w1.node.match_) w1.out)) fun y146 =>
                        some y146)
                        (some (Worker.mk (Node.mk w1.node.id_ w1.node.term_ w1.node.vote w1.node.base w1.node.baseTerm w1.node.snap w1.node.log w1.node.role w1.node.commit w1.node.wait w1.node.votes (A3Int.mk w1.node.next.a0 (max2 (max2 (min2 (w64 (w1.node.next.a1 - 1)) (w64 (m1.index + 1))) 1) (w64 (w1.node.match_.a2 + 1))) w1.node.next.a2) w1.node.match_) w1.out)))
                      (cond (decide (m1.from_ = 1))
                        (cond ((decide ((max2 (max2 (min2 (w64 (w1.node.next.a1 - 1)) (w64 (m1.index + 1))) 1) (w64 (w1.node.match_.a2 + 1))) ≤ r145.1)))
                          (ob (owe m1.from_ (Worker.mk (Node.mk w1.node.id_ w1.node.term_ w1.node.vote w1.node.base w1.node.baseTerm w1.node.snap w1.node.log w1.node.role w1.node.commit w1.node.wait w1.node.votes (A3Int.mk w1.node.next.a0 (max2 (max2 (min2 (w64 (w1.node.next.a1 - 1)) (w64 (m1.index + 1))) 1) (w64 (w1.node.match_.a2 + 1))) w1.node.next.a2) w1.node.match_) w1.out)) fun y147 =>
                          some y147)
                          (some (Worker.mk (Node.mk w1.node.id_ w1.node.term_ w1.node.vote w1.node.base w1.node.baseTerm w1.node.snap w1.node.log w1.node.role w1.node.commit w1.node.wait w1.node.votes (A3Int.mk w1.node.next.a0 (max2 (max2 (min2 (w64 (w1.node.next.a1 - 1)) (w64 (m1.index + 1))) 1) (w64 (w1.node.match_.a2 + 1))) w1.node.next.a2) w1.node.match_) w1.out)))
                        (cond (decide (m1.from_ = 2))
                          (cond ((decide (w1.node.next.a2 ≤ r145.1)))
                            (ob (owe m1.from_ (Worker.mk (Node.mk w1.node.id_ w1.node.term_ w1.node.vote w1.node.base w1.node.baseTerm w1.node.snap w1.node.log w1.node.role w1.node.commit w1.node.wait w1.node.votes (A3Int.mk w1.node.next.a0 (max2 (max2 (min2 (w64 (w1.node.next.a1 - 1)) (w64 (m1.index + 1))) 1) (w64 (w1.node.match_.a2 + 1))) w1.node.next.a2) w1.node.match_) w1.out)) fun y148 =>
                            some y148)
                            (some (Worker.mk (Node.mk w1.node.id_ w1.node.term_ w1.node.vote w1.node.base w1.node.baseTerm w1.node.snap w1.node.log w1.node.role w1.node.commit w1.node.wait w1.node.votes (A3Int.mk w1.node.next.a0 (max2 (max2 (min2 (w64 (w1.node.next.a1 - 1)) (w64 (m1.index + 1))) 1) (w64 (w1.node.match_.a2 + 1))) w1.node.next.a2) w1.node.match_) w1.out)))
                          (none))))
                    (cond (decide (m1.from_ = 2))
                      (ob (last_ (Node.mk w1.node.id_ w1.node.term_ w1.node.vote w1.node.base w1.node.baseTerm w1.node.snap w1.node.log w1.node.role w1.node.commit w1.node.wait w1.node.votes (A3Int.mk w1.node.next.a0 w1.node.next.a1 (max2 (max2 (min2 (w64 (w1.node.next.a1 - 1)) (w64 (m1.index + 1))) 1) (w64 (w1.node.match_.a2 + 1)))) w1.node.match_)) fun r149 =>
                      cond (decide (m1.from_ = 0))
                        (cond ((decide (w1.node.next.a0 ≤ r149.1)))
                          (ob (owe m1.from_ (Worker.mk (Node.mk w1.node.id_ w1.node.term_ w1.node.vote w1.node.base w1.node.baseTerm w1.node.snap w1.node.log w1.node.role w1.node.commit w1.node.wait w1.node.votes (A3Int.mk w1.node.next.a0 w1.node.next.a1 (max2 (max2 (min2 (w64 (w1.node.next.a1 - 1)) (w64 (m1.index + 1))) 1) (w64 (w1.node.match_.a2 + 1)))) w1.node.match_) w1.out)) fun y150 =>
                          some y150)
                          (some (Worker.mk (Node.mk w1.node.id_ w1.node.term_ w1.node.vote w1.node.base w1.node.baseTerm w1.node.snap w1.node.log w1.node.role w1.node.commit w1.node.wait w1.node.votes (A3Int.mk w1.node.next.a0 w1.node.next.a1 (max2 (max2 (min2 (w64 (w1.node.next.a1 - 1)) (w64 (m1.index + 1))) 1) (w64 (w1.node.match_.a2 + 1)))) w1.node.match_) w1.out)))
                        (cond (decide (m1.from_ = 1))
                          (cond ((decide (w1.node.next.a1 ≤ r149.1)))
                            (ob (owe m1.from_ (Worker.mk (Node.mk w1.node.id_ w1.node.term_ w1.node.vote w1.node.base w1.node.baseTerm w1.node.snap w1.node.log w1.node.role w1.node.commit w1.node.wait w1.node.votes (A3Int.mk w1.node.next.a0 w1.node.next.a1 (max2 (max2 (min2 (w64 (w1.node.next.a1 - 1)) (w64 (m1.index + 1))) 1) (w64 (w1.node.match_.a2 + 1)))) w1.node.match_) w1.out)) fun y151 =>
                            some y151)
                            (some (Worker.mk (Node.mk w1.node.id_ w1.node.term_ w1.node.vote w1.node.base w1.node.baseTerm w1.node.snap w1.node.log w1.node.role w1.node.commit w1.node.wait w1.node.votes (A3Int.mk w1.node.next.a0 w1.node.next.a1 (max2 (max2 (min2 (w64 (w1.node.next.a1 - 1)) (w64 (m1.index + 1))) 1) (w64 (w1.node.match_.a2 + 1)))) w1.node.match_) w1.out)))
                          (cond (decide (m1.from_ = 2))
                            (cond ((decide ((max2 (max2 (min2 (w64 (w1.node.next.a1 - 1)) (w64 (m1.index + 1))) 1) (w64 (w1.node.match_.a2 + 1))) ≤ r149.1)))
                              (ob (owe m1.from_ (Worker.mk (Node.mk w1.node.id_ w1.node.term_ w1.node.vote w1.node.base w1.node.baseTerm w1.node.snap w1.node.log w1.node.role w1.node.commit w1.node.wait w1.node.votes (A3Int.mk w1.node.next.a0 w1.node.next.a1 (max2 (max2 (min2 (w64 (w1.node.next.a1 - 1)) (w64 (m1.index + 1))) 1) (w64 (w1.node.match_.a2 + 1)))) w1.node.match_) w1.out)) fun y152 =>
                              some y152)
                              (some (Worker.mk (Node.mk w1.node.id_ w1.node.term_ w1.node.vote w1.node.base w1.node.baseTerm w1.node.snap w1.node.log w1.node.role w1.node.commit w1.node.wait w1.node.votes (A3Int.mk w1.node.next.a0 w1.node.next.a1 (max2 (max2 (min2 (w64 (w1.node.next.a1 - 1)) (w64 (m1.index + 1))) 1) (w64 (w1.node.match_.a2 + 1)))) w1.node.match_) w1.out)))
                            (none))))
                      (none))))
                (none))))
          (cond (decide (m1.from_ = 2))
            (cond (decide (m1.from_ = 0))
              (cond (decide (m1.from_ = 0))
                (ob (last_ (Node.mk w1.node.id_ w1.node.term_ w1.node.vote w1.node.base w1.node.baseTerm w1.node.snap w1.node.log w1.node.role w1.node.commit w1.node.wait w1.node.votes (A3Int.mk (max2 (max2 (min2 (w64 (w1.node.next.a2 - 1)) (w64 (m1.index + 1))) 1) (w64 (w1.node.match_.a0 + 1))) w1.node.next.a1 w1.node.next.a2) w1.node.match_)) fun r153 =>
                cond (decide (m1.from_ = 0))
                  (cond ((decide ((max2 (max2 (min2 (w64 (w1.node.next.a2 - 1)) (w64 (m1.index + 1))) 1) (w64 (w1.node.match_.a0 + 1))) ≤ r153.1)))
                    (ob (owe m1.from_ (Worker.mk (Node.mk w1.node.id_ w1.node.term_ w1.node.vote w1.node.base w1.node.baseTerm w1.node.snap w1.node.log w1.node.role w1.node.commit w1.node.wait w1.node.votes (A3Int.mk (max2 (max2 (min2 (w64 (w1.node.next.a2 - 1)) (w64 (m1.index + 1))) 1) (w64 (w1.node.match_.a0 + 1))) w1.node.next.a1 w1.node.next.a2) w1.node.match_) w1.out)) fun y154 =>
                    some y154)
                    (some (Worker.mk (Node.mk w1.node.id_ w1.node.term_ w1.node.vote w1.node.base w1.node.baseTerm w1.node.snap w1.node.log w1.node.role w1.node.commit w1.node.wait w1.node.votes (A3Int.mk (max2 (max2 (min2 (w64 (w1.node.next.a2 - 1)) (w64 (m1.index + 1))) 1) (w64 (w1.node.match_.a0 + 1))) w1.node.next.a1 w1.node.next.a2) w1.node.match_) w1.out)))
                  (cond (decide (m1.from_ = 1))
                    (cond ((decide (w1.node.next.a1 ≤ r153.1)))
                      (ob (owe m1.from_ (Worker.mk (Node.mk w1.node.id_ w1.node.term_ w1.node.vote w1.node.base w1.node.baseTerm w1.node.snap w1.node.log w1.node.role w1.node.commit w1.node.wait w1.node.votes (A3Int.mk (max2 (max2 (min2 (w64 (w1.node.next.a2 - 1)) (w64 (m1.index + 1))) 1) (w64 (w1.node.match_.a0 + 1))) w1.node.next.a1 w1.node.next.a2) w1.node.match_) w1.out)) fun y155 =>
                      some y155)
                      (some (Worker.mk (Node.mk w1.node.id_ w1.node.term_ w1.node.vote w1.node.base w1.node.baseTerm w1.node.snap w1.node.log w1.node.role w1.node.commit w1.node.wait w1.node.votes (A3Int.mk (max2 (max2 (min2 (w64 (w1.node.next.a2 - 1)) (w64 (m1.index + 1))) 1) (w64 (w1.node.match_.a0 + 1))) w1.node.next.a1 w1.node.next.a2) w1.node.match_) w1.out)))
                    (cond (decide (m1.from_ = 2))
                      (cond ((decide (w1.node.next.a2 ≤ r153.1)))
                        (ob (owe m1.from_ (Worker.mk (Node.mk w1.node.id_ w1.node.term_ w1.node.vote w1.node.base w1.node.baseTerm w1.node.snap w1.node.log w1.node.role w1.node.commit w1.node.wait w1.node.votes (A3Int.mk (max2 (max2 (min2 (w64 (w1.node.next.a2 - 1)) (w64 (m1.index + 1))) 1) (w64 (w1.node.match_.a0 + 1))) w1.node.next.a1 w1.node.next.a2) w1.node.match_) w1.out)) fun y156 =>
                        some y156)
                        (some (Worker.mk (Node.mk w1.node.id_ w1.node.term_ w1.node.vote w1.node.base w1.node.baseTerm w1.node.snap w1.node.log w1.node.role w1.node.commit w1.node.wait w1.node.votes (A3Int.mk (max2 (max2 (min2 (w64 (w1.node.next.a2 - 1)) (w64 (m1.index + 1))) 1) (w64 (w1.node.match_.a0 + 1))) w1.node.next.a1 w1.node.next.a2) w1.node.match_) w1.out)))
                      (none))))
                (cond (decide (m1.from_ = 1))
                  (ob (last_ (Node.mk w1.node.id_ w1.node.term_ w1.node.vote w1.node.base w1.node.baseTerm w1.node.snap w1.node.log w1.node.role w1.node.commit w1.node.wait w1.node.votes (A3Int.mk w1.node.next.a0 (max2 (max2 (min2 (w64 (w1.node.next.a2 - 1)) (w64 (m1.index + 1))) 1) (w64 (w1.node.match_.a0 + 1))) w1.node.next.a2) w1.node.match_)) fun r157 =>
                  cond (decide (m1.from_ = 0))
                    (cond ((decide (w1.node.next.a0 ≤ r157.1)))
                      (ob (owe m1.from_ (Worker.mk (Node.mk w1.node.id_ w1.node.term_ w1.node.vote w1.node.base w1.node.baseTerm w1.node.snap w1.node.log w1.node.role w1.node.commit w1.node.wait w1.node.votes (A3Int.mk w1.node.next.a0 (max2 (max2 (min2 (w64 (w1.node.next.a2 - 1)) (w64 (m1.index + 1))) 1) (w64 (w1.node.match_.a0 + 1))) w1.node.next.a2) w1.node.match_) w1.out)) fun y158 =>
                      some y158)
                      (some (Worker.mk (Node.mk w1.node.id_ w1.node.term_ w1.node.vote w1.node.base w1.node.baseTerm w1.node.snap w1.node.log w1.node.role w1.node.commit w1.node.wait w1.node.votes (A3Int.mk w1.node.next.a0 (max2 (max2 (min2 (w64 (w1.node.next.a2 - 1)) (w64 (m1.index + 1))) 1) (w64 (w1.node.match_.a0 + 1))) w1.node.next.a2) w1.node.match_) w1.out)))
                    (cond (decide (m1.from_ = 1))
                      (cond ((decide ((max2 (max2 (min2 (w64 (w1.node.next.a2 - 1)) (w64 (m1.index + 1))) 1) (w64 (w1.node.match_.a0 + 1))) ≤ r157.1)))
                        (ob (owe m1.from_ (Worker.mk (Node.mk w1.node.id_ w1.node.term_ w1.node.vote w1.node.base w1.node.baseTerm w1.node.snap w1.node.log w1.node.role w1.node.commit w1.node.wait w1.node.votes (A3Int.mk w1.node.next.a0 (max2 (max2 (min2 (w64 (w1.node.next.a2 - 1)) (w64 (m1.index + 1))) 1) (w64 (w1.node.match_.a0 + 1))) w1.node.next.a2) w1.node.match_) w1.out)) fun y159 =>
                        some y159)
                        (some (Worker.mk (Node.mk w1.node.id_ w1.node.term_ w1.node.vote w1.node.base w1.node.baseTerm w1.node.snap w1.node.log w1.node.role w1.node.commit w1.node.wait w1.node.votes (A3Int.mk w1.node.next.a0 (max2 (max2 (min2 (w64 (w1.node.next.a2 - 1)) (w64 (m1.index + 1))) 1) (w64 (w1.node.match_.a0 + 1))) w1.node.next.a2) w1.node.match_) w1.out)))
                      (cond (decide (m1.from_ = 2))
                        (cond ((decide (w1.node.next.a2 ≤ r157.1)))
                          (ob (owe m1.from_ (Worker.mk (Node.mk w1.node.id_ w1.node.term_ w1.node.vote w1.node.base w1.node.baseTerm w1.node.snap w1.node.log w1.node.role w1.node.commit w1.node.wait w1.node.votes (A3Int.mk w1.node.next.a0 (max2 (max2 (min2 (w64 (w1.node.next.a2 - 1)) (w64 (m1.index + 1))) 1) (w64 (w1.node.match_.a0 + 1))) w1.node.next.a2) w1.node.match_) w1.out)) fun y160 =>
                          some y160)
                          (some (Worker.mk (Node.mk w1.node.id_ w1.node.term_ w1.node.vote w1.node.base w1.node.baseTerm w1.node.snap w1.node.log w1.node.role w1.node.commit w1.node.wait w1.node.votes (A3Int.mk w1.node.next.a0 (max2 (max2 (min2 (w64 (w1.node.next.a2 - 1)) (w64 (m1.index + 1))) 1) (w64 (w1.node.match_.a0 + 1))) w1.node.next.a2) w1.node.match_) w1.out)))
                        (none))))
                  (cond (decide (m1.from_ = 2))
                    (ob (last_ (Node.mk w1.node.id_ w1.node.term_ w1.node.vote w1.node.base w1.node.baseTerm w1.node.snap w1.node.log w1.node.role w1.node.commit w1.node.wait w1.node.votes (A3Int.mk w1.node.next.a0 w1.node.next.a1 (max2 (max2 (min2 (w64 (w1.node.next.a2 - 1)) (w64 (m1.index + 1))) 1) (w64 (w1.node.match_.a0 + 1)))) w1.node.match_)) fun r161 =>
                    cond (decide (m1.from_ = 0))
                      (cond ((decide (w1.node.next.a0 ≤ r161.1)))
                        (ob (owe m1.from_ (Worker.mk (Node.mk w1.node.id_ w1.node.term_ w1.node.vote w1.node.base w1.node.baseTerm w1.node.snap w1.node.log w1.node.role w1.node.commit w1.node.wait w1.node.votes (A3Int.mk w1.node.next.a0 w1.node.next.a1 (max2 (max2 (min2 (w64 (w1.node.next.a2 - 1)) (w64 (m1.index + 1))) 1) (w64 (w1.node.match_.a0 + 1)))) w1.node.match_) w1.out)) fun y162 =>
                        some y162)
                        (some (Worker.mk (Node.mk w1.node.id_ w1.node.term_ w1.node.vote w1.node.base w1.node.baseTerm w1.node.snap w1.node.log w1.node.role w1.node.commit w1.node.wait w1.node.votes (A3Int.mk w1.node.next.a0 w1.node.next.a1 (max2 (max2 (min2 (w64 (w1.node.next.a2 - 1)) (w64 (m1.index + 1))) 1) (w64 (w1.node.match_.a0 + 1)))) w1.node.match_) w1.out)))
                      (cond (decide (m1.from_ = 1))
                        (cond ((decide (w1.node.next.a1 ≤ r161.1)))
                          (ob (owe m1.from_ (Worker.mk (Node.mk w1.node.id_ w1.node.term_ w1.node.vote w1.node.base w1.node.baseTerm w1.node.snap w1.node.log w1.node.role w1.node.commit w1.node.wait w1.node.votes (A3Int.mk w1.node.next.a0 w1.node.next.a1 (max2 (max2 (min2 (w64 (w1.node.next.a2 - 1)) (w64 (m1.index + 1))) 1) (w64 (w1.node.match_.a0 + 1)))) w1.node.match_) w1.out)) fun y163 =>
                          some y163)
                          (some (Worker.mk (Node.mk w1.node.id_ w1.node.term_ w1.node.vote w1.node.base w1.node.baseTerm w1.node.snap w1.node.log w1.node.role w1.node.commit w1.node.wait w1.node.votes (A3Int.mk w1.node.next.a0 w1.node.next.a1 (max2 (max2 (min2 (w64 (w1.node.next.a2 - 1)) (w64 (m1.index + 1))) 1) (w64 (w1.node.match_.a0 + 1)))) w1.node.match_) w1.out)))
                        (cond (decide (m1.from_ = 2))
                          (cond ((decide ((max2 (max2 (min2 (w64 (w1.node.next.a2 - 1)) (w64 (m1.index + 1))) 1) (w64 (w1.node.match_.a0 + 1))) ≤ r161.1)))
                            (ob (owe m1.from_ (Worker.mk (Node.mk w1.node.id_ w1.node.term_ w1.node.vote w1.node.base w1.node.baseTerm w1.node.snap w1.node.log w1.node.role w1.node.commit w1.node.wait w1.node.votes (A3Int.mk w1.node.next.a0 w1.node.next.a1 (max2 (max2 (min2 (w64 (w1.node.next.a2 - 1)) (w64 (m1.index + 1))) 1) (w64 (w1.node.match_.a0 + 1)))) w1.node.match_) w1.out)) fun y164 =>
                            some y164)
                            (some (Worker.mk (Node.mk w1.node.id_ w1.node.term_ w1.node.vote w1.node.base w1.node.baseTerm w1.node.snap w1.node.log w1.node.role w1.node.commit w1.node.wait w1.node.votes (A3Int.mk w1.node.next.a0 w1.node.next.a1 (max2 (max2 (min2 (w64 (w1.node.next.a2 - 1)) (w64 (m1.index + 1))) 1) (w64 (w1.node.match_.a0 + 1)))) w1.node.match_) w1.out)))
                          (none))))
                    (none))))
              (cond (decide (m1.from_ = 1))
                (cond (decide (m1.from_ = 0))
                  (ob (last_ (Node.mk w1.node.id_ w1.node.term_ w1.node.vote w1.node.base w1.node.baseTerm w1.node.snap w1.node.log w1.node.role w1.node.commit w1.node.wait w1.node.votes (A3Int.mk (max2 (max2 (min2 (w64 (w1.node.next.a2 - 1)) (w64 (m1.index + 1))) 1) (w64 (w1.node.match_.a1 + 1))) w1.node.next.a1 w1.node.next.a2) w1.node.match_)) fun r165 =>
                  cond (decide (m1.from_ = 0))
                    (cond ((decide ((max2 (max2 (min2 (w64 (w1.node.next.a2 - 1)) (w64 (m1.index + 1))) 1) (w64 (w1.node.match_.a1 + 1))) ≤ r165.1)))
                      (ob (owe m1.from_ (Worker.mk (Node.mk w1.node.id_ w1.node.term_ w1.node.vote w1.node.base w1.node.baseTerm w1.node.snap w1.node.log w1.node.role w1.node.commit w1.node.wait w1.node.votes (A3Int.mk (max2 (max2 (min2 (w64 (w1.node.next.a2 - 1)) (w64 (m1.index + 1))) 1) (w64 (w1.node.match_.a1 + 1))) w1.node.next.a1 w1.node.next.a2) w1.node.match_) w1.out)) fun y166 =>
                      some y166)
                      (some (Worker.mk (Node.mk w1.node.id_ w1.node.term_ w1.node.vote w1.node.base w1.node.baseTerm w1.node.snap w1.node.log w1.node.role w1.node.commit w1.node.wait w1.node.votes (A3Int.mk (max2 (max2 (min2 (w64 (w1.node.next.a2 - 1)) (w64 (m1.index + 1))) 1) (w64 (w1.node.match_.a1 + 1))) w1.node.next.a1 w1.node.next.a2) w1.node.match_) w1.out)))
                    (cond (decide (m1.from_ = 1))
                      (cond ((decide (w1.node.next.a1 ≤ r165.1)))
                        (ob (owe m1.from_ (Worker.mk (Node.mk w1.node.id_ w1.node.term_ w1.node.vote w1.node.base w1.node.baseTerm w1.node.snap w1.node.log w1.node.role w1.node.commit w1.node.wait w1.node.votes (A3Int.mk (max2 (max2 (min2 (w64 (w1.node.next.a2 - 1)) (w64 (m1.index + 1))) 1) (w64 (w1.node.match_.a1 + 1))) w1.node.next.a1 w1.node.next.a2) w1.node.match_) w1.out)) fun y167 =>
                        some y167)
                        (some (Worker.mk (Node.mk w1.node.id_ w1.node.term_ w1.node.vote w1.node.base w1.node.baseTerm w1.node.snap w1.node.log w1.node.role w1.node.commit w1.node.wait w1.node.votes (A3Int.mk (max2 (max2 (min2 (w64 (w1.node.next.a2 - 1)) (w64 (m1.index + 1))) 1) (w64 (w1.node.match_.a1 + 1))) w1.node.next.a1 w1.node.next.a2) w1.node.match_) w1.out)))
                      (cond (decide (m1.from_ = 2))
                        (cond ((decide (w1.node.next.a2 ≤ r165.1)))
                          (ob (owe m1.from_ (Worker.mk (Node.mk w1.node.id_ w1.node.term_ w1.node.vote w1.node.base w1.node.baseTerm w1.node.snap w1.node.log w1.node.role w1.node.commit w1.node.wait w1.node.votes (A3Int.mk (max2 (max2 (min2 (w64 (w1.node.next.a2 - 1)) (w64 (m1.index + 1))) 1) (w64 (w1.node.match_.a1 + 1))) w1.node.next.a1 w1.node.next.a2) w1.node.match_) w1.out)) fun y168 =>
                          some y168)
                          (some (Worker.mk (Node.mk w1.node.id_ w1.node.term_ w1.node.vote w1.node.base w1.node.baseTerm w1.node.snap w1.node.log w1.node.role w1.node.commit w1.node.wait w1.node.votes (A3Int.mk (max2 (max2 (min2 (w64 (w1.node.next.a2 - 1)) (w64 (m1.index + 1))) 1) (w64 (w1.node.match_.a1 + 1))) w1.node.next.a1 w1.node.next.a2) w1.node.match_) w1.out)))
                        (none))))
                  (cond (decide (m1.from_ = 1))
                    (ob (last_ (Node.mk w1.node.id_ w1.node.term_ w1.node.vote w1.node.base w1.node.baseTerm w1.node.snap w1.node.log w1.node.role w1.node.commit w1.node.wait w1.node.votes (A3Int.mk w1.node.next.a0 (max2 (max2 (min2 (w64 (w1.node.next.a2 - 1)) (w64 (m1.index + 1))) 1) (w64 (w1.node.match_.a1 + 1))) w1.node.next.a2) w1.node.match_)) fun r169 =>
                    cond (decide (m1.from_ = 0))
                      (cond ((decide (w1.node.next.a0 ≤ r169.1)))
                        (ob (owe m1.from_ (Worker.mk (Node.mk w1.node.id_ w1.node.term_ w1.node.vote w1.node.base w1.node.baseTerm w1.node.snap w1.node.log w1.node.role w1.node.commit w1.node.wait w1.node.votes (A3Int.mk w1.node.next.a0 (max2 (max2 (min2 (w64 (w1.node.next.a2 - 1)) (w64 (m1.index + 1))) 1) (w64 (w1.node.match_.a1 + 1))) w1.node.next.a2) w1.node.match_) w1.out)) fun y170 =>
                        some y170)
                        (some (Worker.mk (Node.mk w1.node.id_ w1.node.term_ w1.node.vote w1.node.base w1.node.baseTerm w1.node.snap w1.node.log w1.node.role w1.node.commit w1.node.wait w1.node.votes (A3Int.mk w1.node.next.a0 (max2 (max2 (min2 (w64 (w1.node.next.a2 - 1)) (w64 (m1.index + 1))) 1) (w64 (w1.node.match_.a1 + 1))) w1.node.next.a2) w1.node.match_) w1.out)))
                      (cond (decide (m1.from_ = 1))
                        (cond ((decide ((max2 (max2 (min2 (w64 (w1.node.next.a2 - 1)) (w64 (m1.index + 1))) 1) (w64 (w1.node.match_.a1 + 1))) ≤ r169.1)))
                          (ob (owe m1.from_ (Worker.mk (Node.mk w1.node.id_ w1.node.term_ w1.node.vote w1.node.base w1.node.baseTerm w1.node.snap w1.node.log w1.node.role w1.node.commit w1.node.wait w1.node.votes (A3Int.mk w1.node.next.a0 (max2 (max2 (min2 (w64 (w1.node.next.a2 - 1)) (w64 (m1.index + 1))) 1) (w64 (w1.node.match_.a1 + 1))) w1.node.next.a2) w1.node.match_) w1.out)) fun y171 =>
                          some y171)
                          (some (Worker.mk (Node.mk w1.node.id_ w1.node.term_ w1.node.vote w1.node.base w1.node.baseTerm w1.node.snap w1.node.log w1.node.role w1.node.commit w1.node.wait w1.node.votes (A3Int.mk w1.node.next.a0 (max2 (max2 (min2 (w64 (w1.node.next.a2 - 1)) (w64 (m1.index + 1))) 1) (w64 (w1.node.match_.a1 + 1))) w1.node.next.a2) w1.node.match_) w1.out)))
                        (cond (decide (m1.from_ = 2))
                          (cond ((decide (w1.node.next.a2 ≤ r169.1)))
                            (ob (owe m1.from_ (Worker.mk (Node.mk w1.node.id_ w1.node.term_ w1.node.vote w1.node.base w1.node.baseTerm w1.node.snap w1.node.log w1.node.role w1.node.commit w1.node.wait w1.node.votes (A3Int.mk w1.node.next.a0 (max2 (max2 (min2 (w64 (w1.node.next.a2 - 1)) (w64 (m1.index + 1))) 1) (w64 (w1.node.match_.a1 + 1))) w1.node.next.a2) w1.node.match_) w1.out)) fun y172 =>
                            some y172)
                            (some (Worker.mk (Node.mk w1.node.id_ w1.node.term_ w1.node.vote w1.node.base w1.node.baseTerm w1.node.snap w1.node.log w1.node.role w1.node.commit w1.node.wait w1.node.votes (A3Int.mk w1.node.next.a0 (max2 (max2 (min2 (w64 (w1.node.next.a2 - 1)) (w64 (m1.index + 1))) 1) (w64 (w1.node.match_.a1 + 1))) w1.node.next.a2) w1.node.match_) w1.out)))
                          (none))))
                    (cond (decide (m1.from_ = 2))
                      (ob (last_ (Node.mk w1.node.id_ w1.node.term_ w1.node.vote w1.node.base w1.node.baseTerm w1.node.snap w1.node.log w1.node.role w1.node.commit w1.node.wait w1.node.votes (A3Int.mk w1.node.next.a0 w1.node.next.a1 (max2 (max2 (min2 (w64 (w1.node.next.a2 - 1)) (w64 (m1.index + 1))) 1) (w64 (w1.node.match_.a1 + 1)))) w1.node.match_)) fun r173 =>
                      cond (decide (m1.from_ = 0))
                        (cond ((decide (w1.node.next.a0 ≤ r173.1)))
                          (ob (owe m1.from_ (Worker.mk (Node.mk w1.node.id_ w1.node.term_ w1.node.vote w1.node.base w1.node.baseTerm w1.node.snap w1.node.log w1.node.role w1.node.commit w1.node.wait w1.node.votes (A3Int.mk w1.node.next.a0 w1.node.next.a1 (max2 (max2 (min2 (w64 (w1.node.next.a2 - 1)) (w64 (m1.index + 1))) 1) (w64 (w1.node.match_.a1 + 1)))) w1.node.match_) w1.out)) fun y174 =>
                          some y174)
                          (some (Worker.mk (Node.mk w1.node.id_ w1.node.term_ w1.node.vote w1.node.base w1.node.baseTerm w1.node.snap w1.node.log w1.node.role w1.node.commit w1.node.wait w1.node.votes (A3Int.mk w1.node.next.a0 w1.node.next.a1 (max2 (max2 (min2 (w64 (w1.node.next.a2 - 1)) (w64 (m1.index + 1))) 1) (w64 (w1.node.match_.a1 + 1)))) w1.node.match_) w1.out)))
                        (cond (decide (m1.from_ = 1))
                          (cond ((decide (w1.node.next.a1 ≤ r173.1)))
                            (ob (owe m1.from_ (Worker.mk (Node.mk w1.node.id_ w1.node.term_ w1.node.vote w1.node.base w1.node.baseTerm w1.node.snap w1.node.log w1.node.role w1.node.commit w1.node.wait w1.node.votes (A3Int.mk w1.node.next.a0 w1.node.next.a1 (max2 (max2 (min2 (w64 (w1.node.next.a2 - 1)) (w64 (m1.index + 1))) 1) (w64 (w1.node.match_.a1 + 1)))) w1.node.match_) w1.out)) fun y175 =>
                            some y175)
                            (some (Worker.mk (Node.mk w1.node.id_ w1.node.term_ w1.node.vote w1.node.base w1.node.baseTerm w1.node.snap w1.node.log w1.node.role w1.node.commit w1.node.wait w1.node.votes (A3Int.mk w1.node.next.a0 w1.node.next.a1 (max2 (max2 (min2 (w64 (w1.node.next.a2 - 1)) (w64 (m1.index + 1))) 1) (w64 (w1.node.match_.a1 + 1)))) w1.node.match_) w1.out)))
                          (cond (decide (m1.from_ = 2))
                            (cond ((decide ((max2 (max2 (min2 (w64 (w1.node.next.a2 - 1)) (w64 (m1.index + 1))) 1) (w64 (w1.node.match_.a1 + 1))) ≤ r173.1)))
                              (ob (owe m1.from_ (Worker.mk (Node.mk w1.node.id_ w1.node.term_ w1.node.vote w1.node.base w1.node.baseTerm w1.node.snap w1.node.log w1.node.role w1.node.commit w1.node.wait w1.node.votes (A3Int.mk w1.node.next.a0 w1.node.next.a1 (max2 (max2 (min2 (w64 (w1.node.next.a2 - 1)) (w64 (m1.index + 1))) 1) (w64 (w1.node.match_.a1 + 1)))) w1.node.match_) w1.out)) fun y176 =>
                              some y176)
                              (some (Worker.mk (Node.mk w1.node.id_ w1.node.term_ w1.node.vote w1.node.base w1.node.baseTerm w1.node.snap w1.node.log w1.node.role w1.node.commit w1.node.wait w1.node.votes (A3Int.mk w1.node.next.a0 w1.node.next.a1 (max2 (max2 (min2 (w64 (w1.node.next.a2 - 1)) (w64 (m1.index + 1))) 1) (w64 (w1.node.match_.a1 + 1)))) w1.node.match_) w1.out)))
                            (none))))
                      (none))))
                (cond (decide (m1.from_ = 2))
                  (cond (decide (m1.from_ = 0))
                    (ob (last_ (Node.mk w1.node.id_ w1.node.term_ w1.node.vote w1.node.base w1.node.baseTerm w1.node.snap w1.node.log w1.node.role w1.node.commit w1.node.wait w1.node.votes (A3Int.mk (max2 (max2 (min2 (w64 (w1.node.next.a2 - 1)) (w64 (m1.index + 1))) 1) (w64 (w1.node.match_.a2 + 1))) w1.node.next.a1 w1.node.next.a2) w1.node.match_)) fun r177 =>
                    cond (decide (m1.from_ = 0))
                      (cond ((decide ((max2 (max2 (min2 (w64 (w1.node.next.a2 - 1)) (w64 (m1.index + 1))) 1) (w64 (w1.node.match_.a2 + 1))) ≤ r177.1)))
                        (ob (owe m1.from_ (Worker.mk (Node.mk w1.node.id_ w1.node.term_ w1.node.vote w1.node.base w1.node.baseTerm w1.node.snap w1.node.log w1.node.role w1.node.commit w1.node.wait w1.node.votes (A3Int.mk (max2 (max2 (min2 (w64 (w1.node.next.a2 - 1)) (w64 (m1.index + 1))) 1) (w64 (w1.node.match_.a2 + 1))) w1.node.next.a1 w1.node.next.a2) w1.node.match_) w1.out)) fun y178 =>
                        some y178)
                        (some (Worker.mk (Node.mk w1.node.id_ w1.node.term_ w1.node.vote w1.node.base w1.node.baseTerm w1.node.snap w1.node.log w1.node.role w1.node.commit w1.node.wait w1.node.votes (A3Int.mk (max2 (max2 (min2 (w64 (w1.node.next.a2 - 1)) (w64 (m1.index + 1))) 1) (w64 (w1.node.match_.a2 + 1))) w1.node.next.a1 w1.node.next.a2) w1.node.match_) w1.out)))
                      (cond (decide (m1.from_ = 1))
                        (cond ((decide (w1.node.next.a1 ≤ r177.1)))
                          (ob (owe m1.from_ (Worker.mk (Node.mk w1.node.id_ w1.node.term_ w1.node.vote w1.node.base w1.node.baseTerm w1.node.snap w1.node.log w1.node.role w1.node.commit w1.node.wait w1.node.votes (A3Int.mk (max2 (max2 (min2 (w64 (w1.node.next.a2 - 1)) (w64 (m1.index + 1))) 1) (w64 (w1.node.match_.a2 + 1))) w1.node.next.a1 w1.node.next.a2) w1.node.match_) w1.out)) fun y179 =>
                          some y179)
                          (some (Worker.mk (Node.mk w1.node.id_ w1.node.term_ w1.node.vote w1.node.base w1.node.baseTerm w1.node.snap w1.node.log w1.node.role w1.node.commit w1.node.wait w1.node.votes (A3Int.mk (max2 (max2 (min2 (w64 (w1.node.next.a2 - 1)) (w64 (m1.index + 1))) 1) (w64 (w1.node.match_.a2 + 1))) w1.node.next.a1 w1.node.next.a2) w1.node.match_) w1.out)))
                        (cond (decide (m1.from_ = 2))
                          (cond ((decide (w1.node.next.a2 ≤ r177.1)))
                            (ob (owe m1.from_ (Worker.mk (Node.mk w1.node.id_ w1.node.term_ w1.node.vote w1.node.base w1.node.baseTerm w1.node.snap w1.node.log w1.node.role w1.node.commit w1.node.wait w1.node.votes (A3Int.mk (max2 (max2 (min2 (w64 (w1.node.next.a2 - 1)) (w64 (m1.index + 1))) 1) (w64 (w1.node.match_.a2 + 1))) w1.node.next.a1 w1.node.next.a2) w1.node.match_) w1.out)) fun y180 =>
                            some y180)
                            (some (Worker.mk (Node.mk w1.node.id_ w1.node.term_ w1.node.vote w1.node.base w1.node.baseTerm w1.node.snap w1.node.log w1.node.role w1.node.commit w1.node.wait w1.node.votes (A3Int.mk (max2 (max2 (min2 (w64 (w1.node.next.a2 - 1)) (w64 (m1.index + 1))) 1) (w64 (w1.node.match_.a2 + 1))) w1.node.next.a1 w1.node.next.a2) w1.node.match_) w1.out)))
                          (none))))
                    (cond (decide (m1.from_ = 1))
                      (ob (last_ (Node.mk w1.node.id_ w1.node.term_ w1.node.vote w1.node.base w1.node.baseTerm w1.node.snap w1.node.log w1.node.role w1.node.commit w1.node.wait w1.node.votes (A3Int.mk w1.node.next.a0 (max2 (max2 (min2 (w64 (w1.node.next.a2 - 1)) (w64 (m1.index + 1))) 1) (w64 (w1.node.match_.a2 + 1))) w1.node.next.a2) w1.node.match_)) fun r181 =>
                      cond (decide (m1.from_ = 0))
                        (cond ((decide (w1.node.next.a0 ≤ r181.1)))
                          (ob (owe m1.from_ (Worker.mk (Node.mk w1.node.id_ w1.node.term_ w1.node.vote w1.node.base w1.node.baseTerm w1.node.snap w1.node.log w1.node.role w1.node.commit w1.node.wait w1.node.votes (A3Int.mk w1.node.next.a0 (max2 (max2 (min2 (w64 (w1.node.next.a2 - 1)) (w64 (m1.index + 1))) 1) (w64 (w1.node.match_.a2 + 1))) w1.node.next.a2) w1.node.match_) w1.out)) fun y182 =>
                          some y182)
                          (some (Worker.mk (Node.mk w1.node.id_ w1.node.term_ w1.node.vote w1.node.base w1.node.baseTerm w1.node.snap w1.node.log w1.node.role w1.node.commit w1.node.wait w1.node.votes (A3Int.mk w1.node.next.a0 (max2 (max2 (min2 (w64 (w1.node.next.a2 - 1)) (w64 (m1.index + 1))) 1) (w64 (w1.node.match_.a2 + 1))) w1.node.next.a2) w1.node.match_) w1.out)))
                        (cond (decide (m1.from_ = 1))
                          (cond ((decide ((max2 (max2 (min2 (w64 (w1.node.next.a2 - 1)) (w64 (m1.index + 1))) 1) (w64 (w1.node.match_.a2 + 1))) ≤ r181.1)))
                            (ob (owe m1.from_ (Worker.mk (Node.mk w1.node.id_ w1.node.term_ w1.node.vote w1.node.base w1.node.baseTerm w1.node.snap w1.node.log w1.node.role w1.node.commit w1.node.wait w1.node.votes (A3Int.mk w1.node.next.a0 (max2 (max2 (min2 (w64 (w1.node.next.a2 - 1)) (w64 (m1.index + 1))) 1) (w64 (w1.node.match_.a2 + 1))) w1.node.next.a2) w1.node.match_) w1.out)) fun y183 =>
                            some y183)
                            (some (Worker.mk (Node.mk w1.node.id_ w1.node.term_ w1.node.vote w1.node.base w1.node.baseTerm w1.node.snap w1.node.log w1.node.role w1.node.commit w1.node.wait w1.node.votes (A3Int.mk w1.node.next.a0 (max2 (max2 (min2 (w64 (w1.node.next.a2 - 1)) (w64 (m1.index + 1))) 1) (w64 (w1.node.match_.a2 + 1))) w1.node.next.a2) w1.node.match_) w1.out)))
                          (cond (decide (m1.from_ = 2))
                            (cond ((decide (w1.node.next.a2 ≤ r181.1)))
                              (ob (owe m1.from_ (Worker.mk (Node.mk w1.node.id_ w1.node.term_ w1.node.vote w1.node.base w1.node.baseTerm w1.node.snap w1.node.log w1.node.role w1.node.commit w1.node.wait w1.node.votes (A3Int.mk w1.node.next.a0 (max2 (max2 (min2 (w64 (w1.node.next.a2 - 1)) (w64 (m1.index + 1))) 1) (w64 (w1.node.match_.a2 + 1))) w1.node.next.a2) w1.node.match_) w1.out)) fun y184 =>
                              some y184)
                              (some (Worker.mk (Node.mk w1.node.id_ w1.node.term_ w1.node.vote w1.node.base w1.node.baseTerm w1.node.snap w1.node.log w1.node.role w1.node.commit w1.node.wait w1.node.votes (A3Int.mk w1.node.next.a0 (max2 (max2 (min2 (w64 (w1.node.next.a2 - 1)) (w64 (m1.index + 1))) 1) (w64 (w1.node.match_.a2 + 1))) w1.node.next.a2) w1.node.match_) w1.out)))
                            (none))))
                      (cond (decide (m1.from_ = 2))
                        (ob (last_ (Node.mk w1.node.id_ w1.node.term_ w1.node.vote w1.node.base w1.node.baseTerm w1.node.snap w1.node.log w1.node.role w1.node.commit w1.node.wait w1.node.votes (A3Int.mk w1.node.next.a0 w1.node.next.a1 (max2 (max2 (min2 (w64 (w1.node.next.a2 - 1)) (w64 (m1.index + 1))) 1) (w64 (w1.node.match_.a2 + 1)))) w1.node.match_)) fun r185 =>
                        cond (decide (m1.from_ = 0))
                          (cond ((decide (w1.node.next.a0 ≤ r185.1)))
                            (ob (owe m1.from_ (Worker.mk (Node.mk w1.node.id_ w1.node.term_ w1.node.vote w1.node.base w1.node.baseTerm w1.node.snap w1.node.log w1.node.role w1.node.commit w1.node.wait w1.node.votes (A3Int.mk w1.node.next.a0 w1.node.next.a1 (max2 (max2 (min2 (w64 (w1.node.next.a2 - 1)) (w64 (m1.index + 1))) 1) (w64 (w1.node.match_.a2 + 1)))) w1.node.match_) w1.out)) fun y186 =>
                            some y186)
                            (some (Worker.mk (Node.mk w1.node.id_ w1.node.term_ w1.node.vote w1.node.base w1.node.baseTerm w1.node.snap w1.node.log w1.node.role w1.node.commit w1.node.wait w1.node.votes (A3Int.mk w1.node.next.a0 w1.node.next.a1 (max2 (max2 (min2 (w64 (w1.node.next.a2 - 1)) (w64 (m1.index + 1))) 1) (w64 (w1.node.match_.a2 + 1)))) w1.node.match_) w1.out)))
                          (cond (decide (m1.from_ = 1))
                            (cond ((decide (w1.node.next.a1 ≤ r185.1)))
                              (ob (owe m1.from_ (Worker.mk (Node.mk w1.node.id_ w1.node.term_ w1.node.vote w1.node.base w1.node.baseTerm w1.node.snap w1.node.log w1.node.role w1.node.commit w1.node.wait w1.node.votes (A3Int.mk w1.node.next.a0 w1.node.next.a1 (max2 (max2 (min2 (w64 (w1.node.next.a2 - 1)) (w64 (m1.index + 1))) 1) (w64 (w1.node.match_.a2 + 1)))) w1.node.match_) w1.out)) fun y187 =>
                              some y187)
                              (some (Worker.mk (Node.mk w1.node.id_ w1.node.term_ w1.node.vote w1.node.base w1.node.baseTerm w1.node.snap w1.node.log w1.node.role w1.node.commit w1.node.wait w1.node.votes (A3Int.mk w1.node.next.a0 w1.node.next.a1 (max2 (max2 (min2 (w64 (w1.node.next.a2 - 1)) (w64 (m1.index + 1))) 1) (w64 (w1.node.match_.a2 + 1)))) w1.node.match_) w1.out)))
                            (cond (decide (m1.from_ = 2))
                              (cond ((decide ((max2 (max2 (min2 (w64 (w1.node.next.a2 - 1)) (w64 (m1.index + 1))) 1) (w64 (w1.node.match_.a2 + 1))) ≤ r185.1)))
                                (ob (owe m1.from_ (Worker.mk (Node.mk w1.node.id_ w1.node.term_ w1.node.vote w1.node.base w1.node.baseTerm w1.node.snap w1.node.log w1.node.role w1.node.commit w1.node.wait w1.node.votes (A3Int.mk w1.node.next.a0 w1.node.next.a1 (max2 (max2 (min2 (w64 (w1.node.next.a2 - 1)) (w64 (m1.index + 1))) 1) (w64 (w1.node.match_.a2 + 1)))) w1.node.match_) w1.out)) fun y188 =>
                                some y188)
                                (some (Worker.mk (Node.mk w1.node.id_ w1.node.term_ w1.node.vote w1.node.base w1.node.baseTerm w1.node.snap w1.node.log w1.node.role w1.node.commit w1.node.wait w1.node.votes (A3Int.mk w1.node.next.a0 w1.node.next.a1 (max2 (max2 (min2 (w64 (w1.node.next.a2 - 1)) (w64 (m1.index + 1))) 1) (w64 (w1.node.match_.a2 + 1)))) w1.node.match_) w1.out)))
                              (none))))
                        (none))))
                  (none))))
            (none)))))
def ch_heard : Cod (Cst TL) (Msg × Worker) := Cod.iso (Cod.cst 2 (Cod.cons (Cod.xs (Cod.sc (Cod.ptr 0 0))) (Cod.cons (Cod.xs (Cod.sa (Cod.cons (Cod.im (Cod.int .i64)) (Cod.cons (Cod.im (Cod.int .i64)) (Cod.cons (Cod.im (Cod.int .i64)) (Cod.cons (Cod.im (Cod.int .i64)) (Cod.cons (Cod.im (Cod.int .i64)) (Cod.cons (Cod.im (Cod.int .i64)) (Cod.cons (Cod.im (Cod.int .i64)) (Cod.cons (Cod.im Cod.bool) (Cod.cons (Cod.im (Cod.fz j_lEntry)) (Cod.cons (Cod.im Cod.str) (Cod.nil))))))))))))) (Cod.nil))) (Cod.cons (Cod.var 0 68 (Cod.cons (Cod.im (Cod.int .i64)) (Cod.cons (Cod.im (Cod.int .i64)) (Cod.cons (Cod.im (Cod.int .i64)) (Cod.cons (Cod.im (Cod.int .i64)) (Cod.cons (Cod.im (Cod.int .i64)) (Cod.cons (Cod.im Cod.str) (Cod.cons (Cod.im (Cod.fz j_lEntry)) (Cod.cons (Cod.im (Cod.int .i64)) (Cod.cons (Cod.im (Cod.int .i64)) (Cod.cons (Cod.im (Cod.int .i64)) (Cod.cons (Cod.im Cod.bool) (Cod.cons (Cod.im Cod.bool) (Cod.cons (Cod.im Cod.bool) (Cod.cons (Cod.im (Cod.int .i64)) (Cod.cons (Cod.im (Cod.int .i64)) (Cod.cons (Cod.im (Cod.int .i64)) (Cod.cons (Cod.im (Cod.int .i64)) (Cod.cons (Cod.im (Cod.int .i64)) (Cod.cons (Cod.im (Cod.int .i64)) (Cod.cons (Cod.ar 1) (Cod.nil)))))))))))))))))))))) (Cod.cons (Cod.arr 1 39 j_lMsg) (Cod.nil)))) (fun p => ((Msg.mk p.1.2.1.1 p.1.2.1.2.1 p.1.2.1.2.2.1 p.1.2.1.2.2.2.1 p.1.2.1.2.2.2.2.1 p.1.2.1.2.2.2.2.2.1 p.1.2.1.2.2.2.2.2.2.1 p.1.2.1.2.2.2.2.2.2.2.1 p.1.2.1.2.2.2.2.2.2.2.2.1 p.1.2.1.2.2.2.2.2.2.2.2.2.1), (Worker.mk (Node.mk p.2.1.1 p.2.1.2.1 p.2.1.2.2.1 p.2.1.2.2.2.1 p.2.1.2.2.2.2.1 p.2.1.2.2.2.2.2.1 p.2.1.2.2.2.2.2.2.1 p.2.1.2.2.2.2.2.2.2.1 p.2.1.2.2.2.2.2.2.2.2.1 p.2.1.2.2.2.2.2.2.2.2.2.1 (A3Bool.mk p.2.1.2.2.2.2.2.2.2.2.2.2.1 p.2.1.2.2.2.2.2.2.2.2.2.2.2.1 p.2.1.2.2.2.2.2.2.2.2.2.2.2.2.1) (A3Int.mk p.2.1.2.2.2.2.2.2.2.2.2.2.2.2.2.1 p.2.1.2.2.2.2.2.2.2.2.2.2.2.2.2.2.1 p.2.1.2.2.2.2.2.2.2.2.2.2.2.2.2.2.2.1) (A3Int.mk p.2.1.2.2.2.2.2.2.2.2.2.2.2.2.2.2.2.2.1 p.2.1.2.2.2.2.2.2.2.2.2.2.2.2.2.2.2.2.2.1 p.2.1.2.2.2.2.2.2.2.2.2.2.2.2.2.2.2.2.2.2.1)) p.2.2.1))) (fun (x : Msg × Worker) => (((), ((x.1.kind, (x.1.from_, (x.1.to_, (x.1.term_, (x.1.index, (x.1.logTerm, (x.1.commit, (x.1.yes, (x.1.entries, (x.1.snap, ())))))))))), ())), ((x.2.node.id_, (x.2.node.term_, (x.2.node.vote, (x.2.node.base, (x.2.node.baseTerm, (x.2.node.snap, (x.2.node.log, (x.2.node.role, (x.2.node.commit, (x.2.node.wait, (x.2.node.votes.a0, (x.2.node.votes.a1, (x.2.node.votes.a2, (x.2.node.next.a0, (x.2.node.next.a1, (x.2.node.next.a2, (x.2.node.match_.a0, (x.2.node.match_.a1, (x.2.node.match_.a2, ((), ())))))))))))))))))))), (x.2.out, ())))) (fun _ => rfl)
def co_heard : Cod (Cst TL) (Worker) := Cod.iso (Cod.cst 5 (Cod.cons (Cod.xt (Cod.nil)) (Cod.nil)) (Cod.cons (Cod.var 0 68 (Cod.cons (Cod.im (Cod.int .i64)) (Cod.cons (Cod.im (Cod.int .i64)) (Cod.cons (Cod.im (Cod.int .i64)) (Cod.cons (Cod.im (Cod.int .i64)) (Cod.cons (Cod.im (Cod.int .i64)) (Cod.cons (Cod.im Cod.str) (Cod.cons (Cod.im (Cod.fz j_lEntry)) (Cod.cons (Cod.im (Cod.int .i64)) (Cod.cons (Cod.im (Cod.int .i64)) (Cod.cons (Cod.im (Cod.int .i64)) (Cod.cons (Cod.im Cod.bool) (Cod.cons (Cod.im Cod.bool) (Cod.cons (Cod.im Cod.bool) (Cod.cons (Cod.im (Cod.int .i64)) (Cod.cons (Cod.im (Cod.int .i64)) (Cod.cons (Cod.im (Cod.int .i64)) (Cod.cons (Cod.im (Cod.int .i64)) (Cod.cons (Cod.im (Cod.int .i64)) (Cod.cons (Cod.im (Cod.int .i64)) (Cod.cons (Cod.ar 4) (Cod.nil)))))))))))))))))))))) (Cod.cons (Cod.dead 1) (Cod.cons (Cod.arr 4 39 j_lMsg) (Cod.nil))))) (fun p => (Worker.mk (Node.mk p.2.1.1 p.2.1.2.1 p.2.1.2.2.1 p.2.1.2.2.2.1 p.2.1.2.2.2.2.1 p.2.1.2.2.2.2.2.1 p.2.1.2.2.2.2.2.2.1 p.2.1.2.2.2.2.2.2.2.1 p.2.1.2.2.2.2.2.2.2.2.1 p.2.1.2.2.2.2.2.2.2.2.2.1 (A3Bool.mk p.2.1.2.2.2.2.2.2.2.2.2.2.1 p.2.1.2.2.2.2.2.2.2.2.2.2.2.1 p.2.1.2.2.2.2.2.2.2.2.2.2.2.2.1) (A3Int.mk p.2.1.2.2.2.2.2.2.2.2.2.2.2.2.2.1 p.2.1.2.2.2.2.2.2.2.2.2.2.2.2.2.2.1 p.2.1.2.2.2.2.2.2.2.2.2.2.2.2.2.2.2.1) (A3Int.mk p.2.1.2.2.2.2.2.2.2.2.2.2.2.2.2.2.2.2.1 p.2.1.2.2.2.2.2.2.2.2.2.2.2.2.2.2.2.2.2.1 p.2.1.2.2.2.2.2.2.2.2.2.2.2.2.2.2.2.2.2.2.1)) p.2.2.2.1)) (fun (x : Worker) => (((), ()), ((x.node.id_, (x.node.term_, (x.node.vote, (x.node.base, (x.node.baseTerm, (x.node.snap, (x.node.log, (x.node.role, (x.node.commit, (x.node.wait, (x.node.votes.a0, (x.node.votes.a1, (x.node.votes.a2, (x.node.next.a0, (x.node.next.a1, (x.node.next.a2, (x.node.match_.a0, (x.node.match_.a1, (x.node.match_.a2, ((), ())))))))))))))))))))), ((), (x.out, ()))))) (fun _ => rfl)
def un_heard (p : Msg × Worker) : Option (Worker) := heard p.1 p.2
noncomputable def sf_heard : SFn TL := SFn.one ch_heard.dec un_heard .normal co_heard.enc
noncomputable def cs_heard : List (Nat × DFn TL) := [(12, df_last_)]
noncomputable def ss_heard : List (Nat × SFn TL) := [(48, sf_reach), (32, sf_owe)]
noncomputable def env_heard : Env := envOf tab sl sh [(29, fd29)] [(48, .sum), (12, .pure), (32, .sum)]
theorem env_heard_ok : EnvOK Try.prog (mkD cs_heard ss_heard) env_heard := envOK_of base (all_cons (st29.okl rfl (all_nil)) (all_nil)) (all_cons (okS rfl ok_reach) (all_cons (okD rfl ok_last_) (all_cons (okS rfl ok_owe) (all_nil))))
theorem run_heard (x : Msg × Worker) : Out.run (mkO cs_heard ss_heard) (evSum env_heard 12 20 29 (ch_heard.enc x)) (back1 co_heard) = un_heard x := by kernel_rfl
theorem ok_heard : SOK Try.prog 29 sf_heard := sum_one env_heard_ok (loops := 12) (n := 20) st29.enters ch_heard co_heard un_heard run_heard
/-- replica.worker).snap -/
def snap (m1 : Msg) (w1 : Worker) : Option (Worker) :=
  cond ((decide (m1.term_ < w1.node.term_)))
    (ob (added m1.from_ false 0 w1) fun y0 =>
    some y0)
    (cond ((decide (m1.index > w1.node.commit)))
      (ob (last_ (Node.mk w1.node.id_ w1.node.term_ w1.node.vote w1.node.base w1.node.baseTerm w1.node.snap w1.node.log 0 w1.node.commit 0 w1.node.votes w1.node.next w1.node.match_)) fun r1 =>
      cond ((decide (m1.index ≤ r1.1)))
        (cond ((decide (m1.index > w1.node.base)))
          (cond ((cond (decide ((w64 ((w64 (m1.index - w1.node.base)) - 1)) ≥ 0)) (decide ((w64 ((w64 (m1.index - w1.node.base)) - 1)) < (w1.node.log.length : Int))) false))
            (cond (decide (0 ≤ (w64 ((w64 (m1.index - w1.node.base)) - 1))))
              (cond (decide ((w64 ((w64 (m1.index - w1.node.base)) - 1)) < (w1.node.log.length : Int)))
                (ob (w1.node.log[((w64 ((w64 (m1.index - w1.node.base)) - 1))).toNat]?) fun e2 =>
                cond ((e2.term_ == m1.logTerm))
                  (cond (decide (0 ≤ (w64 (m1.index - w1.node.base))))
                    (cond (decide ((w64 (m1.index - w1.node.base)) ≤ (w1.node.log.length : Int)))
                      (cond (decide ((w1.node.log.length : Int) ≤ (w1.node.log.length : Int)))
                        (ob (own ((w1.node.log.take (((w1.node.log.length : Int)).toNat)).drop (((w64 (m1.index - w1.node.base))).toNat))) fun r3 =>
                        ob (added m1.from_ true (max2 m1.index w1.node.commit) (Worker.mk (Node.mk w1.node.id_ w1.node.term_ w1.node.vote m1.index m1.logTerm m1.snap r3 0 m1.index 0 w1.node.votes w1.node.next w1.node.match_) w1.out)) fun y9 =>
                        some y9)
                        (none))
                      (none))
                    (none))
                  (ob (own []) fun r4 =>
                  ob (added m1.from_ true (max2 m1.index w1.node.commit) (Worker.mk (Node.mk w1.node.id_ w1.node.term_ w1.node.vote m1.index m1.logTerm m1.snap r4 0 m1.index 0 w1.node.votes w1.node.next w1.node.match_) w1.out)) fun y10 =>
                  some y10))
                (none))
              (none))
            (cond ((w1.node.baseTerm == m1.logTerm))
              (cond (decide (0 ≤ (w64 (m1.index - w1.node.base))))
                (cond (decide ((w64 (m1.index - w1.node.base)) ≤ (w1.node.log.length : Int)))
                  (cond (decide ((w1.node.log.length : Int) ≤ (w1.node.log.length : Int)))
                    (ob (own ((w1.node.log.take (((w1.node.log.length : Int)).toNat)).drop (((w64 (m1.index - w1.node.base))).toNat))) fun r5 =>
                    ob (added m1.from_ true (max2 m1.index w1.node.commit) (Worker.mk (Node.mk w1.node.id_ w1.node.term_ w1.node.vote m1.index m1.logTerm m1.snap r5 0 m1.index 0 w1.node.votes w1.node.next w1.node.match_) w1.out)) fun y11 =>
                    some y11)
                    (none))
                  (none))
                (none))
              (ob (own []) fun r6 =>
              ob (added m1.from_ true (max2 m1.index w1.node.commit) (Worker.mk (Node.mk w1.node.id_ w1.node.term_ w1.node.vote m1.index m1.logTerm m1.snap r6 0 m1.index 0 w1.node.votes w1.node.next w1.node.match_) w1.out)) fun y12 =>
              some y12)))
          (ob (own []) fun r7 =>
          ob (added m1.from_ true (max2 m1.index w1.node.commit) (Worker.mk (Node.mk w1.node.id_ w1.node.term_ w1.node.vote m1.index m1.logTerm m1.snap r7 0 m1.index 0 w1.node.votes w1.node.next w1.node.match_) w1.out)) fun y13 =>
          some y13))
        (ob (own []) fun r8 =>
        ob (added m1.from_ true (max2 m1.index w1.node.commit) (Worker.mk (Node.mk w1.node.id_ w1.node.term_ w1.node.vote m1.index m1.logTerm m1.snap r8 0 m1.index 0 w1.node.votes w1.node.next w1.node.match_) w1.out)) fun y14 =>
        some y14))
      (ob (added m1.from_ true (max2 m1.index w1.node.commit) (Worker.mk (Node.mk w1.node.id_ w1.node.term_ w1.node.vote w1.node.base w1.node.baseTerm w1.node.snap w1.node.log 0 w1.node.commit 0 w1.node.votes w1.node.next w1.node.match_) w1.out)) fun y15 =>
      some y15))
def ch_snap : Cod (Cst TL) (Msg × Worker) := Cod.iso (Cod.cst 3 (Cod.cons (Cod.xs (Cod.sc (Cod.ptr 0 0))) (Cod.cons (Cod.xs (Cod.sa (Cod.cons (Cod.im (Cod.int .i64)) (Cod.cons (Cod.im (Cod.int .i64)) (Cod.cons (Cod.im (Cod.int .i64)) (Cod.cons (Cod.im (Cod.int .i64)) (Cod.cons (Cod.im (Cod.int .i64)) (Cod.cons (Cod.im (Cod.int .i64)) (Cod.cons (Cod.im (Cod.int .i64)) (Cod.cons (Cod.im Cod.bool) (Cod.cons (Cod.im (Cod.fz j_lEntry)) (Cod.cons (Cod.im Cod.str) (Cod.nil))))))))))))) (Cod.nil))) (Cod.cons (Cod.var 0 68 (Cod.cons (Cod.im (Cod.int .i64)) (Cod.cons (Cod.im (Cod.int .i64)) (Cod.cons (Cod.im (Cod.int .i64)) (Cod.cons (Cod.im (Cod.int .i64)) (Cod.cons (Cod.im (Cod.int .i64)) (Cod.cons (Cod.im Cod.str) (Cod.cons (Cod.ar 1) (Cod.cons (Cod.im (Cod.int .i64)) (Cod.cons (Cod.im (Cod.int .i64)) (Cod.cons (Cod.im (Cod.int .i64)) (Cod.cons (Cod.im Cod.bool) (Cod.cons (Cod.im Cod.bool) (Cod.cons (Cod.im Cod.bool) (Cod.cons (Cod.im (Cod.int .i64)) (Cod.cons (Cod.im (Cod.int .i64)) (Cod.cons (Cod.im (Cod.int .i64)) (Cod.cons (Cod.im (Cod.int .i64)) (Cod.cons (Cod.im (Cod.int .i64)) (Cod.cons (Cod.im (Cod.int .i64)) (Cod.cons (Cod.ar 2) (Cod.nil)))))))))))))))))))))) (Cod.cons (Cod.arr 1 32 j_lEntry) (Cod.cons (Cod.arr 2 39 j_lMsg) (Cod.nil))))) (fun p => ((Msg.mk p.1.2.1.1 p.1.2.1.2.1 p.1.2.1.2.2.1 p.1.2.1.2.2.2.1 p.1.2.1.2.2.2.2.1 p.1.2.1.2.2.2.2.2.1 p.1.2.1.2.2.2.2.2.2.1 p.1.2.1.2.2.2.2.2.2.2.1 p.1.2.1.2.2.2.2.2.2.2.2.1 p.1.2.1.2.2.2.2.2.2.2.2.2.1), (Worker.mk (Node.mk p.2.1.1 p.2.1.2.1 p.2.1.2.2.1 p.2.1.2.2.2.1 p.2.1.2.2.2.2.1 p.2.1.2.2.2.2.2.1 p.2.2.1 p.2.1.2.2.2.2.2.2.2.1 p.2.1.2.2.2.2.2.2.2.2.1 p.2.1.2.2.2.2.2.2.2.2.2.1 (A3Bool.mk p.2.1.2.2.2.2.2.2.2.2.2.2.1 p.2.1.2.2.2.2.2.2.2.2.2.2.2.1 p.2.1.2.2.2.2.2.2.2.2.2.2.2.2.1) (A3Int.mk p.2.1.2.2.2.2.2.2.2.2.2.2.2.2.2.1 p.2.1.2.2.2.2.2.2.2.2.2.2.2.2.2.2.1 p.2.1.2.2.2.2.2.2.2.2.2.2.2.2.2.2.2.1) (A3Int.mk p.2.1.2.2.2.2.2.2.2.2.2.2.2.2.2.2.2.2.1 p.2.1.2.2.2.2.2.2.2.2.2.2.2.2.2.2.2.2.2.1 p.2.1.2.2.2.2.2.2.2.2.2.2.2.2.2.2.2.2.2.2.1)) p.2.2.2.1))) (fun (x : Msg × Worker) => (((), ((x.1.kind, (x.1.from_, (x.1.to_, (x.1.term_, (x.1.index, (x.1.logTerm, (x.1.commit, (x.1.yes, (x.1.entries, (x.1.snap, ())))))))))), ())), ((x.2.node.id_, (x.2.node.term_, (x.2.node.vote, (x.2.node.base, (x.2.node.baseTerm, (x.2.node.snap, ((), (x.2.node.role, (x.2.node.commit, (x.2.node.wait, (x.2.node.votes.a0, (x.2.node.votes.a1, (x.2.node.votes.a2, (x.2.node.next.a0, (x.2.node.next.a1, (x.2.node.next.a2, (x.2.node.match_.a0, (x.2.node.match_.a1, (x.2.node.match_.a2, ((), ())))))))))))))))))))), (x.2.node.log, (x.2.out, ()))))) (fun _ => rfl)
def co_snap : Cod (Cst TL) (Worker) := Cod.iso (Cod.cst 7 (Cod.cons (Cod.xt (Cod.nil)) (Cod.nil)) (Cod.cons (Cod.var 0 68 (Cod.cons (Cod.im (Cod.int .i64)) (Cod.cons (Cod.im (Cod.int .i64)) (Cod.cons (Cod.im (Cod.int .i64)) (Cod.cons (Cod.im (Cod.int .i64)) (Cod.cons (Cod.im (Cod.int .i64)) (Cod.cons (Cod.im Cod.str) (Cod.cons (Cod.im (Cod.fz j_lEntry)) (Cod.cons (Cod.im (Cod.int .i64)) (Cod.cons (Cod.im (Cod.int .i64)) (Cod.cons (Cod.im (Cod.int .i64)) (Cod.cons (Cod.im Cod.bool) (Cod.cons (Cod.im Cod.bool) (Cod.cons (Cod.im Cod.bool) (Cod.cons (Cod.im (Cod.int .i64)) (Cod.cons (Cod.im (Cod.int .i64)) (Cod.cons (Cod.im (Cod.int .i64)) (Cod.cons (Cod.im (Cod.int .i64)) (Cod.cons (Cod.im (Cod.int .i64)) (Cod.cons (Cod.im (Cod.int .i64)) (Cod.cons (Cod.ar 6) (Cod.nil)))))))))))))))))))))) (Cod.cons (Cod.dead 1) (Cod.cons (Cod.dead 2) (Cod.cons (Cod.arr 6 39 j_lMsg) (Cod.nil)))))) (fun p => (Worker.mk (Node.mk p.2.1.1 p.2.1.2.1 p.2.1.2.2.1 p.2.1.2.2.2.1 p.2.1.2.2.2.2.1 p.2.1.2.2.2.2.2.1 p.2.1.2.2.2.2.2.2.1 p.2.1.2.2.2.2.2.2.2.1 p.2.1.2.2.2.2.2.2.2.2.1 p.2.1.2.2.2.2.2.2.2.2.2.1 (A3Bool.mk p.2.1.2.2.2.2.2.2.2.2.2.2.1 p.2.1.2.2.2.2.2.2.2.2.2.2.2.1 p.2.1.2.2.2.2.2.2.2.2.2.2.2.2.1) (A3Int.mk p.2.1.2.2.2.2.2.2.2.2.2.2.2.2.2.1 p.2.1.2.2.2.2.2.2.2.2.2.2.2.2.2.2.1 p.2.1.2.2.2.2.2.2.2.2.2.2.2.2.2.2.2.1) (A3Int.mk p.2.1.2.2.2.2.2.2.2.2.2.2.2.2.2.2.2.2.1 p.2.1.2.2.2.2.2.2.2.2.2.2.2.2.2.2.2.2.2.1 p.2.1.2.2.2.2.2.2.2.2.2.2.2.2.2.2.2.2.2.2.1)) p.2.2.2.2.1)) (fun (x : Worker) => (((), ()), ((x.node.id_, (x.node.term_, (x.node.vote, (x.node.base, (x.node.baseTerm, (x.node.snap, (x.node.log, (x.node.role, (x.node.commit, (x.node.wait, (x.node.votes.a0, (x.node.votes.a1, (x.node.votes.a2, (x.node.next.a0, (x.node.next.a1, (x.node.next.a2, (x.node.match_.a0, (x.node.match_.a1, (x.node.match_.a2, ((), ())))))))))))))))))))), ((), ((), (x.out, ())))))) (fun _ => rfl)
def un_snap (p : Msg × Worker) : Option (Worker) := snap p.1 p.2
noncomputable def sf_snap : SFn TL := SFn.one ch_snap.dec un_snap .normal co_snap.enc
noncomputable def cs_snap : List (Nat × DFn TL) := [(12, df_last_), (35, df_own)]
noncomputable def ss_snap : List (Nat × SFn TL) := [(47, sf_added)]
noncomputable def env_snap : Env := envOf tab sl sh [(30, fd30), (23, fd23)] [(47, .sum), (12, .pure), (35, (.fresh 32))]
theorem env_snap_ok : EnvOK Try.prog (mkD cs_snap ss_snap) env_snap := envOK_of base (all_cons (st30.okl rfl (all_nil)) (all_cons (st23.okl rfl (all_nil)) (all_nil))) (all_cons (okS rfl ok_added) (all_cons (okD rfl ok_last_) (all_cons (okD rfl ok_own) (all_nil))))
theorem run_snap (x : Msg × Worker) : Out.run (mkO cs_snap ss_snap) (evSum env_snap 12 20 30 (ch_snap.enc x)) (back1 co_snap) = un_snap x := by kernel_rfl
theorem ok_snap : SOK Try.prog 30 sf_snap := sum_one env_snap_ok (loops := 12) (n := 20) st30.enters ch_snap co_snap un_snap run_snap
/-- replica.Take -/
def take (n1 : Node) (m1 : Msg) : Option (Node × (List Msg)) :=
  ob (own n1.log) fun r0 =>
  cond ((cond (decide (m1.from_ < 0)) true (cond (decide (m1.from_ ≥ 3)) true (cond (m1.from_ == n1.id_) true (m1.to_ != n1.id_)))))
    (ob (own r0) fun r1 =>
    some ((Node.mk n1.id_ n1.term_ n1.vote n1.base n1.baseTerm n1.snap r1 n1.role n1.commit n1.wait n1.votes n1.next n1.match_), []))
    (cond ((cond (decide (m1.kind < 1)) true (cond (decide (m1.kind > 5)) true (cond (decide (m1.term_ < 0)) true (decide (m1.term_ > 1073741824))))))
      (ob (own r0) fun r2 =>
      some ((Node.mk n1.id_ n1.term_ n1.vote n1.base n1.baseTerm n1.snap r2 n1.role n1.commit n1.wait n1.votes n1.next n1.match_), []))
      (cond ((decide (m1.term_ > n1.term_)))
        (cond ((m1.kind == 1))
          (ob (vote m1 (Worker.mk (Node.mk n1.id_ m1.term_ (-1) n1.base n1.baseTerm n1.snap r0 0 n1.commit n1.wait (A3Bool.mk false false false) n1.next n1.match_) [])) fun y3 =>
          ob (own y3.node.log) fun r8 =>
          some ((Node.mk y3.node.id_ y3.node.term_ y3.node.vote y3.node.base y3.node.baseTerm y3.node.snap r8 y3.node.role y3.node.commit y3.node.wait y3.node.votes y3.node.next y3.node.match_), y3.out))
          (cond ((m1.kind == 2))
            (ob (voted m1 (Worker.mk (Node.mk n1.id_ m1.term_ (-1) n1.base n1.baseTerm n1.snap r0 0 n1.commit n1.wait (A3Bool.mk false false false) n1.next n1.match_) [])) fun y4 =>
            ob (own y4.node.log) fun r9 =>
            some ((Node.mk y4.node.id_ y4.node.term_ y4.node.vote y4.node.base y4.node.baseTerm y4.node.snap r9 y4.node.role y4.node.commit y4.node.wait y4.node.votes y4.node.next y4.node.match_), y4.out))
            (cond ((m1.kind == 3))
              (ob (add m1 (Worker.mk (Node.mk n1.id_ m1.term_ (-1) n1.base n1.baseTerm n1.snap r0 0 n1.commit n1.wait (A3Bool.mk false false false) n1.next n1.match_) [])) fun y5 =>
              ob (own y5.node.log) fun r10 =>
              some ((Node.mk y5.node.id_ y5.node.term_ y5.node.vote y5.node.base y5.node.baseTerm y5.node.snap r10 y5.node.role y5.node.commit y5.node.wait y5.node.votes y5.node.next y5.node.match_), y5.out))
              (cond ((m1.kind == 4))
                (ob (heard m1 (Worker.mk (Node.mk n1.id_ m1.term_ (-1) n1.base n1.baseTerm n1.snap r0 0 n1.commit n1.wait (A3Bool.mk false false false) n1.next n1.match_) [])) fun y6 =>
                ob (own y6.node.log) fun r11 =>
                some ((Node.mk y6.node.id_ y6.node.term_ y6.node.vote y6.node.base y6.node.baseTerm y6.node.snap r11 y6.node.role y6.node.commit y6.node.wait y6.node.votes y6.node.next y6.node.match_), y6.out))
                (cond ((m1.kind == 5))
                  (ob (snap m1 (Worker.mk (Node.mk n1.id_ m1.term_ (-1) n1.base n1.baseTerm n1.snap r0 0 n1.commit n1.wait (A3Bool.mk false false false) n1.next n1.match_) [])) fun y7 =>
                  ob (own y7.node.log) fun r12 =>
                  some ((Node.mk y7.node.id_ y7.node.term_ y7.node.vote y7.node.base y7.node.baseTerm y7.node.snap r12 y7.node.role y7.node.commit y7.node.wait y7.node.votes y7.node.next y7.node.match_), y7.out))
                  (ob (own r0) fun r13 =>
                  some ((Node.mk n1.id_ m1.term_ (-1) n1.base n1.baseTerm n1.snap r13 0 n1.commit n1.wait (A3Bool.mk false false false) n1.next n1.match_), [])))))))
        (cond ((m1.kind == 1))
          (ob (vote m1 (Worker.mk (Node.mk n1.id_ n1.term_ n1.vote n1.base n1.baseTerm n1.snap r0 n1.role n1.commit n1.wait n1.votes n1.next n1.match_) [])) fun y14 =>
          ob (own y14.node.log) fun r19 =>
          some ((Node.mk y14.node.id_ y14.node.term_ y14.node.vote y14.node.base y14.node.baseTerm y14.node.snap r19 y14.node.role y14.node.commit y14.node.wait y14.node.votes y14.node.next y14.node.match_), y14.out))
          (cond ((m1.kind == 2))
            (ob (voted m1 (Worker.mk (Node.mk n1.id_ n1.term_ n1.vote n1.base n1.baseTerm n1.snap r0 n1.role n1.commit n1.wait n1.votes n1.next n1.match_) [])) fun y15 =>
            ob (own y15.node.log) fun r20 =>
            some ((Node.mk y15.node.id_ y15.node.term_ y15.node.vote y15.node.base y15.node.baseTerm y15.node.snap r20 y15.node.role y15.node.commit y15.node.wait y15.node.votes y15.node.next y15.node.match_), y15.out))
            (cond ((m1.kind == 3))
              (ob (add m1 (Worker.mk (Node.mk n1.id_ n1.term_ n1.vote n1.base n1.baseTerm n1.snap r0 n1.role n1.commit n1.wait n1.votes n1.next n1.match_) [])) fun y16 =>
              ob (own y16.node.log) fun r21 =>
              some ((Node.mk y16.node.id_ y16.node.term_ y16.node.vote y16.node.base y16.node.baseTerm y16.node.snap r21 y16.node.role y16.node.commit y16.node.wait y16.node.votes y16.node.next y16.node.match_), y16.out))
              (cond ((m1.kind == 4))
                (ob (heard m1 (Worker.mk (Node.mk n1.id_ n1.term_ n1.vote n1.base n1.baseTerm n1.snap r0 n1.role n1.commit n1.wait n1.votes n1.next n1.match_) [])) fun y17 =>
                ob (own y17.node.log) fun r22 =>
                some ((Node.mk y17.node.id_ y17.node.term_ y17.node.vote y17.node.base y17.node.baseTerm y17.node.snap r22 y17.node.role y17.node.commit y17.node.wait y17.node.votes y17.node.next y17.node.match_), y17.out))
                (cond ((m1.kind == 5))
                  (ob (snap m1 (Worker.mk (Node.mk n1.id_ n1.term_ n1.vote n1.base n1.baseTerm n1.snap r0 n1.role n1.commit n1.wait n1.votes n1.next n1.match_) [])) fun y18 =>
                  ob (own y18.node.log) fun r23 =>
                  some ((Node.mk y18.node.id_ y18.node.term_ y18.node.vote y18.node.base y18.node.baseTerm y18.node.snap r23 y18.node.role y18.node.commit y18.node.wait y18.node.votes y18.node.next y18.node.match_), y18.out))
                  (ob (own r0) fun r24 =>
                  some ((Node.mk n1.id_ n1.term_ n1.vote n1.base n1.baseTerm n1.snap r24 n1.role n1.commit n1.wait n1.votes n1.next n1.match_), [])))))))))
def un_take (p : Node × Msg) : Option (Node × (List Msg)) := take p.1 p.2
noncomputable def df_take : DFn TL := DFn.of (DA.cons (DT.agg dc_Node) (DA.one (DT.agg dc_Msg))) un_take (DA.cons (DT.agg dc_Node) (DA.one (DT.one di_lMsg)))
noncomputable def cs_take : List (Nat × DFn TL) := [(35, df_own)]
noncomputable def ss_take : List (Nat × SFn TL) := [(26, sf_vote), (27, sf_voted), (28, sf_add), (29, sf_heard), (30, sf_snap)]
noncomputable def env_take : Env := envOf tab sl sh [(13, fd13), (24, fd24), (25, fd25)] [(35, (.fresh 32)), (26, .sum), (27, .sum), (28, .sum), (29, .sum), (30, .sum)]
theorem env_take_ok : EnvOK Try.prog (mkD cs_take ss_take) env_take := envOK_of base (all_cons (st13.okl rfl (all_nil)) (all_cons (st24.okl rfl (all_nil)) (all_cons (st25.okl rfl (all_nil)) (all_nil)))) (all_cons (okD rfl ok_own) (all_cons (okS rfl ok_vote) (all_cons (okS rfl ok_voted) (all_cons (okS rfl ok_add) (all_cons (okS rfl ok_heard) (all_cons (okS rfl ok_snap) (all_nil)))))))
theorem run_take (x : Node × Msg) : Out.run (mkO cs_take ss_take) (evOrc env_take 12 20 13 ((DA.cons (DT.agg dc_Node) (DA.one (DT.agg dc_Msg)) : DA TL (Node × Msg)).enc x)) (DA.cons (DT.agg dc_Node) (DA.one (DT.one di_lMsg)) : DA TL (Node × (List Msg))).dec = un_take x := by kernel_rfl
theorem ok_take : DOK Try.prog 13 .keep df_take := data_of env_take_ok (loops := 12) (n := 20) (.inl rfl) st13.enters (DA.cons (DT.agg dc_Node) (DA.one (DT.agg dc_Msg))) un_take (DA.cons (DT.agg dc_Node) (DA.one (DT.one di_lMsg))) run_take
/-- replica.Propose (fails: [7, 27]) -/
def propose (n1 : Node) (s1 : ByteArray) : Option (Node × Int × Int) :=
  ob (own n1.log) fun r0 =>
  cond ((n1.role != 2))
    (some ((Node.mk n1.id_ n1.term_ n1.vote n1.base n1.baseTerm n1.snap r0 n1.role n1.commit n1.wait n1.votes n1.next n1.match_), 0, 21))
    (cond ((sEq s1 s_empty))
      (some ((Node.mk n1.id_ n1.term_ n1.vote n1.base n1.baseTerm n1.snap r0 n1.role n1.commit n1.wait n1.votes n1.next n1.match_), 0, 1))
      (cond (fits ((r0 ++ [(Entry.mk n1.term_ s1)]).length))
        (ob (last_ (Node.mk n1.id_ n1.term_ n1.vote n1.base n1.baseTerm n1.snap (r0 ++ [(Entry.mk n1.term_ s1)]) n1.role n1.commit n1.wait n1.votes n1.next n1.match_)) fun r1 =>
        cond (decide (n1.id_ = 0))
          (ob (own (r0 ++ [(Entry.mk n1.term_ s1)])) fun r2 =>
          some ((Node.mk n1.id_ n1.term_ n1.vote n1.base n1.baseTerm n1.snap r2 n1.role n1.commit n1.wait n1.votes n1.next (A3Int.mk r1.1 n1.match_.a1 n1.match_.a2)), r1.1, 0))
          (cond (decide (n1.id_ = 1))
            (ob (own (r0 ++ [(Entry.mk n1.term_ s1)])) fun r3 =>
            some ((Node.mk n1.id_ n1.term_ n1.vote n1.base n1.baseTerm n1.snap r3 n1.role n1.commit n1.wait n1.votes n1.next (A3Int.mk n1.match_.a0 r1.1 n1.match_.a2)), r1.1, 0))
            (cond (decide (n1.id_ = 2))
              (ob (own (r0 ++ [(Entry.mk n1.term_ s1)])) fun r4 =>
              some ((Node.mk n1.id_ n1.term_ n1.vote n1.base n1.baseTerm n1.snap r4 n1.role n1.commit n1.wait n1.votes n1.next (A3Int.mk n1.match_.a0 n1.match_.a1 r1.1)), r1.1, 0))
              (none))))
        (none)))
def un_propose (p : Node × ByteArray) : Option (Node × Int × Int) := propose p.1 p.2
noncomputable def df_propose : DFn TL := DFn.of (DA.cons (DT.agg dc_Node) (DA.one (DT.one DI.str))) un_propose (DA.cons (DT.agg dc_Node) (DA.cons (DT.one (DI.int .i64)) (DA.one (DT.one (DI.int .i64)))))
noncomputable def cs_propose : List (Nat × DFn TL) := [(35, df_own), (12, df_last_)]
noncomputable def ss_propose : List (Nat × SFn TL) := []
noncomputable def env_propose : Env := envOf tab sl sh [(14, fd14), (24, fd24), (25, fd25)] [(35, (.fresh 32)), (12, .pure)]
theorem env_propose_ok : EnvOK Try.prog (mkD cs_propose ss_propose) env_propose := envOK_of base (all_cons (st14.okl rfl (all_nil)) (all_cons (st24.okl rfl (all_nil)) (all_cons (st25.okl rfl (all_nil)) (all_nil)))) (all_cons (okD rfl ok_own) (all_cons (okD rfl ok_last_) (all_nil)))
theorem run_propose (x : Node × ByteArray) : Out.run (mkO cs_propose ss_propose) (evOrc env_propose 12 20 14 ((DA.cons (DT.agg dc_Node) (DA.one (DT.one DI.str)) : DA TL (Node × ByteArray)).enc x)) (DA.cons (DT.agg dc_Node) (DA.cons (DT.one (DI.int .i64)) (DA.one (DT.one (DI.int .i64)))) : DA TL (Node × Int × Int)).dec = un_propose x := by kernel_rfl
theorem ok_propose : DOK Try.prog 14 .keep df_propose := data_of env_propose_ok (loops := 12) (n := 20) (.inl rfl) st14.enters (DA.cons (DT.agg dc_Node) (DA.one (DT.one DI.str))) un_propose (DA.cons (DT.agg dc_Node) (DA.cons (DT.one (DI.int .i64)) (DA.one (DT.one (DI.int .i64))))) run_propose
/-- replica.Compact (fails: [201]) -/
def compact (n1 : Node) (i1 : Int) (s1 : ByteArray) : Option (Node × Int) :=
  ob (own n1.log) fun r0 =>
  ob (last_ (Node.mk n1.id_ n1.term_ n1.vote n1.base n1.baseTerm n1.snap r0 n1.role n1.commit n1.wait n1.votes n1.next n1.match_)) fun r1 =>
  cond ((cond (decide (i1 ≤ n1.base)) true (cond (decide (i1 > n1.commit)) true (decide (i1 > r1.1)))))
    (some ((Node.mk n1.id_ n1.term_ n1.vote n1.base n1.baseTerm n1.snap r0 n1.role n1.commit n1.wait n1.votes n1.next n1.match_), 1))
    (cond ((cond (decide ((w64 ((w64 (i1 - n1.base)) - 1)) ≥ 0)) (decide ((w64 ((w64 (i1 - n1.base)) - 1)) < (r0.length : Int))) false))
      (cond (decide (0 ≤ (w64 ((w64 (i1 - n1.base)) - 1))))
        (cond (decide ((w64 ((w64 (i1 - n1.base)) - 1)) < (r0.length : Int)))
          (ob (r0[((w64 ((w64 (i1 - n1.base)) - 1))).toNat]?) fun e2 =>
          cond (decide (0 ≤ (w64 (i1 - n1.base))))
            (cond (decide ((w64 (i1 - n1.base)) ≤ (r0.length : Int)))
              (cond (decide ((r0.length : Int) ≤ (r0.length : Int)))
                (ob (own ((r0.take (((r0.length : Int)).toNat)).drop (((w64 (i1 - n1.base))).toNat))) fun r3 =>
                some ((Node.mk n1.id_ n1.term_ n1.vote i1 e2.term_ s1 r3 n1.role n1.commit n1.wait n1.votes n1.next n1.match_), 0))
                (none))
              (none))
            (none))
          (none))
        (none))
      (cond (decide (0 ≤ (w64 (i1 - n1.base))))
        (cond (decide ((w64 (i1 - n1.base)) ≤ (r0.length : Int)))
          (cond (decide ((r0.length : Int) ≤ (r0.length : Int)))
            (ob (own ((r0.take (((r0.length : Int)).toNat)).drop (((w64 (i1 - n1.base))).toNat))) fun r4 =>
            some ((Node.mk n1.id_ n1.term_ n1.vote i1 n1.baseTerm s1 r4 n1.role n1.commit n1.wait n1.votes n1.next n1.match_), 0))
            (none))
          (none))
        (none)))
def un_compact (p : Node × Int × ByteArray) : Option (Node × Int) := compact p.1 p.2.1 p.2.2
noncomputable def df_compact : DFn TL := DFn.of (DA.cons (DT.agg dc_Node) (DA.cons (DT.one (DI.int .i64)) (DA.one (DT.one DI.str)))) un_compact (DA.cons (DT.agg dc_Node) (DA.one (DT.one (DI.int .i64))))
noncomputable def cs_compact : List (Nat × DFn TL) := [(35, df_own), (12, df_last_)]
noncomputable def ss_compact : List (Nat × SFn TL) := []
noncomputable def env_compact : Env := envOf tab sl sh [(18, fd18), (24, fd24), (23, fd23)] [(35, (.fresh 32)), (12, .pure)]
theorem env_compact_ok : EnvOK Try.prog (mkD cs_compact ss_compact) env_compact := envOK_of base (all_cons (st18.okl rfl (all_nil)) (all_cons (st24.okl rfl (all_nil)) (all_cons (st23.okl rfl (all_nil)) (all_nil)))) (all_cons (okD rfl ok_own) (all_cons (okD rfl ok_last_) (all_nil)))
theorem run_compact (x : Node × Int × ByteArray) : Out.run (mkO cs_compact ss_compact) (evOrc env_compact 12 20 18 ((DA.cons (DT.agg dc_Node) (DA.cons (DT.one (DI.int .i64)) (DA.one (DT.one DI.str))) : DA TL (Node × Int × ByteArray)).enc x)) (DA.cons (DT.agg dc_Node) (DA.one (DT.one (DI.int .i64))) : DA TL (Node × Int)).dec = un_compact x := by kernel_rfl
theorem ok_compact : DOK Try.prog 18 .keep df_compact := data_of env_compact_ok (loops := 12) (n := 20) (.inl rfl) st18.enters (DA.cons (DT.agg dc_Node) (DA.cons (DT.one (DI.int .i64)) (DA.one (DT.one DI.str)))) un_compact (DA.cons (DT.agg dc_Node) (DA.one (DT.one (DI.int .i64)))) run_compact
/-- replica.Wake -/
def wake (n1 : Node) : Option (Node) :=
  ob (own n1.log) fun r0 =>
  some (Node.mk n1.id_ n1.term_ n1.vote n1.base n1.baseTerm n1.snap r0 0 n1.commit 0 (A3Bool.mk false false false) (A3Int.mk 0 0 0) (A3Int.mk 0 0 0))
def un_wake (p : Node) : Option (Node) := wake p
noncomputable def df_wake : DFn TL := DFn.of (DA.one (DT.agg dc_Node)) un_wake (DA.one (DT.agg dc_Node))
noncomputable def cs_wake : List (Nat × DFn TL) := [(35, df_own)]
noncomputable def ss_wake : List (Nat × SFn TL) := []
noncomputable def env_wake : Env := envOf tab sl sh [(22, fd22)] [(35, (.fresh 32))]
theorem env_wake_ok : EnvOK Try.prog (mkD cs_wake ss_wake) env_wake := envOK_of base (all_cons (st22.okl rfl (all_nil)) (all_nil)) (all_cons (okD rfl ok_own) (all_nil))
theorem run_wake (x : Node) : Out.run (mkO cs_wake ss_wake) (evOrc env_wake 12 20 22 ((DA.one (DT.agg dc_Node) : DA TL (Node)).enc x)) (DA.one (DT.agg dc_Node) : DA TL (Node)).dec = un_wake x := by kernel_rfl
theorem ok_wake : DOK Try.prog 22 .keep df_wake := data_of env_wake_ok (loops := 12) (n := 20) (.inl rfl) st22.enters (DA.one (DT.agg dc_Node)) un_wake (DA.one (DT.agg dc_Node)) run_wake
/-- a loop of escrowlaw15.known -/
def step_L9_3 (b1 : Bool) (i1 : Int) (n1 : Node) : Option ((Bool × Int × Node) ⊕ (((Bool × Node) ⊕ (Bool × Node)))) :=
  cond ((decide (i1 < 4)))
    (ob (tick n1) fun r0 =>
    cond (((r0.2.length : Int) != 0))
      (some (.inr (.inr (false, n1))))
      (some (.inl (b1, (w64 (i1 + 1)), r0.1))))
    (some (.inr (.inl (b1, n1))))
def stp_L9_3 (p : Bool × Int × Node) : Option ((Bool × Int × Node) ⊕ (((Bool × Node) ⊕ (Bool × Node)))) := step_L9_3 p.1 p.2.1 p.2.2
def L9_3 (b1 : Bool) (i1 : Int) (n1 : Node) : Option (((Bool × Node) ⊕ (Bool × Node))) := iterO stp_L9_3 ((4 - i1).toNat + 2) (b1, i1, n1)
def ch_L9_3 : Cod (Cst TL) (Bool × Int × Node) := Cod.iso (Cod.cst 1 (Cod.cons (Cod.xs (Cod.sc (Cod.im Cod.bool))) (Cod.cons (Cod.xs (Cod.sc (Cod.ptr 0 0))) (Cod.cons (Cod.xs (Cod.sc (Cod.im (Cod.int .i64)))) (Cod.nil)))) (Cod.cons (Cod.var 0 28 (Cod.cons (Cod.im (Cod.int .i64)) (Cod.cons (Cod.im (Cod.int .i64)) (Cod.cons (Cod.im (Cod.int .i64)) (Cod.cons (Cod.im (Cod.int .i64)) (Cod.cons (Cod.im (Cod.int .i64)) (Cod.cons (Cod.im Cod.str) (Cod.cons (Cod.im (Cod.fz j_lEntry)) (Cod.cons (Cod.im (Cod.int .i64)) (Cod.cons (Cod.im (Cod.int .i64)) (Cod.cons (Cod.im (Cod.int .i64)) (Cod.cons (Cod.im Cod.bool) (Cod.cons (Cod.im Cod.bool) (Cod.cons (Cod.im Cod.bool) (Cod.cons (Cod.im (Cod.int .i64)) (Cod.cons (Cod.im (Cod.int .i64)) (Cod.cons (Cod.im (Cod.int .i64)) (Cod.cons (Cod.im (Cod.int .i64)) (Cod.cons (Cod.im (Cod.int .i64)) (Cod.cons (Cod.im (Cod.int .i64)) (Cod.nil))))))))))))))))))))) (Cod.nil))) (fun p => (p.1.1, p.1.2.2.1, (Node.mk p.2.1.1 p.2.1.2.1 p.2.1.2.2.1 p.2.1.2.2.2.1 p.2.1.2.2.2.2.1 p.2.1.2.2.2.2.2.1 p.2.1.2.2.2.2.2.2.1 p.2.1.2.2.2.2.2.2.2.1 p.2.1.2.2.2.2.2.2.2.2.1 p.2.1.2.2.2.2.2.2.2.2.2.1 (A3Bool.mk p.2.1.2.2.2.2.2.2.2.2.2.2.1 p.2.1.2.2.2.2.2.2.2.2.2.2.2.1 p.2.1.2.2.2.2.2.2.2.2.2.2.2.2.1) (A3Int.mk p.2.1.2.2.2.2.2.2.2.2.2.2.2.2.2.1 p.2.1.2.2.2.2.2.2.2.2.2.2.2.2.2.2.1 p.2.1.2.2.2.2.2.2.2.2.2.2.2.2.2.2.2.1) (A3Int.mk p.2.1.2.2.2.2.2.2.2.2.2.2.2.2.2.2.2.2.1 p.2.1.2.2.2.2.2.2.2.2.2.2.2.2.2.2.2.2.2.1 p.2.1.2.2.2.2.2.2.2.2.2.2.2.2.2.2.2.2.2.2.1)))) (fun (x : Bool × Int × Node) => ((x.1, ((), (x.2.1, ()))), ((x.2.2.id_, (x.2.2.term_, (x.2.2.vote, (x.2.2.base, (x.2.2.baseTerm, (x.2.2.snap, (x.2.2.log, (x.2.2.role, (x.2.2.commit, (x.2.2.wait, (x.2.2.votes.a0, (x.2.2.votes.a1, (x.2.2.votes.a2, (x.2.2.next.a0, (x.2.2.next.a1, (x.2.2.next.a2, (x.2.2.match_.a0, (x.2.2.match_.a1, (x.2.2.match_.a2, ()))))))))))))))))))), ()))) (fun _ => rfl)
def co0_L9_3 : Cod (Cst TL) (Bool × Node) := Cod.iso (Cod.cst 2 (Cod.cons (Cod.xs (Cod.sc (Cod.im Cod.bool))) (Cod.cons (Cod.xs (Cod.sc (Cod.ptr 0 0))) (Cod.nil))) (Cod.cons (Cod.var 0 28 (Cod.cons (Cod.im (Cod.int .i64)) (Cod.cons (Cod.im (Cod.int .i64)) (Cod.cons (Cod.im (Cod.int .i64)) (Cod.cons (Cod.im (Cod.int .i64)) (Cod.cons (Cod.im (Cod.int .i64)) (Cod.cons (Cod.im Cod.str) (Cod.cons (Cod.im (Cod.fz j_lEntry)) (Cod.cons (Cod.im (Cod.int .i64)) (Cod.cons (Cod.im (Cod.int .i64)) (Cod.cons (Cod.im (Cod.int .i64)) (Cod.cons (Cod.im Cod.bool) (Cod.cons (Cod.im Cod.bool) (Cod.cons (Cod.im Cod.bool) (Cod.cons (Cod.im (Cod.int .i64)) (Cod.cons (Cod.im (Cod.int .i64)) (Cod.cons (Cod.im (Cod.int .i64)) (Cod.cons (Cod.im (Cod.int .i64)) (Cod.cons (Cod.im (Cod.int .i64)) (Cod.cons (Cod.im (Cod.int .i64)) (Cod.nil))))))))))))))))))))) (Cod.nil))) (fun p => (p.1.1, (Node.mk p.2.1.1 p.2.1.2.1 p.2.1.2.2.1 p.2.1.2.2.2.1 p.2.1.2.2.2.2.1 p.2.1.2.2.2.2.2.1 p.2.1.2.2.2.2.2.2.1 p.2.1.2.2.2.2.2.2.2.1 p.2.1.2.2.2.2.2.2.2.2.1 p.2.1.2.2.2.2.2.2.2.2.2.1 (A3Bool.mk p.2.1.2.2.2.2.2.2.2.2.2.2.1 p.2.1.2.2.2.2.2.2.2.2.2.2.2.1 p.2.1.2.2.2.2.2.2.2.2.2.2.2.2.1) (A3Int.mk p.2.1.2.2.2.2.2.2.2.2.2.2.2.2.2.1 p.2.1.2.2.2.2.2.2.2.2.2.2.2.2.2.2.1 p.2.1.2.2.2.2.2.2.2.2.2.2.2.2.2.2.2.1) (A3Int.mk p.2.1.2.2.2.2.2.2.2.2.2.2.2.2.2.2.2.2.1 p.2.1.2.2.2.2.2.2.2.2.2.2.2.2.2.2.2.2.2.1 p.2.1.2.2.2.2.2.2.2.2.2.2.2.2.2.2.2.2.2.2.1)))) (fun (x : Bool × Node) => ((x.1, ((), ())), ((x.2.id_, (x.2.term_, (x.2.vote, (x.2.base, (x.2.baseTerm, (x.2.snap, (x.2.log, (x.2.role, (x.2.commit, (x.2.wait, (x.2.votes.a0, (x.2.votes.a1, (x.2.votes.a2, (x.2.next.a0, (x.2.next.a1, (x.2.next.a2, (x.2.match_.a0, (x.2.match_.a1, (x.2.match_.a2, ()))))))))))))))))))), ()))) (fun _ => rfl)
def co1_L9_3 : Cod (Cst TL) (Bool × Node) := Cod.iso (Cod.cst 2 (Cod.cons (Cod.xs (Cod.sc (Cod.im Cod.bool))) (Cod.cons (Cod.xs (Cod.sc (Cod.ptr 0 0))) (Cod.nil))) (Cod.cons (Cod.var 0 28 (Cod.cons (Cod.im (Cod.int .i64)) (Cod.cons (Cod.im (Cod.int .i64)) (Cod.cons (Cod.im (Cod.int .i64)) (Cod.cons (Cod.im (Cod.int .i64)) (Cod.cons (Cod.im (Cod.int .i64)) (Cod.cons (Cod.im Cod.str) (Cod.cons (Cod.im (Cod.fz j_lEntry)) (Cod.cons (Cod.im (Cod.int .i64)) (Cod.cons (Cod.im (Cod.int .i64)) (Cod.cons (Cod.im (Cod.int .i64)) (Cod.cons (Cod.im Cod.bool) (Cod.cons (Cod.im Cod.bool) (Cod.cons (Cod.im Cod.bool) (Cod.cons (Cod.im (Cod.int .i64)) (Cod.cons (Cod.im (Cod.int .i64)) (Cod.cons (Cod.im (Cod.int .i64)) (Cod.cons (Cod.im (Cod.int .i64)) (Cod.cons (Cod.im (Cod.int .i64)) (Cod.cons (Cod.im (Cod.int .i64)) (Cod.nil))))))))))))))))))))) (Cod.nil))) (fun p => (p.1.1, (Node.mk p.2.1.1 p.2.1.2.1 p.2.1.2.2.1 p.2.1.2.2.2.1 p.2.1.2.2.2.2.1 p.2.1.2.2.2.2.2.1 p.2.1.2.2.2.2.2.2.1 p.2.1.2.2.2.2.2.2.2.1 p.2.1.2.2.2.2.2.2.2.2.1 p.2.1.2.2.2.2.2.2.2.2.2.1 (A3Bool.mk p.2.1.2.2.2.2.2.2.2.2.2.2.1 p.2.1.2.2.2.2.2.2.2.2.2.2.2.1 p.2.1.2.2.2.2.2.2.2.2.2.2.2.2.1) (A3Int.mk p.2.1.2.2.2.2.2.2.2.2.2.2.2.2.2.1 p.2.1.2.2.2.2.2.2.2.2.2.2.2.2.2.2.1 p.2.1.2.2.2.2.2.2.2.2.2.2.2.2.2.2.2.1) (A3Int.mk p.2.1.2.2.2.2.2.2.2.2.2.2.2.2.2.2.2.2.1 p.2.1.2.2.2.2.2.2.2.2.2.2.2.2.2.2.2.2.2.1 p.2.1.2.2.2.2.2.2.2.2.2.2.2.2.2.2.2.2.2.2.1)))) (fun (x : Bool × Node) => ((x.1, ((), ())), ((x.2.id_, (x.2.term_, (x.2.vote, (x.2.base, (x.2.baseTerm, (x.2.snap, (x.2.log, (x.2.role, (x.2.commit, (x.2.wait, (x.2.votes.a0, (x.2.votes.a1, (x.2.votes.a2, (x.2.next.a0, (x.2.next.a1, (x.2.next.a2, (x.2.match_.a0, (x.2.match_.a1, (x.2.match_.a2, ()))))))))))))))))))), ()))) (fun _ => rfl)
noncomputable def sl_L9_3 : SFn TL := SFn.two ch_L9_3.dec (fun p => L9_3 p.1 p.2.1 p.2.2) (.exit 0) .ret co0_L9_3.enc co1_L9_3.enc
noncomputable def cs_lL9_3 : List (Nat × DFn TL) := [(15, df_tick)]
noncomputable def ss_lL9_3 : List (Nat × SFn TL) := []
noncomputable def env_lL9_3 : Env := envOf tab sl sh [] [(15, .keep)]
theorem env_lL9_3_ok : EnvOK Try.prog (mkD cs_lL9_3 ss_lL9_3) env_lL9_3 := envOK_of base (all_nil) (all_cons (okD rfl ok_tick) (all_nil))
theorem run_L9_3 (x : Bool × Int × Node) : Out.run (mkO cs_lL9_3 ss_lL9_3) (evRound env_lL9_3 12 20 fd9.an q_L9_3 (loopIn (loopsOf fd9.body) 3) (ch_L9_3.enc x)) (back2 ch_L9_3 co0_L9_3 co1_L9_3 (.exit 0) .ret) = stp_L9_3 x := by kernel_rfl
theorem ok_L9_3 : LoopOK Try.prog (oneS sl_L9_3) nt9 q_L9_3 (loopIn (loopsOf fd9.body) 3) :=
  loop_two env_lL9_3_ok (loops := 12) (k := 20) (an := fd9.an) (by kernel_rfl) (FnSt.subl rfl st9.keys (all_cons (.inl (by kernel_rfl)) (all_nil))) ch_L9_3 co0_L9_3 co1_L9_3 (.exit 0) .ret rfl rfl stp_L9_3 _ run_L9_3 (fun x y h => ⟨_, h⟩) (fun _ => below_iff.1 rfl)
/-- escrowlaw15.known -/
def known  : Option (Bool) :=
  ob (L9_3 false 0 (Node.mk 0 0 (-1) 0 0 s_empty [] 0 0 0 (A3Bool.mk false false false) (A3Int.mk 0 0 0) (A3Int.mk 0 0 0))) fun y0 =>
  two y0 (fun a1 =>
    ob (tick a1.2) fun r3 =>
    cond (((r3.2.length : Int) == 2))
      (ob (r3.2[0]?) fun e4 =>
      some (cond (e4.kind == 1) (cond (r3.1.role == 1) (r3.1.term_ == 1) false) false))
      (some false)) (fun b2 =>
    some b2.1)
def un_known (_ : Unit) : Option (Bool) := known
noncomputable def df_known : DFn TL := DFn.of (DA.nil) un_known (DA.one (DT.one DI.bool))
noncomputable def cs_known : List (Nat × DFn TL) := [(15, df_tick)]
noncomputable def ss_known : List (Nat × SFn TL) := [(109003, sl_L9_3)]
noncomputable def env_known : Env := envOf tab sl sh [(9, fd9), (10, fd10)] [(15, .keep)]
theorem env_known_ok : EnvOK Try.prog (mkD cs_known ss_known) env_known := envOK_of base (all_cons (st9.okl rfl (all_cons (LoopOK.cast ok_L9_3 rfl) (all_nil))) (all_cons (st10.okl rfl (all_nil)) (all_nil))) (all_cons (okD rfl ok_tick) (all_nil))
theorem run_known (x : Unit) : Out.run (mkO cs_known ss_known) (evOrc env_known 12 20 9 ((DA.nil : DA TL (Unit)).enc x)) (DA.one (DT.one DI.bool) : DA TL (Bool)).dec = un_known x := by kernel_rfl
theorem ok_known : DOK Try.prog 9 .pure df_known := data_of env_known_ok (loops := 12) (n := 20) (.inr rfl) st9.enters (DA.nil) un_known (DA.one (DT.one DI.bool)) run_known
/-- a loop of escrowlaw15.lead -/
def step_L17_3 (i1 : Int) (i2 : Int) (n1 : Node) (n2 : Node) : Option ((Int × Int × Node × Node) ⊕ (Int × Node × Node)) :=
  cond ((decide (i2 < (w64 (5 + (w64 (3 * n2.id_)))))))
    (ob (tick n2) fun r0 =>
    some (.inl (i1, (w64 (i2 + 1)), n1, r0.1)))
    (some (.inr (i1, n1, n2)))
def stp_L17_3 (p : Int × Int × Node × Node) : Option ((Int × Int × Node × Node) ⊕ (Int × Node × Node)) := step_L17_3 p.1 p.2.1 p.2.2.1 p.2.2.2
def L17_3 (i1 : Int) (i2 : Int) (n1 : Node) (n2 : Node) : Option (Int × Node × Node) := iterO stp_L17_3 (20) (i1, i2, n1, n2)
def ch_L17_3 : Cod (Cst TL) (Int × Int × Node × Node) := Cod.iso (Cod.cst 2 (Cod.cons (Cod.xs (Cod.sc (Cod.im (Cod.int .i64)))) (Cod.cons (Cod.xs (Cod.sc (Cod.ptr 0 0))) (Cod.cons (Cod.xs (Cod.sc (Cod.ptr 1 0))) (Cod.cons (Cod.xs (Cod.sc (Cod.im (Cod.int .i64)))) (Cod.nil))))) (Cod.cons (Cod.var 0 28 (Cod.cons (Cod.im (Cod.int .i64)) (Cod.cons (Cod.im (Cod.int .i64)) (Cod.cons (Cod.im (Cod.int .i64)) (Cod.cons (Cod.im (Cod.int .i64)) (Cod.cons (Cod.im (Cod.int .i64)) (Cod.cons (Cod.im Cod.str) (Cod.cons (Cod.im (Cod.fz j_lEntry)) (Cod.cons (Cod.im (Cod.int .i64)) (Cod.cons (Cod.im (Cod.int .i64)) (Cod.cons (Cod.im (Cod.int .i64)) (Cod.cons (Cod.im Cod.bool) (Cod.cons (Cod.im Cod.bool) (Cod.cons (Cod.im Cod.bool) (Cod.cons (Cod.im (Cod.int .i64)) (Cod.cons (Cod.im (Cod.int .i64)) (Cod.cons (Cod.im (Cod.int .i64)) (Cod.cons (Cod.im (Cod.int .i64)) (Cod.cons (Cod.im (Cod.int .i64)) (Cod.cons (Cod.im (Cod.int .i64)) (Cod.nil))))))))))))))))))))) (Cod.cons (Cod.var 1 28 (Cod.cons (Cod.im (Cod.int .i64)) (Cod.cons (Cod.im (Cod.int .i64)) (Cod.cons (Cod.im (Cod.int .i64)) (Cod.cons (Cod.im (Cod.int .i64)) (Cod.cons (Cod.im (Cod.int .i64)) (Cod.cons (Cod.im Cod.str) (Cod.cons (Cod.im (Cod.fz j_lEntry)) (Cod.cons (Cod.im (Cod.int .i64)) (Cod.cons (Cod.im (Cod.int .i64)) (Cod.cons (Cod.im (Cod.int .i64)) (Cod.cons (Cod.im Cod.bool) (Cod.cons (Cod.im Cod.bool) (Cod.cons (Cod.im Cod.bool) (Cod.cons (Cod.im (Cod.int .i64)) (Cod.cons (Cod.im (Cod.int .i64)) (Cod.cons (Cod.im (Cod.int .i64)) (Cod.cons (Cod.im (Cod.int .i64)) (Cod.cons (Cod.im (Cod.int .i64)) (Cod.cons (Cod.im (Cod.int .i64)) (Cod.nil))))))))))))))))))))) (Cod.nil)))) (fun p => (p.1.1, p.1.2.2.2.1, (Node.mk p.2.1.1 p.2.1.2.1 p.2.1.2.2.1 p.2.1.2.2.2.1 p.2.1.2.2.2.2.1 p.2.1.2.2.2.2.2.1 p.2.1.2.2.2.2.2.2.1 p.2.1.2.2.2.2.2.2.2.1 p.2.1.2.2.2.2.2.2.2.2.1 p.2.1.2.2.2.2.2.2.2.2.2.1 (A3Bool.mk p.2.1.2.2.2.2.2.2.2.2.2.2.1 p.2.1.2.2.2.2.2.2.2.2.2.2.2.1 p.2.1.2.2.2.2.2.2.2.2.2.2.2.2.1) (A3Int.mk p.2.1.2.2.2.2.2.2.2.2.2.2.2.2.2.1 p.2.1.2.2.2.2.2.2.2.2.2.2.2.2.2.2.1 p.2.1.2.2.2.2.2.2.2.2.2.2.2.2.2.2.2.1) (A3Int.mk p.2.1.2.2.2.2.2.2.2.2.2.2.2.2.2.2.2.2.1 p.2.1.2.2.2.2.2.2.2.2.2.2.2.2.2.2.2.2.2.1 p.2.1.2.2.2.2.2.2.2.2.2.2.2.2.2.2.2.2.2.2.1)), (Node.mk p.2.2.1.1 p.2.2.1.2.1 p.2.2.1.2.2.1 p.2.2.1.2.2.2.1 p.2.2.1.2.2.2.2.1 p.2.2.1.2.2.2.2.2.1 p.2.2.1.2.2.2.2.2.2.1 p.2.2.1.2.2.2.2.2.2.2.1 p.2.2.1.2.2.2.2.2.2.2.2.1 p.2.2.1.2.2.2.2.2.2.2.2.2.1 (A3Bool.mk p.2.2.1.2.2.2.2.2.2.2.2.2.2.1 p.2.2.1.2.2.2.2.2.2.2.2.2.2.2.1 p.2.2.1.2.2.2.2.2.2.2.2.2.2.2.2.1) (A3Int.mk p.2.2.1.2.2.2.2.2.2.2.2.2.2.2.2.2.1 p.2.2.1.2.2.2.2.2.2.2.2.2.2.2.2.2.2.1 p.2.2.1.2.2.2.2.2.2.2.2.2.2.2.2.2.2.2.1) (A3Int.mk p.2.2.1.2.2.2.2.2.2.2.2.2.2.2.2.2.2.2.2.1 p.2.2.1.2.2.2.2.2.2.2.2.2.2.2.2.2.2.2.2.2.1 p.2.2.1.2.2.2.2.2.2.2.2.2.2.2.2.2.2.2.2.2.2.1)))) (fun (x : Int × Int × Node × Node) => ((x.1, ((), ((), (x.2.1, ())))), ((x.2.2.1.id_, (x.2.2.1.term_, (x.2.2.1.vote, (x.2.2.1.base, (x.2.2.1.baseTerm, (x.2.2.1.snap, (x.2.2.1.log, (x.2.2.1.role, (x.2.2.1.commit, (x.2.2.1.wait, (x.2.2.1.votes.a0, (x.2.2.1.votes.a1, (x.2.2.1.votes.a2, (x.2.2.1.next.a0, (x.2.2.1.next.a1, (x.2.2.1.next.a2, (x.2.2.1.match_.a0, (x.2.2.1.match_.a1, (x.2.2.1.match_.a2, ()))))))))))))))))))), ((x.2.2.2.id_, (x.2.2.2.term_, (x.2.2.2.vote, (x.2.2.2.base, (x.2.2.2.baseTerm, (x.2.2.2.snap, (x.2.2.2.log, (x.2.2.2.role, (x.2.2.2.commit, (x.2.2.2.wait, (x.2.2.2.votes.a0, (x.2.2.2.votes.a1, (x.2.2.2.votes.a2, (x.2.2.2.next.a0, (x.2.2.2.next.a1, (x.2.2.2.next.a2, (x.2.2.2.match_.a0, (x.2.2.2.match_.a1, (x.2.2.2.match_.a2, ()))))))))))))))))))), ())))) (fun _ => rfl)
def co0_L17_3 : Cod (Cst TL) (Int × Node × Node) := Cod.iso (Cod.cst 4 (Cod.cons (Cod.xs (Cod.sc (Cod.im (Cod.int .i64)))) (Cod.cons (Cod.xs (Cod.sc (Cod.ptr 0 0))) (Cod.cons (Cod.xs (Cod.sc (Cod.ptr 1 0))) (Cod.nil)))) (Cod.cons (Cod.var 0 28 (Cod.cons (Cod.im (Cod.int .i64)) (Cod.cons (Cod.im (Cod.int .i64)) (Cod.cons (Cod.im (Cod.int .i64)) (Cod.cons (Cod.im (Cod.int .i64)) (Cod.cons (Cod.im (Cod.int .i64)) (Cod.cons (Cod.im Cod.str) (Cod.cons (Cod.im (Cod.fz j_lEntry)) (Cod.cons (Cod.im (Cod.int .i64)) (Cod.cons (Cod.im (Cod.int .i64)) (Cod.cons (Cod.im (Cod.int .i64)) (Cod.cons (Cod.im Cod.bool) (Cod.cons (Cod.im Cod.bool) (Cod.cons (Cod.im Cod.bool) (Cod.cons (Cod.im (Cod.int .i64)) (Cod.cons (Cod.im (Cod.int .i64)) (Cod.cons (Cod.im (Cod.int .i64)) (Cod.cons (Cod.im (Cod.int .i64)) (Cod.cons (Cod.im (Cod.int .i64)) (Cod.cons (Cod.im (Cod.int .i64)) (Cod.nil))))))))))))))))))))) (Cod.cons (Cod.var 1 28 (Cod.cons (Cod.im (Cod.int .i64)) (Cod.cons (Cod.im (Cod.int .i64)) (Cod.cons (Cod.im (Cod.int .i64)) (Cod.cons (Cod.im (Cod.int .i64)) (Cod.cons (Cod.im (Cod.int .i64)) (Cod.cons (Cod.im Cod.str) (Cod.cons (Cod.im (Cod.fz j_lEntry)) (Cod.cons (Cod.im (Cod.int .i64)) (Cod.cons (Cod.im (Cod.int .i64)) (Cod.cons (Cod.im (Cod.int .i64)) (Cod.cons (Cod.im Cod.bool) (Cod.cons (Cod.im Cod.bool) (Cod.cons (Cod.im Cod.bool) (Cod.cons (Cod.im (Cod.int .i64)) (Cod.cons (Cod.im (Cod.int .i64)) (Cod.cons (Cod.im (Cod.int .i64)) (Cod.cons (Cod.im (Cod.int .i64)) (Cod.cons (Cod.im (Cod.int .i64)) (Cod.cons (Cod.im (Cod.int .i64)) (Cod.nil))))))))))))))))))))) (Cod.nil)))) (fun p => (p.1.1, (Node.mk p.2.1.1 p.2.1.2.1 p.2.1.2.2.1 p.2.1.2.2.2.1 p.2.1.2.2.2.2.1 p.2.1.2.2.2.2.2.1 p.2.1.2.2.2.2.2.2.1 p.2.1.2.2.2.2.2.2.2.1 p.2.1.2.2.2.2.2.2.2.2.1 p.2.1.2.2.2.2.2.2.2.2.2.1 (A3Bool.mk p.2.1.2.2.2.2.2.2.2.2.2.2.1 p.2.1.2.2.2.2.2.2.2.2.2.2.2.1 p.2.1.2.2.2.2.2.2.2.2.2.2.2.2.1) (A3Int.mk p.2.1.2.2.2.2.2.2.2.2.2.2.2.2.2.1 p.2.1.2.2.2.2.2.2.2.2.2.2.2.2.2.2.1 p.2.1.2.2.2.2.2.2.2.2.2.2.2.2.2.2.2.1) (A3Int.mk p.2.1.2.2.2.2.2.2.2.2.2.2.2.2.2.2.2.2.1 p.2.1.2.2.2.2.2.2.2.2.2.2.2.2.2.2.2.2.2.1 p.2.1.2.2.2.2.2.2.2.2.2.2.2.2.2.2.2.2.2.2.1)), (Node.mk p.2.2.1.1 p.2.2.1.2.1 p.2.2.1.2.2.1 p.2.2.1.2.2.2.1 p.2.2.1.2.2.2.2.1 p.2.2.1.2.2.2.2.2.1 p.2.2.1.2.2.2.2.2.2.1 p.2.2.1.2.2.2.2.2.2.2.1 p.2.2.1.2.2.2.2.2.2.2.2.1 p.2.2.1.2.2.2.2.2.2.2.2.2.1 (A3Bool.mk p.2.2.1.2.2.2.2.2.2.2.2.2.2.1 p.2.2.1.2.2.2.2.2.2.2.2.2.2.2.1 p.2.2.1.2.2.2.2.2.2.2.2.2.2.2.2.1) (A3Int.mk p.2.2.1.2.2.2.2.2.2.2.2.2.2.2.2.2.1 p.2.2.1.2.2.2.2.2.2.2.2.2.2.2.2.2.2.1 p.2.2.1.2.2.2.2.2.2.2.2.2.2.2.2.2.2.2.1) (A3Int.mk p.2.2.1.2.2.2.2.2.2.2.2.2.2.2.2.2.2.2.2.1 p.2.2.1.2.2.2.2.2.2.2.2.2.2.2.2.2.2.2.2.2.1 p.2.2.1.2.2.2.2.2.2.2.2.2.2.2.2.2.2.2.2.2.2.1)))) (fun (x : Int × Node × Node) => ((x.1, ((), ((), ()))), ((x.2.1.id_, (x.2.1.term_, (x.2.1.vote, (x.2.1.base, (x.2.1.baseTerm, (x.2.1.snap, (x.2.1.log, (x.2.1.role, (x.2.1.commit, (x.2.1.wait, (x.2.1.votes.a0, (x.2.1.votes.a1, (x.2.1.votes.a2, (x.2.1.next.a0, (x.2.1.next.a1, (x.2.1.next.a2, (x.2.1.match_.a0, (x.2.1.match_.a1, (x.2.1.match_.a2, ()))))))))))))))))))), ((x.2.2.id_, (x.2.2.term_, (x.2.2.vote, (x.2.2.base, (x.2.2.baseTerm, (x.2.2.snap, (x.2.2.log, (x.2.2.role, (x.2.2.commit, (x.2.2.wait, (x.2.2.votes.a0, (x.2.2.votes.a1, (x.2.2.votes.a2, (x.2.2.next.a0, (x.2.2.next.a1, (x.2.2.next.a2, (x.2.2.match_.a0, (x.2.2.match_.a1, (x.2.2.match_.a2, ()))))))))))))))))))), ())))) (fun _ => rfl)
noncomputable def sl_L17_3 : SFn TL := SFn.one ch_L17_3.dec (fun p => L17_3 p.1 p.2.1 p.2.2.1 p.2.2.2) (.exit 0) co0_L17_3.enc
noncomputable def cs_lL17_3 : List (Nat × DFn TL) := [(15, df_tick)]
noncomputable def ss_lL17_3 : List (Nat × SFn TL) := []
noncomputable def env_lL17_3 : Env := envOf tab sl sh [] [(15, .keep)]
theorem env_lL17_3_ok : EnvOK Try.prog (mkD cs_lL17_3 ss_lL17_3) env_lL17_3 := envOK_of base (all_nil) (all_cons (okD rfl ok_tick) (all_nil))
theorem run_L17_3 (x : Int × Int × Node × Node) : Out.run (mkO cs_lL17_3 ss_lL17_3) (evRound env_lL17_3 12 20 fd17.an q_L17_3 (loopIn (loopsOf fd17.body) 3) (ch_L17_3.enc x)) (back ch_L17_3 co0_L17_3 fun e => exE e (.exit 0)) = stp_L17_3 x := by kernel_rfl
theorem ok_L17_3 : LoopOK Try.prog (oneS sl_L17_3) nt17 q_L17_3 (loopIn (loopsOf fd17.body) 3) :=
  loop_one env_lL17_3_ok (loops := 12) (k := 20) (an := fd17.an) (by kernel_rfl) (FnSt.subl rfl st17.keys (all_cons (.inl (by kernel_rfl)) (all_cons (.inl (by kernel_rfl)) (all_nil)))) ch_L17_3 co0_L17_3 (.exit 0) rfl stp_L17_3 _ run_L17_3 (fun x y h => ⟨_, h⟩) (fun _ => below_iff.1 rfl)
/-- a loop of escrowlaw15.lead -/
def step_L17_8 (i1 : Int) (i2 : Int) (n1 : Node) (n2 : Node) : Option ((Int × Int × Node × Node) ⊕ (Node × Node)) :=
  cond ((decide (i2 < i1)))
    (ob (propose n2 (strOfInts [(IntKind.u8.wrap ((w64 (97 + i2))))])) fun r0 =>
    some (.inl (i1, (w64 (i2 + 1)), n1, r0.1)))
    (some (.inr (n1, n2)))
def stp_L17_8 (p : Int × Int × Node × Node) : Option ((Int × Int × Node × Node) ⊕ (Node × Node)) := step_L17_8 p.1 p.2.1 p.2.2.1 p.2.2.2
def L17_8 (i1 : Int) (i2 : Int) (n1 : Node) (n2 : Node) : Option (Node × Node) := iterO stp_L17_8 ((i1 - i2).toNat + 2) (i1, i2, n1, n2)
def ch_L17_8 : Cod (Cst TL) (Int × Int × Node × Node) := Cod.iso (Cod.cst 2 (Cod.cons (Cod.xs (Cod.sc (Cod.im (Cod.int .i64)))) (Cod.cons (Cod.xs (Cod.sc (Cod.ptr 0 0))) (Cod.cons (Cod.xs (Cod.sc (Cod.ptr 1 0))) (Cod.cons (Cod.xs (Cod.sc (Cod.im (Cod.int .i64)))) (Cod.nil))))) (Cod.cons (Cod.var 0 28 (Cod.cons (Cod.im (Cod.int .i64)) (Cod.cons (Cod.im (Cod.int .i64)) (Cod.cons (Cod.im (Cod.int .i64)) (Cod.cons (Cod.im (Cod.int .i64)) (Cod.cons (Cod.im (Cod.int .i64)) (Cod.cons (Cod.im Cod.str) (Cod.cons (Cod.im (Cod.fz j_lEntry)) (Cod.cons (Cod.im (Cod.int .i64)) (Cod.cons (Cod.im (Cod.int .i64)) (Cod.cons (Cod.im (Cod.int .i64)) (Cod.cons (Cod.im Cod.bool) (Cod.cons (Cod.im Cod.bool) (Cod.cons (Cod.im Cod.bool) (Cod.cons (Cod.im (Cod.int .i64)) (Cod.cons (Cod.im (Cod.int .i64)) (Cod.cons (Cod.im (Cod.int .i64)) (Cod.cons (Cod.im (Cod.int .i64)) (Cod.cons (Cod.im (Cod.int .i64)) (Cod.cons (Cod.im (Cod.int .i64)) (Cod.nil))))))))))))))))))))) (Cod.cons (Cod.var 1 28 (Cod.cons (Cod.im (Cod.int .i64)) (Cod.cons (Cod.im (Cod.int .i64)) (Cod.cons (Cod.im (Cod.int .i64)) (Cod.cons (Cod.im (Cod.int .i64)) (Cod.cons (Cod.im (Cod.int .i64)) (Cod.cons (Cod.im Cod.str) (Cod.cons (Cod.im (Cod.fz j_lEntry)) (Cod.cons (Cod.im (Cod.int .i64)) (Cod.cons (Cod.im (Cod.int .i64)) (Cod.cons (Cod.im (Cod.int .i64)) (Cod.cons (Cod.im Cod.bool) (Cod.cons (Cod.im Cod.bool) (Cod.cons (Cod.im Cod.bool) (Cod.cons (Cod.im (Cod.int .i64)) (Cod.cons (Cod.im (Cod.int .i64)) (Cod.cons (Cod.im (Cod.int .i64)) (Cod.cons (Cod.im (Cod.int .i64)) (Cod.cons (Cod.im (Cod.int .i64)) (Cod.cons (Cod.im (Cod.int .i64)) (Cod.nil))))))))))))))))))))) (Cod.nil)))) (fun p => (p.1.1, p.1.2.2.2.1, (Node.mk p.2.1.1 p.2.1.2.1 p.2.1.2.2.1 p.2.1.2.2.2.1 p.2.1.2.2.2.2.1 p.2.1.2.2.2.2.2.1 p.2.1.2.2.2.2.2.2.1 p.2.1.2.2.2.2.2.2.2.1 p.2.1.2.2.2.2.2.2.2.2.1 p.2.1.2.2.2.2.2.2.2.2.2.1 (A3Bool.mk p.2.1.2.2.2.2.2.2.2.2.2.2.1 p.2.1.2.2.2.2.2.2.2.2.2.2.2.1 p.2.1.2.2.2.2.2.2.2.2.2.2.2.2.1) (A3Int.mk p.2.1.2.2.2.2.2.2.2.2.2.2.2.2.2.1 p.2.1.2.2.2.2.2.2.2.2.2.2.2.2.2.2.1 p.2.1.2.2.2.2.2.2.2.2.2.2.2.2.2.2.2.1) (A3Int.mk p.2.1.2.2.2.2.2.2.2.2.2.2.2.2.2.2.2.2.1 p.2.1.2.2.2.2.2.2.2.2.2.2.2.2.2.2.2.2.2.1 p.2.1.2.2.2.2.2.2.2.2.2.2.2.2.2.2.2.2.2.2.1)), (Node.mk p.2.2.1.1 p.2.2.1.2.1 p.2.2.1.2.2.1 p.2.2.1.2.2.2.1 p.2.2.1.2.2.2.2.1 p.2.2.1.2.2.2.2.2.1 p.2.2.1.2.2.2.2.2.2.1 p.2.2.1.2.2.2.2.2.2.2.1 p.2.2.1.2.2.2.2.2.2.2.2.1 p.2.2.1.2.2.2.2.2.2.2.2.2.1 (A3Bool.mk p.2.2.1.2.2.2.2.2.2.2.2.2.2.1 p.2.2.1.2.2.2.2.2.2.2.2.2.2.2.1 p.2.2.1.2.2.2.2.2.2.2.2.2.2.2.2.1) (A3Int.mk p.2.2.1.2.2.2.2.2.2.2.2.2.2.2.2.2.1 p.2.2.1.2.2.2.2.2.2.2.2.2.2.2.2.2.2.1 p.2.2.1.2.2.2.2.2.2.2.2.2.2.2.2.2.2.2.1) (A3Int.mk p.2.2.1.2.2.2.2.2.2.2.2.2.2.2.2.2.2.2.2.1 p.2.2.1.2.2.2.2.2.2.2.2.2.2.2.2.2.2.2.2.2.1 p.2.2.1.2.2.2.2.2.2.2.2.2.2.2.2.2.2.2.2.2.2.1)))) (fun (x : Int × Int × Node × Node) => ((x.1, ((), ((), (x.2.1, ())))), ((x.2.2.1.id_, (x.2.2.1.term_, (x.2.2.1.vote, (x.2.2.1.base, (x.2.2.1.baseTerm, (x.2.2.1.snap, (x.2.2.1.log, (x.2.2.1.role, (x.2.2.1.commit, (x.2.2.1.wait, (x.2.2.1.votes.a0, (x.2.2.1.votes.a1, (x.2.2.1.votes.a2, (x.2.2.1.next.a0, (x.2.2.1.next.a1, (x.2.2.1.next.a2, (x.2.2.1.match_.a0, (x.2.2.1.match_.a1, (x.2.2.1.match_.a2, ()))))))))))))))))))), ((x.2.2.2.id_, (x.2.2.2.term_, (x.2.2.2.vote, (x.2.2.2.base, (x.2.2.2.baseTerm, (x.2.2.2.snap, (x.2.2.2.log, (x.2.2.2.role, (x.2.2.2.commit, (x.2.2.2.wait, (x.2.2.2.votes.a0, (x.2.2.2.votes.a1, (x.2.2.2.votes.a2, (x.2.2.2.next.a0, (x.2.2.2.next.a1, (x.2.2.2.next.a2, (x.2.2.2.match_.a0, (x.2.2.2.match_.a1, (x.2.2.2.match_.a2, ()))))))))))))))))))), ())))) (fun _ => rfl)
def co0_L17_8 : Cod (Cst TL) (Node × Node) := Cod.iso (Cod.cst 4 (Cod.cons (Cod.xs (Cod.sc (Cod.ptr 0 0))) (Cod.cons (Cod.xs (Cod.sc (Cod.ptr 1 0))) (Cod.nil))) (Cod.cons (Cod.var 0 28 (Cod.cons (Cod.im (Cod.int .i64)) (Cod.cons (Cod.im (Cod.int .i64)) (Cod.cons (Cod.im (Cod.int .i64)) (Cod.cons (Cod.im (Cod.int .i64)) (Cod.cons (Cod.im (Cod.int .i64)) (Cod.cons (Cod.im Cod.str) (Cod.cons (Cod.im (Cod.fz j_lEntry)) (Cod.cons (Cod.im (Cod.int .i64)) (Cod.cons (Cod.im (Cod.int .i64)) (Cod.cons (Cod.im (Cod.int .i64)) (Cod.cons (Cod.im Cod.bool) (Cod.cons (Cod.im Cod.bool) (Cod.cons (Cod.im Cod.bool) (Cod.cons (Cod.im (Cod.int .i64)) (Cod.cons (Cod.im (Cod.int .i64)) (Cod.cons (Cod.im (Cod.int .i64)) (Cod.cons (Cod.im (Cod.int .i64)) (Cod.cons (Cod.im (Cod.int .i64)) (Cod.cons (Cod.im (Cod.int .i64)) (Cod.nil))))))))))))))))))))) (Cod.cons (Cod.var 1 28 (Cod.cons (Cod.im (Cod.int .i64)) (Cod.cons (Cod.im (Cod.int .i64)) (Cod.cons (Cod.im (Cod.int .i64)) (Cod.cons (Cod.im (Cod.int .i64)) (Cod.cons (Cod.im (Cod.int .i64)) (Cod.cons (Cod.im Cod.str) (Cod.cons (Cod.im (Cod.fz j_lEntry)) (Cod.cons (Cod.im (Cod.int .i64)) (Cod.cons (Cod.im (Cod.int .i64)) (Cod.cons (Cod.im (Cod.int .i64)) (Cod.cons (Cod.im Cod.bool) (Cod.cons (Cod.im Cod.bool) (Cod.cons (Cod.im Cod.bool) (Cod.cons (Cod.im (Cod.int .i64)) (Cod.cons (Cod.im (Cod.int .i64)) (Cod.cons (Cod.im (Cod.int .i64)) (Cod.cons (Cod.im (Cod.int .i64)) (Cod.cons (Cod.im (Cod.int .i64)) (Cod.cons (Cod.im (Cod.int .i64)) (Cod.nil))))))))))))))))))))) (Cod.nil)))) (fun p => ((Node.mk p.2.1.1 p.2.1.2.1 p.2.1.2.2.1 p.2.1.2.2.2.1 p.2.1.2.2.2.2.1 p.2.1.2.2.2.2.2.1 p.2.1.2.2.2.2.2.2.1 p.2.1.2.2.2.2.2.2.2.1 p.2.1.2.2.2.2.2.2.2.2.1 p.2.1.2.2.2.2.2.2.2.2.2.1 (A3Bool.mk p.2.1.2.2.2.2.2.2.2.2.2.2.1 p.2.1.2.2.2.2.2.2.2.2.2.2.2.1 p.2.1.2.2.2.2.2.2.2.2.2.2.2.2.1) (A3Int.mk p.2.1.2.2.2.2.2.2.2.2.2.2.2.2.2.1 p.2.1.2.2.2.2.2.2.2.2.2.2.2.2.2.2.1 p.2.1.2.2.2.2.2.2.2.2.2.2.2.2.2.2.2.1) (A3Int.mk p.2.1.2.2.2.2.2.2.2.2.2.2.2.2.2.2.2.2.1 p.2.1.2.2.2.2.2.2.2.2.2.2.2.2.2.2.2.2.2.1 p.2.1.2.2.2.2.2.2.2.2.2.2.2.2.2.2.2.2.2.2.1)), (Node.mk p.2.2.1.1 p.2.2.1.2.1 p.2.2.1.2.2.1 p.2.2.1.2.2.2.1 p.2.2.1.2.2.2.2.1 p.2.2.1.2.2.2.2.2.1 p.2.2.1.2.2.2.2.2.2.1 p.2.2.1.2.2.2.2.2.2.2.1 p.2.2.1.2.2.2.2.2.2.2.2.1 p.2.2.1.2.2.2.2.2.2.2.2.2.1 (A3Bool.mk p.2.2.1.2.2.2.2.2.2.2.2.2.2.1 p.2.2.1.2.2.2.2.2.2.2.2.2.2.2.1 p.2.2.1.2.2.2.2.2.2.2.2.2.2.2.2.1) (A3Int.mk p.2.2.1.2.2.2.2.2.2.2.2.2.2.2.2.2.1 p.2.2.1.2.2.2.2.2.2.2.2.2.2.2.2.2.2.1 p.2.2.1.2.2.2.2.2.2.2.2.2.2.2.2.2.2.2.1) (A3Int.mk p.2.2.1.2.2.2.2.2.2.2.2.2.2.2.2.2.2.2.2.1 p.2.2.1.2.2.2.2.2.2.2.2.2.2.2.2.2.2.2.2.2.1 p.2.2.1.2.2.2.2.2.2.2.2.2.2.2.2.2.2.2.2.2.2.1)))) (fun (x : Node × Node) => (((), ((), ())), ((x.1.id_, (x.1.term_, (x.1.vote, (x.1.base, (x.1.baseTerm, (x.1.snap, (x.1.log, (x.1.role, (x.1.commit, (x.1.wait, (x.1.votes.a0, (x.1.votes.a1, (x.1.votes.a2, (x.1.next.a0, (x.1.next.a1, (x.1.next.a2, (x.1.match_.a0, (x.1.match_.a1, (x.1.match_.a2, ()))))))))))))))))))), ((x.2.id_, (x.2.term_, (x.2.vote, (x.2.base, (x.2.baseTerm, (x.2.snap, (x.2.log, (x.2.role, (x.2.commit, (x.2.wait, (x.2.votes.a0, (x.2.votes.a1, (x.2.votes.a2, (x.2.next.a0, (x.2.next.a1, (x.2.next.a2, (x.2.match_.a0, (x.2.match_.a1, (x.2.match_.a2, ()))))))))))))))))))), ())))) (fun _ => rfl)
noncomputable def sl_L17_8 : SFn TL := SFn.one ch_L17_8.dec (fun p => L17_8 p.1 p.2.1 p.2.2.1 p.2.2.2) (.exit 2) co0_L17_8.enc
noncomputable def cs_lL17_8 : List (Nat × DFn TL) := [(14, df_propose)]
noncomputable def ss_lL17_8 : List (Nat × SFn TL) := []
noncomputable def env_lL17_8 : Env := envOf tab sl sh [] [(14, .keep)]
theorem env_lL17_8_ok : EnvOK Try.prog (mkD cs_lL17_8 ss_lL17_8) env_lL17_8 := envOK_of base (all_nil) (all_cons (okD rfl ok_propose) (all_nil))
theorem run_L17_8 (x : Int × Int × Node × Node) : Out.run (mkO cs_lL17_8 ss_lL17_8) (evRound env_lL17_8 12 20 fd17.an q_L17_8 (loopIn (loopsOf fd17.body) 8) (ch_L17_8.enc x)) (back ch_L17_8 co0_L17_8 fun e => exE e (.exit 2)) = stp_L17_8 x := by kernel_rfl
theorem ok_L17_8 : LoopOK Try.prog (oneS sl_L17_8) nt17 q_L17_8 (loopIn (loopsOf fd17.body) 8) :=
  loop_one env_lL17_8_ok (loops := 12) (k := 20) (an := fd17.an) (by kernel_rfl) (FnSt.subl rfl st17.keys (all_cons (.inl (by kernel_rfl)) (all_cons (.inl (by kernel_rfl)) (all_nil)))) ch_L17_8 co0_L17_8 (.exit 2) rfl stp_L17_8 _ run_L17_8 (fun x y h => ⟨_, h⟩) (fun _ => below_iff.1 rfl)
/-- escrowlaw15.lead -/
def lead (i1 : Int) (i2 : Int) : Option (Node) :=
  ob (L17_3 i2 0 (Node.mk 0 0 0 0 0 s_empty [] 0 0 0 (A3Bool.mk false false false) (A3Int.mk 0 0 0) (A3Int.mk 0 0 0)) (Node.mk ((w64 ((i1.tmod 3) + 3)).tmod 3) 0 (-1) 0 0 s_empty [] 0 0 0 (A3Bool.mk false false false) (A3Int.mk 0 0 0) (A3Int.mk 0 0 0))) fun y0 =>
  ob (take y0.2.2 (Msg.mk 2 ((w64 (y0.2.2.id_ + 1)).tmod 3) y0.2.2.id_ 1 0 0 0 true [] s_empty)) fun r1 =>
  ob (L17_8 y0.1 0 y0.2.1 r1.1) fun y2 =>
  some y2.2
def un_lead (p : Int × Int) : Option (Node) := lead p.1 p.2
noncomputable def df_lead : DFn TL := DFn.of (DA.cons (DT.one (DI.int .i64)) (DA.one (DT.one (DI.int .i64)))) un_lead (DA.one (DT.agg dc_Node))
noncomputable def cs_lead : List (Nat × DFn TL) := [(13, df_take)]
noncomputable def ss_lead : List (Nat × SFn TL) := [(117003, sl_L17_3), (117008, sl_L17_8)]
noncomputable def env_lead : Env := envOf tab sl sh [(17, fd17), (10, fd10)] [(13, .keep)]
theorem env_lead_ok : EnvOK Try.prog (mkD cs_lead ss_lead) env_lead := envOK_of base (all_cons (st17.okl rfl (all_cons (LoopOK.cast ok_L17_3 rfl) (all_cons (LoopOK.cast ok_L17_8 rfl) (all_nil)))) (all_cons (st10.okl rfl (all_nil)) (all_nil))) (all_cons (okD rfl ok_take) (all_nil))
theorem run_lead (x : Int × Int) : Out.run (mkO cs_lead ss_lead) (evOrc env_lead 12 20 17 ((DA.cons (DT.one (DI.int .i64)) (DA.one (DT.one (DI.int .i64))) : DA TL (Int × Int)).enc x)) (DA.one (DT.agg dc_Node) : DA TL (Node)).dec = un_lead x := by kernel_rfl
theorem ok_lead : DOK Try.prog 17 .keep df_lead := data_of env_lead_ok (loops := 12) (n := 20) (.inl rfl) st17.enters (DA.cons (DT.one (DI.int .i64)) (DA.one (DT.one (DI.int .i64)))) un_lead (DA.one (DT.agg dc_Node)) run_lead
/-- a loop of escrowlaw15.ReplicaVotes -/
def step_L3_6 (l1 : List Int) (i1 : Int) (i2 : Int) (b1 : Bool) (i3 : Int) (i4 : Int) (n1 : Node) : Option (((List Int) × Int × Int × Bool × Int × Int × Node) ⊕ (Int × Int × Bool × Node)) :=
  cond ((cond (decide (i4 < (l1.length : Int))) (decide (i4 < 8)) false))
    (cond (decide (0 ≤ i4))
      (ob (l1[i4.toNat]?) fun e0 =>
      ob (within e0 2) fun r1 =>
      cond (fits ((n1.log ++ [(Entry.mk (min2 (max2 (w64 (i3 + r1)) 1) 5) s_empty)]).length))
        (some (.inl (l1, i1, i2, b1, (w64 (i3 + r1)), (w64 (i4 + 1)), (Node.mk n1.id_ n1.term_ n1.vote n1.base n1.baseTerm n1.snap (n1.log ++ [(Entry.mk (min2 (max2 (w64 (i3 + r1)) 1) 5) s_empty)]) n1.role n1.commit n1.wait n1.votes n1.next n1.match_))))
        (none))
      (none))
    (some (.inr (i1, i2, b1, n1)))
def stp_L3_6 (p : (List Int) × Int × Int × Bool × Int × Int × Node) : Option (((List Int) × Int × Int × Bool × Int × Int × Node) ⊕ (Int × Int × Bool × Node)) := step_L3_6 p.1 p.2.1 p.2.2.1 p.2.2.2.1 p.2.2.2.2.1 p.2.2.2.2.2.1 p.2.2.2.2.2.2
def L3_6 (l1 : List Int) (i1 : Int) (i2 : Int) (b1 : Bool) (i3 : Int) (i4 : Int) (n1 : Node) : Option (Int × Int × Bool × Node) := iterO stp_L3_6 (((l1.length : Int) - i4).toNat + 2) (l1, i1, i2, b1, i3, i4, n1)
def ch_L3_6 : Cod (Cst TL) ((List Int) × Int × Int × Bool × Int × Int × Node) := Cod.iso (Cod.cst 2 (Cod.cons (Cod.xs (Cod.sc (Cod.im (Cod.fz j_lInt)))) (Cod.cons (Cod.xs (Cod.sc (Cod.im (Cod.int .i64)))) (Cod.cons (Cod.xs (Cod.sc (Cod.im (Cod.int .i64)))) (Cod.cons (Cod.xs (Cod.sc (Cod.im Cod.bool))) (Cod.cons (Cod.xs (Cod.sc (Cod.ptr 0 0))) (Cod.cons (Cod.xs (Cod.sc (Cod.im (Cod.int .i64)))) (Cod.cons (Cod.xs (Cod.sc (Cod.im (Cod.int .i64)))) (Cod.nil)))))))) (Cod.cons (Cod.var 0 28 (Cod.cons (Cod.im (Cod.int .i64)) (Cod.cons (Cod.im (Cod.int .i64)) (Cod.cons (Cod.im (Cod.int .i64)) (Cod.cons (Cod.im (Cod.int .i64)) (Cod.cons (Cod.im (Cod.int .i64)) (Cod.cons (Cod.im Cod.str) (Cod.cons (Cod.ar 1) (Cod.cons (Cod.im (Cod.int .i64)) (Cod.cons (Cod.im (Cod.int .i64)) (Cod.cons (Cod.im (Cod.int .i64)) (Cod.cons (Cod.im Cod.bool) (Cod.cons (Cod.im Cod.bool) (Cod.cons (Cod.im Cod.bool) (Cod.cons (Cod.im (Cod.int .i64)) (Cod.cons (Cod.im (Cod.int .i64)) (Cod.cons (Cod.im (Cod.int .i64)) (Cod.cons (Cod.im (Cod.int .i64)) (Cod.cons (Cod.im (Cod.int .i64)) (Cod.cons (Cod.im (Cod.int .i64)) (Cod.nil))))))))))))))))))))) (Cod.cons (Cod.arr 1 32 j_lEntry) (Cod.nil)))) (fun p => (p.1.1, p.1.2.1, p.1.2.2.1, p.1.2.2.2.1, p.1.2.2.2.2.2.1, p.1.2.2.2.2.2.2.1, (Node.mk p.2.1.1 p.2.1.2.1 p.2.1.2.2.1 p.2.1.2.2.2.1 p.2.1.2.2.2.2.1 p.2.1.2.2.2.2.2.1 p.2.2.1 p.2.1.2.2.2.2.2.2.2.1 p.2.1.2.2.2.2.2.2.2.2.1 p.2.1.2.2.2.2.2.2.2.2.2.1 (A3Bool.mk p.2.1.2.2.2.2.2.2.2.2.2.2.1 p.2.1.2.2.2.2.2.2.2.2.2.2.2.1 p.2.1.2.2.2.2.2.2.2.2.2.2.2.2.1) (A3Int.mk p.2.1.2.2.2.2.2.2.2.2.2.2.2.2.2.1 p.2.1.2.2.2.2.2.2.2.2.2.2.2.2.2.2.1 p.2.1.2.2.2.2.2.2.2.2.2.2.2.2.2.2.2.1) (A3Int.mk p.2.1.2.2.2.2.2.2.2.2.2.2.2.2.2.2.2.2.1 p.2.1.2.2.2.2.2.2.2.2.2.2.2.2.2.2.2.2.2.1 p.2.1.2.2.2.2.2.2.2.2.2.2.2.2.2.2.2.2.2.2.1)))) (fun (x : (List Int) × Int × Int × Bool × Int × Int × Node) => ((x.1, (x.2.1, (x.2.2.1, (x.2.2.2.1, ((), (x.2.2.2.2.1, (x.2.2.2.2.2.1, ()))))))), ((x.2.2.2.2.2.2.id_, (x.2.2.2.2.2.2.term_, (x.2.2.2.2.2.2.vote, (x.2.2.2.2.2.2.base, (x.2.2.2.2.2.2.baseTerm, (x.2.2.2.2.2.2.snap, ((), (x.2.2.2.2.2.2.role, (x.2.2.2.2.2.2.commit, (x.2.2.2.2.2.2.wait, (x.2.2.2.2.2.2.votes.a0, (x.2.2.2.2.2.2.votes.a1, (x.2.2.2.2.2.2.votes.a2, (x.2.2.2.2.2.2.next.a0, (x.2.2.2.2.2.2.next.a1, (x.2.2.2.2.2.2.next.a2, (x.2.2.2.2.2.2.match_.a0, (x.2.2.2.2.2.2.match_.a1, (x.2.2.2.2.2.2.match_.a2, ()))))))))))))))))))), (x.2.2.2.2.2.2.log, ())))) (fun _ => rfl)
def co0_L3_6 : Cod (Cst TL) (Int × Int × Bool × Node) := Cod.iso (Cod.cst 4 (Cod.cons (Cod.xs (Cod.sc (Cod.im (Cod.int .i64)))) (Cod.cons (Cod.xs (Cod.sc (Cod.im (Cod.int .i64)))) (Cod.cons (Cod.xs (Cod.sc (Cod.im Cod.bool))) (Cod.cons (Cod.xs (Cod.sc (Cod.ptr 0 0))) (Cod.nil))))) (Cod.cons (Cod.var 0 28 (Cod.cons (Cod.im (Cod.int .i64)) (Cod.cons (Cod.im (Cod.int .i64)) (Cod.cons (Cod.im (Cod.int .i64)) (Cod.cons (Cod.im (Cod.int .i64)) (Cod.cons (Cod.im (Cod.int .i64)) (Cod.cons (Cod.im Cod.str) (Cod.cons (Cod.ar 3) (Cod.cons (Cod.im (Cod.int .i64)) (Cod.cons (Cod.im (Cod.int .i64)) (Cod.cons (Cod.im (Cod.int .i64)) (Cod.cons (Cod.im Cod.bool) (Cod.cons (Cod.im Cod.bool) (Cod.cons (Cod.im Cod.bool) (Cod.cons (Cod.im (Cod.int .i64)) (Cod.cons (Cod.im (Cod.int .i64)) (Cod.cons (Cod.im (Cod.int .i64)) (Cod.cons (Cod.im (Cod.int .i64)) (Cod.cons (Cod.im (Cod.int .i64)) (Cod.cons (Cod.im (Cod.int .i64)) (Cod.nil))))))))))))))))))))) (Cod.cons (Cod.arr 3 32 j_lEntry) (Cod.nil)))) (fun p => (p.1.1, p.1.2.1, p.1.2.2.1, (Node.mk p.2.1.1 p.2.1.2.1 p.2.1.2.2.1 p.2.1.2.2.2.1 p.2.1.2.2.2.2.1 p.2.1.2.2.2.2.2.1 p.2.2.1 p.2.1.2.2.2.2.2.2.2.1 p.2.1.2.2.2.2.2.2.2.2.1 p.2.1.2.2.2.2.2.2.2.2.2.1 (A3Bool.mk p.2.1.2.2.2.2.2.2.2.2.2.2.1 p.2.1.2.2.2.2.2.2.2.2.2.2.2.1 p.2.1.2.2.2.2.2.2.2.2.2.2.2.2.1) (A3Int.mk p.2.1.2.2.2.2.2.2.2.2.2.2.2.2.2.1 p.2.1.2.2.2.2.2.2.2.2.2.2.2.2.2.2.1 p.2.1.2.2.2.2.2.2.2.2.2.2.2.2.2.2.2.1) (A3Int.mk p.2.1.2.2.2.2.2.2.2.2.2.2.2.2.2.2.2.2.1 p.2.1.2.2.2.2.2.2.2.2.2.2.2.2.2.2.2.2.2.1 p.2.1.2.2.2.2.2.2.2.2.2.2.2.2.2.2.2.2.2.2.1)))) (fun (x : Int × Int × Bool × Node) => ((x.1, (x.2.1, (x.2.2.1, ((), ())))), ((x.2.2.2.id_, (x.2.2.2.term_, (x.2.2.2.vote, (x.2.2.2.base, (x.2.2.2.baseTerm, (x.2.2.2.snap, ((), (x.2.2.2.role, (x.2.2.2.commit, (x.2.2.2.wait, (x.2.2.2.votes.a0, (x.2.2.2.votes.a1, (x.2.2.2.votes.a2, (x.2.2.2.next.a0, (x.2.2.2.next.a1, (x.2.2.2.next.a2, (x.2.2.2.match_.a0, (x.2.2.2.match_.a1, (x.2.2.2.match_.a2, ()))))))))))))))))))), (x.2.2.2.log, ())))) (fun _ => rfl)
noncomputable def sl_L3_6 : SFn TL := SFn.one ch_L3_6.dec (fun p => L3_6 p.1 p.2.1 p.2.2.1 p.2.2.2.1 p.2.2.2.2.1 p.2.2.2.2.2.1 p.2.2.2.2.2.2) (.exit 0) co0_L3_6.enc
noncomputable def cs_lL3_6 : List (Nat × DFn TL) := [(11, df_within)]
noncomputable def ss_lL3_6 : List (Nat × SFn TL) := []
noncomputable def env_lL3_6 : Env := envOf tab sl sh [] [(11, .pure)]
theorem env_lL3_6_ok : EnvOK Try.prog (mkD cs_lL3_6 ss_lL3_6) env_lL3_6 := envOK_of base (all_nil) (all_cons (okD rfl ok_within) (all_nil))
theorem run_L3_6 (x : (List Int) × Int × Int × Bool × Int × Int × Node) : Out.run (mkO cs_lL3_6 ss_lL3_6) (evRound env_lL3_6 12 20 fd3.an q_L3_6 (loopIn (loopsOf fd3.body) 6) (ch_L3_6.enc x)) (back ch_L3_6 co0_L3_6 fun e => exE e (.exit 0)) = stp_L3_6 x := by kernel_rfl
theorem ok_L3_6 : LoopOK Try.prog (oneS sl_L3_6) nt3 q_L3_6 (loopIn (loopsOf fd3.body) 6) :=
  loop_one env_lL3_6_ok (loops := 12) (k := 20) (an := fd3.an) (by kernel_rfl) (FnSt.subl rfl st3.keys (all_cons (.inl (by kernel_rfl)) (all_nil))) ch_L3_6 co0_L3_6 (.exit 0) rfl stp_L3_6 _ run_L3_6 (fun x y h => ⟨_, h⟩) (fun _ => below_iff.1 rfl)
/-- escrowlaw15.ReplicaVotes -/
def replicaVotes (l1 : List Int) (i1 : Int) (i2 : Int) (b1 : Bool) : Option (Bool) :=
  ob (known) fun r0 =>
  cond ((!r0))
    (some false)
    (ob (L3_6 l1 i1 i2 b1 0 0 (Node.mk 0 0 (-1) 0 0 s_empty [] 0 0 0 (A3Bool.mk false false false) (A3Int.mk 0 0 0) (A3Int.mk 0 0 0))) fun y1 =>
    ob (last_ (Node.mk y1.2.2.2.id_ 5 y1.2.2.2.vote y1.2.2.2.base y1.2.2.2.baseTerm y1.2.2.2.snap y1.2.2.2.log y1.2.2.2.role y1.2.2.2.commit y1.2.2.2.wait y1.2.2.2.votes y1.2.2.2.next y1.2.2.2.match_)) fun r2 =>
    ob (within y1.1 10) fun r3 =>
    ob (within y1.2.1 7) fun r4 =>
    ob (take (Node.mk y1.2.2.2.id_ 5 y1.2.2.2.vote y1.2.2.2.base y1.2.2.2.baseTerm y1.2.2.2.snap y1.2.2.2.log y1.2.2.2.role y1.2.2.2.commit y1.2.2.2.wait y1.2.2.2.votes y1.2.2.2.next y1.2.2.2.match_) (Msg.mk 1 1 0 6 r3 r4 0 false [] s_empty)) fun r5 =>
    cond (((r5.2.length : Int) != 1))
      (some false)
      (ob (r5.2[0]?) fun e6 =>
      cond ((e6.kind != 2))
        (some false)
        (ob (r5.2[0]?) fun e7 =>
        cond ((!(e7.yes == (cond (decide (r4 > r2.2)) true (cond (r4 == r2.2) (decide (r3 ≥ r2.1)) false)))))
          (some false)
          (ob (r5.2[0]?) fun e8 =>
          cond ((cond (e8.term_ != 6) true (r5.1.term_ != 6)))
            (some false)
            (ob (take r5.1 (Msg.mk 1 (cond y1.2.2.1 1 2) 0 6 9 6 0 false [] s_empty)) fun r9 =>
            ob (take r5.1 (Msg.mk 1 1 0 5 9 5 0 false [] s_empty)) fun r10 =>
            cond (((r9.2.length : Int) == 1))
              (ob (r9.2[0]?) fun e11 =>
              cond (y1.2.2.1)
                (cond ((e11.yes == true))
                  (cond (((r10.2.length : Int) == 1))
                    (ob (r10.2[0]?) fun e12 =>
                    cond ((!e12.yes))
                      (ob (r10.2[0]?) fun e13 =>
                      some (e13.term_ == 6))
                      (some false))
                    (some false))
                  (some false))
                (cond ((e11.yes == (!(cond (decide (r4 > r2.2)) true (cond (r4 == r2.2) (decide (r3 ≥ r2.1)) false)))))
                  (cond (((r10.2.length : Int) == 1))
                    (ob (r10.2[0]?) fun e14 =>
                    cond ((!e14.yes))
                      (ob (r10.2[0]?) fun e15 =>
                      some (e15.term_ == 6))
                      (some false))
                    (some false))
                  (some false)))
              (some false))))))
def un_replicaVotes (p : (List Int) × Int × Int × Bool) : Option (Bool) := replicaVotes p.1 p.2.1 p.2.2.1 p.2.2.2
noncomputable def df_replicaVotes : DFn TL := DFn.of (DA.cons (DT.one di_lInt) (DA.cons (DT.one (DI.int .i64)) (DA.cons (DT.one (DI.int .i64)) (DA.one (DT.one DI.bool))))) un_replicaVotes (DA.one (DT.one DI.bool))
noncomputable def cs_replicaVotes : List (Nat × DFn TL) := [(9, df_known), (12, df_last_), (11, df_within), (13, df_take)]
noncomputable def ss_replicaVotes : List (Nat × SFn TL) := [(103006, sl_L3_6)]
noncomputable def env_replicaVotes : Env := envOf tab sl sh [(3, fd3), (10, fd10)] [(9, .pure), (12, .pure), (11, .pure), (13, .keep)]
theorem env_replicaVotes_ok : EnvOK Try.prog (mkD cs_replicaVotes ss_replicaVotes) env_replicaVotes := envOK_of base (all_cons (st3.okl rfl (all_cons (LoopOK.cast ok_L3_6 rfl) (all_nil))) (all_cons (st10.okl rfl (all_nil)) (all_nil))) (all_cons (okD rfl ok_known) (all_cons (okD rfl ok_last_) (all_cons (okD rfl ok_within) (all_cons (okD rfl ok_take) (all_nil)))))
theorem run_replicaVotes (x : (List Int) × Int × Int × Bool) : Out.run (mkO cs_replicaVotes ss_replicaVotes) (evOrc env_replicaVotes 12 20 3 ((DA.cons (DT.one di_lInt) (DA.cons (DT.one (DI.int .i64)) (DA.cons (DT.one (DI.int .i64)) (DA.one (DT.one DI.bool)))) : DA TL ((List Int) × Int × Int × Bool)).enc x)) (DA.one (DT.one DI.bool) : DA TL (Bool)).dec = un_replicaVotes x := by kernel_rfl
theorem ok_replicaVotes : DOK Try.prog 3 .pure df_replicaVotes := data_of env_replicaVotes_ok (loops := 12) (n := 20) (.inr rfl) st3.enters (DA.cons (DT.one di_lInt) (DA.cons (DT.one (DI.int .i64)) (DA.cons (DT.one (DI.int .i64)) (DA.one (DT.one DI.bool))))) un_replicaVotes (DA.one (DT.one DI.bool)) run_replicaVotes
end Go.Proofs.Ytoicjnggljeicaa
