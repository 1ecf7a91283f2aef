/- By program (gen.py): the functions in their typed form. -/
import Derived.Test.YthhfjodcgibhfaaGreatF0
import Derived.Test.YthhfjodcgibhfaaGreatLb
namespace Go.Proofs.YthhfjodcgibhfaaGreat
open Go Go.Ev
set_option maxRecDepth 1000000

/-- a loop of local.own -/
def step_L24_4 (i1 : Int) (i2 : Int) (s1 : State) (s2 : State) : Option ((Int × Int × State × State) ⊕ (State × State)) :=
  cond ((decide (i2 < i1)))
    (cond (decide (0 ≤ i2))
      (cond (decide (i2 < (s1.pending.length : Int)))
        (ob (s1.pending[i2.toNat]?) fun e0 =>
        cond (fits e0.dots.length)
          (cond (decide (0 ≤ i2))
            (cond (decide (i2 < (s1.pending.length : Int)))
              (ob (s1.pending[i2.toNat]?) fun e1 =>
              some (.inl (i1, (w64 (i2 + 1)), (State.mk s1.device s1.epoch s1.lease s1.ends s1.seq s1.sent (s1.pending.set i2.toNat e0) s1.colls s1.at_ s1.ver s1.subs s1.req s1.asked s1.cmd s1.fenced s1.now), s2)))
              (none))
            (none))
          (none))
        (none))
      (none))
    (some (.inr (s1, s2)))
def stp_L24_4 (p : Int × Int × State × State) : Option ((Int × Int × State × State) ⊕ (State × State)) := step_L24_4 p.1 p.2.1 p.2.2.1 p.2.2.2
def L24_4 (i1 : Int) (i2 : Int) (s1 : State) (s2 : State) : Option (State × State) := iterO stp_L24_4 ((i1 - i2).toNat + 2) (i1, i2, s1, s2)
def ch_L24_4 : Cod (Cst TL) (Int × Int × State × State) := Cod.iso (Cod.cst 32 (Cod.cons (Cod.xs (Cod.sc (Cod.ptr 0 0))) (Cod.cons (Cod.xs (Cod.sc (Cod.ptr 1 0))) (Cod.cons (Cod.xs (Cod.sc (Cod.ar 2))) (Cod.cons (Cod.xs (Cod.sc (Cod.im (Cod.int .i64)))) (Cod.cons (Cod.xs (Cod.sc (Cod.im (Cod.int .i64)))) (Cod.nil)))))) (Cod.cons (Cod.var 0 43 (Cod.cons (Cod.im (Cod.int .i64)) (Cod.cons (Cod.im (Cod.int .i64)) (Cod.cons (Cod.im (Cod.int .i64)) (Cod.cons (Cod.im (Cod.int .i64)) (Cod.cons (Cod.im (Cod.int .i64)) (Cod.cons (Cod.im (Cod.int .i64)) (Cod.cons (Cod.ar 3) (Cod.cons (Cod.ar 4) (Cod.cons (Cod.ar 5) (Cod.cons (Cod.im (Cod.int .i64)) (Cod.cons (Cod.im (Cod.int .i64)) (Cod.cons (Cod.im (Cod.int .i64)) (Cod.cons (Cod.ar 2) (Cod.cons (Cod.im (Cod.fz j_lDot)) (Cod.cons (Cod.im (Cod.fz j_lReg)) (Cod.cons (Cod.im (Cod.fz j_lElem)) (Cod.cons (Cod.im (Cod.fz j_lDot)) (Cod.cons (Cod.im (Cod.fz j_lSum)) (Cod.cons (Cod.im (Cod.fz j_lBind)) (Cod.cons (Cod.im (Cod.fz j_lDot)) (Cod.cons (Cod.im (Cod.fz j_lReg)) (Cod.cons (Cod.im (Cod.fz j_lElem)) (Cod.cons (Cod.im (Cod.fz j_lDot)) (Cod.cons (Cod.im (Cod.fz j_lSum)) (Cod.cons (Cod.im (Cod.fz j_lBind)) (Cod.cons (Cod.im (Cod.fz j_lDot)) (Cod.cons (Cod.im (Cod.fz j_lReg)) (Cod.cons (Cod.im (Cod.fz j_lElem)) (Cod.cons (Cod.im (Cod.fz j_lDot)) (Cod.cons (Cod.im (Cod.fz j_lSum)) (Cod.cons (Cod.im (Cod.fz j_lBind)) (Cod.cons (Cod.im (Cod.int .i64)) (Cod.cons (Cod.im (Cod.int .i64)) (Cod.cons (Cod.ar 6) (Cod.cons (Cod.im (Cod.int .i64)) (Cod.cons (Cod.im (Cod.int .i64)) (Cod.cons (Cod.im (Cod.int .i64)) (Cod.cons (Cod.im (Cod.int .i64)) (Cod.cons (Cod.im (Cod.int .i64)) (Cod.cons (Cod.im (Cod.int .i64)) (Cod.cons (Cod.im (Cod.int .i64)) (Cod.cons (Cod.im (Cod.fz j_lWant)) (Cod.cons (Cod.im (Cod.fz j_lOp)) (Cod.cons (Cod.im Cod.bool) (Cod.cons (Cod.im (Cod.int .i64)) (Cod.nil))))))))))))))))))))))))))))))))))))))))))))))) (Cod.cons (Cod.var 1 43 (Cod.cons (Cod.im (Cod.int .i64)) (Cod.cons (Cod.im (Cod.int .i64)) (Cod.cons (Cod.im (Cod.int .i64)) (Cod.cons (Cod.im (Cod.int .i64)) (Cod.cons (Cod.im (Cod.int .i64)) (Cod.cons (Cod.im (Cod.int .i64)) (Cod.cons (Cod.ar 7) (Cod.cons (Cod.ar 8) (Cod.cons (Cod.ar 9) (Cod.cons (Cod.im (Cod.int .i64)) (Cod.cons (Cod.im (Cod.int .i64)) (Cod.cons (Cod.im (Cod.int .i64)) (Cod.cons (Cod.ar 10) (Cod.cons (Cod.ar 11) (Cod.cons (Cod.ar 12) (Cod.cons (Cod.ar 13) (Cod.cons (Cod.ar 14) (Cod.cons (Cod.ar 15) (Cod.cons (Cod.ar 16) (Cod.cons (Cod.ar 17) (Cod.cons (Cod.ar 18) (Cod.cons (Cod.ar 19) (Cod.cons (Cod.ar 20) (Cod.cons (Cod.ar 21) (Cod.cons (Cod.ar 22) (Cod.cons (Cod.ar 23) (Cod.cons (Cod.ar 24) (Cod.cons (Cod.ar 25) (Cod.cons (Cod.ar 26) (Cod.cons (Cod.ar 27) (Cod.cons (Cod.ar 28) (Cod.cons (Cod.im (Cod.int .i64)) (Cod.cons (Cod.im (Cod.int .i64)) (Cod.cons (Cod.ar 29) (Cod.cons (Cod.im (Cod.int .i64)) (Cod.cons (Cod.im (Cod.int .i64)) (Cod.cons (Cod.im (Cod.int .i64)) (Cod.cons (Cod.im (Cod.int .i64)) (Cod.cons (Cod.im (Cod.int .i64)) (Cod.cons (Cod.im (Cod.int .i64)) (Cod.cons (Cod.im (Cod.int .i64)) (Cod.cons (Cod.ar 30) (Cod.cons (Cod.ar 31) (Cod.cons (Cod.im Cod.bool) (Cod.cons (Cod.im (Cod.int .i64)) (Cod.nil))))))))))))))))))))))))))))))))))))))))))))))) (Cod.cons (Cod.arr 2 50 j_lOp) (Cod.cons (Cod.arr 3 62 j_lSlice) (Cod.cons (Cod.arr 4 98 j_lRange) (Cod.cons (Cod.arr 5 3 j_lInt) (Cod.cons (Cod.arr 6 4 j_lBool) (Cod.cons (Cod.arr 7 62 j_lSlice) (Cod.cons (Cod.arr 8 98 j_lRange) (Cod.cons (Cod.arr 9 3 j_lInt) (Cod.cons (Cod.arr 10 50 j_lOp) (Cod.cons (Cod.arr 11 112 j_lDot) (Cod.cons (Cod.arr 12 103 j_lReg) (Cod.cons (Cod.arr 13 100 j_lElem) (Cod.cons (Cod.arr 14 48 j_lDot) (Cod.cons (Cod.arr 15 118 j_lSum) (Cod.cons (Cod.arr 16 121 j_lBind) (Cod.cons (Cod.arr 17 112 j_lDot) (Cod.cons (Cod.arr 18 103 j_lReg) (Cod.cons (Cod.arr 19 100 j_lElem) (Cod.cons (Cod.arr 20 48 j_lDot) (Cod.cons (Cod.arr 21 118 j_lSum) (Cod.cons (Cod.arr 22 121 j_lBind) (Cod.cons (Cod.arr 23 112 j_lDot) (Cod.cons (Cod.arr 24 103 j_lReg) (Cod.cons (Cod.arr 25 100 j_lElem) (Cod.cons (Cod.arr 26 48 j_lDot) (Cod.cons (Cod.arr 27 118 j_lSum) (Cod.cons (Cod.arr 28 121 j_lBind) (Cod.cons (Cod.arr 29 4 j_lBool) (Cod.cons (Cod.arr 30 89 j_lWant) (Cod.cons (Cod.arr 31 50 j_lOp) (Cod.nil)))))))))))))))))))))))))))))))))) (fun p => (p.1.2.2.2.1, p.1.2.2.2.2.1, (State.mk p.2.1.1 p.2.1.2.1 (Lease.mk p.2.1.2.2.1 p.2.1.2.2.2.1 p.2.1.2.2.2.2.1 p.2.1.2.2.2.2.2.1 p.2.2.2.2.1 p.2.2.2.2.2.1 p.2.2.2.2.2.2.1) p.2.1.2.2.2.2.2.2.2.2.2.1 p.2.1.2.2.2.2.2.2.2.2.2.2.1 p.2.1.2.2.2.2.2.2.2.2.2.2.2.1 p.2.2.2.1 (A3Coll.mk (Coll.mk p.2.1.2.2.2.2.2.2.2.2.2.2.2.2.2.1 p.2.1.2.2.2.2.2.2.2.2.2.2.2.2.2.2.1 p.2.1.2.2.2.2.2.2.2.2.2.2.2.2.2.2.2.1 p.2.1.2.2.2.2.2.2.2.2.2.2.2.2.2.2.2.2.1 p.2.1.2.2.2.2.2.2.2.2.2.2.2.2.2.2.2.2.2.1 p.2.1.2.2.2.2.2.2.2.2.2.2.2.2.2.2.2.2.2.2.1) (Coll.mk p.2.1.2.2.2.2.2.2.2.2.2.2.2.2.2.2.2.2.2.2.2.1 p.2.1.2.2.2.2.2.2.2.2.2.2.2.2.2.2.2.2.2.2.2.2.1 p.2.1.2.2.2.2.2.2.2.2.2.2.2.2.2.2.2.2.2.2.2.2.2.1 p.2.1.2.2.2.2.2.2.2.2.2.2.2.2.2.2.2.2.2.2.2.2.2.2.1 p.2.1.2.2.2.2.2.2.2.2.2.2.2.2.2.2.2.2.2.2.2.2.2.2.2.1 p.2.1.2.2.2.2.2.2.2.2.2.2.2.2.2.2.2.2.2.2.2.2.2.2.2.2.1) (Coll.mk p.2.1.2.2.2.2.2.2.2.2.2.2.2.2.2.2.2.2.2.2.2.2.2.2.2.2.2.1 p.2.1.2.2.2.2.2.2.2.2.2.2.2.2.2.2.2.2.2.2.2.2.2.2.2.2.2.2.1 p.2.1.2.2.2.2.2.2.2.2.2.2.2.2.2.2.2.2.2.2.2.2.2.2.2.2.2.2.2.1 p.2.1.2.2.2.2.2.2.2.2.2.2.2.2.2.2.2.2.2.2.2.2.2.2.2.2.2.2.2.2.1 p.2.1.2.2.2.2.2.2.2.2.2.2.2.2.2.2.2.2.2.2.2.2.2.2.2.2.2.2.2.2.2.1 p.2.1.2.2.2.2.2.2.2.2.2.2.2.2.2.2.2.2.2.2.2.2.2.2.2.2.2.2.2.2.2.2.1)) p.2.1.2.2.2.2.2.2.2.2.2.2.2.2.2.2.2.2.2.2.2.2.2.2.2.2.2.2.2.2.2.2.2.1 p.2.1.2.2.2.2.2.2.2.2.2.2.2.2.2.2.2.2.2.2.2.2.2.2.2.2.2.2.2.2.2.2.2.2.1 p.2.2.2.2.2.2.2.1 p.2.1.2.2.2.2.2.2.2.2.2.2.2.2.2.2.2.2.2.2.2.2.2.2.2.2.2.2.2.2.2.2.2.2.2.2.1 p.2.1.2.2.2.2.2.2.2.2.2.2.2.2.2.2.2.2.2.2.2.2.2.2.2.2.2.2.2.2.2.2.2.2.2.2.2.1 (Cmd.mk p.2.1.2.2.2.2.2.2.2.2.2.2.2.2.2.2.2.2.2.2.2.2.2.2.2.2.2.2.2.2.2.2.2.2.2.2.2.2.1 p.2.1.2.2.2.2.2.2.2.2.2.2.2.2.2.2.2.2.2.2.2.2.2.2.2.2.2.2.2.2.2.2.2.2.2.2.2.2.2.1 p.2.1.2.2.2.2.2.2.2.2.2.2.2.2.2.2.2.2.2.2.2.2.2.2.2.2.2.2.2.2.2.2.2.2.2.2.2.2.2.2.1 p.2.1.2.2.2.2.2.2.2.2.2.2.2.2.2.2.2.2.2.2.2.2.2.2.2.2.2.2.2.2.2.2.2.2.2.2.2.2.2.2.2.1 p.2.1.2.2.2.2.2.2.2.2.2.2.2.2.2.2.2.2.2.2.2.2.2.2.2.2.2.2.2.2.2.2.2.2.2.2.2.2.2.2.2.2.1 p.2.1.2.2.2.2.2.2.2.2.2.2.2.2.2.2.2.2.2.2.2.2.2.2.2.2.2.2.2.2.2.2.2.2.2.2.2.2.2.2.2.2.2.1 p.2.1.2.2.2.2.2.2.2.2.2.2.2.2.2.2.2.2.2.2.2.2.2.2.2.2.2.2.2.2.2.2.2.2.2.2.2.2.2.2.2.2.2.2.1) p.2.1.2.2.2.2.2.2.2.2.2.2.2.2.2.2.2.2.2.2.2.2.2.2.2.2.2.2.2.2.2.2.2.2.2.2.2.2.2.2.2.2.2.2.2.1 p.2.1.2.2.2.2.2.2.2.2.2.2.2.2.2.2.2.2.2.2.2.2.2.2.2.2.2.2.2.2.2.2.2.2.2.2.2.2.2.2.2.2.2.2.2.2.1), (State.mk p.2.2.1.1 p.2.2.1.2.1 (Lease.mk p.2.2.1.2.2.1 p.2.2.1.2.2.2.1 p.2.2.1.2.2.2.2.1 p.2.2.1.2.2.2.2.2.1 p.2.2.2.2.2.2.2.2.1 p.2.2.2.2.2.2.2.2.2.1 p.2.2.2.2.2.2.2.2.2.2.1) p.2.2.1.2.2.2.2.2.2.2.2.2.1 p.2.2.1.2.2.2.2.2.2.2.2.2.2.1 p.2.2.1.2.2.2.2.2.2.2.2.2.2.2.1 p.2.2.2.2.2.2.2.2.2.2.2.1 (A3Coll.mk (Coll.mk p.2.2.2.2.2.2.2.2.2.2.2.2.1 p.2.2.2.2.2.2.2.2.2.2.2.2.2.1 p.2.2.2.2.2.2.2.2.2.2.2.2.2.2.1 p.2.2.2.2.2.2.2.2.2.2.2.2.2.2.2.1 p.2.2.2.2.2.2.2.2.2.2.2.2.2.2.2.2.1 p.2.2.2.2.2.2.2.2.2.2.2.2.2.2.2.2.2.1) (Coll.mk p.2.2.2.2.2.2.2.2.2.2.2.2.2.2.2.2.2.2.1 p.2.2.2.2.2.2.2.2.2.2.2.2.2.2.2.2.2.2.2.1 p.2.2.2.2.2.2.2.2.2.2.2.2.2.2.2.2.2.2.2.2.1 p.2.2.2.2.2.2.2.2.2.2.2.2.2.2.2.2.2.2.2.2.2.1 p.2.2.2.2.2.2.2.2.2.2.2.2.2.2.2.2.2.2.2.2.2.2.1 p.2.2.2.2.2.2.2.2.2.2.2.2.2.2.2.2.2.2.2.2.2.2.2.1) (Coll.mk p.2.2.2.2.2.2.2.2.2.2.2.2.2.2.2.2.2.2.2.2.2.2.2.2.1 p.2.2.2.2.2.2.2.2.2.2.2.2.2.2.2.2.2.2.2.2.2.2.2.2.2.1 p.2.2.2.2.2.2.2.2.2.2.2.2.2.2.2.2.2.2.2.2.2.2.2.2.2.2.1 p.2.2.2.2.2.2.2.2.2.2.2.2.2.2.2.2.2.2.2.2.2.2.2.2.2.2.2.1 p.2.2.2.2.2.2.2.2.2.2.2.2.2.2.2.2.2.2.2.2.2.2.2.2.2.2.2.2.1 p.2.2.2.2.2.2.2.2.2.2.2.2.2.2.2.2.2.2.2.2.2.2.2.2.2.2.2.2.2.1)) p.2.2.1.2.2.2.2.2.2.2.2.2.2.2.2.2.2.2.2.2.2.2.2.2.2.2.2.2.2.2.2.2.2.2.1 p.2.2.1.2.2.2.2.2.2.2.2.2.2.2.2.2.2.2.2.2.2.2.2.2.2.2.2.2.2.2.2.2.2.2.2.1 p.2.2.2.2.2.2.2.2.2.2.2.2.2.2.2.2.2.2.2.2.2.2.2.2.2.2.2.2.2.2.1 p.2.2.1.2.2.2.2.2.2.2.2.2.2.2.2.2.2.2.2.2.2.2.2.2.2.2.2.2.2.2.2.2.2.2.2.2.2.1 p.2.2.1.2.2.2.2.2.2.2.2.2.2.2.2.2.2.2.2.2.2.2.2.2.2.2.2.2.2.2.2.2.2.2.2.2.2.2.1 (Cmd.mk p.2.2.1.2.2.2.2.2.2.2.2.2.2.2.2.2.2.2.2.2.2.2.2.2.2.2.2.2.2.2.2.2.2.2.2.2.2.2.2.1 p.2.2.1.2.2.2.2.2.2.2.2.2.2.2.2.2.2.2.2.2.2.2.2.2.2.2.2.2.2.2.2.2.2.2.2.2.2.2.2.2.1 p.2.2.1.2.2.2.2.2.2.2.2.2.2.2.2.2.2.2.2.2.2.2.2.2.2.2.2.2.2.2.2.2.2.2.2.2.2.2.2.2.2.1 p.2.2.1.2.2.2.2.2.2.2.2.2.2.2.2.2.2.2.2.2.2.2.2.2.2.2.2.2.2.2.2.2.2.2.2.2.2.2.2.2.2.2.1 p.2.2.1.2.2.2.2.2.2.2.2.2.2.2.2.2.2.2.2.2.2.2.2.2.2.2.2.2.2.2.2.2.2.2.2.2.2.2.2.2.2.2.2.1 p.2.2.2.2.2.2.2.2.2.2.2.2.2.2.2.2.2.2.2.2.2.2.2.2.2.2.2.2.2.2.2.1 p.2.2.2.2.2.2.2.2.2.2.2.2.2.2.2.2.2.2.2.2.2.2.2.2.2.2.2.2.2.2.2.2.1) p.2.2.1.2.2.2.2.2.2.2.2.2.2.2.2.2.2.2.2.2.2.2.2.2.2.2.2.2.2.2.2.2.2.2.2.2.2.2.2.2.2.2.2.2.2.2.1 p.2.2.1.2.2.2.2.2.2.2.2.2.2.2.2.2.2.2.2.2.2.2.2.2.2.2.2.2.2.2.2.2.2.2.2.2.2.2.2.2.2.2.2.2.2.2.2.1))) (fun (x : Int × Int × State × State) => (((), ((), ((), (x.1, (x.2.1, ()))))), ((x.2.2.1.device, (x.2.2.1.epoch, (x.2.2.1.lease.device, (x.2.2.1.lease.epoch, (x.2.2.1.lease.until_, (x.2.2.1.lease.last, ((), ((), ((), (x.2.2.1.ends, (x.2.2.1.seq, (x.2.2.1.sent, ((), (x.2.2.1.colls.a0.v, (x.2.2.1.colls.a0.regs, (x.2.2.1.colls.a0.elems, (x.2.2.1.colls.a0.gone, (x.2.2.1.colls.a0.sums, (x.2.2.1.colls.a0.binds, (x.2.2.1.colls.a1.v, (x.2.2.1.colls.a1.regs, (x.2.2.1.colls.a1.elems, (x.2.2.1.colls.a1.gone, (x.2.2.1.colls.a1.sums, (x.2.2.1.colls.a1.binds, (x.2.2.1.colls.a2.v, (x.2.2.1.colls.a2.regs, (x.2.2.1.colls.a2.elems, (x.2.2.1.colls.a2.gone, (x.2.2.1.colls.a2.sums, (x.2.2.1.colls.a2.binds, (x.2.2.1.at_, (x.2.2.1.ver, ((), (x.2.2.1.req, (x.2.2.1.asked, (x.2.2.1.cmd.kind, (x.2.2.1.cmd.device, (x.2.2.1.cmd.epoch, (x.2.2.1.cmd.req, (x.2.2.1.cmd.n, (x.2.2.1.cmd.wants, (x.2.2.1.cmd.ops, (x.2.2.1.fenced, (x.2.2.1.now, ()))))))))))))))))))))))))))))))))))))))))))))), ((x.2.2.2.device, (x.2.2.2.epoch, (x.2.2.2.lease.device, (x.2.2.2.lease.epoch, (x.2.2.2.lease.until_, (x.2.2.2.lease.last, ((), ((), ((), (x.2.2.2.ends, (x.2.2.2.seq, (x.2.2.2.sent, ((), ((), ((), ((), ((), ((), ((), ((), ((), ((), ((), ((), ((), ((), ((), ((), ((), ((), ((), (x.2.2.2.at_, (x.2.2.2.ver, ((), (x.2.2.2.req, (x.2.2.2.asked, (x.2.2.2.cmd.kind, (x.2.2.2.cmd.device, (x.2.2.2.cmd.epoch, (x.2.2.2.cmd.req, (x.2.2.2.cmd.n, ((), ((), (x.2.2.2.fenced, (x.2.2.2.now, ()))))))))))))))))))))))))))))))))))))))))))))), (x.2.2.1.pending, (x.2.2.1.lease.slices, (x.2.2.1.lease.ids, (x.2.2.1.lease.used, (x.2.2.1.subs, (x.2.2.2.lease.slices, (x.2.2.2.lease.ids, (x.2.2.2.lease.used, (x.2.2.2.pending, (x.2.2.2.colls.a0.v, (x.2.2.2.colls.a0.regs, (x.2.2.2.colls.a0.elems, (x.2.2.2.colls.a0.gone, (x.2.2.2.colls.a0.sums, (x.2.2.2.colls.a0.binds, (x.2.2.2.colls.a1.v, (x.2.2.2.colls.a1.regs, (x.2.2.2.colls.a1.elems, (x.2.2.2.colls.a1.gone, (x.2.2.2.colls.a1.sums, (x.2.2.2.colls.a1.binds, (x.2.2.2.colls.a2.v, (x.2.2.2.colls.a2.regs, (x.2.2.2.colls.a2.elems, (x.2.2.2.colls.a2.gone, (x.2.2.2.colls.a2.sums, (x.2.2.2.colls.a2.binds, (x.2.2.2.subs, (x.2.2.2.cmd.wants, (x.2.2.2.cmd.ops, ())))))))))))))))))))))))))))))))))) (fun _ => rfl)
def co0_L24_4 : Cod (Cst TL) (State × State) := Cod.iso (Cod.cst 64 (Cod.cons (Cod.xs (Cod.sc (Cod.ptr 0 0))) (Cod.cons (Cod.xs (Cod.sc (Cod.ptr 1 0))) (Cod.nil))) (Cod.cons (Cod.var 0 43 (Cod.cons (Cod.im (Cod.int .i64)) (Cod.cons (Cod.im (Cod.int .i64)) (Cod.cons (Cod.im (Cod.int .i64)) (Cod.cons (Cod.im (Cod.int .i64)) (Cod.cons (Cod.im (Cod.int .i64)) (Cod.cons (Cod.im (Cod.int .i64)) (Cod.cons (Cod.ar 3) (Cod.cons (Cod.ar 4) (Cod.cons (Cod.ar 5) (Cod.cons (Cod.im (Cod.int .i64)) (Cod.cons (Cod.im (Cod.int .i64)) (Cod.cons (Cod.im (Cod.int .i64)) (Cod.cons (Cod.ar 2) (Cod.cons (Cod.im (Cod.fz j_lDot)) (Cod.cons (Cod.im (Cod.fz j_lReg)) (Cod.cons (Cod.im (Cod.fz j_lElem)) (Cod.cons (Cod.im (Cod.fz j_lDot)) (Cod.cons (Cod.im (Cod.fz j_lSum)) (Cod.cons (Cod.im (Cod.fz j_lBind)) (Cod.cons (Cod.im (Cod.fz j_lDot)) (Cod.cons (Cod.im (Cod.fz j_lReg)) (Cod.cons (Cod.im (Cod.fz j_lElem)) (Cod.cons (Cod.im (Cod.fz j_lDot)) (Cod.cons (Cod.im (Cod.fz j_lSum)) (Cod.cons (Cod.im (Cod.fz j_lBind)) (Cod.cons (Cod.im (Cod.fz j_lDot)) (Cod.cons (Cod.im (Cod.fz j_lReg)) (Cod.cons (Cod.im (Cod.fz j_lElem)) (Cod.cons (Cod.im (Cod.fz j_lDot)) (Cod.cons (Cod.im (Cod.fz j_lSum)) (Cod.cons (Cod.im (Cod.fz j_lBind)) (Cod.cons (Cod.im (Cod.int .i64)) (Cod.cons (Cod.im (Cod.int .i64)) (Cod.cons (Cod.ar 6) (Cod.cons (Cod.im (Cod.int .i64)) (Cod.cons (Cod.im (Cod.int .i64)) (Cod.cons (Cod.im (Cod.int .i64)) (Cod.cons (Cod.im (Cod.int .i64)) (Cod.cons (Cod.im (Cod.int .i64)) (Cod.cons (Cod.im (Cod.int .i64)) (Cod.cons (Cod.im (Cod.int .i64)) (Cod.cons (Cod.im (Cod.fz j_lWant)) (Cod.cons (Cod.im (Cod.fz j_lOp)) (Cod.cons (Cod.im Cod.bool) (Cod.cons (Cod.im (Cod.int .i64)) (Cod.nil))))))))))))))))))))))))))))))))))))))))))))))) (Cod.cons (Cod.var 1 43 (Cod.cons (Cod.im (Cod.int .i64)) (Cod.cons (Cod.im (Cod.int .i64)) (Cod.cons (Cod.im (Cod.int .i64)) (Cod.cons (Cod.im (Cod.int .i64)) (Cod.cons (Cod.im (Cod.int .i64)) (Cod.cons (Cod.im (Cod.int .i64)) (Cod.cons (Cod.ar 7) (Cod.cons (Cod.ar 8) (Cod.cons (Cod.ar 9) (Cod.cons (Cod.im (Cod.int .i64)) (Cod.cons (Cod.im (Cod.int .i64)) (Cod.cons (Cod.im (Cod.int .i64)) (Cod.cons (Cod.ar 10) (Cod.cons (Cod.ar 11) (Cod.cons (Cod.ar 12) (Cod.cons (Cod.ar 13) (Cod.cons (Cod.ar 14) (Cod.cons (Cod.ar 15) (Cod.cons (Cod.ar 16) (Cod.cons (Cod.ar 17) (Cod.cons (Cod.ar 18) (Cod.cons (Cod.ar 19) (Cod.cons (Cod.ar 20) (Cod.cons (Cod.ar 21) (Cod.cons (Cod.ar 22) (Cod.cons (Cod.ar 23) (Cod.cons (Cod.ar 24) (Cod.cons (Cod.ar 25) (Cod.cons (Cod.ar 26) (Cod.cons (Cod.ar 27) (Cod.cons (Cod.ar 28) (Cod.cons (Cod.im (Cod.int .i64)) (Cod.cons (Cod.im (Cod.int .i64)) (Cod.cons (Cod.ar 29) (Cod.cons (Cod.im (Cod.int .i64)) (Cod.cons (Cod.im (Cod.int .i64)) (Cod.cons (Cod.im (Cod.int .i64)) (Cod.cons (Cod.im (Cod.int .i64)) (Cod.cons (Cod.im (Cod.int .i64)) (Cod.cons (Cod.im (Cod.int .i64)) (Cod.cons (Cod.im (Cod.int .i64)) (Cod.cons (Cod.ar 30) (Cod.cons (Cod.ar 31) (Cod.cons (Cod.im Cod.bool) (Cod.cons (Cod.im (Cod.int .i64)) (Cod.nil))))))))))))))))))))))))))))))))))))))))))))))) (Cod.cons (Cod.arr 2 50 j_lOp) (Cod.cons (Cod.arr 3 62 j_lSlice) (Cod.cons (Cod.arr 4 98 j_lRange) (Cod.cons (Cod.arr 5 3 j_lInt) (Cod.cons (Cod.arr 6 4 j_lBool) (Cod.cons (Cod.arr 7 62 j_lSlice) (Cod.cons (Cod.arr 8 98 j_lRange) (Cod.cons (Cod.arr 9 3 j_lInt) (Cod.cons (Cod.arr 10 50 j_lOp) (Cod.cons (Cod.arr 11 112 j_lDot) (Cod.cons (Cod.arr 12 103 j_lReg) (Cod.cons (Cod.arr 13 100 j_lElem) (Cod.cons (Cod.arr 14 48 j_lDot) (Cod.cons (Cod.arr 15 118 j_lSum) (Cod.cons (Cod.arr 16 121 j_lBind) (Cod.cons (Cod.arr 17 112 j_lDot) (Cod.cons (Cod.arr 18 103 j_lReg) (Cod.cons (Cod.arr 19 100 j_lElem) (Cod.cons (Cod.arr 20 48 j_lDot) (Cod.cons (Cod.arr 21 118 j_lSum) (Cod.cons (Cod.arr 22 121 j_lBind) (Cod.cons (Cod.arr 23 112 j_lDot) (Cod.cons (Cod.arr 24 103 j_lReg) (Cod.cons (Cod.arr 25 100 j_lElem) (Cod.cons (Cod.arr 26 48 j_lDot) (Cod.cons (Cod.arr 27 118 j_lSum) (Cod.cons (Cod.arr 28 121 j_lBind) (Cod.cons (Cod.arr 29 4 j_lBool) (Cod.cons (Cod.arr 30 89 j_lWant) (Cod.cons (Cod.arr 31 50 j_lOp) (Cod.nil)))))))))))))))))))))))))))))))))) (fun p => ((State.mk p.2.1.1 p.2.1.2.1 (Lease.mk p.2.1.2.2.1 p.2.1.2.2.2.1 p.2.1.2.2.2.2.1 p.2.1.2.2.2.2.2.1 p.2.2.2.2.1 p.2.2.2.2.2.1 p.2.2.2.2.2.2.1) p.2.1.2.2.2.2.2.2.2.2.2.1 p.2.1.2.2.2.2.2.2.2.2.2.2.1 p.2.1.2.2.2.2.2.2.2.2.2.2.2.1 p.2.2.2.1 (A3Coll.mk (Coll.mk p.2.1.2.2.2.2.2.2.2.2.2.2.2.2.2.1 p.2.1.2.2.2.2.2.2.2.2.2.2.2.2.2.2.1 p.2.1.2.2.2.2.2.2.2.2.2.2.2.2.2.2.2.1 p.2.1.2.2.2.2.2.2.2.2.2.2.2.2.2.2.2.2.1 p.2.1.2.2.2.2.2.2.2.2.2.2.2.2.2.2.2.2.2.1 p.2.1.2.2.2.2.2.2.2.2.2.2.2.2.2.2.2.2.2.2.1) (Coll.mk p.2.1.2.2.2.2.2.2.2.2.2.2.2.2.2.2.2.2.2.2.2.1 p.2.1.2.2.2.2.2.2.2.2.2.2.2.2.2.2.2.2.2.2.2.2.1 p.2.1.2.2.2.2.2.2.2.2.2.2.2.2.2.2.2.2.2.2.2.2.2.1 p.2.1.2.2.2.2.2.2.2.2.2.2.2.2.2.2.2.2.2.2.2.2.2.2.1 p.2.1.2.2.2.2.2.2.2.2.2.2.2.2.2.2.2.2.2.2.2.2.2.2.2.1 p.2.1.2.2.2.2.2.2.2.2.2.2.2.2.2.2.2.2.2.2.2.2.2.2.2.2.1) (Coll.mk p.2.1.2.2.2.2.2.2.2.2.2.2.2.2.2.2.2.2.2.2.2.2.2.2.2.2.2.1 p.2.1.2.2.2.2.2.2.2.2.2.2.2.2.2.2.2.2.2.2.2.2.2.2.2.2.2.2.1 p.2.1.2.2.2.2.2.2.2.2.2.2.2.2.2.2.2.2.2.2.2.2.2.2.2.2.2.2.2.1 p.2.1.2.2.2.2.2.2.2.2.2.2.2.2.2.2.2.2.2.2.2.2.2.2.2.2.2.2.2.2.1 p.2.1.2.2.2.2.2.2.2.2.2.2.2.2.2.2.2.2.2.2.2.2.2.2.2.2.2.2.2.2.2.1 p.2.1.2.2.2.2.2.2.2.2.2.2.2.2.2.2.2.2.2.2.2.2.2.2.2.2.2.2.2.2.2.2.1)) p.2.1.2.2.2.2.2.2.2.2.2.2.2.2.2.2.2.2.2.2.2.2.2.2.2.2.2.2.2.2.2.2.2.1 p.2.1.2.2.2.2.2.2.2.2.2.2.2.2.2.2.2.2.2.2.2.2.2.2.2.2.2.2.2.2.2.2.2.2.1 p.2.2.2.2.2.2.2.1 p.2.1.2.2.2.2.2.2.2.2.2.2.2.2.2.2.2.2.2.2.2.2.2.2.2.2.2.2.2.2.2.2.2.2.2.2.1 p.2.1.2.2.2.2.2.2.2.2.2.2.2.2.2.2.2.2.2.2.2.2.2.2.2.2.2.2.2.2.2.2.2.2.2.2.2.1 (Cmd.mk p.2.1.2.2.2.2.2.2.2.2.2.2.2.2.2.2.2.2.2.2.2.2.2.2.2.2.2.2.2.2.2.2.2.2.2.2.2.2.1 p.2.1.2.2.2.2.2.2.2.2.2.2.2.2.2.2.2.2.2.2.2.2.2.2.2.2.2.2.2.2.2.2.2.2.2.2.2.2.2.1 p.2.1.2.2.2.2.2.2.2.2.2.2.2.2.2.2.2.2.2.2.2.2.2.2.2.2.2.2.2.2.2.2.2.2.2.2.2.2.2.2.1 p.2.1.2.2.2.2.2.2.2.2.2.2.2.2.2.2.2.2.2.2.2.2.2.2.2.2.2.2.2.2.2.2.2.2.2.2.2.2.2.2.2.1 p.2.1.2.2.2.2.2.2.2.2.2.2.2.2.2.2.2.2.2.2.2.2.2.2.2.2.2.2.2.2.2.2.2.2.2.2.2.2.2.2.2.2.1 p.2.1.2.2.2.2.2.2.2.2.2.2.2.2.2.2.2.2.2.2.2.2.2.2.2.2.2.2.2.2.2.2.2.2.2.2.2.2.2.2.2.2.2.1 p.2.1.2.2.2.2.2.2.2.2.2.2.2.2.2.2.2.2.2.2.2.2.2.2.2.2.2.2.2.2.2.2.2.2.2.2.2.2.2.2.2.2.2.2.1) p.2.1.2.2.2.2.2.2.2.2.2.2.2.2.2.2.2.2.2.2.2.2.2.2.2.2.2.2.2.2.2.2.2.2.2.2.2.2.2.2.2.2.2.2.2.1 p.2.1.2.2.2.2.2.2.2.2.2.2.2.2.2.2.2.2.2.2.2.2.2.2.2.2.2.2.2.2.2.2.2.2.2.2.2.2.2.2.2.2.2.2.2.2.1), (State.mk p.2.2.1.1 p.2.2.1.2.1 (Lease.mk p.2.2.1.2.2.1 p.2.2.1.2.2.2.1 p.2.2.1.2.2.2.2.1 p.2.2.1.2.2.2.2.2.1 p.2.2.2.2.2.2.2.2.1 p.2.2.2.2.2.2.2.2.2.1 p.2.2.2.2.2.2.2.2.2.2.1) p.2.2.1.2.2.2.2.2.2.2.2.2.1 p.2.2.1.2.2.2.2.2.2.2.2.2.2.1 p.2.2.1.2.2.2.2.2.2.2.2.2.2.2.1 p.2.2.2.2.2.2.2.2.2.2.2.1 (A3Coll.mk (Coll.mk p.2.2.2.2.2.2.2.2.2.2.2.2.1 p.2.2.2.2.2.2.2.2.2.2.2.2.2.1 p.2.2.2.2.2.2.2.2.2.2.2.2.2.2.1 p.2.2.2.2.2.2.2.2.2.2.2.2.2.2.2.1 p.2.2.2.2.2.2.2.2.2.2.2.2.2.2.2.2.1 p.2.2.2.2.2.2.2.2.2.2.2.2.2.2.2.2.2.1) (Coll.mk p.2.2.2.2.2.2.2.2.2.2.2.2.2.2.2.2.2.2.1 p.2.2.2.2.2.2.2.2.2.2.2.2.2.2.2.2.2.2.2.1 p.2.2.2.2.2.2.2.2.2.2.2.2.2.2.2.2.2.2.2.2.1 p.2.2.2.2.2.2.2.2.2.2.2.2.2.2.2.2.2.2.2.2.2.1 p.2.2.2.2.2.2.2.2.2.2.2.2.2.2.2.2.2.2.2.2.2.2.1 p.2.2.2.2.2.2.2.2.2.2.2.2.2.2.2.2.2.2.2.2.2.2.2.1) (Coll.mk p.2.2.2.2.2.2.2.2.2.2.2.2.2.2.2.2.2.2.2.2.2.2.2.2.1 p.2.2.2.2.2.2.2.2.2.2.2.2.2.2.2.2.2.2.2.2.2.2.2.2.2.1 p.2.2.2.2.2.2.2.2.2.2.2.2.2.2.2.2.2.2.2.2.2.2.2.2.2.2.1 p.2.2.2.2.2.2.2.2.2.2.2.2.2.2.2.2.2.2.2.2.2.2.2.2.2.2.2.1 p.2.2.2.2.2.2.2.2.2.2.2.2.2.2.2.2.2.2.2.2.2.2.2.2.2.2.2.2.1 p.2.2.2.2.2.2.2.2.2.2.2.2.2.2.2.2.2.2.2.2.2.2.2.2.2.2.2.2.2.1)) p.2.2.1.2.2.2.2.2.2.2.2.2.2.2.2.2.2.2.2.2.2.2.2.2.2.2.2.2.2.2.2.2.2.2.1 p.2.2.1.2.2.2.2.2.2.2.2.2.2.2.2.2.2.2.2.2.2.2.2.2.2.2.2.2.2.2.2.2.2.2.2.1 p.2.2.2.2.2.2.2.2.2.2.2.2.2.2.2.2.2.2.2.2.2.2.2.2.2.2.2.2.2.2.1 p.2.2.1.2.2.2.2.2.2.2.2.2.2.2.2.2.2.2.2.2.2.2.2.2.2.2.2.2.2.2.2.2.2.2.2.2.2.1 p.2.2.1.2.2.2.2.2.2.2.2.2.2.2.2.2.2.2.2.2.2.2.2.2.2.2.2.2.2.2.2.2.2.2.2.2.2.2.1 (Cmd.mk p.2.2.1.2.2.2.2.2.2.2.2.2.2.2.2.2.2.2.2.2.2.2.2.2.2.2.2.2.2.2.2.2.2.2.2.2.2.2.2.1 p.2.2.1.2.2.2.2.2.2.2.2.2.2.2.2.2.2.2.2.2.2.2.2.2.2.2.2.2.2.2.2.2.2.2.2.2.2.2.2.2.1 p.2.2.1.2.2.2.2.2.2.2.2.2.2.2.2.2.2.2.2.2.2.2.2.2.2.2.2.2.2.2.2.2.2.2.2.2.2.2.2.2.2.1 p.2.2.1.2.2.2.2.2.2.2.2.2.2.2.2.2.2.2.2.2.2.2.2.2.2.2.2.2.2.2.2.2.2.2.2.2.2.2.2.2.2.2.1 p.2.2.1.2.2.2.2.2.2.2.2.2.2.2.2.2.2.2.2.2.2.2.2.2.2.2.2.2.2.2.2.2.2.2.2.2.2.2.2.2.2.2.2.1 p.2.2.2.2.2.2.2.2.2.2.2.2.2.2.2.2.2.2.2.2.2.2.2.2.2.2.2.2.2.2.2.1 p.2.2.2.2.2.2.2.2.2.2.2.2.2.2.2.2.2.2.2.2.2.2.2.2.2.2.2.2.2.2.2.2.1) p.2.2.1.2.2.2.2.2.2.2.2.2.2.2.2.2.2.2.2.2.2.2.2.2.2.2.2.2.2.2.2.2.2.2.2.2.2.2.2.2.2.2.2.2.2.2.1 p.2.2.1.2.2.2.2.2.2.2.2.2.2.2.2.2.2.2.2.2.2.2.2.2.2.2.2.2.2.2.2.2.2.2.2.2.2.2.2.2.2.2.2.2.2.2.2.1))) (fun (x : State × State) => (((), ((), ())), ((x.1.device, (x.1.epoch, (x.1.lease.device, (x.1.lease.epoch, (x.1.lease.until_, (x.1.lease.last, ((), ((), ((), (x.1.ends, (x.1.seq, (x.1.sent, ((), (x.1.colls.a0.v, (x.1.colls.a0.regs, (x.1.colls.a0.elems, (x.1.colls.a0.gone, (x.1.colls.a0.sums, (x.1.colls.a0.binds, (x.1.colls.a1.v, (x.1.colls.a1.regs, (x.1.colls.a1.elems, (x.1.colls.a1.gone, (x.1.colls.a1.sums, (x.1.colls.a1.binds, (x.1.colls.a2.v, (x.1.colls.a2.regs, (x.1.colls.a2.elems, (x.1.colls.a2.gone, (x.1.colls.a2.sums, (x.1.colls.a2.binds, (x.1.at_, (x.1.ver, ((), (x.1.req, (x.1.asked, (x.1.cmd.kind, (x.1.cmd.device, (x.1.cmd.epoch, (x.1.cmd.req, (x.1.cmd.n, (x.1.cmd.wants, (x.1.cmd.ops, (x.1.fenced, (x.1.now, ()))))))))))))))))))))))))))))))))))))))))))))), ((x.2.device, (x.2.epoch, (x.2.lease.device, (x.2.lease.epoch, (x.2.lease.until_, (x.2.lease.last, ((), ((), ((), (x.2.ends, (x.2.seq, (x.2.sent, ((), ((), ((), ((), ((), ((), ((), ((), ((), ((), ((), ((), ((), ((), ((), ((), ((), ((), ((), (x.2.at_, (x.2.ver, ((), (x.2.req, (x.2.asked, (x.2.cmd.kind, (x.2.cmd.device, (x.2.cmd.epoch, (x.2.cmd.req, (x.2.cmd.n, ((), ((), (x.2.fenced, (x.2.now, ()))))))))))))))))))))))))))))))))))))))))))))), (x.1.pending, (x.1.lease.slices, (x.1.lease.ids, (x.1.lease.used, (x.1.subs, (x.2.lease.slices, (x.2.lease.ids, (x.2.lease.used, (x.2.pending, (x.2.colls.a0.v, (x.2.colls.a0.regs, (x.2.colls.a0.elems, (x.2.colls.a0.gone, (x.2.colls.a0.sums, (x.2.colls.a0.binds, (x.2.colls.a1.v, (x.2.colls.a1.regs, (x.2.colls.a1.elems, (x.2.colls.a1.gone, (x.2.colls.a1.sums, (x.2.colls.a1.binds, (x.2.colls.a2.v, (x.2.colls.a2.regs, (x.2.colls.a2.elems, (x.2.colls.a2.gone, (x.2.colls.a2.sums, (x.2.colls.a2.binds, (x.2.subs, (x.2.cmd.wants, (x.2.cmd.ops, ())))))))))))))))))))))))))))))))))) (fun _ => rfl)
noncomputable def sl_L24_4 : SFn TL := SFn.one ch_L24_4.dec (fun p => L24_4 p.1 p.2.1 p.2.2.1 p.2.2.2) (.exit 0) co0_L24_4.enc
noncomputable def cs_lL24_4 : List (Nat × DFn TL) := []
noncomputable def ss_lL24_4 : List (Nat × SFn TL) := []
noncomputable def env_lL24_4 : Env := envOf tab sl sh [(48, fd48)] [(41, (.cln 48))]
theorem env_lL24_4_ok : EnvOK Tryz.prog (mkD cs_lL24_4 ss_lL24_4) env_lL24_4 := envOK_of base (all_cons (st48.okl rfl (all_nil)) (all_nil)) (all_cons (okCln okI_41) (all_nil))
theorem run_L24_4 (x : Int × Int × State × State) : Out.run (mkO cs_lL24_4 ss_lL24_4) (evRound env_lL24_4 12 20 fd24.an q_L24_4 (loopIn (loopsOf fd24.body) 4) (ch_L24_4.enc x)) (back ch_L24_4 co0_L24_4 fun e => exE e (.exit 0)) = stp_L24_4 x := by kernel_rfl
theorem ok_L24_4 : LoopOK Tryz.prog (oneS sl_L24_4) nt24 q_L24_4 (loopIn (loopsOf fd24.body) 4) :=
  loop_one env_lL24_4_ok (loops := 12) (k := 20) (an := fd24.an) (by kernel_rfl) (FnSt.subl rfl st24.keys (all_cons (.inl (by kernel_rfl)) (all_nil))) ch_L24_4 co0_L24_4 (.exit 0) rfl stp_L24_4 _ run_L24_4 (fun x y h => ⟨_, h⟩) (fun _ => below_iff.1 rfl)
/-- local.own -/
def localOwn (s1 : State) : Option (State) :=
  ob (leaseOwn s1.lease) fun y0 =>
  cond (fits s1.subs.length)
    (cond (fits s1.pending.length)
      (ob (L24_4 (s1.pending.length : Int) 0 (State.mk s1.device s1.epoch y0 s1.ends s1.seq s1.sent s1.pending s1.colls s1.at_ s1.ver s1.subs s1.req s1.asked s1.cmd s1.fenced s1.now) (State.mk 0 0 (Lease.mk 0 0 0 0 [] [] []) 0 0 0 [] (A3Coll.mk (Coll.mk [] [] [] [] [] []) (Coll.mk [] [] [] [] [] []) (Coll.mk [] [] [] [] [] [])) 0 0 [] 0 0 (Cmd.mk 0 0 0 0 0 [] []) false 0)) fun y1 =>
      ob (collection y1.1.colls.a0) fun y2 =>
      ob (collection y1.1.colls.a1) fun y3 =>
      ob (collection y1.1.colls.a2) fun y4 =>
      cond (fits y1.1.cmd.wants.length)
        (some (State.mk y1.1.device y1.1.epoch y1.1.lease y1.1.ends y1.1.seq y1.1.sent y1.1.pending (A3Coll.mk y2 y3 y4) y1.1.at_ y1.1.ver y1.1.subs y1.1.req y1.1.asked (Cmd.mk y1.1.cmd.kind y1.1.cmd.device y1.1.cmd.epoch y1.1.cmd.req y1.1.cmd.n y1.1.cmd.wants []) y1.1.fenced y1.1.now))
        (none))
      (none))
    (none)
def ch_localOwn : Cod (Cst TL) (State) := Cod.iso (Cod.cst 0 (Cod.cons (Cod.xs (Cod.sa (Cod.cons (Cod.im (Cod.int .i64)) (Cod.cons (Cod.im (Cod.int .i64)) (Cod.cons (Cod.im (Cod.int .i64)) (Cod.cons (Cod.im (Cod.int .i64)) (Cod.cons (Cod.im (Cod.int .i64)) (Cod.cons (Cod.im (Cod.int .i64)) (Cod.cons (Cod.im (Cod.fz j_lSlice)) (Cod.cons (Cod.im (Cod.fz j_lRange)) (Cod.cons (Cod.im (Cod.fz j_lInt)) (Cod.cons (Cod.im (Cod.int .i64)) (Cod.cons (Cod.im (Cod.int .i64)) (Cod.cons (Cod.im (Cod.int .i64)) (Cod.cons (Cod.im (Cod.fz j_lOp)) (Cod.cons (Cod.im (Cod.fz j_lDot)) (Cod.cons (Cod.im (Cod.fz j_lReg)) (Cod.cons (Cod.im (Cod.fz j_lElem)) (Cod.cons (Cod.im (Cod.fz j_lDot)) (Cod.cons (Cod.im (Cod.fz j_lSum)) (Cod.cons (Cod.im (Cod.fz j_lBind)) (Cod.cons (Cod.im (Cod.fz j_lDot)) (Cod.cons (Cod.im (Cod.fz j_lReg)) (Cod.cons (Cod.im (Cod.fz j_lElem)) (Cod.cons (Cod.im (Cod.fz j_lDot)) (Cod.cons (Cod.im (Cod.fz j_lSum)) (Cod.cons (Cod.im (Cod.fz j_lBind)) (Cod.cons (Cod.im (Cod.fz j_lDot)) (Cod.cons (Cod.im (Cod.fz j_lReg)) (Cod.cons (Cod.im (Cod.fz j_lElem)) (Cod.cons (Cod.im (Cod.fz j_lDot)) (Cod.cons (Cod.im (Cod.fz j_lSum)) (Cod.cons (Cod.im (Cod.fz j_lBind)) (Cod.cons (Cod.im (Cod.int .i64)) (Cod.cons (Cod.im (Cod.int .i64)) (Cod.cons (Cod.im (Cod.fz j_lBool)) (Cod.cons (Cod.im (Cod.int .i64)) (Cod.cons (Cod.im (Cod.int .i64)) (Cod.cons (Cod.im (Cod.int .i64)) (Cod.cons (Cod.im (Cod.int .i64)) (Cod.cons (Cod.im (Cod.int .i64)) (Cod.cons (Cod.im (Cod.int .i64)) (Cod.cons (Cod.im (Cod.int .i64)) (Cod.cons (Cod.im (Cod.fz j_lWant)) (Cod.cons (Cod.im (Cod.fz j_lOp)) (Cod.cons (Cod.im Cod.bool) (Cod.cons (Cod.im (Cod.int .i64)) (Cod.nil)))))))))))))))))))))))))))))))))))))))))))))))) (Cod.nil)) (Cod.nil)) (fun p => (State.mk p.1.1.1 p.1.1.2.1 (Lease.mk p.1.1.2.2.1 p.1.1.2.2.2.1 p.1.1.2.2.2.2.1 p.1.1.2.2.2.2.2.1 p.1.1.2.2.2.2.2.2.1 p.1.1.2.2.2.2.2.2.2.1 p.1.1.2.2.2.2.2.2.2.2.1) p.1.1.2.2.2.2.2.2.2.2.2.1 p.1.1.2.2.2.2.2.2.2.2.2.2.1 p.1.1.2.2.2.2.2.2.2.2.2.2.2.1 p.1.1.2.2.2.2.2.2.2.2.2.2.2.2.1 (A3Coll.mk (Coll.mk p.1.1.2.2.2.2.2.2.2.2.2.2.2.2.2.1 p.1.1.2.2.2.2.2.2.2.2.2.2.2.2.2.2.1 p.1.1.2.2.2.2.2.2.2.2.2.2.2.2.2.2.2.1 p.1.1.2.2.2.2.2.2.2.2.2.2.2.2.2.2.2.2.1 p.1.1.2.2.2.2.2.2.2.2.2.2.2.2.2.2.2.2.2.1 p.1.1.2.2.2.2.2.2.2.2.2.2.2.2.2.2.2.2.2.2.1) (Coll.mk p.1.1.2.2.2.2.2.2.2.2.2.2.2.2.2.2.2.2.2.2.2.1 p.1.1.2.2.2.2.2.2.2.2.2.2.2.2.2.2.2.2.2.2.2.2.1 p.1.1.2.2.2.2.2.2.2.2.2.2.2.2.2.2.2.2.2.2.2.2.2.1 p.1.1.2.2.2.2.2.2.2.2.2.2.2.2.2.2.2.2.2.2.2.2.2.2.1 p.1.1.2.2.2.2.2.2.2.2.2.2.2.2.2.2.2.2.2.2.2.2.2.2.2.1 p.1.1.2.2.2.2.2.2.2.2.2.2.2.2.2.2.2.2.2.2.2.2.2.2.2.2.1) (Coll.mk p.1.1.2.2.2.2.2.2.2.2.2.2.2.2.2.2.2.2.2.2.2.2.2.2.2.2.2.1 p.1.1.2.2.2.2.2.2.2.2.2.2.2.2.2.2.2.2.2.2.2.2.2.2.2.2.2.2.1 p.1.1.2.2.2.2.2.2.2.2.2.2.2.2.2.2.2.2.2.2.2.2.2.2.2.2.2.2.2.1 p.1.1.2.2.2.2.2.2.2.2.2.2.2.2.2.2.2.2.2.2.2.2.2.2.2.2.2.2.2.2.1 p.1.1.2.2.2.2.2.2.2.2.2.2.2.2.2.2.2.2.2.2.2.2.2.2.2.2.2.2.2.2.2.1 p.1.1.2.2.2.2.2.2.2.2.2.2.2.2.2.2.2.2.2.2.2.2.2.2.2.2.2.2.2.2.2.2.1)) p.1.1.2.2.2.2.2.2.2.2.2.2.2.2.2.2.2.2.2.2.2.2.2.2.2.2.2.2.2.2.2.2.2.1 p.1.1.2.2.2.2.2.2.2.2.2.2.2.2.2.2.2.2.2.2.2.2.2.2.2.2.2.2.2.2.2.2.2.2.1 p.1.1.2.2.2.2.2.2.2.2.2.2.2.2.2.2.2.2.2.2.2.2.2.2.2.2.2.2.2.2.2.2.2.2.2.1 p.1.1.2.2.2.2.2.2.2.2.2.2.2.2.2.2.2.2.2.2.2.2.2.2.2.2.2.2.2.2.2.2.2.2.2.2.1 p.1.1.2.2.2.2.2.2.2.2.2.2.2.2.2.2.2.2.2.2.2.2.2.2.2.2.2.2.2.2.2.2.2.2.2.2.2.1 (Cmd.mk p.1.1.2.2.2.2.2.2.2.2.2.2.2.2.2.2.2.2.2.2.2.2.2.2.2.2.2.2.2.2.2.2.2.2.2.2.2.2.1 p.1.1.2.2.2.2.2.2.2.2.2.2.2.2.2.2.2.2.2.2.2.2.2.2.2.2.2.2.2.2.2.2.2.2.2.2.2.2.2.1 p.1.1.2.2.2.2.2.2.2.2.2.2.2.2.2.2.2.2.2.2.2.2.2.2.2.2.2.2.2.2.2.2.2.2.2.2.2.2.2.2.1 p.1.1.2.2.2.2.2.2.2.2.2.2.2.2.2.2.2.2.2.2.2.2.2.2.2.2.2.2.2.2.2.2.2.2.2.2.2.2.2.2.2.1 p.1.1.2.2.2.2.2.2.2.2.2.2.2.2.2.2.2.2.2.2.2.2.2.2.2.2.2.2.2.2.2.2.2.2.2.2.2.2.2.2.2.2.1 p.1.1.2.2.2.2.2.2.2.2.2.2.2.2.2.2.2.2.2.2.2.2.2.2.2.2.2.2.2.2.2.2.2.2.2.2.2.2.2.2.2.2.2.1 p.1.1.2.2.2.2.2.2.2.2.2.2.2.2.2.2.2.2.2.2.2.2.2.2.2.2.2.2.2.2.2.2.2.2.2.2.2.2.2.2.2.2.2.2.1) p.1.1.2.2.2.2.2.2.2.2.2.2.2.2.2.2.2.2.2.2.2.2.2.2.2.2.2.2.2.2.2.2.2.2.2.2.2.2.2.2.2.2.2.2.2.1 p.1.1.2.2.2.2.2.2.2.2.2.2.2.2.2.2.2.2.2.2.2.2.2.2.2.2.2.2.2.2.2.2.2.2.2.2.2.2.2.2.2.2.2.2.2.2.1)) (fun (x : State) => (((x.device, (x.epoch, (x.lease.device, (x.lease.epoch, (x.lease.until_, (x.lease.last, (x.lease.slices, (x.lease.ids, (x.lease.used, (x.ends, (x.seq, (x.sent, (x.pending, (x.colls.a0.v, (x.colls.a0.regs, (x.colls.a0.elems, (x.colls.a0.gone, (x.colls.a0.sums, (x.colls.a0.binds, (x.colls.a1.v, (x.colls.a1.regs, (x.colls.a1.elems, (x.colls.a1.gone, (x.colls.a1.sums, (x.colls.a1.binds, (x.colls.a2.v, (x.colls.a2.regs, (x.colls.a2.elems, (x.colls.a2.gone, (x.colls.a2.sums, (x.colls.a2.binds, (x.at_, (x.ver, (x.subs, (x.req, (x.asked, (x.cmd.kind, (x.cmd.device, (x.cmd.epoch, (x.cmd.req, (x.cmd.n, (x.cmd.wants, (x.cmd.ops, (x.fenced, (x.now, ()))))))))))))))))))))))))))))))))))))))))))))), ()), ())) (fun _ => rfl)
def co_localOwn : Cod (Cst TL) (State) := Cod.iso (Cod.cst 24 (Cod.cons (Cod.xs (Cod.sa (Cod.cons (Cod.im (Cod.int .i64)) (Cod.cons (Cod.im (Cod.int .i64)) (Cod.cons (Cod.im (Cod.int .i64)) (Cod.cons (Cod.im (Cod.int .i64)) (Cod.cons (Cod.im (Cod.int .i64)) (Cod.cons (Cod.im (Cod.int .i64)) (Cod.cons (Cod.ar 0) (Cod.cons (Cod.ar 1) (Cod.cons (Cod.ar 2) (Cod.cons (Cod.im (Cod.int .i64)) (Cod.cons (Cod.im (Cod.int .i64)) (Cod.cons (Cod.im (Cod.int .i64)) (Cod.cons (Cod.ar 3) (Cod.cons (Cod.ar 4) (Cod.cons (Cod.ar 5) (Cod.cons (Cod.ar 6) (Cod.cons (Cod.ar 7) (Cod.cons (Cod.ar 8) (Cod.cons (Cod.ar 9) (Cod.cons (Cod.ar 10) (Cod.cons (Cod.ar 11) (Cod.cons (Cod.ar 12) (Cod.cons (Cod.ar 13) (Cod.cons (Cod.ar 14) (Cod.cons (Cod.ar 15) (Cod.cons (Cod.ar 16) (Cod.cons (Cod.ar 17) (Cod.cons (Cod.ar 18) (Cod.cons (Cod.ar 19) (Cod.cons (Cod.ar 20) (Cod.cons (Cod.ar 21) (Cod.cons (Cod.im (Cod.int .i64)) (Cod.cons (Cod.im (Cod.int .i64)) (Cod.cons (Cod.ar 22) (Cod.cons (Cod.im (Cod.int .i64)) (Cod.cons (Cod.im (Cod.int .i64)) (Cod.cons (Cod.im (Cod.int .i64)) (Cod.cons (Cod.im (Cod.int .i64)) (Cod.cons (Cod.im (Cod.int .i64)) (Cod.cons (Cod.im (Cod.int .i64)) (Cod.cons (Cod.im (Cod.int .i64)) (Cod.cons (Cod.ar 23) (Cod.cons (Cod.im (Cod.fz j_lOp)) (Cod.cons (Cod.im Cod.bool) (Cod.cons (Cod.im (Cod.int .i64)) (Cod.nil)))))))))))))))))))))))))))))))))))))))))))))))) (Cod.nil)) (Cod.cons (Cod.arr 0 62 j_lSlice) (Cod.cons (Cod.arr 1 98 j_lRange) (Cod.cons (Cod.arr 2 3 j_lInt) (Cod.cons (Cod.arr 3 50 j_lOp) (Cod.cons (Cod.arr 4 112 j_lDot) (Cod.cons (Cod.arr 5 103 j_lReg) (Cod.cons (Cod.arr 6 100 j_lElem) (Cod.cons (Cod.arr 7 48 j_lDot) (Cod.cons (Cod.arr 8 118 j_lSum) (Cod.cons (Cod.arr 9 121 j_lBind) (Cod.cons (Cod.arr 10 112 j_lDot) (Cod.cons (Cod.arr 11 103 j_lReg) (Cod.cons (Cod.arr 12 100 j_lElem) (Cod.cons (Cod.arr 13 48 j_lDot) (Cod.cons (Cod.arr 14 118 j_lSum) (Cod.cons (Cod.arr 15 121 j_lBind) (Cod.cons (Cod.arr 16 112 j_lDot) (Cod.cons (Cod.arr 17 103 j_lReg) (Cod.cons (Cod.arr 18 100 j_lElem) (Cod.cons (Cod.arr 19 48 j_lDot) (Cod.cons (Cod.arr 20 118 j_lSum) (Cod.cons (Cod.arr 21 121 j_lBind) (Cod.cons (Cod.arr 22 4 j_lBool) (Cod.cons (Cod.arr 23 89 j_lWant) (Cod.nil)))))))))))))))))))))))))) (fun p => (State.mk p.1.1.1 p.1.1.2.1 (Lease.mk p.1.1.2.2.1 p.1.1.2.2.2.1 p.1.1.2.2.2.2.1 p.1.1.2.2.2.2.2.1 p.2.1 p.2.2.1 p.2.2.2.1) p.1.1.2.2.2.2.2.2.2.2.2.1 p.1.1.2.2.2.2.2.2.2.2.2.2.1 p.1.1.2.2.2.2.2.2.2.2.2.2.2.1 p.2.2.2.2.1 (A3Coll.mk (Coll.mk p.2.2.2.2.2.1 p.2.2.2.2.2.2.1 p.2.2.2.2.2.2.2.1 p.2.2.2.2.2.2.2.2.1 p.2.2.2.2.2.2.2.2.2.1 p.2.2.2.2.2.2.2.2.2.2.1) (Coll.mk p.2.2.2.2.2.2.2.2.2.2.2.1 p.2.2.2.2.2.2.2.2.2.2.2.2.1 p.2.2.2.2.2.2.2.2.2.2.2.2.2.1 p.2.2.2.2.2.2.2.2.2.2.2.2.2.2.1 p.2.2.2.2.2.2.2.2.2.2.2.2.2.2.2.1 p.2.2.2.2.2.2.2.2.2.2.2.2.2.2.2.2.1) (Coll.mk p.2.2.2.2.2.2.2.2.2.2.2.2.2.2.2.2.2.1 p.2.2.2.2.2.2.2.2.2.2.2.2.2.2.2.2.2.2.1 p.2.2.2.2.2.2.2.2.2.2.2.2.2.2.2.2.2.2.2.1 p.2.2.2.2.2.2.2.2.2.2.2.2.2.2.2.2.2.2.2.2.1 p.2.2.2.2.2.2.2.2.2.2.2.2.2.2.2.2.2.2.2.2.2.1 p.2.2.2.2.2.2.2.2.2.2.2.2.2.2.2.2.2.2.2.2.2.2.1)) p.1.1.2.2.2.2.2.2.2.2.2.2.2.2.2.2.2.2.2.2.2.2.2.2.2.2.2.2.2.2.2.2.2.1 p.1.1.2.2.2.2.2.2.2.2.2.2.2.2.2.2.2.2.2.2.2.2.2.2.2.2.2.2.2.2.2.2.2.2.1 p.2.2.2.2.2.2.2.2.2.2.2.2.2.2.2.2.2.2.2.2.2.2.2.1 p.1.1.2.2.2.2.2.2.2.2.2.2.2.2.2.2.2.2.2.2.2.2.2.2.2.2.2.2.2.2.2.2.2.2.2.2.1 p.1.1.2.2.2.2.2.2.2.2.2.2.2.2.2.2.2.2.2.2.2.2.2.2.2.2.2.2.2.2.2.2.2.2.2.2.2.1 (Cmd.mk p.1.1.2.2.2.2.2.2.2.2.2.2.2.2.2.2.2.2.2.2.2.2.2.2.2.2.2.2.2.2.2.2.2.2.2.2.2.2.1 p.1.1.2.2.2.2.2.2.2.2.2.2.2.2.2.2.2.2.2.2.2.2.2.2.2.2.2.2.2.2.2.2.2.2.2.2.2.2.2.1 p.1.1.2.2.2.2.2.2.2.2.2.2.2.2.2.2.2.2.2.2.2.2.2.2.2.2.2.2.2.2.2.2.2.2.2.2.2.2.2.2.1 p.1.1.2.2.2.2.2.2.2.2.2.2.2.2.2.2.2.2.2.2.2.2.2.2.2.2.2.2.2.2.2.2.2.2.2.2.2.2.2.2.2.1 p.1.1.2.2.2.2.2.2.2.2.2.2.2.2.2.2.2.2.2.2.2.2.2.2.2.2.2.2.2.2.2.2.2.2.2.2.2.2.2.2.2.2.1 p.2.2.2.2.2.2.2.2.2.2.2.2.2.2.2.2.2.2.2.2.2.2.2.2.1 p.1.1.2.2.2.2.2.2.2.2.2.2.2.2.2.2.2.2.2.2.2.2.2.2.2.2.2.2.2.2.2.2.2.2.2.2.2.2.2.2.2.2.2.2.1) p.1.1.2.2.2.2.2.2.2.2.2.2.2.2.2.2.2.2.2.2.2.2.2.2.2.2.2.2.2.2.2.2.2.2.2.2.2.2.2.2.2.2.2.2.2.1 p.1.1.2.2.2.2.2.2.2.2.2.2.2.2.2.2.2.2.2.2.2.2.2.2.2.2.2.2.2.2.2.2.2.2.2.2.2.2.2.2.2.2.2.2.2.2.1)) (fun (x : State) => (((x.device, (x.epoch, (x.lease.device, (x.lease.epoch, (x.lease.until_, (x.lease.last, ((), ((), ((), (x.ends, (x.seq, (x.sent, ((), ((), ((), ((), ((), ((), ((), ((), ((), ((), ((), ((), ((), ((), ((), ((), ((), ((), ((), (x.at_, (x.ver, ((), (x.req, (x.asked, (x.cmd.kind, (x.cmd.device, (x.cmd.epoch, (x.cmd.req, (x.cmd.n, ((), (x.cmd.ops, (x.fenced, (x.now, ()))))))))))))))))))))))))))))))))))))))))))))), ()), (x.lease.slices, (x.lease.ids, (x.lease.used, (x.pending, (x.colls.a0.v, (x.colls.a0.regs, (x.colls.a0.elems, (x.colls.a0.gone, (x.colls.a0.sums, (x.colls.a0.binds, (x.colls.a1.v, (x.colls.a1.regs, (x.colls.a1.elems, (x.colls.a1.gone, (x.colls.a1.sums, (x.colls.a1.binds, (x.colls.a2.v, (x.colls.a2.regs, (x.colls.a2.elems, (x.colls.a2.gone, (x.colls.a2.sums, (x.colls.a2.binds, (x.subs, (x.cmd.wants, ())))))))))))))))))))))))))) (fun _ => rfl)
def un_localOwn (p : State) : Option (State) := localOwn p
noncomputable def sf_localOwn : SFn TL := SFn.one ch_localOwn.dec un_localOwn .normal co_localOwn.enc
noncomputable def cs_localOwn : List (Nat × DFn TL) := []
noncomputable def ss_localOwn : List (Nat × SFn TL) := [(46, sf_leaseOwn), (44, sf_collection), (124004, sl_L24_4)]
noncomputable def env_localOwn : Env := envOf tab sl sh [(24, fd24)] [(46, .sum), (23, (.cln 4)), (47, (.cln 50)), (44, .sum), (37, (.cln 89))]
theorem env_localOwn_ok : EnvOK Tryz.prog (mkD cs_localOwn ss_localOwn) env_localOwn := envOK_of base (all_cons (st24.okl rfl (all_cons (LoopOK.cast ok_L24_4 rfl) (all_nil))) (all_nil)) (all_cons (okS rfl ok_leaseOwn) (all_cons (okCln okI_23) (all_cons (okCln okI_47) (all_cons (okS rfl ok_collection) (all_cons (okCln okI_37) (all_nil))))))
theorem run_localOwn (x : State) : Out.run (mkO cs_localOwn ss_localOwn) (evSum env_localOwn 12 20 24 (ch_localOwn.enc x)) (back1 co_localOwn) = un_localOwn x := by kernel_rfl
theorem ok_localOwn : SOK Tryz.prog 24 sf_localOwn := sum_one env_localOwn_ok (loops := 12) (n := 20) st24.enters ch_localOwn co_localOwn un_localOwn run_localOwn
/-- a loop of api.Want] -/
def step_L103_2 (l1 : List Want) (i1 : Int) (i2 : Int) (i3 : Int) : Option (((List Want) × Int × Int × Int) ⊕ (((Int) ⊕ (Int)))) :=
  cond ((decide (i3 < i2)))
    (cond (decide (0 ≤ i3))
      (ob (l1[i3.toNat]?) fun e0 =>
      ob (localText e0.key) fun r1 =>
      cond ((!r1))
        (some (.inr (.inr i3)))
        (some (.inl (l1, i1, i2, (w64 (i3 + 1))))))
      (none))
    (some (.inr (.inl i1)))
def stp_L103_2 (p : (List Want) × Int × Int × Int) : Option (((List Want) × Int × Int × Int) ⊕ (((Int) ⊕ (Int)))) := step_L103_2 p.1 p.2.1 p.2.2.1 p.2.2.2
def L103_2 (l1 : List Want) (i1 : Int) (i2 : Int) (i3 : Int) : Option (((Int) ⊕ (Int))) := iterO stp_L103_2 ((i2 - i3).toNat + 2) (l1, i1, i2, i3)
/-- local.Begin (fails: [27]) -/
def begin_ (s1 : State) (c1 : Cmd) : Option (State × Int) :=
  cond ((cond (c1.kind != 1) (cond (c1.kind != 2) (c1.kind != 4) false) false))
    (ob (localOwn s1) fun y6 =>
    some (y6, 3))
    (cond ((s1.cmd.kind != 0))
      (ob (localOwn s1) fun y7 =>
      some (y7, 7))
      (cond ((decide (s1.req ≥ 1073741824)))
        (ob (localOwn s1) fun y8 =>
        some (y8, 11))
        (cond ((cond (c1.kind == 1) (cond (s1.epoch != 0) (!s1.fenced) false) false))
          (ob (localOwn s1) fun y9 =>
          some (y9, 7))
          (cond ((c1.kind == 1))
            (ob (localOwn s1) fun y23 =>
            cond ((c1.kind == 2))
              (cond (fits c1.wants.length)
                (ob (localOwn (State.mk y23.device y23.epoch y23.lease y23.ends y23.seq y23.sent y23.pending y23.colls y23.at_ y23.ver y23.subs (w64 (y23.req + 1)) y23.now (Cmd.mk c1.kind y23.device y23.epoch (w64 (y23.req + 1)) c1.n c1.wants []) y23.fenced y23.now)) fun y24 =>
                some (y24, 0))
                (none))
              (cond ((c1.kind == 4))
                (ob (localOwn (State.mk y23.device y23.epoch (Lease.mk y23.lease.device y23.lease.epoch y23.lease.until_ y23.seq y23.lease.slices y23.lease.ids y23.lease.used) y23.ends y23.seq y23.sent y23.pending y23.colls y23.at_ y23.ver y23.subs (w64 (y23.req + 1)) y23.now (Cmd.mk c1.kind y23.device y23.epoch (w64 (y23.req + 1)) y23.seq [] []) y23.fenced y23.now)) fun y25 =>
                some (y25, 0))
                (ob (localOwn (State.mk y23.device y23.epoch y23.lease y23.ends y23.seq y23.sent y23.pending y23.colls y23.at_ y23.ver y23.subs (w64 (y23.req + 1)) y23.now (Cmd.mk c1.kind y23.device 0 (w64 (y23.req + 1)) 0 [] []) y23.fenced y23.now)) fun y26 =>
                some (y26, 0))))
            (cond ((s1.epoch == 0))
              (ob (localOwn s1) fun y10 =>
              some (y10, 2))
              (cond (s1.fenced)
                (ob (localOwn s1) fun y11 =>
                some (y11, 16))
                (cond ((c1.kind == 4))
                  (cond ((!(s1.lease.epoch != 0)))
                    (ob (localOwn s1) fun y12 =>
                    some (y12, 2))
                    (cond ((c1.kind == 4))
                      (ob (localOwn s1) fun y27 =>
                      cond ((c1.kind == 2))
                        (cond (fits c1.wants.length)
                          (ob (localOwn (State.mk y27.device y27.epoch y27.lease y27.ends y27.seq y27.sent y27.pending y27.colls y27.at_ y27.ver y27.subs (w64 (y27.req + 1)) y27.now (Cmd.mk c1.kind y27.device y27.epoch (w64 (y27.req + 1)) c1.n c1.wants []) y27.fenced y27.now)) fun y28 =>
                          some (y28, 0))
                          (none))
                        (cond ((c1.kind == 4))
                          (ob (localOwn (State.mk y27.device y27.epoch (Lease.mk y27.lease.device y27.lease.epoch y27.lease.until_ y27.seq y27.lease.slices y27.lease.ids y27.lease.used) y27.ends y27.seq y27.sent y27.pending y27.colls y27.at_ y27.ver y27.subs (w64 (y27.req + 1)) y27.now (Cmd.mk c1.kind y27.device y27.epoch (w64 (y27.req + 1)) y27.seq [] []) y27.fenced y27.now)) fun y29 =>
                          some (y29, 0))
                          (ob (localOwn (State.mk y27.device y27.epoch y27.lease y27.ends y27.seq y27.sent y27.pending y27.colls y27.at_ y27.ver y27.subs (w64 (y27.req + 1)) y27.now (Cmd.mk c1.kind y27.device 0 (w64 (y27.req + 1)) 0 [] []) y27.fenced y27.now)) fun y30 =>
                          some (y30, 0))))
                      (cond ((s1.lease.epoch != 0))
                        (ob (localOwn s1) fun y13 =>
                        some (y13, 19))
                        (cond ((decide (c1.n < 1)))
                          (ob (localOwn s1) fun y14 =>
                          some (y14, 1))
                          (cond ((decide (c1.n > 1000)))
                            (ob (localOwn s1) fun y15 =>
                            some (y15, 1))
                            (cond ((decide ((c1.wants.length : Int) > 5)))
                              (ob (localOwn s1) fun y16 =>
                              some (y16, 1))
                              (ob (L103_2 c1.wants 0 (c1.wants.length : Int) 0) fun y0 =>
                              two y0 (fun a1 =>
                                ob (localOwn s1) fun y31 =>
                                cond ((c1.kind == 2))
                                  (cond (fits c1.wants.length)
                                    (ob (localOwn (State.mk y31.device y31.epoch y31.lease y31.ends y31.seq y31.sent y31.pending y31.colls y31.at_ y31.ver y31.subs (w64 (y31.req + 1)) y31.now (Cmd.mk c1.kind y31.device y31.epoch (w64 (y31.req + 1)) c1.n c1.wants []) y31.fenced y31.now)) fun y32 =>
                                    some (y32, 0))
                                    (none))
                                  (cond ((c1.kind == 4))
                                    (ob (localOwn (State.mk y31.device y31.epoch (Lease.mk y31.lease.device y31.lease.epoch y31.lease.until_ y31.seq y31.lease.slices y31.lease.ids y31.lease.used) y31.ends y31.seq y31.sent y31.pending y31.colls y31.at_ y31.ver y31.subs (w64 (y31.req + 1)) y31.now (Cmd.mk c1.kind y31.device y31.epoch (w64 (y31.req + 1)) y31.seq [] []) y31.fenced y31.now)) fun y33 =>
                                    some (y33, 0))
                                    (ob (localOwn (State.mk y31.device y31.epoch y31.lease y31.ends y31.seq y31.sent y31.pending y31.colls y31.at_ y31.ver y31.subs (w64 (y31.req + 1)) y31.now (Cmd.mk c1.kind y31.device 0 (w64 (y31.req + 1)) 0 [] []) y31.fenced y31.now)) fun y34 =>
                                    some (y34, 0)))) (fun b2 =>
                                cond ((decide (b2 ≥ 0)))
                                  (ob (localOwn s1) fun y17 =>
                                  some (y17, 1))
                                  (ob (localOwn s1) fun y35 =>
                                  cond ((c1.kind == 2))
                                    (cond (fits c1.wants.length)
                                      (ob (localOwn (State.mk y35.device y35.epoch y35.lease y35.ends y35.seq y35.sent y35.pending y35.colls y35.at_ y35.ver y35.subs (w64 (y35.req + 1)) y35.now (Cmd.mk c1.kind y35.device y35.epoch (w64 (y35.req + 1)) c1.n c1.wants []) y35.fenced y35.now)) fun y36 =>
                                      some (y36, 0))
                                      (none))
                                    (cond ((c1.kind == 4))
                                      (ob (localOwn (State.mk y35.device y35.epoch (Lease.mk y35.lease.device y35.lease.epoch y35.lease.until_ y35.seq y35.lease.slices y35.lease.ids y35.lease.used) y35.ends y35.seq y35.sent y35.pending y35.colls y35.at_ y35.ver y35.subs (w64 (y35.req + 1)) y35.now (Cmd.mk c1.kind y35.device y35.epoch (w64 (y35.req + 1)) y35.seq [] []) y35.fenced y35.now)) fun y37 =>
                                      some (y37, 0))
                                      (ob (localOwn (State.mk y35.device y35.epoch y35.lease y35.ends y35.seq y35.sent y35.pending y35.colls y35.at_ y35.ver y35.subs (w64 (y35.req + 1)) y35.now (Cmd.mk c1.kind y35.device 0 (w64 (y35.req + 1)) 0 [] []) y35.fenced y35.now)) fun y38 =>
                                      some (y38, 0))))))))))))
                  (cond ((c1.kind == 4))
                    (ob (localOwn s1) fun y39 =>
                    cond ((c1.kind == 2))
                      (cond (fits c1.wants.length)
                        (ob (localOwn (State.mk y39.device y39.epoch y39.lease y39.ends y39.seq y39.sent y39.pending y39.colls y39.at_ y39.ver y39.subs (w64 (y39.req + 1)) y39.now (Cmd.mk c1.kind y39.device y39.epoch (w64 (y39.req + 1)) c1.n c1.wants []) y39.fenced y39.now)) fun y40 =>
                        some (y40, 0))
                        (none))
                      (cond ((c1.kind == 4))
                        (ob (localOwn (State.mk y39.device y39.epoch (Lease.mk y39.lease.device y39.lease.epoch y39.lease.until_ y39.seq y39.lease.slices y39.lease.ids y39.lease.used) y39.ends y39.seq y39.sent y39.pending y39.colls y39.at_ y39.ver y39.subs (w64 (y39.req + 1)) y39.now (Cmd.mk c1.kind y39.device y39.epoch (w64 (y39.req + 1)) y39.seq [] []) y39.fenced y39.now)) fun y41 =>
                        some (y41, 0))
                        (ob (localOwn (State.mk y39.device y39.epoch y39.lease y39.ends y39.seq y39.sent y39.pending y39.colls y39.at_ y39.ver y39.subs (w64 (y39.req + 1)) y39.now (Cmd.mk c1.kind y39.device 0 (w64 (y39.req + 1)) 0 [] []) y39.fenced y39.now)) fun y42 =>
                        some (y42, 0))))
                    (cond ((s1.lease.epoch != 0))
                      (ob (localOwn s1) fun y18 =>
                      some (y18, 19))
                      (cond ((decide (c1.n < 1)))
                        (ob (localOwn s1) fun y19 =>
                        some (y19, 1))
                        (cond ((decide (c1.n > 1000)))
                          (ob (localOwn s1) fun y20 =>
                          some (y20, 1))
                          (cond ((decide ((c1.wants.length : Int) > 5)))
                            (ob (localOwn s1) fun y21 =>
                            some (y21, 1))
                            (ob (L103_2 c1.wants 0 (c1.wants.length : Int) 0) fun y3 =>
                            two y3 (fun a4 =>
                              ob (localOwn s1) fun y43 =>
                              cond ((c1.kind == 2))
                                (cond (fits c1.wants.length)
                                  (ob (localOwn (State.mk y43.device y43.epoch y43.lease y43.ends y43.seq y43.sent y43.pending y43.colls y43.at_ y43.ver y43.subs (w64 (y43.req + 1)) y43.now (Cmd.mk c1.kind y43.device y43.epoch (w64 (y43.req + 1)) c1.n c1.wants []) y43.fenced y43.now)) fun y44 =>
                                  some (y44, 0))
                                  (none))
                                (cond ((c1.kind == 4))
                                  (ob (localOwn (State.mk y43.device y43.epoch (Lease.mk y43.lease.device y43.lease.epoch y43.lease.until_ y43.seq y43.lease.slices y43.lease.ids y43.lease.used) y43.ends y43.seq y43.sent y43.pending y43.colls y43.at_ y43.ver y43.subs (w64 (y43.req + 1)) y43.now (Cmd.mk c1.kind y43.device y43.epoch (w64 (y43.req + 1)) y43.seq [] []) y43.fenced y43.now)) fun y45 =>
                                  some (y45, 0))
                                  (ob (localOwn (State.mk y43.device y43.epoch y43.lease y43.ends y43.seq y43.sent y43.pending y43.colls y43.at_ y43.ver y43.subs (w64 (y43.req + 1)) y43.now (Cmd.mk c1.kind y43.device 0 (w64 (y43.req + 1)) 0 [] []) y43.fenced y43.now)) fun y46 =>
                                  some (y46, 0)))) (fun b5 =>
                              cond ((decide (b5 ≥ 0)))
                                (ob (localOwn s1) fun y22 =>
                                some (y22, 1))
                                (ob (localOwn s1) fun y47 =>
                                cond ((c1.kind == 2))
                                  (cond (fits c1.wants.length)
                                    (ob (localOwn (State.mk y47.device y47.epoch y47.lease y47.ends y47.seq y47.sent y47.pending y47.colls y47.at_ y47.ver y47.subs (w64 (y47.req + 1)) y47.now (Cmd.mk c1.kind y47.device y47.epoch (w64 (y47.req + 1)) c1.n c1.wants []) y47.fenced y47.now)) fun y48 =>
                                    some (y48, 0))
                                    (none))
                                  (cond ((c1.kind == 4))
                                    (ob (localOwn (State.mk y47.device y47.epoch (Lease.mk y47.lease.device y47.lease.epoch y47.lease.until_ y47.seq y47.lease.slices y47.lease.ids y47.lease.used) y47.ends y47.seq y47.sent y47.pending y47.colls y47.at_ y47.ver y47.subs (w64 (y47.req + 1)) y47.now (Cmd.mk c1.kind y47.device y47.epoch (w64 (y47.req + 1)) y47.seq [] []) y47.fenced y47.now)) fun y49 =>
                                    some (y49, 0))
                                    (ob (localOwn (State.mk y47.device y47.epoch y47.lease y47.ends y47.seq y47.sent y47.pending y47.colls y47.at_ y47.ver y47.subs (w64 (y47.req + 1)) y47.now (Cmd.mk c1.kind y47.device 0 (w64 (y47.req + 1)) 0 [] []) y47.fenced y47.now)) fun y50 =>
                                    some (y50, 0))))))))))))))))))
/-- local.State).answered -/
def answered (s1 : State) (r1 : Reply) : Option (State) :=
  cond ((r1.err == 16))
    (some (State.mk s1.device s1.epoch s1.lease s1.ends s1.seq s1.sent s1.pending s1.colls s1.at_ s1.ver s1.subs s1.req s1.asked (Cmd.mk 0 0 0 0 0 [] []) true s1.now))
    (cond ((cond (r1.err != 0) (s1.cmd.kind == 4) false))
      (some (State.mk s1.device s1.epoch (Lease.mk s1.lease.device s1.lease.epoch s1.lease.until_ (-1) s1.lease.slices s1.lease.ids s1.lease.used) s1.ends s1.seq s1.sent s1.pending s1.colls s1.at_ s1.ver s1.subs s1.req s1.asked (Cmd.mk 0 0 0 0 0 [] []) s1.fenced s1.now))
      (cond ((r1.err != 0))
        (some (State.mk s1.device s1.epoch s1.lease s1.ends s1.seq s1.sent s1.pending s1.colls s1.at_ s1.ver s1.subs s1.req s1.asked (Cmd.mk 0 0 0 0 0 [] []) s1.fenced s1.now))
        (cond ((s1.cmd.kind == 1))
          (some (State.mk s1.device r1.n (Lease.mk 0 0 0 0 [] [] []) 0 0 0 [] s1.colls s1.at_ s1.ver s1.subs s1.req s1.asked (Cmd.mk 0 0 0 0 0 [] []) false s1.now))
          (cond ((s1.cmd.kind == 2))
            (ob (leaseOwn r1.lease) fun y0 =>
            some (State.mk s1.device s1.epoch y0 (w64 (s1.asked + s1.cmd.n)) s1.seq s1.sent s1.pending s1.colls s1.at_ s1.ver s1.subs s1.req s1.asked (Cmd.mk 0 0 0 0 0 [] []) s1.fenced s1.now))
            (some (State.mk s1.device s1.epoch (Lease.mk 0 0 0 0 [] [] []) 0 s1.seq s1.sent s1.pending s1.colls s1.at_ s1.ver s1.subs s1.req s1.asked (Cmd.mk 0 0 0 0 0 [] []) s1.fenced s1.now))))))
/-- a loop of api.Op] -/
def step_L70_5 (i1 : Int) (i2 : Int) (s1 : State) : Option ((Int × Int × State) ⊕ (Int × State)) :=
  cond ((decide (i2 < (s1.pending.length : Int))))
    (cond (decide (0 ≤ i2))
      (cond (decide (i2 < (s1.pending.length : Int)))
        (ob (s1.pending[i2.toNat]?) fun e0 =>
        cond ((decide (e0.dot.seq ≤ s1.sent)))
          (cond ((decide (e0.coll ≥ 0)))
            (cond ((decide (e0.coll < (s1.subs.length : Int))))
              (cond (decide (0 ≤ e0.coll))
                (cond (decide (e0.coll < (s1.subs.length : Int)))
                  (ob (s1.subs[e0.coll.toNat]?) fun e1 =>
                  cond ((!(!e1)))
                    (cond (decide (0 ≤ i1))
                      (cond (decide (i1 < (s1.pending.length : Int)))
                        (ob (s1.pending[i1.toNat]?) fun e2 =>
                        some (.inl ((w64 (i1 + 1)), (w64 (i2 + 1)), (State.mk s1.device s1.epoch s1.lease s1.ends s1.seq s1.sent (s1.pending.set i1.toNat e0) s1.colls s1.at_ s1.ver s1.subs s1.req s1.asked s1.cmd s1.fenced s1.now))))
                        (none))
                      (none))
                    (some (.inl (i1, (w64 (i2 + 1)), s1))))
                  (none))
                (none))
              (some (.inl (i1, (w64 (i2 + 1)), s1))))
            (some (.inl (i1, (w64 (i2 + 1)), s1))))
          (cond (decide (0 ≤ i1))
            (cond (decide (i1 < (s1.pending.length : Int)))
              (ob (s1.pending[i1.toNat]?) fun e3 =>
              some (.inl ((w64 (i1 + 1)), (w64 (i2 + 1)), (State.mk s1.device s1.epoch s1.lease s1.ends s1.seq s1.sent (s1.pending.set i1.toNat e0) s1.colls s1.at_ s1.ver s1.subs s1.req s1.asked s1.cmd s1.fenced s1.now))))
              (none))
            (none)))
        (none))
      (none))
    (some (.inr (i1, s1)))
def stp_L70_5 (p : Int × Int × State) : Option ((Int × Int × State) ⊕ (Int × State)) := step_L70_5 p.1 p.2.1 p.2.2
def L70_5 (i1 : Int) (i2 : Int) (s1 : State) : Option (Int × State) := iterO stp_L70_5 (1099511627776) (i1, i2, s1)
/-- a loop of api.Op] -/
def step_L27_2 (i1 : Int) (i2 : Int) (i3 : Int) (s1 : State) : Option ((Int × Int × Int × State) ⊕ (((Int × State) ⊕ (Int × State)))) :=
  cond ((decide (i3 < i2)))
    (cond (decide (0 ≤ i3))
      (cond (decide (i3 < (s1.pending.length : Int)))
        (ob (s1.pending[i3.toNat]?) fun e0 =>
        cond ((decide (e0.dot.seq ≤ s1.sent)))
          (cond ((decide (e0.coll ≥ 0)))
            (cond ((decide (e0.coll < (s1.subs.length : Int))))
              (cond (decide (0 ≤ e0.coll))
                (cond (decide (e0.coll < (s1.subs.length : Int)))
                  (ob (s1.subs[e0.coll.toNat]?) fun e1 =>
                  cond ((!e1))
                    (some (.inr (.inr (i3, s1))))
                    (some (.inl (i1, i2, (w64 (i3 + 1)), s1))))
                  (none))
                (none))
              (some (.inr (.inr (i3, s1)))))
            (some (.inr (.inr (i3, s1)))))
          (some (.inl (i1, i2, (w64 (i3 + 1)), s1))))
        (none))
      (none))
    (some (.inr (.inl (i1, s1))))
def stp_L27_2 (p : Int × Int × Int × State) : Option ((Int × Int × Int × State) ⊕ (((Int × State) ⊕ (Int × State)))) := step_L27_2 p.1 p.2.1 p.2.2.1 p.2.2.2
def L27_2 (i1 : Int) (i2 : Int) (i3 : Int) (s1 : State) : Option (((Int × State) ⊕ (Int × State))) := iterO stp_L27_2 ((i2 - i3).toNat + 2) (i1, i2, i3, s1)
/-- local.Reply (fails: [201]) -/
def reply (s1 : State) (i1 : Int) (r1 : Reply) : Option (State × Int) :=
  cond ((i1 == 0))
    (ob (localOwn s1) fun y0 =>
    cond ((y0.epoch == 0))
      (ob (localOwn y0) fun y9 =>
      some (y9, 2))
      (cond ((r1.err == 16))
        (ob (localOwn (State.mk y0.device y0.epoch y0.lease y0.ends y0.seq y0.sent y0.pending y0.colls y0.at_ y0.ver y0.subs y0.req y0.asked y0.cmd true y0.now)) fun y10 =>
        some (y10, 0))
        (cond ((r1.err != 0))
          (ob (localOwn y0) fun y11 =>
          some (y11, 0))
          (cond ((decide (r1.n ≤ y0.seq)))
            (ob (L27_2 0 (y0.pending.length : Int) 0 (State.mk y0.device y0.epoch y0.lease y0.ends y0.seq (max2 y0.sent r1.n) y0.pending y0.colls y0.at_ y0.ver y0.subs y0.req y0.asked y0.cmd y0.fenced y0.now)) fun y1 =>
            two y1 (fun a2 =>
              ob (localOwn a2.2) fun y12 =>
              some (y12, 0)) (fun b3 =>
              cond ((b3.1 == (-1)))
                (ob (localOwn b3.2) fun y13 =>
                some (y13, 0))
                (ob (L70_5 b3.1 (w64 (b3.1 + 1)) b3.2) fun y4 =>
                cond (decide (0 ≤ y4.1))
                  (cond (decide (y4.1 ≤ (y4.2.pending.length : Int)))
                    (cond (decide ((y4.2.pending.length : Int) ≤ (y4.2.pending.length : Int)))
                      (cond (decide (0 ≤ y4.1))
                        (cond (decide (y4.1 ≤ ((((y4.2.pending.take y4.1.toNat) ++ (List.replicate (((y4.2.pending.length : Int)).toNat - y4.1.toNat) (Op.mk (Dot.mk 0 0 0) 0 0 0 s_empty s_empty 0 0 []))) ++ ((y4.2.pending.take y4.2.pending.length).drop (y4.1.toNat + (((y4.2.pending.length : Int)).toNat - y4.1.toNat)))).length : Int)))
                          (ob (localOwn (State.mk y4.2.device y4.2.epoch y4.2.lease y4.2.ends y4.2.seq y4.2.sent ((((y4.2.pending.take y4.1.toNat) ++ (List.replicate (((y4.2.pending.length : Int)).toNat - y4.1.toNat) (Op.mk (Dot.mk 0 0 0) 0 0 0 s_empty s_empty 0 0 []))) ++ ((y4.2.pending.take y4.2.pending.length).drop (y4.1.toNat + (((y4.2.pending.length : Int)).toNat - y4.1.toNat)))).take y4.1.toNat) y4.2.colls y4.2.at_ y4.2.ver y4.2.subs y4.2.req y4.2.asked y4.2.cmd y4.2.fenced y4.2.now)) fun y14 =>
                          some (y14, 0))
                          (none))
                        (none))
                      (none))
                    (none))
                  (none))))
            (ob (L27_2 0 (y0.pending.length : Int) 0 y0) fun y5 =>
            two y5 (fun a6 =>
              ob (localOwn a6.2) fun y15 =>
              some (y15, 0)) (fun b7 =>
              cond ((b7.1 == (-1)))
                (ob (localOwn b7.2) fun y16 =>
                some (y16, 0))
                (ob (L70_5 b7.1 (w64 (b7.1 + 1)) b7.2) fun y8 =>
                cond (decide (0 ≤ y8.1))
                  (cond (decide (y8.1 ≤ (y8.2.pending.length : Int)))
                    (cond (decide ((y8.2.pending.length : Int) ≤ (y8.2.pending.length : Int)))
                      (cond (decide (0 ≤ y8.1))
                        (cond (decide (y8.1 ≤ ((((y8.2.pending.take y8.1.toNat) ++ (List.replicate (((y8.2.pending.length : Int)).toNat - y8.1.toNat) (Op.mk (Dot.mk 0 0 0) 0 0 0 s_empty s_empty 0 0 []))) ++ ((y8.2.pending.take y8.2.pending.length).drop (y8.1.toNat + (((y8.2.pending.length : Int)).toNat - y8.1.toNat)))).length : Int)))
                          (ob (localOwn (State.mk y8.2.device y8.2.epoch y8.2.lease y8.2.ends y8.2.seq y8.2.sent ((((y8.2.pending.take y8.1.toNat) ++ (List.replicate (((y8.2.pending.length : Int)).toNat - y8.1.toNat) (Op.mk (Dot.mk 0 0 0) 0 0 0 s_empty s_empty 0 0 []))) ++ ((y8.2.pending.take y8.2.pending.length).drop (y8.1.toNat + (((y8.2.pending.length : Int)).toNat - y8.1.toNat)))).take y8.1.toNat) y8.2.colls y8.2.at_ y8.2.ver y8.2.subs y8.2.req y8.2.asked y8.2.cmd y8.2.fenced y8.2.now)) fun y17 =>
                          some (y17, 0))
                          (none))
                        (none))
                      (none))
                    (none))
                  (none))))))))
    (cond ((cond (s1.cmd.kind == 0) true (i1 != s1.req)))
      (ob (localOwn s1) fun y18 =>
      some (y18, 2))
      (ob (localOwn s1) fun y19 =>
      ob (answered y19 r1) fun r20 =>
      ob (localOwn r20) fun y21 =>
      some (y21, 0)))
/-- local.Time -/
def time (s1 : State) (i1 : Int) : Option (State × Int) :=
  cond ((cond (decide (i1 < 0)) true (decide (i1 > 100))))
    (ob (localOwn s1) fun y0 =>
    some (y0, 1))
    (cond ((decide ((w64 (s1.now + i1)) > 1099511627776)))
      (ob (localOwn s1) fun y1 =>
      some (y1, 11))
      (ob (localOwn s1) fun y2 =>
      some ((State.mk y2.device y2.epoch y2.lease y2.ends y2.seq y2.sent y2.pending y2.colls y2.at_ y2.ver y2.subs y2.req y2.asked y2.cmd y2.fenced (w64 (y2.now + i1))), 0)))
/-- a loop of local.View -/
def step_L21_5 (i1 : Int) (l1 : List Op) (i2 : Int) (i3 : Int) (c1 : Coll) (c2 : Coll) : Option ((Int × (List Op) × Int × Int × Coll × Coll) ⊕ (Coll × Coll)) :=
  cond ((decide (i3 < i2)))
    (cond (decide (0 ≤ i3))
      (ob (l1[i3.toNat]?) fun e0 =>
      cond ((e0.coll != i1))
        (some (.inl (i1, l1, i2, (w64 (i3 + 1)), c1, c2)))
        (ob (apply_ c2 e0) fun r1 =>
        cond ((r1.2 == 0))
          (some (.inl (i1, l1, i2, (w64 (i3 + 1)), c1, r1.1)))
          (some (.inl (i1, l1, i2, (w64 (i3 + 1)), c1, c2)))))
      (none))
    (some (.inr (c1, c2)))
def stp_L21_5 (p : Int × (List Op) × Int × Int × Coll × Coll) : Option ((Int × (List Op) × Int × Int × Coll × Coll) ⊕ (Coll × Coll)) := step_L21_5 p.1 p.2.1 p.2.2.1 p.2.2.2.1 p.2.2.2.2.1 p.2.2.2.2.2
def L21_5 (i1 : Int) (l1 : List Op) (i2 : Int) (i3 : Int) (c1 : Coll) (c2 : Coll) : Option (Coll × Coll) := iterO stp_L21_5 ((i2 - i3).toNat + 2) (i1, l1, i2, i3, c1, c2)
def ch_L21_5 : Cod (Cst TL) (Int × (List Op) × Int × Int × Coll × Coll) := Cod.iso (Cod.cst 8 (Cod.cons (Cod.xs (Cod.sc (Cod.im (Cod.int .i64)))) (Cod.cons (Cod.xs (Cod.sc (Cod.ptr 0 0))) (Cod.cons (Cod.xs (Cod.sc (Cod.ptr 1 0))) (Cod.cons (Cod.xs (Cod.sc (Cod.im (Cod.fz j_lOp)))) (Cod.cons (Cod.xs (Cod.sc (Cod.im (Cod.int .i64)))) (Cod.cons (Cod.xs (Cod.sc (Cod.im (Cod.int .i64)))) (Cod.nil))))))) (Cod.cons (Cod.var 0 36 (Cod.cons (Cod.ar 2) (Cod.cons (Cod.ar 3) (Cod.cons (Cod.ar 4) (Cod.cons (Cod.ar 5) (Cod.cons (Cod.ar 6) (Cod.cons (Cod.ar 7) (Cod.nil)))))))) (Cod.cons (Cod.var 1 36 (Cod.cons (Cod.im (Cod.fz j_lDot)) (Cod.cons (Cod.im (Cod.fz j_lReg)) (Cod.cons (Cod.im (Cod.fz j_lElem)) (Cod.cons (Cod.im (Cod.fz j_lDot)) (Cod.cons (Cod.im (Cod.fz j_lSum)) (Cod.cons (Cod.im (Cod.fz j_lBind)) (Cod.nil)))))))) (Cod.cons (Cod.arr 2 112 j_lDot) (Cod.cons (Cod.arr 3 103 j_lReg) (Cod.cons (Cod.arr 4 100 j_lElem) (Cod.cons (Cod.arr 5 48 j_lDot) (Cod.cons (Cod.arr 6 118 j_lSum) (Cod.cons (Cod.arr 7 121 j_lBind) (Cod.nil)))))))))) (fun p => (p.1.1, p.1.2.2.2.1, p.1.2.2.2.2.1, p.1.2.2.2.2.2.1, (Coll.mk p.2.2.2.1 p.2.2.2.2.1 p.2.2.2.2.2.1 p.2.2.2.2.2.2.1 p.2.2.2.2.2.2.2.1 p.2.2.2.2.2.2.2.2.1), (Coll.mk p.2.2.1.1 p.2.2.1.2.1 p.2.2.1.2.2.1 p.2.2.1.2.2.2.1 p.2.2.1.2.2.2.2.1 p.2.2.1.2.2.2.2.2.1))) (fun (x : Int × (List Op) × Int × Int × Coll × Coll) => ((x.1, ((), ((), (x.2.1, (x.2.2.1, (x.2.2.2.1, ())))))), (((), ((), ((), ((), ((), ((), ())))))), ((x.2.2.2.2.2.v, (x.2.2.2.2.2.regs, (x.2.2.2.2.2.elems, (x.2.2.2.2.2.gone, (x.2.2.2.2.2.sums, (x.2.2.2.2.2.binds, ())))))), (x.2.2.2.2.1.v, (x.2.2.2.2.1.regs, (x.2.2.2.2.1.elems, (x.2.2.2.2.1.gone, (x.2.2.2.2.1.sums, (x.2.2.2.2.1.binds, ())))))))))) (fun _ => rfl)
def co0_L21_5 : Cod (Cst TL) (Coll × Coll) := Cod.iso (Cod.cst 16 (Cod.cons (Cod.xs (Cod.sc (Cod.ptr 0 0))) (Cod.cons (Cod.xs (Cod.sc (Cod.ptr 1 0))) (Cod.nil))) (Cod.cons (Cod.var 0 36 (Cod.cons (Cod.ar 2) (Cod.cons (Cod.ar 3) (Cod.cons (Cod.ar 4) (Cod.cons (Cod.ar 5) (Cod.cons (Cod.ar 6) (Cod.cons (Cod.ar 7) (Cod.nil)))))))) (Cod.cons (Cod.var 1 36 (Cod.cons (Cod.im (Cod.fz j_lDot)) (Cod.cons (Cod.im (Cod.fz j_lReg)) (Cod.cons (Cod.im (Cod.fz j_lElem)) (Cod.cons (Cod.im (Cod.fz j_lDot)) (Cod.cons (Cod.im (Cod.fz j_lSum)) (Cod.cons (Cod.im (Cod.fz j_lBind)) (Cod.nil)))))))) (Cod.cons (Cod.arr 2 112 j_lDot) (Cod.cons (Cod.arr 3 103 j_lReg) (Cod.cons (Cod.arr 4 100 j_lElem) (Cod.cons (Cod.arr 5 48 j_lDot) (Cod.cons (Cod.arr 6 118 j_lSum) (Cod.cons (Cod.arr 7 121 j_lBind) (Cod.nil)))))))))) (fun p => ((Coll.mk p.2.2.2.1 p.2.2.2.2.1 p.2.2.2.2.2.1 p.2.2.2.2.2.2.1 p.2.2.2.2.2.2.2.1 p.2.2.2.2.2.2.2.2.1), (Coll.mk p.2.2.1.1 p.2.2.1.2.1 p.2.2.1.2.2.1 p.2.2.1.2.2.2.1 p.2.2.1.2.2.2.2.1 p.2.2.1.2.2.2.2.2.1))) (fun (x : Coll × Coll) => (((), ((), ())), (((), ((), ((), ((), ((), ((), ())))))), ((x.2.v, (x.2.regs, (x.2.elems, (x.2.gone, (x.2.sums, (x.2.binds, ())))))), (x.1.v, (x.1.regs, (x.1.elems, (x.1.gone, (x.1.sums, (x.1.binds, ())))))))))) (fun _ => rfl)
noncomputable def sl_L21_5 : SFn TL := SFn.one ch_L21_5.dec (fun p => L21_5 p.1 p.2.1 p.2.2.1 p.2.2.2.1 p.2.2.2.2.1 p.2.2.2.2.2) (.exit 0) co0_L21_5.enc
noncomputable def cs_lL21_5 : List (Nat × DFn TL) := [(26, df_apply_)]
noncomputable def ss_lL21_5 : List (Nat × SFn TL) := []
noncomputable def env_lL21_5 : Env := envOf tab sl sh [] [(26, .keep)]
theorem env_lL21_5_ok : EnvOK Tryz.prog (mkD cs_lL21_5 ss_lL21_5) env_lL21_5 := envOK_of base (all_nil) (all_cons (okD rfl ok_apply_) (all_nil))
theorem run_L21_5 (x : Int × (List Op) × Int × Int × Coll × Coll) : Out.run (mkO cs_lL21_5 ss_lL21_5) (evRound env_lL21_5 12 20 fd21.an q_L21_5 (loopIn (loopsOf fd21.body) 5) (ch_L21_5.enc x)) (back ch_L21_5 co0_L21_5 fun e => exE e (.exit 0)) = stp_L21_5 x := by kernel_rfl
theorem ok_L21_5 : LoopOK Tryz.prog (oneS sl_L21_5) nt21 q_L21_5 (loopIn (loopsOf fd21.body) 5) :=
  loop_one env_lL21_5_ok (loops := 12) (k := 20) (an := fd21.an) (by kernel_rfl) (FnSt.subl rfl st21.keys (all_cons (.inl (by kernel_rfl)) (all_nil))) ch_L21_5 co0_L21_5 (.exit 0) rfl stp_L21_5 _ run_L21_5 (fun x y h => ⟨_, h⟩) (fun _ => below_iff.1 rfl)
/-- local.View (fails: [7]) -/
def view (s1 : State) (i1 : Int) : Option (Coll) :=
  cond ((cond (decide (i1 < 0)) true (decide (i1 ≥ 3))))
    (some (Coll.mk [] [] [] [] [] []))
    (cond (decide (i1 = 0))
      (ob (L21_5 i1 s1.pending (s1.pending.length : Int) 0 (Coll.mk [] [] [] [] [] []) s1.colls.a0) fun y0 =>
      ob (collection y0.2) fun y1 =>
      some y1)
      (cond (decide (i1 = 1))
        (ob (L21_5 i1 s1.pending (s1.pending.length : Int) 0 (Coll.mk [] [] [] [] [] []) s1.colls.a1) fun y2 =>
        ob (collection y2.2) fun y3 =>
        some y3)
        (cond (decide (i1 = 2))
          (ob (L21_5 i1 s1.pending (s1.pending.length : Int) 0 (Coll.mk [] [] [] [] [] []) s1.colls.a2) fun y4 =>
          ob (collection y4.2) fun y5 =>
          some y5)
          (none))))
def un_view (p : State × Int) : Option (Coll) := view p.1 p.2
noncomputable def df_view : DFn TL := DFn.of (DA.cons (DT.agg dc_State) (DA.one (DT.one (DI.int .i64)))) un_view (DA.one (DT.agg dc_Coll))
noncomputable def cs_view : List (Nat × DFn TL) := []
noncomputable def ss_view : List (Nat × SFn TL) := [(44, sf_collection), (121005, sl_L21_5)]
noncomputable def env_view : Env := envOf tab sl sh [(21, fd21)] [(44, .sum)]
theorem env_view_ok : EnvOK Tryz.prog (mkD cs_view ss_view) env_view := envOK_of base (all_cons (st21.okl rfl (all_cons (LoopOK.cast ok_L21_5 rfl) (all_nil))) (all_nil)) (all_cons (okS rfl ok_collection) (all_nil))
theorem run_view (x : State × Int) : Out.run (mkO cs_view ss_view) (evOrc env_view 12 20 21 ((DA.cons (DT.agg dc_State) (DA.one (DT.one (DI.int .i64))) : DA TL (State × Int)).enc x)) (DA.one (DT.agg dc_Coll) : DA TL (Coll)).dec = un_view x := by kernel_rfl
theorem ok_view : DOK Tryz.prog 21 .keep df_view := data_of env_view_ok (loops := 12) (n := 20) (.inl rfl) st21.enters (DA.cons (DT.agg dc_State) (DA.one (DT.one (DI.int .i64)))) un_view (DA.one (DT.agg dc_Coll)) run_view
/-- local.Do (fails: [27, 201]) -/
def do_ (s1 : State) (o1 : Op) : Option (State × Int) :=
  cond ((s1.epoch == 0))
    (ob (localOwn s1) fun y0 =>
    some (y0, 2))
    (cond (s1.fenced)
      (ob (localOwn s1) fun y1 =>
      some (y1, 16))
      (cond ((decide ((s1.pending.length : Int) ≥ 200)))
        (ob (localOwn s1) fun y2 =>
        some (y2, 17))
        (cond ((decide (s1.seq ≥ 1073741824)))
          (ob (localOwn s1) fun y3 =>
          some (y3, 11))
          (cond ((cond (o1.kind == 3) (cond (decide (o1.coll ≥ 0)) (decide (o1.coll < 3)) false) false))
            (ob (view s1 o1.coll) fun r4 =>
            ob (collDots r4 o1.key o1.text) fun r5 =>
            cond (decide (0 ≤ (min2 (r5.length : Int) 8)))
              (cond (decide ((min2 (r5.length : Int) 8) = (min2 (r5.length : Int) 8)))
                (cond (decide ((min2 (r5.length : Int) 8) ≤ (r5.length : Int)))
                  (cond (fits ((r5.take (((min2 (r5.length : Int) 8)).toNat)).length))
                    (ob (opsCheck (Op.mk (Dot.mk s1.device s1.epoch (w64 (s1.seq + 1))) o1.coll s1.ver o1.kind o1.key o1.text o1.n s1.now (r5.take (((min2 (r5.length : Int) 8)).toNat)))) fun r6 =>
                    cond ((r6 != 0))
                      (ob (localOwn s1) fun y7 =>
                      some (y7, r6))
                      (cond ((cond (o1.kind != 4) (o1.kind != 5) false))
                        (ob (localOwn s1) fun y9 =>
                        cond (fits ((y9.pending ++ [(Op.mk (Dot.mk s1.device s1.epoch (w64 (s1.seq + 1))) o1.coll s1.ver o1.kind o1.key o1.text o1.n s1.now (r5.take (((min2 (r5.length : Int) 8)).toNat)))]).length))
                          (ob (localOwn (State.mk y9.device y9.epoch s1.lease y9.ends (w64 (y9.seq + 1)) y9.sent (y9.pending ++ [(Op.mk (Dot.mk s1.device s1.epoch (w64 (s1.seq + 1))) o1.coll s1.ver o1.kind o1.key o1.text o1.n s1.now (r5.take (((min2 (r5.length : Int) 8)).toNat)))]) y9.colls y9.at_ y9.ver y9.subs y9.req y9.asked y9.cmd y9.fenced y9.now)) fun y10 =>
                          some (y10, 0))
                          (none))
                        (cond ((!(s1.lease.epoch != 0)))
                          (ob (localOwn s1) fun y11 =>
                          some (y11, 14))
                          (cond ((cond (decide (s1.now ≥ s1.ends)) true (s1.lease.last != (-1))))
                            (ob (localOwn s1) fun y12 =>
                            some (y12, 15))
                            (ob (spend s1.lease (Op.mk (Dot.mk s1.device s1.epoch (w64 (s1.seq + 1))) o1.coll s1.ver o1.kind o1.key o1.text o1.n s1.now (r5.take (((min2 (r5.length : Int) 8)).toNat)))) fun r8 =>
                            cond ((r8.2 != 0))
                              (ob (localOwn s1) fun y13 =>
                              some (y13, r8.2))
                              (ob (localOwn s1) fun y14 =>
                              cond (fits ((y14.pending ++ [(Op.mk (Dot.mk s1.device s1.epoch (w64 (s1.seq + 1))) o1.coll s1.ver o1.kind o1.key o1.text o1.n s1.now (r5.take (((min2 (r5.length : Int) 8)).toNat)))]).length))
                                (ob (localOwn (State.mk y14.device y14.epoch r8.1 y14.ends (w64 (y14.seq + 1)) y14.sent (y14.pending ++ [(Op.mk (Dot.mk s1.device s1.epoch (w64 (s1.seq + 1))) o1.coll s1.ver o1.kind o1.key o1.text o1.n s1.now (r5.take (((min2 (r5.length : Int) 8)).toNat)))]) y14.colls y14.at_ y14.ver y14.subs y14.req y14.asked y14.cmd y14.fenced y14.now)) fun y15 =>
                                some (y15, 0))
                                (none)))))))
                    (none))
                  (none))
                (none))
              (none))
            (ob (opsCheck (Op.mk (Dot.mk s1.device s1.epoch (w64 (s1.seq + 1))) o1.coll s1.ver o1.kind o1.key o1.text o1.n s1.now [])) fun r16 =>
            cond ((r16 != 0))
              (ob (localOwn s1) fun y17 =>
              some (y17, r16))
              (cond ((cond (o1.kind != 4) (o1.kind != 5) false))
                (ob (localOwn s1) fun y19 =>
                cond (fits ((y19.pending ++ [(Op.mk (Dot.mk s1.device s1.epoch (w64 (s1.seq + 1))) o1.coll s1.ver o1.kind o1.key o1.text o1.n s1.now [])]).length))
                  (ob (localOwn (State.mk y19.device y19.epoch s1.lease y19.ends (w64 (y19.seq + 1)) y19.sent (y19.pending ++ [(Op.mk (Dot.mk s1.device s1.epoch (w64 (s1.seq + 1))) o1.coll s1.ver o1.kind o1.key o1.text o1.n s1.now [])]) y19.colls y19.at_ y19.ver y19.subs y19.req y19.asked y19.cmd y19.fenced y19.now)) fun y20 =>
                  some (y20, 0))
                  (none))
                (cond ((!(s1.lease.epoch != 0)))
                  (ob (localOwn s1) fun y21 =>
                  some (y21, 14))
                  (cond ((cond (decide (s1.now ≥ s1.ends)) true (s1.lease.last != (-1))))
                    (ob (localOwn s1) fun y22 =>
                    some (y22, 15))
                    (ob (spend s1.lease (Op.mk (Dot.mk s1.device s1.epoch (w64 (s1.seq + 1))) o1.coll s1.ver o1.kind o1.key o1.text o1.n s1.now [])) fun r18 =>
                    cond ((r18.2 != 0))
                      (ob (localOwn s1) fun y23 =>
                      some (y23, r18.2))
                      (ob (localOwn s1) fun y24 =>
                      cond (fits ((y24.pending ++ [(Op.mk (Dot.mk s1.device s1.epoch (w64 (s1.seq + 1))) o1.coll s1.ver o1.kind o1.key o1.text o1.n s1.now [])]).length))
                        (ob (localOwn (State.mk y24.device y24.epoch r18.1 y24.ends (w64 (y24.seq + 1)) y24.sent (y24.pending ++ [(Op.mk (Dot.mk s1.device s1.epoch (w64 (s1.seq + 1))) o1.coll s1.ver o1.kind o1.key o1.text o1.n s1.now [])]) y24.colls y24.at_ y24.ver y24.subs y24.req y24.asked y24.cmd y24.fenced y24.now)) fun y25 =>
                        some (y25, 0))
                        (none)))))))))))
def un_do_ (p : State × Op) : Option (State × Int) := do_ p.1 p.2
noncomputable def df_do_ : DFn TL := DFn.of (DA.cons (DT.agg dc_State) (DA.one (DT.agg dc_Op))) un_do_ (DA.cons (DT.agg dc_State) (DA.one (DT.one (DI.int .i64))))
noncomputable def cs_do_ : List (Nat × DFn TL) := [(21, df_view), (40, df_collDots), (42, df_opsCheck), (75, df_spend)]
noncomputable def ss_do_ : List (Nat × SFn TL) := [(24, sf_localOwn)]
noncomputable def env_do_ : Env := envOf tab sl sh [(18, fd18), (43, fd43), (66, fd66)] [(24, .sum), (21, .keep), (40, .keep), (41, (.cln 48)), (42, .pure), (75, .keep)]
theorem env_do__ok : EnvOK Tryz.prog (mkD cs_do_ ss_do_) env_do_ := envOK_of base (all_cons (st18.okl rfl (all_nil)) (all_cons (st43.okl rfl (all_nil)) (all_cons (st66.okl rfl (all_nil)) (all_nil)))) (all_cons (okS rfl ok_localOwn) (all_cons (okD rfl ok_view) (all_cons (okD rfl ok_collDots) (all_cons (okCln okI_41) (all_cons (okD rfl ok_opsCheck) (all_cons (okD rfl ok_spend) (all_nil)))))))
theorem run_do_ (x : State × Op) : Out.run (mkO cs_do_ ss_do_) (evOrc env_do_ 12 20 18 ((DA.cons (DT.agg dc_State) (DA.one (DT.agg dc_Op)) : DA TL (State × Op)).enc x)) (DA.cons (DT.agg dc_State) (DA.one (DT.one (DI.int .i64))) : DA TL (State × Int)).dec = un_do_ x := by kernel_rfl
theorem ok_do_ : DOK Tryz.prog 18 .keep df_do_ := data_of env_do__ok (loops := 12) (n := 20) (.inl rfl) st18.enters (DA.cons (DT.agg dc_State) (DA.one (DT.agg dc_Op))) un_do_ (DA.cons (DT.agg dc_State) (DA.one (DT.one (DI.int .i64)))) run_do_
/-- a loop of api.Op] -/
def step_L27b_2 (l1 : List Op) (i1 : Int) (i2 : Int) (i3 : Int) (o1 : Op) : Option (((List Op) × Int × Int × Int × Op) ⊕ (((Int × Op × (List Op)) ⊕ (Int × Op × (List Op))))) :=
  cond ((decide (i3 < i2)))
    (cond (decide (0 ≤ i3))
      (cond (decide (i3 < (l1.length : Int)))
        (ob (l1[i3.toNat]?) fun e0 =>
        cond ((cond (e0.dot.device == o1.dot.device) (cond (e0.dot.epoch == o1.dot.epoch) (cond (e0.dot.seq == o1.dot.seq) true false) false) false))
          (some (.inr (.inr (i3, o1, l1))))
          (some (.inl (l1, i1, i2, (w64 (i3 + 1)), o1))))
        (none))
      (none))
    (some (.inr (.inl (i1, o1, l1))))
def stp_L27b_2 (p : (List Op) × Int × Int × Int × Op) : Option (((List Op) × Int × Int × Int × Op) ⊕ (((Int × Op × (List Op)) ⊕ (Int × Op × (List Op))))) := step_L27b_2 p.1 p.2.1 p.2.2.1 p.2.2.2.1 p.2.2.2.2
def L27b_2 (l1 : List Op) (i1 : Int) (i2 : Int) (i3 : Int) (o1 : Op) : Option (((Int × Op × (List Op)) ⊕ (Int × Op × (List Op)))) := iterO stp_L27b_2 ((i2 - i3).toNat + 2) (l1, i1, i2, i3, o1)
def ch_L27b_2 : Cod (Cst TL) ((List Op) × Int × Int × Int × Op) := Cod.iso (Cod.cst 2 (Cod.cons (Cod.xs (Cod.sc (Cod.ar 0))) (Cod.cons (Cod.xs (Cod.sc (Cod.clo 28 [] [(1, 0)]))) (Cod.cons (Cod.xs (Cod.sc (Cod.im (Cod.int .i64)))) (Cod.cons (Cod.xs (Cod.sc (Cod.im (Cod.int .i64)))) (Cod.cons (Cod.xs (Cod.sc (Cod.im (Cod.int .i64)))) (Cod.nil)))))) (Cod.cons (Cod.arr 0 50 j_lOp) (Cod.cons (Cod.var 1 50 (Cod.cons (Cod.im (Cod.int .i64)) (Cod.cons (Cod.im (Cod.int .i64)) (Cod.cons (Cod.im (Cod.int .i64)) (Cod.cons (Cod.im (Cod.int .i64)) (Cod.cons (Cod.im (Cod.int .i64)) (Cod.cons (Cod.im (Cod.int .i64)) (Cod.cons (Cod.im Cod.str) (Cod.cons (Cod.im Cod.str) (Cod.cons (Cod.im (Cod.int .i64)) (Cod.cons (Cod.im (Cod.int .i64)) (Cod.cons (Cod.im (Cod.fz j_lDot)) (Cod.nil))))))))))))) (Cod.nil)))) (fun p => (p.2.1, p.1.2.2.1, p.1.2.2.2.1, p.1.2.2.2.2.1, (Op.mk (Dot.mk p.2.2.1.1 p.2.2.1.2.1 p.2.2.1.2.2.1) p.2.2.1.2.2.2.1 p.2.2.1.2.2.2.2.1 p.2.2.1.2.2.2.2.2.1 p.2.2.1.2.2.2.2.2.2.1 p.2.2.1.2.2.2.2.2.2.2.1 p.2.2.1.2.2.2.2.2.2.2.2.1 p.2.2.1.2.2.2.2.2.2.2.2.2.1 p.2.2.1.2.2.2.2.2.2.2.2.2.2.1))) (fun (x : (List Op) × Int × Int × Int × Op) => (((), ((), (x.2.1, (x.2.2.1, (x.2.2.2.1, ()))))), (x.1, ((x.2.2.2.2.dot.device, (x.2.2.2.2.dot.epoch, (x.2.2.2.2.dot.seq, (x.2.2.2.2.coll, (x.2.2.2.2.ver, (x.2.2.2.2.kind, (x.2.2.2.2.key, (x.2.2.2.2.text, (x.2.2.2.2.n, (x.2.2.2.2.time, (x.2.2.2.2.dots, ()))))))))))), ())))) (fun _ => rfl)
def co0_L27b_2 : Cod (Cst TL) (Int × Op × (List Op)) := Cod.iso (Cod.cst 4 (Cod.cons (Cod.xs (Cod.sc (Cod.im (Cod.int .i64)))) (Cod.nil)) (Cod.cons (Cod.arr 0 50 j_lOp) (Cod.cons (Cod.var 1 50 (Cod.cons (Cod.im (Cod.int .i64)) (Cod.cons (Cod.im (Cod.int .i64)) (Cod.cons (Cod.im (Cod.int .i64)) (Cod.cons (Cod.im (Cod.int .i64)) (Cod.cons (Cod.im (Cod.int .i64)) (Cod.cons (Cod.im (Cod.int .i64)) (Cod.cons (Cod.im Cod.str) (Cod.cons (Cod.im Cod.str) (Cod.cons (Cod.im (Cod.int .i64)) (Cod.cons (Cod.im (Cod.int .i64)) (Cod.cons (Cod.im (Cod.fz j_lDot)) (Cod.nil))))))))))))) (Cod.nil)))) (fun p => (p.1.1, (Op.mk (Dot.mk p.2.2.1.1 p.2.2.1.2.1 p.2.2.1.2.2.1) p.2.2.1.2.2.2.1 p.2.2.1.2.2.2.2.1 p.2.2.1.2.2.2.2.2.1 p.2.2.1.2.2.2.2.2.2.1 p.2.2.1.2.2.2.2.2.2.2.1 p.2.2.1.2.2.2.2.2.2.2.2.1 p.2.2.1.2.2.2.2.2.2.2.2.2.1 p.2.2.1.2.2.2.2.2.2.2.2.2.2.1), p.2.1)) (fun (x : Int × Op × (List Op)) => ((x.1, ()), (x.2.2, ((x.2.1.dot.device, (x.2.1.dot.epoch, (x.2.1.dot.seq, (x.2.1.coll, (x.2.1.ver, (x.2.1.kind, (x.2.1.key, (x.2.1.text, (x.2.1.n, (x.2.1.time, (x.2.1.dots, ()))))))))))), ())))) (fun _ => rfl)
def co1_L27b_2 : Cod (Cst TL) (Int × Op × (List Op)) := Cod.iso (Cod.cst 4 (Cod.cons (Cod.xs (Cod.sc (Cod.im (Cod.int .i64)))) (Cod.nil)) (Cod.cons (Cod.arr 0 50 j_lOp) (Cod.cons (Cod.var 1 50 (Cod.cons (Cod.im (Cod.int .i64)) (Cod.cons (Cod.im (Cod.int .i64)) (Cod.cons (Cod.im (Cod.int .i64)) (Cod.cons (Cod.im (Cod.int .i64)) (Cod.cons (Cod.im (Cod.int .i64)) (Cod.cons (Cod.im (Cod.int .i64)) (Cod.cons (Cod.im Cod.str) (Cod.cons (Cod.im Cod.str) (Cod.cons (Cod.im (Cod.int .i64)) (Cod.cons (Cod.im (Cod.int .i64)) (Cod.cons (Cod.im (Cod.fz j_lDot)) (Cod.nil))))))))))))) (Cod.nil)))) (fun p => (p.1.1, (Op.mk (Dot.mk p.2.2.1.1 p.2.2.1.2.1 p.2.2.1.2.2.1) p.2.2.1.2.2.2.1 p.2.2.1.2.2.2.2.1 p.2.2.1.2.2.2.2.2.1 p.2.2.1.2.2.2.2.2.2.1 p.2.2.1.2.2.2.2.2.2.2.1 p.2.2.1.2.2.2.2.2.2.2.2.1 p.2.2.1.2.2.2.2.2.2.2.2.2.1 p.2.2.1.2.2.2.2.2.2.2.2.2.2.1), p.2.1)) (fun (x : Int × Op × (List Op)) => ((x.1, ()), (x.2.2, ((x.2.1.dot.device, (x.2.1.dot.epoch, (x.2.1.dot.seq, (x.2.1.coll, (x.2.1.ver, (x.2.1.kind, (x.2.1.key, (x.2.1.text, (x.2.1.n, (x.2.1.time, (x.2.1.dots, ()))))))))))), ())))) (fun _ => rfl)
noncomputable def sl_L27b_2 : SFn TL := SFn.two ch_L27b_2.dec (fun p => L27b_2 p.1 p.2.1 p.2.2.1 p.2.2.2.1 p.2.2.2.2) (.exit 0) .ret co0_L27b_2.enc co1_L27b_2.enc
noncomputable def cs_lL27b_2 : List (Nat × DFn TL) := []
noncomputable def ss_lL27b_2 : List (Nat × SFn TL) := []
noncomputable def env_lL27b_2 : Env := envOf tab sl sh [(28, fd28)] []
theorem env_lL27b_2_ok : EnvOK Tryz.prog (mkD cs_lL27b_2 ss_lL27b_2) env_lL27b_2 := envOK_of base (all_cons (st28.okl rfl (all_nil)) (all_nil)) (all_nil)
theorem run_L27b_2 (x : (List Op) × Int × Int × Int × Op) : Out.run (mkO cs_lL27b_2 ss_lL27b_2) (evRound env_lL27b_2 12 20 fd27b.an q_L27b_2 (loopIn (loopsOf fd27b.body) 2) (ch_L27b_2.enc x)) (back2 ch_L27b_2 co0_L27b_2 co1_L27b_2 (.exit 0) .ret) = stp_L27b_2 x := by kernel_rfl
theorem ok_L27b_2 : LoopOK Tryz.prog (oneS sl_L27b_2) nt27 q_L27b_2 (loopIn (loopsOf fd27b.body) 2) :=
  loop_two env_lL27b_2_ok (loops := 12) (k := 20) (an := fd27b.an) (by kernel_rfl) (FnSt.subl rfl st27b.keys (all_cons (.inl (by kernel_rfl)) (all_nil))) ch_L27b_2 co0_L27b_2 co1_L27b_2 (.exit 0) .ret rfl rfl stp_L27b_2 _ run_L27b_2 (fun x y h => ⟨_, h⟩) (fun _ => below_iff.1 rfl)
/-- a loop of local.Delta -/
def step_L12_7 (i1 : Int) (i2 : Int) (l1 : List Op) (i3 : Int) (i4 : Int) (s1 : State) (s2 : State) (s3 : State) : Option ((Int × Int × (List Op) × Int × Int × State × State × State) ⊕ (((Int × Int × State × State × State) ⊕ (Int × Int × State × State × State × (List Slice) × (List Range) × (List Int) × (List Op) × (List Bool) × (List Want) × (List Op))))) :=
  cond ((decide (i4 < i3)))
    (cond (decide (0 ≤ i4))
      (ob (l1[i4.toNat]?) fun e0 =>
      cond ((decide (e0.coll ≥ 0)))
        (cond ((decide (e0.coll < (s3.subs.length : Int))))
          (cond (decide (0 ≤ e0.coll))
            (cond (decide (e0.coll < (s3.subs.length : Int)))
              (ob (s3.subs[e0.coll.toNat]?) fun e1 =>
              cond ((!e1))
                (ob (localOwn s1) fun y2 =>
                some (.inr (.inr (i1, 1, s1, y2, s3, s2.lease.slices, s2.lease.ids, s2.lease.used, s2.pending, s2.subs, s2.cmd.wants, s2.cmd.ops))))
                (cond ((decide (e0.coll ≥ 3)))
                  (ob (localOwn s1) fun y3 =>
                  some (.inr (.inr (i1, 1, s1, y3, s3, s2.lease.slices, s2.lease.ids, s2.lease.used, s2.pending, s2.subs, s2.cmd.wants, s2.cmd.ops))))
                  (cond ((decide (e0.ver > s3.ver)))
                    (ob (localOwn s1) fun y6 =>
                    some (.inr (.inr (i1, 13, s1, y6, s3, s2.lease.slices, s2.lease.ids, s2.lease.used, s2.pending, s2.subs, s2.cmd.wants, s2.cmd.ops))))
                    (cond (decide (e0.coll = 0))
                      (ob (apply_ s3.colls.a0 e0) fun r7 =>
                      cond ((r7.2 != 0))
                        (ob (localOwn s1) fun y10 =>
                        some (.inr (.inr (i1, r7.2, s1, y10, s3, s2.lease.slices, s2.lease.ids, s2.lease.used, s2.pending, s2.subs, s2.cmd.wants, s2.cmd.ops))))
                        (cond (decide (e0.coll = 0))
                          (ob (L27b_2 s3.pending 0 (s3.pending.length : Int) 0 e0) fun y11 =>
                          two y11 (fun a12 =>
                            some (.inl (i1, i2, l1, i3, (w64 (i4 + 1)), s1, s2, (State.mk s3.device s3.epoch s3.lease s3.ends s3.seq s3.sent a12.2.2 (A3Coll.mk r7.1 s3.colls.a1 s3.colls.a2) s3.at_ s3.ver s3.subs s3.req s3.asked s3.cmd s3.fenced s3.now)))) (fun b13 =>
                            cond ((decide (b13.1 ≥ 0)))
                              (cond (decide (0 ≤ b13.1))
                                (cond (decide (b13.1 ≤ (w64 (b13.1 + 1))))
                                  (cond (decide ((w64 (b13.1 + 1)) ≤ (b13.2.2.length : Int)))
                                    (cond (fits b13.2.2.length)
                                      (some (.inl (i1, i2, l1, i3, (w64 (i4 + 1)), s1, s2, (State.mk s3.device s3.epoch s3.lease s3.ends s3.seq (max2 s3.sent b13.2.1.dot.seq) ((b13.2.2.take b13.1.toNat) ++ ((b13.2.2.take b13.2.2.length).drop (((w64 (b13.1 + 1))).toNat))) (A3Coll.mk r7.1 s3.colls.a1 s3.colls.a2) s3.at_ s3.ver s3.subs s3.req s3.asked s3.cmd s3.fenced s3.now))))
                                      (none))
                                    (none))
                                  (none))
                                (none))
                              (some (.inl (i1, i2, l1, i3, (w64 (i4 + 1)), s1, s2, (State.mk s3.device s3.epoch s3.lease s3.ends s3.seq s3.sent b13.2.2 (A3Coll.mk r7.1 s3.colls.a1 s3.colls.a2) s3.at_ s3.ver s3.subs s3.req s3.asked s3.cmd s3.fenced s3.now))))))
                          (cond (decide (e0.coll = 1))
                            (ob (L27b_2 s3.pending 0 (s3.pending.length : Int) 0 e0) fun y14 =>
                            two y14 (fun a15 =>
                              some (.inl (i1, i2, l1, i3, (w64 (i4 + 1)), s1, s2, (State.mk s3.device s3.epoch s3.lease s3.ends s3.seq s3.sent a15.2.2 (A3Coll.mk s3.colls.a0 r7.1 s3.colls.a2) s3.at_ s3.ver s3.subs s3.req s3.asked s3.cmd s3.fenced s3.now)))) (fun b16 =>
                              cond ((decide (b16.1 ≥ 0)))
                                (cond (decide (0 ≤ b16.1))
                                  (cond (decide (b16.1 ≤ (w64 (b16.1 + 1))))
                                    (cond (decide ((w64 (b16.1 + 1)) ≤ (b16.2.2.length : Int)))
                                      (cond (fits b16.2.2.length)
                                        (some (.inl (i1, i2, l1, i3, (w64 (i4 + 1)), s1, s2, (State.mk s3.device s3.epoch s3.lease s3.ends s3.seq (max2 s3.sent b16.2.1.dot.seq) ((b16.2.2.take b16.1.toNat) ++ ((b16.2.2.take b16.2.2.length).drop (((w64 (b16.1 + 1))).toNat))) (A3Coll.mk s3.colls.a0 r7.1 s3.colls.a2) s3.at_ s3.ver s3.subs s3.req s3.asked s3.cmd s3.fenced s3.now))))
                                        (none))
                                      (none))
                                    (none))
                                  (none))
                                (some (.inl (i1, i2, l1, i3, (w64 (i4 + 1)), s1, s2, (State.mk s3.device s3.epoch s3.lease s3.ends s3.seq s3.sent b16.2.2 (A3Coll.mk s3.colls.a0 r7.1 s3.colls.a2) s3.at_ s3.ver s3.subs s3.req s3.asked s3.cmd s3.fenced s3.now))))))
                            (cond (decide (e0.coll = 2))
                              (ob (L27b_2 s3.pending 0 (s3.pending.length : Int) 0 e0) fun y17 =>
                              two y17 (fun a18 =>
                                some (.inl (i1, i2, l1, i3, (w64 (i4 + 1)), s1, s2, (State.mk s3.device s3.epoch s3.lease s3.ends s3.seq s3.sent a18.2.2 (A3Coll.mk s3.colls.a0 s3.colls.a1 r7.1) s3.at_ s3.ver s3.subs s3.req s3.asked s3.cmd s3.fenced s3.now)))) (fun b19 =>
                                cond ((decide (b19.1 ≥ 0)))
                                  (cond (decide (0 ≤ b19.1))
                                    (cond (decide (b19.1 ≤ (w64 (b19.1 + 1))))
                                      (cond (decide ((w64 (b19.1 + 1)) ≤ (b19.2.2.length : Int)))
                                        (cond (fits b19.2.2.length)
                                          (some (.inl (i1, i2, l1, i3, (w64 (i4 + 1)), s1, s2, (State.mk s3.device s3.epoch s3.lease s3.ends s3.seq (max2 s3.sent b19.2.1.dot.seq) ((b19.2.2.take b19.1.toNat) ++ ((b19.2.2.take b19.2.2.length).drop (((w64 (b19.1 + 1))).toNat))) (A3Coll.mk s3.colls.a0 s3.colls.a1 r7.1) s3.at_ s3.ver s3.subs s3.req s3.asked s3.cmd s3.fenced s3.now))))
                                          (none))
                                        (none))
                                      (none))
                                    (none))
                                  (some (.inl (i1, i2, l1, i3, (w64 (i4 + 1)), s1, s2, (State.mk s3.device s3.epoch s3.lease s3.ends s3.seq s3.sent b19.2.2 (A3Coll.mk s3.colls.a0 s3.colls.a1 r7.1) s3.at_ s3.ver s3.subs s3.req s3.asked s3.cmd s3.fenced s3.now))))))
                              (none)))))
                      (cond (decide (e0.coll = 1))
                        (ob (apply_ s3.colls.a1 e0) fun r8 =>
                        cond ((r8.2 != 0))
                          (ob (localOwn s1) fun y20 =>
                          some (.inr (.inr (i1, r8.2, s1, y20, s3, s2.lease.slices, s2.lease.ids, s2.lease.used, s2.pending, s2.subs, s2.cmd.wants, s2.cmd.ops))))
                          (cond (decide (e0.coll = 0))
                            (ob (L27b_2 s3.pending 0 (s3.pending.length : Int) 0 e0) fun y21 =>
                            two y21 (fun a22 =>
                              some (.inl (i1, i2, l1, i3, (w64 (i4 + 1)), s1, s2, (State.mk s3.device s3.epoch s3.lease s3.ends s3.seq s3.sent a22.2.2 (A3Coll.mk r8.1 s3.colls.a1 s3.colls.a2) s3.at_ s3.ver s3.subs s3.req s3.asked s3.cmd s3.fenced s3.now)))) (fun b23 =>
                              cond ((decide (b23.1 ≥ 0)))
                                (cond (decide (0 ≤ b23.1))
                                  (cond (decide (b23.1 ≤ (w64 (b23.1 + 1))))
                                    (cond (decide ((w64 (b23.1 + 1)) ≤ (b23.2.2.length : Int)))
                                      (cond (fits b23.2.2.length)
                                        (some (.inl (i1, i2, l1, i3, (w64 (i4 + 1)), s1, s2, (State.mk s3.device s3.epoch s3.lease s3.ends s3.seq (max2 s3.sent b23.2.1.dot.seq) ((b23.2.2.take b23.1.toNat) ++ ((b23.2.2.take b23.2.2.length).drop (((w64 (b23.1 + 1))).toNat))) (A3Coll.mk r8.1 s3.colls.a1 s3.colls.a2) s3.at_ s3.ver s3.subs s3.req s3.asked s3.cmd s3.fenced s3.now))))
                                        (none))
                                      (none))
                                    (none))
                                  (none))
                                (some (.inl (i1, i2, l1, i3, (w64 (i4 + 1)), s1, s2, (State.mk s3.device s3.epoch s3.lease s3.ends s3.seq s3.sent b23.2.2 (A3Coll.mk r8.1 s3.colls.a1 s3.colls.a2) s3.at_ s3.ver s3.subs s3.req s3.asked s3.cmd s3.fenced s3.now))))))
                            (cond (decide (e0.coll = 1))
                              (ob (L27b_2 s3.pending 0 (s3.pending.length : Int) 0 e0) fun y24 =>
                              two y24 (fun a25 =>
                                some (.inl (i1, i2, l1, i3, (w64 (i4 + 1)), s1, s2, (State.mk s3.device s3.epoch s3.lease s3.ends s3.seq s3.sent a25.2.2 (A3Coll.mk s3.colls.a0 r8.1 s3.colls.a2) s3.at_ s3.ver s3.subs s3.req s3.asked s3.cmd s3.fenced s3.now)))) (fun b26 =>
                                cond ((decide (b26.1 ≥ 0)))
                                  (cond (decide (0 ≤ b26.1))
                                    (cond (decide (b26.1 ≤ (w64 (b26.1 + 1))))
                                      (cond (decide ((w64 (b26.1 + 1)) ≤ (b26.2.2.length : Int)))
                                        (cond (fits b26.2.2.length)
                                          (some (.inl (i1, i2, l1, i3, (w64 (i4 + 1)), s1, s2, (State.mk s3.device s3.epoch s3.lease s3.ends s3.seq (max2 s3.sent b26.2.1.dot.seq) ((b26.2.2.take b26.1.toNat) ++ ((b26.2.2.take b26.2.2.length).drop (((w64 (b26.1 + 1))).toNat))) (A3Coll.mk s3.colls.a0 r8.1 s3.colls.a2) s3.at_ s3.ver s3.subs s3.req s3.asked s3.cmd s3.fenced s3.now))))
                                          (none))
                                        (none))
                                      (none))
                                    (none))
                                  (some (.inl (i1, i2, l1, i3, (w64 (i4 + 1)), s1, s2, (State.mk s3.device s3.epoch s3.lease s3.ends s3.seq s3.sent b26.2.2 (A3Coll.mk s3.colls.a0 r8.1 s3.colls.a2) s3.at_ s3.ver s3.subs s3.req s3.asked s3.cmd s3.fenced s3.now))))))
                              (cond (decide (e0.coll = 2))
                                (ob (L27b_2 s3.pending 0 (s3.pending.length : Int) 0 e0) fun y27 =>
                                two y27 (fun a28 =>
                                  some (.inl (i1, i2, l1, i3, (w64 (i4 + 1)), s1, s2, (State.mk s3.device s3.epoch s3.lease s3.ends s3.seq s3.sent a28.2.2 (A3Coll.mk s3.colls.a0 s3.colls.a1 r8.1) s3.at_ s3.ver s3.subs s3.req s3.asked s3.cmd s3.fenced s3.now)))) (fun b29 =>
                                  cond ((decide (b29.1 ≥ 0)))
                                    (cond (decide (0 ≤ b29.1))
                                      (cond (decide (b29.1 ≤ (w64 (b29.1 + 1))))
                                        (cond (decide ((w64 (b29.1 + 1)) ≤ (b29.2.2.length : Int)))
                                          (cond (fits b29.2.2.length)
                                            (some (.inl (i1, i2, l1, i3, (w64 (i4 + 1)), s1, s2, (State.mk s3.device s3.epoch s3.lease s3.ends s3.seq (max2 s3.sent b29.2.1.dot.seq) ((b29.2.2.take b29.1.toNat) ++ ((b29.2.2.take b29.2.2.length).drop (((w64 (b29.1 + 1))).toNat))) (A3Coll.mk s3.colls.a0 s3.colls.a1 r8.1) s3.at_ s3.ver s3.subs s3.req s3.asked s3.cmd s3.fenced s3.now))))
                                            (none))
                                          (none))
                                        (none))
                                      (none))
                                    (some (.inl (i1, i2, l1, i3, (w64 (i4 + 1)), s1, s2, (State.mk s3.device s3.epoch s3.lease s3.ends s3.seq s3.sent b29.2.2 (A3Coll.mk s3.colls.a0 s3.colls.a1 r8.1) s3.at_ s3.ver s3.subs s3.req s3.asked s3.cmd s3.fenced s3.now))))))
                                (none)))))
                        (cond (decide (e0.coll = 2))
                          (ob (apply_ s3.colls.a2 e0) fun r9 =>
                          cond ((r9.2 != 0))
                            (ob (localOwn s1) fun y30 =>
                            some (.inr (.inr (i1, r9.2, s1, y30, s3, s2.lease.slices, s2.lease.ids, s2.lease.used, s2.pending, s2.subs, s2.cmd.wants, s2.cmd.ops))))
                            (cond (decide (e0.coll = 0))
                              (ob (L27b_2 s3.pending 0 (s3.pending.length : Int) 0 e0) fun y31 =>
                              two y31 (fun a32 =>
                                some (.inl (i1, i2, l1, i3, (w64 (i4 + 1)), s1, s2, (State.mk s3.device s3.epoch s3.lease s3.ends s3.seq s3.sent a32.2.2 (A3Coll.mk r9.1 s3.colls.a1 s3.colls.a2) s3.at_ s3.ver s3.subs s3.req s3.asked s3.cmd s3.fenced s3.now)))) (fun b33 =>
                                cond ((decide (b33.1 ≥ 0)))
                                  (cond (decide (0 ≤ b33.1))
                                    (cond (decide (b33.1 ≤ (w64 (b33.1 + 1))))
                                      (cond (decide ((w64 (b33.1 + 1)) ≤ (b33.2.2.length : Int)))
                                        (cond (fits b33.2.2.length)
                                          (some (.inl (i1, i2, l1, i3, (w64 (i4 + 1)), s1, s2, (State.mk s3.device s3.epoch s3.lease s3.ends s3.seq (max2 s3.sent b33.2.1.dot.seq) ((b33.2.2.take b33.1.toNat) ++ ((b33.2.2.take b33.2.2.length).drop (((w64 (b33.1 + 1))).toNat))) (A3Coll.mk r9.1 s3.colls.a1 s3.colls.a2) s3.at_ s3.ver s3.subs s3.req s3.asked s3.cmd s3.fenced s3.now))))
                                          (none))
                                        (none))
                                      (none))
                                    (none))
                                  (some (.inl (i1, i2, l1, i3, (w64 (i4 + 1)), s1, s2, (State.mk s3.device s3.epoch s3.lease s3.ends s3.seq s3.sent b33.2.2 (A3Coll.mk r9.1 s3.colls.a1 s3.colls.a2) s3.at_ s3.ver s3.subs s3.req s3.asked s3.cmd s3.fenced s3.now))))))
                              (cond (decide (e0.coll = 1))
                                (ob (L27b_2 s3.pending 0 (s3.pending.length : Int) 0 e0) fun y34 =>
                                two y34 (fun a35 =>
                                  some (.inl (i1, i2, l1, i3, (w64 (i4 + 1)), s1, s2, (State.mk s3.device s3.epoch s3.lease s3.ends s3.seq s3.sent a35.2.2 (A3Coll.mk s3.colls.a0 r9.1 s3.colls.a2) s3.at_ s3.ver s3.subs s3.req s3.asked s3.cmd s3.fenced s3.now)))) (fun b36 =>
                                  cond ((decide (b36.1 ≥ 0)))
                                    (cond (decide (0 ≤ b36.1))
                                      (cond (decide (b36.1 ≤ (w64 (b36.1 + 1))))
                                        (cond (decide ((w64 (b36.1 + 1)) ≤ (b36.2.2.length : Int)))
                                          (cond (fits b36.2.2.length)
                                            (some (.inl (i1, i2, l1, i3, (w64 (i4 + 1)), s1, s2, (State.mk s3.device s3.epoch s3.lease s3.ends s3.seq (max2 s3.sent b36.2.1.dot.seq) ((b36.2.2.take b36.1.toNat) ++ ((b36.2.2.take b36.2.2.length).drop (((w64 (b36.1 + 1))).toNat))) (A3Coll.mk s3.colls.a0 r9.1 s3.colls.a2) s3.at_ s3.ver s3.subs s3.req s3.asked s3.cmd s3.fenced s3.now))))
                                            (none))
                                          (none))
                                        (none))
                                      (none))
                                    (some (.inl (i1, i2, l1, i3, (w64 (i4 + 1)), s1, s2, (State.mk s3.device s3.epoch s3.lease s3.ends s3.seq s3.sent b36.2.2 (A3Coll.mk s3.colls.a0 r9.1 s3.colls.a2) s3.at_ s3.ver s3.subs s3.req s3.asked s3.cmd s3.fenced s3.now))))))
                                (cond (decide (e0.coll = 2))
                                  (ob (L27b_2 s3.pending 0 (s3.pending.length : Int) 0 e0) fun y37 =>
                                  two y37 (fun a38 =>
                                    some (.inl (i1, i2, l1, i3, (w64 (i4 + 1)), s1, s2, (State.mk s3.device s3.epoch s3.lease s3.ends s3.seq s3.sent a38.2.2 (A3Coll.mk s3.colls.a0 s3.colls.a1 r9.1) s3.at_ s3.ver s3.subs s3.req s3.asked s3.cmd s3.fenced s3.now)))) (fun b39 =>
                                    cond ((decide (b39.1 ≥ 0)))
                                      (cond (decide (0 ≤ b39.1))
                                        (cond (decide (b39.1 ≤ (w64 (b39.1 + 1))))
                                          (cond (decide ((w64 (b39.1 + 1)) ≤ (b39.2.2.length : Int)))
                                            (cond (fits b39.2.2.length)
                                              (some (.inl (i1, i2, l1, i3, (w64 (i4 + 1)), s1, s2, (State.mk s3.device s3.epoch s3.lease s3.ends s3.seq (max2 s3.sent b39.2.1.dot.seq) ((b39.2.2.take b39.1.toNat) ++ ((b39.2.2.take b39.2.2.length).drop (((w64 (b39.1 + 1))).toNat))) (A3Coll.mk s3.colls.a0 s3.colls.a1 r9.1) s3.at_ s3.ver s3.subs s3.req s3.asked s3.cmd s3.fenced s3.now))))
                                              (none))
                                            (none))
                                          (none))
                                        (none))
                                      (some (.inl (i1, i2, l1, i3, (w64 (i4 + 1)), s1, s2, (State.mk s3.device s3.epoch s3.lease s3.ends s3.seq s3.sent b39.2.2 (A3Coll.mk s3.colls.a0 s3.colls.a1 r9.1) s3.at_ s3.ver s3.subs s3.req s3.asked s3.cmd s3.fenced s3.now))))))
                                  (none)))))
                          (none)))))))
              (none))
            (none))
          (ob (localOwn s1) fun y4 =>
          some (.inr (.inr (i1, 1, s1, y4, s3, s2.lease.slices, s2.lease.ids, s2.lease.used, s2.pending, s2.subs, s2.cmd.wants, s2.cmd.ops)))))
        (ob (localOwn s1) fun y5 =>
        some (.inr (.inr (i1, 1, s1, y5, s3, s2.lease.slices, s2.lease.ids, s2.lease.used, s2.pending, s2.subs, s2.cmd.wants, s2.cmd.ops)))))
      (none))
    (some (.inr (.inl (i1, i2, s1, s2, s3))))
def stp_L12_7 (p : Int × Int × (List Op) × Int × Int × State × State × State) : Option ((Int × Int × (List Op) × Int × Int × State × State × State) ⊕ (((Int × Int × State × State × State) ⊕ (Int × Int × State × State × State × (List Slice) × (List Range) × (List Int) × (List Op) × (List Bool) × (List Want) × (List Op))))) := step_L12_7 p.1 p.2.1 p.2.2.1 p.2.2.2.1 p.2.2.2.2.1 p.2.2.2.2.2.1 p.2.2.2.2.2.2.1 p.2.2.2.2.2.2.2
def L12_7 (i1 : Int) (i2 : Int) (l1 : List Op) (i3 : Int) (i4 : Int) (s1 : State) (s2 : State) (s3 : State) : Option (((Int × Int × State × State × State) ⊕ (Int × Int × State × State × State × (List Slice) × (List Range) × (List Int) × (List Op) × (List Bool) × (List Want) × (List Op)))) := iterO stp_L12_7 ((i3 - i4).toNat + 2) (i1, i2, l1, i3, i4, s1, s2, s3)
def ch_L12_7 : Cod (Cst TL) (Int × Int × (List Op) × Int × Int × State × State × State) := Cod.iso (Cod.cst 16 (Cod.cons (Cod.xs (Cod.sc (Cod.im (Cod.int .i64)))) (Cod.cons (Cod.xs (Cod.sc (Cod.ptr 0 0))) (Cod.cons (Cod.xs (Cod.sc (Cod.ptr 1 0))) (Cod.cons (Cod.xs (Cod.sc (Cod.im (Cod.int .i64)))) (Cod.cons (Cod.xs (Cod.sc (Cod.ptr 2 0))) (Cod.cons (Cod.xs (Cod.sc (Cod.im (Cod.fz j_lOp)))) (Cod.cons (Cod.xs (Cod.sc (Cod.im (Cod.int .i64)))) (Cod.cons (Cod.xs (Cod.sc (Cod.im (Cod.int .i64)))) (Cod.nil))))))))) (Cod.cons (Cod.var 0 43 (Cod.cons (Cod.im (Cod.int .i64)) (Cod.cons (Cod.im (Cod.int .i64)) (Cod.cons (Cod.im (Cod.int .i64)) (Cod.cons (Cod.im (Cod.int .i64)) (Cod.cons (Cod.im (Cod.int .i64)) (Cod.cons (Cod.im (Cod.int .i64)) (Cod.cons (Cod.im (Cod.fz j_lSlice)) (Cod.cons (Cod.im (Cod.fz j_lRange)) (Cod.cons (Cod.im (Cod.fz j_lInt)) (Cod.cons (Cod.im (Cod.int .i64)) (Cod.cons (Cod.im (Cod.int .i64)) (Cod.cons (Cod.im (Cod.int .i64)) (Cod.cons (Cod.im (Cod.fz j_lOp)) (Cod.cons (Cod.im (Cod.fz j_lDot)) (Cod.cons (Cod.im (Cod.fz j_lReg)) (Cod.cons (Cod.im (Cod.fz j_lElem)) (Cod.cons (Cod.im (Cod.fz j_lDot)) (Cod.cons (Cod.im (Cod.fz j_lSum)) (Cod.cons (Cod.im (Cod.fz j_lBind)) (Cod.cons (Cod.im (Cod.fz j_lDot)) (Cod.cons (Cod.im (Cod.fz j_lReg)) (Cod.cons (Cod.im (Cod.fz j_lElem)) (Cod.cons (Cod.im (Cod.fz j_lDot)) (Cod.cons (Cod.im (Cod.fz j_lSum)) (Cod.cons (Cod.im (Cod.fz j_lBind)) (Cod.cons (Cod.im (Cod.fz j_lDot)) (Cod.cons (Cod.im (Cod.fz j_lReg)) (Cod.cons (Cod.im (Cod.fz j_lElem)) (Cod.cons (Cod.im (Cod.fz j_lDot)) (Cod.cons (Cod.im (Cod.fz j_lSum)) (Cod.cons (Cod.im (Cod.fz j_lBind)) (Cod.cons (Cod.im (Cod.int .i64)) (Cod.cons (Cod.im (Cod.int .i64)) (Cod.cons (Cod.im (Cod.fz j_lBool)) (Cod.cons (Cod.im (Cod.int .i64)) (Cod.cons (Cod.im (Cod.int .i64)) (Cod.cons (Cod.im (Cod.int .i64)) (Cod.cons (Cod.im (Cod.int .i64)) (Cod.cons (Cod.im (Cod.int .i64)) (Cod.cons (Cod.im (Cod.int .i64)) (Cod.cons (Cod.im (Cod.int .i64)) (Cod.cons (Cod.im (Cod.fz j_lWant)) (Cod.cons (Cod.im (Cod.fz j_lOp)) (Cod.cons (Cod.im Cod.bool) (Cod.cons (Cod.im (Cod.int .i64)) (Cod.nil))))))))))))))))))))))))))))))))))))))))))))))) (Cod.cons (Cod.var 1 43 (Cod.cons (Cod.im (Cod.int .i64)) (Cod.cons (Cod.im (Cod.int .i64)) (Cod.cons (Cod.im (Cod.int .i64)) (Cod.cons (Cod.im (Cod.int .i64)) (Cod.cons (Cod.im (Cod.int .i64)) (Cod.cons (Cod.im (Cod.int .i64)) (Cod.cons (Cod.ar 3) (Cod.cons (Cod.ar 4) (Cod.cons (Cod.ar 5) (Cod.cons (Cod.im (Cod.int .i64)) (Cod.cons (Cod.im (Cod.int .i64)) (Cod.cons (Cod.im (Cod.int .i64)) (Cod.cons (Cod.ar 6) (Cod.cons (Cod.im (Cod.fz j_lDot)) (Cod.cons (Cod.im (Cod.fz j_lReg)) (Cod.cons (Cod.im (Cod.fz j_lElem)) (Cod.cons (Cod.im (Cod.fz j_lDot)) (Cod.cons (Cod.im (Cod.fz j_lSum)) (Cod.cons (Cod.im (Cod.fz j_lBind)) (Cod.cons (Cod.im (Cod.fz j_lDot)) (Cod.cons (Cod.im (Cod.fz j_lReg)) (Cod.cons (Cod.im (Cod.fz j_lElem)) (Cod.cons (Cod.im (Cod.fz j_lDot)) (Cod.cons (Cod.im (Cod.fz j_lSum)) (Cod.cons (Cod.im (Cod.fz j_lBind)) (Cod.cons (Cod.im (Cod.fz j_lDot)) (Cod.cons (Cod.im (Cod.fz j_lReg)) (Cod.cons (Cod.im (Cod.fz j_lElem)) (Cod.cons (Cod.im (Cod.fz j_lDot)) (Cod.cons (Cod.im (Cod.fz j_lSum)) (Cod.cons (Cod.im (Cod.fz j_lBind)) (Cod.cons (Cod.im (Cod.int .i64)) (Cod.cons (Cod.im (Cod.int .i64)) (Cod.cons (Cod.ar 7) (Cod.cons (Cod.im (Cod.int .i64)) (Cod.cons (Cod.im (Cod.int .i64)) (Cod.cons (Cod.im (Cod.int .i64)) (Cod.cons (Cod.im (Cod.int .i64)) (Cod.cons (Cod.im (Cod.int .i64)) (Cod.cons (Cod.im (Cod.int .i64)) (Cod.cons (Cod.im (Cod.int .i64)) (Cod.cons (Cod.ar 8) (Cod.cons (Cod.ar 9) (Cod.cons (Cod.im Cod.bool) (Cod.cons (Cod.im (Cod.int .i64)) (Cod.nil))))))))))))))))))))))))))))))))))))))))))))))) (Cod.cons (Cod.var 2 43 (Cod.cons (Cod.im (Cod.int .i64)) (Cod.cons (Cod.im (Cod.int .i64)) (Cod.cons (Cod.im (Cod.int .i64)) (Cod.cons (Cod.im (Cod.int .i64)) (Cod.cons (Cod.im (Cod.int .i64)) (Cod.cons (Cod.im (Cod.int .i64)) (Cod.cons (Cod.ar 10) (Cod.cons (Cod.ar 11) (Cod.cons (Cod.ar 12) (Cod.cons (Cod.im (Cod.int .i64)) (Cod.cons (Cod.im (Cod.int .i64)) (Cod.cons (Cod.im (Cod.int .i64)) (Cod.cons (Cod.ar 13) (Cod.cons (Cod.im (Cod.fz j_lDot)) (Cod.cons (Cod.im (Cod.fz j_lReg)) (Cod.cons (Cod.im (Cod.fz j_lElem)) (Cod.cons (Cod.im (Cod.fz j_lDot)) (Cod.cons (Cod.im (Cod.fz j_lSum)) (Cod.cons (Cod.im (Cod.fz j_lBind)) (Cod.cons (Cod.im (Cod.fz j_lDot)) (Cod.cons (Cod.im (Cod.fz j_lReg)) (Cod.cons (Cod.im (Cod.fz j_lElem)) (Cod.cons (Cod.im (Cod.fz j_lDot)) (Cod.cons (Cod.im (Cod.fz j_lSum)) (Cod.cons (Cod.im (Cod.fz j_lBind)) (Cod.cons (Cod.im (Cod.fz j_lDot)) (Cod.cons (Cod.im (Cod.fz j_lReg)) (Cod.cons (Cod.im (Cod.fz j_lElem)) (Cod.cons (Cod.im (Cod.fz j_lDot)) (Cod.cons (Cod.im (Cod.fz j_lSum)) (Cod.cons (Cod.im (Cod.fz j_lBind)) (Cod.cons (Cod.im (Cod.int .i64)) (Cod.cons (Cod.im (Cod.int .i64)) (Cod.cons (Cod.ar 14) (Cod.cons (Cod.im (Cod.int .i64)) (Cod.cons (Cod.im (Cod.int .i64)) (Cod.cons (Cod.im (Cod.int .i64)) (Cod.cons (Cod.im (Cod.int .i64)) (Cod.cons (Cod.im (Cod.int .i64)) (Cod.cons (Cod.im (Cod.int .i64)) (Cod.cons (Cod.im (Cod.int .i64)) (Cod.cons (Cod.ar 15) (Cod.cons (Cod.im (Cod.fz j_lOp)) (Cod.cons (Cod.im Cod.bool) (Cod.cons (Cod.im (Cod.int .i64)) (Cod.nil))))))))))))))))))))))))))))))))))))))))))))))) (Cod.cons (Cod.arr 3 62 j_lSlice) (Cod.cons (Cod.arr 4 98 j_lRange) (Cod.cons (Cod.arr 5 3 j_lInt) (Cod.cons (Cod.arr 6 50 j_lOp) (Cod.cons (Cod.arr 7 4 j_lBool) (Cod.cons (Cod.arr 8 89 j_lWant) (Cod.cons (Cod.arr 9 50 j_lOp) (Cod.cons (Cod.arr 10 62 j_lSlice) (Cod.cons (Cod.arr 11 98 j_lRange) (Cod.cons (Cod.arr 12 3 j_lInt) (Cod.cons (Cod.arr 13 50 j_lOp) (Cod.cons (Cod.arr 14 4 j_lBool) (Cod.cons (Cod.arr 15 89 j_lWant) (Cod.nil)))))))))))))))))) (fun p => (p.1.1, p.1.2.2.2.1, p.1.2.2.2.2.2.1, p.1.2.2.2.2.2.2.1, p.1.2.2.2.2.2.2.2.1, (State.mk p.2.1.1 p.2.1.2.1 (Lease.mk p.2.1.2.2.1 p.2.1.2.2.2.1 p.2.1.2.2.2.2.1 p.2.1.2.2.2.2.2.1 p.2.1.2.2.2.2.2.2.1 p.2.1.2.2.2.2.2.2.2.1 p.2.1.2.2.2.2.2.2.2.2.1) p.2.1.2.2.2.2.2.2.2.2.2.1 p.2.1.2.2.2.2.2.2.2.2.2.2.1 p.2.1.2.2.2.2.2.2.2.2.2.2.2.1 p.2.1.2.2.2.2.2.2.2.2.2.2.2.2.1 (A3Coll.mk (Coll.mk p.2.1.2.2.2.2.2.2.2.2.2.2.2.2.2.1 p.2.1.2.2.2.2.2.2.2.2.2.2.2.2.2.2.1 p.2.1.2.2.2.2.2.2.2.2.2.2.2.2.2.2.2.1 p.2.1.2.2.2.2.2.2.2.2.2.2.2.2.2.2.2.2.1 p.2.1.2.2.2.2.2.2.2.2.2.2.2.2.2.2.2.2.2.1 p.2.1.2.2.2.2.2.2.2.2.2.2.2.2.2.2.2.2.2.2.1) (Coll.mk p.2.1.2.2.2.2.2.2.2.2.2.2.2.2.2.2.2.2.2.2.2.1 p.2.1.2.2.2.2.2.2.2.2.2.2.2.2.2.2.2.2.2.2.2.2.1 p.2.1.2.2.2.2.2.2.2.2.2.2.2.2.2.2.2.2.2.2.2.2.2.1 p.2.1.2.2.2.2.2.2.2.2.2.2.2.2.2.2.2.2.2.2.2.2.2.2.1 p.2.1.2.2.2.2.2.2.2.2.2.2.2.2.2.2.2.2.2.2.2.2.2.2.2.1 p.2.1.2.2.2.2.2.2.2.2.2.2.2.2.2.2.2.2.2.2.2.2.2.2.2.2.1) (Coll.mk p.2.1.2.2.2.2.2.2.2.2.2.2.2.2.2.2.2.2.2.2.2.2.2.2.2.2.2.1 p.2.1.2.2.2.2.2.2.2.2.2.2.2.2.2.2.2.2.2.2.2.2.2.2.2.2.2.2.1 p.2.1.2.2.2.2.2.2.2.2.2.2.2.2.2.2.2.2.2.2.2.2.2.2.2.2.2.2.2.1 p.2.1.2.2.2.2.2.2.2.2.2.2.2.2.2.2.2.2.2.2.2.2.2.2.2.2.2.2.2.2.1 p.2.1.2.2.2.2.2.2.2.2.2.2.2.2.2.2.2.2.2.2.2.2.2.2.2.2.2.2.2.2.2.1 p.2.1.2.2.2.2.2.2.2.2.2.2.2.2.2.2.2.2.2.2.2.2.2.2.2.2.2.2.2.2.2.2.1)) p.2.1.2.2.2.2.2.2.2.2.2.2.2.2.2.2.2.2.2.2.2.2.2.2.2.2.2.2.2.2.2.2.2.1 p.2.1.2.2.2.2.2.2.2.2.2.2.2.2.2.2.2.2.2.2.2.2.2.2.2.2.2.2.2.2.2.2.2.2.1 p.2.1.2.2.2.2.2.2.2.2.2.2.2.2.2.2.2.2.2.2.2.2.2.2.2.2.2.2.2.2.2.2.2.2.2.1 p.2.1.2.2.2.2.2.2.2.2.2.2.2.2.2.2.2.2.2.2.2.2.2.2.2.2.2.2.2.2.2.2.2.2.2.2.1 p.2.1.2.2.2.2.2.2.2.2.2.2.2.2.2.2.2.2.2.2.2.2.2.2.2.2.2.2.2.2.2.2.2.2.2.2.2.1 (Cmd.mk p.2.1.2.2.2.2.2.2.2.2.2.2.2.2.2.2.2.2.2.2.2.2.2.2.2.2.2.2.2.2.2.2.2.2.2.2.2.2.1 p.2.1.2.2.2.2.2.2.2.2.2.2.2.2.2.2.2.2.2.2.2.2.2.2.2.2.2.2.2.2.2.2.2.2.2.2.2.2.2.1 p.2.1.2.2.2.2.2.2.2.2.2.2.2.2.2.2.2.2.2.2.2.2.2.2.2.2.2.2.2.2.2.2.2.2.2.2.2.2.2.2.1 p.2.1.2.2.2.2.2.2.2.2.2.2.2.2.2.2.2.2.2.2.2.2.2.2.2.2.2.2.2.2.2.2.2.2.2.2.2.2.2.2.2.1 p.2.1.2.2.2.2.2.2.2.2.2.2.2.2.2.2.2.2.2.2.2.2.2.2.2.2.2.2.2.2.2.2.2.2.2.2.2.2.2.2.2.2.1 p.2.1.2.2.2.2.2.2.2.2.2.2.2.2.2.2.2.2.2.2.2.2.2.2.2.2.2.2.2.2.2.2.2.2.2.2.2.2.2.2.2.2.2.1 p.2.1.2.2.2.2.2.2.2.2.2.2.2.2.2.2.2.2.2.2.2.2.2.2.2.2.2.2.2.2.2.2.2.2.2.2.2.2.2.2.2.2.2.2.1) p.2.1.2.2.2.2.2.2.2.2.2.2.2.2.2.2.2.2.2.2.2.2.2.2.2.2.2.2.2.2.2.2.2.2.2.2.2.2.2.2.2.2.2.2.2.1 p.2.1.2.2.2.2.2.2.2.2.2.2.2.2.2.2.2.2.2.2.2.2.2.2.2.2.2.2.2.2.2.2.2.2.2.2.2.2.2.2.2.2.2.2.2.2.1), (State.mk p.2.2.1.1 p.2.2.1.2.1 (Lease.mk p.2.2.1.2.2.1 p.2.2.1.2.2.2.1 p.2.2.1.2.2.2.2.1 p.2.2.1.2.2.2.2.2.1 p.2.2.2.2.1 p.2.2.2.2.2.1 p.2.2.2.2.2.2.1) p.2.2.1.2.2.2.2.2.2.2.2.2.1 p.2.2.1.2.2.2.2.2.2.2.2.2.2.1 p.2.2.1.2.2.2.2.2.2.2.2.2.2.2.1 p.2.2.2.2.2.2.2.1 (A3Coll.mk (Coll.mk p.2.2.1.2.2.2.2.2.2.2.2.2.2.2.2.2.1 p.2.2.1.2.2.2.2.2.2.2.2.2.2.2.2.2.2.1 p.2.2.1.2.2.2.2.2.2.2.2.2.2.2.2.2.2.2.1 p.2.2.1.2.2.2.2.2.2.2.2.2.2.2.2.2.2.2.2.1 p.2.2.1.2.2.2.2.2.2.2.2.2.2.2.2.2.2.2.2.2.1 p.2.2.1.2.2.2.2.2.2.2.2.2.2.2.2.2.2.2.2.2.2.1) (Coll.mk p.2.2.1.2.2.2.2.2.2.2.2.2.2.2.2.2.2.2.2.2.2.2.1 p.2.2.1.2.2.2.2.2.2.2.2.2.2.2.2.2.2.2.2.2.2.2.2.1 p.2.2.1.2.2.2.2.2.2.2.2.2.2.2.2.2.2.2.2.2.2.2.2.2.1 p.2.2.1.2.2.2.2.2.2.2.2.2.2.2.2.2.2.2.2.2.2.2.2.2.2.1 p.2.2.1.2.2.2.2.2.2.2.2.2.2.2.2.2.2.2.2.2.2.2.2.2.2.2.1 p.2.2.1.2.2.2.2.2.2.2.2.2.2.2.2.2.2.2.2.2.2.2.2.2.2.2.2.1) (Coll.mk p.2.2.1.2.2.2.2.2.2.2.2.2.2.2.2.2.2.2.2.2.2.2.2.2.2.2.2.2.1 p.2.2.1.2.2.2.2.2.2.2.2.2.2.2.2.2.2.2.2.2.2.2.2.2.2.2.2.2.2.1 p.2.2.1.2.2.2.2.2.2.2.2.2.2.2.2.2.2.2.2.2.2.2.2.2.2.2.2.2.2.2.1 p.2.2.1.2.2.2.2.2.2.2.2.2.2.2.2.2.2.2.2.2.2.2.2.2.2.2.2.2.2.2.2.1 p.2.2.1.2.2.2.2.2.2.2.2.2.2.2.2.2.2.2.2.2.2.2.2.2.2.2.2.2.2.2.2.2.1 p.2.2.1.2.2.2.2.2.2.2.2.2.2.2.2.2.2.2.2.2.2.2.2.2.2.2.2.2.2.2.2.2.2.1)) p.2.2.1.2.2.2.2.2.2.2.2.2.2.2.2.2.2.2.2.2.2.2.2.2.2.2.2.2.2.2.2.2.2.2.1 p.2.2.1.2.2.2.2.2.2.2.2.2.2.2.2.2.2.2.2.2.2.2.2.2.2.2.2.2.2.2.2.2.2.2.2.1 p.2.2.2.2.2.2.2.2.1 p.2.2.1.2.2.2.2.2.2.2.2.2.2.2.2.2.2.2.2.2.2.2.2.2.2.2.2.2.2.2.2.2.2.2.2.2.2.1 p.2.2.1.2.2.2.2.2.2.2.2.2.2.2.2.2.2.2.2.2.2.2.2.2.2.2.2.2.2.2.2.2.2.2.2.2.2.2.1 (Cmd.mk p.2.2.1.2.2.2.2.2.2.2.2.2.2.2.2.2.2.2.2.2.2.2.2.2.2.2.2.2.2.2.2.2.2.2.2.2.2.2.2.1 p.2.2.1.2.2.2.2.2.2.2.2.2.2.2.2.2.2.2.2.2.2.2.2.2.2.2.2.2.2.2.2.2.2.2.2.2.2.2.2.2.1 p.2.2.1.2.2.2.2.2.2.2.2.2.2.2.2.2.2.2.2.2.2.2.2.2.2.2.2.2.2.2.2.2.2.2.2.2.2.2.2.2.2.1 p.2.2.1.2.2.2.2.2.2.2.2.2.2.2.2.2.2.2.2.2.2.2.2.2.2.2.2.2.2.2.2.2.2.2.2.2.2.2.2.2.2.2.1 p.2.2.1.2.2.2.2.2.2.2.2.2.2.2.2.2.2.2.2.2.2.2.2.2.2.2.2.2.2.2.2.2.2.2.2.2.2.2.2.2.2.2.2.1 p.2.2.2.2.2.2.2.2.2.1 p.2.2.2.2.2.2.2.2.2.2.1) p.2.2.1.2.2.2.2.2.2.2.2.2.2.2.2.2.2.2.2.2.2.2.2.2.2.2.2.2.2.2.2.2.2.2.2.2.2.2.2.2.2.2.2.2.2.2.1 p.2.2.1.2.2.2.2.2.2.2.2.2.2.2.2.2.2.2.2.2.2.2.2.2.2.2.2.2.2.2.2.2.2.2.2.2.2.2.2.2.2.2.2.2.2.2.2.1), (State.mk p.2.2.2.1.1 p.2.2.2.1.2.1 (Lease.mk p.2.2.2.1.2.2.1 p.2.2.2.1.2.2.2.1 p.2.2.2.1.2.2.2.2.1 p.2.2.2.1.2.2.2.2.2.1 p.2.2.2.2.2.2.2.2.2.2.2.1 p.2.2.2.2.2.2.2.2.2.2.2.2.1 p.2.2.2.2.2.2.2.2.2.2.2.2.2.1) p.2.2.2.1.2.2.2.2.2.2.2.2.2.1 p.2.2.2.1.2.2.2.2.2.2.2.2.2.2.1 p.2.2.2.1.2.2.2.2.2.2.2.2.2.2.2.1 p.2.2.2.2.2.2.2.2.2.2.2.2.2.2.1 (A3Coll.mk (Coll.mk p.2.2.2.1.2.2.2.2.2.2.2.2.2.2.2.2.2.1 p.2.2.2.1.2.2.2.2.2.2.2.2.2.2.2.2.2.2.1 p.2.2.2.1.2.2.2.2.2.2.2.2.2.2.2.2.2.2.2.1 p.2.2.2.1.2.2.2.2.2.2.2.2.2.2.2.2.2.2.2.2.1 p.2.2.2.1.2.2.2.2.2.2.2.2.2.2.2.2.2.2.2.2.2.1 p.2.2.2.1.2.2.2.2.2.2.2.2.2.2.2.2.2.2.2.2.2.2.1) (Coll.mk p.2.2.2.1.2.2.2.2.2.2.2.2.2.2.2.2.2.2.2.2.2.2.2.1 p.2.2.2.1.2.2.2.2.2.2.2.2.2.2.2.2.2.2.2.2.2.2.2.2.1 p.2.2.2.1.2.2.2.2.2.2.2.2.2.2.2.2.2.2.2.2.2.2.2.2.2.1 p.2.2.2.1.2.2.2.2.2.2.2.2.2.2.2.2.2.2.2.2.2.2.2.2.2.2.1 p.2.2.2.1.2.2.2.2.2.2.2.2.2.2.2.2.2.2.2.2.2.2.2.2.2.2.2.1 p.2.2.2.1.2.2.2.2.2.2.2.2.2.2.2.2.2.2.2.2.2.2.2.2.2.2.2.2.1) (Coll.mk p.2.2.2.1.2.2.2.2.2.2.2.2.2.2.2.2.2.2.2.2.2.2.2.2.2.2.2.2.2.1 p.2.2.2.1.2.2.2.2.2.2.2.2.2.2.2.2.2.2.2.2.2.2.2.2.2.2.2.2.2.2.1 p.2.2.2.1.2.2.2.2.2.2.2.2.2.2.2.2.2.2.2.2.2.2.2.2.2.2.2.2.2.2.2.1 p.2.2.2.1.2.2.2.2.2.2.2.2.2.2.2.2.2.2.2.2.2.2.2.2.2.2.2.2.2.2.2.2.1 p.2.2.2.1.2.2.2.2.2.2.2.2.2.2.2.2.2.2.2.2.2.2.2.2.2.2.2.2.2.2.2.2.2.1 p.2.2.2.1.2.2.2.2.2.2.2.2.2.2.2.2.2.2.2.2.2.2.2.2.2.2.2.2.2.2.2.2.2.2.1)) p.2.2.2.1.2.2.2.2.2.2.2.2.2.2.2.2.2.2.2.2.2.2.2.2.2.2.2.2.2.2.2.2.2.2.2.1 p.2.2.2.1.2.2.2.2.2.2.2.2.2.2.2.2.2.2.2.2.2.2.2.2.2.2.2.2.2.2.2.2.2.2.2.2.1 p.2.2.2.2.2.2.2.2.2.2.2.2.2.2.2.1 p.2.2.2.1.2.2.2.2.2.2.2.2.2.2.2.2.2.2.2.2.2.2.2.2.2.2.2.2.2.2.2.2.2.2.2.2.2.2.1 p.2.2.2.1.2.2.2.2.2.2.2.2.2.2.2.2.2.2.2.2.2.2.2.2.2.2.2.2.2.2.2.2.2.2.2.2.2.2.2.1 (Cmd.mk p.2.2.2.1.2.2.2.2.2.2.2.2.2.2.2.2.2.2.2.2.2.2.2.2.2.2.2.2.2.2.2.2.2.2.2.2.2.2.2.2.1 p.2.2.2.1.2.2.2.2.2.2.2.2.2.2.2.2.2.2.2.2.2.2.2.2.2.2.2.2.2.2.2.2.2.2.2.2.2.2.2.2.2.1 p.2.2.2.1.2.2.2.2.2.2.2.2.2.2.2.2.2.2.2.2.2.2.2.2.2.2.2.2.2.2.2.2.2.2.2.2.2.2.2.2.2.2.1 p.2.2.2.1.2.2.2.2.2.2.2.2.2.2.2.2.2.2.2.2.2.2.2.2.2.2.2.2.2.2.2.2.2.2.2.2.2.2.2.2.2.2.2.1 p.2.2.2.1.2.2.2.2.2.2.2.2.2.2.2.2.2.2.2.2.2.2.2.2.2.2.2.2.2.2.2.2.2.2.2.2.2.2.2.2.2.2.2.2.1 p.2.2.2.2.2.2.2.2.2.2.2.2.2.2.2.2.1 p.2.2.2.1.2.2.2.2.2.2.2.2.2.2.2.2.2.2.2.2.2.2.2.2.2.2.2.2.2.2.2.2.2.2.2.2.2.2.2.2.2.2.2.2.2.2.1) p.2.2.2.1.2.2.2.2.2.2.2.2.2.2.2.2.2.2.2.2.2.2.2.2.2.2.2.2.2.2.2.2.2.2.2.2.2.2.2.2.2.2.2.2.2.2.2.1 p.2.2.2.1.2.2.2.2.2.2.2.2.2.2.2.2.2.2.2.2.2.2.2.2.2.2.2.2.2.2.2.2.2.2.2.2.2.2.2.2.2.2.2.2.2.2.2.2.1))) (fun (x : Int × Int × (List Op) × Int × Int × State × State × State) => ((x.1, ((), ((), (x.2.1, ((), (x.2.2.1, (x.2.2.2.1, (x.2.2.2.2.1, ())))))))), ((x.2.2.2.2.2.1.device, (x.2.2.2.2.2.1.epoch, (x.2.2.2.2.2.1.lease.device, (x.2.2.2.2.2.1.lease.epoch, (x.2.2.2.2.2.1.lease.until_, (x.2.2.2.2.2.1.lease.last, (x.2.2.2.2.2.1.lease.slices, (x.2.2.2.2.2.1.lease.ids, (x.2.2.2.2.2.1.lease.used, (x.2.2.2.2.2.1.ends, (x.2.2.2.2.2.1.seq, (x.2.2.2.2.2.1.sent, (x.2.2.2.2.2.1.pending, (x.2.2.2.2.2.1.colls.a0.v, (x.2.2.2.2.2.1.colls.a0.regs, (x.2.2.2.2.2.1.colls.a0.elems, (x.2.2.2.2.2.1.colls.a0.gone, (x.2.2.2.2.2.1.colls.a0.sums, (x.2.2.2.2.2.1.colls.a0.binds, (x.2.2.2.2.2.1.colls.a1.v, (x.2.2.2.2.2.1.colls.a1.regs, (x.2.2.2.2.2.1.colls.a1.elems, (x.2.2.2.2.2.1.colls.a1.gone, (x.2.2.2.2.2.1.colls.a1.sums, (x.2.2.2.2.2.1.colls.a1.binds, (x.2.2.2.2.2.1.colls.a2.v, (x.2.2.2.2.2.1.colls.a2.regs, (x.2.2.2.2.2.1.colls.a2.elems, (x.2.2.2.2.2.1.colls.a2.gone, (x.2.2.2.2.2.1.colls.a2.sums, (x.2.2.2.2.2.1.colls.a2.binds, (x.2.2.2.2.2.1.at_, (x.2.2.2.2.2.1.ver, (x.2.2.2.2.2.1.subs, (x.2.2.2.2.2.1.req, (x.2.2.2.2.2.1.asked, (x.2.2.2.2.2.1.cmd.kind, (x.2.2.2.2.2.1.cmd.device, (x.2.2.2.2.2.1.cmd.epoch, (x.2.2.2.2.2.1.cmd.req, (x.2.2.2.2.2.1.cmd.n, (x.2.2.2.2.2.1.cmd.wants, (x.2.2.2.2.2.1.cmd.ops, (x.2.2.2.2.2.1.fenced, (x.2.2.2.2.2.1.now, ()))))))))))))))))))))))))))))))))))))))))))))), ((x.2.2.2.2.2.2.1.device, (x.2.2.2.2.2.2.1.epoch, (x.2.2.2.2.2.2.1.lease.device, (x.2.2.2.2.2.2.1.lease.epoch, (x.2.2.2.2.2.2.1.lease.until_, (x.2.2.2.2.2.2.1.lease.last, ((), ((), ((), (x.2.2.2.2.2.2.1.ends, (x.2.2.2.2.2.2.1.seq, (x.2.2.2.2.2.2.1.sent, ((), (x.2.2.2.2.2.2.1.colls.a0.v, (x.2.2.2.2.2.2.1.colls.a0.regs, (x.2.2.2.2.2.2.1.colls.a0.elems, (x.2.2.2.2.2.2.1.colls.a0.gone, (x.2.2.2.2.2.2.1.colls.a0.sums, (x.2.2.2.2.2.2.1.colls.a0.binds, (x.2.2.2.2.2.2.1.colls.a1.v, (x.2.2.2.2.2.2.1.colls.a1.regs, (x.2.2.2.2.2.2.1.colls.a1.elems, (x.2.2.2.2.2.2.1.colls.a1.gone, (x.2.2.2.2.2.2.1.colls.a1.sums, (x.2.2.2.2.2.2.1.colls.a1.binds, (x.2.2.2.2.2.2.1.colls.a2.v, (x.2.2.2.2.2.2.1.colls.a2.regs, (x.2.2.2.2.2.2.1.colls.a2.elems, (x.2.2.2.2.2.2.1.colls.a2.gone, (x.2.2.2.2.2.2.1.colls.a2.sums, (x.2.2.2.2.2.2.1.colls.a2.binds, (x.2.2.2.2.2.2.1.at_, (x.2.2.2.2.2.2.1.ver, ((), (x.2.2.2.2.2.2.1.req, (x.2.2.2.2.2.2.1.asked, (x.2.2.2.2.2.2.1.cmd.kind, (x.2.2.2.2.2.2.1.cmd.device, (x.2.2.2.2.2.2.1.cmd.epoch, (x.2.2.2.2.2.2.1.cmd.req, (x.2.2.2.2.2.2.1.cmd.n, ((), ((), (x.2.2.2.2.2.2.1.fenced, (x.2.2.2.2.2.2.1.now, ()))))))))))))))))))))))))))))))))))))))))))))), ((x.2.2.2.2.2.2.2.device, (x.2.2.2.2.2.2.2.epoch, (x.2.2.2.2.2.2.2.lease.device, (x.2.2.2.2.2.2.2.lease.epoch, (x.2.2.2.2.2.2.2.lease.until_, (x.2.2.2.2.2.2.2.lease.last, ((), ((), ((), (x.2.2.2.2.2.2.2.ends, (x.2.2.2.2.2.2.2.seq, (x.2.2.2.2.2.2.2.sent, ((), (x.2.2.2.2.2.2.2.colls.a0.v, (x.2.2.2.2.2.2.2.colls.a0.regs, (x.2.2.2.2.2.2.2.colls.a0.elems, (x.2.2.2.2.2.2.2.colls.a0.gone, (x.2.2.2.2.2.2.2.colls.a0.sums, (x.2.2.2.2.2.2.2.colls.a0.binds, (x.2.2.2.2.2.2.2.colls.a1.v, (x.2.2.2.2.2.2.2.colls.a1.regs, (x.2.2.2.2.2.2.2.colls.a1.elems, (x.2.2.2.2.2.2.2.colls.a1.gone, (x.2.2.2.2.2.2.2.colls.a1.sums, (x.2.2.2.2.2.2.2.colls.a1.binds, (x.2.2.2.2.2.2.2.colls.a2.v, (x.2.2.2.2.2.2.2.colls.a2.regs, (x.2.2.2.2.2.2.2.colls.a2.elems, (x.2.2.2.2.2.2.2.colls.a2.gone, (x.2.2.2.2.2.2.2.colls.a2.sums, (x.2.2.2.2.2.2.2.colls.a2.binds, (x.2.2.2.2.2.2.2.at_, (x.2.2.2.2.2.2.2.ver, ((), (x.2.2.2.2.2.2.2.req, (x.2.2.2.2.2.2.2.asked, (x.2.2.2.2.2.2.2.cmd.kind, (x.2.2.2.2.2.2.2.cmd.device, (x.2.2.2.2.2.2.2.cmd.epoch, (x.2.2.2.2.2.2.2.cmd.req, (x.2.2.2.2.2.2.2.cmd.n, ((), (x.2.2.2.2.2.2.2.cmd.ops, (x.2.2.2.2.2.2.2.fenced, (x.2.2.2.2.2.2.2.now, ()))))))))))))))))))))))))))))))))))))))))))))), (x.2.2.2.2.2.2.1.lease.slices, (x.2.2.2.2.2.2.1.lease.ids, (x.2.2.2.2.2.2.1.lease.used, (x.2.2.2.2.2.2.1.pending, (x.2.2.2.2.2.2.1.subs, (x.2.2.2.2.2.2.1.cmd.wants, (x.2.2.2.2.2.2.1.cmd.ops, (x.2.2.2.2.2.2.2.lease.slices, (x.2.2.2.2.2.2.2.lease.ids, (x.2.2.2.2.2.2.2.lease.used, (x.2.2.2.2.2.2.2.pending, (x.2.2.2.2.2.2.2.subs, (x.2.2.2.2.2.2.2.cmd.wants, ())))))))))))))))))) (fun _ => rfl)
def co0_L12_7 : Cod (Cst TL) (Int × Int × State × State × State) := Cod.iso (Cod.cst 32 (Cod.cons (Cod.xs (Cod.sc (Cod.im (Cod.int .i64)))) (Cod.cons (Cod.xs (Cod.sc (Cod.ptr 1 0))) (Cod.cons (Cod.xs (Cod.sc (Cod.im (Cod.int .i64)))) (Cod.cons (Cod.xs (Cod.sc (Cod.ptr 2 0))) (Cod.nil))))) (Cod.cons (Cod.var 0 43 (Cod.cons (Cod.im (Cod.int .i64)) (Cod.cons (Cod.im (Cod.int .i64)) (Cod.cons (Cod.im (Cod.int .i64)) (Cod.cons (Cod.im (Cod.int .i64)) (Cod.cons (Cod.im (Cod.int .i64)) (Cod.cons (Cod.im (Cod.int .i64)) (Cod.cons (Cod.im (Cod.fz j_lSlice)) (Cod.cons (Cod.im (Cod.fz j_lRange)) (Cod.cons (Cod.im (Cod.fz j_lInt)) (Cod.cons (Cod.im (Cod.int .i64)) (Cod.cons (Cod.im (Cod.int .i64)) (Cod.cons (Cod.im (Cod.int .i64)) (Cod.cons (Cod.im (Cod.fz j_lOp)) (Cod.cons (Cod.im (Cod.fz j_lDot)) (Cod.cons (Cod.im (Cod.fz j_lReg)) (Cod.cons (Cod.im (Cod.fz j_lElem)) (Cod.cons (Cod.im (Cod.fz j_lDot)) (Cod.cons (Cod.im (Cod.fz j_lSum)) (Cod.cons (Cod.im (Cod.fz j_lBind)) (Cod.cons (Cod.im (Cod.fz j_lDot)) (Cod.cons (Cod.im (Cod.fz j_lReg)) (Cod.cons (Cod.im (Cod.fz j_lElem)) (Cod.cons (Cod.im (Cod.fz j_lDot)) (Cod.cons (Cod.im (Cod.fz j_lSum)) (Cod.cons (Cod.im (Cod.fz j_lBind)) (Cod.cons (Cod.im (Cod.fz j_lDot)) (Cod.cons (Cod.im (Cod.fz j_lReg)) (Cod.cons (Cod.im (Cod.fz j_lElem)) (Cod.cons (Cod.im (Cod.fz j_lDot)) (Cod.cons (Cod.im (Cod.fz j_lSum)) (Cod.cons (Cod.im (Cod.fz j_lBind)) (Cod.cons (Cod.im (Cod.int .i64)) (Cod.cons (Cod.im (Cod.int .i64)) (Cod.cons (Cod.im (Cod.fz j_lBool)) (Cod.cons (Cod.im (Cod.int .i64)) (Cod.cons (Cod.im (Cod.int .i64)) (Cod.cons (Cod.im (Cod.int .i64)) (Cod.cons (Cod.im (Cod.int .i64)) (Cod.cons (Cod.im (Cod.int .i64)) (Cod.cons (Cod.im (Cod.int .i64)) (Cod.cons (Cod.im (Cod.int .i64)) (Cod.cons (Cod.im (Cod.fz j_lWant)) (Cod.cons (Cod.im (Cod.fz j_lOp)) (Cod.cons (Cod.im Cod.bool) (Cod.cons (Cod.im (Cod.int .i64)) (Cod.nil))))))))))))))))))))))))))))))))))))))))))))))) (Cod.cons (Cod.var 1 43 (Cod.cons (Cod.im (Cod.int .i64)) (Cod.cons (Cod.im (Cod.int .i64)) (Cod.cons (Cod.im (Cod.int .i64)) (Cod.cons (Cod.im (Cod.int .i64)) (Cod.cons (Cod.im (Cod.int .i64)) (Cod.cons (Cod.im (Cod.int .i64)) (Cod.cons (Cod.ar 3) (Cod.cons (Cod.ar 4) (Cod.cons (Cod.ar 5) (Cod.cons (Cod.im (Cod.int .i64)) (Cod.cons (Cod.im (Cod.int .i64)) (Cod.cons (Cod.im (Cod.int .i64)) (Cod.cons (Cod.ar 6) (Cod.cons (Cod.im (Cod.fz j_lDot)) (Cod.cons (Cod.im (Cod.fz j_lReg)) (Cod.cons (Cod.im (Cod.fz j_lElem)) (Cod.cons (Cod.im (Cod.fz j_lDot)) (Cod.cons (Cod.im (Cod.fz j_lSum)) (Cod.cons (Cod.im (Cod.fz j_lBind)) (Cod.cons (Cod.im (Cod.fz j_lDot)) (Cod.cons (Cod.im (Cod.fz j_lReg)) (Cod.cons (Cod.im (Cod.fz j_lElem)) (Cod.cons (Cod.im (Cod.fz j_lDot)) (Cod.cons (Cod.im (Cod.fz j_lSum)) (Cod.cons (Cod.im (Cod.fz j_lBind)) (Cod.cons (Cod.im (Cod.fz j_lDot)) (Cod.cons (Cod.im (Cod.fz j_lReg)) (Cod.cons (Cod.im (Cod.fz j_lElem)) (Cod.cons (Cod.im (Cod.fz j_lDot)) (Cod.cons (Cod.im (Cod.fz j_lSum)) (Cod.cons (Cod.im (Cod.fz j_lBind)) (Cod.cons (Cod.im (Cod.int .i64)) (Cod.cons (Cod.im (Cod.int .i64)) (Cod.cons (Cod.ar 7) (Cod.cons (Cod.im (Cod.int .i64)) (Cod.cons (Cod.im (Cod.int .i64)) (Cod.cons (Cod.im (Cod.int .i64)) (Cod.cons (Cod.im (Cod.int .i64)) (Cod.cons (Cod.im (Cod.int .i64)) (Cod.cons (Cod.im (Cod.int .i64)) (Cod.cons (Cod.im (Cod.int .i64)) (Cod.cons (Cod.ar 8) (Cod.cons (Cod.ar 9) (Cod.cons (Cod.im Cod.bool) (Cod.cons (Cod.im (Cod.int .i64)) (Cod.nil))))))))))))))))))))))))))))))))))))))))))))))) (Cod.cons (Cod.var 2 43 (Cod.cons (Cod.im (Cod.int .i64)) (Cod.cons (Cod.im (Cod.int .i64)) (Cod.cons (Cod.im (Cod.int .i64)) (Cod.cons (Cod.im (Cod.int .i64)) (Cod.cons (Cod.im (Cod.int .i64)) (Cod.cons (Cod.im (Cod.int .i64)) (Cod.cons (Cod.ar 10) (Cod.cons (Cod.ar 11) (Cod.cons (Cod.ar 12) (Cod.cons (Cod.im (Cod.int .i64)) (Cod.cons (Cod.im (Cod.int .i64)) (Cod.cons (Cod.im (Cod.int .i64)) (Cod.cons (Cod.ar 31) (Cod.cons (Cod.im (Cod.fz j_lDot)) (Cod.cons (Cod.im (Cod.fz j_lReg)) (Cod.cons (Cod.im (Cod.fz j_lElem)) (Cod.cons (Cod.im (Cod.fz j_lDot)) (Cod.cons (Cod.im (Cod.fz j_lSum)) (Cod.cons (Cod.im (Cod.fz j_lBind)) (Cod.cons (Cod.im (Cod.fz j_lDot)) (Cod.cons (Cod.im (Cod.fz j_lReg)) (Cod.cons (Cod.im (Cod.fz j_lElem)) (Cod.cons (Cod.im (Cod.fz j_lDot)) (Cod.cons (Cod.im (Cod.fz j_lSum)) (Cod.cons (Cod.im (Cod.fz j_lBind)) (Cod.cons (Cod.im (Cod.fz j_lDot)) (Cod.cons (Cod.im (Cod.fz j_lReg)) (Cod.cons (Cod.im (Cod.fz j_lElem)) (Cod.cons (Cod.im (Cod.fz j_lDot)) (Cod.cons (Cod.im (Cod.fz j_lSum)) (Cod.cons (Cod.im (Cod.fz j_lBind)) (Cod.cons (Cod.im (Cod.int .i64)) (Cod.cons (Cod.im (Cod.int .i64)) (Cod.cons (Cod.ar 14) (Cod.cons (Cod.im (Cod.int .i64)) (Cod.cons (Cod.im (Cod.int .i64)) (Cod.cons (Cod.im (Cod.int .i64)) (Cod.cons (Cod.im (Cod.int .i64)) (Cod.cons (Cod.im (Cod.int .i64)) (Cod.cons (Cod.im (Cod.int .i64)) (Cod.cons (Cod.im (Cod.int .i64)) (Cod.cons (Cod.ar 15) (Cod.cons (Cod.im (Cod.fz j_lOp)) (Cod.cons (Cod.im Cod.bool) (Cod.cons (Cod.im (Cod.int .i64)) (Cod.nil))))))))))))))))))))))))))))))))))))))))))))))) (Cod.cons (Cod.arr 3 62 j_lSlice) (Cod.cons (Cod.arr 4 98 j_lRange) (Cod.cons (Cod.arr 5 3 j_lInt) (Cod.cons (Cod.arr 6 50 j_lOp) (Cod.cons (Cod.arr 7 4 j_lBool) (Cod.cons (Cod.arr 8 89 j_lWant) (Cod.cons (Cod.arr 9 50 j_lOp) (Cod.cons (Cod.arr 10 62 j_lSlice) (Cod.cons (Cod.arr 11 98 j_lRange) (Cod.cons (Cod.arr 12 3 j_lInt) (Cod.cons (Cod.arr 14 4 j_lBool) (Cod.cons (Cod.arr 15 89 j_lWant) (Cod.cons (Cod.arr 31 50 j_lOp) (Cod.nil)))))))))))))))))) (fun p => (p.1.1, p.1.2.2.1, (State.mk p.2.1.1 p.2.1.2.1 (Lease.mk p.2.1.2.2.1 p.2.1.2.2.2.1 p.2.1.2.2.2.2.1 p.2.1.2.2.2.2.2.1 p.2.1.2.2.2.2.2.2.1 p.2.1.2.2.2.2.2.2.2.1 p.2.1.2.2.2.2.2.2.2.2.1) p.2.1.2.2.2.2.2.2.2.2.2.1 p.2.1.2.2.2.2.2.2.2.2.2.2.1 p.2.1.2.2.2.2.2.2.2.2.2.2.2.1 p.2.1.2.2.2.2.2.2.2.2.2.2.2.2.1 (A3Coll.mk (Coll.mk p.2.1.2.2.2.2.2.2.2.2.2.2.2.2.2.1 p.2.1.2.2.2.2.2.2.2.2.2.2.2.2.2.2.1 p.2.1.2.2.2.2.2.2.2.2.2.2.2.2.2.2.2.1 p.2.1.2.2.2.2.2.2.2.2.2.2.2.2.2.2.2.2.1 p.2.1.2.2.2.2.2.2.2.2.2.2.2.2.2.2.2.2.2.1 p.2.1.2.2.2.2.2.2.2.2.2.2.2.2.2.2.2.2.2.2.1) (Coll.mk p.2.1.2.2.2.2.2.2.2.2.2.2.2.2.2.2.2.2.2.2.2.1 p.2.1.2.2.2.2.2.2.2.2.2.2.2.2.2.2.2.2.2.2.2.2.1 p.2.1.2.2.2.2.2.2.2.2.2.2.2.2.2.2.2.2.2.2.2.2.2.1 p.2.1.2.2.2.2.2.2.2.2.2.2.2.2.2.2.2.2.2.2.2.2.2.2.1 p.2.1.2.2.2.2.2.2.2.2.2.2.2.2.2.2.2.2.2.2.2.2.2.2.2.1 p.2.1.2.2.2.2.2.2.2.2.2.2.2.2.2.2.2.2.2.2.2.2.2.2.2.2.1) (Coll.mk p.2.1.2.2.2.2.2.2.2.2.2.2.2.2.2.2.2.2.2.2.2.2.2.2.2.2.2.1 p.2.1.2.2.2.2.2.2.2.2.2.2.2.2.2.2.2.2.2.2.2.2.2.2.2.2.2.2.1 p.2.1.2.2.2.2.2.2.2.2.2.2.2.2.2.2.2.2.2.2.2.2.2.2.2.2.2.2.2.1 p.2.1.2.2.2.2.2.2.2.2.2.2.2.2.2.2.2.2.2.2.2.2.2.2.2.2.2.2.2.2.1 p.2.1.2.2.2.2.2.2.2.2.2.2.2.2.2.2.2.2.2.2.2.2.2.2.2.2.2.2.2.2.2.1 p.2.1.2.2.2.2.2.2.2.2.2.2.2.2.2.2.2.2.2.2.2.2.2.2.2.2.2.2.2.2.2.2.1)) p.2.1.2.2.2.2.2.2.2.2.2.2.2.2.2.2.2.2.2.2.2.2.2.2.2.2.2.2.2.2.2.2.2.1 p.2.1.2.2.2.2.2.2.2.2.2.2.2.2.2.2.2.2.2.2.2.2.2.2.2.2.2.2.2.2.2.2.2.2.1 p.2.1.2.2.2.2.2.2.2.2.2.2.2.2.2.2.2.2.2.2.2.2.2.2.2.2.2.2.2.2.2.2.2.2.2.1 p.2.1.2.2.2.2.2.2.2.2.2.2.2.2.2.2.2.2.2.2.2.2.2.2.2.2.2.2.2.2.2.2.2.2.2.2.1 p.2.1.2.2.2.2.2.2.2.2.2.2.2.2.2.2.2.2.2.2.2.2.2.2.2.2.2.2.2.2.2.2.2.2.2.2.2.1 (Cmd.mk p.2.1.2.2.2.2.2.2.2.2.2.2.2.2.2.2.2.2.2.2.2.2.2.2.2.2.2.2.2.2.2.2.2.2.2.2.2.2.1 p.2.1.2.2.2.2.2.2.2.2.2.2.2.2.2.2.2.2.2.2.2.2.2.2.2.2.2.2.2.2.2.2.2.2.2.2.2.2.2.1 p.2.1.2.2.2.2.2.2.2.2.2.2.2.2.2.2.2.2.2.2.2.2.2.2.2.2.2.2.2.2.2.2.2.2.2.2.2.2.2.2.1 p.2.1.2.2.2.2.2.2.2.2.2.2.2.2.2.2.2.2.2.2.2.2.2.2.2.2.2.2.2.2.2.2.2.2.2.2.2.2.2.2.2.1 p.2.1.2.2.2.2.2.2.2.2.2.2.2.2.2.2.2.2.2.2.2.2.2.2.2.2.2.2.2.2.2.2.2.2.2.2.2.2.2.2.2.2.1 p.2.1.2.2.2.2.2.2.2.2.2.2.2.2.2.2.2.2.2.2.2.2.2.2.2.2.2.2.2.2.2.2.2.2.2.2.2.2.2.2.2.2.2.1 p.2.1.2.2.2.2.2.2.2.2.2.2.2.2.2.2.2.2.2.2.2.2.2.2.2.2.2.2.2.2.2.2.2.2.2.2.2.2.2.2.2.2.2.2.1) p.2.1.2.2.2.2.2.2.2.2.2.2.2.2.2.2.2.2.2.2.2.2.2.2.2.2.2.2.2.2.2.2.2.2.2.2.2.2.2.2.2.2.2.2.2.1 p.2.1.2.2.2.2.2.2.2.2.2.2.2.2.2.2.2.2.2.2.2.2.2.2.2.2.2.2.2.2.2.2.2.2.2.2.2.2.2.2.2.2.2.2.2.2.1), (State.mk p.2.2.1.1 p.2.2.1.2.1 (Lease.mk p.2.2.1.2.2.1 p.2.2.1.2.2.2.1 p.2.2.1.2.2.2.2.1 p.2.2.1.2.2.2.2.2.1 p.2.2.2.2.1 p.2.2.2.2.2.1 p.2.2.2.2.2.2.1) p.2.2.1.2.2.2.2.2.2.2.2.2.1 p.2.2.1.2.2.2.2.2.2.2.2.2.2.1 p.2.2.1.2.2.2.2.2.2.2.2.2.2.2.1 p.2.2.2.2.2.2.2.1 (A3Coll.mk (Coll.mk p.2.2.1.2.2.2.2.2.2.2.2.2.2.2.2.2.1 p.2.2.1.2.2.2.2.2.2.2.2.2.2.2.2.2.2.1 p.2.2.1.2.2.2.2.2.2.2.2.2.2.2.2.2.2.2.1 p.2.2.1.2.2.2.2.2.2.2.2.2.2.2.2.2.2.2.2.1 p.2.2.1.2.2.2.2.2.2.2.2.2.2.2.2.2.2.2.2.2.1 p.2.2.1.2.2.2.2.2.2.2.2.2.2.2.2.2.2.2.2.2.2.1) (Coll.mk p.2.2.1.2.2.2.2.2.2.2.2.2.2.2.2.2.2.2.2.2.2.2.1 p.2.2.1.2.2.2.2.2.2.2.2.2.2.2.2.2.2.2.2.2.2.2.2.1 p.2.2.1.2.2.2.2.2.2.2.2.2.2.2.2.2.2.2.2.2.2.2.2.2.1 p.2.2.1.2.2.2.2.2.2.2.2.2.2.2.2.2.2.2.2.2.2.2.2.2.2.1 p.2.2.1.2.2.2.2.2.2.2.2.2.2.2.2.2.2.2.2.2.2.2.2.2.2.2.1 p.2.2.1.2.2.2.2.2.2.2.2.2.2.2.2.2.2.2.2.2.2.2.2.2.2.2.2.1) (Coll.mk p.2.2.1.2.2.2.2.2.2.2.2.2.2.2.2.2.2.2.2.2.2.2.2.2.2.2.2.2.1 p.2.2.1.2.2.2.2.2.2.2.2.2.2.2.2.2.2.2.2.2.2.2.2.2.2.2.2.2.2.1 p.2.2.1.2.2.2.2.2.2.2.2.2.2.2.2.2.2.2.2.2.2.2.2.2.2.2.2.2.2.2.1 p.2.2.1.2.2.2.2.2.2.2.2.2.2.2.2.2.2.2.2.2.2.2.2.2.2.2.2.2.2.2.2.1 p.2.2.1.2.2.2.2.2.2.2.2.2.2.2.2.2.2.2.2.2.2.2.2.2.2.2.2.2.2.2.2.2.1 p.2.2.1.2.2.2.2.2.2.2.2.2.2.2.2.2.2.2.2.2.2.2.2.2.2.2.2.2.2.2.2.2.2.1)) p.2.2.1.2.2.2.2.2.2.2.2.2.2.2.2.2.2.2.2.2.2.2.2.2.2.2.2.2.2.2.2.2.2.2.1 p.2.2.1.2.2.2.2.2.2.2.2.2.2.2.2.2.2.2.2.2.2.2.2.2.2.2.2.2.2.2.2.2.2.2.2.1 p.2.2.2.2.2.2.2.2.1 p.2.2.1.2.2.2.2.2.2.2.2.2.2.2.2.2.2.2.2.2.2.2.2.2.2.2.2.2.2.2.2.2.2.2.2.2.2.1 p.2.2.1.2.2.2.2.2.2.2.2.2.2.2.2.2.2.2.2.2.2.2.2.2.2.2.2.2.2.2.2.2.2.2.2.2.2.2.1 (Cmd.mk p.2.2.1.2.2.2.2.2.2.2.2.2.2.2.2.2.2.2.2.2.2.2.2.2.2.2.2.2.2.2.2.2.2.2.2.2.2.2.2.1 p.2.2.1.2.2.2.2.2.2.2.2.2.2.2.2.2.2.2.2.2.2.2.2.2.2.2.2.2.2.2.2.2.2.2.2.2.2.2.2.2.1 p.2.2.1.2.2.2.2.2.2.2.2.2.2.2.2.2.2.2.2.2.2.2.2.2.2.2.2.2.2.2.2.2.2.2.2.2.2.2.2.2.2.1 p.2.2.1.2.2.2.2.2.2.2.2.2.2.2.2.2.2.2.2.2.2.2.2.2.2.2.2.2.2.2.2.2.2.2.2.2.2.2.2.2.2.2.1 p.2.2.1.2.2.2.2.2.2.2.2.2.2.2.2.2.2.2.2.2.2.2.2.2.2.2.2.2.2.2.2.2.2.2.2.2.2.2.2.2.2.2.2.1 p.2.2.2.2.2.2.2.2.2.1 p.2.2.2.2.2.2.2.2.2.2.1) p.2.2.1.2.2.2.2.2.2.2.2.2.2.2.2.2.2.2.2.2.2.2.2.2.2.2.2.2.2.2.2.2.2.2.2.2.2.2.2.2.2.2.2.2.2.2.1 p.2.2.1.2.2.2.2.2.2.2.2.2.2.2.2.2.2.2.2.2.2.2.2.2.2.2.2.2.2.2.2.2.2.2.2.2.2.2.2.2.2.2.2.2.2.2.2.1), (State.mk p.2.2.2.1.1 p.2.2.2.1.2.1 (Lease.mk p.2.2.2.1.2.2.1 p.2.2.2.1.2.2.2.1 p.2.2.2.1.2.2.2.2.1 p.2.2.2.1.2.2.2.2.2.1 p.2.2.2.2.2.2.2.2.2.2.2.1 p.2.2.2.2.2.2.2.2.2.2.2.2.1 p.2.2.2.2.2.2.2.2.2.2.2.2.2.1) p.2.2.2.1.2.2.2.2.2.2.2.2.2.1 p.2.2.2.1.2.2.2.2.2.2.2.2.2.2.1 p.2.2.2.1.2.2.2.2.2.2.2.2.2.2.2.1 p.2.2.2.2.2.2.2.2.2.2.2.2.2.2.2.2.1 (A3Coll.mk (Coll.mk p.2.2.2.1.2.2.2.2.2.2.2.2.2.2.2.2.2.1 p.2.2.2.1.2.2.2.2.2.2.2.2.2.2.2.2.2.2.1 p.2.2.2.1.2.2.2.2.2.2.2.2.2.2.2.2.2.2.2.1 p.2.2.2.1.2.2.2.2.2.2.2.2.2.2.2.2.2.2.2.2.1 p.2.2.2.1.2.2.2.2.2.2.2.2.2.2.2.2.2.2.2.2.2.1 p.2.2.2.1.2.2.2.2.2.2.2.2.2.2.2.2.2.2.2.2.2.2.1) (Coll.mk p.2.2.2.1.2.2.2.2.2.2.2.2.2.2.2.2.2.2.2.2.2.2.2.1 p.2.2.2.1.2.2.2.2.2.2.2.2.2.2.2.2.2.2.2.2.2.2.2.2.1 p.2.2.2.1.2.2.2.2.2.2.2.2.2.2.2.2.2.2.2.2.2.2.2.2.2.1 p.2.2.2.1.2.2.2.2.2.2.2.2.2.2.2.2.2.2.2.2.2.2.2.2.2.2.1 p.2.2.2.1.2.2.2.2.2.2.2.2.2.2.2.2.2.2.2.2.2.2.2.2.2.2.2.1 p.2.2.2.1.2.2.2.2.2.2.2.2.2.2.2.2.2.2.2.2.2.2.2.2.2.2.2.2.1) (Coll.mk p.2.2.2.1.2.2.2.2.2.2.2.2.2.2.2.2.2.2.2.2.2.2.2.2.2.2.2.2.2.1 p.2.2.2.1.2.2.2.2.2.2.2.2.2.2.2.2.2.2.2.2.2.2.2.2.2.2.2.2.2.2.1 p.2.2.2.1.2.2.2.2.2.2.2.2.2.2.2.2.2.2.2.2.2.2.2.2.2.2.2.2.2.2.2.1 p.2.2.2.1.2.2.2.2.2.2.2.2.2.2.2.2.2.2.2.2.2.2.2.2.2.2.2.2.2.2.2.2.1 p.2.2.2.1.2.2.2.2.2.2.2.2.2.2.2.2.2.2.2.2.2.2.2.2.2.2.2.2.2.2.2.2.2.1 p.2.2.2.1.2.2.2.2.2.2.2.2.2.2.2.2.2.2.2.2.2.2.2.2.2.2.2.2.2.2.2.2.2.2.1)) p.2.2.2.1.2.2.2.2.2.2.2.2.2.2.2.2.2.2.2.2.2.2.2.2.2.2.2.2.2.2.2.2.2.2.2.1 p.2.2.2.1.2.2.2.2.2.2.2.2.2.2.2.2.2.2.2.2.2.2.2.2.2.2.2.2.2.2.2.2.2.2.2.2.1 p.2.2.2.2.2.2.2.2.2.2.2.2.2.2.1 p.2.2.2.1.2.2.2.2.2.2.2.2.2.2.2.2.2.2.2.2.2.2.2.2.2.2.2.2.2.2.2.2.2.2.2.2.2.2.1 p.2.2.2.1.2.2.2.2.2.2.2.2.2.2.2.2.2.2.2.2.2.2.2.2.2.2.2.2.2.2.2.2.2.2.2.2.2.2.2.1 (Cmd.mk p.2.2.2.1.2.2.2.2.2.2.2.2.2.2.2.2.2.2.2.2.2.2.2.2.2.2.2.2.2.2.2.2.2.2.2.2.2.2.2.2.1 p.2.2.2.1.2.2.2.2.2.2.2.2.2.2.2.2.2.2.2.2.2.2.2.2.2.2.2.2.2.2.2.2.2.2.2.2.2.2.2.2.2.1 p.2.2.2.1.2.2.2.2.2.2.2.2.2.2.2.2.2.2.2.2.2.2.2.2.2.2.2.2.2.2.2.2.2.2.2.2.2.2.2.2.2.2.1 p.2.2.2.1.2.2.2.2.2.2.2.2.2.2.2.2.2.2.2.2.2.2.2.2.2.2.2.2.2.2.2.2.2.2.2.2.2.2.2.2.2.2.2.1 p.2.2.2.1.2.2.2.2.2.2.2.2.2.2.2.2.2.2.2.2.2.2.2.2.2.2.2.2.2.2.2.2.2.2.2.2.2.2.2.2.2.2.2.2.1 p.2.2.2.2.2.2.2.2.2.2.2.2.2.2.2.1 p.2.2.2.1.2.2.2.2.2.2.2.2.2.2.2.2.2.2.2.2.2.2.2.2.2.2.2.2.2.2.2.2.2.2.2.2.2.2.2.2.2.2.2.2.2.2.1) p.2.2.2.1.2.2.2.2.2.2.2.2.2.2.2.2.2.2.2.2.2.2.2.2.2.2.2.2.2.2.2.2.2.2.2.2.2.2.2.2.2.2.2.2.2.2.2.1 p.2.2.2.1.2.2.2.2.2.2.2.2.2.2.2.2.2.2.2.2.2.2.2.2.2.2.2.2.2.2.2.2.2.2.2.2.2.2.2.2.2.2.2.2.2.2.2.2.1))) (fun (x : Int × Int × State × State × State) => ((x.1, ((), (x.2.1, ((), ())))), ((x.2.2.1.device, (x.2.2.1.epoch, (x.2.2.1.lease.device, (x.2.2.1.lease.epoch, (x.2.2.1.lease.until_, (x.2.2.1.lease.last, (x.2.2.1.lease.slices, (x.2.2.1.lease.ids, (x.2.2.1.lease.used, (x.2.2.1.ends, (x.2.2.1.seq, (x.2.2.1.sent, (x.2.2.1.pending, (x.2.2.1.colls.a0.v, (x.2.2.1.colls.a0.regs, (x.2.2.1.colls.a0.elems, (x.2.2.1.colls.a0.gone, (x.2.2.1.colls.a0.sums, (x.2.2.1.colls.a0.binds, (x.2.2.1.colls.a1.v, (x.2.2.1.colls.a1.regs, (x.2.2.1.colls.a1.elems, (x.2.2.1.colls.a1.gone, (x.2.2.1.colls.a1.sums, (x.2.2.1.colls.a1.binds, (x.2.2.1.colls.a2.v, (x.2.2.1.colls.a2.regs, (x.2.2.1.colls.a2.elems, (x.2.2.1.colls.a2.gone, (x.2.2.1.colls.a2.sums, (x.2.2.1.colls.a2.binds, (x.2.2.1.at_, (x.2.2.1.ver, (x.2.2.1.subs, (x.2.2.1.req, (x.2.2.1.asked, (x.2.2.1.cmd.kind, (x.2.2.1.cmd.device, (x.2.2.1.cmd.epoch, (x.2.2.1.cmd.req, (x.2.2.1.cmd.n, (x.2.2.1.cmd.wants, (x.2.2.1.cmd.ops, (x.2.2.1.fenced, (x.2.2.1.now, ()))))))))))))))))))))))))))))))))))))))))))))), ((x.2.2.2.1.device, (x.2.2.2.1.epoch, (x.2.2.2.1.lease.device, (x.2.2.2.1.lease.epoch, (x.2.2.2.1.lease.until_, (x.2.2.2.1.lease.last, ((), ((), ((), (x.2.2.2.1.ends, (x.2.2.2.1.seq, (x.2.2.2.1.sent, ((), (x.2.2.2.1.colls.a0.v, (x.2.2.2.1.colls.a0.regs, (x.2.2.2.1.colls.a0.elems, (x.2.2.2.1.colls.a0.gone, (x.2.2.2.1.colls.a0.sums, (x.2.2.2.1.colls.a0.binds, (x.2.2.2.1.colls.a1.v, (x.2.2.2.1.colls.a1.regs, (x.2.2.2.1.colls.a1.elems, (x.2.2.2.1.colls.a1.gone, (x.2.2.2.1.colls.a1.sums, (x.2.2.2.1.colls.a1.binds, (x.2.2.2.1.colls.a2.v, (x.2.2.2.1.colls.a2.regs, (x.2.2.2.1.colls.a2.elems, (x.2.2.2.1.colls.a2.gone, (x.2.2.2.1.colls.a2.sums, (x.2.2.2.1.colls.a2.binds, (x.2.2.2.1.at_, (x.2.2.2.1.ver, ((), (x.2.2.2.1.req, (x.2.2.2.1.asked, (x.2.2.2.1.cmd.kind, (x.2.2.2.1.cmd.device, (x.2.2.2.1.cmd.epoch, (x.2.2.2.1.cmd.req, (x.2.2.2.1.cmd.n, ((), ((), (x.2.2.2.1.fenced, (x.2.2.2.1.now, ()))))))))))))))))))))))))))))))))))))))))))))), ((x.2.2.2.2.device, (x.2.2.2.2.epoch, (x.2.2.2.2.lease.device, (x.2.2.2.2.lease.epoch, (x.2.2.2.2.lease.until_, (x.2.2.2.2.lease.last, ((), ((), ((), (x.2.2.2.2.ends, (x.2.2.2.2.seq, (x.2.2.2.2.sent, ((), (x.2.2.2.2.colls.a0.v, (x.2.2.2.2.colls.a0.regs, (x.2.2.2.2.colls.a0.elems, (x.2.2.2.2.colls.a0.gone, (x.2.2.2.2.colls.a0.sums, (x.2.2.2.2.colls.a0.binds, (x.2.2.2.2.colls.a1.v, (x.2.2.2.2.colls.a1.regs, (x.2.2.2.2.colls.a1.elems, (x.2.2.2.2.colls.a1.gone, (x.2.2.2.2.colls.a1.sums, (x.2.2.2.2.colls.a1.binds, (x.2.2.2.2.colls.a2.v, (x.2.2.2.2.colls.a2.regs, (x.2.2.2.2.colls.a2.elems, (x.2.2.2.2.colls.a2.gone, (x.2.2.2.2.colls.a2.sums, (x.2.2.2.2.colls.a2.binds, (x.2.2.2.2.at_, (x.2.2.2.2.ver, ((), (x.2.2.2.2.req, (x.2.2.2.2.asked, (x.2.2.2.2.cmd.kind, (x.2.2.2.2.cmd.device, (x.2.2.2.2.cmd.epoch, (x.2.2.2.2.cmd.req, (x.2.2.2.2.cmd.n, ((), (x.2.2.2.2.cmd.ops, (x.2.2.2.2.fenced, (x.2.2.2.2.now, ()))))))))))))))))))))))))))))))))))))))))))))), (x.2.2.2.1.lease.slices, (x.2.2.2.1.lease.ids, (x.2.2.2.1.lease.used, (x.2.2.2.1.pending, (x.2.2.2.1.subs, (x.2.2.2.1.cmd.wants, (x.2.2.2.1.cmd.ops, (x.2.2.2.2.lease.slices, (x.2.2.2.2.lease.ids, (x.2.2.2.2.lease.used, (x.2.2.2.2.subs, (x.2.2.2.2.cmd.wants, (x.2.2.2.2.pending, ())))))))))))))))))) (fun _ => rfl)
def co1_L12_7 : Cod (Cst TL) (Int × Int × State × State × State × (List Slice) × (List Range) × (List Int) × (List Op) × (List Bool) × (List Want) × (List Op)) := Cod.iso (Cod.cst 56 (Cod.cons (Cod.xs (Cod.sc (Cod.im (Cod.int .i64)))) (Cod.cons (Cod.xs (Cod.sc (Cod.ptr 1 0))) (Cod.cons (Cod.xs (Cod.sc (Cod.im (Cod.int .i64)))) (Cod.cons (Cod.xs (Cod.sc (Cod.ptr 2 0))) (Cod.nil))))) (Cod.cons (Cod.var 0 43 (Cod.cons (Cod.im (Cod.int .i64)) (Cod.cons (Cod.im (Cod.int .i64)) (Cod.cons (Cod.im (Cod.int .i64)) (Cod.cons (Cod.im (Cod.int .i64)) (Cod.cons (Cod.im (Cod.int .i64)) (Cod.cons (Cod.im (Cod.int .i64)) (Cod.cons (Cod.im (Cod.fz j_lSlice)) (Cod.cons (Cod.im (Cod.fz j_lRange)) (Cod.cons (Cod.im (Cod.fz j_lInt)) (Cod.cons (Cod.im (Cod.int .i64)) (Cod.cons (Cod.im (Cod.int .i64)) (Cod.cons (Cod.im (Cod.int .i64)) (Cod.cons (Cod.im (Cod.fz j_lOp)) (Cod.cons (Cod.im (Cod.fz j_lDot)) (Cod.cons (Cod.im (Cod.fz j_lReg)) (Cod.cons (Cod.im (Cod.fz j_lElem)) (Cod.cons (Cod.im (Cod.fz j_lDot)) (Cod.cons (Cod.im (Cod.fz j_lSum)) (Cod.cons (Cod.im (Cod.fz j_lBind)) (Cod.cons (Cod.im (Cod.fz j_lDot)) (Cod.cons (Cod.im (Cod.fz j_lReg)) (Cod.cons (Cod.im (Cod.fz j_lElem)) (Cod.cons (Cod.im (Cod.fz j_lDot)) (Cod.cons (Cod.im (Cod.fz j_lSum)) (Cod.cons (Cod.im (Cod.fz j_lBind)) (Cod.cons (Cod.im (Cod.fz j_lDot)) (Cod.cons (Cod.im (Cod.fz j_lReg)) (Cod.cons (Cod.im (Cod.fz j_lElem)) (Cod.cons (Cod.im (Cod.fz j_lDot)) (Cod.cons (Cod.im (Cod.fz j_lSum)) (Cod.cons (Cod.im (Cod.fz j_lBind)) (Cod.cons (Cod.im (Cod.int .i64)) (Cod.cons (Cod.im (Cod.int .i64)) (Cod.cons (Cod.im (Cod.fz j_lBool)) (Cod.cons (Cod.im (Cod.int .i64)) (Cod.cons (Cod.im (Cod.int .i64)) (Cod.cons (Cod.im (Cod.int .i64)) (Cod.cons (Cod.im (Cod.int .i64)) (Cod.cons (Cod.im (Cod.int .i64)) (Cod.cons (Cod.im (Cod.int .i64)) (Cod.cons (Cod.im (Cod.int .i64)) (Cod.cons (Cod.im (Cod.fz j_lWant)) (Cod.cons (Cod.im (Cod.fz j_lOp)) (Cod.cons (Cod.im Cod.bool) (Cod.cons (Cod.im (Cod.int .i64)) (Cod.nil))))))))))))))))))))))))))))))))))))))))))))))) (Cod.cons (Cod.var 1 43 (Cod.cons (Cod.im (Cod.int .i64)) (Cod.cons (Cod.im (Cod.int .i64)) (Cod.cons (Cod.im (Cod.int .i64)) (Cod.cons (Cod.im (Cod.int .i64)) (Cod.cons (Cod.im (Cod.int .i64)) (Cod.cons (Cod.im (Cod.int .i64)) (Cod.cons (Cod.ar 31) (Cod.cons (Cod.ar 32) (Cod.cons (Cod.ar 33) (Cod.cons (Cod.im (Cod.int .i64)) (Cod.cons (Cod.im (Cod.int .i64)) (Cod.cons (Cod.im (Cod.int .i64)) (Cod.cons (Cod.ar 34) (Cod.cons (Cod.ar 35) (Cod.cons (Cod.ar 36) (Cod.cons (Cod.ar 37) (Cod.cons (Cod.ar 38) (Cod.cons (Cod.ar 39) (Cod.cons (Cod.ar 40) (Cod.cons (Cod.ar 41) (Cod.cons (Cod.ar 42) (Cod.cons (Cod.ar 43) (Cod.cons (Cod.ar 44) (Cod.cons (Cod.ar 45) (Cod.cons (Cod.ar 46) (Cod.cons (Cod.ar 47) (Cod.cons (Cod.ar 48) (Cod.cons (Cod.ar 49) (Cod.cons (Cod.ar 50) (Cod.cons (Cod.ar 51) (Cod.cons (Cod.ar 52) (Cod.cons (Cod.im (Cod.int .i64)) (Cod.cons (Cod.im (Cod.int .i64)) (Cod.cons (Cod.ar 53) (Cod.cons (Cod.im (Cod.int .i64)) (Cod.cons (Cod.im (Cod.int .i64)) (Cod.cons (Cod.im (Cod.int .i64)) (Cod.cons (Cod.im (Cod.int .i64)) (Cod.cons (Cod.im (Cod.int .i64)) (Cod.cons (Cod.im (Cod.int .i64)) (Cod.cons (Cod.im (Cod.int .i64)) (Cod.cons (Cod.ar 54) (Cod.cons (Cod.im (Cod.fz j_lOp)) (Cod.cons (Cod.im Cod.bool) (Cod.cons (Cod.im (Cod.int .i64)) (Cod.nil))))))))))))))))))))))))))))))))))))))))))))))) (Cod.cons (Cod.var 2 43 (Cod.cons (Cod.im (Cod.int .i64)) (Cod.cons (Cod.im (Cod.int .i64)) (Cod.cons (Cod.im (Cod.int .i64)) (Cod.cons (Cod.im (Cod.int .i64)) (Cod.cons (Cod.im (Cod.int .i64)) (Cod.cons (Cod.im (Cod.int .i64)) (Cod.cons (Cod.ar 10) (Cod.cons (Cod.ar 11) (Cod.cons (Cod.ar 12) (Cod.cons (Cod.im (Cod.int .i64)) (Cod.cons (Cod.im (Cod.int .i64)) (Cod.cons (Cod.im (Cod.int .i64)) (Cod.cons (Cod.ar 55) (Cod.cons (Cod.im (Cod.fz j_lDot)) (Cod.cons (Cod.im (Cod.fz j_lReg)) (Cod.cons (Cod.im (Cod.fz j_lElem)) (Cod.cons (Cod.im (Cod.fz j_lDot)) (Cod.cons (Cod.im (Cod.fz j_lSum)) (Cod.cons (Cod.im (Cod.fz j_lBind)) (Cod.cons (Cod.im (Cod.fz j_lDot)) (Cod.cons (Cod.im (Cod.fz j_lReg)) (Cod.cons (Cod.im (Cod.fz j_lElem)) (Cod.cons (Cod.im (Cod.fz j_lDot)) (Cod.cons (Cod.im (Cod.fz j_lSum)) (Cod.cons (Cod.im (Cod.fz j_lBind)) (Cod.cons (Cod.im (Cod.fz j_lDot)) (Cod.cons (Cod.im (Cod.fz j_lReg)) (Cod.cons (Cod.im (Cod.fz j_lElem)) (Cod.cons (Cod.im (Cod.fz j_lDot)) (Cod.cons (Cod.im (Cod.fz j_lSum)) (Cod.cons (Cod.im (Cod.fz j_lBind)) (Cod.cons (Cod.im (Cod.int .i64)) (Cod.cons (Cod.im (Cod.int .i64)) (Cod.cons (Cod.ar 14) (Cod.cons (Cod.im (Cod.int .i64)) (Cod.cons (Cod.im (Cod.int .i64)) (Cod.cons (Cod.im (Cod.int .i64)) (Cod.cons (Cod.im (Cod.int .i64)) (Cod.cons (Cod.im (Cod.int .i64)) (Cod.cons (Cod.im (Cod.int .i64)) (Cod.cons (Cod.im (Cod.int .i64)) (Cod.cons (Cod.ar 15) (Cod.cons (Cod.im (Cod.fz j_lOp)) (Cod.cons (Cod.im Cod.bool) (Cod.cons (Cod.im (Cod.int .i64)) (Cod.nil))))))))))))))))))))))))))))))))))))))))))))))) (Cod.cons (Cod.arr 3 62 j_lSlice) (Cod.cons (Cod.arr 4 98 j_lRange) (Cod.cons (Cod.arr 5 3 j_lInt) (Cod.cons (Cod.arr 6 50 j_lOp) (Cod.cons (Cod.arr 7 4 j_lBool) (Cod.cons (Cod.arr 8 89 j_lWant) (Cod.cons (Cod.arr 9 50 j_lOp) (Cod.cons (Cod.arr 10 62 j_lSlice) (Cod.cons (Cod.arr 11 98 j_lRange) (Cod.cons (Cod.arr 12 3 j_lInt) (Cod.cons (Cod.arr 14 4 j_lBool) (Cod.cons (Cod.arr 15 89 j_lWant) (Cod.cons (Cod.arr 31 62 j_lSlice) (Cod.cons (Cod.arr 32 98 j_lRange) (Cod.cons (Cod.arr 33 3 j_lInt) (Cod.cons (Cod.arr 34 50 j_lOp) (Cod.cons (Cod.arr 35 112 j_lDot) (Cod.cons (Cod.arr 36 103 j_lReg) (Cod.cons (Cod.arr 37 100 j_lElem) (Cod.cons (Cod.arr 38 48 j_lDot) (Cod.cons (Cod.arr 39 118 j_lSum) (Cod.cons (Cod.arr 40 121 j_lBind) (Cod.cons (Cod.arr 41 112 j_lDot) (Cod.cons (Cod.arr 42 103 j_lReg) (Cod.cons (Cod.arr 43 100 j_lElem) (Cod.cons (Cod.arr 44 48 j_lDot) (Cod.cons (Cod.arr 45 118 j_lSum) (Cod.cons (Cod.arr 46 121 j_lBind) (Cod.cons (Cod.arr 47 112 j_lDot) (Cod.cons (Cod.arr 48 103 j_lReg) (Cod.cons (Cod.arr 49 100 j_lElem) (Cod.cons (Cod.arr 50 48 j_lDot) (Cod.cons (Cod.arr 51 118 j_lSum) (Cod.cons (Cod.arr 52 121 j_lBind) (Cod.cons (Cod.arr 53 4 j_lBool) (Cod.cons (Cod.arr 54 89 j_lWant) (Cod.cons (Cod.arr 55 50 j_lOp) (Cod.nil)))))))))))))))))))))))))))))))))))))))))) (fun p => (p.1.1, p.1.2.2.1, (State.mk p.2.1.1 p.2.1.2.1 (Lease.mk p.2.1.2.2.1 p.2.1.2.2.2.1 p.2.1.2.2.2.2.1 p.2.1.2.2.2.2.2.1 p.2.1.2.2.2.2.2.2.1 p.2.1.2.2.2.2.2.2.2.1 p.2.1.2.2.2.2.2.2.2.2.1) p.2.1.2.2.2.2.2.2.2.2.2.1 p.2.1.2.2.2.2.2.2.2.2.2.2.1 p.2.1.2.2.2.2.2.2.2.2.2.2.2.1 p.2.1.2.2.2.2.2.2.2.2.2.2.2.2.1 (A3Coll.mk (Coll.mk p.2.1.2.2.2.2.2.2.2.2.2.2.2.2.2.1 p.2.1.2.2.2.2.2.2.2.2.2.2.2.2.2.2.1 p.2.1.2.2.2.2.2.2.2.2.2.2.2.2.2.2.2.1 p.2.1.2.2.2.2.2.2.2.2.2.2.2.2.2.2.2.2.1 p.2.1.2.2.2.2.2.2.2.2.2.2.2.2.2.2.2.2.2.1 p.2.1.2.2.2.2.2.2.2.2.2.2.2.2.2.2.2.2.2.2.1) (Coll.mk p.2.1.2.2.2.2.2.2.2.2.2.2.2.2.2.2.2.2.2.2.2.1 p.2.1.2.2.2.2.2.2.2.2.2.2.2.2.2.2.2.2.2.2.2.2.1 p.2.1.2.2.2.2.2.2.2.2.2.2.2.2.2.2.2.2.2.2.2.2.2.1 p.2.1.2.2.2.2.2.2.2.2.2.2.2.2.2.2.2.2.2.2.2.2.2.2.1 p.2.1.2.2.2.2.2.2.2.2.2.2.2.2.2.2.2.2.2.2.2.2.2.2.2.1 p.2.1.2.2.2.2.2.2.2.2.2.2.2.2.2.2.2.2.2.2.2.2.2.2.2.2.1) (Coll.mk p.2.1.2.2.2.2.2.2.2.2.2.2.2.2.2.2.2.2.2.2.2.2.2.2.2.2.2.1 p.2.1.2.2.2.2.2.2.2.2.2.2.2.2.2.2.2.2.2.2.2.2.2.2.2.2.2.2.1 p.2.1.2.2.2.2.2.2.2.2.2.2.2.2.2.2.2.2.2.2.2.2.2.2.2.2.2.2.2.1 p.2.1.2.2.2.2.2.2.2.2.2.2.2.2.2.2.2.2.2.2.2.2.2.2.2.2.2.2.2.2.1 p.2.1.2.2.2.2.2.2.2.2.2.2.2.2.2.2.2.2.2.2.2.2.2.2.2.2.2.2.2.2.2.1 p.2.1.2.2.2.2.2.2.2.2.2.2.2.2.2.2.2.2.2.2.2.2.2.2.2.2.2.2.2.2.2.2.1)) p.2.1.2.2.2.2.2.2.2.2.2.2.2.2.2.2.2.2.2.2.2.2.2.2.2.2.2.2.2.2.2.2.2.1 p.2.1.2.2.2.2.2.2.2.2.2.2.2.2.2.2.2.2.2.2.2.2.2.2.2.2.2.2.2.2.2.2.2.2.1 p.2.1.2.2.2.2.2.2.2.2.2.2.2.2.2.2.2.2.2.2.2.2.2.2.2.2.2.2.2.2.2.2.2.2.2.1 p.2.1.2.2.2.2.2.2.2.2.2.2.2.2.2.2.2.2.2.2.2.2.2.2.2.2.2.2.2.2.2.2.2.2.2.2.1 p.2.1.2.2.2.2.2.2.2.2.2.2.2.2.2.2.2.2.2.2.2.2.2.2.2.2.2.2.2.2.2.2.2.2.2.2.2.1 (Cmd.mk p.2.1.2.2.2.2.2.2.2.2.2.2.2.2.2.2.2.2.2.2.2.2.2.2.2.2.2.2.2.2.2.2.2.2.2.2.2.2.1 p.2.1.2.2.2.2.2.2.2.2.2.2.2.2.2.2.2.2.2.2.2.2.2.2.2.2.2.2.2.2.2.2.2.2.2.2.2.2.2.1 p.2.1.2.2.2.2.2.2.2.2.2.2.2.2.2.2.2.2.2.2.2.2.2.2.2.2.2.2.2.2.2.2.2.2.2.2.2.2.2.2.1 p.2.1.2.2.2.2.2.2.2.2.2.2.2.2.2.2.2.2.2.2.2.2.2.2.2.2.2.2.2.2.2.2.2.2.2.2.2.2.2.2.2.1 p.2.1.2.2.2.2.2.2.2.2.2.2.2.2.2.2.2.2.2.2.2.2.2.2.2.2.2.2.2.2.2.2.2.2.2.2.2.2.2.2.2.2.1 p.2.1.2.2.2.2.2.2.2.2.2.2.2.2.2.2.2.2.2.2.2.2.2.2.2.2.2.2.2.2.2.2.2.2.2.2.2.2.2.2.2.2.2.1 p.2.1.2.2.2.2.2.2.2.2.2.2.2.2.2.2.2.2.2.2.2.2.2.2.2.2.2.2.2.2.2.2.2.2.2.2.2.2.2.2.2.2.2.2.1) p.2.1.2.2.2.2.2.2.2.2.2.2.2.2.2.2.2.2.2.2.2.2.2.2.2.2.2.2.2.2.2.2.2.2.2.2.2.2.2.2.2.2.2.2.2.1 p.2.1.2.2.2.2.2.2.2.2.2.2.2.2.2.2.2.2.2.2.2.2.2.2.2.2.2.2.2.2.2.2.2.2.2.2.2.2.2.2.2.2.2.2.2.2.1), (State.mk p.2.2.1.1 p.2.2.1.2.1 (Lease.mk p.2.2.1.2.2.1 p.2.2.1.2.2.2.1 p.2.2.1.2.2.2.2.1 p.2.2.1.2.2.2.2.2.1 p.2.2.2.2.2.2.2.2.2.2.2.2.2.2.2.2.1 p.2.2.2.2.2.2.2.2.2.2.2.2.2.2.2.2.2.1 p.2.2.2.2.2.2.2.2.2.2.2.2.2.2.2.2.2.2.1) p.2.2.1.2.2.2.2.2.2.2.2.2.1 p.2.2.1.2.2.2.2.2.2.2.2.2.2.1 p.2.2.1.2.2.2.2.2.2.2.2.2.2.2.1 p.2.2.2.2.2.2.2.2.2.2.2.2.2.2.2.2.2.2.2.1 (A3Coll.mk (Coll.mk p.2.2.2.2.2.2.2.2.2.2.2.2.2.2.2.2.2.2.2.2.1 p.2.2.2.2.2.2.2.2.2.2.2.2.2.2.2.2.2.2.2.2.2.1 p.2.2.2.2.2.2.2.2.2.2.2.2.2.2.2.2.2.2.2.2.2.2.1 p.2.2.2.2.2.2.2.2.2.2.2.2.2.2.2.2.2.2.2.2.2.2.2.1 p.2.2.2.2.2.2.2.2.2.2.2.2.2.2.2.2.2.2.2.2.2.2.2.2.1 p.2.2.2.2.2.2.2.2.2.2.2.2.2.2.2.2.2.2.2.2.2.2.2.2.2.1) (Coll.mk p.2.2.2.2.2.2.2.2.2.2.2.2.2.2.2.2.2.2.2.2.2.2.2.2.2.2.1 p.2.2.2.2.2.2.2.2.2.2.2.2.2.2.2.2.2.2.2.2.2.2.2.2.2.2.2.1 p.2.2.2.2.2.2.2.2.2.2.2.2.2.2.2.2.2.2.2.2.2.2.2.2.2.2.2.2.1 p.2.2.2.2.2.2.2.2.2.2.2.2.2.2.2.2.2.2.2.2.2.2.2.2.2.2.2.2.2.1 p.2.2.2.2.2.2.2.2.2.2.2.2.2.2.2.2.2.2.2.2.2.2.2.2.2.2.2.2.2.2.1 p.2.2.2.2.2.2.2.2.2.2.2.2.2.2.2.2.2.2.2.2.2.2.2.2.2.2.2.2.2.2.2.1) (Coll.mk p.2.2.2.2.2.2.2.2.2.2.2.2.2.2.2.2.2.2.2.2.2.2.2.2.2.2.2.2.2.2.2.2.1 p.2.2.2.2.2.2.2.2.2.2.2.2.2.2.2.2.2.2.2.2.2.2.2.2.2.2.2.2.2.2.2.2.2.1 p.2.2.2.2.2.2.2.2.2.2.2.2.2.2.2.2.2.2.2.2.2.2.2.2.2.2.2.2.2.2.2.2.2.2.1 p.2.2.2.2.2.2.2.2.2.2.2.2.2.2.2.2.2.2.2.2.2.2.2.2.2.2.2.2.2.2.2.2.2.2.2.1 p.2.2.2.2.2.2.2.2.2.2.2.2.2.2.2.2.2.2.2.2.2.2.2.2.2.2.2.2.2.2.2.2.2.2.2.2.1 p.2.2.2.2.2.2.2.2.2.2.2.2.2.2.2.2.2.2.2.2.2.2.2.2.2.2.2.2.2.2.2.2.2.2.2.2.2.1)) p.2.2.1.2.2.2.2.2.2.2.2.2.2.2.2.2.2.2.2.2.2.2.2.2.2.2.2.2.2.2.2.2.2.2.1 p.2.2.1.2.2.2.2.2.2.2.2.2.2.2.2.2.2.2.2.2.2.2.2.2.2.2.2.2.2.2.2.2.2.2.2.1 p.2.2.2.2.2.2.2.2.2.2.2.2.2.2.2.2.2.2.2.2.2.2.2.2.2.2.2.2.2.2.2.2.2.2.2.2.2.2.1 p.2.2.1.2.2.2.2.2.2.2.2.2.2.2.2.2.2.2.2.2.2.2.2.2.2.2.2.2.2.2.2.2.2.2.2.2.2.1 p.2.2.1.2.2.2.2.2.2.2.2.2.2.2.2.2.2.2.2.2.2.2.2.2.2.2.2.2.2.2.2.2.2.2.2.2.2.2.1 (Cmd.mk p.2.2.1.2.2.2.2.2.2.2.2.2.2.2.2.2.2.2.2.2.2.2.2.2.2.2.2.2.2.2.2.2.2.2.2.2.2.2.2.1 p.2.2.1.2.2.2.2.2.2.2.2.2.2.2.2.2.2.2.2.2.2.2.2.2.2.2.2.2.2.2.2.2.2.2.2.2.2.2.2.2.1 p.2.2.1.2.2.2.2.2.2.2.2.2.2.2.2.2.2.2.2.2.2.2.2.2.2.2.2.2.2.2.2.2.2.2.2.2.2.2.2.2.2.1 p.2.2.1.2.2.2.2.2.2.2.2.2.2.2.2.2.2.2.2.2.2.2.2.2.2.2.2.2.2.2.2.2.2.2.2.2.2.2.2.2.2.2.1 p.2.2.1.2.2.2.2.2.2.2.2.2.2.2.2.2.2.2.2.2.2.2.2.2.2.2.2.2.2.2.2.2.2.2.2.2.2.2.2.2.2.2.2.1 p.2.2.2.2.2.2.2.2.2.2.2.2.2.2.2.2.2.2.2.2.2.2.2.2.2.2.2.2.2.2.2.2.2.2.2.2.2.2.2.1 p.2.2.1.2.2.2.2.2.2.2.2.2.2.2.2.2.2.2.2.2.2.2.2.2.2.2.2.2.2.2.2.2.2.2.2.2.2.2.2.2.2.2.2.2.2.1) p.2.2.1.2.2.2.2.2.2.2.2.2.2.2.2.2.2.2.2.2.2.2.2.2.2.2.2.2.2.2.2.2.2.2.2.2.2.2.2.2.2.2.2.2.2.2.1 p.2.2.1.2.2.2.2.2.2.2.2.2.2.2.2.2.2.2.2.2.2.2.2.2.2.2.2.2.2.2.2.2.2.2.2.2.2.2.2.2.2.2.2.2.2.2.2.1), (State.mk p.2.2.2.1.1 p.2.2.2.1.2.1 (Lease.mk p.2.2.2.1.2.2.1 p.2.2.2.1.2.2.2.1 p.2.2.2.1.2.2.2.2.1 p.2.2.2.1.2.2.2.2.2.1 p.2.2.2.2.2.2.2.2.2.2.2.1 p.2.2.2.2.2.2.2.2.2.2.2.2.1 p.2.2.2.2.2.2.2.2.2.2.2.2.2.1) p.2.2.2.1.2.2.2.2.2.2.2.2.2.1 p.2.2.2.1.2.2.2.2.2.2.2.2.2.2.1 p.2.2.2.1.2.2.2.2.2.2.2.2.2.2.2.1 p.2.2.2.2.2.2.2.2.2.2.2.2.2.2.2.2.2.2.2.2.2.2.2.2.2.2.2.2.2.2.2.2.2.2.2.2.2.2.2.2.1 (A3Coll.mk (Coll.mk p.2.2.2.1.2.2.2.2.2.2.2.2.2.2.2.2.2.1 p.2.2.2.1.2.2.2.2.2.2.2.2.2.2.2.2.2.2.1 p.2.2.2.1.2.2.2.2.2.2.2.2.2.2.2.2.2.2.2.1 p.2.2.2.1.2.2.2.2.2.2.2.2.2.2.2.2.2.2.2.2.1 p.2.2.2.1.2.2.2.2.2.2.2.2.2.2.2.2.2.2.2.2.2.1 p.2.2.2.1.2.2.2.2.2.2.2.2.2.2.2.2.2.2.2.2.2.2.1) (Coll.mk p.2.2.2.1.2.2.2.2.2.2.2.2.2.2.2.2.2.2.2.2.2.2.2.1 p.2.2.2.1.2.2.2.2.2.2.2.2.2.2.2.2.2.2.2.2.2.2.2.2.1 p.2.2.2.1.2.2.2.2.2.2.2.2.2.2.2.2.2.2.2.2.2.2.2.2.2.1 p.2.2.2.1.2.2.2.2.2.2.2.2.2.2.2.2.2.2.2.2.2.2.2.2.2.2.1 p.2.2.2.1.2.2.2.2.2.2.2.2.2.2.2.2.2.2.2.2.2.2.2.2.2.2.2.1 p.2.2.2.1.2.2.2.2.2.2.2.2.2.2.2.2.2.2.2.2.2.2.2.2.2.2.2.2.1) (Coll.mk p.2.2.2.1.2.2.2.2.2.2.2.2.2.2.2.2.2.2.2.2.2.2.2.2.2.2.2.2.2.1 p.2.2.2.1.2.2.2.2.2.2.2.2.2.2.2.2.2.2.2.2.2.2.2.2.2.2.2.2.2.2.1 p.2.2.2.1.2.2.2.2.2.2.2.2.2.2.2.2.2.2.2.2.2.2.2.2.2.2.2.2.2.2.2.1 p.2.2.2.1.2.2.2.2.2.2.2.2.2.2.2.2.2.2.2.2.2.2.2.2.2.2.2.2.2.2.2.2.1 p.2.2.2.1.2.2.2.2.2.2.2.2.2.2.2.2.2.2.2.2.2.2.2.2.2.2.2.2.2.2.2.2.2.1 p.2.2.2.1.2.2.2.2.2.2.2.2.2.2.2.2.2.2.2.2.2.2.2.2.2.2.2.2.2.2.2.2.2.2.1)) p.2.2.2.1.2.2.2.2.2.2.2.2.2.2.2.2.2.2.2.2.2.2.2.2.2.2.2.2.2.2.2.2.2.2.2.1 p.2.2.2.1.2.2.2.2.2.2.2.2.2.2.2.2.2.2.2.2.2.2.2.2.2.2.2.2.2.2.2.2.2.2.2.2.1 p.2.2.2.2.2.2.2.2.2.2.2.2.2.2.1 p.2.2.2.1.2.2.2.2.2.2.2.2.2.2.2.2.2.2.2.2.2.2.2.2.2.2.2.2.2.2.2.2.2.2.2.2.2.2.1 p.2.2.2.1.2.2.2.2.2.2.2.2.2.2.2.2.2.2.2.2.2.2.2.2.2.2.2.2.2.2.2.2.2.2.2.2.2.2.2.1 (Cmd.mk p.2.2.2.1.2.2.2.2.2.2.2.2.2.2.2.2.2.2.2.2.2.2.2.2.2.2.2.2.2.2.2.2.2.2.2.2.2.2.2.2.1 p.2.2.2.1.2.2.2.2.2.2.2.2.2.2.2.2.2.2.2.2.2.2.2.2.2.2.2.2.2.2.2.2.2.2.2.2.2.2.2.2.2.1 p.2.2.2.1.2.2.2.2.2.2.2.2.2.2.2.2.2.2.2.2.2.2.2.2.2.2.2.2.2.2.2.2.2.2.2.2.2.2.2.2.2.2.1 p.2.2.2.1.2.2.2.2.2.2.2.2.2.2.2.2.2.2.2.2.2.2.2.2.2.2.2.2.2.2.2.2.2.2.2.2.2.2.2.2.2.2.2.1 p.2.2.2.1.2.2.2.2.2.2.2.2.2.2.2.2.2.2.2.2.2.2.2.2.2.2.2.2.2.2.2.2.2.2.2.2.2.2.2.2.2.2.2.2.1 p.2.2.2.2.2.2.2.2.2.2.2.2.2.2.2.1 p.2.2.2.1.2.2.2.2.2.2.2.2.2.2.2.2.2.2.2.2.2.2.2.2.2.2.2.2.2.2.2.2.2.2.2.2.2.2.2.2.2.2.2.2.2.2.1) p.2.2.2.1.2.2.2.2.2.2.2.2.2.2.2.2.2.2.2.2.2.2.2.2.2.2.2.2.2.2.2.2.2.2.2.2.2.2.2.2.2.2.2.2.2.2.2.1 p.2.2.2.1.2.2.2.2.2.2.2.2.2.2.2.2.2.2.2.2.2.2.2.2.2.2.2.2.2.2.2.2.2.2.2.2.2.2.2.2.2.2.2.2.2.2.2.2.1), p.2.2.2.2.1, p.2.2.2.2.2.1, p.2.2.2.2.2.2.1, p.2.2.2.2.2.2.2.1, p.2.2.2.2.2.2.2.2.1, p.2.2.2.2.2.2.2.2.2.1, p.2.2.2.2.2.2.2.2.2.2.1)) (fun (x : Int × Int × State × State × State × (List Slice) × (List Range) × (List Int) × (List Op) × (List Bool) × (List Want) × (List Op)) => ((x.1, ((), (x.2.1, ((), ())))), ((x.2.2.1.device, (x.2.2.1.epoch, (x.2.2.1.lease.device, (x.2.2.1.lease.epoch, (x.2.2.1.lease.until_, (x.2.2.1.lease.last, (x.2.2.1.lease.slices, (x.2.2.1.lease.ids, (x.2.2.1.lease.used, (x.2.2.1.ends, (x.2.2.1.seq, (x.2.2.1.sent, (x.2.2.1.pending, (x.2.2.1.colls.a0.v, (x.2.2.1.colls.a0.regs, (x.2.2.1.colls.a0.elems, (x.2.2.1.colls.a0.gone, (x.2.2.1.colls.a0.sums, (x.2.2.1.colls.a0.binds, (x.2.2.1.colls.a1.v, (x.2.2.1.colls.a1.regs, (x.2.2.1.colls.a1.elems, (x.2.2.1.colls.a1.gone, (x.2.2.1.colls.a1.sums, (x.2.2.1.colls.a1.binds, (x.2.2.1.colls.a2.v, (x.2.2.1.colls.a2.regs, (x.2.2.1.colls.a2.elems, (x.2.2.1.colls.a2.gone, (x.2.2.1.colls.a2.sums, (x.2.2.1.colls.a2.binds, (x.2.2.1.at_, (x.2.2.1.ver, (x.2.2.1.subs, (x.2.2.1.req, (x.2.2.1.asked, (x.2.2.1.cmd.kind, (x.2.2.1.cmd.device, (x.2.2.1.cmd.epoch, (x.2.2.1.cmd.req, (x.2.2.1.cmd.n, (x.2.2.1.cmd.wants, (x.2.2.1.cmd.ops, (x.2.2.1.fenced, (x.2.2.1.now, ()))))))))))))))))))))))))))))))))))))))))))))), ((x.2.2.2.1.device, (x.2.2.2.1.epoch, (x.2.2.2.1.lease.device, (x.2.2.2.1.lease.epoch, (x.2.2.2.1.lease.until_, (x.2.2.2.1.lease.last, ((), ((), ((), (x.2.2.2.1.ends, (x.2.2.2.1.seq, (x.2.2.2.1.sent, ((), ((), ((), ((), ((), ((), ((), ((), ((), ((), ((), ((), ((), ((), ((), ((), ((), ((), ((), (x.2.2.2.1.at_, (x.2.2.2.1.ver, ((), (x.2.2.2.1.req, (x.2.2.2.1.asked, (x.2.2.2.1.cmd.kind, (x.2.2.2.1.cmd.device, (x.2.2.2.1.cmd.epoch, (x.2.2.2.1.cmd.req, (x.2.2.2.1.cmd.n, ((), (x.2.2.2.1.cmd.ops, (x.2.2.2.1.fenced, (x.2.2.2.1.now, ()))))))))))))))))))))))))))))))))))))))))))))), ((x.2.2.2.2.1.device, (x.2.2.2.2.1.epoch, (x.2.2.2.2.1.lease.device, (x.2.2.2.2.1.lease.epoch, (x.2.2.2.2.1.lease.until_, (x.2.2.2.2.1.lease.last, ((), ((), ((), (x.2.2.2.2.1.ends, (x.2.2.2.2.1.seq, (x.2.2.2.2.1.sent, ((), (x.2.2.2.2.1.colls.a0.v, (x.2.2.2.2.1.colls.a0.regs, (x.2.2.2.2.1.colls.a0.elems, (x.2.2.2.2.1.colls.a0.gone, (x.2.2.2.2.1.colls.a0.sums, (x.2.2.2.2.1.colls.a0.binds, (x.2.2.2.2.1.colls.a1.v, (x.2.2.2.2.1.colls.a1.regs, (x.2.2.2.2.1.colls.a1.elems, (x.2.2.2.2.1.colls.a1.gone, (x.2.2.2.2.1.colls.a1.sums, (x.2.2.2.2.1.colls.a1.binds, (x.2.2.2.2.1.colls.a2.v, (x.2.2.2.2.1.colls.a2.regs, (x.2.2.2.2.1.colls.a2.elems, (x.2.2.2.2.1.colls.a2.gone, (x.2.2.2.2.1.colls.a2.sums, (x.2.2.2.2.1.colls.a2.binds, (x.2.2.2.2.1.at_, (x.2.2.2.2.1.ver, ((), (x.2.2.2.2.1.req, (x.2.2.2.2.1.asked, (x.2.2.2.2.1.cmd.kind, (x.2.2.2.2.1.cmd.device, (x.2.2.2.2.1.cmd.epoch, (x.2.2.2.2.1.cmd.req, (x.2.2.2.2.1.cmd.n, ((), (x.2.2.2.2.1.cmd.ops, (x.2.2.2.2.1.fenced, (x.2.2.2.2.1.now, ()))))))))))))))))))))))))))))))))))))))))))))), (x.2.2.2.2.2.1, (x.2.2.2.2.2.2.1, (x.2.2.2.2.2.2.2.1, (x.2.2.2.2.2.2.2.2.1, (x.2.2.2.2.2.2.2.2.2.1, (x.2.2.2.2.2.2.2.2.2.2.1, (x.2.2.2.2.2.2.2.2.2.2.2, (x.2.2.2.2.1.lease.slices, (x.2.2.2.2.1.lease.ids, (x.2.2.2.2.1.lease.used, (x.2.2.2.2.1.subs, (x.2.2.2.2.1.cmd.wants, (x.2.2.2.1.lease.slices, (x.2.2.2.1.lease.ids, (x.2.2.2.1.lease.used, (x.2.2.2.1.pending, (x.2.2.2.1.colls.a0.v, (x.2.2.2.1.colls.a0.regs, (x.2.2.2.1.colls.a0.elems, (x.2.2.2.1.colls.a0.gone, (x.2.2.2.1.colls.a0.sums, (x.2.2.2.1.colls.a0.binds, (x.2.2.2.1.colls.a1.v, (x.2.2.2.1.colls.a1.regs, (x.2.2.2.1.colls.a1.elems, (x.2.2.2.1.colls.a1.gone, (x.2.2.2.1.colls.a1.sums, (x.2.2.2.1.colls.a1.binds, (x.2.2.2.1.colls.a2.v, (x.2.2.2.1.colls.a2.regs, (x.2.2.2.1.colls.a2.elems, (x.2.2.2.1.colls.a2.gone, (x.2.2.2.1.colls.a2.sums, (x.2.2.2.1.colls.a2.binds, (x.2.2.2.1.subs, (x.2.2.2.1.cmd.wants, (x.2.2.2.2.1.pending, ())))))))))))))))))))))))))))))))))))))))))) (fun _ => rfl)
noncomputable def sl_L12_7 : SFn TL := SFn.two ch_L12_7.dec (fun p => L12_7 p.1 p.2.1 p.2.2.1 p.2.2.2.1 p.2.2.2.2.1 p.2.2.2.2.2.1 p.2.2.2.2.2.2.1 p.2.2.2.2.2.2.2) (.exit 1) .ret co0_L12_7.enc co1_L12_7.enc
noncomputable def cs_lL12_7 : List (Nat × DFn TL) := [(26, df_apply_)]
noncomputable def ss_lL12_7 : List (Nat × SFn TL) := [(24, sf_localOwn), (20127002, sl_L27b_2)]
noncomputable def env_lL12_7 : Env := envOf tab sl sh [(25, fd25), (27, fd27b)] [(24, .sum), (26, .keep), (29, (.del 50))]
theorem env_lL12_7_ok : EnvOK Tryz.prog (mkD cs_lL12_7 ss_lL12_7) env_lL12_7 := envOK_of base (all_cons (st25.okl rfl (all_nil)) (all_cons (st27b.okl rfl (all_cons (LoopOK.cast ok_L27b_2 rfl) (all_nil))) (all_nil))) (all_cons (okS rfl ok_localOwn) (all_cons (okD rfl ok_apply_) (all_cons (okDel okI_29) (all_nil))))
theorem run_L12_7 (x : Int × Int × (List Op) × Int × Int × State × State × State) : Out.run (mkO cs_lL12_7 ss_lL12_7) (evRound env_lL12_7 12 20 fd12.an q_L12_7 (loopIn (loopsOf fd12.body) 7) (ch_L12_7.enc x)) (back2 ch_L12_7 co0_L12_7 co1_L12_7 (.exit 1) .ret) = stp_L12_7 x := by kernel_rfl
theorem ok_L12_7 : LoopOK Tryz.prog (oneS sl_L12_7) nt12 q_L12_7 (loopIn (loopsOf fd12.body) 7) :=
  loop_two env_lL12_7_ok (loops := 12) (k := 20) (an := fd12.an) (by kernel_rfl) (FnSt.subl rfl st12.keys (all_cons (.inl (by kernel_rfl)) (all_nil))) ch_L12_7 co0_L12_7 co1_L12_7 (.exit 1) .ret rfl rfl stp_L12_7 _ run_L12_7 (fun x y h => ⟨_, h⟩) (fun _ => below_iff.1 rfl)
/-- local.Delta -/
def delta (s1 : State) (i1 : Int) (i2 : Int) (l1 : List Op) : Option (State × Int) :=
  cond ((i1 != s1.at_))
    (ob (localOwn s1) fun y0 =>
    some (y0, 2))
    (cond ((decide (i2 < i1)))
      (ob (localOwn s1) fun y1 =>
      some (y1, 1))
      (ob (localOwn s1) fun y2 =>
      ob (L12_7 i2 0 l1 (l1.length : Int) 0 s1 (State.mk 0 0 (Lease.mk 0 0 0 0 [] [] []) 0 0 0 [] (A3Coll.mk (Coll.mk [] [] [] [] [] []) (Coll.mk [] [] [] [] [] []) (Coll.mk [] [] [] [] [] [])) 0 0 [] 0 0 (Cmd.mk 0 0 0 0 0 [] []) false 0) y2) fun y3 =>
      two y3 (fun a4 =>
        ob (localOwn (State.mk a4.2.2.2.2.device a4.2.2.2.2.epoch a4.2.2.2.2.lease a4.2.2.2.2.ends a4.2.2.2.2.seq a4.2.2.2.2.sent a4.2.2.2.2.pending a4.2.2.2.2.colls a4.1 a4.2.2.2.2.ver a4.2.2.2.2.subs a4.2.2.2.2.req a4.2.2.2.2.asked a4.2.2.2.2.cmd a4.2.2.2.2.fenced a4.2.2.2.2.now)) fun y6 =>
        some (y6, 0)) (fun b5 =>
        some (b5.2.2.2.1, b5.2.1))))
def un_delta (p : State × Int × Int × (List Op)) : Option (State × Int) := delta p.1 p.2.1 p.2.2.1 p.2.2.2
noncomputable def df_delta : DFn TL := DFn.of (DA.cons (DT.agg dc_State) (DA.cons (DT.one (DI.int .i64)) (DA.cons (DT.one (DI.int .i64)) (DA.one (DT.one di_lOp))))) un_delta (DA.cons (DT.agg dc_State) (DA.one (DT.one (DI.int .i64))))
noncomputable def cs_delta : List (Nat × DFn TL) := []
noncomputable def ss_delta : List (Nat × SFn TL) := [(24, sf_localOwn), (112007, sl_L12_7)]
noncomputable def env_delta : Env := envOf tab sl sh [(12, fd12)] [(24, .sum)]
theorem env_delta_ok : EnvOK Tryz.prog (mkD cs_delta ss_delta) env_delta := envOK_of base (all_cons (st12.okl rfl (all_cons (LoopOK.cast ok_L12_7 rfl) (all_nil))) (all_nil)) (all_cons (okS rfl ok_localOwn) (all_nil))
theorem run_delta (x : State × Int × Int × (List Op)) : Out.run (mkO cs_delta ss_delta) (evOrc env_delta 12 20 12 ((DA.cons (DT.agg dc_State) (DA.cons (DT.one (DI.int .i64)) (DA.cons (DT.one (DI.int .i64)) (DA.one (DT.one di_lOp)))) : DA TL (State × Int × Int × (List Op))).enc x)) (DA.cons (DT.agg dc_State) (DA.one (DT.one (DI.int .i64))) : DA TL (State × Int)).dec = un_delta x := by kernel_rfl
theorem ok_delta : DOK Tryz.prog 12 .keep df_delta := data_of env_delta_ok (loops := 12) (n := 20) (.inl rfl) st12.enters (DA.cons (DT.agg dc_State) (DA.cons (DT.one (DI.int .i64)) (DA.cons (DT.one (DI.int .i64)) (DA.one (DT.one di_lOp))))) un_delta (DA.cons (DT.agg dc_State) (DA.one (DT.one (DI.int .i64)))) run_delta
/-- a loop of api.Slice] -/
def step_L62_4 (l1 : List Slice) (l2 : List Slice) (b1 : Bool) (i1 : Int) (i2 : Int) : Option (((List Slice) × (List Slice) × Bool × Int × Int) ⊕ (((Bool) ⊕ (Bool)))) :=
  cond ((decide (i2 < i1)))
    (cond (decide (0 ≤ i2))
      (ob (l1[i2.toNat]?) fun e0 =>
      cond (decide (0 ≤ i2))
        (ob (l2[i2.toNat]?) fun e1 =>
        cond ((!(cond (sEq e0.key e1.key) (cond (e0.up_ == e1.up_) (cond (e0.down_ == e1.down_) (cond (e0.usedUp == e1.usedUp) (cond (e0.usedDown == e1.usedDown) true false) false) false) false) false)))
          (some (.inr (.inr false)))
          (some (.inl (l1, l2, b1, i1, (w64 (i2 + 1))))))
        (none))
      (none))
    (some (.inr (.inl b1)))
def stp_L62_4 (p : (List Slice) × (List Slice) × Bool × Int × Int) : Option (((List Slice) × (List Slice) × Bool × Int × Int) ⊕ (((Bool) ⊕ (Bool)))) := step_L62_4 p.1 p.2.1 p.2.2.1 p.2.2.2.1 p.2.2.2.2
def L62_4 (l1 : List Slice) (l2 : List Slice) (b1 : Bool) (i1 : Int) (i2 : Int) : Option (((Bool) ⊕ (Bool))) := iterO stp_L62_4 ((i1 - i2).toNat + 2) (l1, l2, b1, i1, i2)
def ch_L62_4 : Cod (Cst TL) ((List Slice) × (List Slice) × Bool × Int × Int) := Cod.iso (Cod.cst 0 (Cod.cons (Cod.xs (Cod.sc (Cod.im (Cod.fz j_lSlice)))) (Cod.cons (Cod.xs (Cod.sc (Cod.im (Cod.fz j_lSlice)))) (Cod.cons (Cod.xs (Cod.sc (Cod.im Cod.bool))) (Cod.cons (Cod.xs (Cod.sc (Cod.im (Cod.int .i64)))) (Cod.cons (Cod.xs (Cod.sc (Cod.im (Cod.int .i64)))) (Cod.nil)))))) (Cod.nil)) (fun p => (p.1.1, p.1.2.1, p.1.2.2.1, p.1.2.2.2.1, p.1.2.2.2.2.1)) (fun (x : (List Slice) × (List Slice) × Bool × Int × Int) => ((x.1, (x.2.1, (x.2.2.1, (x.2.2.2.1, (x.2.2.2.2, ()))))), ())) (fun _ => rfl)
def co0_L62_4 : Cod (Cst TL) (Bool) := Cod.iso (Cod.cst 0 (Cod.cons (Cod.xs (Cod.sc (Cod.im Cod.bool))) (Cod.nil)) (Cod.nil)) (fun p => p.1.1) (fun (x : Bool) => ((x, ()), ())) (fun _ => rfl)
def co1_L62_4 : Cod (Cst TL) (Bool) := Cod.iso (Cod.cst 0 (Cod.cons (Cod.xs (Cod.sc (Cod.im Cod.bool))) (Cod.nil)) (Cod.nil)) (fun p => p.1.1) (fun (x : Bool) => ((x, ()), ())) (fun _ => rfl)
noncomputable def sl_L62_4 : SFn TL := SFn.two ch_L62_4.dec (fun p => L62_4 p.1 p.2.1 p.2.2.1 p.2.2.2.1 p.2.2.2.2) (.exit 0) .ret co0_L62_4.enc co1_L62_4.enc
noncomputable def cs_lL62_4 : List (Nat × DFn TL) := []
noncomputable def ss_lL62_4 : List (Nat × SFn TL) := []
noncomputable def env_lL62_4 : Env := envOf tab sl sh [] []
theorem env_lL62_4_ok : EnvOK Tryz.prog (mkD cs_lL62_4 ss_lL62_4) env_lL62_4 := envOK_of base (all_nil) (all_nil)
theorem run_L62_4 (x : (List Slice) × (List Slice) × Bool × Int × Int) : Out.run (mkO cs_lL62_4 ss_lL62_4) (evRound env_lL62_4 12 20 fd62.an q_L62_4 (loopIn (loopsOf fd62.body) 4) (ch_L62_4.enc x)) (back2 ch_L62_4 co0_L62_4 co1_L62_4 (.exit 0) .ret) = stp_L62_4 x := by kernel_rfl
theorem ok_L62_4 : LoopOK Tryz.prog (oneS sl_L62_4) nt62 q_L62_4 (loopIn (loopsOf fd62.body) 4) :=
  loop_two env_lL62_4_ok (loops := 12) (k := 20) (an := fd62.an) (by kernel_rfl) (FnSt.subl rfl st62.keys (all_cons (.inl (by kernel_rfl)) (all_nil))) ch_L62_4 co0_L62_4 co1_L62_4 (.exit 0) .ret rfl rfl stp_L62_4 _ run_L62_4 (fun x y h => ⟨_, h⟩) (fun _ => below_iff.1 rfl)
/-- api.Slice] -/
def equalSlice (l1 : List Slice) (l2 : List Slice) : Option (Bool) :=
  cond (((l1.length : Int) != (l2.length : Int)))
    (some false)
    (ob (L62_4 l1 l2 false (l1.length : Int) 0) fun y0 =>
    two y0 (fun a1 =>
      some true) (fun b2 =>
      some b2))
def un_equalSlice (p : (List Slice) × (List Slice)) : Option (Bool) := equalSlice p.1 p.2
noncomputable def df_equalSlice : DFn TL := DFn.of (DA.cons (DT.one di_lSlice) (DA.one (DT.one di_lSlice))) un_equalSlice (DA.one (DT.one DI.bool))
noncomputable def cs_equalSlice : List (Nat × DFn TL) := []
noncomputable def ss_equalSlice : List (Nat × SFn TL) := [(162004, sl_L62_4)]
noncomputable def env_equalSlice : Env := envOf tab sl sh [(62, fd62)] []
theorem env_equalSlice_ok : EnvOK Tryz.prog (mkD cs_equalSlice ss_equalSlice) env_equalSlice := envOK_of base (all_cons (st62.okl rfl (all_cons (LoopOK.cast ok_L62_4 rfl) (all_nil))) (all_nil)) (all_nil)
theorem run_equalSlice (x : (List Slice) × (List Slice)) : Out.run (mkO cs_equalSlice ss_equalSlice) (evOrc env_equalSlice 12 20 62 ((DA.cons (DT.one di_lSlice) (DA.one (DT.one di_lSlice)) : DA TL ((List Slice) × (List Slice))).enc x)) (DA.one (DT.one DI.bool) : DA TL (Bool)).dec = un_equalSlice x := by kernel_rfl
theorem ok_equalSlice : DOK Tryz.prog 62 .pure df_equalSlice := data_of env_equalSlice_ok (loops := 12) (n := 20) (.inr rfl) st62.enters (DA.cons (DT.one di_lSlice) (DA.one (DT.one di_lSlice))) un_equalSlice (DA.one (DT.one DI.bool)) run_equalSlice
/-- a loop of api.Range] -/
def step_L63_4 (l1 : List Range) (l2 : List Range) (b1 : Bool) (i1 : Int) (i2 : Int) : Option (((List Range) × (List Range) × Bool × Int × Int) ⊕ (((Bool) ⊕ (Bool)))) :=
  cond ((decide (i2 < i1)))
    (cond (decide (0 ≤ i2))
      (ob (l1[i2.toNat]?) fun e0 =>
      cond (decide (0 ≤ i2))
        (ob (l2[i2.toNat]?) fun e1 =>
        cond ((!(cond (e0.from_ == e1.from_) (cond (e0.to_ == e1.to_) true false) false)))
          (some (.inr (.inr false)))
          (some (.inl (l1, l2, b1, i1, (w64 (i2 + 1))))))
        (none))
      (none))
    (some (.inr (.inl b1)))
def stp_L63_4 (p : (List Range) × (List Range) × Bool × Int × Int) : Option (((List Range) × (List Range) × Bool × Int × Int) ⊕ (((Bool) ⊕ (Bool)))) := step_L63_4 p.1 p.2.1 p.2.2.1 p.2.2.2.1 p.2.2.2.2
def L63_4 (l1 : List Range) (l2 : List Range) (b1 : Bool) (i1 : Int) (i2 : Int) : Option (((Bool) ⊕ (Bool))) := iterO stp_L63_4 ((i1 - i2).toNat + 2) (l1, l2, b1, i1, i2)
def ch_L63_4 : Cod (Cst TL) ((List Range) × (List Range) × Bool × Int × Int) := Cod.iso (Cod.cst 0 (Cod.cons (Cod.xs (Cod.sc (Cod.im (Cod.fz j_lRange)))) (Cod.cons (Cod.xs (Cod.sc (Cod.im (Cod.fz j_lRange)))) (Cod.cons (Cod.xs (Cod.sc (Cod.im Cod.bool))) (Cod.cons (Cod.xs (Cod.sc (Cod.im (Cod.int .i64)))) (Cod.cons (Cod.xs (Cod.sc (Cod.im (Cod.int .i64)))) (Cod.nil)))))) (Cod.nil)) (fun p => (p.1.1, p.1.2.1, p.1.2.2.1, p.1.2.2.2.1, p.1.2.2.2.2.1)) (fun (x : (List Range) × (List Range) × Bool × Int × Int) => ((x.1, (x.2.1, (x.2.2.1, (x.2.2.2.1, (x.2.2.2.2, ()))))), ())) (fun _ => rfl)
def co0_L63_4 : Cod (Cst TL) (Bool) := Cod.iso (Cod.cst 0 (Cod.cons (Cod.xs (Cod.sc (Cod.im Cod.bool))) (Cod.nil)) (Cod.nil)) (fun p => p.1.1) (fun (x : Bool) => ((x, ()), ())) (fun _ => rfl)
def co1_L63_4 : Cod (Cst TL) (Bool) := Cod.iso (Cod.cst 0 (Cod.cons (Cod.xs (Cod.sc (Cod.im Cod.bool))) (Cod.nil)) (Cod.nil)) (fun p => p.1.1) (fun (x : Bool) => ((x, ()), ())) (fun _ => rfl)
noncomputable def sl_L63_4 : SFn TL := SFn.two ch_L63_4.dec (fun p => L63_4 p.1 p.2.1 p.2.2.1 p.2.2.2.1 p.2.2.2.2) (.exit 0) .ret co0_L63_4.enc co1_L63_4.enc
noncomputable def cs_lL63_4 : List (Nat × DFn TL) := []
noncomputable def ss_lL63_4 : List (Nat × SFn TL) := []
noncomputable def env_lL63_4 : Env := envOf tab sl sh [] []
theorem env_lL63_4_ok : EnvOK Tryz.prog (mkD cs_lL63_4 ss_lL63_4) env_lL63_4 := envOK_of base (all_nil) (all_nil)
theorem run_L63_4 (x : (List Range) × (List Range) × Bool × Int × Int) : Out.run (mkO cs_lL63_4 ss_lL63_4) (evRound env_lL63_4 12 20 fd63.an q_L63_4 (loopIn (loopsOf fd63.body) 4) (ch_L63_4.enc x)) (back2 ch_L63_4 co0_L63_4 co1_L63_4 (.exit 0) .ret) = stp_L63_4 x := by kernel_rfl
theorem ok_L63_4 : LoopOK Tryz.prog (oneS sl_L63_4) nt63 q_L63_4 (loopIn (loopsOf fd63.body) 4) :=
  loop_two env_lL63_4_ok (loops := 12) (k := 20) (an := fd63.an) (by kernel_rfl) (FnSt.subl rfl st63.keys (all_cons (.inl (by kernel_rfl)) (all_nil))) ch_L63_4 co0_L63_4 co1_L63_4 (.exit 0) .ret rfl rfl stp_L63_4 _ run_L63_4 (fun x y h => ⟨_, h⟩) (fun _ => below_iff.1 rfl)
/-- api.Range] -/
def equalRange (l1 : List Range) (l2 : List Range) : Option (Bool) :=
  cond (((l1.length : Int) != (l2.length : Int)))
    (some false)
    (ob (L63_4 l1 l2 false (l1.length : Int) 0) fun y0 =>
    two y0 (fun a1 =>
      some true) (fun b2 =>
      some b2))
def un_equalRange (p : (List Range) × (List Range)) : Option (Bool) := equalRange p.1 p.2
noncomputable def df_equalRange : DFn TL := DFn.of (DA.cons (DT.one di_lRange) (DA.one (DT.one di_lRange))) un_equalRange (DA.one (DT.one DI.bool))
noncomputable def cs_equalRange : List (Nat × DFn TL) := []
noncomputable def ss_equalRange : List (Nat × SFn TL) := [(163004, sl_L63_4)]
noncomputable def env_equalRange : Env := envOf tab sl sh [(63, fd63)] []
theorem env_equalRange_ok : EnvOK Tryz.prog (mkD cs_equalRange ss_equalRange) env_equalRange := envOK_of base (all_cons (st63.okl rfl (all_cons (LoopOK.cast ok_L63_4 rfl) (all_nil))) (all_nil)) (all_nil)
theorem run_equalRange (x : (List Range) × (List Range)) : Out.run (mkO cs_equalRange ss_equalRange) (evOrc env_equalRange 12 20 63 ((DA.cons (DT.one di_lRange) (DA.one (DT.one di_lRange)) : DA TL ((List Range) × (List Range))).enc x)) (DA.one (DT.one DI.bool) : DA TL (Bool)).dec = un_equalRange x := by kernel_rfl
theorem ok_equalRange : DOK Tryz.prog 63 .pure df_equalRange := data_of env_equalRange_ok (loops := 12) (n := 20) (.inr rfl) st63.enters (DA.cons (DT.one di_lRange) (DA.one (DT.one di_lRange))) un_equalRange (DA.one (DT.one DI.bool)) run_equalRange
/-- a loop of slices.Equal[[]int,int] -/
def step_L64_4 (l1 : List Int) (l2 : List Int) (b1 : Bool) (i1 : Int) (i2 : Int) : Option (((List Int) × (List Int) × Bool × Int × Int) ⊕ (((Bool) ⊕ (Bool)))) :=
  cond ((decide (i2 < i1)))
    (cond (decide (0 ≤ i2))
      (ob (l1[i2.toNat]?) fun e0 =>
      cond (decide (0 ≤ i2))
        (ob (l2[i2.toNat]?) fun e1 =>
        cond ((e0 != e1))
          (some (.inr (.inr false)))
          (some (.inl (l1, l2, b1, i1, (w64 (i2 + 1))))))
        (none))
      (none))
    (some (.inr (.inl b1)))
def stp_L64_4 (p : (List Int) × (List Int) × Bool × Int × Int) : Option (((List Int) × (List Int) × Bool × Int × Int) ⊕ (((Bool) ⊕ (Bool)))) := step_L64_4 p.1 p.2.1 p.2.2.1 p.2.2.2.1 p.2.2.2.2
def L64_4 (l1 : List Int) (l2 : List Int) (b1 : Bool) (i1 : Int) (i2 : Int) : Option (((Bool) ⊕ (Bool))) := iterO stp_L64_4 ((i1 - i2).toNat + 2) (l1, l2, b1, i1, i2)
def ch_L64_4 : Cod (Cst TL) ((List Int) × (List Int) × Bool × Int × Int) := Cod.iso (Cod.cst 0 (Cod.cons (Cod.xs (Cod.sc (Cod.im (Cod.fz j_lInt)))) (Cod.cons (Cod.xs (Cod.sc (Cod.im (Cod.fz j_lInt)))) (Cod.cons (Cod.xs (Cod.sc (Cod.im Cod.bool))) (Cod.cons (Cod.xs (Cod.sc (Cod.im (Cod.int .i64)))) (Cod.cons (Cod.xs (Cod.sc (Cod.im (Cod.int .i64)))) (Cod.nil)))))) (Cod.nil)) (fun p => (p.1.1, p.1.2.1, p.1.2.2.1, p.1.2.2.2.1, p.1.2.2.2.2.1)) (fun (x : (List Int) × (List Int) × Bool × Int × Int) => ((x.1, (x.2.1, (x.2.2.1, (x.2.2.2.1, (x.2.2.2.2, ()))))), ())) (fun _ => rfl)
def co0_L64_4 : Cod (Cst TL) (Bool) := Cod.iso (Cod.cst 0 (Cod.cons (Cod.xs (Cod.sc (Cod.im Cod.bool))) (Cod.nil)) (Cod.nil)) (fun p => p.1.1) (fun (x : Bool) => ((x, ()), ())) (fun _ => rfl)
def co1_L64_4 : Cod (Cst TL) (Bool) := Cod.iso (Cod.cst 0 (Cod.cons (Cod.xs (Cod.sc (Cod.im Cod.bool))) (Cod.nil)) (Cod.nil)) (fun p => p.1.1) (fun (x : Bool) => ((x, ()), ())) (fun _ => rfl)
noncomputable def sl_L64_4 : SFn TL := SFn.two ch_L64_4.dec (fun p => L64_4 p.1 p.2.1 p.2.2.1 p.2.2.2.1 p.2.2.2.2) (.exit 0) .ret co0_L64_4.enc co1_L64_4.enc
noncomputable def cs_lL64_4 : List (Nat × DFn TL) := []
noncomputable def ss_lL64_4 : List (Nat × SFn TL) := []
noncomputable def env_lL64_4 : Env := envOf tab sl sh [] []
theorem env_lL64_4_ok : EnvOK Tryz.prog (mkD cs_lL64_4 ss_lL64_4) env_lL64_4 := envOK_of base (all_nil) (all_nil)
theorem run_L64_4 (x : (List Int) × (List Int) × Bool × Int × Int) : Out.run (mkO cs_lL64_4 ss_lL64_4) (evRound env_lL64_4 12 20 fd64.an q_L64_4 (loopIn (loopsOf fd64.body) 4) (ch_L64_4.enc x)) (back2 ch_L64_4 co0_L64_4 co1_L64_4 (.exit 0) .ret) = stp_L64_4 x := by kernel_rfl
theorem ok_L64_4 : LoopOK Tryz.prog (oneS sl_L64_4) nt64 q_L64_4 (loopIn (loopsOf fd64.body) 4) :=
  loop_two env_lL64_4_ok (loops := 12) (k := 20) (an := fd64.an) (by kernel_rfl) (FnSt.subl rfl st64.keys (all_cons (.inl (by kernel_rfl)) (all_nil))) ch_L64_4 co0_L64_4 co1_L64_4 (.exit 0) .ret rfl rfl stp_L64_4 _ run_L64_4 (fun x y h => ⟨_, h⟩) (fun _ => below_iff.1 rfl)
/-- slices.Equal[[]int,int] -/
def equalInt (l1 : List Int) (l2 : List Int) : Option (Bool) :=
  cond (((l1.length : Int) != (l2.length : Int)))
    (some false)
    (ob (L64_4 l1 l2 false (l1.length : Int) 0) fun y0 =>
    two y0 (fun a1 =>
      some true) (fun b2 =>
      some b2))
def un_equalInt (p : (List Int) × (List Int)) : Option (Bool) := equalInt p.1 p.2
noncomputable def df_equalInt : DFn TL := DFn.of (DA.cons (DT.one di_lInt) (DA.one (DT.one di_lInt))) un_equalInt (DA.one (DT.one DI.bool))
noncomputable def cs_equalInt : List (Nat × DFn TL) := []
noncomputable def ss_equalInt : List (Nat × SFn TL) := [(164004, sl_L64_4)]
noncomputable def env_equalInt : Env := envOf tab sl sh [(64, fd64)] []
theorem env_equalInt_ok : EnvOK Tryz.prog (mkD cs_equalInt ss_equalInt) env_equalInt := envOK_of base (all_cons (st64.okl rfl (all_cons (LoopOK.cast ok_L64_4 rfl) (all_nil))) (all_nil)) (all_nil)
theorem run_equalInt (x : (List Int) × (List Int)) : Out.run (mkO cs_equalInt ss_equalInt) (evOrc env_equalInt 12 20 64 ((DA.cons (DT.one di_lInt) (DA.one (DT.one di_lInt)) : DA TL ((List Int) × (List Int))).enc x)) (DA.one (DT.one DI.bool) : DA TL (Bool)).dec = un_equalInt x := by kernel_rfl
theorem ok_equalInt : DOK Tryz.prog 64 .pure df_equalInt := data_of env_equalInt_ok (loops := 12) (n := 20) (.inr rfl) st64.enters (DA.cons (DT.one di_lInt) (DA.one (DT.one di_lInt))) un_equalInt (DA.one (DT.one DI.bool)) run_equalInt
/-- local.sameLease -/
def sameLease (l1 : Lease) (l2 : Lease) : Option (Bool) :=
  cond ((l1.device == l2.device))
    (cond ((l1.epoch == l2.epoch))
      (cond ((l1.until_ == l2.until_))
        (cond ((l1.last == l2.last))
          (ob (equalSlice l1.slices l2.slices) fun r0 =>
          cond (r0)
            (ob (equalRange l1.ids l2.ids) fun r1 =>
            cond (r1)
              (ob (equalInt l1.used l2.used) fun r2 =>
              some r2)
              (some false))
            (some false))
          (some false))
        (some false))
      (some false))
    (some false)
def un_sameLease (p : Lease × Lease) : Option (Bool) := sameLease p.1 p.2
noncomputable def df_sameLease : DFn TL := DFn.of (DA.cons (DT.agg dc_Lease) (DA.one (DT.agg dc_Lease))) un_sameLease (DA.one (DT.one DI.bool))
noncomputable def cs_sameLease : List (Nat × DFn TL) := [(62, df_equalSlice), (63, df_equalRange), (64, df_equalInt)]
noncomputable def ss_sameLease : List (Nat × SFn TL) := []
noncomputable def env_sameLease : Env := envOf tab sl sh [(31, fd31)] [(62, .pure), (63, .pure), (64, .pure)]
theorem env_sameLease_ok : EnvOK Tryz.prog (mkD cs_sameLease ss_sameLease) env_sameLease := envOK_of base (all_cons (st31.okl rfl (all_nil)) (all_nil)) (all_cons (okD rfl ok_equalSlice) (all_cons (okD rfl ok_equalRange) (all_cons (okD rfl ok_equalInt) (all_nil))))
theorem run_sameLease (x : Lease × Lease) : Out.run (mkO cs_sameLease ss_sameLease) (evOrc env_sameLease 12 20 31 ((DA.cons (DT.agg dc_Lease) (DA.one (DT.agg dc_Lease)) : DA TL (Lease × Lease)).enc x)) (DA.one (DT.one DI.bool) : DA TL (Bool)).dec = un_sameLease x := by kernel_rfl
theorem ok_sameLease : DOK Tryz.prog 31 .pure df_sameLease := data_of env_sameLease_ok (loops := 12) (n := 20) (.inr rfl) st31.enters (DA.cons (DT.agg dc_Lease) (DA.one (DT.agg dc_Lease))) un_sameLease (DA.one (DT.one DI.bool)) run_sameLease
/-- a loop of slices.Equal[[]bool,bool] -/
def step_L34_4 (l1 : List Bool) (l2 : List Bool) (b1 : Bool) (i1 : Int) (i2 : Int) : Option (((List Bool) × (List Bool) × Bool × Int × Int) ⊕ (((Bool) ⊕ (Bool)))) :=
  cond ((decide (i2 < i1)))
    (cond (decide (0 ≤ i2))
      (ob (l1[i2.toNat]?) fun e0 =>
      cond (decide (0 ≤ i2))
        (ob (l2[i2.toNat]?) fun e1 =>
        cond ((!(e0 == e1)))
          (some (.inr (.inr false)))
          (some (.inl (l1, l2, b1, i1, (w64 (i2 + 1))))))
        (none))
      (none))
    (some (.inr (.inl b1)))
def stp_L34_4 (p : (List Bool) × (List Bool) × Bool × Int × Int) : Option (((List Bool) × (List Bool) × Bool × Int × Int) ⊕ (((Bool) ⊕ (Bool)))) := step_L34_4 p.1 p.2.1 p.2.2.1 p.2.2.2.1 p.2.2.2.2
def L34_4 (l1 : List Bool) (l2 : List Bool) (b1 : Bool) (i1 : Int) (i2 : Int) : Option (((Bool) ⊕ (Bool))) := iterO stp_L34_4 ((i1 - i2).toNat + 2) (l1, l2, b1, i1, i2)
def ch_L34_4 : Cod (Cst TL) ((List Bool) × (List Bool) × Bool × Int × Int) := Cod.iso (Cod.cst 0 (Cod.cons (Cod.xs (Cod.sc (Cod.im (Cod.fz j_lBool)))) (Cod.cons (Cod.xs (Cod.sc (Cod.im (Cod.fz j_lBool)))) (Cod.cons (Cod.xs (Cod.sc (Cod.im Cod.bool))) (Cod.cons (Cod.xs (Cod.sc (Cod.im (Cod.int .i64)))) (Cod.cons (Cod.xs (Cod.sc (Cod.im (Cod.int .i64)))) (Cod.nil)))))) (Cod.nil)) (fun p => (p.1.1, p.1.2.1, p.1.2.2.1, p.1.2.2.2.1, p.1.2.2.2.2.1)) (fun (x : (List Bool) × (List Bool) × Bool × Int × Int) => ((x.1, (x.2.1, (x.2.2.1, (x.2.2.2.1, (x.2.2.2.2, ()))))), ())) (fun _ => rfl)
def co0_L34_4 : Cod (Cst TL) (Bool) := Cod.iso (Cod.cst 0 (Cod.cons (Cod.xs (Cod.sc (Cod.im Cod.bool))) (Cod.nil)) (Cod.nil)) (fun p => p.1.1) (fun (x : Bool) => ((x, ()), ())) (fun _ => rfl)
def co1_L34_4 : Cod (Cst TL) (Bool) := Cod.iso (Cod.cst 0 (Cod.cons (Cod.xs (Cod.sc (Cod.im Cod.bool))) (Cod.nil)) (Cod.nil)) (fun p => p.1.1) (fun (x : Bool) => ((x, ()), ())) (fun _ => rfl)
noncomputable def sl_L34_4 : SFn TL := SFn.two ch_L34_4.dec (fun p => L34_4 p.1 p.2.1 p.2.2.1 p.2.2.2.1 p.2.2.2.2) (.exit 0) .ret co0_L34_4.enc co1_L34_4.enc
noncomputable def cs_lL34_4 : List (Nat × DFn TL) := []
noncomputable def ss_lL34_4 : List (Nat × SFn TL) := []
noncomputable def env_lL34_4 : Env := envOf tab sl sh [] []
theorem env_lL34_4_ok : EnvOK Tryz.prog (mkD cs_lL34_4 ss_lL34_4) env_lL34_4 := envOK_of base (all_nil) (all_nil)
theorem run_L34_4 (x : (List Bool) × (List Bool) × Bool × Int × Int) : Out.run (mkO cs_lL34_4 ss_lL34_4) (evRound env_lL34_4 12 20 fd34.an q_L34_4 (loopIn (loopsOf fd34.body) 4) (ch_L34_4.enc x)) (back2 ch_L34_4 co0_L34_4 co1_L34_4 (.exit 0) .ret) = stp_L34_4 x := by kernel_rfl
theorem ok_L34_4 : LoopOK Tryz.prog (oneS sl_L34_4) nt34 q_L34_4 (loopIn (loopsOf fd34.body) 4) :=
  loop_two env_lL34_4_ok (loops := 12) (k := 20) (an := fd34.an) (by kernel_rfl) (FnSt.subl rfl st34.keys (all_cons (.inl (by kernel_rfl)) (all_nil))) ch_L34_4 co0_L34_4 co1_L34_4 (.exit 0) .ret rfl rfl stp_L34_4 _ run_L34_4 (fun x y h => ⟨_, h⟩) (fun _ => below_iff.1 rfl)
/-- slices.Equal[[]bool,bool] -/
def equalBool (l1 : List Bool) (l2 : List Bool) : Option (Bool) :=
  cond (((l1.length : Int) != (l2.length : Int)))
    (some false)
    (ob (L34_4 l1 l2 false (l1.length : Int) 0) fun y0 =>
    two y0 (fun a1 =>
      some true) (fun b2 =>
      some b2))
def un_equalBool (p : (List Bool) × (List Bool)) : Option (Bool) := equalBool p.1 p.2
noncomputable def df_equalBool : DFn TL := DFn.of (DA.cons (DT.one di_lBool) (DA.one (DT.one di_lBool))) un_equalBool (DA.one (DT.one DI.bool))
noncomputable def cs_equalBool : List (Nat × DFn TL) := []
noncomputable def ss_equalBool : List (Nat × SFn TL) := [(134004, sl_L34_4)]
noncomputable def env_equalBool : Env := envOf tab sl sh [(34, fd34)] []
theorem env_equalBool_ok : EnvOK Tryz.prog (mkD cs_equalBool ss_equalBool) env_equalBool := envOK_of base (all_cons (st34.okl rfl (all_cons (LoopOK.cast ok_L34_4 rfl) (all_nil))) (all_nil)) (all_nil)
theorem run_equalBool (x : (List Bool) × (List Bool)) : Out.run (mkO cs_equalBool ss_equalBool) (evOrc env_equalBool 12 20 34 ((DA.cons (DT.one di_lBool) (DA.one (DT.one di_lBool)) : DA TL ((List Bool) × (List Bool))).enc x)) (DA.one (DT.one DI.bool) : DA TL (Bool)).dec = un_equalBool x := by kernel_rfl
theorem ok_equalBool : DOK Tryz.prog 34 .pure df_equalBool := data_of env_equalBool_ok (loops := 12) (n := 20) (.inr rfl) st34.enters (DA.cons (DT.one di_lBool) (DA.one (DT.one di_lBool))) un_equalBool (DA.one (DT.one DI.bool)) run_equalBool
/-- a loop of api.Want] -/
def step_L65_4 (l1 : List Want) (l2 : List Want) (b1 : Bool) (i1 : Int) (i2 : Int) : Option (((List Want) × (List Want) × Bool × Int × Int) ⊕ (((Bool) ⊕ (Bool)))) :=
  cond ((decide (i2 < i1)))
    (cond (decide (0 ≤ i2))
      (ob (l1[i2.toNat]?) fun e0 =>
      cond (decide (0 ≤ i2))
        (ob (l2[i2.toNat]?) fun e1 =>
        cond ((!(cond (sEq e0.key e1.key) (cond (e0.up_ == e1.up_) (cond (e0.down_ == e1.down_) (cond (e0.ids == e1.ids) true false) false) false) false)))
          (some (.inr (.inr false)))
          (some (.inl (l1, l2, b1, i1, (w64 (i2 + 1))))))
        (none))
      (none))
    (some (.inr (.inl b1)))
def stp_L65_4 (p : (List Want) × (List Want) × Bool × Int × Int) : Option (((List Want) × (List Want) × Bool × Int × Int) ⊕ (((Bool) ⊕ (Bool)))) := step_L65_4 p.1 p.2.1 p.2.2.1 p.2.2.2.1 p.2.2.2.2
def L65_4 (l1 : List Want) (l2 : List Want) (b1 : Bool) (i1 : Int) (i2 : Int) : Option (((Bool) ⊕ (Bool))) := iterO stp_L65_4 ((i1 - i2).toNat + 2) (l1, l2, b1, i1, i2)
def ch_L65_4 : Cod (Cst TL) ((List Want) × (List Want) × Bool × Int × Int) := Cod.iso (Cod.cst 0 (Cod.cons (Cod.xs (Cod.sc (Cod.im (Cod.fz j_lWant)))) (Cod.cons (Cod.xs (Cod.sc (Cod.im (Cod.fz j_lWant)))) (Cod.cons (Cod.xs (Cod.sc (Cod.im Cod.bool))) (Cod.cons (Cod.xs (Cod.sc (Cod.im (Cod.int .i64)))) (Cod.cons (Cod.xs (Cod.sc (Cod.im (Cod.int .i64)))) (Cod.nil)))))) (Cod.nil)) (fun p => (p.1.1, p.1.2.1, p.1.2.2.1, p.1.2.2.2.1, p.1.2.2.2.2.1)) (fun (x : (List Want) × (List Want) × Bool × Int × Int) => ((x.1, (x.2.1, (x.2.2.1, (x.2.2.2.1, (x.2.2.2.2, ()))))), ())) (fun _ => rfl)
def co0_L65_4 : Cod (Cst TL) (Bool) := Cod.iso (Cod.cst 0 (Cod.cons (Cod.xs (Cod.sc (Cod.im Cod.bool))) (Cod.nil)) (Cod.nil)) (fun p => p.1.1) (fun (x : Bool) => ((x, ()), ())) (fun _ => rfl)
def co1_L65_4 : Cod (Cst TL) (Bool) := Cod.iso (Cod.cst 0 (Cod.cons (Cod.xs (Cod.sc (Cod.im Cod.bool))) (Cod.nil)) (Cod.nil)) (fun p => p.1.1) (fun (x : Bool) => ((x, ()), ())) (fun _ => rfl)
noncomputable def sl_L65_4 : SFn TL := SFn.two ch_L65_4.dec (fun p => L65_4 p.1 p.2.1 p.2.2.1 p.2.2.2.1 p.2.2.2.2) (.exit 0) .ret co0_L65_4.enc co1_L65_4.enc
noncomputable def cs_lL65_4 : List (Nat × DFn TL) := []
noncomputable def ss_lL65_4 : List (Nat × SFn TL) := []
noncomputable def env_lL65_4 : Env := envOf tab sl sh [] []
theorem env_lL65_4_ok : EnvOK Tryz.prog (mkD cs_lL65_4 ss_lL65_4) env_lL65_4 := envOK_of base (all_nil) (all_nil)
theorem run_L65_4 (x : (List Want) × (List Want) × Bool × Int × Int) : Out.run (mkO cs_lL65_4 ss_lL65_4) (evRound env_lL65_4 12 20 fd65.an q_L65_4 (loopIn (loopsOf fd65.body) 4) (ch_L65_4.enc x)) (back2 ch_L65_4 co0_L65_4 co1_L65_4 (.exit 0) .ret) = stp_L65_4 x := by kernel_rfl
theorem ok_L65_4 : LoopOK Tryz.prog (oneS sl_L65_4) nt65 q_L65_4 (loopIn (loopsOf fd65.body) 4) :=
  loop_two env_lL65_4_ok (loops := 12) (k := 20) (an := fd65.an) (by kernel_rfl) (FnSt.subl rfl st65.keys (all_cons (.inl (by kernel_rfl)) (all_nil))) ch_L65_4 co0_L65_4 co1_L65_4 (.exit 0) .ret rfl rfl stp_L65_4 _ run_L65_4 (fun x y h => ⟨_, h⟩) (fun _ => below_iff.1 rfl)
/-- api.Want] -/
def equalWant (l1 : List Want) (l2 : List Want) : Option (Bool) :=
  cond (((l1.length : Int) != (l2.length : Int)))
    (some false)
    (ob (L65_4 l1 l2 false (l1.length : Int) 0) fun y0 =>
    two y0 (fun a1 =>
      some true) (fun b2 =>
      some b2))
def un_equalWant (p : (List Want) × (List Want)) : Option (Bool) := equalWant p.1 p.2
noncomputable def df_equalWant : DFn TL := DFn.of (DA.cons (DT.one di_lWant) (DA.one (DT.one di_lWant))) un_equalWant (DA.one (DT.one DI.bool))
noncomputable def cs_equalWant : List (Nat × DFn TL) := []
noncomputable def ss_equalWant : List (Nat × SFn TL) := [(165004, sl_L65_4)]
noncomputable def env_equalWant : Env := envOf tab sl sh [(65, fd65)] []
theorem env_equalWant_ok : EnvOK Tryz.prog (mkD cs_equalWant ss_equalWant) env_equalWant := envOK_of base (all_cons (st65.okl rfl (all_cons (LoopOK.cast ok_L65_4 rfl) (all_nil))) (all_nil)) (all_nil)
theorem run_equalWant (x : (List Want) × (List Want)) : Out.run (mkO cs_equalWant ss_equalWant) (evOrc env_equalWant 12 20 65 ((DA.cons (DT.one di_lWant) (DA.one (DT.one di_lWant)) : DA TL ((List Want) × (List Want))).enc x)) (DA.one (DT.one DI.bool) : DA TL (Bool)).dec = un_equalWant x := by kernel_rfl
theorem ok_equalWant : DOK Tryz.prog 65 .pure df_equalWant := data_of env_equalWant_ok (loops := 12) (n := 20) (.inr rfl) st65.enters (DA.cons (DT.one di_lWant) (DA.one (DT.one di_lWant))) un_equalWant (DA.one (DT.one DI.bool)) run_equalWant
/-- a loop of api.Op] -/
def step_L32_4 (l1 : List Op) (b1 : Bool) (l2 : List Op) (i1 : Int) (i2 : Int) : Option (((List Op) × Bool × (List Op) × Int × Int) ⊕ (((Bool) ⊕ (Bool)))) :=
  cond ((decide (i2 < i1)))
    (cond (decide (0 ≤ i2))
      (ob (l2[i2.toNat]?) fun e0 =>
      cond (decide (0 ≤ i2))
        (ob (l1[i2.toNat]?) fun e1 =>
        ob (opsSame e0 e1) fun r2 =>
        cond ((!r2))
          (some (.inr (.inr false)))
          (some (.inl (l1, b1, l2, i1, (w64 (i2 + 1))))))
        (none))
      (none))
    (some (.inr (.inl b1)))
def stp_L32_4 (p : (List Op) × Bool × (List Op) × Int × Int) : Option (((List Op) × Bool × (List Op) × Int × Int) ⊕ (((Bool) ⊕ (Bool)))) := step_L32_4 p.1 p.2.1 p.2.2.1 p.2.2.2.1 p.2.2.2.2
def L32_4 (l1 : List Op) (b1 : Bool) (l2 : List Op) (i1 : Int) (i2 : Int) : Option (((Bool) ⊕ (Bool))) := iterO stp_L32_4 ((i1 - i2).toNat + 2) (l1, b1, l2, i1, i2)
def ch_L32_4 : Cod (Cst TL) ((List Op) × Bool × (List Op) × Int × Int) := Cod.iso (Cod.cst 0 (Cod.cons (Cod.xs (Cod.sc (Cod.im (Cod.fz j_lOp)))) (Cod.cons (Cod.xs (Cod.sc (Cod.clo 33 [] []))) (Cod.cons (Cod.xs (Cod.sc (Cod.im Cod.bool))) (Cod.cons (Cod.xs (Cod.sc (Cod.im (Cod.fz j_lOp)))) (Cod.cons (Cod.xs (Cod.sc (Cod.im (Cod.int .i64)))) (Cod.cons (Cod.xs (Cod.sc (Cod.im (Cod.int .i64)))) (Cod.nil))))))) (Cod.nil)) (fun p => (p.1.1, p.1.2.2.1, p.1.2.2.2.1, p.1.2.2.2.2.1, p.1.2.2.2.2.2.1)) (fun (x : (List Op) × Bool × (List Op) × Int × Int) => ((x.1, ((), (x.2.1, (x.2.2.1, (x.2.2.2.1, (x.2.2.2.2, ())))))), ())) (fun _ => rfl)
def co0_L32_4 : Cod (Cst TL) (Bool) := Cod.iso (Cod.cst 0 (Cod.cons (Cod.xs (Cod.sc (Cod.im Cod.bool))) (Cod.nil)) (Cod.nil)) (fun p => p.1.1) (fun (x : Bool) => ((x, ()), ())) (fun _ => rfl)
def co1_L32_4 : Cod (Cst TL) (Bool) := Cod.iso (Cod.cst 0 (Cod.cons (Cod.xs (Cod.sc (Cod.im Cod.bool))) (Cod.nil)) (Cod.nil)) (fun p => p.1.1) (fun (x : Bool) => ((x, ()), ())) (fun _ => rfl)
noncomputable def sl_L32_4 : SFn TL := SFn.two ch_L32_4.dec (fun p => L32_4 p.1 p.2.1 p.2.2.1 p.2.2.2.1 p.2.2.2.2) (.exit 0) .ret co0_L32_4.enc co1_L32_4.enc
noncomputable def cs_lL32_4 : List (Nat × DFn TL) := [(33, df_opsSame)]
noncomputable def ss_lL32_4 : List (Nat × SFn TL) := []
noncomputable def env_lL32_4 : Env := envOf tab sl sh [] [(33, .pure)]
theorem env_lL32_4_ok : EnvOK Tryz.prog (mkD cs_lL32_4 ss_lL32_4) env_lL32_4 := envOK_of base (all_nil) (all_cons (okD rfl ok_opsSame) (all_nil))
theorem run_L32_4 (x : (List Op) × Bool × (List Op) × Int × Int) : Out.run (mkO cs_lL32_4 ss_lL32_4) (evRound env_lL32_4 12 20 fd32.an q_L32_4 (loopIn (loopsOf fd32.body) 4) (ch_L32_4.enc x)) (back2 ch_L32_4 co0_L32_4 co1_L32_4 (.exit 0) .ret) = stp_L32_4 x := by kernel_rfl
theorem ok_L32_4 : LoopOK Tryz.prog (oneS sl_L32_4) nt32 q_L32_4 (loopIn (loopsOf fd32.body) 4) :=
  loop_two env_lL32_4_ok (loops := 12) (k := 20) (an := fd32.an) (by kernel_rfl) (FnSt.subl rfl st32.keys (all_cons (.inl (by kernel_rfl)) (all_nil))) ch_L32_4 co0_L32_4 co1_L32_4 (.exit 0) .ret rfl rfl stp_L32_4 _ run_L32_4 (fun x y h => ⟨_, h⟩) (fun _ => below_iff.1 rfl)
/-- local.sameCmd -/
def sameCmd (c1 : Cmd) (c2 : Cmd) : Option (Bool) :=
  cond ((c1.kind == c2.kind))
    (cond ((c1.device == c2.device))
      (cond ((c1.epoch == c2.epoch))
        (cond ((c1.req == c2.req))
          (cond ((c1.n == c2.n))
            (ob (equalWant c1.wants c2.wants) fun r0 =>
            cond (r0)
              (cond (((c1.ops.length : Int) != (c2.ops.length : Int)))
                (some false)
                (ob (L32_4 c2.ops false c1.ops (c1.ops.length : Int) 0) fun y1 =>
                two y1 (fun a2 =>
                  some true) (fun b3 =>
                  some b3)))
              (some false))
            (some false))
          (some false))
        (some false))
      (some false))
    (some false)
def un_sameCmd (p : Cmd × Cmd) : Option (Bool) := sameCmd p.1 p.2
noncomputable def df_sameCmd : DFn TL := DFn.of (DA.cons (DT.agg dc_Cmd) (DA.one (DT.agg dc_Cmd))) un_sameCmd (DA.one (DT.one DI.bool))
noncomputable def cs_sameCmd : List (Nat × DFn TL) := [(65, df_equalWant)]
noncomputable def ss_sameCmd : List (Nat × SFn TL) := [(132004, sl_L32_4)]
noncomputable def env_sameCmd : Env := envOf tab sl sh [(35, fd35), (32, fd32)] [(65, .pure)]
theorem env_sameCmd_ok : EnvOK Tryz.prog (mkD cs_sameCmd ss_sameCmd) env_sameCmd := envOK_of base (all_cons (st35.okl rfl (all_nil)) (all_cons (st32.okl rfl (all_cons (LoopOK.cast ok_L32_4 rfl) (all_nil))) (all_nil))) (all_cons (okD rfl ok_equalWant) (all_nil))
theorem run_sameCmd (x : Cmd × Cmd) : Out.run (mkO cs_sameCmd ss_sameCmd) (evOrc env_sameCmd 12 20 35 ((DA.cons (DT.agg dc_Cmd) (DA.one (DT.agg dc_Cmd)) : DA TL (Cmd × Cmd)).enc x)) (DA.one (DT.one DI.bool) : DA TL (Bool)).dec = un_sameCmd x := by kernel_rfl
theorem ok_sameCmd : DOK Tryz.prog 35 .pure df_sameCmd := data_of env_sameCmd_ok (loops := 12) (n := 20) (.inr rfl) st35.enters (DA.cons (DT.agg dc_Cmd) (DA.one (DT.agg dc_Cmd))) un_sameCmd (DA.one (DT.one DI.bool)) run_sameCmd
/-- local.Same -/
def localSame (s1 : State) (s2 : State) : Option (Bool) :=
  ob (collSame s1.colls.a0 s2.colls.a0) fun r0 =>
  cond ((!r0))
    (some false)
    (ob (collSame s1.colls.a1 s2.colls.a1) fun r1 =>
    cond ((!r1))
      (some false)
      (ob (collSame s1.colls.a2 s2.colls.a2) fun r2 =>
      cond ((!r2))
        (some false)
        (cond ((s1.device == s2.device))
          (cond ((s1.epoch == s2.epoch))
            (ob (sameLease s1.lease s2.lease) fun r3 =>
            cond (r3)
              (cond ((s1.ends == s2.ends))
                (cond ((s1.seq == s2.seq))
                  (cond ((s1.sent == s2.sent))
                    (cond (((s1.pending.length : Int) != (s2.pending.length : Int)))
                      (some false)
                      (ob (L32_4 s2.pending false s1.pending (s1.pending.length : Int) 0) fun y4 =>
                      two y4 (fun a5 =>
                        cond ((s1.at_ == s2.at_))
                          (cond ((s1.ver == s2.ver))
                            (ob (equalBool s1.subs s2.subs) fun r7 =>
                            cond (r7)
                              (cond ((s1.req == s2.req))
                                (cond ((s1.asked == s2.asked))
                                  (ob (sameCmd s1.cmd s2.cmd) fun r8 =>
                                  some (cond r8 (cond (s1.fenced == s2.fenced) (s1.now == s2.now) false) false))
                                  (some false))
                                (some false))
                              (some false))
                            (some false))
                          (some false)) (fun b6 =>
                        cond (b6)
                          (cond ((s1.at_ == s2.at_))
                            (cond ((s1.ver == s2.ver))
                              (ob (equalBool s1.subs s2.subs) fun r9 =>
                              cond (r9)
                                (cond ((s1.req == s2.req))
                                  (cond ((s1.asked == s2.asked))
                                    (ob (sameCmd s1.cmd s2.cmd) fun r10 =>
                                    some (cond r10 (cond (s1.fenced == s2.fenced) (s1.now == s2.now) false) false))
                                    (some false))
                                  (some false))
                                (some false))
                              (some false))
                            (some false))
                          (some false))))
                    (some false))
                  (some false))
                (some false))
              (some false))
            (some false))
          (some false))))
def un_localSame (p : State × State) : Option (Bool) := localSame p.1 p.2
noncomputable def df_localSame : DFn TL := DFn.of (DA.cons (DT.agg dc_State) (DA.one (DT.agg dc_State))) un_localSame (DA.one (DT.one DI.bool))
noncomputable def cs_localSame : List (Nat × DFn TL) := [(30, df_collSame), (31, df_sameLease), (34, df_equalBool), (35, df_sameCmd)]
noncomputable def ss_localSame : List (Nat × SFn TL) := [(132004, sl_L32_4)]
noncomputable def env_localSame : Env := envOf tab sl sh [(14, fd14), (32, fd32)] [(30, .pure), (31, .pure), (34, .pure), (35, .pure)]
theorem env_localSame_ok : EnvOK Tryz.prog (mkD cs_localSame ss_localSame) env_localSame := envOK_of base (all_cons (st14.okl rfl (all_nil)) (all_cons (st32.okl rfl (all_cons (LoopOK.cast ok_L32_4 rfl) (all_nil))) (all_nil))) (all_cons (okD rfl ok_collSame) (all_cons (okD rfl ok_sameLease) (all_cons (okD rfl ok_equalBool) (all_cons (okD rfl ok_sameCmd) (all_nil)))))
theorem run_localSame (x : State × State) : Out.run (mkO cs_localSame ss_localSame) (evOrc env_localSame 12 20 14 ((DA.cons (DT.agg dc_State) (DA.one (DT.agg dc_State)) : DA TL (State × State)).enc x)) (DA.one (DT.one DI.bool) : DA TL (Bool)).dec = un_localSame x := by kernel_rfl
theorem ok_localSame : DOK Tryz.prog 14 .pure df_localSame := data_of env_localSame_ok (loops := 12) (n := 20) (.inr rfl) st14.enters (DA.cons (DT.agg dc_State) (DA.one (DT.agg dc_State))) un_localSame (DA.one (DT.one DI.bool)) run_localSame
/-- escrowlaw18.known -/
def known  : Option (Bool) :=
  ob (localNew 2 3 [true, true, true]) fun r0 =>
  ob (do_ r0.1 (Op.mk (Dot.mk 0 0 0) 0 0 1 s_k s_empty 0 0 [])) fun r1 =>
  some (cond (r0.2 == 0) (cond (r0.1.device == 2) (cond (r0.1.ver == 3) (r1.2 == 2) false) false) false)
def un_known (_ : Unit) : Option (Bool) := known
noncomputable def df_known : DFn TL := DFn.of (DA.nil) un_known (DA.one (DT.one DI.bool))
noncomputable def cs_known : List (Nat × DFn TL) := [(11, df_localNew), (18, df_do_)]
noncomputable def ss_known : List (Nat × SFn TL) := []
noncomputable def env_known : Env := envOf tab sl sh [(10, fd10)] [(11, .keep), (18, .keep)]
theorem env_known_ok : EnvOK Tryz.prog (mkD cs_known ss_known) env_known := envOK_of base (all_cons (st10.okl rfl (all_nil)) (all_nil)) (all_cons (okD rfl ok_localNew) (all_cons (okD rfl ok_do_) (all_nil)))
theorem run_known (x : Unit) : Out.run (mkO cs_known ss_known) (evOrc env_known 12 20 10 ((DA.nil : DA TL (Unit)).enc x)) (DA.one (DT.one DI.bool) : DA TL (Bool)).dec = un_known x := by kernel_rfl
theorem ok_known : DOK Tryz.prog 10 .pure df_known := data_of env_known_ok (loops := 12) (n := 20) (.inr rfl) st10.enters (DA.nil) un_known (DA.one (DT.one DI.bool)) run_known
/-- escrowlaw18.within (fails: [2]) -/
def within (i1 : Int) (i2 : Int) : Option (Int) :=
  cond (decide (i2 = 0))
    (none)
    (some (cond (decide ((i1.tmod i2) < 0)) (w64 ((i1.tmod i2) + i2)) (i1.tmod i2)))
def un_within (p : Int × Int) : Option (Int) := within p.1 p.2
noncomputable def df_within : DFn TL := DFn.of (DA.cons (DT.one (DI.int .i64)) (DA.one (DT.one (DI.int .i64)))) un_within (DA.one (DT.one (DI.int .i64)))
noncomputable def cs_within : List (Nat × DFn TL) := []
noncomputable def ss_within : List (Nat × SFn TL) := []
noncomputable def env_within : Env := envOf tab sl sh [(13, fd13)] []
theorem env_within_ok : EnvOK Tryz.prog (mkD cs_within ss_within) env_within := envOK_of base (all_cons (st13.okl rfl (all_nil)) (all_nil)) (all_nil)
theorem run_within (x : Int × Int) : Out.run (mkO cs_within ss_within) (evOrc env_within 12 20 13 ((DA.cons (DT.one (DI.int .i64)) (DA.one (DT.one (DI.int .i64))) : DA TL (Int × Int)).enc x)) (DA.one (DT.one (DI.int .i64)) : DA TL (Int)).dec = un_within x := by kernel_rfl
theorem ok_within : DOK Tryz.prog 13 .pure df_within := data_of env_within_ok (loops := 12) (n := 20) (.inr rfl) st13.enters (DA.cons (DT.one (DI.int .i64)) (DA.one (DT.one (DI.int .i64)))) un_within (DA.one (DT.one (DI.int .i64))) run_within
/-- escrowlaw18.ready -/
def ready  : Option (State) :=
  ob (localNew 1 3 [true, true, false]) fun r0 =>
  ob (begin_ r0.1 (Cmd.mk 1 0 0 0 0 [] [])) fun r1 =>
  ob (reply r1.1 1 (Reply.mk 0 1 (Lease.mk 0 0 0 0 [] [] []))) fun r2 =>
  ob (begin_ r2.1 (Cmd.mk 2 0 0 0 30 [(Want.mk s_a 4 3 5)] [])) fun r3 =>
  ob (reply r3.1 2 (Reply.mk 0 0 (Lease.mk 1 1 99 (-1) [(Slice.mk s_a 4 3 0 0)] [(Range.mk 0 5)] []))) fun r4 =>
  some r4.1
/-- escrowlaw18.LocalDeltas (fails: [201, 27]) -/
def localDeltas (i1 : Int) (i2 : Int) : Option (Bool) :=
  ob (known) fun r0 =>
  cond ((!r0))
    (some false)
    (ob (localNew 1 2 [true, false, true]) fun r1 =>
    ob (delta r1.1 0 3 [(Op.mk (Dot.mk 2 1 1) 0 1 1 s_k s_t 0 0 [])]) fun r2 =>
    cond ((cond (r2.2 != 0) true (r2.1.at_ != 3)))
      (some false)
      (ob (within i1 7) fun r3 =>
      cond ((r3 == 0))
        (ob (within i2 9) fun r4 =>
        ob (delta r2.1 (w64 (4 + r4)) 4 [(Op.mk (Dot.mk 2 1 2) 0 1 1 s_k s_t 0 0 [])]) fun r9 =>
        ob (within i1 7) fun r10 =>
        cond ((r10 == 5))
          (cond ((r9.2 != 0))
            (ob (localSame r2.1 r9.1) fun r11 =>
            some r11)
            (some false))
          (cond ((r9.2 == 2))
            (ob (localSame r2.1 r9.1) fun r12 =>
            some r12)
            (some false)))
        (cond ((r3 == 1))
          (ob (within i2 9) fun r5 =>
          ob (delta r2.1 3 (w64 (2 - r5)) [(Op.mk (Dot.mk 2 1 2) 0 1 1 s_k s_t 0 0 [])]) fun r13 =>
          ob (within i1 7) fun r14 =>
          cond ((r14 == 5))
            (cond ((r13.2 != 0))
              (ob (localSame r2.1 r13.1) fun r15 =>
              some r15)
              (some false))
            (cond ((r13.2 == 1))
              (ob (localSame r2.1 r13.1) fun r16 =>
              some r16)
              (some false)))
          (cond ((r3 == 2))
            (cond (decide (0 < ([(Op.mk (Dot.mk 2 1 2) 0 1 1 s_k s_t 0 0 [])].length : Int)))
              (ob ([(Op.mk (Dot.mk 2 1 2) 0 1 1 s_k s_t 0 0 [])][0]?) fun e6 =>
              ob (delta r2.1 3 4 ([(Op.mk (Dot.mk 2 1 2) 0 1 1 s_k s_t 0 0 [])].set 0 (Op.mk e6.dot 1 e6.ver e6.kind e6.key e6.text e6.n e6.time e6.dots))) fun r17 =>
              ob (within i1 7) fun r18 =>
              cond ((r18 == 5))
                (cond ((r17.2 != 0))
                  (ob (localSame r2.1 r17.1) fun r19 =>
                  some r19)
                  (some false))
                (cond ((r17.2 == 1))
                  (ob (localSame r2.1 r17.1) fun r20 =>
                  some r20)
                  (some false)))
              (none))
            (cond ((r3 == 3))
              (cond (decide (0 < ([(Op.mk (Dot.mk 2 1 2) 0 1 1 s_k s_t 0 0 [])].length : Int)))
                (ob ([(Op.mk (Dot.mk 2 1 2) 0 1 1 s_k s_t 0 0 [])][0]?) fun e7 =>
                ob (delta r2.1 3 4 ([(Op.mk (Dot.mk 2 1 2) 0 1 1 s_k s_t 0 0 [])].set 0 (Op.mk e7.dot e7.coll 3 e7.kind e7.key e7.text e7.n e7.time e7.dots))) fun r21 =>
                ob (within i1 7) fun r22 =>
                cond ((r22 == 5))
                  (cond ((r21.2 != 0))
                    (ob (localSame r2.1 r21.1) fun r23 =>
                    some r23)
                    (some false))
                  (cond ((r21.2 == 13))
                    (ob (localSame r2.1 r21.1) fun r24 =>
                    some r24)
                    (some false)))
                (none))
              (cond ((r3 == 4))
                (cond (decide (0 < ([(Op.mk (Dot.mk 2 1 2) 0 1 1 s_k s_t 0 0 [])].length : Int)))
                  (ob ([(Op.mk (Dot.mk 2 1 2) 0 1 1 s_k s_t 0 0 [])][0]?) fun e8 =>
                  ob (delta r2.1 3 4 ([(Op.mk (Dot.mk 2 1 2) 0 1 1 s_k s_t 0 0 [])].set 0 (Op.mk (Dot.mk e8.dot.device e8.dot.epoch 1) e8.coll e8.ver e8.kind e8.key e8.text e8.n e8.time e8.dots))) fun r25 =>
                  ob (within i1 7) fun r26 =>
                  cond ((r26 == 5))
                    (cond ((r25.2 != 0))
                      (ob (localSame r2.1 r25.1) fun r27 =>
                      some r27)
                      (some false))
                    (cond ((r25.2 == 7))
                      (ob (localSame r2.1 r25.1) fun r28 =>
                      some r28)
                      (some false)))
                  (none))
                (cond ((r3 == 5))
                  (cond (fits (([(Op.mk (Dot.mk 2 1 2) 0 1 1 s_k s_t 0 0 [])] ++ [(Op.mk (Dot.mk 0 0 0) 0 0 0 s_empty s_empty 0 0 [])]).length))
                    (ob (delta r2.1 3 4 ([(Op.mk (Dot.mk 2 1 2) 0 1 1 s_k s_t 0 0 [])] ++ [(Op.mk (Dot.mk 0 0 0) 0 0 0 s_empty s_empty 0 0 [])])) fun r29 =>
                    ob (within i1 7) fun r30 =>
                    cond ((r30 == 5))
                      (cond ((r29.2 != 0))
                        (ob (localSame r2.1 r29.1) fun r31 =>
                        some r31)
                        (some false))
                      (cond ((r29.2 == 2))
                        (ob (localSame r2.1 r29.1) fun r32 =>
                        some r32)
                        (some false)))
                    (none))
                  (ob (delta r2.1 3 4 [(Op.mk (Dot.mk 2 1 2) 0 1 1 s_k s_t 0 0 [])]) fun r33 =>
                  ob (within i1 7) fun r34 =>
                  cond ((r34 == 5))
                    (cond ((r33.2 != 0))
                      (ob (localSame r2.1 r33.1) fun r35 =>
                      some r35)
                      (some false))
                    (cond ((r33.2 == 0))
                      (cond ((r33.1.at_ == 4))
                        (ob (localSame r2.1 r33.1) fun r36 =>
                        some (!r36))
                        (some false))
                      (some false))))))))))
def un_localDeltas (p : Int × Int) : Option (Bool) := localDeltas p.1 p.2
noncomputable def df_localDeltas : DFn TL := DFn.of (DA.cons (DT.one (DI.int .i64)) (DA.one (DT.one (DI.int .i64)))) un_localDeltas (DA.one (DT.one DI.bool))
noncomputable def cs_localDeltas : List (Nat × DFn TL) := [(10, df_known), (11, df_localNew), (12, df_delta), (13, df_within), (14, df_localSame)]
noncomputable def ss_localDeltas : List (Nat × SFn TL) := []
noncomputable def env_localDeltas : Env := envOf tab sl sh [(3, fd3)] [(10, .pure), (11, .keep), (12, .keep), (13, .pure), (14, .pure)]
theorem env_localDeltas_ok : EnvOK Tryz.prog (mkD cs_localDeltas ss_localDeltas) env_localDeltas := envOK_of base (all_cons (st3.okl rfl (all_nil)) (all_nil)) (all_cons (okD rfl ok_known) (all_cons (okD rfl ok_localNew) (all_cons (okD rfl ok_delta) (all_cons (okD rfl ok_within) (all_cons (okD rfl ok_localSame) (all_nil))))))
theorem run_localDeltas (x : Int × Int) : Out.run (mkO cs_localDeltas ss_localDeltas) (evOrc env_localDeltas 12 20 3 ((DA.cons (DT.one (DI.int .i64)) (DA.one (DT.one (DI.int .i64))) : DA TL (Int × Int)).enc x)) (DA.one (DT.one DI.bool) : DA TL (Bool)).dec = un_localDeltas x := by kernel_rfl
theorem ok_localDeltas : DOK Tryz.prog 3 .pure df_localDeltas := data_of env_localDeltas_ok (loops := 12) (n := 20) (.inr rfl) st3.enters (DA.cons (DT.one (DI.int .i64)) (DA.one (DT.one (DI.int .i64)))) un_localDeltas (DA.one (DT.one DI.bool)) run_localDeltas
/-- a loop of escrowlaw18.LocalFenced -/
def step_L7_6 (i1 : Int) (b1 : Bool) (i2 : Int) (s1 : State) : Option ((Int × Bool × Int × State) ⊕ (Bool × State)) :=
  cond ((decide (i2 < i1)))
    (ob (do_ s1 (Op.mk (Dot.mk 0 0 0) 0 0 4 s_a s_empty 1 0 [])) fun r0 =>
    some (.inl (i1, b1, (w64 (i2 + 1)), r0.1)))
    (some (.inr (b1, s1)))
def stp_L7_6 (p : Int × Bool × Int × State) : Option ((Int × Bool × Int × State) ⊕ (Bool × State)) := step_L7_6 p.1 p.2.1 p.2.2.1 p.2.2.2
def L7_6 (i1 : Int) (b1 : Bool) (i2 : Int) (s1 : State) : Option (Bool × State) := iterO stp_L7_6 ((i1 - i2).toNat + 2) (i1, b1, i2, s1)
/-- escrowlaw18.LocalReplies -/
def localReplies (i1 : Int) (i2 : Int) : Option (Bool) :=
  ob (known) fun r0 =>
  cond ((!r0))
    (some false)
    (ob (ready) fun r1 =>
    ob (reply r1 2 (Reply.mk 0 0 (Lease.mk 0 0 0 0 [] [] []))) fun r2 =>
    ob (begin_ r1 (Cmd.mk 4 0 0 0 0 [] [])) fun r3 =>
    ob (reply r3.1 (cond (cond (i1 == 3) true (i1 == 0)) 7 i1) (Reply.mk 0 0 (Lease.mk 0 0 0 0 [] [] []))) fun r4 =>
    ob (within i2 23) fun r5 =>
    ob (reply r3.1 3 (Reply.mk r5 0 (Lease.mk 0 0 0 0 [] [] []))) fun r6 =>
    ob (reply r6.1 3 (Reply.mk 0 0 (Lease.mk 0 0 0 0 [] [] []))) fun r7 =>
    cond ((r2.2 != 2))
      (some false)
      (ob (localSame r1 r2.1) fun r8 =>
      cond ((!r8))
        (some false)
        (cond ((r4.2 != 2))
          (some false)
          (ob (localSame r3.1 r4.1) fun r9 =>
          cond ((cond (!r9) true (cond (r6.2 != 0) true (cond (r7.2 != 2) true (r3.1.lease.last != 0)))))
            (some false)
            (ob (within i2 23) fun r10 =>
            cond ((r10 == 0))
              (some (cond (r6.1.lease.epoch == 0) (cond (r6.1.ends == 0) (!r6.1.fenced) false) false))
              (cond ((r10 == 16))
                (some (cond r6.1.fenced (r6.1.lease.epoch == 1) false))
                (some (cond (r6.1.lease.epoch == 1) (cond (r6.1.lease.last == (-1)) (!r6.1.fenced) false) false))))))))

end Go.Proofs.YthhfjodcgibhfaaGreat
