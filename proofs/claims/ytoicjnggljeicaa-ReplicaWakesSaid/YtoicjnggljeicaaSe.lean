/- One act of a script of three replicas: what the printed function does, in short terms. -/
import Derived.Test.YtoicjnggljeicaaSd
namespace Go.Proofs.Ytoicjnggljeicaa
open Go Go.Ev
set_option maxRecDepth 100000
def gN (n:A3Node)(x:Int):Node:=(Node.sel (decide (x=0)) n.a0 (Node.mk (cond (decide (x=1)) n.a1.id_ n.a2.id_) (cond (decide (x=1)) n.a1.term_ n.a2.term_) (cond (decide (x=1)) n.a1.vote n.a2.vote) (cond (decide (x=1)) n.a1.base n.a2.base) (cond (decide (x=1)) n.a1.baseTerm n.a2.baseTerm) (cond (decide (x=1)) n.a1.snap n.a2.snap) (cond (decide (x=1)) n.a1.log n.a2.log) (cond (decide (x=1)) n.a1.role n.a2.role) (cond (decide (x=1)) n.a1.commit n.a2.commit) (cond (decide (x=1)) n.a1.wait n.a2.wait) (A3Bool.mk (cond (decide (x=1)) n.a1.votes.a0 n.a2.votes.a0) (cond (decide (x=1)) n.a1.votes.a1 n.a2.votes.a1) (cond (decide (x=1)) n.a1.votes.a2 n.a2.votes.a2)) (A3Int.mk (cond (decide (x=1)) n.a1.next.a0 n.a2.next.a0) (cond (decide (x=1)) n.a1.next.a1 n.a2.next.a1) (cond (decide (x=1)) n.a1.next.a2 n.a2.next.a2)) (A3Int.mk (cond (decide (x=1)) n.a1.match_.a0 n.a2.match_.a0) (cond (decide (x=1)) n.a1.match_.a1 n.a2.match_.a1) (cond (decide (x=1)) n.a1.match_.a2 n.a2.match_.a2))))
def pN (n:A3Node)(x:Int)(v:Node):A3Node:=A3Node.mk (Node.sel (decide (x=0)) v n.a0) (Node.sel (decide (x=1)) v n.a1) (Node.sel (decide (x=2)) v n.a2)
/-- the last 60 -/
def lay (n:A3Node)(l:List Msg):Option (Bool×Three) :=
  cond (fits l.length) (cond (decide ((l.length:Int) > 60)) (cond (decide (0≤w64 ((l.length:Int) - 60))) (cond (decide (w64 ((l.length:Int) - 60)≤(l.length:Int))) (cond (decide ((l.length:Int)≤(l.length:Int)))
    (some (true,Three.mk n ((l.take ((l.length:Int)).toNat).drop (w64 ((l.length:Int) - 60)).toNat))) none) none) none) (some (true,Three.mk n l))) none
def fin3 (t0:Three)(x:Int)(v:Node)(l:List Msg)(y:Node)(m:List Msg):Option (Bool×Three) :=
  ob (l15_toRef v) fun a=>ob (ref15Same a y) fun b=>cond (!b) (some (false,t0)) (ob (l15_sameMsgs l m) fun c=>cond (!c) (some (false,t0))
    (cond (ok3 x) (ob (same v (gN t0.n x)) fun d=>cond (ok3 x) (ob (l15_toRef (gN t0.n x)) fun e=>ob (ref15Same y e) fun f=>cond (!(d == f)) (some (false,t0))
      (cond (ok3 x) (lay (pN t0.n x v) (t0.m++l)) none)) none) none))
def bTick (t:Three)(x:Int):Option (Bool×Three):=ob (tick (gN t.n x)) fun r4=>ob (l15_toRef (gN t.n x)) fun r5=>ob (ref15Tick r5) fun r6=>fin3 t x r4.1 r4.2 r6.1 r6.2
/-- a message taken out -/
def outK (t:Three)(q:Int)(k:Msg→List Msg→Option (Bool×Three)):Option (Bool×Three) :=
  cond (decide (0≤q)) (cond (decide (q < (t.m.length:Int))) (ob (t.m[q.toNat]?) fun e=>cond (decide (0≤q)) (cond (decide (q≤(t.m.length:Int))) (cond (fits (([]++(t.m.take q.toNat)).length))
    (cond (decide (0≤w64 (q+1))) (cond (decide (w64 (q+1)≤(t.m.length:Int))) (cond (decide ((t.m.length:Int)≤(t.m.length:Int)))
      (cond (fits ((([]++(t.m.take q.toNat))++((t.m.take (((t.m.length:Int)).toNat)).drop ((w64 (q+1))).toNat)).length))
        (k e (([]++(t.m.take q.toNat))++((t.m.take (((t.m.length:Int)).toNat)).drop ((w64 (q+1))).toNat))) none) none) none) none) none) none) none) none) none
def bTake1 (t:Three)(e:Msg)(ms:List Msg):Option (Bool×Three) :=
  cond (ok3 e.to_) (ob (take (gN t.n e.to_) e) fun r8=>cond (ok3 e.to_) (ob (l15_toRef (gN t.n e.to_)) fun r9=>ob (l15_toRefMsg e) fun r10=>ob (ref15Take r9 r10) fun r11=>fin3 (Three.mk t.n ms) e.to_ r8.1 r8.2 r11.1 r11.2) none) none
def bTake (t:Three)(q:Int):Option (Bool×Three):=cond ((t.m.length:Int) == 0) (some (true,t)) (outK t q (bTake1 t))
def bLose (t:Three)(q:Int):Option (Bool×Three):=cond (decide ((t.m.length:Int) > 0)) (outK t q fun _ ms=>some (true,Three.mk t.n ms)) (some (true,t))
def bTwice (t:Three)(q:Int):Option (Bool×Three):=cond (cond (decide ((t.m.length:Int) > 0)) (decide ((t.m.length:Int) < 60)) false)
  (cond (decide (0≤q)) (cond (decide (q < (t.m.length:Int))) (ob (t.m[q.toNat]?) fun e=>cond (fits ((t.m++[e]).length)) (some (true,Three.mk t.n (t.m++[e]))) none) none) none) (some (true,t))
def bProp (t:Three)(x:Int)(s:ByteArray):Option (Bool×Three):=ob (propose (gN t.n x) s) fun r14=>ob (l15_toRef (gN t.n x)) fun r15=>ob (ref15Propose r15 s) fun r16 =>
  cond (cond (r14.2.1 != r16.2.1) true (r14.2.2 != r16.2.2)) (some (false,t)) (fin3 t x r14.1 [] r16.1 [])
def bWake (t:Three)(x:Int):Option (Bool×Three):=ob (wake (gN t.n x)) fun r17=>ob (l15_toRef (gN t.n x)) fun r18=>ob (ref15Wake r18) fun r19=>fin3 t x r17 [] r19 []
def cmN (n:A3Node)(x:Int):Int:=cond (decide (x=0)) n.a0.commit (cond (decide (x=1)) n.a1.commit n.a2.commit)
def bComp (t:Three)(x n:Int)(s:ByteArray):Option (Bool×Three):=ob (within n 3) fun r20=>ob (compact (gN t.n x) (w64 (cmN t.n x - r20)) s) fun r21=>ob (l15_toRef (gN t.n x)) fun r22=>ob (within n 3) fun r23=>ob (ref15Compact r22 (w64 (cmN t.n x - r23)) s) fun r24 =>
  cond (r21.2 != r24.2) (some (false,t)) (fin3 t x r21.1 [] r24.1 [])
section
variable {ax:Act} {t:Three} {x q k:Int} (h0:within ax.i 3=some x) (hn:within ax.n (max2 (t.m.length:Int) 1)=some q) (hk:within ax.kind 16=some k)
include h0 hn hk
theorem red_tick (h:k=0∨k=1∨k=2):threeDo ax t=cond (ok3 x) (ob (l15_toRef (gN t.n x)) fun _=>bTick t x) none:=by
  unfold threeDo;rw [h0,hn,hk];rcases h with rfl | rfl | rfl<;>kernel_rfl
theorem red_take (h:k=3∨k=4∨k=5∨k=6∨k=7∨k=8∨k=9):threeDo ax t=cond (ok3 x) (ob (l15_toRef (gN t.n x)) fun _=>bTake t q) none:=by
  unfold threeDo;rw [h0,hn,hk]
  rcases h with rfl | rfl | rfl | rfl | rfl | rfl | rfl<;>kernel_rfl
theorem red_lose (h:k=10):threeDo ax t=cond (ok3 x) (ob (l15_toRef (gN t.n x)) fun _=>bLose t q) none:=by
  unfold threeDo;rw [h0,hn,hk];subst h;kernel_rfl
theorem red_twice (h:k=11):threeDo ax t=cond (ok3 x) (ob (l15_toRef (gN t.n x)) fun _=>bTwice t q) none:=by
  unfold threeDo;rw [h0,hn,hk];subst h;kernel_rfl
theorem red_prop (h:k=12∨k=13):threeDo ax t=cond (ok3 x) (ob (l15_toRef (gN t.n x)) fun _=>bProp t x ax.cmd) none:=by
  unfold threeDo;rw [h0,hn,hk];rcases h with rfl | rfl<;>kernel_rfl
theorem red_wake (h:k=14):threeDo ax t=cond (ok3 x) (ob (l15_toRef (gN t.n x)) fun _=>bWake t x) none:=by
  unfold threeDo;rw [h0,hn,hk];subst h;kernel_rfl
theorem red_comp (h:k=15):threeDo ax t=cond (ok3 x) (ob (l15_toRef (gN t.n x)) fun _=>bComp t x ax.n ax.cmd) none:=by
  unfold threeDo;rw [h0,hn,hk];subst h;kernel_rfl
end
end Go.Proofs.Ytoicjnggljeicaa
