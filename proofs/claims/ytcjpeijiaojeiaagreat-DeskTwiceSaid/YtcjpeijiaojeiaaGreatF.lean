/- By program (gen.py): the functions in their typed form. -/
import Derived.Test.YtcjpeijiaojeiaaGreatF2
import Derived.Test.YtcjpeijiaojeiaaGreatHa
import Derived.Test.YtcjpeijiaojeiaaGreatLb
namespace Go.Proofs.YtcjpeijiaojeiaaGreat
open Go Go.Ev
set_option maxRecDepth 1000000
noncomputable section
def xh (d1:bI)(o1:Op)(i1:Int):Option Op :=
 ob (vw d1.book o1.al.device o1.al.aB) fun r0 =>
 cond (cond ((i1.tmod 4) == 0) true (!r0.2))
 (cond (cond (decide (o1.kind > 3)) (decide ((i1.tmod 5) > 0)) false)
 (some (Op.mk o1.al o1.cC o1.cU 1 iN o1.text o1.n o1.time o1.dG))
 (some o1))
 (cond (cond (o1.kind == 5) (decide ((r0.1.ids.length:Int) > 0)) false)
 (ob (r0.1.ids[0]?) fun e1 =>
 cond (decide (1≤(r0.1.ids.length:Int)))
 (ob (xB (r0.1.ids.take 1)) fun r2 =>
 ob (within (aF (o1.n+o1.al.seq)) r2) fun r3 =>
 cond (cond (o1.kind == 4) (decide ((r0.1.aX.length:Int) > 0)) false)
 (ob (r0.1.aX[0]?) fun e4 =>
 some (Op.mk o1.al o1.cC o1.cU o1.kind e4.key o1.text (aF (e1.from_+r3)) o1.time o1.dG))
 (some (Op.mk o1.al o1.cC o1.cU o1.kind o1.key o1.text (aF (e1.from_+r3)) o1.time o1.dG)))
 none)
 (cond (cond (o1.kind == 4) (decide ((r0.1.aX.length:Int) > 0)) false)
 (ob (r0.1.aX[0]?) fun e5 =>
 some (Op.mk o1.al o1.cC o1.cU o1.kind e5.key o1.text o1.n o1.time o1.dG))
 (some o1)))
def Lw (p:bI×Op×Int):Option Op:=xh p.1 p.2.1 p.2.2
def Kv:aV TL:=aV.of (DA.cons (DT.agg fv) (DA.cons (DT.agg fC) (DA.one dI))) Lw (DA.one (DT.agg fC))
theorem aAD:bi [(98,IU),(99,Jk),(16,wg)] [] (aY tab sl sh [(56,Ui)] [(98,.keep),(99,.pure),(16,.pure)]) 56 (DA.cons (DT.agg fv) (DA.cons (DT.agg fC) (DA.one dI))) Lw (DA.one (DT.agg fC)):=fun _=>by kernel_rfl
theorem aCf:bU PR 56 .keep Kv:=bj aAD (aZ base (aC (VT.ae rfl aN) aN) (aC (oD Za rfl) (aC (oD aAJ rfl) (aC (oD CL rfl) aN)))) (.inl rfl) VT.enters
abbrev pN:=Int×Int×Int×Act×bI×bg×bg
def KA (i1:Int)(i2:Int)(i3:Int)(ax1:Act)(d1:bI)(c1:bg)(c2:bg):Option ((pN)⊕(Int×Act×bI×bg×bg)) :=
 cond (cond (decide (i3 < (ax1.ops.length:Int))) (cond (decide (i3 < 6)) (c2.kind == 3) false) false)
 (cond (decide (0≤i3))
 (ob (ax1.ops[i3.toNat]?) fun e0 =>
 ob (yO e0) fun r1 =>
 ob (within ax1.n 9) fun r2 =>
 ob (xh d1 (Op.mk (aL.mk i1 (max2 c2.aB 1) (max2 (aF ((aF ((aF (i2+1))+i3)) - (aF (r2.tdiv 8)))) 1)) r1.cC r1.cU r1.kind r1.key r1.text r1.n r1.time r1.dG) ax1.n) fun r3 =>
 cond (fits ((c2.ops++[r3]).length))
 (some (.inl (i1,i2,(aF (i3+1)),ax1,d1,c1,(bg.mk c2.kind c2.device c2.aB c2.aK c2.n c2.cP (c2.ops++[r3])))))
 none)
 none)
 (some (.inr (i2,ax1,d1,c1,c2)))
def vF (p:pN):Option ((pN)⊕(Int×Act×bI×bg×bg)):=KA p.1 p.2.1 p.2.2.1 p.2.2.2.1 p.2.2.2.2.1 p.2.2.2.2.2.1 p.2.2.2.2.2.2
def lO (i1:Int)(i2:Int)(i3:Int)(ax1:Act)(d1:bI)(c1:bg)(c2:bg):Option (Int×Act×bI×bg×bg):=bm vF ((6 - i3).toNat+2) (i1,i2,i3,ax1,d1,c1,c2)
def R4:aE (List (C TL)) Act:=kO (kC kJ (kC kJ (kC kJ (kC (kG fb) (kC (kG dn) kN))))) (fun (z0,z1,z2,z3,z4,_)=>(Act.mk z0 z1 z2 z3 z4)) (fun (x:Act)=>(x.kind,(x.device,(x.n,(x.cP,(x.ops,())))))) (fun _=>rfl)
def w4:kT (pN):=kO (kS 7 (kC (kP 0 0) (kC (kP 1 0) (kC (kP 2 0) (kC kI (kC (kP 3 0) (kC kI (kC kI kN))))))) (kC (aE.var 0 80 R4) (kC (aE.var 1 50 mB) (kC (aE.var 2 56 (kC kJ (kC kJ (kC kJ (kC kJ (kC kJ (kC (kA 4) (kC (kA 5) kN)))))))) (kC (aE.var 3 56 (kC kJ (kC kJ (kC kJ (kC kJ (kC kJ (kC (kG fb) (kC (kA 6) kN)))))))) (kC (kR 4 105 fb) (kC (kR 5 61 dn) (kC (kR 6 61 dn) kN)))))))) (fun ((_,_,_,z0,_,z1,z2,_),z3,z4,(z5,z6,z7,z8,z9,_),(z10,z11,z12,z13,z14,z15,_),z16,z17,z18,_)=>(z0,z1,z2,z3,z4,(bg.mk z5 z6 z7 z8 z9 z16 z17),(bg.mk z10 z11 z12 z13 z14 z15 z18))) (fun (x:pN)=>(((),((),((),(x.1,((),(x.2.1,(x.2.2.1,()))))))),(x.2.2.2.1,(x.2.2.2.2.1,((x.2.2.2.2.2.1.kind,(x.2.2.2.2.2.1.device,(x.2.2.2.2.2.1.aB,(x.2.2.2.2.2.1.aK,(x.2.2.2.2.2.1.n,((),((),()))))))),((x.2.2.2.2.2.2.kind,(x.2.2.2.2.2.2.device,(x.2.2.2.2.2.2.aB,(x.2.2.2.2.2.2.aK,(x.2.2.2.2.2.2.n,(x.2.2.2.2.2.2.cP,((),()))))))),(x.2.2.2.2.2.1.cP,(x.2.2.2.2.2.1.ops,(x.2.2.2.2.2.2.ops,()))))))))) (fun _=>rfl)
def BH:kT (Int×Act×bI×bg×bg):=kO (kS 14 (kC (kP 0 0) (kC (kP 1 0) (kC (kP 2 0) (kC (kP 3 0) (kC kI kN))))) (kC (aE.var 0 80 R4) (kC (aE.var 1 50 mB) (kC (aE.var 2 56 (kC kJ (kC kJ (kC kJ (kC kJ (kC kJ (kC (kA 4) (kC (kA 5) kN)))))))) (kC (aE.var 3 56 (kC kJ (kC kJ (kC kJ (kC kJ (kC kJ (kC (kG fb) (kC (kA 13) kN)))))))) (kC (kR 4 105 fb) (kC (kR 5 61 dn) (kC (kR 13 61 dn) kN)))))))) (fun ((_,_,_,_,z0,_),z1,z2,(z3,z4,z5,z6,z7,_),(z8,z9,z10,z11,z12,z13,_),z14,z15,z16,_)=>(z0,z1,z2,(bg.mk z3 z4 z5 z6 z7 z14 z15),(bg.mk z8 z9 z10 z11 z12 z13 z16))) (fun (x:Int×Act×bI×bg×bg)=>(((),((),((),((),(x.1,()))))),(x.2.1,(x.2.2.1,((x.2.2.2.1.kind,(x.2.2.2.1.device,(x.2.2.2.1.aB,(x.2.2.2.1.aK,(x.2.2.2.1.n,((),((),()))))))),((x.2.2.2.2.kind,(x.2.2.2.2.device,(x.2.2.2.2.aB,(x.2.2.2.2.aK,(x.2.2.2.2.n,(x.2.2.2.2.cP,((),()))))))),(x.2.2.2.1.cP,(x.2.2.2.1.ops,(x.2.2.2.2.ops,()))))))))) (fun _=>rfl)
def MP:aT TL:=aT.one w4.dec (fun p=>lO p.1 p.2.1 p.2.2.1 p.2.2.2.1 p.2.2.2.2.1 p.2.2.2.2.2.1 p.2.2.2.2.2.2) (.exit 0) BH.aJ
def L4:cL:=[(55,NX),(16,wg),(56,Kv)]
def Nv:Env:=aY tab sl sh [] [(55,.keep),(16,.pure),(56,.keep)]
theorem aAT:bK PR (bJ L4 sZ) Nv:=aZ base aN (aC (oD aEM rfl) (aC (oD CL rfl) (aC (oD aCf rfl) aN)))
theorem aCp (x:pN):Out.run (bO L4 sZ) (bp Nv 12 20 pH.an Co (ag (a8 pH.body) 12) (w4.aJ x)) (back w4 BH fun e=>ck e (.exit 0))=vF x:=by kernel_rfl
theorem aDN:bZ PR (bx MP) Up Co (ag (a8 pH.body) 12) :=
  dd aAT (loops:=12) (k:=20) (an:=pH.an) (by kernel_rfl) (aR.cI rfl FV.keys (aC (.inl (by kernel_rfl)) aN)) w4 BH (.exit 0) rfl vF _ aCp (fun x y h=>⟨_,h⟩) (fun _=>cA.1 rfl)
def vz (ax1:Act)(d1:bI):Option bg :=
 ob (within ax1.device 3) fun r0 =>
 ob (within ax1.kind 7) fun r1 =>
 cond (decide (0≤r0) && decide (r0 < 6))
 (cond (decide (0≤r0) && decide (r0 < 6))
 (ob (within ax1.n 12) fun r2 =>
 ob (within ax1.n 30) fun r3 =>
 cond ((ax1.kind.tmod 3) == 0)
 (cond ((ax1.n.tmod 13) == 0)
 (ob (within ax1.kind 3) fun r4 =>
 ob (jx ax1.cP) fun r5 =>
 ob (jo d1 r0 (aF ((aF ((cond (decide (r0=0)) d1.dev.a0.aB (cond (decide (r0=1)) d1.dev.a1.aB (cond (decide (r0=2)) d1.dev.a2.aB (cond (decide (r0=3)) d1.dev.a3.aB (cond (decide (r0=4)) d1.dev.a4.aB d1.dev.a5.aB)))))+r4)) - 1))) fun r6 =>
 ob (lO r0 r6 0 ax1 d1 (bg.mk 0 0 0 0 0 [] []) (bg.mk 3 r0 (aF ((aF ((cond (decide (r0=0)) d1.dev.a0.aB (cond (decide (r0=1)) d1.dev.a1.aB (cond (decide (r0=2)) d1.dev.a2.aB (cond (decide (r0=3)) d1.dev.a3.aB (cond (decide (r0=4)) d1.dev.a4.aB d1.dev.a5.aB)))))+r4)) - 1)) (aF ((aF ((cond (decide (r0=0)) d1.dev.a0.aK (cond (decide (r0=1)) d1.dev.a1.aK (cond (decide (r0=2)) d1.dev.a2.aK (cond (decide (r0=3)) d1.dev.a3.aK (cond (decide (r0=4)) d1.dev.a4.aK d1.dev.a5.aK)))))+1)) - (aF (r2.tdiv 11)))) (aF (1+r3)) r5 [])) fun y7 =>
 cond (y7.2.2.2.2.kind == 4)
 (ob (within y7.2.1.n 8) fun r8 =>
 cond (y7.2.2.2.2.kind == 7)
 (ob (within y7.2.1.n 20) fun r9 =>
 some (bg.mk y7.2.2.2.2.kind y7.2.2.2.2.device y7.2.2.2.2.aB y7.2.2.2.2.aK (aF (y7.2.2.1.now+r9)) y7.2.2.2.2.cP y7.2.2.2.2.ops))
 (some (bg.mk y7.2.2.2.2.kind y7.2.2.2.2.device y7.2.2.2.2.aB y7.2.2.2.2.aK (aF (y7.1+(aF (r8.tdiv 7)))) y7.2.2.2.2.cP y7.2.2.2.2.ops)))
 (cond (y7.2.2.2.2.kind == 7)
 (ob (within y7.2.1.n 20) fun r10 =>
 some (bg.mk y7.2.2.2.2.kind y7.2.2.2.2.device y7.2.2.2.2.aB y7.2.2.2.2.aK (aF (y7.2.2.1.now+r10)) y7.2.2.2.2.cP y7.2.2.2.2.ops))
 (some y7.2.2.2.2)))
 (ob (jx ax1.cP) fun r11 =>
 ob (jo d1 r0 (cond (decide (r0=0)) d1.dev.a0.aB (cond (decide (r0=1)) d1.dev.a1.aB (cond (decide (r0=2)) d1.dev.a2.aB (cond (decide (r0=3)) d1.dev.a3.aB (cond (decide (r0=4)) d1.dev.a4.aB d1.dev.a5.aB)))))) fun r12 =>
 ob (lO r0 r12 0 ax1 d1 (bg.mk 0 0 0 0 0 [] []) (bg.mk 3 r0 (cond (decide (r0=0)) d1.dev.a0.aB (cond (decide (r0=1)) d1.dev.a1.aB (cond (decide (r0=2)) d1.dev.a2.aB (cond (decide (r0=3)) d1.dev.a3.aB (cond (decide (r0=4)) d1.dev.a4.aB d1.dev.a5.aB))))) (aF ((aF ((cond (decide (r0=0)) d1.dev.a0.aK (cond (decide (r0=1)) d1.dev.a1.aK (cond (decide (r0=2)) d1.dev.a2.aK (cond (decide (r0=3)) d1.dev.a3.aK (cond (decide (r0=4)) d1.dev.a4.aK d1.dev.a5.aK)))))+1)) - (aF (r2.tdiv 11)))) (aF (1+r3)) r11 [])) fun y13 =>
 cond (y13.2.2.2.2.kind == 4)
 (ob (within y13.2.1.n 8) fun r14 =>
 cond (y13.2.2.2.2.kind == 7)
 (ob (within y13.2.1.n 20) fun r15 =>
 some (bg.mk y13.2.2.2.2.kind y13.2.2.2.2.device y13.2.2.2.2.aB y13.2.2.2.2.aK (aF (y13.2.2.1.now+r15)) y13.2.2.2.2.cP y13.2.2.2.2.ops))
 (some (bg.mk y13.2.2.2.2.kind y13.2.2.2.2.device y13.2.2.2.2.aB y13.2.2.2.2.aK (aF (y13.1+(aF (r14.tdiv 7)))) y13.2.2.2.2.cP y13.2.2.2.2.ops)))
 (cond (y13.2.2.2.2.kind == 7)
 (ob (within y13.2.1.n 20) fun r16 =>
 some (bg.mk y13.2.2.2.2.kind y13.2.2.2.2.device y13.2.2.2.2.aB y13.2.2.2.2.aK (aF (y13.2.2.1.now+r16)) y13.2.2.2.2.cP y13.2.2.2.2.ops))
 (some y13.2.2.2.2))))
 (cond ((ax1.n.tmod 13) == 0)
 (ob (within ax1.kind 3) fun r17 =>
 cond (cond ((aF (1+r1)) == 6) (decide ((ax1.n.tmod 3) > 0)) false)
 (ob (jx ax1.cP) fun r18 =>
 ob (jo d1 r0 (aF ((aF ((cond (decide (r0=0)) d1.dev.a0.aB (cond (decide (r0=1)) d1.dev.a1.aB (cond (decide (r0=2)) d1.dev.a2.aB (cond (decide (r0=3)) d1.dev.a3.aB (cond (decide (r0=4)) d1.dev.a4.aB d1.dev.a5.aB)))))+r17)) - 1))) fun r19 =>
 ob (lO r0 r19 0 ax1 d1 (bg.mk 0 0 0 0 0 [] []) (bg.mk 2 r0 (aF ((aF ((cond (decide (r0=0)) d1.dev.a0.aB (cond (decide (r0=1)) d1.dev.a1.aB (cond (decide (r0=2)) d1.dev.a2.aB (cond (decide (r0=3)) d1.dev.a3.aB (cond (decide (r0=4)) d1.dev.a4.aB d1.dev.a5.aB)))))+r17)) - 1)) (aF ((aF ((cond (decide (r0=0)) d1.dev.a0.aK (cond (decide (r0=1)) d1.dev.a1.aK (cond (decide (r0=2)) d1.dev.a2.aK (cond (decide (r0=3)) d1.dev.a3.aK (cond (decide (r0=4)) d1.dev.a4.aK d1.dev.a5.aK)))))+1)) - (aF (r2.tdiv 11)))) (aF (1+r3)) r18 [])) fun y20 =>
 cond (y20.2.2.2.2.kind == 4)
 (ob (within y20.2.1.n 8) fun r21 =>
 cond (y20.2.2.2.2.kind == 7)
 (ob (within y20.2.1.n 20) fun r22 =>
 some (bg.mk y20.2.2.2.2.kind y20.2.2.2.2.device y20.2.2.2.2.aB y20.2.2.2.2.aK (aF (y20.2.2.1.now+r22)) y20.2.2.2.2.cP y20.2.2.2.2.ops))
 (some (bg.mk y20.2.2.2.2.kind y20.2.2.2.2.device y20.2.2.2.2.aB y20.2.2.2.2.aK (aF (y20.1+(aF (r21.tdiv 7)))) y20.2.2.2.2.cP y20.2.2.2.2.ops)))
 (cond (y20.2.2.2.2.kind == 7)
 (ob (within y20.2.1.n 20) fun r23 =>
 some (bg.mk y20.2.2.2.2.kind y20.2.2.2.2.device y20.2.2.2.2.aB y20.2.2.2.2.aK (aF (y20.2.2.1.now+r23)) y20.2.2.2.2.cP y20.2.2.2.2.ops))
 (some y20.2.2.2.2)))
 (ob (jx ax1.cP) fun r24 =>
 ob (jo d1 r0 (aF ((aF ((cond (decide (r0=0)) d1.dev.a0.aB (cond (decide (r0=1)) d1.dev.a1.aB (cond (decide (r0=2)) d1.dev.a2.aB (cond (decide (r0=3)) d1.dev.a3.aB (cond (decide (r0=4)) d1.dev.a4.aB d1.dev.a5.aB)))))+r17)) - 1))) fun r25 =>
 ob (lO r0 r25 0 ax1 d1 (bg.mk 0 0 0 0 0 [] []) (bg.mk (aF (1+r1)) r0 (aF ((aF ((cond (decide (r0=0)) d1.dev.a0.aB (cond (decide (r0=1)) d1.dev.a1.aB (cond (decide (r0=2)) d1.dev.a2.aB (cond (decide (r0=3)) d1.dev.a3.aB (cond (decide (r0=4)) d1.dev.a4.aB d1.dev.a5.aB)))))+r17)) - 1)) (aF ((aF ((cond (decide (r0=0)) d1.dev.a0.aK (cond (decide (r0=1)) d1.dev.a1.aK (cond (decide (r0=2)) d1.dev.a2.aK (cond (decide (r0=3)) d1.dev.a3.aK (cond (decide (r0=4)) d1.dev.a4.aK d1.dev.a5.aK)))))+1)) - (aF (r2.tdiv 11)))) (aF (1+r3)) r24 [])) fun y26 =>
 cond (y26.2.2.2.2.kind == 4)
 (ob (within y26.2.1.n 8) fun r27 =>
 cond (y26.2.2.2.2.kind == 7)
 (ob (within y26.2.1.n 20) fun r28 =>
 some (bg.mk y26.2.2.2.2.kind y26.2.2.2.2.device y26.2.2.2.2.aB y26.2.2.2.2.aK (aF (y26.2.2.1.now+r28)) y26.2.2.2.2.cP y26.2.2.2.2.ops))
 (some (bg.mk y26.2.2.2.2.kind y26.2.2.2.2.device y26.2.2.2.2.aB y26.2.2.2.2.aK (aF (y26.1+(aF (r27.tdiv 7)))) y26.2.2.2.2.cP y26.2.2.2.2.ops)))
 (cond (y26.2.2.2.2.kind == 7)
 (ob (within y26.2.1.n 20) fun r29 =>
 some (bg.mk y26.2.2.2.2.kind y26.2.2.2.2.device y26.2.2.2.2.aB y26.2.2.2.2.aK (aF (y26.2.2.1.now+r29)) y26.2.2.2.2.cP y26.2.2.2.2.ops))
 (some y26.2.2.2.2))))
 (cond (cond ((aF (1+r1)) == 6) (decide ((ax1.n.tmod 3) > 0)) false)
 (ob (jx ax1.cP) fun r30 =>
 ob (jo d1 r0 (cond (decide (r0=0)) d1.dev.a0.aB (cond (decide (r0=1)) d1.dev.a1.aB (cond (decide (r0=2)) d1.dev.a2.aB (cond (decide (r0=3)) d1.dev.a3.aB (cond (decide (r0=4)) d1.dev.a4.aB d1.dev.a5.aB)))))) fun r31 =>
 ob (lO r0 r31 0 ax1 d1 (bg.mk 0 0 0 0 0 [] []) (bg.mk 2 r0 (cond (decide (r0=0)) d1.dev.a0.aB (cond (decide (r0=1)) d1.dev.a1.aB (cond (decide (r0=2)) d1.dev.a2.aB (cond (decide (r0=3)) d1.dev.a3.aB (cond (decide (r0=4)) d1.dev.a4.aB d1.dev.a5.aB))))) (aF ((aF ((cond (decide (r0=0)) d1.dev.a0.aK (cond (decide (r0=1)) d1.dev.a1.aK (cond (decide (r0=2)) d1.dev.a2.aK (cond (decide (r0=3)) d1.dev.a3.aK (cond (decide (r0=4)) d1.dev.a4.aK d1.dev.a5.aK)))))+1)) - (aF (r2.tdiv 11)))) (aF (1+r3)) r30 [])) fun y32 =>
 cond (y32.2.2.2.2.kind == 4)
 (ob (within y32.2.1.n 8) fun r33 =>
 cond (y32.2.2.2.2.kind == 7)
 (ob (within y32.2.1.n 20) fun r34 =>
 some (bg.mk y32.2.2.2.2.kind y32.2.2.2.2.device y32.2.2.2.2.aB y32.2.2.2.2.aK (aF (y32.2.2.1.now+r34)) y32.2.2.2.2.cP y32.2.2.2.2.ops))
 (some (bg.mk y32.2.2.2.2.kind y32.2.2.2.2.device y32.2.2.2.2.aB y32.2.2.2.2.aK (aF (y32.1+(aF (r33.tdiv 7)))) y32.2.2.2.2.cP y32.2.2.2.2.ops)))
 (cond (y32.2.2.2.2.kind == 7)
 (ob (within y32.2.1.n 20) fun r35 =>
 some (bg.mk y32.2.2.2.2.kind y32.2.2.2.2.device y32.2.2.2.2.aB y32.2.2.2.2.aK (aF (y32.2.2.1.now+r35)) y32.2.2.2.2.cP y32.2.2.2.2.ops))
 (some y32.2.2.2.2)))
 (ob (jx ax1.cP) fun r36 =>
 ob (jo d1 r0 (cond (decide (r0=0)) d1.dev.a0.aB (cond (decide (r0=1)) d1.dev.a1.aB (cond (decide (r0=2)) d1.dev.a2.aB (cond (decide (r0=3)) d1.dev.a3.aB (cond (decide (r0=4)) d1.dev.a4.aB d1.dev.a5.aB)))))) fun r37 =>
 ob (lO r0 r37 0 ax1 d1 (bg.mk 0 0 0 0 0 [] []) (bg.mk (aF (1+r1)) r0 (cond (decide (r0=0)) d1.dev.a0.aB (cond (decide (r0=1)) d1.dev.a1.aB (cond (decide (r0=2)) d1.dev.a2.aB (cond (decide (r0=3)) d1.dev.a3.aB (cond (decide (r0=4)) d1.dev.a4.aB d1.dev.a5.aB))))) (aF ((aF ((cond (decide (r0=0)) d1.dev.a0.aK (cond (decide (r0=1)) d1.dev.a1.aK (cond (decide (r0=2)) d1.dev.a2.aK (cond (decide (r0=3)) d1.dev.a3.aK (cond (decide (r0=4)) d1.dev.a4.aK d1.dev.a5.aK)))))+1)) - (aF (r2.tdiv 11)))) (aF (1+r3)) r36 [])) fun y38 =>
 cond (y38.2.2.2.2.kind == 4)
 (ob (within y38.2.1.n 8) fun r39 =>
 cond (y38.2.2.2.2.kind == 7)
 (ob (within y38.2.1.n 20) fun r40 =>
 some (bg.mk y38.2.2.2.2.kind y38.2.2.2.2.device y38.2.2.2.2.aB y38.2.2.2.2.aK (aF (y38.2.2.1.now+r40)) y38.2.2.2.2.cP y38.2.2.2.2.ops))
 (some (bg.mk y38.2.2.2.2.kind y38.2.2.2.2.device y38.2.2.2.2.aB y38.2.2.2.2.aK (aF (y38.1+(aF (r39.tdiv 7)))) y38.2.2.2.2.cP y38.2.2.2.2.ops)))
 (cond (y38.2.2.2.2.kind == 7)
 (ob (within y38.2.1.n 20) fun r41 =>
 some (bg.mk y38.2.2.2.2.kind y38.2.2.2.2.device y38.2.2.2.2.aB y38.2.2.2.2.aK (aF (y38.2.2.1.now+r41)) y38.2.2.2.2.cP y38.2.2.2.2.ops))
 (some y38.2.2.2.2))))))
 none)
 none
def Im (p:Act×bI):Option bg:=vz p.1 p.2
def IX:aV TL:=aV.of (DA.cons (DT.agg RU) (DA.one (DT.agg fv))) Im (DA.one (DT.agg yQ))
theorem YQ:bi [(16,wg),(53,Kd),(54,GY)] [(128012,MP)] (aY tab sl sh [(28,pH)] [(16,.pure),(53,.keep),(54,.pure)]) 28 (DA.cons (DT.agg RU) (DA.one (DT.agg fv))) Im (DA.one (DT.agg yQ)):=fun _=>by kernel_rfl
theorem Zk:bU PR 28 .keep IX:=bj YQ (aZ base (aC (FV.ae rfl (aC (lC aDN rfl) aN)) aN) (aC (oD CL rfl) (aC (oD aAP rfl) (aC (oD XA rfl) aN)))) (.inl rfl) FV.enters
abbrev pn:=(List Range)×(List Range)×Bool×Int
def Ae (l1:List Range)(l2:List Range)(b1:Bool)(i1:Int):Option ((pn)⊕(((Bool)⊕(Bool)))) :=
 cond (decide (i1 < (l1.length:Int)))
 (cond (decide (0≤i1))
 (ob (l1[i1.toNat]?) fun e0 =>
 cond (decide (0≤i1))
 (ob (l2[i1.toNat]?) fun e1 =>
 cond (!(cond (e0.from_ == e1.from_) (cond (e0.bt == e1.bt) true false) false))
 (some (.inr (.inr false)))
 (some (.inl (l1,l2,b1,(aF (i1+1))))))
 none)
 none)
 (some (.inr (.inl b1)))
def rD (p:pn):Option ((pn)⊕(((Bool)⊕(Bool)))):=Ae p.1 p.2.1 p.2.2.1 p.2.2.2
def Dk (l1:List Range)(l2:List Range)(b1:Bool)(i1:Int):Option (((Bool)⊕(Bool))):=bm rD (((l1.length:Int) - i1).toNat+2) (l1,l2,b1,i1)
def vk:kT (pn):=kO (kS 0 (kC (kF aa) (kC (kF aa) (kC kB (kC kI kN)))) kN) (fun ((z0,z1,z2,z3,_),_)=>(z0,z1,z2,z3)) (fun (x:pn)=>((x.1,(x.2.1,(x.2.2.1,(x.2.2.2,())))),())) (fun _=>rfl)
def Nn:aT TL:=aT.two vk.dec (fun p=>Dk p.1 p.2.1 p.2.2.1 p.2.2.2) (.exit 0) .ret bP.aJ bP.aJ
def O5:Env:=aY tab sl sh [] []
theorem aBG:bK PR (bJ cZ sZ) O5:=aZ base aN aN
theorem aDF (x:pn):Out.run (bO cZ sZ) (bp O5 12 20 oU.an DJ (ag (a8 oU.body) 4) (vk.aJ x)) (cj vk bP bP (.exit 0) .ret)=rD x:=by kernel_rfl
theorem aEV:bZ PR (bx Nn) Sv DJ (ag (a8 oU.body) 4) :=
  dL aBG (loops:=12) (k:=20) (an:=oU.an) (by kernel_rfl) (aR.cI rfl E7.keys (aC (.inl (by kernel_rfl)) aN)) vk bP bP (.exit 0) .ret rfl rfl rD _ aDF (fun x y h=>⟨_,h⟩) (fun _=>cA.1 rfl)
def vM (l1:List Range)(l2:List Range):Option Bool :=
 cond ((l1.length:Int) != (l2.length:Int))
 (some false)
 (ob (Dk l1 l2 false 0) fun y0 =>
 two y0 (fun _ =>
 some true) (fun b2 =>
 some b2))
def Hq (p:(List Range)×(List Range)):Option Bool:=vM p.1 p.2
def Hb:aV TL:=aV.of (DA.cons (DT.one dF) (DA.one (DT.one dF))) Hq (DA.one dB)
theorem YG:bi [] [(207004,Nn)] (aY tab sl sh [(107,oU)] []) 107 (DA.cons (DT.one dF) (DA.one (DT.one dF))) Hq (DA.one dB):=fun _=>by kernel_rfl
theorem YN:bU PR 107 .pure Hb:=bj YG (aZ base (aC (E7.ae rfl (aC (lC aEV rfl) aN)) aN) aN) (.inr rfl) E7.enters
abbrev oz:=(List Int)×(List Int)×Bool×Int
def AN (l1:List Int)(l2:List Int)(b1:Bool)(i1:Int):Option ((oz)⊕(((Bool)⊕(Bool)))) :=
 cond (decide (i1 < (l1.length:Int)))
 (cond (decide (0≤i1))
 (ob (l1[i1.toNat]?) fun e0 =>
 cond (decide (0≤i1))
 (ob (l2[i1.toNat]?) fun e1 =>
 cond (e0 != e1)
 (some (.inr (.inr false)))
 (some (.inl (l1,l2,b1,(aF (i1+1))))))
 none)
 none)
 (some (.inr (.inl b1)))
def qt (p:oz):Option ((oz)⊕(((Bool)⊕(Bool)))):=AN p.1 p.2.1 p.2.2.1 p.2.2.2
def EN (l1:List Int)(l2:List Int)(b1:Bool)(i1:Int):Option (((Bool)⊕(Bool))):=bm qt (((l1.length:Int) - i1).toNat+2) (l1,l2,b1,i1)
def wK:kT (oz):=kO (kS 0 (kC (kF au) (kC (kF au) (kC kB (kC kI kN)))) kN) (fun ((z0,z1,z2,z3,_),_)=>(z0,z1,z2,z3)) (fun (x:oz)=>((x.1,(x.2.1,(x.2.2.1,(x.2.2.2,())))),())) (fun _=>rfl)
def N9:aT TL:=aT.two wK.dec (fun p=>EN p.1 p.2.1 p.2.2.1 p.2.2.2) (.exit 0) .ret bP.aJ bP.aJ
def OO:Env:=aY tab sl sh [] []
theorem aAB:bK PR (bJ cZ sZ) OO:=aZ base aN aN
theorem aDD (x:oz):Out.run (bO cZ sZ) (bp OO 12 20 oZ.an C1 (ag (a8 oZ.body) 4) (wK.aJ x)) (cj wK bP bP (.exit 0) .ret)=qt x:=by kernel_rfl
theorem aEP:bZ PR (bx N9) Sc C1 (ag (a8 oZ.body) 4) :=
  dL aAB (loops:=12) (k:=20) (an:=oZ.an) (by kernel_rfl) (aR.cI rfl Ej.keys (aC (.inl (by kernel_rfl)) aN)) wK bP bP (.exit 0) .ret rfl rfl qt _ aDD (fun x y h=>⟨_,h⟩) (fun _=>cA.1 rfl)
def ua (l1:List Int)(l2:List Int):Option Bool :=
 cond ((l1.length:Int) != (l2.length:Int))
 (some false)
 (ob (EN l1 l2 false 0) fun y0 =>
 two y0 (fun _ =>
 some true) (fun b2 =>
 some b2))
def Gz (p:(List Int)×(List Int)):Option Bool:=ua p.1 p.2
def Hk:aV TL:=aV.of (DA.cons (DT.one fX) (DA.one (DT.one fX))) Gz (DA.one dB)
theorem Xg:bi [] [(208004,N9)] (aY tab sl sh [(108,oZ)] []) 108 (DA.cons (DT.one fX) (DA.one (DT.one fX))) Gz (DA.one dB):=fun _=>by kernel_rfl
theorem Yf:bU PR 108 .pure Hk:=bj Xg (aZ base (aC (Ej.ae rfl (aC (lC aEP rfl) aN)) aN) aN) (.inr rfl) Ej.enters
abbrev ph:=Bool×Int×aI×aI
def BW (b1:Bool)(i1:Int)(lx1:aI)(lx2:aI):Option ((ph)⊕(((Bool×aI×aI)⊕(Bool×aI×aI)))) :=
 cond (decide (i1 < (lx1.aX.length:Int)))
 (cond (decide (0≤i1))
 (ob (lx1.aX[i1.toNat]?) fun e0 =>
 cond (decide (0≤i1))
 (ob (lx2.aX[i1.toNat]?) fun e1 =>
 cond (!(cond (dk e0.key e1.key) (cond (e0.cO == e1.cO) (cond (e0.cY == e1.cY) (cond (e0.gZ == e1.gZ) (cond (e0.ir == e1.ir) true false) false) false) false) false))
 (some (.inr (.inr (false,lx1,lx2))))
 (some (.inl (b1,(aF (i1+1)),lx1,lx2))))
 none)
 none)
 (some (.inr (.inl (b1,lx1,lx2))))
def rv (p:ph):Option ((ph)⊕(((Bool×aI×aI)⊕(Bool×aI×aI)))):=BW p.1 p.2.1 p.2.2.1 p.2.2.2
def FR (b1:Bool)(i1:Int)(lx1:aI)(lx2:aI):Option (((Bool×aI×aI)⊕(Bool×aI×aI))):=bm rv (1099511627776) (b1,i1,lx1,lx2)
def xS:kT (ph):=kO (kS 2 (kC (kP 0 0) (kC (kP 1 0) (kC kB (kC kI kN)))) (kC (aE.var 0 43 lm) (kC (aE.var 1 43 lm) kN))) (fun p=>(p.1.2.2.1,p.1.2.2.2.1,p.2.1,p.2.2.1)) (fun (x:ph)=>(((),((),(x.1,(x.2.1,())))),(x.2.2.1,(x.2.2.2,())))) (fun _=>rfl)
def nV:kT (Bool×aI×aI):=kO (kS 4 (kC kB kN) (kC (aE.var 0 43 lm) (kC (aE.var 1 43 lm) kN))) (fun p=>(p.1.1,p.2.1,p.2.2.1)) (fun (x:Bool×aI×aI)=>((x.1,()),(x.2.1,(x.2.2,())))) (fun _=>rfl)
def PH:aT TL:=aT.two xS.dec (fun p=>FR p.1 p.2.1 p.2.2.1 p.2.2.2) (.exit 0) .ret nV.aJ nV.aJ
def Q4:Env:=aY tab sl sh [] []
theorem aB6:bK PR (bJ cZ sZ) Q4:=aZ base aN aN
theorem aEm (x:ph):Out.run (bO cZ sZ) (bp Q4 12 20 pr.an D3 (ag (a8 pr.body) 4) (xS.aJ x)) (cj xS nV nV (.exit 0) .ret)=rv x:=by kernel_rfl
theorem aF2:bZ PR (bx PH) VF D3 (ag (a8 pr.body) 4) :=
  dL aB6 (loops:=12) (k:=20) (an:=pr.an) (by kernel_rfl) (aR.cI rfl Fc.keys (aC (.inl (by kernel_rfl)) aN)) xS nV nV (.exit 0) .ret rfl rfl rv _ aEm (fun x y h=>⟨_,h⟩) (fun _=>cA.1 rfl)
def zO (lx1:aI)(lx2:aI):Option Bool :=
 cond (lx1.device != lx2.device)
 (some false)
 (cond (lx1.aB != lx2.aB)
 (some false)
 (cond (lx1.bC != lx2.bC)
 (some false)
 (cond (lx1.last != lx2.last)
 (some false)
 (cond ((lx1.aX.length:Int) != (lx2.aX.length:Int))
 (some false)
 (ob (vM lx1.ids lx2.ids) fun r0 =>
 cond (!r0)
 (some false)
 (ob (ua lx1.used lx2.used) fun r1 =>
 cond (!r1)
 (some false)
 (ob (FR false 0 lx1 lx2) fun y2 =>
 two y2 (fun _ =>
 some true) (fun b4 =>
 some b4.1))))))))
def GH (p:aI×aI):Option Bool:=zO p.1 p.2
def GK:aV TL:=aV.of (DA.cons (DT.agg eQ) (DA.one (DT.agg eQ))) GH (DA.one dB)
theorem Wd:bi [(107,Hb),(108,Hk)] [(165004,PH)] (aY tab sl sh [(65,pr)] [(107,.pure),(108,.pure)]) 65 (DA.cons (DT.agg eQ) (DA.one (DT.agg eQ))) GH (DA.one dB):=fun _=>by kernel_rfl
theorem Ww:bU PR 65 .pure GK:=bj Wd (aZ base (aC (Fc.ae rfl (aC (lC aF2 rfl) aN)) aN) (aC (oD YN rfl) (aC (oD Yf rfl) aN))) (.inr rfl) Fc.enters
def qd (rx1:aO)(rx2:aO):Option Bool :=
 cond (rx1.err == rx2.err)
 (cond (rx1.n == rx2.n)
 (ob (zO rx1.aD rx2.aD) fun r0 =>
 some r0)
 (some false))
 (some false)
def GD (p:aO×aO):Option Bool:=qd p.1 p.2
def GG:aV TL:=aV.of (DA.cons (DT.agg lG) (DA.one (DT.agg lG))) GD (DA.one dB)
theorem Wg:bi [(65,GK)] [] (aY tab sl sh [(31,Uo)] [(65,.pure)]) 31 (DA.cons (DT.agg lG) (DA.one (DT.agg lG))) GD (DA.one dB):=fun _=>by kernel_rfl
theorem Wv:bU PR 31 .pure GG:=bj Wg (aZ base (aC (Vh.ae rfl aN) aN) (aC (oD Ww rfl) aN)) (.inr rfl) Vh.enters
abbrev pJ:=(List Act)×Bool×Int×bI
def NL (l1:List Act)(b1:Bool)(i1:Int)(d1:bI):Option ((pJ)⊕(((Bool×bI)⊕(Bool×bI)))) :=
 cond (decide (i1 < (l1.length:Int)))
 (cond (decide (0≤i1))
 (ob (l1[i1.toNat]?) fun e0 =>
 ob (vz e0 d1) fun r1 =>
 ob (iU d1 r1) fun r2 =>
 ob (iU r2.1 r1) fun r3 =>
 cond (r1.kind != 5)
 (cond (r1.kind != 6)
 (cond (r1.kind == 3)
 (cond (r2.2.err != 0)
 (cond (r1.kind != 5)
 (cond (r1.kind != 6)
 (ob (lW r2.1 r3.1) fun r6 =>
 cond (!r6)
 (some (.inr (.inr (false,d1))))
 (some (.inl (l1,b1,(aF (i1+1)),r2.1))))
 (some (.inl (l1,b1,(aF (i1+1)),r2.1))))
 (some (.inl (l1,b1,(aF (i1+1)),r2.1))))
 (ob (qd r2.2 r3.2) fun r4 =>
 cond (!(r4 == true))
 (some (.inr (.inr (false,d1))))
 (cond (r1.kind != 5)
 (cond (r1.kind != 6)
 (ob (lW r2.1 r3.1) fun r7 =>
 cond (!r7)
 (some (.inr (.inr (false,d1))))
 (some (.inl (l1,b1,(aF (i1+1)),r2.1))))
 (some (.inl (l1,b1,(aF (i1+1)),r2.1))))
 (some (.inl (l1,b1,(aF (i1+1)),r2.1))))))
 (ob (qd r2.2 r3.2) fun r5 =>
 cond (!(r5 == true))
 (some (.inr (.inr (false,d1))))
 (cond (r1.kind != 5)
 (cond (r1.kind != 6)
 (ob (lW r2.1 r3.1) fun r8 =>
 cond (!r8)
 (some (.inr (.inr (false,d1))))
 (some (.inl (l1,b1,(aF (i1+1)),r2.1))))
 (some (.inl (l1,b1,(aF (i1+1)),r2.1))))
 (some (.inl (l1,b1,(aF (i1+1)),r2.1))))))
 (cond (r1.kind != 5)
 (cond (r1.kind != 6)
 (ob (lW r2.1 r3.1) fun r9 =>
 cond (!r9)
 (some (.inr (.inr (false,d1))))
 (some (.inl (l1,b1,(aF (i1+1)),r2.1))))
 (some (.inl (l1,b1,(aF (i1+1)),r2.1))))
 (some (.inl (l1,b1,(aF (i1+1)),r2.1)))))
 (cond (r1.kind != 5)
 (cond (r1.kind != 6)
 (ob (lW r2.1 r3.1) fun r10 =>
 cond (!r10)
 (some (.inr (.inr (false,d1))))
 (some (.inl (l1,b1,(aF (i1+1)),r2.1))))
 (some (.inl (l1,b1,(aF (i1+1)),r2.1))))
 (some (.inl (l1,b1,(aF (i1+1)),r2.1)))))
 none)
 (some (.inr (.inl (b1,d1))))
def xe (p:pJ):Option ((pJ)⊕(((Bool×bI)⊕(Bool×bI)))):=NL p.1 p.2.1 p.2.2.1 p.2.2.2
def Fg (l1:List Act)(b1:Bool)(i1:Int)(d1:bI):Option (((Bool×bI)⊕(Bool×bI))):=bm xe (((l1.length:Int) - i1).toNat+2) (l1,b1,i1,d1)
def xw:kT (pJ):=kO (kS 1 (kC (kF yU) (kC kB (kC (kP 0 0) (kC kI kN)))) (kC (aE.var 0 50 mB) kN)) (fun p=>(p.1.1,p.1.2.1,p.1.2.2.2.1,p.2.1)) (fun (x:pJ)=>((x.1,(x.2.1,((),(x.2.2.1,())))),(x.2.2.2,()))) (fun _=>rfl)
def n4:kT (Bool×bI):=kO (kS 2 (kC kB kN) (kC (aE.var 0 50 mB) kN)) (fun p=>(p.1.1,p.2.1)) (fun (x:Bool×bI)=>((x.1,()),(x.2,()))) (fun _=>rfl)
def QX:aT TL:=aT.two xw.dec (fun p=>Fg p.1 p.2.1 p.2.2.1 p.2.2.2) (.exit 0) .ret n4.aJ n4.aJ
def O7:cL:=[(28,IX),(18,CC),(31,GG),(32,PU)]
def RL:Env:=aY tab sl sh [] [(28,.keep),(18,.keep),(31,.pure),(32,.pure)]
theorem aDi:bK PR (bJ O7 sZ) RL:=aZ base aN (aC (oD Zk rfl) (aC (oD MU rfl) (aC (oD Wv rfl) (aC (oD aEy rfl) aN))))
theorem aGC (x:pJ):Out.run (bO O7 sZ) (bp RL 12 20 qZ.an Dr (ag (a8 qZ.body) 7) (xw.aJ x)) (cj xw n4 n4 (.exit 0) .ret)=xe x:=by kernel_rfl
theorem aHM:bZ PR (bx QX) WQ Dr (ag (a8 qZ.body) 7) :=
  dL aDi (loops:=12) (k:=20) (an:=qZ.an) (by kernel_rfl) (aR.cI rfl Fk.keys (aC (.inl (by kernel_rfl)) aN)) xw n4 n4 (.exit 0) .ret rfl rfl xe _ aGC (fun x y h=>⟨_,h⟩) (fun _=>cA.1 rfl)
def Ba (l1:List Act):Option Bool :=
 ob (known) fun r0 =>
 cond (!r0)
 (some false)
 (ob (yH l1) fun r1 =>
 cond (!r1)
 (some true)
 (ob (C9) fun r2 =>
 ob (Fg l1 false 0 r2) fun y3 =>
 two y3 (fun _ =>
 some true) (fun b5 =>
 some b5.1)))
def AD (p:(List Act)):Option Bool:=Ba p
def Yu:aV TL:=aV.of (DA.one (DT.one mF)) AD (DA.one dB)
theorem Y4:bi [(15,Nw),(22,NN),(17,KR)] [(108007,QX)] (aY tab sl sh [(8,qZ)] [(15,.pure),(22,.pure),(17,.keep)]) 8 (DA.one (DT.one mF)) AD (DA.one dB):=fun _=>by kernel_rfl
theorem Zo:bU PR 8 .pure Yu:=bj Y4 (aZ base (aC (Fk.ae rfl (aC (lC aHM rfl) aN)) aN) (aC (oD aEs rfl) (aC (oD aDr rfl) (aC (oD aBP rfl) aN)))) (.inr rfl) Fk.enters
end
end Go.Proofs.YtcjpeijiaojeiaaGreat
