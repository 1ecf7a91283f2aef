/- By program (gen.py): the functions in their typed form. -/
import Derived.Test.YtcjpeijiaojeiaaGreatF2
import Derived.Test.YtcjpeijiaojeiaaGreatHa
import Derived.Test.YtcjpeijiaojeiaaGreatLb
namespace Go.Proofs.YtcjpeijiaojeiaaGreat
open Go Go.Ev
set_option maxRecDepth 1000000
noncomputable section
def wJ (d1:aw)(o1:Op)(i1:Int):Option Op :=
 ob (vO d1.book o1.aP.device o1.aP.aA) fun r0 =>
 cond (cond ((i1.tmod 4) == 0) true (!r0.2))
 (cond (cond (decide (o1.kind > 3)) (decide ((i1.tmod 5) > 0)) false)
 (some (Op.mk o1.aP o1.bc o1.cW 1 cV o1.text o1.n o1.time o1.cz))
 (some o1))
 (cond (cond (o1.kind == 5) (decide ((r0.1.ids.length:Int) > 0)) false)
 (ob (r0.1.ids[0]?) fun e1 =>
 cond (decide (1≤(r0.1.ids.length:Int)))
 (ob (vP (r0.1.ids.take 1)) fun r2 =>
 ob (within (aF (o1.n+o1.aP.seq)) r2) fun r3 =>
 cond (cond (o1.kind == 4) (decide ((r0.1.aW.length:Int) > 0)) false)
 (ob (r0.1.aW[0]?) fun e4 =>
 some (Op.mk o1.aP o1.bc o1.cW o1.kind e4.key o1.text (aF (e1.from_+r3)) o1.time o1.cz))
 (some (Op.mk o1.aP o1.bc o1.cW o1.kind o1.key o1.text (aF (e1.from_+r3)) o1.time o1.cz)))
 none)
 (cond (cond (o1.kind == 4) (decide ((r0.1.aW.length:Int) > 0)) false)
 (ob (r0.1.aW[0]?) fun e5 =>
 some (Op.mk o1.aP o1.bc o1.cW o1.kind e5.key o1.text o1.n o1.time o1.cz))
 (some o1)))
def ZB (p:aw×Op×Int):Option Op:=wJ p.1 p.2.1 p.2.2
def Iq:aQ TL:=aQ.of (DA.cons (DT.agg kz) (DA.cons (DT.agg jW) (DA.one dI))) ZB (DA.one (DT.agg jW))
theorem ZT:be PR 56 .keep Iq:=bx (cs:=[(98,Fl),(99,Hm),(16,uy)]) (ss:=[]) (E:=aX tab sl sh [(56,Ss)] [(98,.keep),(99,.pure),(16,.pure)]) (fun _=>by kernel_rfl) (aY base (aC (UK.ak rfl aN) aN) (aC (oD XD rfl) (aC (oD Xz rfl) (aC (oD B5 rfl) aN)))) (.inl rfl) UK.enters
abbrev rR:=Int×Int×Int×Act×aw×cH×cH
def Gm (i1:Int)(i2:Int)(i3:Int)(ax1:Act)(d1:aw)(c1:cH)(c2:cH):Option ((rR)⊕(Int×Act×aw×cH×cH)) :=
 cond (cond (decide (i3 < (ax1.ops.length:Int))) (cond (decide (i3 < 6)) (c2.kind == 3) false) false)
 (cond (decide (0≤i3))
 (ob (ax1.ops[i3.toNat]?) fun e0 =>
 ob (wZ e0) fun r1 =>
 ob (within ax1.n 9) fun r2 =>
 ob (wJ d1 (Op.mk (aL.mk i1 (max2 c2.aA 1) (max2 (aF ((aF ((aF (i2+1))+i3)) - (aF (r2.tdiv 8)))) 1)) r1.bc r1.cW r1.kind r1.key r1.text r1.n r1.time r1.cz) ax1.n) fun r3 =>
 cond (fits ((c2.ops++[r3]).length))
 (some (.inl (i1,i2,(aF (i3+1)),ax1,d1,c1,(cH.mk c2.kind c2.device c2.aA c2.aO c2.n c2.cj (c2.ops++[r3])))))
 none)
 none)
 (some (.inr (i2,ax1,d1,c1,c2)))
def AS (p:rR):Option ((rR)⊕(Int×Act×aw×cH×cH)):=Gm p.1 p.2.1 p.2.2.1 p.2.2.2.1 p.2.2.2.2.1 p.2.2.2.2.2.1 p.2.2.2.2.2.2
def mA (i1:Int)(i2:Int)(i3:Int)(ax1:Act)(d1:aw)(c1:cH)(c2:cH):Option (Int×Act×aw×cH×cH):=bZ AS ((6 - i3).toNat+2) (i1,i2,i3,ax1,d1,c1,c2)
def PE:aD (List (C TL)) Act:=kO (kC kJ (kC kJ (kC kJ (kC (kG gL) (kC (kG eH) kN))))) (fun (z0,z1,z2,z3,z4,_)=>(Act.mk z0 z1 z2 z3 z4)) (fun (x:Act)=>(x.kind,(x.device,(x.n,(x.cj,(x.ops,())))))) (fun _=>rfl)
def aBa:kT (rR):=kO (kS 7 (kC (kP 0 0) (kC (kP 1 0) (kC (kP 2 0) (kC kI (kC (kP 3 0) (kC kI (kC kI kN))))))) (kC (aD.var 0 80 PE) (kC (aD.var 1 50 iy) (kC (aD.var 2 56 (kC kJ (kC kJ (kC kJ (kC kJ (kC kJ (kC (kA 4) (kC (kA 5) kN)))))))) (kC (aD.var 3 56 (kC kJ (kC kJ (kC kJ (kC kJ (kC kJ (kC (kG gL) (kC (kA 6) kN)))))))) (kC (kR 4 105 gL) (kC (kR 5 61 eH) (kC (kR 6 61 eH) kN)))))))) (fun ((_,_,_,z0,_,z1,z2,_),z3,z4,(z5,z6,z7,z8,z9,_),(z10,z11,z12,z13,z14,z15,_),z16,z17,z18,_)=>(z0,z1,z2,z3,z4,(cH.mk z5 z6 z7 z8 z9 z16 z17),(cH.mk z10 z11 z12 z13 z14 z15 z18))) (fun (x:rR)=>(((),((),((),(x.1,((),(x.2.1,(x.2.2.1,()))))))),(x.2.2.2.1,(x.2.2.2.2.1,((x.2.2.2.2.2.1.kind,(x.2.2.2.2.2.1.device,(x.2.2.2.2.2.1.aA,(x.2.2.2.2.2.1.aO,(x.2.2.2.2.2.1.n,((),((),()))))))),((x.2.2.2.2.2.2.kind,(x.2.2.2.2.2.2.device,(x.2.2.2.2.2.2.aA,(x.2.2.2.2.2.2.aO,(x.2.2.2.2.2.2.n,(x.2.2.2.2.2.2.cj,((),()))))))),(x.2.2.2.2.2.1.cj,(x.2.2.2.2.2.1.ops,(x.2.2.2.2.2.2.ops,()))))))))) (fun _=>rfl)
def ZS:kT (Int×Act×aw×cH×cH):=kO (kS 14 (kC (kP 0 0) (kC (kP 1 0) (kC (kP 2 0) (kC (kP 3 0) (kC kI kN))))) (kC (aD.var 0 80 PE) (kC (aD.var 1 50 iy) (kC (aD.var 2 56 (kC kJ (kC kJ (kC kJ (kC kJ (kC kJ (kC (kA 4) (kC (kA 5) kN)))))))) (kC (aD.var 3 56 (kC kJ (kC kJ (kC kJ (kC kJ (kC kJ (kC (kG gL) (kC (kA 13) kN)))))))) (kC (kR 4 105 gL) (kC (kR 5 61 eH) (kC (kR 13 61 eH) kN)))))))) (fun ((_,_,_,_,z0,_),z1,z2,(z3,z4,z5,z6,z7,_),(z8,z9,z10,z11,z12,z13,_),z14,z15,z16,_)=>(z0,z1,z2,(cH.mk z3 z4 z5 z6 z7 z14 z15),(cH.mk z8 z9 z10 z11 z12 z13 z16))) (fun (x:Int×Act×aw×cH×cH)=>(((),((),((),((),(x.1,()))))),(x.2.1,(x.2.2.1,((x.2.2.2.1.kind,(x.2.2.2.1.device,(x.2.2.2.1.aA,(x.2.2.2.1.aO,(x.2.2.2.1.n,((),((),()))))))),((x.2.2.2.2.kind,(x.2.2.2.2.device,(x.2.2.2.2.aA,(x.2.2.2.2.aO,(x.2.2.2.2.n,(x.2.2.2.2.cj,((),()))))))),(x.2.2.2.1.cj,(x.2.2.2.1.ops,(x.2.2.2.2.ops,()))))))))) (fun _=>rfl)
def J2:aM TL:=aM.one aBa.dec (fun p=>mA p.1 p.2.1 p.2.2.1 p.2.2.2.1 p.2.2.2.2.1 p.2.2.2.2.2.1 p.2.2.2.2.2.2) (.exit 0) ZS.enc
theorem aBg:bM PR (bm J2) Tp LV (bV (bC yP.body) 12):=lA (cs:=[(55,Jy),(16,uy),(56,Iq)]) (ss:=[]) (E:=aX tab sl sh [] [(55,.keep),(16,.pure),(56,.keep)]) (an:=yP.an) (aY base aN (aC (oD aB9 rfl) (aC (oD B5 rfl) (aC (oD ZT rfl) aN)))) AS (by kernel_rfl) (sB rfl EY.keys (by kernel_rfl)) rfl (fun x y h=>⟨_,h⟩) (fun _=>rfl) fun _=>by kernel_rfl
def pZ (ax1:Act)(d1:aw):Option cH :=
 ob (within ax1.device 3) fun r0 =>
 ob (within ax1.kind 7) fun r1 =>
 cond (decide (0≤r0) && decide (r0 < 6))
 (cond (decide (0≤r0) && decide (r0 < 6))
 (ob (within ax1.n 12) fun r2 =>
 ob (within ax1.n 30) fun r3 =>
 cond ((ax1.kind.tmod 3) == 0)
 (cond ((ax1.n.tmod 13) == 0)
 (ob (within ax1.kind 3) fun r4 =>
 ob (kw ax1.cj) fun r5 =>
 ob (kh d1 r0 (aF ((aF ((cond (decide (r0=0)) d1.dev.a0.aA (cond (decide (r0=1)) d1.dev.a1.aA (cond (decide (r0=2)) d1.dev.a2.aA (cond (decide (r0=3)) d1.dev.a3.aA (cond (decide (r0=4)) d1.dev.a4.aA d1.dev.a5.aA)))))+r4)) - 1))) fun r6 =>
 ob (mA r0 r6 0 ax1 d1 (cH.mk 0 0 0 0 0 [] []) (cH.mk 3 r0 (aF ((aF ((cond (decide (r0=0)) d1.dev.a0.aA (cond (decide (r0=1)) d1.dev.a1.aA (cond (decide (r0=2)) d1.dev.a2.aA (cond (decide (r0=3)) d1.dev.a3.aA (cond (decide (r0=4)) d1.dev.a4.aA d1.dev.a5.aA)))))+r4)) - 1)) (aF ((aF ((cond (decide (r0=0)) d1.dev.a0.aO (cond (decide (r0=1)) d1.dev.a1.aO (cond (decide (r0=2)) d1.dev.a2.aO (cond (decide (r0=3)) d1.dev.a3.aO (cond (decide (r0=4)) d1.dev.a4.aO d1.dev.a5.aO)))))+1)) - (aF (r2.tdiv 11)))) (aF (1+r3)) r5 [])) fun y7 =>
 cond (y7.2.2.2.2.kind == 4)
 (ob (within y7.2.1.n 8) fun r8 =>
 cond (y7.2.2.2.2.kind == 7)
 (ob (within y7.2.1.n 20) fun r9 =>
 some (cH.mk y7.2.2.2.2.kind y7.2.2.2.2.device y7.2.2.2.2.aA y7.2.2.2.2.aO (aF (y7.2.2.1.now+r9)) y7.2.2.2.2.cj y7.2.2.2.2.ops))
 (some (cH.mk y7.2.2.2.2.kind y7.2.2.2.2.device y7.2.2.2.2.aA y7.2.2.2.2.aO (aF (y7.1+(aF (r8.tdiv 7)))) y7.2.2.2.2.cj y7.2.2.2.2.ops)))
 (cond (y7.2.2.2.2.kind == 7)
 (ob (within y7.2.1.n 20) fun r10 =>
 some (cH.mk y7.2.2.2.2.kind y7.2.2.2.2.device y7.2.2.2.2.aA y7.2.2.2.2.aO (aF (y7.2.2.1.now+r10)) y7.2.2.2.2.cj y7.2.2.2.2.ops))
 (some y7.2.2.2.2)))
 (ob (kw ax1.cj) fun r11 =>
 ob (kh d1 r0 (cond (decide (r0=0)) d1.dev.a0.aA (cond (decide (r0=1)) d1.dev.a1.aA (cond (decide (r0=2)) d1.dev.a2.aA (cond (decide (r0=3)) d1.dev.a3.aA (cond (decide (r0=4)) d1.dev.a4.aA d1.dev.a5.aA)))))) fun r12 =>
 ob (mA r0 r12 0 ax1 d1 (cH.mk 0 0 0 0 0 [] []) (cH.mk 3 r0 (cond (decide (r0=0)) d1.dev.a0.aA (cond (decide (r0=1)) d1.dev.a1.aA (cond (decide (r0=2)) d1.dev.a2.aA (cond (decide (r0=3)) d1.dev.a3.aA (cond (decide (r0=4)) d1.dev.a4.aA d1.dev.a5.aA))))) (aF ((aF ((cond (decide (r0=0)) d1.dev.a0.aO (cond (decide (r0=1)) d1.dev.a1.aO (cond (decide (r0=2)) d1.dev.a2.aO (cond (decide (r0=3)) d1.dev.a3.aO (cond (decide (r0=4)) d1.dev.a4.aO d1.dev.a5.aO)))))+1)) - (aF (r2.tdiv 11)))) (aF (1+r3)) r11 [])) fun y13 =>
 cond (y13.2.2.2.2.kind == 4)
 (ob (within y13.2.1.n 8) fun r14 =>
 cond (y13.2.2.2.2.kind == 7)
 (ob (within y13.2.1.n 20) fun r15 =>
 some (cH.mk y13.2.2.2.2.kind y13.2.2.2.2.device y13.2.2.2.2.aA y13.2.2.2.2.aO (aF (y13.2.2.1.now+r15)) y13.2.2.2.2.cj y13.2.2.2.2.ops))
 (some (cH.mk y13.2.2.2.2.kind y13.2.2.2.2.device y13.2.2.2.2.aA y13.2.2.2.2.aO (aF (y13.1+(aF (r14.tdiv 7)))) y13.2.2.2.2.cj y13.2.2.2.2.ops)))
 (cond (y13.2.2.2.2.kind == 7)
 (ob (within y13.2.1.n 20) fun r16 =>
 some (cH.mk y13.2.2.2.2.kind y13.2.2.2.2.device y13.2.2.2.2.aA y13.2.2.2.2.aO (aF (y13.2.2.1.now+r16)) y13.2.2.2.2.cj y13.2.2.2.2.ops))
 (some y13.2.2.2.2))))
 (cond ((ax1.n.tmod 13) == 0)
 (ob (within ax1.kind 3) fun r17 =>
 cond (cond ((aF (1+r1)) == 6) (decide ((ax1.n.tmod 3) > 0)) false)
 (ob (kw ax1.cj) fun r18 =>
 ob (kh d1 r0 (aF ((aF ((cond (decide (r0=0)) d1.dev.a0.aA (cond (decide (r0=1)) d1.dev.a1.aA (cond (decide (r0=2)) d1.dev.a2.aA (cond (decide (r0=3)) d1.dev.a3.aA (cond (decide (r0=4)) d1.dev.a4.aA d1.dev.a5.aA)))))+r17)) - 1))) fun r19 =>
 ob (mA r0 r19 0 ax1 d1 (cH.mk 0 0 0 0 0 [] []) (cH.mk 2 r0 (aF ((aF ((cond (decide (r0=0)) d1.dev.a0.aA (cond (decide (r0=1)) d1.dev.a1.aA (cond (decide (r0=2)) d1.dev.a2.aA (cond (decide (r0=3)) d1.dev.a3.aA (cond (decide (r0=4)) d1.dev.a4.aA d1.dev.a5.aA)))))+r17)) - 1)) (aF ((aF ((cond (decide (r0=0)) d1.dev.a0.aO (cond (decide (r0=1)) d1.dev.a1.aO (cond (decide (r0=2)) d1.dev.a2.aO (cond (decide (r0=3)) d1.dev.a3.aO (cond (decide (r0=4)) d1.dev.a4.aO d1.dev.a5.aO)))))+1)) - (aF (r2.tdiv 11)))) (aF (1+r3)) r18 [])) fun y20 =>
 cond (y20.2.2.2.2.kind == 4)
 (ob (within y20.2.1.n 8) fun r21 =>
 cond (y20.2.2.2.2.kind == 7)
 (ob (within y20.2.1.n 20) fun r22 =>
 some (cH.mk y20.2.2.2.2.kind y20.2.2.2.2.device y20.2.2.2.2.aA y20.2.2.2.2.aO (aF (y20.2.2.1.now+r22)) y20.2.2.2.2.cj y20.2.2.2.2.ops))
 (some (cH.mk y20.2.2.2.2.kind y20.2.2.2.2.device y20.2.2.2.2.aA y20.2.2.2.2.aO (aF (y20.1+(aF (r21.tdiv 7)))) y20.2.2.2.2.cj y20.2.2.2.2.ops)))
 (cond (y20.2.2.2.2.kind == 7)
 (ob (within y20.2.1.n 20) fun r23 =>
 some (cH.mk y20.2.2.2.2.kind y20.2.2.2.2.device y20.2.2.2.2.aA y20.2.2.2.2.aO (aF (y20.2.2.1.now+r23)) y20.2.2.2.2.cj y20.2.2.2.2.ops))
 (some y20.2.2.2.2)))
 (ob (kw ax1.cj) fun r24 =>
 ob (kh d1 r0 (aF ((aF ((cond (decide (r0=0)) d1.dev.a0.aA (cond (decide (r0=1)) d1.dev.a1.aA (cond (decide (r0=2)) d1.dev.a2.aA (cond (decide (r0=3)) d1.dev.a3.aA (cond (decide (r0=4)) d1.dev.a4.aA d1.dev.a5.aA)))))+r17)) - 1))) fun r25 =>
 ob (mA r0 r25 0 ax1 d1 (cH.mk 0 0 0 0 0 [] []) (cH.mk (aF (1+r1)) r0 (aF ((aF ((cond (decide (r0=0)) d1.dev.a0.aA (cond (decide (r0=1)) d1.dev.a1.aA (cond (decide (r0=2)) d1.dev.a2.aA (cond (decide (r0=3)) d1.dev.a3.aA (cond (decide (r0=4)) d1.dev.a4.aA d1.dev.a5.aA)))))+r17)) - 1)) (aF ((aF ((cond (decide (r0=0)) d1.dev.a0.aO (cond (decide (r0=1)) d1.dev.a1.aO (cond (decide (r0=2)) d1.dev.a2.aO (cond (decide (r0=3)) d1.dev.a3.aO (cond (decide (r0=4)) d1.dev.a4.aO d1.dev.a5.aO)))))+1)) - (aF (r2.tdiv 11)))) (aF (1+r3)) r24 [])) fun y26 =>
 cond (y26.2.2.2.2.kind == 4)
 (ob (within y26.2.1.n 8) fun r27 =>
 cond (y26.2.2.2.2.kind == 7)
 (ob (within y26.2.1.n 20) fun r28 =>
 some (cH.mk y26.2.2.2.2.kind y26.2.2.2.2.device y26.2.2.2.2.aA y26.2.2.2.2.aO (aF (y26.2.2.1.now+r28)) y26.2.2.2.2.cj y26.2.2.2.2.ops))
 (some (cH.mk y26.2.2.2.2.kind y26.2.2.2.2.device y26.2.2.2.2.aA y26.2.2.2.2.aO (aF (y26.1+(aF (r27.tdiv 7)))) y26.2.2.2.2.cj y26.2.2.2.2.ops)))
 (cond (y26.2.2.2.2.kind == 7)
 (ob (within y26.2.1.n 20) fun r29 =>
 some (cH.mk y26.2.2.2.2.kind y26.2.2.2.2.device y26.2.2.2.2.aA y26.2.2.2.2.aO (aF (y26.2.2.1.now+r29)) y26.2.2.2.2.cj y26.2.2.2.2.ops))
 (some y26.2.2.2.2))))
 (cond (cond ((aF (1+r1)) == 6) (decide ((ax1.n.tmod 3) > 0)) false)
 (ob (kw ax1.cj) fun r30 =>
 ob (kh d1 r0 (cond (decide (r0=0)) d1.dev.a0.aA (cond (decide (r0=1)) d1.dev.a1.aA (cond (decide (r0=2)) d1.dev.a2.aA (cond (decide (r0=3)) d1.dev.a3.aA (cond (decide (r0=4)) d1.dev.a4.aA d1.dev.a5.aA)))))) fun r31 =>
 ob (mA r0 r31 0 ax1 d1 (cH.mk 0 0 0 0 0 [] []) (cH.mk 2 r0 (cond (decide (r0=0)) d1.dev.a0.aA (cond (decide (r0=1)) d1.dev.a1.aA (cond (decide (r0=2)) d1.dev.a2.aA (cond (decide (r0=3)) d1.dev.a3.aA (cond (decide (r0=4)) d1.dev.a4.aA d1.dev.a5.aA))))) (aF ((aF ((cond (decide (r0=0)) d1.dev.a0.aO (cond (decide (r0=1)) d1.dev.a1.aO (cond (decide (r0=2)) d1.dev.a2.aO (cond (decide (r0=3)) d1.dev.a3.aO (cond (decide (r0=4)) d1.dev.a4.aO d1.dev.a5.aO)))))+1)) - (aF (r2.tdiv 11)))) (aF (1+r3)) r30 [])) fun y32 =>
 cond (y32.2.2.2.2.kind == 4)
 (ob (within y32.2.1.n 8) fun r33 =>
 cond (y32.2.2.2.2.kind == 7)
 (ob (within y32.2.1.n 20) fun r34 =>
 some (cH.mk y32.2.2.2.2.kind y32.2.2.2.2.device y32.2.2.2.2.aA y32.2.2.2.2.aO (aF (y32.2.2.1.now+r34)) y32.2.2.2.2.cj y32.2.2.2.2.ops))
 (some (cH.mk y32.2.2.2.2.kind y32.2.2.2.2.device y32.2.2.2.2.aA y32.2.2.2.2.aO (aF (y32.1+(aF (r33.tdiv 7)))) y32.2.2.2.2.cj y32.2.2.2.2.ops)))
 (cond (y32.2.2.2.2.kind == 7)
 (ob (within y32.2.1.n 20) fun r35 =>
 some (cH.mk y32.2.2.2.2.kind y32.2.2.2.2.device y32.2.2.2.2.aA y32.2.2.2.2.aO (aF (y32.2.2.1.now+r35)) y32.2.2.2.2.cj y32.2.2.2.2.ops))
 (some y32.2.2.2.2)))
 (ob (kw ax1.cj) fun r36 =>
 ob (kh d1 r0 (cond (decide (r0=0)) d1.dev.a0.aA (cond (decide (r0=1)) d1.dev.a1.aA (cond (decide (r0=2)) d1.dev.a2.aA (cond (decide (r0=3)) d1.dev.a3.aA (cond (decide (r0=4)) d1.dev.a4.aA d1.dev.a5.aA)))))) fun r37 =>
 ob (mA r0 r37 0 ax1 d1 (cH.mk 0 0 0 0 0 [] []) (cH.mk (aF (1+r1)) r0 (cond (decide (r0=0)) d1.dev.a0.aA (cond (decide (r0=1)) d1.dev.a1.aA (cond (decide (r0=2)) d1.dev.a2.aA (cond (decide (r0=3)) d1.dev.a3.aA (cond (decide (r0=4)) d1.dev.a4.aA d1.dev.a5.aA))))) (aF ((aF ((cond (decide (r0=0)) d1.dev.a0.aO (cond (decide (r0=1)) d1.dev.a1.aO (cond (decide (r0=2)) d1.dev.a2.aO (cond (decide (r0=3)) d1.dev.a3.aO (cond (decide (r0=4)) d1.dev.a4.aO d1.dev.a5.aO)))))+1)) - (aF (r2.tdiv 11)))) (aF (1+r3)) r36 [])) fun y38 =>
 cond (y38.2.2.2.2.kind == 4)
 (ob (within y38.2.1.n 8) fun r39 =>
 cond (y38.2.2.2.2.kind == 7)
 (ob (within y38.2.1.n 20) fun r40 =>
 some (cH.mk y38.2.2.2.2.kind y38.2.2.2.2.device y38.2.2.2.2.aA y38.2.2.2.2.aO (aF (y38.2.2.1.now+r40)) y38.2.2.2.2.cj y38.2.2.2.2.ops))
 (some (cH.mk y38.2.2.2.2.kind y38.2.2.2.2.device y38.2.2.2.2.aA y38.2.2.2.2.aO (aF (y38.1+(aF (r39.tdiv 7)))) y38.2.2.2.2.cj y38.2.2.2.2.ops)))
 (cond (y38.2.2.2.2.kind == 7)
 (ob (within y38.2.1.n 20) fun r41 =>
 some (cH.mk y38.2.2.2.2.kind y38.2.2.2.2.device y38.2.2.2.2.aA y38.2.2.2.2.aO (aF (y38.2.2.1.now+r41)) y38.2.2.2.2.cj y38.2.2.2.2.ops))
 (some y38.2.2.2.2))))))
 none)
 none
def W7 (p:Act×aw):Option cH:=pZ p.1 p.2
def GB:aQ TL:=aQ.of (DA.cons (DT.agg aFk) (DA.one (DT.agg kz))) W7 (DA.one (DT.agg P7))
theorem Wa:be PR 28 .keep GB:=bx (cs:=[(16,uy),(53,Hh),(54,Em)]) (ss:=[(128012,J2)]) (E:=aX tab sl sh [(28,yP)] [(16,.pure),(53,.keep),(54,.pure)]) (fun _=>by kernel_rfl) (aY base (aC (EY.ak rfl (aC (lC aBg rfl) aN)) aN) (aC (oD B5 rfl) (aC (oD Yf rfl) (aC (oD Ut rfl) aN)))) (.inl rfl) EY.enters
abbrev rQ:=(List Range)×Bool×Int
def Hs (l1:List Range)(b1:Bool)(i1:Int):Option ((rQ)⊕(((Bool)⊕(Bool)))) :=
 cond (decide (i1 < (l1.length:Int)))
 (cond (decide (0≤i1))
 (ob (l1[i1.toNat]?) fun e0 =>
 cond (decide (e0.from_ < 0))
 (some (.inr (.inr false)))
 (cond (decide (0≤i1))
 (ob (l1[i1.toNat]?) fun e1 =>
 cond (decide (0≤i1))
 (ob (l1[i1.toNat]?) fun e2 =>
 cond (decide (e1.from_≥e2.bU))
 (some (.inr (.inr false)))
 (cond (decide (0≤i1))
 (ob (l1[i1.toNat]?) fun e3 =>
 cond (decide (e3.bU > 1073741824))
 (some (.inr (.inr false)))
 (cond (decide (i1 > 0))
 (cond (decide (0≤(aF (i1 - 1))))
 (ob (l1[((aF (i1 - 1))).toNat]?) fun e4 =>
 cond (decide (0≤i1))
 (ob (l1[i1.toNat]?) fun e5 =>
 cond (decide (e4.bU≥e5.from_))
 (some (.inr (.inr false)))
 (some (.inl (l1,b1,(aF (i1+1))))))
 none)
 none)
 (some (.inl (l1,b1,(aF (i1+1)))))))
 none))
 none)
 none))
 none)
 (some (.inr (.inl b1)))
def BZ (p:rQ):Option ((rQ)⊕(((Bool)⊕(Bool)))):=Hs p.1 p.2.1 p.2.2
def QP (l1:List Range)(b1:Bool)(i1:Int):Option (((Bool)⊕(Bool))):=bZ BZ (((l1.length:Int) - i1).toNat+2) (l1,b1,i1)
def aD4:kT (rQ):=kO (kS 0 (kC (kF aj) (kC kB (kC kI kN))) kN) (fun p=>(p.1.1,p.1.2.1,p.1.2.2.1)) (fun (x:rQ)=>((x.1,(x.2.1,(x.2.2,()))),())) (fun _=>rfl)
def Li:aM TL:=aM.two aD4.dec (fun p=>QP p.1 p.2.1 p.2.2) (.exit 0) .ret dZ.enc dZ.enc
theorem aCi:bM PR (bm Li) TF Nn (bV (bC xu.body) 2):=lB (cs:=[]) (ss:=[]) (E:=aX tab sl sh [] []) (an:=xu.an) (aY base aN aN) BZ (by kernel_rfl) (sB rfl EJ.keys (by kernel_rfl)) rfl rfl (fun x y h=>⟨_,h⟩) (fun _=>rfl) fun _=>by kernel_rfl
def pk (l1:List Range):Option Bool :=
 ob (QP l1 false 0) fun y0 =>
 two y0 (fun _ =>
 some true) (fun b2 =>
 some b2)
def YK (p:(List Range)):Option Bool:=pk p
def zk:aQ TL:=aQ.of (DA.one (DT.one ev)) YK (DA.one dB)
theorem Gw:be PR 46 .pure zk:=bx (cs:=[]) (ss:=[(146002,Li)]) (E:=aX tab sl sh [(46,xu)] []) (fun _=>by kernel_rfl) (aY base (aC (EJ.ak rfl (aC (lC aCi rfl) aN)) aN) aN) (.inr rfl) EJ.enters
def Ij (l1:List Int)(b1:Bool)(i1:Int):Option (((List Int)×Bool×Int)⊕(((Bool)⊕(Bool)))) :=
 cond (decide (i1 < (l1.length:Int)))
 (cond (decide (0≤(aF (i1 - 1))))
 (ob (l1[((aF (i1 - 1))).toNat]?) fun e0 =>
 cond (decide (0≤i1))
 (ob (l1[i1.toNat]?) fun e1 =>
 cond (decide (e0≥e1))
 (some (.inr (.inr false)))
 (some (.inl (l1,b1,(aF (i1+1))))))
 none)
 none)
 (some (.inr (.inl b1)))
def BR (p:(List Int)×Bool×Int):Option (((List Int)×Bool×Int)⊕(((Bool)⊕(Bool)))):=Ij p.1 p.2.1 p.2.2
def QK (l1:List Int)(b1:Bool)(i1:Int):Option (((Bool)⊕(Bool))):=bZ BR (((l1.length:Int) - i1).toNat+2) (l1,b1,i1)
def aEL:kT ((List Int)×Bool×Int):=kO (kS 0 (kC (kF bA) (kC kB (kC kI kN))) kN) (fun p=>(p.1.1,p.1.2.1,p.1.2.2.1)) (fun (x:(List Int)×Bool×Int)=>((x.1,(x.2.1,(x.2.2,()))),())) (fun _=>rfl)
def NN:aM TL:=aM.two aEL.dec (fun p=>QK p.1 p.2.1 p.2.2) (.exit 0) .ret dZ.enc dZ.enc
theorem aCI:bM PR (bm NN) UO Nj (bV (bC yJ.body) 2):=lB (cs:=[]) (ss:=[]) (E:=aX tab sl sh [] []) (an:=yJ.an) (aY base aN aN) BR (by kernel_rfl) (sB rfl EU.keys (by kernel_rfl)) rfl rfl (fun x y h=>⟨_,h⟩) (fun _=>rfl) fun _=>by kernel_rfl
def pI (l1:List Int):Option Bool :=
 ob (QK l1 false 1) fun y0 =>
 two y0 (fun _ =>
 some true) (fun b2 =>
 some b2)
def Va (p:(List Int)):Option Bool:=pI p
def yi:aQ TL:=aQ.of (DA.one (DT.one jR)) Va (DA.one dB)
theorem FJ:be PR 47 .pure yi:=bx (cs:=[]) (ss:=[(147002,NN)]) (E:=aX tab sl sh [(47,yJ)] []) (fun _=>by kernel_rfl) (aY base (aC (EU.ak rfl (aC (lC aCI rfl) aN)) aN) aN) (.inr rfl) EU.enters
abbrev fb:=Bool×(List (List Range))×Int×aG
def II (b1:Bool)(l1:List (List Range))(i1:Int)(bx1:aG):Option ((fb)⊕(Bool×(List (List Range))×aG)) :=
 cond (decide (i1 < (bx1.aK.length:Int)))
 (cond (decide (0≤i1))
 (ob (bx1.aK[i1.toNat]?) fun e0 =>
 cond (fits ((l1++[e0.ids]).length))
 (some (.inl (b1,(l1++[e0.ids]),(aF (i1+1)),bx1)))
 none)
 none)
 (some (.inr (b1,l1,bx1)))
def Aw (p:fb):Option ((fb)⊕(Bool×(List (List Range))×aG)):=II p.1 p.2.1 p.2.2.1 p.2.2.2
def Da (b1:Bool)(l1:List (List Range))(i1:Int)(bx1:aG):Option (Bool×(List (List Range))×aG):=bZ Aw (1099511627776) (b1,l1,i1,bx1)
def LK:kT (fb):=kO (kS 2 (kC (kP 0 0) (kC kB (kC (aD.xs (aD.sc (kA 1))) (kC kI kN)))) (kC (aD.var 0 29 fX) (kC (kR 1 25 p8) kN))) (fun p=>(p.1.2.1,p.2.2.1,p.1.2.2.2.1,p.2.1)) (fun (x:fb)=>(((),(x.1,((),(x.2.2.1,())))),(x.2.2.2,(x.2.1,())))) (fun _=>rfl)
def aCF:kT (Bool×(List (List Range))×aG):=kO (kS 4 (kC (kP 0 0) (kC kB (kC (aD.xs (aD.sc (kA 3))) kN))) (kC (aD.var 0 29 fX) (kC (kR 3 25 p8) kN))) (fun p=>(p.1.2.1,p.2.2.1,p.2.1)) (fun (x:Bool×(List (List Range))×aG)=>(((),(x.1,((),()))),(x.2.2,(x.2.1,())))) (fun _=>rfl)
def NO:aM TL:=aM.one LK.dec (fun p=>Da p.1 p.2.1 p.2.2.1 p.2.2.2) (.exit 0) aCF.enc
theorem aCb:bM PR (bm NO) rp OL (bV (bC kW.body) 4):=lA (cs:=[]) (ss:=[]) (E:=aX tab sl sh [] []) (an:=kW.an) (aY base aN aN) Aw (by kernel_rfl) (ae.du rfl om.keys (aC (.inl (by kernel_rfl)) (aC (.inl (by kernel_rfl)) (aC (.inl (by kernel_rfl)) (aC (.inl (by kernel_rfl)) aN))))) rfl (fun x y h=>⟨_,h⟩) (fun _=>rfl) fun _=>by kernel_rfl
def Hz (l1:List Range)(l2:List Range)(b1:Bool)(i1:Int)(i2:Int):Option ((mJ)⊕((((List Range)×(List Range)×Bool×Int)⊕((List Range)×(List Range)×Bool×Int)))) :=
 cond (decide (i2 < (l2.length:Int)))
 (cond (decide (0≤i1))
 (ob (l1[i1.toNat]?) fun e0 =>
 cond (decide (0≤i2))
 (ob (l2[i2.toNat]?) fun e1 =>
 cond (decide (e0.from_ < e1.bU))
 (cond (decide (0≤i2))
 (ob (l2[i2.toNat]?) fun e2 =>
 cond (decide (0≤i1))
 (ob (l1[i1.toNat]?) fun e3 =>
 cond (decide (e2.from_ < e3.bU))
 (some (.inr (.inr (l1,l2,true,i1))))
 (some (.inl (l1,l2,b1,i1,(aF (i2+1))))))
 none)
 none)
 (some (.inl (l1,l2,b1,i1,(aF (i2+1))))))
 none)
 none)
 (some (.inr (.inl (l1,l2,b1,i1))))
def BQ (p:mJ):Option ((mJ)⊕((((List Range)×(List Range)×Bool×Int)⊕((List Range)×(List Range)×Bool×Int)))):=Hz p.1 p.2.1 p.2.2.1 p.2.2.2.1 p.2.2.2.2
def DN (l1:List Range)(l2:List Range)(b1:Bool)(i1:Int)(i2:Int):Option ((((List Range)×(List Range)×Bool×Int)⊕((List Range)×(List Range)×Bool×Int))):=bZ BQ (((l2.length:Int) - i2).toNat+2) (l1,l2,b1,i1,i2)
def Bb:kT ((List Range)×(List Range)×Bool×Int):=kO (kS 0 (kC (kF aj) (kC (kF aj) (kC kB (kC kI kN)))) kN) (fun ((z0,z1,z2,z3,_),_)=>(z0,z1,z2,z3)) (fun (x:(List Range)×(List Range)×Bool×Int)=>((x.1,(x.2.1,(x.2.2.1,(x.2.2.2,())))),())) (fun _=>rfl)
def Bl:aM TL:=aM.two LB.dec (fun p=>DN p.1 p.2.1 p.2.2.1 p.2.2.2.1 p.2.2.2.2) (.exit 2) .ret Bb.enc Bb.enc
theorem NL:bM PR (bm Bl) EO O6 (bV (bC ol.body) 5):=lB (cs:=[]) (ss:=[]) (E:=aX tab sl sh [] []) (an:=ol.an) (aY base aN aN) BQ (by kernel_rfl) (ae.du rfl xw.keys (aC (.inl (by kernel_rfl)) (aC (.inl (by kernel_rfl)) aN))) rfl rfl (fun x y h=>⟨_,h⟩) (fun _=>rfl) fun _=>by kernel_rfl
def JF (l1:List Range)(l2:List Range)(b1:Bool)(i1:Int):Option (((List Range)×(List Range)×Bool×Int)⊕(((Bool)⊕(Bool)))) :=
 cond (decide (i1 < (l1.length:Int)))
 (ob (DN l1 l2 b1 i1 0) fun y0 =>
 two y0 (fun a1 =>
 some (.inl (a1.1,a1.2.1,a1.2.2.1,(aF (a1.2.2.2+1))))) (fun b2 =>
 some (.inr (.inr b2.2.2.1))))
 (some (.inr (.inl b1)))
def BA (p:(List Range)×(List Range)×Bool×Int):Option (((List Range)×(List Range)×Bool×Int)⊕(((Bool)⊕(Bool)))):=JF p.1 p.2.1 p.2.2.1 p.2.2.2
def Ps (l1:List Range)(l2:List Range)(b1:Bool)(i1:Int):Option (((Bool)⊕(Bool))):=bZ BA (((l1.length:Int) - i1).toNat+2) (l1,l2,b1,i1)
def LG:aM TL:=aM.two Bb.dec (fun p=>Ps p.1 p.2.1 p.2.2.1 p.2.2.2) (.exit 0) .ret dZ.enc dZ.enc
theorem aCK:bM PR (bm LG) EO Nq (bV (bC ol.body) 2):=lB (cs:=[]) (ss:=[(195005,Bl)]) (E:=aX tab sl sh [] []) (an:=ol.an) (aY base aN aN) BA (by kernel_rfl) (ae.du rfl xw.keys (aC (.inl (by kernel_rfl)) (aC (.inr (lC NL rfl)) aN))) rfl rfl (fun x y h=>⟨_,h⟩) (fun _=>rfl) fun _=>by kernel_rfl
def uS (l1:List Range)(l2:List Range):Option Bool :=
 ob (Ps l1 l2 false 0) fun y0 =>
 two y0 (fun _ =>
 some false) (fun b2 =>
 some b2)
def Vi (p:(List Range)×(List Range)):Option Bool:=uS p.1 p.2
def F9:aQ TL:=aQ.of (DA.cons (DT.one ev) (DA.one (DT.one ev))) Vi (DA.one dB)
theorem Vh:be PR 95 .pure F9:=bx (cs:=[]) (ss:=[(195002,LG),(195005,Bl)]) (E:=aX tab sl sh [(95,ol)] []) (fun _=>by kernel_rfl) (aY base (aC (xw.ak rfl (aC (lC aCK rfl) (aC (lC NL rfl) aN))) aN) aN) (.inr rfl) xw.enters
abbrev mP:=Bool×(List (List Range))×Int×Int×aG
def H8 (b1:Bool)(l1:List (List Range))(i1:Int)(i2:Int)(bx1:aG):Option ((mP)⊕(((fb)⊕(fb)))) :=
 cond (decide (i2 < i1))
 (cond (decide (0≤i1))
 (cond (decide (i1 < (l1.length:Int)))
 (ob (l1[i1.toNat]?) fun e0 =>
 cond (decide (0≤i2))
 (cond (decide (i2 < (l1.length:Int)))
 (ob (l1[i2.toNat]?) fun e1 =>
 ob (uS e0 e1) fun r2 =>
 cond (r2)
 (some (.inr (.inr (false,l1,i1,bx1))))
 (some (.inl (b1,l1,i1,(aF (i2+1)),bx1))))
 none)
 none)
 none)
 none)
 (some (.inr (.inl (b1,l1,i1,bx1))))
def Ae (p:mP):Option ((mP)⊕(((fb)⊕(fb)))):=H8 p.1 p.2.1 p.2.2.1 p.2.2.2.1 p.2.2.2.2
def C4 (b1:Bool)(l1:List (List Range))(i1:Int)(i2:Int)(bx1:aG):Option (((fb)⊕(fb))):=bZ Ae ((i1 - i2).toNat+2) (b1,l1,i1,i2,bx1)
def Jg:kT (mP):=kO (kS 2 (kC (kP 0 0) (kC kB (kC (aD.xs (aD.sc (kA 1))) (kC kI (kC kI kN))))) (kC (aD.var 0 29 fX) (kC (kR 1 25 p8) kN))) (fun p=>(p.1.2.1,p.2.2.1,p.1.2.2.2.1,p.1.2.2.2.2.1,p.2.1)) (fun (x:mP)=>(((),(x.1,((),(x.2.2.1,(x.2.2.2.1,()))))),(x.2.2.2.2,(x.2.1,())))) (fun _=>rfl)
def uV:kT (fb):=kO (kS 4 (kC (kP 0 0) (kC kB (kC (aD.xs (aD.sc (kA 1))) (kC kI kN)))) (kC (aD.var 0 29 fX) (kC (kR 1 25 p8) kN))) (fun p=>(p.1.2.1,p.2.2.1,p.1.2.2.2.1,p.2.1)) (fun (x:fb)=>(((),(x.1,((),(x.2.2.1,())))),(x.2.2.2,(x.2.1,())))) (fun _=>rfl)
def BI:aM TL:=aM.two Jg.dec (fun p=>C4 p.1 p.2.1 p.2.2.1 p.2.2.2.1 p.2.2.2.2) (.exit 4) .ret uV.enc uV.enc
theorem J1:bM PR (bm BI) rp L2 (bV (bC kW.body) 11):=lB (cs:=[(95,F9)]) (ss:=[]) (E:=aX tab sl sh [] [(95,.pure)]) (an:=kW.an) (aY base aN (aC (oD Vh rfl) aN)) Ae (by kernel_rfl) (ae.du rfl om.keys (aC (.inl (by kernel_rfl)) (aC (.inl (by kernel_rfl)) (aC (.inl (by kernel_rfl)) (aC (.inl (by kernel_rfl)) aN))))) rfl rfl (fun x y h=>⟨_,h⟩) (fun _=>rfl) fun _=>by kernel_rfl
abbrev sR:=(List Range)×Int×Bool×Int
def Hq (l1:List Range)(i1:Int)(b1:Bool)(i2:Int):Option ((sR)⊕(((Bool)⊕(Bool)))) :=
 cond (decide (i2 < (l1.length:Int)))
 (cond (decide (0≤i2))
 (ob (l1[i2.toNat]?) fun e0 =>
 cond (decide (e0.from_≤i1))
 (cond (decide (0≤i2))
 (ob (l1[i2.toNat]?) fun e1 =>
 cond (decide (i1 < e1.bU))
 (some (.inr (.inr true)))
 (some (.inl (l1,i1,b1,(aF (i2+1))))))
 none)
 (some (.inl (l1,i1,b1,(aF (i2+1))))))
 none)
 (some (.inr (.inl b1)))
def BO (p:sR):Option ((sR)⊕(((Bool)⊕(Bool)))):=Hq p.1 p.2.1 p.2.2.1 p.2.2.2
def Pp (l1:List Range)(i1:Int)(b1:Bool)(i2:Int):Option (((Bool)⊕(Bool))):=bZ BO (((l1.length:Int) - i2).toNat+2) (l1,i1,b1,i2)
def aDx:kT (sR):=kO (kS 0 (kC (kF aj) (kC kI (kC kB (kC kI kN)))) kN) (fun ((z0,z1,z2,z3,_),_)=>(z0,z1,z2,z3)) (fun (x:sR)=>((x.1,(x.2.1,(x.2.2.1,(x.2.2.2,())))),())) (fun _=>rfl)
def NG:aM TL:=aM.two aDx.dec (fun p=>Pp p.1 p.2.1 p.2.2.1 p.2.2.2) (.exit 0) .ret dZ.enc dZ.enc
theorem aCk:bM PR (bm NG) TO Nd (bV (bC yV.body) 2):=lB (cs:=[]) (ss:=[]) (E:=aX tab sl sh [] []) (an:=yV.an) (aY base aN aN) BO (by kernel_rfl) (sB rfl ER.keys (by kernel_rfl)) rfl rfl (fun x y h=>⟨_,h⟩) (fun _=>rfl) fun _=>by kernel_rfl
def py (l1:List Range)(i1:Int):Option Bool :=
 ob (Pp l1 i1 false 0) fun y0 =>
 two y0 (fun _ =>
 some false) (fun b2 =>
 some b2)
def Xd (p:(List Range)×Int):Option Bool:=py p.1 p.2
def zi:aQ TL:=aQ.of (DA.cons (DT.one ev) (DA.one dI)) Xd (DA.one dB)
theorem HW:be PR 94 .pure zi:=bx (cs:=[]) (ss:=[(194002,NG)]) (E:=aX tab sl sh [(94,yV)] []) (fun _=>by kernel_rfl) (aY base (aC (ER.ak rfl (aC (lC aCk rfl) aN)) aN) aN) (.inr rfl) ER.enters
def Gy (b1:Bool)(l1:List (List Range))(i1:Int)(i2:Int)(bx1:aG):Option ((mP)⊕(((fb)⊕(fb)))) :=
 cond (decide (i2 < (bx1.bB.length:Int)))
 (cond (decide (0≤i1))
 (cond (decide (i1 < (l1.length:Int)))
 (ob (l1[i1.toNat]?) fun e0 =>
 cond (decide (0≤i2))
 (ob (bx1.bB[i2.toNat]?) fun e1 =>
 ob (py e0 e1) fun r2 =>
 cond (r2)
 (some (.inr (.inr (false,l1,i1,bx1))))
 (some (.inl (b1,l1,i1,(aF (i2+1)),bx1))))
 none)
 none)
 none)
 (some (.inr (.inl (b1,l1,i1,bx1))))
def AX (p:mP):Option ((mP)⊕(((fb)⊕(fb)))):=Gy p.1 p.2.1 p.2.2.1 p.2.2.2.1 p.2.2.2.2
def CZ (b1:Bool)(l1:List (List Range))(i1:Int)(i2:Int)(bx1:aG):Option (((fb)⊕(fb))):=bZ AX (1099511627776) (b1,l1,i1,i2,bx1)
def Av:aM TL:=aM.two Jg.dec (fun p=>CZ p.1 p.2.1 p.2.2.1 p.2.2.2.1 p.2.2.2.2) (.exit 6) .ret uV.enc uV.enc
theorem KZ:bM PR (bm Av) rp NU (bV (bC kW.body) 16):=lB (cs:=[(94,zi)]) (ss:=[]) (E:=aX tab sl sh [] [(94,.pure)]) (an:=kW.an) (aY base aN (aC (oD HW rfl) aN)) AX (by kernel_rfl) (ae.du rfl om.keys (aC (.inl (by kernel_rfl)) (aC (.inl (by kernel_rfl)) (aC (.inl (by kernel_rfl)) (aC (.inl (by kernel_rfl)) aN))))) rfl rfl (fun x y h=>⟨_,h⟩) (fun _=>rfl) fun _=>by kernel_rfl
def JC (b1:Bool)(l1:List (List Range))(i1:Int)(bx1:aG):Option ((fb)⊕(((Bool×aG×(List (List Range)))⊕(Bool×aG×(List (List Range)))))) :=
 cond (decide (i1 < (l1.length:Int)))
 (ob (C4 b1 l1 i1 0 bx1) fun y0 =>
 two y0 (fun a1 =>
 ob (CZ a1.1 a1.2.1 a1.2.2.1 0 a1.2.2.2) fun y3 =>
 two y3 (fun a4 =>
 some (.inl (a4.1,a4.2.1,(aF (a4.2.2.1+1)),a4.2.2.2))) (fun b5 =>
 some (.inr (.inr (b5.1,b5.2.2.2,b5.2.1))))) (fun b2 =>
 some (.inr (.inr (b2.1,b2.2.2.2,b2.2.1)))))
 (some (.inr (.inl (b1,bx1,l1))))
def Ax (p:fb):Option ((fb)⊕(((Bool×aG×(List (List Range)))⊕(Bool×aG×(List (List Range)))))):=JC p.1 p.2.1 p.2.2.1 p.2.2.2
def Qm (b1:Bool)(l1:List (List Range))(i1:Int)(bx1:aG):Option (((Bool×aG×(List (List Range)))⊕(Bool×aG×(List (List Range))))):=bZ Ax (((l1.length:Int) - i1).toNat+2) (b1,l1,i1,bx1)
def KE:kT (Bool×aG×(List (List Range))):=kO (kS 4 (kC kB kN) (kC (aD.var 0 29 fX) (kC (kR 1 25 p8) kN))) (fun p=>(p.1.1,p.2.1,p.2.2.1)) (fun (x:Bool×aG×(List (List Range)))=>((x.1,()),(x.2.1,(x.2.2,())))) (fun _=>rfl)
def Lv:aM TL:=aM.two LK.dec (fun p=>Qm p.1 p.2.1 p.2.2.1 p.2.2.2) (.exit 2) .ret KE.enc KE.enc
theorem aDv:bM PR (bm Lv) rp N8 (bV (bC kW.body) 8):=lB (cs:=[]) (ss:=[(148011,BI),(148016,Av)]) (E:=aX tab sl sh [] []) (an:=kW.an) (aY base aN aN) Ax (by kernel_rfl) (ae.du rfl om.keys (aC (.inl (by kernel_rfl)) (aC (.inl (by kernel_rfl)) (aC (.inr (lC J1 rfl)) (aC (.inr (lC KZ rfl)) aN))))) rfl rfl (fun x y h=>⟨_,h⟩) (fun _=>rfl) fun _=>by kernel_rfl
def tk (bx1:aG):Option Bool :=
 cond (fits (([]++[bx1.free]).length))
 (ob (Da false ([]++[bx1.free]) 0 bx1) fun y0 =>
 ob (Qm y0.1 y0.2.1 0 y0.2.2) fun y1 =>
 two y1 (fun _ =>
 some true) (fun b3 =>
 some b3.1))
 none
def VP (p:aG):Option Bool:=tk p
def FB:aQ TL:=aQ.of (DA.one (DT.agg fq)) VP (DA.one dB)
theorem VQ:be PR 48 .pure FB:=bx (cs:=[]) (ss:=[(148004,NO),(148008,Lv),(148011,BI),(148016,Av)]) (E:=aX tab sl sh [(48,kW)] []) (fun _=>by kernel_rfl) (aY base (aC (om.ak rfl (aC (lC aCb rfl) (aC (lC aDv rfl) (aC (lC J1 rfl) (aC (lC KZ rfl) aN))))) aN) aN) (.inr rfl) om.enters
def JD (b1:Bool)(i1:Int)(bx1:aG):Option ((Bool×Int×aG)⊕(((Bool×aG)⊕(Bool×aG)))) :=
 cond (decide (i1 < (bx1.af.length:Int)))
 (cond (decide (0≤i1))
 (ob (bx1.af[i1.toNat]?) fun e0 =>
 ob (tP e0) fun r1 =>
 cond (!r1)
 (some (.inr (.inr (false,bx1))))
 (ob (kj bx1 e0.key) fun r2 =>
 cond (cond (r2 != i1) true (cond (decide (e0.bj < 0)) true (cond (decide (e0.cE < 0)) true (cond (decide (e0.bj > 2199023255552)) true (decide (e0.cE > 2199023255552))))))
 (some (.inr (.inr (false,bx1))))
 (some (.inl (b1,(aF (i1+1)),bx1)))))
 none)
 (some (.inr (.inl (b1,bx1))))
def Az (p:Bool×Int×aG):Option ((Bool×Int×aG)⊕(((Bool×aG)⊕(Bool×aG)))):=JD p.1 p.2.1 p.2.2
def Dh (b1:Bool)(i1:Int)(bx1:aG):Option (((Bool×aG)⊕(Bool×aG))):=bZ Az (1099511627776) (b1,i1,bx1)
def CB:kT (Bool×Int×aG):=kO (kS 1 (kC (kP 0 0) (kC kB (kC kI kN))) (kC (aD.var 0 29 fX) kN)) (fun p=>(p.1.2.1,p.1.2.2.1,p.2.1)) (fun (x:Bool×Int×aG)=>(((),(x.1,(x.2.1,()))),(x.2.2,()))) (fun _=>rfl)
def n9:kT (Bool×aG):=kO (kS 2 (kC (kP 0 0) (kC kB kN)) (kC (aD.var 0 29 fX) kN)) (fun p=>(p.1.2.1,p.2.1)) (fun (x:Bool×aG)=>(((),(x.1,())),(x.2,()))) (fun _=>rfl)
def LM:aM TL:=aM.two CB.dec (fun p=>Dh p.1 p.2.1 p.2.2) (.exit 0) .ret n9.enc n9.enc
theorem aDw:bM PR (bm LM) yO OJ (bV (bC mL.body) 2):=lB (cs:=[(43,yc),(44,pC)]) (ss:=[]) (E:=aX tab sl sh [] [(43,.pure),(44,.pure)]) (an:=mL.an) (aY base aN (aC (oD Ek rfl) (aC (oD tL rfl) aN))) Az (by kernel_rfl) (ae.du rfl rj.keys (aC (.inl (by kernel_rfl)) (aC (.inl (by kernel_rfl)) (aC (.inl (by kernel_rfl)) aN)))) rfl rfl (fun x y h=>⟨_,h⟩) (fun _=>rfl) fun _=>by kernel_rfl
abbrev rX:=Bool×Int×Int×aG×aH×Slice
def I1 (b1:Bool)(i1:Int)(i2:Int)(bx1:aG)(lx1:aH)(sx1:Slice):Option ((rX)⊕(((Bool×Int×aG×aH×Slice)⊕(Bool×Int×aG×aH×Slice)))) :=
 cond (decide (i2 < i1))
 (cond (decide (0≤i2))
 (ob (lx1.aW[i2.toNat]?) fun e0 =>
 cond (cA e0.key sx1.key)
 (some (.inr (.inr (false,i1,bx1,lx1,sx1))))
 (some (.inl (b1,i1,(aF (i2+1)),bx1,lx1,sx1))))
 none)
 (some (.inr (.inl (b1,i1,bx1,lx1,sx1))))
def An (p:rX):Option ((rX)⊕(((Bool×Int×aG×aH×Slice)⊕(Bool×Int×aG×aH×Slice)))):=I1 p.1 p.2.1 p.2.2.1 p.2.2.2.1 p.2.2.2.2.1 p.2.2.2.2.2
def Dc (b1:Bool)(i1:Int)(i2:Int)(bx1:aG)(lx1:aH)(sx1:Slice):Option (((Bool×Int×aG×aH×Slice)⊕(Bool×Int×aG×aH×Slice))):=bZ An ((i1 - i2).toNat+2) (b1,i1,i2,bx1,lx1,sx1)
def L0:aD (List (C TL)) Slice:=kO (kC kE (kC kJ (kC kJ (kC kJ (kC kJ kN))))) (fun (z0,z1,z2,z3,z4,_)=>(Slice.mk z0 z1 z2 z3 z4)) (fun (x:Slice)=>(x.key,(x.bj,(x.cE,(x.dy,(x.eO,())))))) (fun _=>rfl)
def aDg:kT (rX):=kO (kS 3 (kC (kP 0 0) (kC (kP 1 0) (kC kB (kC kI (kC (kP 2 0) (kC kI kN)))))) (kC (aD.var 0 29 fX) (kC (aD.var 1 43 ku) (kC (aD.var 2 133 L0) kN)))) (fun ((_,_,z0,z1,_,z2,_),z3,z4,z5,_)=>(z0,z1,z2,z3,z4,z5)) (fun (x:rX)=>(((),((),(x.1,(x.2.1,((),(x.2.2.1,())))))),(x.2.2.2.1,(x.2.2.2.2.1,(x.2.2.2.2.2,()))))) (fun _=>rfl)
def Kw:kT (Bool×Int×aG×aH×Slice):=kO (kS 6 (kC (kP 0 0) (kC (kP 1 0) (kC kB (kC kI kN)))) (kC (aD.var 0 29 fX) (kC (aD.var 1 43 ku) (kC (aD.var 2 133 L0) kN)))) (fun p=>(p.1.2.2.1,p.1.2.2.2.1,p.2.1,p.2.2.1,p.2.2.2.1)) (fun (x:Bool×Int×aG×aH×Slice)=>(((),((),(x.1,(x.2.1,())))),(x.2.2.1,(x.2.2.2.1,(x.2.2.2.2,()))))) (fun _=>rfl)
def Bz:aM TL:=aM.two aDg.dec (fun p=>Dc p.1 p.2.1 p.2.2.1 p.2.2.2.1 p.2.2.2.2.1 p.2.2.2.2.2) (.exit 2) .ret Kw.enc Kw.enc
theorem MW:bM PR (bm Bz) yN OR (bV (bC mM.body) 8):=lB (cs:=[]) (ss:=[]) (E:=aX tab sl sh [] []) (an:=mM.an) (aY base aN aN) An (by kernel_rfl) (ae.du rfl ru.keys (aC (.inl (by kernel_rfl)) (aC (.inl (by kernel_rfl)) (aC (.inl (by kernel_rfl)) aN)))) rfl rfl (fun x y h=>⟨_,h⟩) (fun _=>rfl) fun _=>by kernel_rfl
abbrev rP:=Bool×Int×aG×aH
def IV (b1:Bool)(i1:Int)(bx1:aG)(lx1:aH):Option ((rP)⊕(((Bool×aG×aH)⊕(Bool×aG×aH)))) :=
 cond (decide (i1 < (lx1.aW.length:Int)))
 (cond (decide (0≤i1))
 (ob (lx1.aW[i1.toNat]?) fun e0 =>
 ob (kj bx1 e0.key) fun r1 =>
 cond (cond (decide (r1 < 0)) true (cond (decide (e0.dy < 0)) true (cond (decide (e0.dy > e0.bj)) true (cond (decide (e0.eO < 0)) true (cond (decide (e0.eO > e0.cE)) true (cond (decide (e0.bj > 2199023255552)) true (decide (e0.cE > 2199023255552))))))))
 (some (.inr (.inr (false,bx1,lx1))))
 (ob (Dc b1 i1 0 bx1 lx1 e0) fun y2 =>
 two y2 (fun a3 =>
 some (.inl (a3.1,(aF (a3.2.1+1)),a3.2.2.1,a3.2.2.2.1))) (fun b4 =>
 some (.inr (.inr (b4.1,b4.2.2.1,b4.2.2.2.1))))))
 none)
 (some (.inr (.inl (b1,bx1,lx1))))
def Au (p:rP):Option ((rP)⊕(((Bool×aG×aH)⊕(Bool×aG×aH)))):=IV p.1 p.2.1 p.2.2.1 p.2.2.2
def DP (b1:Bool)(i1:Int)(bx1:aG)(lx1:aH):Option (((Bool×aG×aH)⊕(Bool×aG×aH))):=bZ Au (1099511627776) (b1,i1,bx1,lx1)
def aD1:kT (rP):=kO (kS 2 (kC (kP 0 0) (kC (kP 1 0) (kC kB (kC kI kN)))) (kC (aD.var 0 29 fX) (kC (aD.var 1 43 ku) kN))) (fun p=>(p.1.2.2.1,p.1.2.2.2.1,p.2.1,p.2.2.1)) (fun (x:rP)=>(((),((),(x.1,(x.2.1,())))),(x.2.2.1,(x.2.2.2,())))) (fun _=>rfl)
def KH:kT (Bool×aG×aH):=kO (kS 4 (kC (kP 1 0) (kC kB kN)) (kC (aD.var 0 29 fX) (kC (aD.var 1 43 ku) kN))) (fun p=>(p.1.2.1,p.2.1,p.2.2.1)) (fun (x:Bool×aG×aH)=>(((),(x.1,())),(x.2.1,(x.2.2,())))) (fun _=>rfl)
def Mv:aM TL:=aM.two aD1.dec (fun p=>DP p.1 p.2.1 p.2.2.1 p.2.2.2) (.exit 0) .ret KH.enc KH.enc
theorem aCR:bM PR (bm Mv) yN OD (bV (bC mM.body) 2):=lB (cs:=[(44,pC)]) (ss:=[(145008,Bz)]) (E:=aX tab sl sh [] [(44,.pure)]) (an:=mM.an) (aY base aN (aC (oD tL rfl) aN)) Au (by kernel_rfl) (ae.du rfl ru.keys (aC (.inl (by kernel_rfl)) (aC (.inr (lC MW rfl)) (aC (.inl (by kernel_rfl)) aN)))) rfl rfl (fun x y h=>⟨_,h⟩) (fun _=>rfl) fun _=>by kernel_rfl
def H0 (b1:Bool)(i1:Int)(lx1:aH):Option ((Bool×Int×aH)⊕(((Bool×aH)⊕(Bool×aH)))) :=
 cond (decide (i1 < (lx1.used.length:Int)))
 (cond (decide (0≤i1))
 (ob (lx1.used[i1.toNat]?) fun e0 =>
 ob (py lx1.ids e0) fun r1 =>
 cond (!r1)
 (some (.inr (.inr (false,lx1))))
 (some (.inl (b1,(aF (i1+1)),lx1))))
 none)
 (some (.inr (.inl (b1,lx1))))
def AR (p:Bool×Int×aH):Option ((Bool×Int×aH)⊕(((Bool×aH)⊕(Bool×aH)))):=H0 p.1 p.2.1 p.2.2
def PC (b1:Bool)(i1:Int)(lx1:aH):Option (((Bool×aH)⊕(Bool×aH))):=bZ AR (1099511627776) (b1,i1,lx1)
def aBh:kT (Bool×Int×aH):=kO (kS 1 (kC (kP 0 0) (kC kB (kC kI kN))) (kC (aD.var 0 43 ku) kN)) (fun p=>(p.1.2.1,p.1.2.2.1,p.2.1)) (fun (x:Bool×Int×aH)=>(((),(x.1,(x.2.1,()))),(x.2.2,()))) (fun _=>rfl)
def Ic:kT (Bool×aH):=kO (kS 2 (kC kB kN) (kC (aD.var 0 43 ku) kN)) (fun p=>(p.1.1,p.2.1)) (fun (x:Bool×aH)=>((x.1,()),(x.2,()))) (fun _=>rfl)
def Jw:aM TL:=aM.two aBh.dec (fun p=>PC p.1 p.2.1 p.2.2) (.exit 4) .ret Ic.enc Ic.enc
theorem aAb:bM PR (bm Jw) yN LY (bV (bC mM.body) 15):=lB (cs:=[(94,zi)]) (ss:=[]) (E:=aX tab sl sh [] [(94,.pure)]) (an:=mM.an) (aY base aN (aC (oD HW rfl) aN)) AR (by kernel_rfl) (ae.du rfl ru.keys (aC (.inl (by kernel_rfl)) (aC (.inl (by kernel_rfl)) (aC (.inl (by kernel_rfl)) aN)))) rfl rfl (fun x y h=>⟨_,h⟩) (fun _=>rfl) fun _=>by kernel_rfl
def th (bx1:aG)(lx1:aH):Option Bool :=
 ob (DP false 0 bx1 lx1) fun y0 =>
 two y0 (fun a1 =>
 cond (decide (a1.2.2.device < 0))
 (some false)
 (cond (decide (a1.2.2.device≥6))
 (some false)
 (ob (pk a1.2.2.ids) fun r3 =>
 cond (!r3)
 (some false)
 (ob (pI a1.2.2.used) fun r4 =>
 cond (!r4)
 (some false)
 (ob (PC a1.1 0 a1.2.2) fun y5 =>
 two y5 (fun _ =>
 some true) (fun b7 =>
 some b7.1)))))) (fun b2 =>
 some b2.1)
def V6 (p:aG×aH):Option Bool:=th p.1 p.2
def FA:aQ TL:=aQ.of (DA.cons (DT.agg fq) (DA.one (DT.agg jc))) V6 (DA.one dB)
theorem V3:be PR 45 .pure FA:=bx (cs:=[(46,zk),(47,yi)]) (ss:=[(145002,Mv),(145008,Bz),(145015,Jw)]) (E:=aX tab sl sh [(45,mM)] [(46,.pure),(47,.pure)]) (fun _=>by kernel_rfl) (aY base (aC (ru.ak rfl (aC (lC aCR rfl) (aC (lC MW rfl) (aC (lC aAb rfl) aN)))) aN) (aC (oD Gw rfl) (aC (oD FJ rfl) aN))) (.inr rfl) ru.enters
def Hr (b1:Bool)(i1:Int)(bx1:aG):Option ((Bool×Int×aG)⊕(((Bool×aG)⊕(Bool×aG)))) :=
 cond (decide (i1 < (bx1.aK.length:Int)))
 (cond (decide (0≤i1))
 (ob (bx1.aK[i1.toNat]?) fun e0 =>
 ob (th bx1 e0) fun r1 =>
 cond (!r1)
 (some (.inr (.inr (false,bx1))))
 (cond (decide (i1 > 0))
 (cond (decide (0≤(aF (i1 - 1))))
 (ob (bx1.aK[((aF (i1 - 1))).toNat]?) fun e2 =>
 cond (decide (0≤i1))
 (ob (bx1.aK[i1.toNat]?) fun e3 =>
 cond (decide (e2.device≥e3.device))
 (some (.inr (.inr (false,bx1))))
 (some (.inl (b1,(aF (i1+1)),bx1))))
 none)
 none)
 (some (.inl (b1,(aF (i1+1)),bx1)))))
 none)
 (some (.inr (.inl (b1,bx1))))
def B7 (p:Bool×Int×aG):Option ((Bool×Int×aG)⊕(((Bool×aG)⊕(Bool×aG)))):=Hr p.1 p.2.1 p.2.2
def Dv (b1:Bool)(i1:Int)(bx1:aG):Option (((Bool×aG)⊕(Bool×aG))):=bZ B7 (1099511627776) (b1,i1,bx1)
def MP:aM TL:=aM.two CB.dec (fun p=>Dv p.1 p.2.1 p.2.2) (.exit 2) .ret n9.enc n9.enc
theorem aEP:bM PR (bm MP) yO O9 (bV (bC mL.body) 8):=lB (cs:=[(45,FA)]) (ss:=[]) (E:=aX tab sl sh [] [(45,.pure)]) (an:=mL.an) (aY base aN (aC (oD V3 rfl) aN)) B7 (by kernel_rfl) (ae.du rfl rj.keys (aC (.inl (by kernel_rfl)) (aC (.inl (by kernel_rfl)) (aC (.inl (by kernel_rfl)) aN)))) rfl rfl (fun x y h=>⟨_,h⟩) (fun _=>rfl) fun _=>by kernel_rfl
abbrev sG:=ByteArray×Int×Int×Int×Int×aG×eY×bP
abbrev kX:=ByteArray×Int×Int×Int×aG×eY×bP
def Hk (s1:ByteArray)(i1:Int)(i2:Int)(i3:Int)(i4:Int)(bx1:aG)(ax1:eY)(c1:bP):Option ((sG)⊕(kX)) :=
 cond (decide (0≤i3))
 (ob (bx1.aK[i3.toNat]?) fun e0 =>
 cond (decide (i4 < (e0.aW.length:Int)))
 (cond (decide (0≤i3))
 (ob (bx1.aK[i3.toNat]?) fun e1 =>
 cond (decide (0≤i4))
 (ob (e1.aW[i4.toNat]?) fun e2 =>
 some (.inl (s1,(cond (cA e2.key s1) (aF ((aF (i1+e2.bj)) - e2.dy)) i1),(cond (cA e2.key s1) (aF ((aF (i2+e2.cE)) - e2.eO)) i2),i3,(aF (i4+1)),bx1,ax1,c1)))
 none)
 none)
 (some (.inr (s1,i1,i2,i3,bx1,ax1,c1))))
 none
def AE (p:sG):Option ((sG)⊕(kX)):=Hk p.1 p.2.1 p.2.2.1 p.2.2.2.1 p.2.2.2.2.1 p.2.2.2.2.2.1 p.2.2.2.2.2.2.1 p.2.2.2.2.2.2.2
def Ct (s1:ByteArray)(i1:Int)(i2:Int)(i3:Int)(i4:Int)(bx1:aG)(ax1:eY)(c1:bP):Option kX:=bZ AE (1099511627776) (s1,i1,i2,i3,i4,bx1,ax1,c1)
def vX:aD (List (C TL)) eY:=kO (kC kJ (kC kJ (kC kJ (kC kJ (kC kJ (kC kJ kN)))))) (fun (z0,z1,z2,z3,z4,z5,_)=>(eY.mk z0 z1 z2 z3 z4 z5)) (fun (x:eY)=>(x.a0,(x.a1,(x.a2,(x.a3,(x.a4,(x.a5,()))))))) (fun _=>rfl)
def uJ:aD (List (C TL)) bP:=kO (kC kE (kC kJ (kC kJ (kC kJ (kC kJ (kC kJ (kC kJ kN))))))) (fun (z0,z1,z2,z3,z4,z5,z6,_)=>(bP.mk z0 z1 z2 z3 z4 z5 z6)) (fun (x:bP)=>(x.key,(x.bc,(x.lo,(x.hi,(x.start,(x.bj,(x.cE,())))))))) (fun _=>rfl)
def aAz:kT (sG):=kO (kS 3 (kC (aD.xs (aD.sc kE)) (kC (kP 0 0) (kC (kP 1 0) (kC (kP 2 0) (kC kI (kC kI (kC kI (kC kI kN)))))))) (kC (aD.var 0 29 fX) (kC (aD.var 1 88 vX) (kC (aD.var 2 65 uJ) kN)))) (fun ((z0,_,_,_,z1,z2,z3,z4,_),z5,z6,z7,_)=>(z0,z1,z2,z3,z4,z5,z6,z7)) (fun (x:sG)=>((x.1,((),((),((),(x.2.1,(x.2.2.1,(x.2.2.2.1,(x.2.2.2.2.1,())))))))),(x.2.2.2.2.2.1,(x.2.2.2.2.2.2.1,(x.2.2.2.2.2.2.2,()))))) (fun _=>rfl)
def ZD:kT (kX):=kO (kS 6 (kC (aD.xs (aD.sc kE)) (kC (kP 0 0) (kC (kP 1 0) (kC (kP 2 0) (kC kI (kC kI (kC kI kN))))))) (kC (aD.var 0 29 fX) (kC (aD.var 1 88 vX) (kC (aD.var 2 65 uJ) kN)))) (fun ((z0,_,_,_,z1,z2,z3,_),z4,z5,z6,_)=>(z0,z1,z2,z3,z4,z5,z6)) (fun (x:kX)=>((x.1,((),((),((),(x.2.1,(x.2.2.1,(x.2.2.2.1,()))))))),(x.2.2.2.2.1,(x.2.2.2.2.2.1,(x.2.2.2.2.2.2,()))))) (fun _=>rfl)
def BN:aM TL:=aM.one aAz.dec (fun p=>Ct p.1 p.2.1 p.2.2.1 p.2.2.2.1 p.2.2.2.2.1 p.2.2.2.2.2.1 p.2.2.2.2.2.2.1 p.2.2.2.2.2.2.2) (.exit 2) ZD.enc
theorem KT:bM PR (bm BN) E3 ME (bV (bC oa.body) 10):=lA (cs:=[]) (ss:=[]) (E:=aX tab sl sh [] []) (an:=oa.an) (aY base aN aN) AE (by kernel_rfl) (ae.du rfl yQ.keys (aC (.inl (by kernel_rfl)) (aC (.inl (by kernel_rfl)) aN))) rfl (fun x y h=>⟨_,h⟩) (fun _=>rfl) fun _=>by kernel_rfl
def JE (s1:ByteArray)(i1:Int)(i2:Int)(i3:Int)(bx1:aG)(ax1:eY)(c1:bP):Option ((kX)⊕(Int×Int×aG×eY×bP)) :=
 cond (decide (i3 < (bx1.aK.length:Int)))
 (ob (Ct s1 i1 i2 i3 0 bx1 ax1 c1) fun y0 =>
 some (.inl (y0.1,y0.2.1,y0.2.2.1,(aF (y0.2.2.2.1+1)),y0.2.2.2.2.1,y0.2.2.2.2.2.1,y0.2.2.2.2.2.2)))
 (some (.inr (i1,i2,bx1,ax1,c1)))
def B9 (p:kX):Option ((kX)⊕(Int×Int×aG×eY×bP)):=JE p.1 p.2.1 p.2.2.1 p.2.2.2.1 p.2.2.2.2.1 p.2.2.2.2.2.1 p.2.2.2.2.2.2
def qm (s1:ByteArray)(i1:Int)(i2:Int)(i3:Int)(bx1:aG)(ax1:eY)(c1:bP):Option (Int×Int×aG×eY×bP):=bZ B9 (1099511627776) (s1,i1,i2,i3,bx1,ax1,c1)
def aDo:kT (kX):=kO (kS 3 (kC (aD.xs (aD.sc kE)) (kC (kP 0 0) (kC (kP 1 0) (kC (kP 2 0) (kC kI (kC kI (kC kI kN))))))) (kC (aD.var 0 29 fX) (kC (aD.var 1 88 vX) (kC (aD.var 2 65 uJ) kN)))) (fun ((z0,_,_,_,z1,z2,z3,_),z4,z5,z6,_)=>(z0,z1,z2,z3,z4,z5,z6)) (fun (x:kX)=>((x.1,((),((),((),(x.2.1,(x.2.2.1,(x.2.2.2.1,()))))))),(x.2.2.2.2.1,(x.2.2.2.2.2.1,(x.2.2.2.2.2.2,()))))) (fun _=>rfl)
def aBH:kT (Int×Int×aG×eY×bP):=kO (kS 6 (kC (kP 1 0) (kC (kP 2 0) (kC kI (kC kI kN)))) (kC (aD.var 0 29 fX) (kC (aD.var 1 88 vX) (kC (aD.var 2 65 uJ) kN)))) (fun p=>(p.1.2.2.1,p.1.2.2.2.1,p.2.1,p.2.2.1,p.2.2.2.1)) (fun (x:Int×Int×aG×eY×bP)=>(((),((),(x.1,(x.2.1,())))),(x.2.2.1,(x.2.2.2.1,(x.2.2.2.2,()))))) (fun _=>rfl)
def Ln:aM TL:=aM.one aDo.dec (fun p=>qm p.1 p.2.1 p.2.2.1 p.2.2.2.1 p.2.2.2.2.1 p.2.2.2.2.2.1 p.2.2.2.2.2.2) (.exit 0) aBH.enc
theorem aEG:bM PR (bm Ln) E3 OE (bV (bC oa.body) 7):=lA (cs:=[]) (ss:=[(135010,BN)]) (E:=aX tab sl sh [] []) (an:=oa.an) (aY base aN aN) B9 (by kernel_rfl) (ae.du rfl yQ.keys (aC (.inl (by kernel_rfl)) (aC (.inr (lC KT rfl)) aN))) rfl (fun x y h=>⟨_,h⟩) (fun _=>rfl) fun _=>by kernel_rfl
def tp (bx1:aG)(s1:ByteArray):Option eY :=
 ob (kj bx1 s1) fun r0 =>
 cond (decide (r0 < 0))
 (some (eY.mk 0 0 0 0 0 0))
 (cond (decide (0≤r0))
 (ob (bx1.af[r0.toNat]?) fun e1 =>
 ob (qm s1 0 0 0 bx1 (eY.mk 0 0 0 0 0 0) e1) fun y2 =>
 some (eY.mk y2.2.2.2.2.bj y2.1 (aF ((aF ((aF (y2.2.2.2.2.hi - y2.2.2.2.2.start)) - y2.2.2.2.2.bj)) - y2.1)) y2.2.2.2.2.cE y2.2.1 (aF ((aF ((aF (y2.2.2.2.2.start - y2.2.2.2.2.lo)) - y2.2.2.2.2.cE)) - y2.2.1))))
 none)
def VR (p:aG×ByteArray):Option eY:=tp p.1 p.2
def FL:aQ TL:=aQ.of (DA.cons (DT.agg fq) (DA.one (DT.one DI.str))) VR (DA.one (DT.agg aDD))
theorem VU:be PR 35 .pure FL:=bx (cs:=[(44,pC)]) (ss:=[(135007,Ln),(135010,BN)]) (E:=aX tab sl sh [(35,oa)] [(44,.pure)]) (fun _=>by kernel_rfl) (aY base (aC (yQ.ak rfl (aC (lC aEG rfl) (aC (lC KT rfl) aN))) aN) (aC (oD tL rfl) aN)) (.inr rfl) yQ.enters
def H5 (b1:Bool)(i1:Int)(bx1:aG):Option ((Bool×Int×aG)⊕(((Bool×aG)⊕(Bool×aG)))) :=
 cond (decide (i1 < (bx1.af.length:Int)))
 (cond (decide (0≤i1))
 (ob (bx1.af[i1.toNat]?) fun e0 =>
 ob (tp bx1 e0.key) fun r1 =>
 cond (cond (decide (r1.a2 < 0)) true (decide (r1.a5 < 0)))
 (some (.inr (.inr (false,bx1))))
 (some (.inl (b1,(aF (i1+1)),bx1))))
 none)
 (some (.inr (.inl (b1,bx1))))
def Ab (p:Bool×Int×aG):Option ((Bool×Int×aG)⊕(((Bool×aG)⊕(Bool×aG)))):=H5 p.1 p.2.1 p.2.2
def C9 (b1:Bool)(i1:Int)(bx1:aG):Option (((Bool×aG)⊕(Bool×aG))):=bZ Ab (1099511627776) (b1,i1,bx1)
def J7:aM TL:=aM.two CB.dec (fun p=>C9 p.1 p.2.1 p.2.2) (.exit 4) .ret n9.enc n9.enc
theorem aAK:bM PR (bm J7) yO Ml (bV (bC mL.body) 13):=lB (cs:=[(35,FL)]) (ss:=[]) (E:=aX tab sl sh [] [(35,.pure)]) (an:=mL.an) (aY base aN (aC (oD VU rfl) aN)) Ab (by kernel_rfl) (ae.du rfl rj.keys (aC (.inl (by kernel_rfl)) (aC (.inl (by kernel_rfl)) (aC (.inl (by kernel_rfl)) aN)))) rfl rfl (fun x y h=>⟨_,h⟩) (fun _=>rfl) fun _=>by kernel_rfl
def mZ (bx1:aG):Option Bool :=
 ob (Dh false 0 bx1) fun y0 =>
 two y0 (fun a1 =>
 ob (Dv a1.1 0 a1.2) fun y3 =>
 two y3 (fun a4 =>
 ob (C9 a4.1 0 a4.2) fun y6 =>
 two y6 (fun a7 =>
 ob (pk a7.2.free) fun r9 =>
 cond (r9)
 (ob (pI a7.2.bB) fun r10 =>
 cond (r10)
 (ob (tk a7.2) fun r11 =>
 some r11)
 (some false))
 (some false)) (fun b8 =>
 some b8.1)) (fun b5 =>
 some b5.1)) (fun b2 =>
 some b2.1)
def Vm (p:aG):Option Bool:=mZ p
def FW:aQ TL:=aQ.of (DA.one (DT.agg fq)) Vm (DA.one dB)
theorem W2:be PR 21 .pure FW:=bx (cs:=[(46,zk),(47,yi),(48,FB)]) (ss:=[(121002,LM),(121008,MP),(121013,J7)]) (E:=aX tab sl sh [(21,mL)] [(46,.pure),(47,.pure),(48,.pure)]) (fun _=>by kernel_rfl) (aY base (aC (rj.ak rfl (aC (lC aDw rfl) (aC (lC aEP rfl) (aC (lC aAK rfl) aN)))) aN) (aC (oD Gw rfl) (aC (oD FJ rfl) (aC (oD VQ rfl) aN)))) (.inr rfl) rj.enters
abbrev sO:=ByteArray×Int×Int×ag
def ZG (s1:ByteArray)(i1:Int)(i2:Int)(c1:ag):Option ((sO)⊕(((Int×ag)⊕(Int×ag)))) :=
 cond (decide (i2 < (c1.bJ.length:Int)))
 (cond (decide (0≤i2))
 (ob (c1.bJ[i2.toNat]?) fun e0 =>
 cond (cA e0.key s1)
 (cond (decide (0≤i2))
 (ob (c1.bJ[i2.toNat]?) fun e1 =>
 some (.inr (.inr (e1.n,c1))))
 none)
 (some (.inl (s1,i1,(aF (i2+1)),c1))))
 none)
 (some (.inr (.inl (i1,c1))))
def KK (p:sO):Option ((sO)⊕(((Int×ag)⊕(Int×ag)))):=ZG p.1 p.2.1 p.2.2.1 p.2.2.2
def R6 (s1:ByteArray)(i1:Int)(i2:Int)(c1:ag):Option (((Int×ag)⊕(Int×ag))):=bZ KK (1099511627776) (s1,i1,i2,c1)
def aDW:kT (sO):=kO (kS 1 (kC (aD.xs (aD.sc kE)) (kC (kP 0 0) (kC kI (kC kI kN)))) (kC (aD.var 0 37 CK) kN)) (fun p=>(p.1.1,p.1.2.2.1,p.1.2.2.2.1,p.2.1)) (fun (x:sO)=>((x.1,((),(x.2.1,(x.2.2.1,())))),(x.2.2.2,()))) (fun _=>rfl)
def Kc:kT (Int×ag):=kO (kS 2 (kC kI kN) (kC (aD.var 0 37 CK) kN)) (fun p=>(p.1.1,p.2.1)) (fun (x:Int×ag)=>((x.1,()),(x.2,()))) (fun _=>rfl)
def Mf:aM TL:=aM.two aDW.dec (fun p=>R6 p.1 p.2.1 p.2.2.1 p.2.2.2) (.exit 0) .ret Kc.enc Kc.enc
theorem aC1:bM PR (bm Mf) Tt OY (bV (bC yW.body) 2):=lB (cs:=[]) (ss:=[]) (E:=aX tab sl sh [] []) (an:=yW.an) (aY base aN aN) KK (by kernel_rfl) (sB rfl EX.keys (by kernel_rfl)) rfl rfl (fun x y h=>⟨_,h⟩) (fun _=>rfl) fun _=>by kernel_rfl
def kq (c1:ag)(s1:ByteArray):Option Int :=
 ob (R6 s1 0 0 c1) fun y0 =>
 two y0 (fun _ =>
 some 0) (fun b2 =>
 some b2.1)
def Vr (p:ag×ByteArray):Option Int:=kq p.1 p.2
def FT:aQ TL:=aQ.of (DA.cons (DT.agg qJ) (DA.one (DT.one DI.str))) Vr (DA.one dI)
theorem Vv:be PR 33 .pure FT:=bx (cs:=[]) (ss:=[(133002,Mf)]) (E:=aX tab sl sh [(33,yW)] []) (fun _=>by kernel_rfl) (aY base (aC (EX.ak rfl (aC (lC aC1 rfl) aN)) aN) aN) (.inr rfl) EX.enters
abbrev s5:=(List Act)×Bool×Int×Int×aw
abbrev jH:=(List Act)×Bool×Int×aw
def Ih (l1:List Act)(b1:Bool)(i1:Int)(i2:Int)(d1:aw):Option ((s5)⊕(((jH)⊕(jH)))) :=
 cond (decide (i2 < (d1.book.af.length:Int)))
 (cond (decide (0≤i2))
 (ob (d1.book.af[i2.toNat]?) fun e0 =>
 ob (kq d1.aI.a0 e0.key) fun r1 =>
 ob (kq d1.aI.a1 e0.key) fun r2 =>
 ob (kq d1.aI.a2 e0.key) fun r3 =>
 cond (cond (decide ((aF ((aF ((aF (e0.start+r1))+r2))+r3)) < e0.lo)) true (decide ((aF ((aF ((aF (e0.start+r1))+r2))+r3)) > e0.hi)))
 (some (.inr (.inr (l1,false,i1,d1))))
 (some (.inl (l1,b1,i1,(aF (i2+1)),d1))))
 none)
 (some (.inr (.inl (l1,b1,i1,d1))))
def B6 (p:s5):Option ((s5)⊕(((jH)⊕(jH)))):=Ih p.1 p.2.1 p.2.2.1 p.2.2.2.1 p.2.2.2.2
def nB (l1:List Act)(b1:Bool)(i1:Int)(i2:Int)(d1:aw):Option (((jH)⊕(jH))):=bZ B6 (1099511627776) (l1,b1,i1,i2,d1)
def aCz:kT (s5):=kO (kS 1 (kC (kF oN) (kC kB (kC (kP 0 0) (kC kI (kC kI kN))))) (kC (aD.var 0 50 iy) kN)) (fun ((z0,z1,_,z2,z3,_),z4,_)=>(z0,z1,z2,z3,z4)) (fun (x:s5)=>((x.1,(x.2.1,((),(x.2.2.1,(x.2.2.2.1,()))))),(x.2.2.2.2,()))) (fun _=>rfl)
def Js:kT (jH):=kO (kS 2 (kC (kF oN) (kC kB (kC (kP 0 0) (kC kI kN)))) (kC (aD.var 0 50 iy) kN)) (fun p=>(p.1.1,p.1.2.1,p.1.2.2.2.1,p.2.1)) (fun (x:jH)=>((x.1,(x.2.1,((),(x.2.2.1,())))),(x.2.2.2,()))) (fun _=>rfl)
def Bi:aM TL:=aM.two aCz.dec (fun p=>nB p.1 p.2.1 p.2.2.1 p.2.2.2.1 p.2.2.2.2) (.exit 2) .ret Js.enc Js.enc
theorem Lq:bM PR (bm Bi) s9 OS (bV (bC kY.body) 17):=lB (cs:=[(33,FT)]) (ss:=[]) (E:=aX tab sl sh [] [(33,.pure)]) (an:=kY.an) (aY base aN (aC (oD Vv rfl) aN)) B6 (by kernel_rfl) (ae.du rfl oq.keys (aC (.inl (by kernel_rfl)) (aC (.inl (by kernel_rfl)) (aC (.inl (by kernel_rfl)) (aC (.inl (by kernel_rfl)) aN))))) rfl rfl (fun x y h=>⟨_,h⟩) (fun _=>rfl) fun _=>by kernel_rfl
def JJ (l1:List Act)(b1:Bool)(i1:Int)(d1:aw):Option ((jH)⊕(((Bool×aw)⊕(Bool×aw)))) :=
 cond (decide (i1 < (l1.length:Int)))
 (cond (decide (0≤i1))
 (ob (l1[i1.toNat]?) fun e0 =>
 ob (pZ e0 d1) fun r1 =>
 ob (qV d1 r1) fun r2 =>
 cond (decide (0≤i1))
 (ob (l1[i1.toNat]?) fun e3 =>
 ob (pZ e3 d1) fun r4 =>
 cond (r2.2.err != 0)
 (cond (decide (r4.kind≥3))
 (cond (r4.kind != 4)
 (ob (xg d1 r2.1) fun r5 =>
 cond (!r5)
 (some (.inr (.inr (false,d1))))
 (ob (mZ r2.1.book) fun r6 =>
 cond (!r6)
 (some (.inr (.inr (false,r2.1))))
 (ob (nB l1 b1 i1 0 r2.1) fun y7 =>
 two y7 (fun a8 =>
 some (.inl (a8.1,a8.2.1,(aF (a8.2.2.1+1)),a8.2.2.2))) (fun b9 =>
 some (.inr (.inr (b9.2.1,b9.2.2.2)))))))
 (ob (mZ r2.1.book) fun r10 =>
 cond (!r10)
 (some (.inr (.inr (false,r2.1))))
 (ob (nB l1 b1 i1 0 r2.1) fun y11 =>
 two y11 (fun a12 =>
 some (.inl (a12.1,a12.2.1,(aF (a12.2.2.1+1)),a12.2.2.2))) (fun b13 =>
 some (.inr (.inr (b13.2.1,b13.2.2.2)))))))
 (ob (mZ r2.1.book) fun r14 =>
 cond (!r14)
 (some (.inr (.inr (false,r2.1))))
 (ob (nB l1 b1 i1 0 r2.1) fun y15 =>
 two y15 (fun a16 =>
 some (.inl (a16.1,a16.2.1,(aF (a16.2.2.1+1)),a16.2.2.2))) (fun b17 =>
 some (.inr (.inr (b17.2.1,b17.2.2.2)))))))
 (ob (mZ r2.1.book) fun r18 =>
 cond (!r18)
 (some (.inr (.inr (false,r2.1))))
 (ob (nB l1 b1 i1 0 r2.1) fun y19 =>
 two y19 (fun a20 =>
 some (.inl (a20.1,a20.2.1,(aF (a20.2.2.1+1)),a20.2.2.2))) (fun b21 =>
 some (.inr (.inr (b21.2.1,b21.2.2.2)))))))
 none)
 none)
 (some (.inr (.inl (b1,d1))))
def Bg (p:jH):Option ((jH)⊕(((Bool×aw)⊕(Bool×aw)))):=JJ p.1 p.2.1 p.2.2.1 p.2.2.2
def EI (l1:List Act)(b1:Bool)(i1:Int)(d1:aw):Option (((Bool×aw)⊕(Bool×aw))):=bZ Bg (((l1.length:Int) - i1).toNat+2) (l1,b1,i1,d1)
def aEn:kT (jH):=kO (kS 1 (kC (kF oN) (kC kB (kC (kP 0 0) (kC kI kN)))) (kC (aD.var 0 50 iy) kN)) (fun p=>(p.1.1,p.1.2.1,p.1.2.2.2.1,p.2.1)) (fun (x:jH)=>((x.1,(x.2.1,((),(x.2.2.1,())))),(x.2.2.2,()))) (fun _=>rfl)
def MN:kT (Bool×aw):=kO (kS 2 (kC kB (kC (kP 0 0) kN)) (kC (aD.var 0 50 iy) kN)) (fun p=>(p.1.1,p.2.1)) (fun (x:Bool×aw)=>((x.1,((),())),(x.2,()))) (fun _=>rfl)
def Ny:aM TL:=aM.two aEn.dec (fun p=>EI p.1 p.2.1 p.2.2.1 p.2.2.2) (.exit 0) .ret MN.enc MN.enc
theorem aE9:bM PR (bm Ny) s9 PL (bV (bC kY.body) 7):=lB (cs:=[(28,GB),(18,BD),(32,M8),(21,FW)]) (ss:=[(107017,Bi)]) (E:=aX tab sl sh [] [(28,.keep),(18,.keep),(32,.pure),(21,.pure)]) (an:=kY.an) (aY base aN (aC (oD Wa rfl) (aC (oD Jo rfl) (aC (oD aCu rfl) (aC (oD W2 rfl) aN))))) Bg (by kernel_rfl) (ae.du rfl oq.keys (aC (.inl (by kernel_rfl)) (aC (.inr (lC Lq rfl)) (aC (.inl (by kernel_rfl)) (aC (.inl (by kernel_rfl)) aN))))) rfl rfl (fun x y h=>⟨_,h⟩) (fun _=>rfl) fun _=>by kernel_rfl
def G7 (i1:Int)(i2:Int)(o1:Op):Option ((Int×Int×Op)⊕(((Int×Op)⊕(Int×Op)))) :=
 cond (decide (i2 < (o1.cz.length:Int)))
 (cond (decide (0≤(aF (i2 - 1))))
 (ob (o1.cz[((aF (i2 - 1))).toNat]?) fun e0 =>
 cond (decide (0≤i2))
 (ob (o1.cz[i2.toNat]?) fun e1 =>
 ob (jt e0 e1) fun r2 =>
 cond (!r2)
 (some (.inr (.inr (10,o1))))
 (some (.inl (i1,(aF (i2+1)),o1))))
 none)
 none)
 (some (.inr (.inl (i1,o1))))
def AH (p:Int×Int×Op):Option ((Int×Int×Op)⊕(((Int×Op)⊕(Int×Op)))):=G7 p.1 p.2.1 p.2.2
def Ol (i1:Int)(i2:Int)(o1:Op):Option (((Int×Op)⊕(Int×Op))):=bZ AH (1099511627776) (i1,i2,o1)
def aBZ:kT (Int×Int×Op):=kO (kS 1 (kC (kP 0 0) (kC kI (kC kI kN))) (kC (aD.var 0 61 jE) kN)) (fun p=>(p.1.2.1,p.1.2.2.1,p.2.1)) (fun (x:Int×Int×Op)=>(((),(x.1,(x.2.1,()))),(x.2.2,()))) (fun _=>rfl)
def Ik:kT (Int×Op):=kO (kS 2 (kC kI kN) (kC (aD.var 0 61 jE) kN)) (fun p=>(p.1.1,p.2.1)) (fun (x:Int×Op)=>((x.1,()),(x.2,()))) (fun _=>rfl)
def Ji:aM TL:=aM.two aBZ.dec (fun p=>Ol p.1 p.2.1 p.2.2) (.exit 1) .ret Ik.enc Ik.enc
theorem aBD:bM PR (bm Ji) Sv Lh (bV (bC xv.body) 15):=lB (cs:=[(74,zL)]) (ss:=[]) (E:=aX tab sl sh [] [(74,.pure)]) (an:=xv.an) (aY base aN (aC (oD G0 rfl) aN)) AH (by kernel_rfl) (sB rfl EQ.keys (by kernel_rfl)) rfl rfl (fun x y h=>⟨_,h⟩) (fun _=>rfl) fun _=>by kernel_rfl
def vF (o1:Op):Option Int :=
 cond (cond (decide (o1.aP.device < 0)) true (cond (decide (o1.aP.device≥6)) true (cond (decide (o1.aP.aA < 1)) true (cond (decide (o1.aP.aA > 1073741824)) true (cond (decide (o1.aP.seq < 1)) true (cond (decide (o1.aP.seq > 1073741824)) true (cond (decide (o1.bc < 0)) true (cond (decide (o1.bc≥3)) true (cond (decide (o1.cW < 1)) true (cond (decide (o1.cW > 3)) true (cond (decide (o1.time < 0)) true (decide (o1.time > 1099511627776)))))))))))))
 (some 1)
 (cond (cond (decide (o1.kind < 1)) true (decide (o1.kind > 5)))
 (some 3)
 (ob (nl o1.key) fun r0 =>
 cond (!r0)
 (some 5)
 (ob (nl o1.text) fun r1 =>
 cond (!r1)
 (some 5)
 (cond (cond (o1.kind != 5) (cA o1.key cr) false)
 (some 1)
 (cond (o1.kind == 3)
 (cond (decide ((o1.cz.length:Int) > 8))
 (some 4)
 (ob (Ol 0 1 o1) fun y2 =>
 two y2 (fun _ =>
 some 0) (fun b4 =>
 some b4.1)))
 (cond (o1.kind == 4)
 (cond (cond (o1.n == 0) true (cond (decide (o1.n < (-1099511627776))) true (decide (o1.n > 1099511627776))))
 (some 11)
 (some 0))
 (cond (o1.kind == 5)
 (cond (cond (decide (o1.n < 0)) true (decide (o1.n≥1000)))
 (some 11)
 (some 0))
 (some 0))))))))
def X8 (p:Op):Option Int:=vF p
def Fu:aQ TL:=aQ.of (DA.one (DT.agg jW)) X8 (DA.one dI)
theorem XO:be PR 34 .pure Fu:=bx (cs:=[(73,zQ)]) (ss:=[(134015,Ji)]) (E:=aX tab sl sh [(34,xv)] [(73,.pure)]) (fun _=>by kernel_rfl) (aY base (aC (EQ.ak rfl (aC (lC aBD rfl) aN)) aN) (aC (oD G6 rfl) aN)) (.inr rfl) EQ.enters
abbrev ri:=Bool×Int×Int×Int×aw×Op
def IP (b1:Bool)(i1:Int)(i2:Int)(i3:Int)(d1:aw)(o1:Op):Option ((ri)⊕(((Bool×Int×Int×aw×Op)⊕(Bool×Int×Int×aw×Op)))) :=
 cond (decide (i3 < i1))
 (cond (o1.kind == 5)
 (cond (decide (0≤i3))
 (ob (d1.log[i3.toNat]?) fun e0 =>
 cond (e0.kind == 5)
 (cond (decide (0≤i3))
 (ob (d1.log[i3.toNat]?) fun e1 =>
 cond (o1.n == e1.n)
 (some (.inr (.inr (false,i1,i2,d1,o1))))
 (cond (decide (0≤i3))
 (ob (d1.log[i3.toNat]?) fun e2 =>
 cond (e2.aP.device == o1.aP.device)
 (cond (decide (0≤i3))
 (ob (d1.log[i3.toNat]?) fun e3 =>
 some (.inl (b1,i1,(cond (e3.aP.aA == o1.aP.aA) (aF (i2+1)) i2),(aF (i3+1)),d1,o1)))
 none)
 (some (.inl (b1,i1,i2,(aF (i3+1)),d1,o1))))
 none))
 none)
 (cond (decide (0≤i3))
 (ob (d1.log[i3.toNat]?) fun e4 =>
 cond (e4.aP.device == o1.aP.device)
 (cond (decide (0≤i3))
 (ob (d1.log[i3.toNat]?) fun e5 =>
 some (.inl (b1,i1,(cond (e5.aP.aA == o1.aP.aA) (aF (i2+1)) i2),(aF (i3+1)),d1,o1)))
 none)
 (some (.inl (b1,i1,i2,(aF (i3+1)),d1,o1))))
 none))
 none)
 (cond (decide (0≤i3))
 (ob (d1.log[i3.toNat]?) fun e6 =>
 cond (e6.aP.device == o1.aP.device)
 (cond (decide (0≤i3))
 (ob (d1.log[i3.toNat]?) fun e7 =>
 some (.inl (b1,i1,(cond (e7.aP.aA == o1.aP.aA) (aF (i2+1)) i2),(aF (i3+1)),d1,o1)))
 none)
 (some (.inl (b1,i1,i2,(aF (i3+1)),d1,o1))))
 none))
 (some (.inr (.inl (b1,i1,i2,d1,o1))))
def BY (p:ri):Option ((ri)⊕(((Bool×Int×Int×aw×Op)⊕(Bool×Int×Int×aw×Op)))):=IP p.1 p.2.1 p.2.2.1 p.2.2.2.1 p.2.2.2.2.1 p.2.2.2.2.2
def Dz (b1:Bool)(i1:Int)(i2:Int)(i3:Int)(d1:aw)(o1:Op):Option (((Bool×Int×Int×aw×Op)⊕(Bool×Int×Int×aw×Op))):=bZ BY ((i1 - i3).toNat+2) (b1,i1,i2,i3,d1,o1)
def aCV:kT (ri):=kO (kS 2 (kC kB (kC (kP 0 0) (kC kI (kC (kP 1 0) (kC kI (kC kI kN)))))) (kC (aD.var 0 50 iy) (kC (aD.var 1 61 jE) kN))) (fun ((z0,_,z1,_,z2,z3,_),z4,z5,_)=>(z0,z1,z2,z3,z4,z5)) (fun (x:ri)=>((x.1,((),(x.2.1,((),(x.2.2.1,(x.2.2.2.1,())))))),(x.2.2.2.2.1,(x.2.2.2.2.2,())))) (fun _=>rfl)
def K9:kT (Bool×Int×Int×aw×Op):=kO (kS 4 (kC kB (kC (kP 0 0) (kC kI (kC (kP 1 0) (kC kI kN))))) (kC (aD.var 0 50 iy) (kC (aD.var 1 61 jE) kN))) (fun p=>(p.1.1,p.1.2.2.1,p.1.2.2.2.2.1,p.2.1,p.2.2.1)) (fun (x:Bool×Int×Int×aw×Op)=>((x.1,((),(x.2.1,((),(x.2.2.1,()))))),(x.2.2.2.1,(x.2.2.2.2,())))) (fun _=>rfl)
def Bc:aM TL:=aM.two aCV.dec (fun p=>Dz p.1 p.2.1 p.2.2.1 p.2.2.2.1 p.2.2.2.2.1 p.2.2.2.2.2) (.exit 8) .ret K9.enc K9.enc
theorem LP:bM PR (bm Bc) s9 OB (bV (bC kY.body) 33):=lB (cs:=[]) (ss:=[]) (E:=aX tab sl sh [] []) (an:=kY.an) (aY base aN aN) BY (by kernel_rfl) (ae.du rfl oq.keys (aC (.inl (by kernel_rfl)) (aC (.inl (by kernel_rfl)) (aC (.inl (by kernel_rfl)) (aC (.inl (by kernel_rfl)) aN))))) rfl rfl (fun x y h=>⟨_,h⟩) (fun _=>rfl) fun _=>by kernel_rfl
def Ii (b1:Bool)(i1:Int)(d1:aw):Option ((Bool×Int×aw)⊕(((Bool×aw)⊕(Bool×aw)))) :=
 cond (decide (i1 < (d1.log.length:Int)))
 (cond (decide (0≤i1))
 (ob (d1.log[i1.toNat]?) fun e0 =>
 ob (Dz b1 i1 0 0 d1 e0) fun y1 =>
 two y1 (fun a2 =>
 cond (a2.2.2.2.2.aP.seq != (aF (a2.2.2.1+1)))
 (some (.inr (.inr (false,a2.2.2.2.1))))
 (ob (vF a2.2.2.2.2) fun r4 =>
 cond (r4 != 0)
 (some (.inr (.inr (false,a2.2.2.2.1))))
 (some (.inl (a2.1,(aF (a2.2.1+1)),a2.2.2.2.1))))) (fun b3 =>
 some (.inr (.inr (b3.1,b3.2.2.2.1)))))
 none)
 (some (.inr (.inl (b1,d1))))
def As (p:Bool×Int×aw):Option ((Bool×Int×aw)⊕(((Bool×aw)⊕(Bool×aw)))):=Ii p.1 p.2.1 p.2.2
def xK (b1:Bool)(i1:Int)(d1:aw):Option (((Bool×aw)⊕(Bool×aw))):=bZ As (1099511627776) (b1,i1,d1)
def aCS:kT (Bool×Int×aw):=kO (kS 1 (kC kB (kC (kP 0 0) (kC kI kN))) (kC (aD.var 0 50 iy) kN)) (fun p=>(p.1.1,p.1.2.2.1,p.2.1)) (fun (x:Bool×Int×aw)=>((x.1,((),(x.2.1,()))),(x.2.2,()))) (fun _=>rfl)
def Kk:kT (Bool×aw):=kO (kS 2 (kC kB kN) (kC (aD.var 0 50 iy) kN)) (fun p=>(p.1.1,p.2.1)) (fun (x:Bool×aw)=>((x.1,()),(x.2,()))) (fun _=>rfl)
def LQ:aM TL:=aM.two aCS.dec (fun p=>xK p.1 p.2.1 p.2.2) (.exit 6) .ret Kk.enc Kk.enc
theorem aC6:bM PR (bm LQ) s9 OK (bV (bC kY.body) 28):=lB (cs:=[(34,Fu)]) (ss:=[(107033,Bc)]) (E:=aX tab sl sh [] [(34,.pure)]) (an:=kY.an) (aY base aN (aC (oD XO rfl) aN)) As (by kernel_rfl) (ae.du rfl oq.keys (aC (.inl (by kernel_rfl)) (aC (.inl (by kernel_rfl)) (aC (.inl (by kernel_rfl)) (aC (.inr (lC LP rfl)) aN))))) rfl rfl (fun x y h=>⟨_,h⟩) (fun _=>rfl) fun _=>by kernel_rfl
def Ao (l1:List Act):Option Bool :=
 ob (known) fun r0 =>
 cond (!r0)
 (some false)
 (ob (w6 l1) fun r1 =>
 cond (!r1)
 (some true)
 (ob (Bj) fun r2 =>
 ob (EI l1 false 0 r2) fun y3 =>
 two y3 (fun a4 =>
 ob (xK a4.1 0 a4.2) fun y6 =>
 two y6 (fun _ =>
 some true) (fun b8 =>
 some b8.1)) (fun b5 =>
 some b5.1)))
def Fs (p:(List Act)):Option Bool:=Ao p
def XW:aQ TL:=aQ.of (DA.one (DT.one qC)) Fs (DA.one dB)
theorem X7:be PR 7 .pure XW:=bx (cs:=[(15,M3),(22,Ju),(17,Gl)]) (ss:=[(107007,Ny),(107017,Bi),(107028,LQ),(107033,Bc)]) (E:=aX tab sl sh [(7,kY)] [(15,.pure),(22,.pure),(17,.keep)]) (fun _=>by kernel_rfl) (aY base (aC (oq.ak rfl (aC (lC aE9 rfl) (aC (lC Lq rfl) (aC (lC aC6 rfl) (aC (lC LP rfl) aN))))) aN) (aC (oD aDI rfl) (aC (oD aAm rfl) (aC (oD Yb rfl) aN)))) (.inr rfl) oq.enters
end
end Go.Proofs.YtcjpeijiaojeiaaGreat
