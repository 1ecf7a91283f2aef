/- By program (gen.py): the functions in their typed form. -/
import Derived.Test.YtcjpeijiaojeiaaGreatF1
import Derived.Test.YtcjpeijiaojeiaaGreatHa
import Derived.Test.YtcjpeijiaojeiaaGreatLb
namespace Go.Proofs.YtcjpeijiaojeiaaGreat
open Go Go.Ev
set_option maxRecDepth 1000000
noncomputable section
def qq (bx1:aG)(i1:Int)(i2:Int):Option (aG×Int) :=
 ob (fP bx1) fun y0 =>
 ob (nW y0 i1 i2) fun r1 =>
 cond (decide (r1 < 0))
 (some (y0,2))
 (cond (decide (0≤r1))
 (cond (decide (r1 < (y0.aP.length:Int)))
 (ob (y0.aP[r1.toNat]?) fun e2 =>
 ob (RV r1 e2.aX (e2.aX.length:Int) 0 y0 (aG.mk [] [] [] []) e2) fun y3 =>
 ob (QH y3.1 y3.2.2.2.ids y3.2.2.2.used (y3.2.2.2.used.length:Int) 0 y3.2.1 y3.2.2.1) fun y4 =>
 ob (QQ y4.1 y4.2.1 (y4.2.1.length:Int) 0 y4.2.2.1 y4.2.2.2) fun y5 =>
 cond (decide (0≤y5.1))
 (cond (decide (y5.1≤(aF (y5.1+1))))
 (cond (decide ((aF (y5.1+1))≤(y5.2.1.aP.length:Int)))
 (cond (fits y5.2.1.aP.length)
 (ob (fP (aG.mk y5.2.1.ak y5.2.1.free ((y5.2.1.aP.take y5.1.toNat)++((y5.2.1.aP.take y5.2.1.aP.length).drop (((aF (y5.1+1))).toNat))) y5.2.1.bF)) fun y6 =>
 some (y6,0))
 none)
 none)
 none)
 none)
 none)
 none)
def H6 (p:aG×Int×Int):Option (aG×Int):=qq p.1 p.2.1 p.2.2
def zg:aV TL:=aV.of (DA.cons (DT.agg dU) (DA.cons dI (DA.one dI))) H6 (DA.cons (DT.agg dU) (DA.one dI))
theorem Xo:bi [(162,uE)] [(124,ms),(236007,NR),(236016,L0),(236026,LB)] (aY tab sl sh [(136,iJ)] [(124,.sum),(162,.pure),(166,(.del 43))]) 136 (DA.cons (DT.agg dU) (DA.cons dI (DA.one dI))) H6 (DA.cons (DT.agg dU) (DA.one dI)):=fun _=>by kernel_rfl
theorem H9:bU PR 136 .keep zg:=bj Xo (aZ base (aC (tH.ae rfl (aC (lC aE0 rfl) (aC (lC aCt rfl) (aC (lC aBk rfl) aN)))) aN) (aC (dj rfl qf) (aC (oD AA rfl) (aC (aKl aGd) aN)))) (.inl rfl) tH.enters
def uA (c1:az):Option (aO×az) :=
 cond (decide (0≤c1.c.device) && decide (c1.c.device < 6))
 (ob (nH c1.d.book c1.c.device (cond (decide (c1.c.device=0)) c1.d.dev.a0.aB (cond (decide (c1.c.device=1)) c1.d.dev.a1.aB (cond (decide (c1.c.device=2)) c1.d.dev.a2.aB (cond (decide (c1.c.device=3)) c1.d.dev.a3.aB (cond (decide (c1.c.device=4)) c1.d.dev.a4.aB c1.d.dev.a5.aB)))))) fun r0 =>
 cond (!r0.2)
 (ob (dY 2) fun r1 =>
 some (r1,c1))
 (cond (r0.1.last == (-1))
 (ob (dY 19) fun r2 =>
 some (r2,c1))
 (ob (jX c1.d.log c1.c.device (cond (decide (c1.c.device=0)) c1.d.dev.a0.aB (cond (decide (c1.c.device=1)) c1.d.dev.a1.aB (cond (decide (c1.c.device=2)) c1.d.dev.a2.aB (cond (decide (c1.c.device=3)) c1.d.dev.a3.aB (cond (decide (c1.c.device=4)) c1.d.dev.a4.aB c1.d.dev.a5.aB)))))) fun r3 =>
 cond (decide (r3 < r0.1.last))
 (ob (dY 12) fun r4 =>
 some (r4,c1))
 (cond (decide (c1.d.now < (aF (r0.1.bC+5))))
 (ob (dY 20) fun r5 =>
 some (r5,c1))
 (ob (qq c1.d.book c1.c.device (cond (decide (c1.c.device=0)) c1.d.dev.a0.aB (cond (decide (c1.c.device=1)) c1.d.dev.a1.aB (cond (decide (c1.c.device=2)) c1.d.dev.a2.aB (cond (decide (c1.c.device=3)) c1.d.dev.a3.aB (cond (decide (c1.c.device=4)) c1.d.dev.a4.aB c1.d.dev.a5.aB)))))) fun r6 =>
 some ((aO.mk 0 0 (aI.mk 0 0 0 0 [] [] [])),(az.mk (bI.mk r6.1 c1.d.aM c1.d.log c1.d.dev c1.d.lost c1.d.now) c1.c)))))))
 none
def zI (p:az):Option (aO×az):=uA p
def G9:aT TL:=aT.one eP.dec zI .normal ii.aJ
def G3:cL:=[(134,tp),(39,jY),(133,mg),(136,zg)]
def GU:Env:=aY tab sl sh [(88,WJ),(128,mZ)] [(134,.keep),(39,.keep),(133,(.rd 22 61)),(136,.keep)]
theorem W8:bK PR (bJ G3 sZ) GU:=aZ base (aC (VR.ae rfl aN) (aC (o4.ae rfl aN) aN)) (aC (oD zV rfl) (aC (oD jq rfl) (aC (oD qa rfl) (aC (oD H9 rfl) aN))))
theorem XC (x:az):Out.run (bO G3 sZ) (eZ GU 12 20 88 (eP.aJ x)) (ef ii)=zI x:=by kernel_rfl
theorem XZ:ez PR 88 G9:=fW W8 (loops:=12) (n:=20) VR.enters eP ii zI XC
def wJ (c1:az):Option (aO×az) :=
 cond (decide (0≤c1.c.device) && decide (c1.c.device < 6))
 (cond ((cond (decide (c1.c.device=0)) c1.d.dev.a0.aB (cond (decide (c1.c.device=1)) c1.d.dev.a1.aB (cond (decide (c1.c.device=2)) c1.d.dev.a2.aB (cond (decide (c1.c.device=3)) c1.d.dev.a3.aB (cond (decide (c1.c.device=4)) c1.d.dev.a4.aB c1.d.dev.a5.aB))))) == 0)
 (ob (dY 2) fun r0 =>
 some (r0,c1))
 (ob (j2 c1.d.lost c1.c.device (cond (decide (c1.c.device=0)) c1.d.dev.a0.aB (cond (decide (c1.c.device=1)) c1.d.dev.a1.aB (cond (decide (c1.c.device=2)) c1.d.dev.a2.aB (cond (decide (c1.c.device=3)) c1.d.dev.a3.aB (cond (decide (c1.c.device=4)) c1.d.dev.a4.aB c1.d.dev.a5.aB)))))) fun r1 =>
 cond (r1)
 (ob (dY 7) fun r2 =>
 some (r2,c1))
 (ob (qq c1.d.book c1.c.device (cond (decide (c1.c.device=0)) c1.d.dev.a0.aB (cond (decide (c1.c.device=1)) c1.d.dev.a1.aB (cond (decide (c1.c.device=2)) c1.d.dev.a2.aB (cond (decide (c1.c.device=3)) c1.d.dev.a3.aB (cond (decide (c1.c.device=4)) c1.d.dev.a4.aB c1.d.dev.a5.aB)))))) fun r3 =>
 ob (jX c1.d.log c1.c.device (cond (decide (c1.c.device=0)) c1.d.dev.a0.aB (cond (decide (c1.c.device=1)) c1.d.dev.a1.aB (cond (decide (c1.c.device=2)) c1.d.dev.a2.aB (cond (decide (c1.c.device=3)) c1.d.dev.a3.aB (cond (decide (c1.c.device=4)) c1.d.dev.a4.aB c1.d.dev.a5.aB)))))) fun r4 =>
 cond (fits ((c1.d.lost++[(aL.mk c1.c.device (cond (decide (c1.c.device=0)) c1.d.dev.a0.aB (cond (decide (c1.c.device=1)) c1.d.dev.a1.aB (cond (decide (c1.c.device=2)) c1.d.dev.a2.aB (cond (decide (c1.c.device=3)) c1.d.dev.a3.aB (cond (decide (c1.c.device=4)) c1.d.dev.a4.aB c1.d.dev.a5.aB))))) r4)]).length))
 (some ((aO.mk 0 r4 (aI.mk 0 0 0 0 [] [] [])),(az.mk (bI.mk r3.1 c1.d.aM c1.d.log c1.d.dev (c1.d.lost++[(aL.mk c1.c.device (cond (decide (c1.c.device=0)) c1.d.dev.a0.aB (cond (decide (c1.c.device=1)) c1.d.dev.a1.aB (cond (decide (c1.c.device=2)) c1.d.dev.a2.aB (cond (decide (c1.c.device=3)) c1.d.dev.a3.aB (cond (decide (c1.c.device=4)) c1.d.dev.a4.aB c1.d.dev.a5.aB))))) r4)]) c1.d.now) c1.c)))
 none)))
 none
def zt (p:az):Option (aO×az):=wJ p
def IS:aT TL:=aT.one eP.dec zt .normal ii.aJ
def Iz:cL:=[(39,jY),(129,mr),(136,zg),(133,mg)]
def HM:Env:=aY tab sl sh [(89,VM),(128,mZ)] [(39,.keep),(129,(.rd 89 66)),(136,.keep),(133,(.rd 22 61))]
theorem XK:bK PR (bJ Iz sZ) HM:=aZ base (aC (Uw.ae rfl aN) (aC (o4.ae rfl aN) aN)) (aC (oD jq rfl) (aC (oD qg rfl) (aC (oD H9 rfl) (aC (oD qa rfl) aN))))
theorem Yn (x:az):Out.run (bO Iz sZ) (eZ HM 12 20 89 (eP.aJ x)) (ef ii)=zt x:=by kernel_rfl
theorem ZK:ez PR 89 IS:=fW XK (loops:=12) (n:=20) Uw.enters eP ii zt Yn
def rj (c1:az):Option (aO×az) :=
 cond (cond (decide (c1.c.n < 0)) true (decide (c1.c.n > 1099511627776)))
 (ob (dY 1) fun r0 =>
 some (r0,c1))
 (some ((aO.mk 0 0 (aI.mk 0 0 0 0 [] [] [])),(az.mk (bI.mk c1.d.book c1.d.aM c1.d.log c1.d.dev c1.d.lost (max2 c1.d.now c1.c.n)) c1.c)))
def AH (p:az):Option (aO×az):=rj p
def If:aT TL:=aT.one eP.dec AH .normal me.aJ
def IF:cL:=[(39,jY)]
def H3:Env:=aY tab sl sh [(90,V9)] [(39,.keep)]
theorem XQ:bK PR (bJ IF sZ) H3:=aZ base (aC (Ue.ae rfl aN) aN) (aC (oD jq rfl) aN)
theorem YP (x:az):Out.run (bO IF sZ) (eZ H3 12 20 90 (eP.aJ x)) (ef me)=AH x:=by kernel_rfl
theorem ZG:ez PR 90 If:=fW XQ (loops:=12) (n:=20) Ue.enters eP me AH YP
def ld (c1:az):Option (aO×az) :=
 cond (c1.c.kind == 1)
 (ob (tv c1) fun y0 =>
 some (y0.1,y0.2))
 (cond (c1.c.kind == 2)
 (ob (tx c1) fun y1 =>
 some (y1.1,y1.2))
 (cond (c1.c.kind == 3)
 (ob (rC c1) fun y2 =>
 some (y2.1,y2.2))
 (cond (c1.c.kind == 4)
 (ob (wM c1) fun y3 =>
 some (y3.1,y3.2))
 (cond (c1.c.kind == 5)
 (ob (uA c1) fun y4 =>
 some (y4.1,y4.2))
 (cond (c1.c.kind == 6)
 (ob (wJ c1) fun y5 =>
 some (y5.1,y5.2))
 (ob (rj c1) fun y6 =>
 some (y6.1,y6.2)))))))
def AI (p:az):Option (aO×az):=ld p
def I2:aT TL:=aT.one eP.dec AI .normal mn.aJ
def JH:sL:=[(84,GN),(85,GX),(86,Hn),(87,Ip),(88,G9),(89,IS),(90,If)]
def Hd:Env:=aY tab sl sh [(40,Vy)] [(84,.sum),(85,.sum),(86,.sum),(87,.sum),(88,.sum),(89,.sum),(90,.sum)]
theorem Wz:bK PR (bJ cZ JH) Hd:=aZ base (aC (V3.ae rfl aN) aN) (aC (dj rfl XN) (aC (dj rfl XH) (aC (dj rfl YL) (aC (dj rfl Zc) (aC (dj rfl XZ) (aC (dj rfl ZK) (aC (dj rfl ZG) aN)))))))
theorem Ye (x:az):Out.run (bO cZ JH) (eZ Hd 12 20 40 (eP.aJ x)) (ef mn)=AI x:=by kernel_rfl
theorem Z5:ez PR 40 I2:=fW Wz (loops:=12) (n:=20) V3.enters eP mn AI Ye
def iU (d1:bI)(c1:bg):Option (bI×aO) :=
 cond (cond (decide (c1.kind < 1)) true (decide (c1.kind > 7)))
 (ob (dm d1) fun y0 =>
 ob (dY 3) fun r1 =>
 some (y0,r1))
 (cond (cond (c1.kind != 7) (!(cond (decide (c1.device≥0)) (decide (c1.device < 6)) false)) false)
 (ob (dm d1) fun y2 =>
 ob (dY 1) fun r3 =>
 some (y2,r3))
 (cond (c1.kind == 1)
 (ob (dm d1) fun y4 =>
 cond (decide (0≤c1.device) && decide (c1.device < 6))
 (cond (cond (decide (c1.aK < 1)) true (decide (c1.aK > 1073741824)))
 (ob (dm d1) fun y5 =>
 ob (dY 1) fun r6 =>
 some (y5,r6))
 (cond (c1.aK == (cond (decide (c1.device=0)) y4.dev.a0.aK (cond (decide (c1.device=1)) y4.dev.a1.aK (cond (decide (c1.device=2)) y4.dev.a2.aK (cond (decide (c1.device=3)) y4.dev.a3.aK (cond (decide (c1.device=4)) y4.dev.a4.aK y4.dev.a5.aK))))))
 (ob (dm d1) fun y7 =>
 some (y7,(aO.cW (decide (c1.device=0)) y4.dev.a0.aA (aO.mk (cond (decide (c1.device=1)) y4.dev.a1.aA.err (cond (decide (c1.device=2)) y4.dev.a2.aA.err (cond (decide (c1.device=3)) y4.dev.a3.aA.err (cond (decide (c1.device=4)) y4.dev.a4.aA.err y4.dev.a5.aA.err)))) (cond (decide (c1.device=1)) y4.dev.a1.aA.n (cond (decide (c1.device=2)) y4.dev.a2.aA.n (cond (decide (c1.device=3)) y4.dev.a3.aA.n (cond (decide (c1.device=4)) y4.dev.a4.aA.n y4.dev.a5.aA.n)))) (aI.mk (cond (decide (c1.device=1)) y4.dev.a1.aA.aD.device (cond (decide (c1.device=2)) y4.dev.a2.aA.aD.device (cond (decide (c1.device=3)) y4.dev.a3.aA.aD.device (cond (decide (c1.device=4)) y4.dev.a4.aA.aD.device y4.dev.a5.aA.aD.device)))) (cond (decide (c1.device=1)) y4.dev.a1.aA.aD.aB (cond (decide (c1.device=2)) y4.dev.a2.aA.aD.aB (cond (decide (c1.device=3)) y4.dev.a3.aA.aD.aB (cond (decide (c1.device=4)) y4.dev.a4.aA.aD.aB y4.dev.a5.aA.aD.aB)))) (cond (decide (c1.device=1)) y4.dev.a1.aA.aD.bC (cond (decide (c1.device=2)) y4.dev.a2.aA.aD.bC (cond (decide (c1.device=3)) y4.dev.a3.aA.aD.bC (cond (decide (c1.device=4)) y4.dev.a4.aA.aD.bC y4.dev.a5.aA.aD.bC)))) (cond (decide (c1.device=1)) y4.dev.a1.aA.aD.last (cond (decide (c1.device=2)) y4.dev.a2.aA.aD.last (cond (decide (c1.device=3)) y4.dev.a3.aA.aD.last (cond (decide (c1.device=4)) y4.dev.a4.aA.aD.last y4.dev.a5.aA.aD.last)))) (cond (decide (c1.device=1)) y4.dev.a1.aA.aD.aX (cond (decide (c1.device=2)) y4.dev.a2.aA.aD.aX (cond (decide (c1.device=3)) y4.dev.a3.aA.aD.aX (cond (decide (c1.device=4)) y4.dev.a4.aA.aD.aX y4.dev.a5.aA.aD.aX)))) (cond (decide (c1.device=1)) y4.dev.a1.aA.aD.ids (cond (decide (c1.device=2)) y4.dev.a2.aA.aD.ids (cond (decide (c1.device=3)) y4.dev.a3.aA.aD.ids (cond (decide (c1.device=4)) y4.dev.a4.aA.aD.ids y4.dev.a5.aA.aD.ids)))) (cond (decide (c1.device=1)) y4.dev.a1.aA.aD.used (cond (decide (c1.device=2)) y4.dev.a2.aA.aD.used (cond (decide (c1.device=3)) y4.dev.a3.aA.aD.used (cond (decide (c1.device=4)) y4.dev.a4.aA.aD.used y4.dev.a5.aA.aD.used)))))))))
 (cond (decide (c1.aK < (cond (decide (c1.device=0)) y4.dev.a0.aK (cond (decide (c1.device=1)) y4.dev.a1.aK (cond (decide (c1.device=2)) y4.dev.a2.aK (cond (decide (c1.device=3)) y4.dev.a3.aK (cond (decide (c1.device=4)) y4.dev.a4.aK y4.dev.a5.aK)))))))
 (ob (dm d1) fun y8 =>
 ob (dY 7) fun r9 =>
 some (y8,r9))
 (ob (dm d1) fun y16 =>
 ob (ld (az.mk y16 c1)) fun y17 =>
 cond (y17.1.err != 0)
 (ob (dm d1) fun y18 =>
 cond (decide (0≤c1.device) && decide (c1.device < 6))
 (cond (decide (0≤c1.device) && decide (c1.device < 6))
 (ob (gT y17.1.aD) fun y19 =>
 ob (dm (bI.mk y18.book y18.aM y18.log (dw.mk (Device.mk y18.dev.a0.aB (cond (decide (c1.device=0)) c1.aK y18.dev.a0.aK) (aO.cW (decide (c1.device=0)) y17.1 y18.dev.a0.aA)) (Device.mk y18.dev.a1.aB (cond (decide (c1.device=1)) c1.aK y18.dev.a1.aK) (aO.cW (decide (c1.device=1)) y17.1 y18.dev.a1.aA)) (Device.mk y18.dev.a2.aB (cond (decide (c1.device=2)) c1.aK y18.dev.a2.aK) (aO.cW (decide (c1.device=2)) y17.1 y18.dev.a2.aA)) (Device.mk y18.dev.a3.aB (cond (decide (c1.device=3)) c1.aK y18.dev.a3.aK) (aO.cW (decide (c1.device=3)) y17.1 y18.dev.a3.aA)) (Device.mk y18.dev.a4.aB (cond (decide (c1.device=4)) c1.aK y18.dev.a4.aK) (aO.cW (decide (c1.device=4)) y17.1 y18.dev.a4.aA)) (Device.mk y18.dev.a5.aB (cond (decide (c1.device=5)) c1.aK y18.dev.a5.aK) (aO.cW (decide (c1.device=5)) y17.1 y18.dev.a5.aA))) y18.lost y18.now)) fun y20 =>
 some (y20,(aO.mk y17.1.err y17.1.n y19)))
 none)
 none)
 (ob (dm y17.2.d) fun y21 =>
 cond (decide (0≤c1.device) && decide (c1.device < 6))
 (cond (decide (0≤c1.device) && decide (c1.device < 6))
 (ob (gT y17.1.aD) fun y22 =>
 ob (dm (bI.mk y21.book y21.aM y21.log (dw.mk (Device.mk y21.dev.a0.aB (cond (decide (c1.device=0)) c1.aK y21.dev.a0.aK) (aO.cW (decide (c1.device=0)) y17.1 y21.dev.a0.aA)) (Device.mk y21.dev.a1.aB (cond (decide (c1.device=1)) c1.aK y21.dev.a1.aK) (aO.cW (decide (c1.device=1)) y17.1 y21.dev.a1.aA)) (Device.mk y21.dev.a2.aB (cond (decide (c1.device=2)) c1.aK y21.dev.a2.aK) (aO.cW (decide (c1.device=2)) y17.1 y21.dev.a2.aA)) (Device.mk y21.dev.a3.aB (cond (decide (c1.device=3)) c1.aK y21.dev.a3.aK) (aO.cW (decide (c1.device=3)) y17.1 y21.dev.a3.aA)) (Device.mk y21.dev.a4.aB (cond (decide (c1.device=4)) c1.aK y21.dev.a4.aK) (aO.cW (decide (c1.device=4)) y17.1 y21.dev.a4.aA)) (Device.mk y21.dev.a5.aB (cond (decide (c1.device=5)) c1.aK y21.dev.a5.aK) (aO.cW (decide (c1.device=5)) y17.1 y21.dev.a5.aA))) y21.lost y21.now)) fun y23 =>
 some (y23,(aO.mk y17.1.err y17.1.n y22)))
 none)
 none)))))
 none)
 (cond (cond (c1.kind == 2) (c1.kind == 2) (c1.kind == 4))
 (ob (dm d1) fun y10 =>
 cond (decide (0≤c1.device) && decide (c1.device < 6))
 (cond (cond (decide (c1.aK < 1)) true (decide (c1.aK > 1073741824)))
 (ob (dm d1) fun y11 =>
 ob (dY 1) fun r12 =>
 some (y11,r12))
 (cond (c1.aK == (cond (decide (c1.device=0)) y10.dev.a0.aK (cond (decide (c1.device=1)) y10.dev.a1.aK (cond (decide (c1.device=2)) y10.dev.a2.aK (cond (decide (c1.device=3)) y10.dev.a3.aK (cond (decide (c1.device=4)) y10.dev.a4.aK y10.dev.a5.aK))))))
 (ob (dm d1) fun y13 =>
 some (y13,(aO.cW (decide (c1.device=0)) y10.dev.a0.aA (aO.mk (cond (decide (c1.device=1)) y10.dev.a1.aA.err (cond (decide (c1.device=2)) y10.dev.a2.aA.err (cond (decide (c1.device=3)) y10.dev.a3.aA.err (cond (decide (c1.device=4)) y10.dev.a4.aA.err y10.dev.a5.aA.err)))) (cond (decide (c1.device=1)) y10.dev.a1.aA.n (cond (decide (c1.device=2)) y10.dev.a2.aA.n (cond (decide (c1.device=3)) y10.dev.a3.aA.n (cond (decide (c1.device=4)) y10.dev.a4.aA.n y10.dev.a5.aA.n)))) (aI.mk (cond (decide (c1.device=1)) y10.dev.a1.aA.aD.device (cond (decide (c1.device=2)) y10.dev.a2.aA.aD.device (cond (decide (c1.device=3)) y10.dev.a3.aA.aD.device (cond (decide (c1.device=4)) y10.dev.a4.aA.aD.device y10.dev.a5.aA.aD.device)))) (cond (decide (c1.device=1)) y10.dev.a1.aA.aD.aB (cond (decide (c1.device=2)) y10.dev.a2.aA.aD.aB (cond (decide (c1.device=3)) y10.dev.a3.aA.aD.aB (cond (decide (c1.device=4)) y10.dev.a4.aA.aD.aB y10.dev.a5.aA.aD.aB)))) (cond (decide (c1.device=1)) y10.dev.a1.aA.aD.bC (cond (decide (c1.device=2)) y10.dev.a2.aA.aD.bC (cond (decide (c1.device=3)) y10.dev.a3.aA.aD.bC (cond (decide (c1.device=4)) y10.dev.a4.aA.aD.bC y10.dev.a5.aA.aD.bC)))) (cond (decide (c1.device=1)) y10.dev.a1.aA.aD.last (cond (decide (c1.device=2)) y10.dev.a2.aA.aD.last (cond (decide (c1.device=3)) y10.dev.a3.aA.aD.last (cond (decide (c1.device=4)) y10.dev.a4.aA.aD.last y10.dev.a5.aA.aD.last)))) (cond (decide (c1.device=1)) y10.dev.a1.aA.aD.aX (cond (decide (c1.device=2)) y10.dev.a2.aA.aD.aX (cond (decide (c1.device=3)) y10.dev.a3.aA.aD.aX (cond (decide (c1.device=4)) y10.dev.a4.aA.aD.aX y10.dev.a5.aA.aD.aX)))) (cond (decide (c1.device=1)) y10.dev.a1.aA.aD.ids (cond (decide (c1.device=2)) y10.dev.a2.aA.aD.ids (cond (decide (c1.device=3)) y10.dev.a3.aA.aD.ids (cond (decide (c1.device=4)) y10.dev.a4.aA.aD.ids y10.dev.a5.aA.aD.ids)))) (cond (decide (c1.device=1)) y10.dev.a1.aA.aD.used (cond (decide (c1.device=2)) y10.dev.a2.aA.aD.used (cond (decide (c1.device=3)) y10.dev.a3.aA.aD.used (cond (decide (c1.device=4)) y10.dev.a4.aA.aD.used y10.dev.a5.aA.aD.used)))))))))
 (cond (decide (c1.aK < (cond (decide (c1.device=0)) y10.dev.a0.aK (cond (decide (c1.device=1)) y10.dev.a1.aK (cond (decide (c1.device=2)) y10.dev.a2.aK (cond (decide (c1.device=3)) y10.dev.a3.aK (cond (decide (c1.device=4)) y10.dev.a4.aK y10.dev.a5.aK)))))))
 (ob (dm d1) fun y14 =>
 ob (dY 7) fun r15 =>
 some (y14,r15))
 (ob (dm d1) fun y24 =>
 ob (ld (az.mk y24 c1)) fun y25 =>
 cond (y25.1.err != 0)
 (ob (dm d1) fun y26 =>
 cond (decide (0≤c1.device) && decide (c1.device < 6))
 (cond (decide (0≤c1.device) && decide (c1.device < 6))
 (ob (gT y25.1.aD) fun y27 =>
 ob (dm (bI.mk y26.book y26.aM y26.log (dw.mk (Device.mk y26.dev.a0.aB (cond (decide (c1.device=0)) c1.aK y26.dev.a0.aK) (aO.cW (decide (c1.device=0)) y25.1 y26.dev.a0.aA)) (Device.mk y26.dev.a1.aB (cond (decide (c1.device=1)) c1.aK y26.dev.a1.aK) (aO.cW (decide (c1.device=1)) y25.1 y26.dev.a1.aA)) (Device.mk y26.dev.a2.aB (cond (decide (c1.device=2)) c1.aK y26.dev.a2.aK) (aO.cW (decide (c1.device=2)) y25.1 y26.dev.a2.aA)) (Device.mk y26.dev.a3.aB (cond (decide (c1.device=3)) c1.aK y26.dev.a3.aK) (aO.cW (decide (c1.device=3)) y25.1 y26.dev.a3.aA)) (Device.mk y26.dev.a4.aB (cond (decide (c1.device=4)) c1.aK y26.dev.a4.aK) (aO.cW (decide (c1.device=4)) y25.1 y26.dev.a4.aA)) (Device.mk y26.dev.a5.aB (cond (decide (c1.device=5)) c1.aK y26.dev.a5.aK) (aO.cW (decide (c1.device=5)) y25.1 y26.dev.a5.aA))) y26.lost y26.now)) fun y28 =>
 some (y28,(aO.mk y25.1.err y25.1.n y27)))
 none)
 none)
 (ob (dm y25.2.d) fun y29 =>
 cond (decide (0≤c1.device) && decide (c1.device < 6))
 (cond (decide (0≤c1.device) && decide (c1.device < 6))
 (ob (gT y25.1.aD) fun y30 =>
 ob (dm (bI.mk y29.book y29.aM y29.log (dw.mk (Device.mk y29.dev.a0.aB (cond (decide (c1.device=0)) c1.aK y29.dev.a0.aK) (aO.cW (decide (c1.device=0)) y25.1 y29.dev.a0.aA)) (Device.mk y29.dev.a1.aB (cond (decide (c1.device=1)) c1.aK y29.dev.a1.aK) (aO.cW (decide (c1.device=1)) y25.1 y29.dev.a1.aA)) (Device.mk y29.dev.a2.aB (cond (decide (c1.device=2)) c1.aK y29.dev.a2.aK) (aO.cW (decide (c1.device=2)) y25.1 y29.dev.a2.aA)) (Device.mk y29.dev.a3.aB (cond (decide (c1.device=3)) c1.aK y29.dev.a3.aK) (aO.cW (decide (c1.device=3)) y25.1 y29.dev.a3.aA)) (Device.mk y29.dev.a4.aB (cond (decide (c1.device=4)) c1.aK y29.dev.a4.aK) (aO.cW (decide (c1.device=4)) y25.1 y29.dev.a4.aA)) (Device.mk y29.dev.a5.aB (cond (decide (c1.device=5)) c1.aK y29.dev.a5.aK) (aO.cW (decide (c1.device=5)) y25.1 y29.dev.a5.aA))) y29.lost y29.now)) fun y31 =>
 some (y31,(aO.mk y25.1.err y25.1.n y30)))
 none)
 none)))))
 none)
 (ob (dm d1) fun y32 =>
 ob (ld (az.mk y32 c1)) fun y33 =>
 cond (y33.1.err != 0)
 (ob (dm d1) fun y34 =>
 ob (gT y33.1.aD) fun y35 =>
 ob (dm y34) fun y36 =>
 some (y36,(aO.mk y33.1.err y33.1.n y35)))
 (ob (dm y33.2.d) fun y37 =>
 ob (gT y33.1.aD) fun y38 =>
 ob (dm y37) fun y39 =>
 some (y39,(aO.mk y33.1.err y33.1.n y38)))))))
def Nb (p:bI×bg):Option (bI×aO):=iU p.1 p.2
def CC:aV TL:=aV.of (DA.cons (DT.agg fv) (DA.one (DT.agg yQ))) Nb (DA.cons (DT.agg fv) (DA.one (DT.agg lG)))
theorem aCZ:bi [(39,jY)] [(38,ME),(40,I2),(41,uJ)] (aY tab sl sh [(18,Vx)] [(38,.sum),(39,.keep),(40,.sum),(41,.sum)]) 18 (DA.cons (DT.agg fv) (DA.one (DT.agg yQ))) Nb (DA.cons (DT.agg fv) (DA.one (DT.agg lG))):=fun _=>by kernel_rfl
theorem MU:bU PR 18 .keep CC:=bj aCZ (aZ base (aC (Vr.ae rfl aN) aN) (aC (dj rfl aBj) (aC (oD jq rfl) (aC (dj rfl Z5) (aC (dj rfl zi) aN))))) (.inl rfl) Vr.enters
abbrev jg:=(List aL)×(List aL)×Bool×Int×Int
def BF (l1:List aL)(l2:List aL)(b1:Bool)(i1:Int)(i2:Int):Option ((jg)⊕(((Bool)⊕(Bool)))) :=
 cond (decide (i2 < i1))
 (cond (decide (0≤i2))
 (ob (l1[i2.toNat]?) fun e0 =>
 cond (decide (0≤i2))
 (ob (l2[i2.toNat]?) fun e1 =>
 cond (!(cond (e0.device == e1.device) (cond (e0.aB == e1.aB) (cond (e0.seq == e1.seq) true false) false) false))
 (some (.inr (.inr false)))
 (some (.inl (l1,l2,b1,i1,(aF (i2+1))))))
 none)
 none)
 (some (.inr (.inl b1)))
def ry (p:jg):Option ((jg)⊕(((Bool)⊕(Bool)))):=BF p.1 p.2.1 p.2.2.1 p.2.2.2.1 p.2.2.2.2
def FN (l1:List aL)(l2:List aL)(b1:Bool)(i1:Int)(i2:Int):Option (((Bool)⊕(Bool))):=bm ry ((i1 - i2).toNat+2) (l1,l2,b1,i1,i2)
def lH:kT (jg):=kO (kS 0 (kC (kF bL) (kC (kF bL) (kC kB (kC kI (kC kI kN))))) kN) (fun ((z0,z1,z2,z3,z4,_),_)=>(z0,z1,z2,z3,z4)) (fun (x:jg)=>((x.1,(x.2.1,(x.2.2.1,(x.2.2.2.1,(x.2.2.2.2,()))))),())) (fun _=>rfl)
def Oy:aT TL:=aT.two lH.dec (fun p=>FN p.1 p.2.1 p.2.2.1 p.2.2.2.1 p.2.2.2.2) (.exit 0) .ret bP.aJ bP.aJ
def Qc:Env:=aY tab sl sh [] []
theorem aCH:bK PR (bJ cZ sZ) Qc:=aZ base aN aN
theorem aEW (x:jg):Out.run (bO cZ sZ) (bp Qc 12 20 pG.an DU (ag (a8 pG.body) 4) (lH.aJ x)) (cj lH bP bP (.exit 0) .ret)=ry x:=by kernel_rfl
theorem aGO:bZ PR (bx Oy) VL DU (ag (a8 pG.body) 4) :=
  dL aCH (loops:=12) (k:=20) (an:=pG.an) (by kernel_rfl) (aR.cI rfl Fa.keys (aC (.inl (by kernel_rfl)) aN)) lH bP bP (.exit 0) .ret rfl rfl ry _ aEW (fun x y h=>⟨_,h⟩) (fun _=>cA.1 rfl)
def kj (l1:List aL)(l2:List aL):Option Bool :=
 cond ((l1.length:Int) != (l2.length:Int))
 (some false)
 (ob (FN l1 l2 false (l1.length:Int) 0) fun y0 =>
 two y0 (fun _ =>
 some true) (fun b2 =>
 some b2))
def Hc (p:(List aL)×(List aL)):Option Bool:=kj p.1 p.2
def zd:aV TL:=aV.of (DA.cons (DT.one dP) (DA.one (DT.one dP))) Hc (DA.one dB)
theorem Xb:bi [] [(172004,Oy)] (aY tab sl sh [(72,pG)] []) 72 (DA.cons (DT.one dP) (DA.one (DT.one dP))) Hc (DA.one dB):=fun _=>by kernel_rfl
theorem HA:bU PR 72 .pure zd:=bj Xb (aZ base (aC (Fa.ae rfl (aC (lC aGO rfl) aN)) aN) aN) (.inr rfl) Fa.enters
abbrev pM:=(List dE)×(List dE)×Bool×Int×Int
def Aa (l1:List dE)(l2:List dE)(b1:Bool)(i1:Int)(i2:Int):Option ((pM)⊕(((Bool)⊕(Bool)))) :=
 cond (decide (i2 < i1))
 (cond (decide (0≤i2))
 (ob (l1[i2.toNat]?) fun e0 =>
 cond (decide (0≤i2))
 (ob (l2[i2.toNat]?) fun e1 =>
 cond (!(cond (dk e0.key e1.key) (cond (dk e0.text e1.text) (cond (e0.cU == e1.cU) (cond (e0.time == e1.time) (cond (cond (e0.al.device == e1.al.device) (cond (e0.al.aB == e1.al.aB) (cond (e0.al.seq == e1.al.seq) true false) false) false) true false) false) false) false) false))
 (some (.inr (.inr false)))
 (some (.inl (l1,l2,b1,i1,(aF (i2+1))))))
 none)
 none)
 (some (.inr (.inl b1)))
def rQ (p:pM):Option ((pM)⊕(((Bool)⊕(Bool)))):=Aa p.1 p.2.1 p.2.2.1 p.2.2.2.1 p.2.2.2.2
def Dy (l1:List dE)(l2:List dE)(b1:Bool)(i1:Int)(i2:Int):Option (((Bool)⊕(Bool))):=bm rQ ((i1 - i2).toNat+2) (l1,l2,b1,i1,i2)
def wq:kT (pM):=kO (kS 0 (kC (kF dC) (kC (kF dC) (kC kB (kC kI (kC kI kN))))) kN) (fun ((z0,z1,z2,z3,z4,_),_)=>(z0,z1,z2,z3,z4)) (fun (x:pM)=>((x.1,(x.2.1,(x.2.2.1,(x.2.2.2.1,(x.2.2.2.2,()))))),())) (fun _=>rfl)
def ML:aT TL:=aT.two wq.dec (fun p=>Dy p.1 p.2.1 p.2.2.1 p.2.2.2.1 p.2.2.2.2) (.exit 0) .ret bP.aJ bP.aJ
def P8:Env:=aY tab sl sh [] []
theorem aBU:bK PR (bJ cZ sZ) P8:=aZ base aN aN
theorem aCN (x:pM):Out.run (bO cZ sZ) (bp P8 12 20 oY.an DO (ag (a8 oY.body) 4) (wq.aJ x)) (cj wq bP bP (.exit 0) .ret)=rQ x:=by kernel_rfl
theorem aD9:bZ PR (bx ML) TT DO (ag (a8 oY.body) 4) :=
  dL aBU (loops:=12) (k:=20) (an:=oY.an) (by kernel_rfl) (aR.cI rfl Ef.keys (aC (.inl (by kernel_rfl)) aN)) wq bP bP (.exit 0) .ret rfl rfl rQ _ aCN (fun x y h=>⟨_,h⟩) (fun _=>cA.1 rfl)
def xE (l1:List dE)(l2:List dE):Option Bool :=
 cond ((l1.length:Int) != (l2.length:Int))
 (some false)
 (ob (Dy l1 l2 false (l1.length:Int) 0) fun y0 =>
 two y0 (fun _ =>
 some true) (fun b2 =>
 some b2))
def Jh (p:(List dE)×(List dE)):Option Bool:=xE p.1 p.2
def Ke:aV TL:=aV.of (DA.cons (DT.one mA) (DA.one (DT.one mA))) Jh (DA.one dB)
theorem ZT:bi [] [(209004,ML)] (aY tab sl sh [(109,oY)] []) 109 (DA.cons (DT.one mA) (DA.one (DT.one mA))) Jh (DA.one dB):=fun _=>by kernel_rfl
theorem aA3:bU PR 109 .pure Ke:=bj ZT (aZ base (aC (Ef.ae rfl (aC (lC aD9 rfl) aN)) aN) aN) (.inr rfl) Ef.enters
abbrev pk:=(List cH)×(List cH)×Bool×Int×Int
def Ah (l1:List cH)(l2:List cH)(b1:Bool)(i1:Int)(i2:Int):Option ((pk)⊕(((Bool)⊕(Bool)))) :=
 cond (decide (i2 < i1))
 (cond (decide (0≤i2))
 (ob (l1[i2.toNat]?) fun e0 =>
 cond (decide (0≤i2))
 (ob (l2[i2.toNat]?) fun e1 =>
 cond (!(cond (dk e0.key e1.key) (cond (dk e0.text e1.text) (cond (e0.cU == e1.cU) (cond (cond (e0.al.device == e1.al.device) (cond (e0.al.aB == e1.al.aB) (cond (e0.al.seq == e1.al.seq) true false) false) false) true false) false) false) false))
 (some (.inr (.inr false)))
 (some (.inl (l1,l2,b1,i1,(aF (i2+1))))))
 none)
 none)
 (some (.inr (.inl b1)))
def rB (p:pk):Option ((pk)⊕(((Bool)⊕(Bool)))):=Ah p.1 p.2.1 p.2.2.1 p.2.2.2.1 p.2.2.2.2
def EI (l1:List cH)(l2:List cH)(b1:Bool)(i1:Int)(i2:Int):Option (((Bool)⊕(Bool))):=bm rB ((i1 - i2).toNat+2) (l1,l2,b1,i1,i2)
def vi:kT (pk):=kO (kS 0 (kC (kF cd) (kC (kF cd) (kC kB (kC kI (kC kI kN))))) kN) (fun ((z0,z1,z2,z3,z4,_),_)=>(z0,z1,z2,z3,z4)) (fun (x:pk)=>((x.1,(x.2.1,(x.2.2.1,(x.2.2.2.1,(x.2.2.2.2,()))))),())) (fun _=>rfl)
def NY:aT TL:=aT.two vi.dec (fun p=>EI p.1 p.2.1 p.2.2.1 p.2.2.2.1 p.2.2.2.2) (.exit 0) .ret bP.aJ bP.aJ
def Oa:Env:=aY tab sl sh [] []
theorem aBZ:bK PR (bJ cZ sZ) Oa:=aZ base aN aN
theorem aBy (x:pk):Out.run (bO cZ sZ) (bp Oa 12 20 oR.an Cv (ag (a8 oR.body) 4) (vi.aJ x)) (cj vi bP bP (.exit 0) .ret)=rB x:=by kernel_rfl
theorem aEa:bZ PR (bx NY) Tv Cv (ag (a8 oR.body) 4) :=
  dL aBZ (loops:=12) (k:=20) (an:=oR.an) (by kernel_rfl) (aR.cI rfl E4.keys (aC (.inl (by kernel_rfl)) aN)) vi bP bP (.exit 0) .ret rfl rfl rB _ aBy (fun x y h=>⟨_,h⟩) (fun _=>cA.1 rfl)
def wP (l1:List cH)(l2:List cH):Option Bool :=
 cond ((l1.length:Int) != (l2.length:Int))
 (some false)
 (ob (EI l1 l2 false (l1.length:Int) 0) fun y0 =>
 two y0 (fun _ =>
 some true) (fun b2 =>
 some b2))
def Il (p:(List cH)×(List cH)):Option Bool:=wP p.1 p.2
def I8:aV TL:=aV.of (DA.cons (DT.one lk) (DA.one (DT.one lk))) Il (DA.one dB)
theorem YW:bi [] [(210004,NY)] (aY tab sl sh [(110,oR)] []) 110 (DA.cons (DT.one lk) (DA.one (DT.one lk))) Il (DA.one dB):=fun _=>by kernel_rfl
theorem ZC:bU PR 110 .pure I8:=bj YW (aZ base (aC (E4.ae rfl (aC (lC aEa rfl) aN)) aN) aN) (.inr rfl) E4.enters
def AU (l1:List aL)(l2:List aL)(b1:Bool)(i1:Int)(i2:Int):Option ((jg)⊕(((Bool)⊕(Bool)))) :=
 cond (decide (i2 < i1))
 (cond (decide (0≤i2))
 (ob (l1[i2.toNat]?) fun e0 =>
 cond (decide (0≤i2))
 (ob (l2[i2.toNat]?) fun e1 =>
 cond (!(cond (e0.device == e1.device) (cond (e0.aB == e1.aB) (cond (e0.seq == e1.seq) true false) false) false))
 (some (.inr (.inr false)))
 (some (.inl (l1,l2,b1,i1,(aF (i2+1))))))
 none)
 none)
 (some (.inr (.inl b1)))
def rN (p:jg):Option ((jg)⊕(((Bool)⊕(Bool)))):=AU p.1 p.2.1 p.2.2.1 p.2.2.2.1 p.2.2.2.2
def Dx (l1:List aL)(l2:List aL)(b1:Bool)(i1:Int)(i2:Int):Option (((Bool)⊕(Bool))):=bm rN ((i1 - i2).toNat+2) (l1,l2,b1,i1,i2)
def Mj:aT TL:=aT.two lH.dec (fun p=>Dx p.1 p.2.1 p.2.2.1 p.2.2.2.1 p.2.2.2.2) (.exit 0) .ret bP.aJ bP.aJ
def Pj:Env:=aY tab sl sh [] []
theorem Zs:bK PR (bJ cZ sZ) Pj:=aZ base aN aN
theorem aCu (x:jg):Out.run (bO cZ sZ) (bp Pj 12 20 og.an Cw (ag (a8 og.body) 4) (lH.aJ x)) (cj lH bP bP (.exit 0) .ret)=rN x:=by kernel_rfl
theorem aER:bZ PR (bx Mj) Tn Cw (ag (a8 og.body) 4) :=
  dL Zs (loops:=12) (k:=20) (an:=og.an) (by kernel_rfl) (aR.cI rfl FE.keys (aC (.inl (by kernel_rfl)) aN)) lH bP bP (.exit 0) .ret rfl rfl rN _ aCu (fun x y h=>⟨_,h⟩) (fun _=>cA.1 rfl)
def sG (l1:List aL)(l2:List aL):Option Bool :=
 cond ((l1.length:Int) != (l2.length:Int))
 (some false)
 (ob (Dx l1 l2 false (l1.length:Int) 0) fun y0 =>
 two y0 (fun _ =>
 some true) (fun b2 =>
 some b2))
def Jb (p:(List aL)×(List aL)):Option Bool:=sG p.1 p.2
def Ac:aV TL:=aV.of (DA.cons (DT.one dP) (DA.one (DT.one dP))) Jb (DA.one dB)
theorem ZJ:bi [] [(211004,Mj)] (aY tab sl sh [(111,og)] []) 111 (DA.cons (DT.one dP) (DA.one (DT.one dP))) Jb (DA.one dB):=fun _=>by kernel_rfl
theorem KF:bU PR 111 .pure Ac:=bj ZJ (aZ base (aC (FE.ae rfl (aC (lC aER rfl) aN)) aN) aN) (.inr rfl) FE.enters
abbrev qL:=(List Sum)×(List Sum)×Bool×Int×Int
def AX (l1:List Sum)(l2:List Sum)(b1:Bool)(i1:Int)(i2:Int):Option ((qL)⊕(((Bool)⊕(Bool)))) :=
 cond (decide (i2 < i1))
 (cond (decide (0≤i2))
 (ob (l1[i2.toNat]?) fun e0 =>
 cond (decide (0≤i2))
 (ob (l2[i2.toNat]?) fun e1 =>
 cond (!(cond (dk e0.key e1.key) (cond (e0.n == e1.n) true false) false))
 (some (.inr (.inr false)))
 (some (.inl (l1,l2,b1,i1,(aF (i2+1))))))
 none)
 none)
 (some (.inr (.inl b1)))
def rG (p:qL):Option ((qL)⊕(((Bool)⊕(Bool)))):=AX p.1 p.2.1 p.2.2.1 p.2.2.2.1 p.2.2.2.2
def EH (l1:List Sum)(l2:List Sum)(b1:Bool)(i1:Int)(i2:Int):Option (((Bool)⊕(Bool))):=bm rG ((i1 - i2).toNat+2) (l1,l2,b1,i1,i2)
def wu:kT (qL):=kO (kS 0 (kC (kF dD) (kC (kF dD) (kC kB (kC kI (kC kI kN))))) kN) (fun ((z0,z1,z2,z3,z4,_),_)=>(z0,z1,z2,z3,z4)) (fun (x:qL)=>((x.1,(x.2.1,(x.2.2.1,(x.2.2.2.1,(x.2.2.2.2,()))))),())) (fun _=>rfl)
def Np:aT TL:=aT.two wu.dec (fun p=>EH p.1 p.2.1 p.2.2.1 p.2.2.2.1 p.2.2.2.2) (.exit 0) .ret bP.aJ bP.aJ
def P6:Env:=aY tab sl sh [] []
theorem aAs:bK PR (bJ cZ sZ) P6:=aZ base aN aN
theorem aC5 (x:qL):Out.run (bO cZ sZ) (bp P6 12 20 oW.an DF (ag (a8 oW.body) 4) (wu.aJ x)) (cj wu bP bP (.exit 0) .ret)=rG x:=by kernel_rfl
theorem aDM:bZ PR (bx Np) SL DF (ag (a8 oW.body) 4) :=
  dL aAs (loops:=12) (k:=20) (an:=oW.an) (by kernel_rfl) (aR.cI rfl FI.keys (aC (.inl (by kernel_rfl)) aN)) wu bP bP (.exit 0) .ret rfl rfl rG _ aC5 (fun x y h=>⟨_,h⟩) (fun _=>cA.1 rfl)
def wz (l1:List Sum)(l2:List Sum):Option Bool :=
 cond ((l1.length:Int) != (l2.length:Int))
 (some false)
 (ob (EH l1 l2 false (l1.length:Int) 0) fun y0 =>
 two y0 (fun _ =>
 some true) (fun b2 =>
 some b2))
def KW (p:(List Sum)×(List Sum)):Option Bool:=wz p.1 p.2
def Ko:aV TL:=aV.of (DA.cons (DT.one mE) (DA.one (DT.one mE))) KW (DA.one dB)
theorem ZM:bi [] [(212004,Np)] (aY tab sl sh [(112,oW)] []) 112 (DA.cons (DT.one mE) (DA.one (DT.one mE))) KW (DA.one dB):=fun _=>by kernel_rfl
theorem aA2:bU PR 112 .pure Ko:=bj ZM (aZ base (aC (FI.ae rfl (aC (lC aDM rfl) aN)) aN) aN) (.inr rfl) FI.enters
abbrev pP:=(List Bind)×(List Bind)×Bool×Int×Int
def AM (l1:List Bind)(l2:List Bind)(b1:Bool)(i1:Int)(i2:Int):Option ((pP)⊕(((Bool)⊕(Bool)))) :=
 cond (decide (i2 < i1))
 (cond (decide (0≤i2))
 (ob (l1[i2.toNat]?) fun e0 =>
 cond (decide (0≤i2))
 (ob (l2[i2.toNat]?) fun e1 =>
 cond (!(cond (e0.tY == e1.tY) (cond (dk e0.text e1.text) (cond (e0.cU == e1.cU) (cond (cond (e0.al.device == e1.al.device) (cond (e0.al.aB == e1.al.aB) (cond (e0.al.seq == e1.al.seq) true false) false) false) true false) false) false) false))
 (some (.inr (.inr false)))
 (some (.inl (l1,l2,b1,i1,(aF (i2+1))))))
 none)
 none)
 (some (.inr (.inl b1)))
def qy (p:pP):Option ((pP)⊕(((Bool)⊕(Bool)))):=AM p.1 p.2.1 p.2.2.1 p.2.2.2.1 p.2.2.2.2
def EO (l1:List Bind)(l2:List Bind)(b1:Bool)(i1:Int)(i2:Int):Option (((Bool)⊕(Bool))):=bm qy ((i1 - i2).toNat+2) (l1,l2,b1,i1,i2)
def w7:kT (pP):=kO (kS 0 (kC (kF dA) (kC (kF dA) (kC kB (kC kI (kC kI kN))))) kN) (fun ((z0,z1,z2,z3,z4,_),_)=>(z0,z1,z2,z3,z4)) (fun (x:pP)=>((x.1,(x.2.1,(x.2.2.1,(x.2.2.2.1,(x.2.2.2.2,()))))),())) (fun _=>rfl)
def M7:aT TL:=aT.two w7.dec (fun p=>EO p.1 p.2.1 p.2.2.1 p.2.2.2.1 p.2.2.2.2) (.exit 0) .ret bP.aJ bP.aJ
def OZ:Env:=aY tab sl sh [] []
theorem aAQ:bK PR (bJ cZ sZ) OZ:=aZ base aN aN
theorem aBt (x:pP):Out.run (bO cZ sZ) (bp OZ 12 20 oV.an CS (ag (a8 oV.body) 4) (w7.aJ x)) (cj w7 bP bP (.exit 0) .ret)=qy x:=by kernel_rfl
theorem aDf:bZ PR (bx M7) S2 CS (ag (a8 oV.body) 4) :=
  dL aAQ (loops:=12) (k:=20) (an:=oV.an) (by kernel_rfl) (aR.cI rfl Et.keys (aC (.inl (by kernel_rfl)) aN)) w7 bP bP (.exit 0) .ret rfl rfl qy _ aBt (fun x y h=>⟨_,h⟩) (fun _=>cA.1 rfl)
def wX (l1:List Bind)(l2:List Bind):Option Bool :=
 cond ((l1.length:Int) != (l2.length:Int))
 (some false)
 (ob (EO l1 l2 false (l1.length:Int) 0) fun y0 =>
 two y0 (fun _ =>
 some true) (fun b2 =>
 some b2))
def Iy (p:(List Bind)×(List Bind)):Option Bool:=wX p.1 p.2
def I7:aV TL:=aV.of (DA.cons (DT.one ll) (DA.one (DT.one ll))) Iy (DA.one dB)
theorem YO:bi [] [(213004,M7)] (aY tab sl sh [(113,oV)] []) 113 (DA.cons (DT.one ll) (DA.one (DT.one ll))) Iy (DA.one dB):=fun _=>by kernel_rfl
theorem Yt:bU PR 113 .pure I7:=bj YO (aZ base (aC (Et.ae rfl (aC (lC aDf rfl) aN)) aN) aN) (.inr rfl) Et.enters
def na (c1:ah)(c2:ah):Option Bool :=
 ob (kj c1.v c2.v) fun r0 =>
 cond (r0)
 (ob (xE c1.be c2.be) fun r1 =>
 cond (r1)
 (ob (wP c1.bY c2.bY) fun r2 =>
 cond (r2)
 (ob (sG c1.gone c2.gone) fun r3 =>
 cond (r3)
 (ob (wz c1.bc c2.bc) fun r4 =>
 cond (r4)
 (ob (wX c1.binds c2.binds) fun r5 =>
 some r5)
 (some false))
 (some false))
 (some false))
 (some false))
 (some false)
def KK (p:ah×ah):Option Bool:=na p.1 p.2
def Ka:aV TL:=aV.of (DA.cons (DT.agg lJ) (DA.one (DT.agg lJ))) KK (DA.one dB)
theorem Zf:bi [(72,zd),(109,Ke),(110,I8),(111,Ac),(112,Ko),(113,I7)] [] (aY tab sl sh [(66,Vl)] [(72,.pure),(109,.pure),(110,.pure),(111,.pure),(112,.pure),(113,.pure)]) 66 (DA.cons (DT.agg lJ) (DA.one (DT.agg lJ))) KK (DA.one dB):=fun _=>by kernel_rfl
theorem aBK:bU PR 66 .pure Ka:=bj Zf (aZ base (aC (WD.ae rfl aN) aN) (aC (oD HA rfl) (aC (oD aA3 rfl) (aC (oD ZC rfl) (aC (oD KF rfl) (aC (oD aA2 rfl) (aC (oD Yt rfl) aN))))))) (.inr rfl) WD.enters
abbrev pS:=(List bl)×(List bl)×Bool×Int×Int
def AV (l1:List bl)(l2:List bl)(b1:Bool)(i1:Int)(i2:Int):Option ((pS)⊕(((Bool)⊕(Bool)))) :=
 cond (decide (i2 < i1))
 (cond (decide (0≤i2))
 (ob (l1[i2.toNat]?) fun e0 =>
 cond (decide (0≤i2))
 (ob (l2[i2.toNat]?) fun e1 =>
 cond (!(cond (dk e0.key e1.key) (cond (e0.cC == e1.cC) (cond (e0.lo == e1.lo) (cond (e0.hi == e1.hi) (cond (e0.start == e1.start) (cond (e0.cO == e1.cO) (cond (e0.cY == e1.cY) true false) false) false) false) false) false) false))
 (some (.inr (.inr false)))
 (some (.inl (l1,l2,b1,i1,(aF (i2+1))))))
 none)
 none)
 (some (.inr (.inl b1)))
def rH (p:pS):Option ((pS)⊕(((Bool)⊕(Bool)))):=AV p.1 p.2.1 p.2.2.1 p.2.2.2.1 p.2.2.2.2
def Dp (l1:List bl)(l2:List bl)(b1:Bool)(i1:Int)(i2:Int):Option (((Bool)⊕(Bool))):=bm rH ((i1 - i2).toNat+2) (l1,l2,b1,i1,i2)
def vp:kT (pS):=kO (kS 0 (kC (kF cQ) (kC (kF cQ) (kC kB (kC kI (kC kI kN))))) kN) (fun ((z0,z1,z2,z3,z4,_),_)=>(z0,z1,z2,z3,z4)) (fun (x:pS)=>((x.1,(x.2.1,(x.2.2.1,(x.2.2.2.1,(x.2.2.2.2,()))))),())) (fun _=>rfl)
def NJ:aT TL:=aT.two vp.dec (fun p=>Dp p.1 p.2.1 p.2.2.1 p.2.2.2.1 p.2.2.2.2) (.exit 0) .ret bP.aJ bP.aJ
def Oc:Env:=aY tab sl sh [] []
theorem aAm:bK PR (bJ cZ sZ) Oc:=aZ base aN aN
theorem aCB (x:pS):Out.run (bO cZ sZ) (bp Oc 12 20 o0.an DD (ag (a8 o0.body) 4) (vp.aJ x)) (cj vp bP bP (.exit 0) .ret)=rH x:=by kernel_rfl
theorem aD6:bZ PR (bx NJ) Ti DD (ag (a8 o0.body) 4) :=
  dL aAm (loops:=12) (k:=20) (an:=o0.an) (by kernel_rfl) (aR.cI rfl Ez.keys (aC (.inl (by kernel_rfl)) aN)) vp bP bP (.exit 0) .ret rfl rfl rH _ aCB (fun x y h=>⟨_,h⟩) (fun _=>cA.1 rfl)
def uH (l1:List bl)(l2:List bl):Option Bool :=
 cond ((l1.length:Int) != (l2.length:Int))
 (some false)
 (ob (Dp l1 l2 false (l1.length:Int) 0) fun y0 =>
 two y0 (fun _ =>
 some true) (fun b2 =>
 some b2))
def G7 (p:(List bl)×(List bl)):Option Bool:=uH p.1 p.2
def G6:aV TL:=aV.of (DA.cons (DT.one jK) (DA.one (DT.one jK))) G7 (DA.one dB)
theorem XJ:bi [] [(214004,NJ)] (aY tab sl sh [(114,o0)] []) 114 (DA.cons (DT.one jK) (DA.one (DT.one jK))) G7 (DA.one dB):=fun _=>by kernel_rfl
theorem XU:bU PR 114 .pure G6:=bj XJ (aZ base (aC (Ez.ae rfl (aC (lC aD6 rfl) aN)) aN) aN) (.inr rfl) Ez.enters
abbrev pL:=(List Range)×(List Range)×Bool×Int×Int
def Ak (l1:List Range)(l2:List Range)(b1:Bool)(i1:Int)(i2:Int):Option ((pL)⊕(((Bool)⊕(Bool)))) :=
 cond (decide (i2 < i1))
 (cond (decide (0≤i2))
 (ob (l1[i2.toNat]?) fun e0 =>
 cond (decide (0≤i2))
 (ob (l2[i2.toNat]?) fun e1 =>
 cond (!(cond (e0.from_ == e1.from_) (cond (e0.bt == e1.bt) true false) false))
 (some (.inr (.inr false)))
 (some (.inl (l1,l2,b1,i1,(aF (i2+1))))))
 none)
 none)
 (some (.inr (.inl b1)))
def qu (p:pL):Option ((pL)⊕(((Bool)⊕(Bool)))):=Ak p.1 p.2.1 p.2.2.1 p.2.2.2.1 p.2.2.2.2
def EV (l1:List Range)(l2:List Range)(b1:Bool)(i1:Int)(i2:Int):Option (((Bool)⊕(Bool))):=bm qu ((i1 - i2).toNat+2) (l1,l2,b1,i1,i2)
def vt:kT (pL):=kO (kS 0 (kC (kF aa) (kC (kF aa) (kC kB (kC kI (kC kI kN))))) kN) (fun ((z0,z1,z2,z3,z4,_),_)=>(z0,z1,z2,z3,z4)) (fun (x:pL)=>((x.1,(x.2.1,(x.2.2.1,(x.2.2.2.1,(x.2.2.2.2,()))))),())) (fun _=>rfl)
def M9:aT TL:=aT.two vt.dec (fun p=>EV p.1 p.2.1 p.2.2.1 p.2.2.2.1 p.2.2.2.2) (.exit 0) .ret bP.aJ bP.aJ
def PX:Env:=aY tab sl sh [] []
theorem aAj:bK PR (bJ cZ sZ) PX:=aZ base aN aN
theorem aCc (x:pL):Out.run (bO cZ sZ) (bp PX 12 20 od.an Cl (ag (a8 od.body) 4) (vt.aJ x)) (cj vt bP bP (.exit 0) .ret)=qu x:=by kernel_rfl
theorem aD3:bZ PR (bx M9) T1 Cl (ag (a8 od.body) 4) :=
  dL aAj (loops:=12) (k:=20) (an:=od.an) (by kernel_rfl) (aR.cI rfl EZ.keys (aC (.inl (by kernel_rfl)) aN)) vt bP bP (.exit 0) .ret rfl rfl qu _ aCc (fun x y h=>⟨_,h⟩) (fun _=>cA.1 rfl)
def nF (l1:List Range)(l2:List Range):Option Bool :=
 cond ((l1.length:Int) != (l2.length:Int))
 (some false)
 (ob (EV l1 l2 false (l1.length:Int) 0) fun y0 =>
 two y0 (fun _ =>
 some true) (fun b2 =>
 some b2))
def H0 (p:(List Range)×(List Range)):Option Bool:=nF p.1 p.2
def tu:aV TL:=aV.of (DA.cons (DT.one dF) (DA.one (DT.one dF))) H0 (DA.one dB)
theorem Xl:bi [] [(215004,M9)] (aY tab sl sh [(115,od)] []) 115 (DA.cons (DT.one dF) (DA.one (DT.one dF))) H0 (DA.one dB):=fun _=>by kernel_rfl
theorem zf:bU PR 115 .pure tu:=bj Xl (aZ base (aC (EZ.ae rfl (aC (lC aD3 rfl) aN)) aN) aN) (.inr rfl) EZ.enters
abbrev pz:=(List Int)×(List Int)×Bool×Int×Int
def Ap (l1:List Int)(l2:List Int)(b1:Bool)(i1:Int)(i2:Int):Option ((pz)⊕(((Bool)⊕(Bool)))) :=
 cond (decide (i2 < i1))
 (cond (decide (0≤i2))
 (ob (l1[i2.toNat]?) fun e0 =>
 cond (decide (0≤i2))
 (ob (l2[i2.toNat]?) fun e1 =>
 cond (e0 != e1)
 (some (.inr (.inr false)))
 (some (.inl (l1,l2,b1,i1,(aF (i2+1))))))
 none)
 none)
 (some (.inr (.inl b1)))
def qz (p:pz):Option ((pz)⊕(((Bool)⊕(Bool)))):=Ap p.1 p.2.1 p.2.2.1 p.2.2.2.1 p.2.2.2.2
def EQ (l1:List Int)(l2:List Int)(b1:Bool)(i1:Int)(i2:Int):Option (((Bool)⊕(Bool))):=bm qz ((i1 - i2).toNat+2) (l1,l2,b1,i1,i2)
def w8:kT (pz):=kO (kS 0 (kC (kF au) (kC (kF au) (kC kB (kC kI (kC kI kN))))) kN) (fun ((z0,z1,z2,z3,z4,_),_)=>(z0,z1,z2,z3,z4)) (fun (x:pz)=>((x.1,(x.2.1,(x.2.2.1,(x.2.2.2.1,(x.2.2.2.2,()))))),())) (fun _=>rfl)
def Ms:aT TL:=aT.two w8.dec (fun p=>EQ p.1 p.2.1 p.2.2.1 p.2.2.2.1 p.2.2.2.2) (.exit 0) .ret bP.aJ bP.aJ
def PL:Env:=aY tab sl sh [] []
theorem Zr:bK PR (bJ cZ sZ) PL:=aZ base aN aN
theorem aBl (x:pz):Out.run (bO cZ sZ) (bp PL 12 20 oG.an C8 (ag (a8 oG.body) 4) (w8.aJ x)) (cj w8 bP bP (.exit 0) .ret)=qz x:=by kernel_rfl
theorem aED:bZ PR (bx Ms) TJ C8 (ag (a8 oG.body) 4) :=
  dL Zr (loops:=12) (k:=20) (an:=oG.an) (by kernel_rfl) (aR.cI rfl Er.keys (aC (.inl (by kernel_rfl)) aN)) w8 bP bP (.exit 0) .ret rfl rfl qz _ aBl (fun x y h=>⟨_,h⟩) (fun _=>cA.1 rfl)
def lj (l1:List Int)(l2:List Int):Option Bool :=
 cond ((l1.length:Int) != (l2.length:Int))
 (some false)
 (ob (EQ l1 l2 false (l1.length:Int) 0) fun y0 =>
 two y0 (fun _ =>
 some true) (fun b2 =>
 some b2))
def JM (p:(List Int)×(List Int)):Option Bool:=lj p.1 p.2
def uW:aV TL:=aV.of (DA.cons (DT.one fX) (DA.one (DT.one fX))) JM (DA.one dB)
theorem ZF:bi [] [(218004,Ms)] (aY tab sl sh [(118,oG)] []) 118 (DA.cons (DT.one fX) (DA.one (DT.one fX))) JM (DA.one dB):=fun _=>by kernel_rfl
theorem AS:bU PR 118 .pure uW:=bj ZF (aZ base (aC (Er.ae rfl (aC (lC aED rfl) aN)) aN) aN) (.inr rfl) Er.enters
abbrev pe:=(List Slice)×(List Slice)×Bool×Int×Int
def Af (l1:List Slice)(l2:List Slice)(b1:Bool)(i1:Int)(i2:Int):Option ((pe)⊕(((Bool)⊕(Bool)))) :=
 cond (decide (i2 < i1))
 (cond (decide (0≤i2))
 (ob (l1[i2.toNat]?) fun e0 =>
 cond (decide (0≤i2))
 (ob (l2[i2.toNat]?) fun e1 =>
 cond (!(cond (dk e0.key e1.key) (cond (e0.cO == e1.cO) (cond (e0.cY == e1.cY) (cond (e0.gZ == e1.gZ) (cond (e0.ir == e1.ir) true false) false) false) false) false))
 (some (.inr (.inr false)))
 (some (.inl (l1,l2,b1,i1,(aF (i2+1))))))
 none)
 none)
 (some (.inr (.inl b1)))
def qp (p:pe):Option ((pe)⊕(((Bool)⊕(Bool)))):=Af p.1 p.2.1 p.2.2.1 p.2.2.2.1 p.2.2.2.2
def Dn (l1:List Slice)(l2:List Slice)(b1:Bool)(i1:Int)(i2:Int):Option (((Bool)⊕(Bool))):=bm qp ((i1 - i2).toNat+2) (l1,l2,b1,i1,i2)
def wQ:kT (pe):=kO (kS 0 (kC (kF bh) (kC (kF bh) (kC kB (kC kI (kC kI kN))))) kN) (fun ((z0,z1,z2,z3,z4,_),_)=>(z0,z1,z2,z3,z4)) (fun (x:pe)=>((x.1,(x.2.1,(x.2.2.1,(x.2.2.2.1,(x.2.2.2.2,()))))),())) (fun _=>rfl)
def NH:aT TL:=aT.two wQ.dec (fun p=>Dn p.1 p.2.1 p.2.2.1 p.2.2.2.1 p.2.2.2.2) (.exit 0) .ret bP.aJ bP.aJ
def Nr:Env:=aY tab sl sh [] []
theorem aB0:bK PR (bJ cZ sZ) Nr:=aZ base aN aN
theorem aCg (x:pe):Out.run (bO cZ sZ) (bp Nr 12 20 oK.an CP (ag (a8 oK.body) 4) (wQ.aJ x)) (cj wQ bP bP (.exit 0) .ret)=qp x:=by kernel_rfl
theorem aEH:bZ PR (bx NH) S7 CP (ag (a8 oK.body) 4) :=
  dL aB0 (loops:=12) (k:=20) (an:=oK.an) (by kernel_rfl) (aR.cI rfl FP.keys (aC (.inl (by kernel_rfl)) aN)) wQ bP bP (.exit 0) .ret rfl rfl qp _ aCg (fun x y h=>⟨_,h⟩) (fun _=>cA.1 rfl)
def rJ (l1:List Slice)(l2:List Slice):Option Bool :=
 cond ((l1.length:Int) != (l2.length:Int))
 (some false)
 (ob (Dn l1 l2 false (l1.length:Int) 0) fun y0 =>
 two y0 (fun _ =>
 some true) (fun b2 =>
 some b2))
def HQ (p:(List Slice)×(List Slice)):Option Bool:=rJ p.1 p.2
def zW:aV TL:=aV.of (DA.cons (DT.one j1) (DA.one (DT.one j1))) HQ (DA.one dB)
theorem Xa:bi [] [(246004,NH)] (aY tab sl sh [(146,oK)] []) 146 (DA.cons (DT.one j1) (DA.one (DT.one j1))) HQ (DA.one dB):=fun _=>by kernel_rfl
theorem HY:bU PR 146 .pure zW:=bj Xa (aZ base (aC (FP.ae rfl (aC (lC aEH rfl) aN)) aN) aN) (.inr rfl) FP.enters
def tf (lx1:aI)(lx2:aI):Option Bool :=
 cond (lx1.device == lx2.device)
 (cond (lx1.aB == lx2.aB)
 (cond (lx1.bC == lx2.bC)
 (cond (lx1.last == lx2.last)
 (ob (rJ lx1.aX lx2.aX) fun r0 =>
 cond (r0)
 (ob (nF lx1.ids lx2.ids) fun r1 =>
 cond (r1)
 (ob (lj lx1.used lx2.used) fun r2 =>
 some r2)
 (some false))
 (some false))
 (some false))
 (some false))
 (some false))
 (some false)
def Fs (p:aI×aI):Option Bool:=tf p.1 p.2
def Fu:aV TL:=aV.of (DA.cons (DT.agg eQ) (DA.one (DT.agg eQ))) Fs (DA.one dB)
theorem WZ:bi [(146,zW),(115,tu),(118,uW)] [] (aY tab sl sh [(117,SQ)] [(146,.pure),(115,.pure),(118,.pure)]) 117 (DA.cons (DT.agg eQ) (DA.one (DT.agg eQ))) Fs (DA.one dB):=fun _=>by kernel_rfl
theorem Wb:bU PR 117 .pure Fu:=bj WZ (aZ base (aC (UA.ae rfl aN) aN) (aC (oD HY rfl) (aC (oD zf rfl) (aC (oD AS rfl) aN)))) (.inr rfl) UA.enters
abbrev qM:=(List aI)×Bool×(List aI)×Int×Int
def AY (l1:List aI)(b1:Bool)(l2:List aI)(i1:Int)(i2:Int):Option ((qM)⊕(((Bool)⊕(Bool)))) :=
 cond (decide (i2 < i1))
 (cond (decide (0≤i2))
 (ob (l2[i2.toNat]?) fun e0 =>
 cond (decide (0≤i2))
 (ob (l1[i2.toNat]?) fun e1 =>
 ob (tf e0 e1) fun r2 =>
 cond (!r2)
 (some (.inr (.inr false)))
 (some (.inl (l1,b1,l2,i1,(aF (i2+1))))))
 none)
 none)
 (some (.inr (.inl b1)))
def rE (p:qM):Option ((qM)⊕(((Bool)⊕(Bool)))):=AY p.1 p.2.1 p.2.2.1 p.2.2.2.1 p.2.2.2.2
def Dv (l1:List aI)(b1:Bool)(l2:List aI)(i1:Int)(i2:Int):Option (((Bool)⊕(Bool))):=bm rE ((i1 - i2).toNat+2) (l1,b1,l2,i1,i2)
def wa:kT (qM):=kO (kS 0 (kC (kF cS) (kC (aE.xs (aE.sc (aE.dK 117 [] []))) (kC kB (kC (kF cS) (kC kI (kC kI kN)))))) kN) (fun ((z0,_,z1,z2,z3,z4,_),_)=>(z0,z1,z2,z3,z4)) (fun (x:qM)=>((x.1,((),(x.2.1,(x.2.2.1,(x.2.2.2.1,(x.2.2.2.2,())))))),())) (fun _=>rfl)
def Mo:aT TL:=aT.two wa.dec (fun p=>Dv p.1 p.2.1 p.2.2.1 p.2.2.2.1 p.2.2.2.2) (.exit 0) .ret bP.aJ bP.aJ
def Kt:cL:=[(117,Fu)]
def P2:Env:=aY tab sl sh [] [(117,.pure)]
theorem aBH:bK PR (bJ Kt sZ) P2:=aZ base aN (aC (oD Wb rfl) aN)
theorem aB5 (x:qM):Out.run (bO Kt sZ) (bp P2 12 20 oX.an DM (ag (a8 oX.body) 4) (wa.aJ x)) (cj wa bP bP (.exit 0) .ret)=rE x:=by kernel_rfl
theorem aEK:bZ PR (bx Mo) SU DM (ag (a8 oX.body) 4) :=
  dL aBH (loops:=12) (k:=20) (an:=oX.an) (by kernel_rfl) (aR.cI rfl Rk.keys (aC (.inl (by kernel_rfl)) aN)) wa bP bP (.exit 0) .ret rfl rfl rE _ aB5 (fun x y h=>⟨_,h⟩) (fun _=>cA.1 rfl)
def vG (bx1:aG)(bx2:aG):Option Bool :=
 ob (uH bx1.ak bx2.ak) fun r0 =>
 cond (r0)
 (ob (nF bx1.free bx2.free) fun r1 =>
 cond (r1)
 (cond ((bx1.aP.length:Int) != (bx2.aP.length:Int))
 (some false)
 (ob (Dv bx2.aP false bx1.aP (bx1.aP.length:Int) 0) fun y2 =>
 two y2 (fun _ =>
 ob (lj bx1.bF bx2.bF) fun r5 =>
 some r5) (fun b4 =>
 cond (b4)
 (ob (lj bx1.bF bx2.bF) fun r6 =>
 some r6)
 (some false))))
 (some false))
 (some false)
def HE (p:aG×aG):Option Bool:=vG p.1 p.2
def Ht:aV TL:=aV.of (DA.cons (DT.agg dU) (DA.one (DT.agg dU))) HE (DA.one dB)
theorem Xp:bi [(114,G6),(115,tu),(118,uW)] [(216004,Mo)] (aY tab sl sh [(67,VO),(116,oX)] [(114,.pure),(115,.pure),(118,.pure)]) 67 (DA.cons (DT.agg dU) (DA.one (DT.agg dU))) HE (DA.one dB):=fun _=>by kernel_rfl
theorem YM:bU PR 67 .pure Ht:=bj Xp (aZ base (aC (Uq.ae rfl aN) (aC (Rk.ae rfl (aC (lC aEK rfl) aN)) aN)) (aC (oD XU rfl) (aC (oD zf rfl) (aC (oD AS rfl) aN)))) (.inr rfl) Uq.enters
def xy (o1:Op)(o2:Op):Option Bool :=
 cond (cond (o1.al.device == o2.al.device) (cond (o1.al.aB == o2.al.aB) (cond (o1.al.seq == o2.al.seq) true false) false) false)
 (cond (o1.cC == o2.cC)
 (cond (o1.cU == o2.cU)
 (cond (o1.kind == o2.kind)
 (cond (dk o1.key o2.key)
 (cond (dk o1.text o2.text)
 (cond (o1.n == o2.n)
 (cond (o1.time == o2.time)
 (ob (sG o1.dG o2.dG) fun r0 =>
 some r0)
 (some false))
 (some false))
 (some false))
 (some false))
 (some false))
 (some false))
 (some false))
 (some false)
def Lv (p:Op×Op):Option Bool:=xy p.1 p.2
def Ls:aV TL:=aV.of (DA.cons (DT.agg fC) (DA.one (DT.agg fC))) Lv (DA.one dB)
theorem aAI:bi [(111,Ac)] [] (aY tab sl sh [(69,WC)] [(111,.pure)]) 69 (DA.cons (DT.agg fC) (DA.one (DT.agg fC))) Lv (DA.one dB):=fun _=>by kernel_rfl
theorem aDA:bU PR 69 .pure Ls:=bj aAI (aZ base (aC (VW.ae rfl aN) aN) (aC (oD KF rfl) aN)) (.inr rfl) VW.enters
abbrev qE:=(List Op)×Bool×(List Op)×Int×Int
def BY (l1:List Op)(b1:Bool)(l2:List Op)(i1:Int)(i2:Int):Option ((qE)⊕(((Bool)⊕(Bool)))) :=
 cond (decide (i2 < i1))
 (cond (decide (0≤i2))
 (ob (l2[i2.toNat]?) fun e0 =>
 cond (decide (0≤i2))
 (ob (l1[i2.toNat]?) fun e1 =>
 ob (xy e0 e1) fun r2 =>
 cond (!r2)
 (some (.inr (.inr false)))
 (some (.inl (l1,b1,l2,i1,(aF (i2+1))))))
 none)
 none)
 (some (.inr (.inl b1)))
def rR (p:qE):Option ((qE)⊕(((Bool)⊕(Bool)))):=BY p.1 p.2.1 p.2.2.1 p.2.2.2.1 p.2.2.2.2
def FG (l1:List Op)(b1:Bool)(l2:List Op)(i1:Int)(i2:Int):Option (((Bool)⊕(Bool))):=bm rR ((i1 - i2).toNat+2) (l1,b1,l2,i1,i2)
def xI:kT (qE):=kO (kS 0 (kC (kF dn) (kC (aE.xs (aE.sc (aE.dK 69 [] []))) (kC kB (kC (kF dn) (kC kI (kC kI kN)))))) kN) (fun ((z0,_,z1,z2,z3,z4,_),_)=>(z0,z1,z2,z3,z4)) (fun (x:qE)=>((x.1,((),(x.2.1,(x.2.2.1,(x.2.2.2.1,(x.2.2.2.2,())))))),())) (fun _=>rfl)
def Pf:aT TL:=aT.two xI.dec (fun p=>FG p.1 p.2.1 p.2.2.1 p.2.2.2.1 p.2.2.2.2) (.exit 0) .ret bP.aJ bP.aJ
def N0:cL:=[(69,Ls)]
def QL:Env:=aY tab sl sh [] [(69,.pure)]
theorem aBv:bK PR (bJ N0 sZ) QL:=aZ base aN (aC (oD aDA rfl) aN)
theorem aD8 (x:qE):Out.run (bO N0 sZ) (bp QL 12 20 po.an Dj (ag (a8 po.body) 4) (xI.aJ x)) (cj xI bP bP (.exit 0) .ret)=rR x:=by kernel_rfl
theorem aFa:bZ PR (bx Pf) Vw Dj (ag (a8 po.body) 4) :=
  dL aBv (loops:=12) (k:=20) (an:=po.an) (by kernel_rfl) (aR.cI rfl Vk.keys (aC (.inl (by kernel_rfl)) aN)) xI bP bP (.exit 0) .ret rfl rfl rR _ aD8 (fun x y h=>⟨_,h⟩) (fun _=>cA.1 rfl)
def zP (lx1:aI)(lx2:aI):Option Bool :=
 cond (lx1.device == lx2.device)
 (cond (lx1.aB == lx2.aB)
 (cond (lx1.bC == lx2.bC)
 (cond (lx1.last == lx2.last)
 (ob (rJ lx1.aX lx2.aX) fun r0 =>
 cond (r0)
 (ob (nF lx1.ids lx2.ids) fun r1 =>
 cond (r1)
 (ob (lj lx1.used lx2.used) fun r2 =>
 some r2)
 (some false))
 (some false))
 (some false))
 (some false))
 (some false))
 (some false)
def GL (p:aI×aI):Option Bool:=zP p.1 p.2
def GF:aV TL:=aV.of (DA.cons (DT.agg eQ) (DA.one (DT.agg eQ))) GL (DA.one dB)
theorem Wf:bi [(146,zW),(115,tu),(118,uW)] [] (aY tab sl sh [(119,TG)] [(146,.pure),(115,.pure),(118,.pure)]) 119 (DA.cons (DT.agg eQ) (DA.one (DT.agg eQ))) GL (DA.one dB):=fun _=>by kernel_rfl
theorem Wy:bU PR 119 .pure GF:=bj Wf (aZ base (aC (SG.ae rfl aN) aN) (aC (oD HY rfl) (aC (oD zf rfl) (aC (oD AS rfl) aN)))) (.inr rfl) SG.enters
def th (d1:Device)(d2:Device):Option Bool :=
 cond (d1.aB == d2.aB)
 (cond (d1.aK == d2.aK)
 (cond (d1.aA.err == d2.aA.err)
 (cond (d1.aA.n == d2.aA.n)
 (ob (zP d1.aA.aD d2.aA.aD) fun r0 =>
 some r0)
 (some false))
 (some false))
 (some false))
 (some false)
def Fw (p:Device×Device):Option Bool:=th p.1 p.2
def GB:aV TL:=aV.of (DA.cons (DT.agg wY) (DA.one (DT.agg wY))) Fw (DA.one dB)
theorem W6:bi [(119,GF)] [] (aY tab sl sh [(71,Vu)] [(119,.pure)]) 71 (DA.cons (DT.agg wY) (DA.one (DT.agg wY))) Fw (DA.one dB):=fun _=>by kernel_rfl
theorem Wj:bU PR 71 .pure GB:=bj W6 (aZ base (aC (Uh.ae rfl aN) aN) (aC (oD Wy rfl) aN)) (.inr rfl) Uh.enters
abbrev qD:=(List Device)×Bool×(List Device)×Int×Int
def B9 (l1:List Device)(b1:Bool)(l2:List Device)(i1:Int)(i2:Int):Option ((qD)⊕(((Bool)⊕(Bool)))) :=
 cond (decide (i2 < i1))
 (cond (decide (0≤i2))
 (ob (l2[i2.toNat]?) fun e0 =>
 cond (decide (0≤i2))
 (ob (l1[i2.toNat]?) fun e1 =>
 ob (th e0 e1) fun r2 =>
 cond (!r2)
 (some (.inr (.inr false)))
 (some (.inl (l1,b1,l2,i1,(aF (i2+1))))))
 none)
 none)
 (some (.inr (.inl b1)))
def rk (p:qD):Option ((qD)⊕(((Bool)⊕(Bool)))):=B9 p.1 p.2.1 p.2.2.1 p.2.2.2.1 p.2.2.2.2
def yj (l1:List Device)(b1:Bool)(l2:List Device)(i1:Int)(i2:Int):Option (((Bool)⊕(Bool))):=bm rk ((i1 - i2).toNat+2) (l1,b1,l2,i1,i2)
def xU:kT (qD):=kO (kS 0 (kC (kF NZ) (kC (aE.xs (aE.sc (aE.dK 71 [] []))) (kC kB (kC (kF NZ) (kC kI (kC kI kN)))))) kN) (fun ((z0,_,z1,z2,z3,z4,_),_)=>(z0,z1,z2,z3,z4)) (fun (x:qD)=>((x.1,((),(x.2.1,(x.2.2.1,(x.2.2.2.1,(x.2.2.2.2,())))))),())) (fun _=>rfl)
def PP:aT TL:=aT.two xU.dec (fun p=>yj p.1 p.2.1 p.2.2.1 p.2.2.2.1 p.2.2.2.2) (.exit 0) .ret bP.aJ bP.aJ
def NG:cL:=[(71,GB)]
def Qi:Env:=aY tab sl sh [] [(71,.pure)]
theorem aBz:bK PR (bJ NG sZ) Qi:=aZ base aN (aC (oD Wj rfl) aN)
theorem aEX (x:qD):Out.run (bO NG sZ) (bp Qi 12 20 pY.an D8 (ag (a8 pY.body) 4) (xU.aJ x)) (cj xU bP bP (.exit 0) .ret)=rk x:=by kernel_rfl
theorem aF9:bZ PR (bx PP) Uk D8 (ag (a8 pY.body) 4) :=
  dL aBz (loops:=12) (k:=20) (an:=pY.an) (by kernel_rfl) (aR.cI rfl Ut.keys (aC (.inl (by kernel_rfl)) aN)) xU bP bP (.exit 0) .ret rfl rfl rk _ aEX (fun x y h=>⟨_,h⟩) (fun _=>cA.1 rfl)
def lW (d1:bI)(d2:bI):Option Bool :=
 ob (na d1.aM.a0 d2.aM.a0) fun r0 =>
 cond (!r0)
 (some false)
 (ob (na d1.aM.a1 d2.aM.a1) fun r1 =>
 cond (!r1)
 (some false)
 (ob (na d1.aM.a2 d2.aM.a2) fun r2 =>
 cond (!r2)
 (some false)
 (ob (vG d1.book d2.book) fun r3 =>
 cond (r3)
 (cond ((d1.log.length:Int) != (d2.log.length:Int))
 (some false)
 (ob (FG d2.log false d1.log (d1.log.length:Int) 0) fun y4 =>
 two y4 (fun _ =>
 cond (([d1.dev.a0,d1.dev.a1,d1.dev.a2,d1.dev.a3,d1.dev.a4,d1.dev.a5].length:Int) != ([d2.dev.a0,d2.dev.a1,d2.dev.a2,d2.dev.a3,d2.dev.a4,d2.dev.a5].length:Int))
 (some false)
 (ob (yj [d2.dev.a0,d2.dev.a1,d2.dev.a2,d2.dev.a3,d2.dev.a4,d2.dev.a5] false [d1.dev.a0,d1.dev.a1,d1.dev.a2,d1.dev.a3,d1.dev.a4,d1.dev.a5] ([d1.dev.a0,d1.dev.a1,d1.dev.a2,d1.dev.a3,d1.dev.a4,d1.dev.a5].length:Int) 0) fun y7 =>
 two y7 (fun _ =>
 ob (kj d1.lost d2.lost) fun r10 =>
 cond (r10)
 (some (d1.now == d2.now))
 (some false)) (fun b9 =>
 cond (b9)
 (ob (kj d1.lost d2.lost) fun r11 =>
 cond (r11)
 (some (d1.now == d2.now))
 (some false))
 (some false)))) (fun b6 =>
 cond (b6)
 (cond (([d1.dev.a0,d1.dev.a1,d1.dev.a2,d1.dev.a3,d1.dev.a4,d1.dev.a5].length:Int) != ([d2.dev.a0,d2.dev.a1,d2.dev.a2,d2.dev.a3,d2.dev.a4,d2.dev.a5].length:Int))
 (some false)
 (ob (yj [d2.dev.a0,d2.dev.a1,d2.dev.a2,d2.dev.a3,d2.dev.a4,d2.dev.a5] false [d1.dev.a0,d1.dev.a1,d1.dev.a2,d1.dev.a3,d1.dev.a4,d1.dev.a5] ([d1.dev.a0,d1.dev.a1,d1.dev.a2,d1.dev.a3,d1.dev.a4,d1.dev.a5].length:Int) 0) fun y12 =>
 two y12 (fun _ =>
 ob (kj d1.lost d2.lost) fun r15 =>
 cond (r15)
 (some (d1.now == d2.now))
 (some false)) (fun b14 =>
 cond (b14)
 (ob (kj d1.lost d2.lost) fun r16 =>
 cond (r16)
 (some (d1.now == d2.now))
 (some false))
 (some false))))
 (some false))))
 (some false))))
def Nz (p:bI×bI):Option Bool:=lW p.1 p.2
def PU:aV TL:=aV.of (DA.cons (DT.agg fv) (DA.one (DT.agg fv))) Nz (DA.one dB)
theorem aDj:bi [(66,Ka),(67,Ht),(72,zd)] [(168004,Pf),(170004,PP)] (aY tab sl sh [(32,VZ),(68,po),(70,pY)] [(66,.pure),(67,.pure),(72,.pure)]) 32 (DA.cons (DT.agg fv) (DA.one (DT.agg fv))) Nz (DA.one dB):=fun _=>by kernel_rfl
theorem aEy:bU PR 32 .pure PU:=bj aDj (aZ base (aC (Uc.ae rfl aN) (aC (Vk.ae rfl (aC (lC aFa rfl) aN)) (aC (Ut.ae rfl (aC (lC aF9 rfl) aN)) aN))) (aC (oD aBK rfl) (aC (oD YM rfl) (aC (oD HA rfl) aN)))) (.inr rfl) Uc.enters
def aAe (s1:ByteArray)(b1:Bool)(i1:Int)(i2:Int):Option ((jl)⊕(((ByteArray×Bool)⊕(ByteArray×Bool)))) :=
 cond (decide (i2 < i1))
 (cond (decide (0≤i2))
 (cond (decide (i2 < (s1.size:Int)))
 (cond (decide (((s1[(i2:Int).toNat]?.getD 0).toNat:Int) < 32))
 (some (.inr (.inr (s1,false))))
 (cond (decide (0≤i2))
 (cond (decide (i2 < (s1.size:Int)))
 (cond (((s1[(i2:Int).toNat]?.getD 0).toNat:Int) == 127)
 (some (.inr (.inr (s1,false))))
 (some (.inl (s1,b1,i1,(aF (i2+1))))))
 none)
 none))
 none)
 none)
 (some (.inr (.inl (s1,b1))))
def Aw (p:jl):Option ((jl)⊕(((ByteArray×Bool)⊕(ByteArray×Bool)))):=aAe p.1 p.2.1 p.2.2.1 p.2.2.2
def Ra (s1:ByteArray)(b1:Bool)(i1:Int)(i2:Int):Option (((ByteArray×Bool)⊕(ByteArray×Bool))):=bm Aw ((i1 - i2).toNat+2) (s1,b1,i1,i2)
def Na:aT TL:=aT.two ks.dec (fun p=>Ra p.1 p.2.1 p.2.2.1 p.2.2.2) (.exit 0) .ret ik.aJ ik.aJ
def Ns:Env:=aY tab sl sh [] []
theorem aAz:bK PR (bJ cZ sZ) Ns:=aZ base aN aN
theorem aCj (x:jl):Out.run (bO cZ sZ) (bp Ns 12 20 oi.an Ca (ag (a8 oi.body) 2) (ks.aJ x)) (cj ks ik ik (.exit 0) .ret)=Aw x:=by kernel_rfl
theorem aDl:bZ PR (bx Na) Rr Ca (ag (a8 oi.body) 2) :=
  dL aAz (loops:=12) (k:=20) (an:=oi.an) (by kernel_rfl) (aR.cI rfl Eb.keys (aC (.inl (by kernel_rfl)) aN)) ks ik ik (.exit 0) .ret rfl rfl Aw _ aCj (fun x y h=>⟨_,h⟩) (fun _=>cA.1 rfl)
def JW (s1:ByteArray):Option Bool :=
 ob (Ra s1 false (s1.size:Int) 0) fun y0 =>
 two y0 (fun a1 =>
 some (decide ((a1.1.size:Int)≤40))) (fun b2 =>
 some b2.2)
def Gn (p:ByteArray):Option Bool:=JW p
def Gw:aV TL:=aV.of (DA.one (DT.one DI.str)) Gn (DA.one dB)
theorem XV:bi [] [(247002,Na)] (aY tab sl sh [(147,oi)] []) 147 (DA.one (DT.one DI.str)) Gn (DA.one dB):=fun _=>by kernel_rfl
theorem Xv:bU PR 147 .pure Gw:=bj XV (aZ base (aC (Eb.ae rfl (aC (lC aDl rfl) aN)) aN) aN) (.inr rfl) Eb.enters
def L6 (c1:bl):Option Bool :=
 cond (!dk c1.key dO)
 (ob (JW c1.key) fun r0 =>
 cond (r0)
 (ob (hP c1.cC 0 2) fun r1 =>
 some (cond r1 (cond (decide (c1.lo≥(-1099511627776))) (cond (decide (c1.lo≤c1.start)) (cond (decide (c1.start≤c1.hi)) (decide (c1.hi≤1099511627776)) false) false) false) false))
 (some false))
 (some false)
def H4 (p:bl):Option Bool:=L6 p
def HU:aV TL:=aV.of (DA.one (DT.agg vK)) H4 (DA.one dB)
theorem Xf:bi [(147,Gw),(122,mc)] [] (aY tab sl sh [(120,SW)] [(147,.pure),(122,.pure)]) 120 (DA.one (DT.agg vK)) H4 (DA.one dB):=fun _=>by kernel_rfl
theorem YJ:bU PR 120 .pure HU:=bj Xf (aZ base (aC (Ry.ae rfl aN) aN) (aC (oD Xv rfl) (aC (oD qb rfl) aN))) (.inr rfl) Ry.enters
abbrev pj:=Int×Int×(List bl)×Int×Int×aG×aG
def aBg (i1:Int)(i2:Int)(l1:List bl)(i3:Int)(i4:Int)(bx1:aG)(bx2:aG):Option ((pj)⊕(((Int×Int×aG×aG)⊕(Int×Int×aG×aG×(List bl)×(List Range)×(List aI)×(List Int))))) :=
 cond (decide (i4 < i3))
 (cond (decide (0≤i4))
 (ob (l1[i4.toNat]?) fun e0 =>
 ob (L6 e0) fun r1 =>
 cond (!r1)
 (some (.inr (.inr (i1,1,(aG.mk [] [] [] []),bx2,bx1.ak,bx1.free,bx1.aP,bx1.bF))))
 (ob (ml bx2 e0.key) fun r2 =>
 cond (decide (r2≥0))
 (some (.inr (.inr (i1,7,(aG.mk [] [] [] []),bx2,bx1.ak,bx1.free,bx1.aP,bx1.bF))))
 (cond (fits ((bx2.ak++[(bl.mk e0.key e0.cC e0.lo e0.hi e0.start (aF (e0.hi - e0.start)) (aF (e0.start - e0.lo)))]).length))
 (some (.inl (i1,i2,l1,i3,(aF (i4+1)),bx1,(aG.mk (bx2.ak++[(bl.mk e0.key e0.cC e0.lo e0.hi e0.start (aF (e0.hi - e0.start)) (aF (e0.start - e0.lo)))]) bx2.free bx2.aP bx2.bF))))
 none)))
 none)
 (some (.inr (.inl (i1,i2,bx1,bx2))))
def CJ (p:pj):Option ((pj)⊕(((Int×Int×aG×aG)⊕(Int×Int×aG×aG×(List bl)×(List Range)×(List aI)×(List Int))))):=aBg p.1 p.2.1 p.2.2.1 p.2.2.2.1 p.2.2.2.2.1 p.2.2.2.2.2.1 p.2.2.2.2.2.2
def S4 (i1:Int)(i2:Int)(l1:List bl)(i3:Int)(i4:Int)(bx1:aG)(bx2:aG):Option (((Int×Int×aG×aG)⊕(Int×Int×aG×aG×(List bl)×(List Range)×(List aI)×(List Int)))):=bm CJ ((i3 - i4).toNat+2) (i1,i2,l1,i3,i4,bx1,bx2)
def xR:kT (pj):=kO (kS 10 (kC kI (kC (kP 0 0) (kC kI (kC (kP 1 0) (kC (kF cQ) (kC kI (kC kI kN))))))) (kC (aE.var 0 29 (kC (kA 2) (kC (kA 3) (kC (kA 4) (kC (kA 5) kN))))) (kC (aE.var 1 29 (kC (kA 6) (kC (kA 7) (kC (kA 8) (kC (kA 9) kN))))) (kC (kR 2 65 cQ) (kC (kR 3 153 aa) (kC (kR 4 43 cS) (kC (kR 5 3 au) (kC (kR 6 65 cQ) (kC (kR 7 153 aa) (kC (kR 8 43 cS) (kC (kR 9 3 au) kN))))))))))) (fun p=>(p.1.1,p.1.2.2.1,p.1.2.2.2.2.1,p.1.2.2.2.2.2.1,p.1.2.2.2.2.2.2.1,(aG.mk p.2.2.2.1 p.2.2.2.2.1 p.2.2.2.2.2.1 p.2.2.2.2.2.2.1),(aG.mk p.2.2.2.2.2.2.2.1 p.2.2.2.2.2.2.2.2.1 (t8 p.2).1 (t8 p.2).2.1))) (fun (x:pj)=>((x.1,((),(x.2.1,((),(x.2.2.1,(x.2.2.2.1,(x.2.2.2.2.1,()))))))),(((),((),((),((),())))),(((),((),((),((),())))),(x.2.2.2.2.2.1.ak,(x.2.2.2.2.2.1.free,(x.2.2.2.2.2.1.aP,(x.2.2.2.2.2.1.bF,(x.2.2.2.2.2.2.ak,(x.2.2.2.2.2.2.free,(x.2.2.2.2.2.2.aP,(x.2.2.2.2.2.2.bF,())))))))))))) (fun _=>rfl)
def nJ:kT (Int×Int×aG×aG):=kO (kS 20 (kC kI (kC (kP 0 0) (kC kI (kC (kP 1 0) kN)))) (kC (aE.var 0 29 (kC (kA 2) (kC (kA 3) (kC (kA 4) (kC (kA 5) kN))))) (kC (aE.var 1 29 (kC (kA 19) (kC (kA 7) (kC (kA 8) (kC (kA 9) kN))))) (kC (kR 2 65 cQ) (kC (kR 3 153 aa) (kC (kR 4 43 cS) (kC (kR 5 3 au) (kC (kR 7 153 aa) (kC (kR 8 43 cS) (kC (kR 9 3 au) (kC (kR 19 65 cQ) kN))))))))))) (fun p=>(p.1.1,p.1.2.2.1,(aG.mk p.2.2.2.1 p.2.2.2.2.1 p.2.2.2.2.2.1 p.2.2.2.2.2.2.1),(aG.mk (t8 p.2).2.1 p.2.2.2.2.2.2.2.1 p.2.2.2.2.2.2.2.2.1 (t8 p.2).1))) (fun (x:Int×Int×aG×aG)=>((x.1,((),(x.2.1,((),())))),(((),((),((),((),())))),(((),((),((),((),())))),(x.2.2.1.ak,(x.2.2.1.free,(x.2.2.1.aP,(x.2.2.1.bF,(x.2.2.2.free,(x.2.2.2.aP,(x.2.2.2.bF,(x.2.2.2.ak,())))))))))))) (fun _=>rfl)
def nM:kT (Int×Int×aG×aG×(List bl)×(List Range)×(List aI)×(List Int)):=kO (kS 24 (kC kI (kC (kP 0 0) (kC kI (kC (kP 1 0) kN)))) (kC (aE.var 0 29 (kC (kA 19) (kC (kA 20) (kC (kA 21) (kC (kA 22) kN))))) (kC (aE.var 1 29 (kC (kA 23) (kC (kA 7) (kC (kA 8) (kC (kA 9) kN))))) (kC (kR 2 65 cQ) (kC (kR 3 153 aa) (kC (kR 4 43 cS) (kC (kR 5 3 au) (kC (kR 7 153 aa) (kC (kR 8 43 cS) (kC (kR 9 3 au) (kC (kR 19 65 cQ) (kC (kR 20 153 aa) (kC (kR 21 43 cS) (kC (kR 22 3 au) (kC (kR 23 65 cQ) kN))))))))))))))) (fun p=>(p.1.1,p.1.2.2.1,(aG.mk (t8 p.2).2.1 (t8 p.2).2.2.1 (t8 p.2).2.2.2.1 (t8 p.2).2.2.2.2.1),(aG.mk (t8 p.2).2.2.2.2.2.1 p.2.2.2.2.2.2.2.1 p.2.2.2.2.2.2.2.2.1 (t8 p.2).1),p.2.2.2.1,p.2.2.2.2.1,p.2.2.2.2.2.1,p.2.2.2.2.2.2.1)) (fun (x:Int×Int×aG×aG×(List bl)×(List Range)×(List aI)×(List Int))=>((x.1,((),(x.2.1,((),())))),(((),((),((),((),())))),(((),((),((),((),())))),(x.2.2.2.2.1,(x.2.2.2.2.2.1,(x.2.2.2.2.2.2.1,(x.2.2.2.2.2.2.2,(x.2.2.2.1.free,(x.2.2.2.1.aP,(x.2.2.2.1.bF,(x.2.2.1.ak,(x.2.2.1.free,(x.2.2.1.aP,(x.2.2.1.bF,(x.2.2.2.1.ak,())))))))))))))))) (fun _=>rfl)
def OI:aT TL:=aT.two xR.dec (fun p=>S4 p.1 p.2.1 p.2.2.1 p.2.2.2.1 p.2.2.2.2.1 p.2.2.2.2.2.1 p.2.2.2.2.2.2) (.exit 0) .ret nJ.aJ nM.aJ
def MS:cL:=[(120,HU),(121,td)]
def Pr:Env:=aY tab sl sh [] [(120,.pure),(121,.pure)]
theorem aBm:bK PR (bJ MS sZ) Pr:=aZ base aN (aC (oD YJ rfl) (aC (oD zF rfl) aN))
theorem aD5 (x:pj):Out.run (bO MS sZ) (bp Pr 12 20 p9.an Dg (ag (a8 p9.body) 5) (xR.aJ x)) (cj xR nJ nM (.exit 0) .ret)=CJ x:=by kernel_rfl
theorem aFp:bZ PR (bx OI) Ug Dg (ag (a8 p9.body) 5) :=
  dL aBm (loops:=12) (k:=20) (an:=p9.an) (by kernel_rfl) (aR.cI rfl F4.keys (aC (.inl (by kernel_rfl)) aN)) xR nJ nM (.exit 0) .ret rfl rfl CJ _ aD5 (fun x y h=>⟨_,h⟩) (fun _=>cA.1 rfl)
def MZ (l1:List bl)(i1:Int):Option (aG×Int) :=
 cond (decide ((l1.length:Int) > 4))
 (some ((aG.mk [] [] [] []),4))
 (ob (S4 i1 0 l1 (l1.length:Int) 0 (aG.mk [] [] [] []) (aG.mk [] [] [] [])) fun y0 =>
 two y0 (fun a1 =>
 ob (hP a1.1 0 1000) fun r3 =>
 cond (!r3)
 (some ((aG.mk [] [] [] []),1))
 (ob (nK [] (Range.mk 0 a1.1)) fun r4 =>
 ob (fP (aG.mk a1.2.2.2.ak r4 a1.2.2.2.aP a1.2.2.2.bF)) fun y5 =>
 some (y5,0))) (fun b2 =>
 some (b2.2.2.1,b2.2.1)))
def II (p:(List bl)×Int):Option (aG×Int):=MZ p.1 p.2
def IT:aV TL:=aV.of (DA.cons (DT.one jK) (DA.one dI)) II (DA.cons (DT.agg dU) (DA.one dI))
theorem Y7:bi [(122,mc),(123,uD)] [(124,ms),(175005,OI)] (aY tab sl sh [(75,p9)] [(122,.pure),(123,.keep),(124,.sum)]) 75 (DA.cons (DT.one jK) (DA.one dI)) II (DA.cons (DT.agg dU) (DA.one dI)):=fun _=>by kernel_rfl
theorem ZN:bU PR 75 .keep IT:=bj Y7 (aZ base (aC (F4.ae rfl (aC (lC aFp rfl) aN)) aN) (aC (oD qb rfl) (aC (oD zo rfl) (aC (dj rfl qf) aN)))) (.inl rfl) F4.enters
def Q8 (l1:List bl)(i1:Int):Option (bI×Int) :=
 ob (MZ l1 i1) fun r0 =>
 cond (r0.2 != 0)
 (some ((bI.mk (aG.mk [] [] [] []) (fw.mk (ah.mk [] [] [] [] [] []) (ah.mk [] [] [] [] [] []) (ah.mk [] [] [] [] [] [])) [] (dw.mk (Device.mk 0 0 (aO.mk 0 0 (aI.mk 0 0 0 0 [] [] []))) (Device.mk 0 0 (aO.mk 0 0 (aI.mk 0 0 0 0 [] [] []))) (Device.mk 0 0 (aO.mk 0 0 (aI.mk 0 0 0 0 [] [] []))) (Device.mk 0 0 (aO.mk 0 0 (aI.mk 0 0 0 0 [] [] []))) (Device.mk 0 0 (aO.mk 0 0 (aI.mk 0 0 0 0 [] [] []))) (Device.mk 0 0 (aO.mk 0 0 (aI.mk 0 0 0 0 [] [] [])))) [] 0),r0.2))
 (some ((bI.mk r0.1 (fw.mk (ah.mk [] [] [] [] [] []) (ah.mk [] [] [] [] [] []) (ah.mk [] [] [] [] [] [])) [] (dw.mk (Device.mk 0 0 (aO.mk 0 0 (aI.mk 0 0 0 0 [] [] []))) (Device.mk 0 0 (aO.mk 0 0 (aI.mk 0 0 0 0 [] [] []))) (Device.mk 0 0 (aO.mk 0 0 (aI.mk 0 0 0 0 [] [] []))) (Device.mk 0 0 (aO.mk 0 0 (aI.mk 0 0 0 0 [] [] []))) (Device.mk 0 0 (aO.mk 0 0 (aI.mk 0 0 0 0 [] [] []))) (Device.mk 0 0 (aO.mk 0 0 (aI.mk 0 0 0 0 [] [] [])))) [] 0),0))
def Lj (p:(List bl)×Int):Option (bI×Int):=Q8 p.1 p.2
def LP:aV TL:=aV.of (DA.cons (DT.one jK) (DA.one dI)) Lj (DA.cons (DT.agg fv) (DA.one dI))
theorem aA9:bi [(75,IT)] [] (aY tab sl sh [(36,Uv)] [(75,.keep)]) 36 (DA.cons (DT.one jK) (DA.one dI)) Lj (DA.cons (DT.agg fv) (DA.one dI)):=fun _=>by kernel_rfl
theorem aDE:bU PR 36 .keep LP:=bj aA9 (aZ base (aC (VU.ae rfl aN) aN) (aC (oD ZN rfl) aN)) (.inl rfl) VU.enters
def known  : Option Bool :=
 ob (Q8 [] 5) fun r0 =>
 ob (iU r0.1 (bg.mk 1 2 0 1 0 [] [])) fun r1 =>
 some (cond (r0.2 == 0) (cond (r1.2.err == 0) (cond (r1.2.n == 1) (cond (r1.1.dev.a2.aB == 1) (r1.1.dev.a2.aK == 1) false) false) false) false)
def PM (_:Unit):Option Bool:=known
def Nw:aV TL:=aV.of (DA.nil) PM (DA.one dB)
theorem aES:bi [(36,LP),(18,CC)] [] (aY tab sl sh [(15,Ux)] [(36,.keep),(18,.keep)]) 15 (DA.nil) PM (DA.one dB):=fun _=>by kernel_rfl
theorem aEs:bU PR 15 .pure Nw:=bj aES (aZ base (aC (Vi.ae rfl aN) aN) (aC (oD aDE rfl) (aC (oD MU rfl) aN))) (.inr rfl) Vi.enters
def within (i1:Int)(i2:Int):Option Int :=
 cond (decide (i2=0))
 none
 (some (cond (decide ((i1.tmod i2) < 0)) (aF ((i1.tmod i2)+i2)) (i1.tmod i2)))
def Nq (p:Int×Int):Option Int:=within p.1 p.2
def wg:aV TL:=aV.of (DA.cons dI (DA.one dI)) Nq (DA.one dI)
theorem aCX:bi [] [] (aY tab sl sh [(16,VP)] []) 16 (DA.cons dI (DA.one dI)) Nq (DA.one dI):=fun _=>by kernel_rfl
theorem CL:bU PR 16 .pure wg:=bj aCX (aZ base (aC (VN.ae rfl aN) aN) aN) (.inr rfl) VN.enters
def Ep (o1:Op):Option Bool :=
 some (cond (decide ((o1.key.size:Int)≤60)) (cond (decide ((o1.text.size:Int)≤60)) (decide ((o1.dG.length:Int)≤12)) false) false)
def Oz (p:Op):Option Bool:=Ep p
def PB:aV TL:=aV.of (DA.one (DT.agg fC)) Oz (DA.one dB)
theorem aEZ:bi [] [] (aY tab sl sh [(49,Um)] []) 49 (DA.one (DT.agg fC)) Oz (DA.one dB):=fun _=>by kernel_rfl
theorem aGP:bU PR 49 .pure PB:=bj aEZ (aZ base (aC (VG.ae rfl aN) aN) aN) (.inr rfl) VG.enters
abbrev jk:=(List Act)×Bool×Int×Int
def LJ (l1:List Act)(b1:Bool)(i1:Int)(i2:Int):Option ((jk)⊕((((List Act)×Bool×Int)⊕((List Act)×Bool×Int)))) :=
 cond (decide (0≤i1))
 (ob (l1[i1.toNat]?) fun e0 =>
 cond (decide (i2 < (e0.ops.length:Int)))
 (cond (decide (0≤i1))
 (ob (l1[i1.toNat]?) fun e1 =>
 cond (decide (0≤i2))
 (ob (e1.ops[i2.toNat]?) fun e2 =>
 ob (Ep e2) fun r3 =>
 cond (!r3)
 (some (.inr (.inr (l1,false,i1))))
 (some (.inl (l1,b1,i1,(aF (i2+1))))))
 none)
 none)
 (some (.inr (.inl (l1,b1,i1)))))
 none
def wL (p:jk):Option ((jk)⊕((((List Act)×Bool×Int)⊕((List Act)×Bool×Int)))):=LJ p.1 p.2.1 p.2.2.1 p.2.2.2
def Ed (l1:List Act)(b1:Bool)(i1:Int)(i2:Int):Option ((((List Act)×Bool×Int)⊕((List Act)×Bool×Int))):=bm wL (1099511627776) (l1,b1,i1,i2)
def lD:kT (jk):=kO (kS 0 (kC (kF yU) (kC kB (kC kI (kC kI kN)))) kN) (fun ((z0,z1,z2,z3,_),_)=>(z0,z1,z2,z3)) (fun (x:jk)=>((x.1,(x.2.1,(x.2.2.1,(x.2.2.2,())))),())) (fun _=>rfl)
def gV:kT ((List Act)×Bool×Int):=kO (kS 0 (kC (kF yU) (kC kB (kC kI kN))) kN) (fun p=>(p.1.1,p.1.2.1,p.1.2.2.1)) (fun (x:(List Act)×Bool×Int)=>((x.1,(x.2.1,(x.2.2,()))),())) (fun _=>rfl)
def Cr:aT TL:=aT.two lD.dec (fun p=>Ed p.1 p.2.1 p.2.2.1 p.2.2.2) (.exit 2) .ret gV.aJ gV.aJ
def N3:cL:=[(49,PB)]
def Pz:Env:=aY tab sl sh [] [(49,.pure)]
theorem aCD:bK PR (bJ N3 sZ) Pz:=aZ base aN (aC (oD aGP rfl) aN)
theorem aDx (x:jk):Out.run (bO N3 sZ) (bp Pz 12 20 iL.an DZ (ag (a8 iL.body) 7) (lD.aJ x)) (cj lD gV gV (.exit 2) .ret)=wL x:=by kernel_rfl
theorem O3:bZ PR (bx Cr) yx DZ (ag (a8 iL.body) 7) :=
  dL aCD (loops:=12) (k:=20) (an:=iL.an) (by kernel_rfl) (aR.cI rfl tK.keys (aC (.inl (by kernel_rfl)) (aC (.inl (by kernel_rfl)) (aC (.inl (by kernel_rfl)) aN)))) lD gV gV (.exit 2) .ret rfl rfl wL _ aDx (fun x y h=>⟨_,h⟩) (fun _=>cA.1 rfl)
def Kg (l1:List Act)(b1:Bool)(i1:Int)(i2:Int):Option ((jk)⊕((((List Act)×Bool×Int)⊕((List Act)×Bool×Int)))) :=
 cond (decide (0≤i1))
 (ob (l1[i1.toNat]?) fun e0 =>
 cond (decide (i2 < (e0.cP.length:Int)))
 (cond (decide (0≤i1))
 (ob (l1[i1.toNat]?) fun e1 =>
 cond (decide (0≤i2))
 (ob (e1.cP[i2.toNat]?) fun e2 =>
 cond (decide ((e2.key.size:Int) > 60))
 (some (.inr (.inr (l1,false,i1))))
 (some (.inl (l1,b1,i1,(aF (i2+1))))))
 none)
 none)
 (some (.inr (.inl (l1,b1,i1)))))
 none
def vc (p:jk):Option ((jk)⊕((((List Act)×Bool×Int)⊕((List Act)×Bool×Int)))):=Kg p.1 p.2.1 p.2.2.1 p.2.2.2
def Dt (l1:List Act)(b1:Bool)(i1:Int)(i2:Int):Option ((((List Act)×Bool×Int)⊕((List Act)×Bool×Int))):=bm vc (1099511627776) (l1,b1,i1,i2)
def CK:aT TL:=aT.two lD.dec (fun p=>Dt p.1 p.2.1 p.2.2.1 p.2.2.2) (.exit 4) .ret gV.aJ gV.aJ
def OJ:Env:=aY tab sl sh [] []
theorem aAL:bK PR (bJ cZ sZ) OJ:=aZ base aN aN
theorem aCw (x:jk):Out.run (bO cZ sZ) (bp OJ 12 20 iL.an Cg (ag (a8 iL.body) 12) (lD.aJ x)) (cj lD gV gV (.exit 4) .ret)=vc x:=by kernel_rfl
theorem Md:bZ PR (bx CK) yx Cg (ag (a8 iL.body) 12) :=
  dL aAL (loops:=12) (k:=20) (an:=iL.an) (by kernel_rfl) (aR.cI rfl tK.keys (aC (.inl (by kernel_rfl)) (aC (.inl (by kernel_rfl)) (aC (.inl (by kernel_rfl)) aN)))) lD gV gV (.exit 4) .ret rfl rfl vc _ aCw (fun x y h=>⟨_,h⟩) (fun _=>cA.1 rfl)
def Kx (l1:List Act)(b1:Bool)(i1:Int):Option (((List Act)×Bool×Int)⊕((((List Act)×Bool)⊕((List Act)×Bool)))) :=
 cond (decide (i1 < (l1.length:Int)))
 (cond (decide (0≤i1))
 (ob (l1[i1.toNat]?) fun e0 =>
 cond (decide ((e0.cP.length:Int) > 8))
 (some (.inr (.inr (l1,false))))
 (cond (decide (0≤i1))
 (ob (l1[i1.toNat]?) fun e1 =>
 cond (decide ((e1.ops.length:Int) > 22))
 (some (.inr (.inr (l1,false))))
 (ob (Ed l1 b1 i1 0) fun y2 =>
 two y2 (fun a3 =>
 ob (Dt a3.1 a3.2.1 a3.2.2 0) fun y5 =>
 two y5 (fun a6 =>
 some (.inl (a6.1,a6.2.1,(aF (a6.2.2+1))))) (fun b7 =>
 some (.inr (.inr (b7.1,b7.2.1))))) (fun b4 =>
 some (.inr (.inr (b4.1,b4.2.1))))))
 none))
 none)
 (some (.inr (.inl (l1,b1))))
def vr (p:(List Act)×Bool×Int):Option (((List Act)×Bool×Int)⊕((((List Act)×Bool)⊕((List Act)×Bool)))):=Kx p.1 p.2.1 p.2.2
def Eg (l1:List Act)(b1:Bool)(i1:Int):Option ((((List Act)×Bool)⊕((List Act)×Bool))):=bm vr (((l1.length:Int) - i1).toNat+2) (l1,b1,i1)
def nL:kT ((List Act)×Bool):=kO (kS 0 (kC (kF yU) (kC kB kN)) kN) (fun p=>(p.1.1,p.1.2.1)) (fun (x:(List Act)×Bool)=>((x.1,(x.2,())),())) (fun _=>rfl)
def OY:aT TL:=aT.two gV.dec (fun p=>Eg p.1 p.2.1 p.2.2) (.exit 0) .ret nL.aJ nL.aJ
def Mg:sL:=[(122007,Cr),(122012,CK)]
def Q7:Env:=aY tab sl sh [] []
theorem aCI:bK PR (bJ cZ Mg) Q7:=aZ base aN aN
theorem aEi (x:(List Act)×Bool×Int):Out.run (bO cZ Mg) (bp Q7 12 20 iL.an Db (ag (a8 iL.body) 2) (gV.aJ x)) (cj gV nL nL (.exit 0) .ret)=vr x:=by kernel_rfl
theorem aFN:bZ PR (bx OY) yx Db (ag (a8 iL.body) 2) :=
  dL aCI (loops:=12) (k:=20) (an:=iL.an) (by kernel_rfl) (aR.cI rfl tK.keys (aC (.inl (by kernel_rfl)) (aC (.inr (lC O3 rfl)) (aC (.inr (lC Md rfl)) aN)))) gV nL nL (.exit 0) .ret rfl rfl vr _ aEi (fun x y h=>⟨_,h⟩) (fun _=>cA.1 rfl)
def yH (l1:List Act):Option Bool :=
 ob (Eg l1 false 0) fun y0 =>
 two y0 (fun a1 =>
 some (decide ((a1.1.length:Int)≤60))) (fun b2 =>
 some b2.2)
def Ng (p:(List Act)):Option Bool:=yH p
def NN:aV TL:=aV.of (DA.one (DT.one mF)) Ng (DA.one dB)
theorem aCC:bi [] [(122002,OY),(122007,Cr),(122012,CK)] (aY tab sl sh [(22,iL)] []) 22 (DA.one (DT.one mF)) Ng (DA.one dB):=fun _=>by kernel_rfl
theorem aDr:bU PR 22 .pure NN:=bj aCC (aZ base (aC (tK.ae rfl (aC (lC aFN rfl) (aC (lC O3 rfl) (aC (lC Md rfl) aN)))) aN) aN) (.inr rfl) tK.enters
abbrev pF:=(List Range)×(List Range)×(List Range)×Int×Range
def Zx (l1:List Range)(l2:List Range)(l3:List Range)(i1:Int)(rx1:Range):Option ((pF)⊕((List Range)×(List Range)×Range)) :=
 cond (decide (i1 < (l1.length:Int)))
 (cond (decide (0≤i1))
 (ob (l1[i1.toNat]?) fun e0 =>
 cond (decide (e0.bt < rx1.from_))
 (cond (decide (0≤i1))
 (ob (l1[i1.toNat]?) fun e1 =>
 cond (fits ((l2++[e1]).length))
 (some (.inl (l1,(l2++[e1]),l3,(aF (i1+1)),rx1)))
 none)
 none)
 (cond (decide (0≤i1))
 (ob (l1[i1.toNat]?) fun e2 =>
 cond (decide (e2.from_ > rx1.bt))
 (cond (decide (0≤i1))
 (ob (l1[i1.toNat]?) fun e3 =>
 cond (fits ((l3++[e3]).length))
 (some (.inl (l1,l2,(l3++[e3]),(aF (i1+1)),rx1)))
 none)
 none)
 (cond (decide (0≤i1))
 (ob (l1[i1.toNat]?) fun e4 =>
 cond (decide (0≤i1))
 (ob (l1[i1.toNat]?) fun e5 =>
 some (.inl (l1,l2,l3,(aF (i1+1)),(Range.mk (min2 rx1.from_ e4.from_) (max2 rx1.bt e5.bt)))))
 none)
 none))
 none))
 none)
 (some (.inr (l2,l3,rx1)))
def B0 (p:pF):Option ((pF)⊕((List Range)×(List Range)×Range)):=Zx p.1 p.2.1 p.2.2.1 p.2.2.2.1 p.2.2.2.2
def RC (l1:List Range)(l2:List Range)(l3:List Range)(i1:Int)(rx1:Range):Option ((List Range)×(List Range)×Range):=bm B0 (((l1.length:Int) - i1).toNat+2) (l1,l2,l3,i1,rx1)
def wB:kT (pF):=kO (kS 3 (kC (kF aa) (kC (kP 0 0) (kC (aE.xs (aE.sc (kA 1))) (kC (aE.xs (aE.sc (kA 2))) (kC kI kN))))) (kC (aE.var 0 153 (kC kJ (kC kJ kN))) (kC (kR 1 153 aa) (kC (kR 2 153 aa) kN)))) (fun p=>(p.1.1,p.2.2.1,p.2.2.2.1,p.1.2.2.2.2.1,(Range.mk p.2.1.1 p.2.1.2.1))) (fun (x:pF)=>((x.1,((),((),((),(x.2.2.2.1,()))))),((x.2.2.2.2.from_,(x.2.2.2.2.bt,())),(x.2.1,(x.2.2.1,()))))) (fun _=>rfl)
def BA:kT ((List Range)×(List Range)×Range):=kO (kS 6 (kC (kP 0 0) (kC (aE.xs (aE.sc (kA 4))) (kC (aE.xs (aE.sc (kA 5))) kN))) (kC (aE.var 0 153 (kC kJ (kC kJ kN))) (kC (kR 4 153 aa) (kC (kR 5 153 aa) kN)))) (fun p=>(p.2.2.1,p.2.2.2.1,(Range.mk p.2.1.1 p.2.1.2.1))) (fun (x:(List Range)×(List Range)×Range)=>(((),((),((),()))),((x.2.2.from_,(x.2.2.bt,())),(x.1,(x.2.1,()))))) (fun _=>rfl)
def M2:aT TL:=aT.one wB.dec (fun p=>RC p.1 p.2.1 p.2.2.1 p.2.2.2.1 p.2.2.2.2) (.exit 0) BA.aJ
def P9:Env:=aY tab sl sh [] []
theorem aAh:bK PR (bJ cZ sZ) P9:=aZ base aN aN
theorem aCT (x:pF):Out.run (bO cZ sZ) (bp P9 12 20 oq.an C5 (ag (a8 oq.body) 5) (wB.aJ x)) (back wB BA fun e=>ck e (.exit 0))=B0 x:=by kernel_rfl
theorem aEA:bZ PR (bx M2) TZ C5 (ag (a8 oq.body) 5) :=
  dd aAh (loops:=12) (k:=20) (an:=oq.an) (by kernel_rfl) (aR.cI rfl FJ.keys (aC (.inl (by kernel_rfl)) aN)) wB BA (.exit 0) rfl B0 _ aCT (fun x y h=>⟨_,h⟩) (fun _=>cA.1 rfl)
def Ou (l1:List Range)(rx1:Range):Option ((List Range)) :=
 cond (cond (decide (rx1.from_ < 0)) true (cond (decide (rx1.from_≥rx1.bt)) true (decide (rx1.bt > 1073741824))))
 (cond (fits (([]++l1).length))
 (some ([]++l1))
 none)
 (ob (RC l1 [] [] 0 rx1) fun y0 =>
 cond (fits ((y0.1++[y0.2.2]).length))
 (cond (fits (((y0.1++[y0.2.2])++y0.2.1).length))
 (some ((y0.1++[y0.2.2])++y0.2.1))
 none)
 none)
def Jt (p:(List Range)×Range):Option ((List Range)):=Ou p.1 p.2
def J7:aV TL:=aV.of (DA.cons (DT.one dF) (DA.one (DT.agg xP))) Jt (DA.one (DT.one dF))
theorem ZV:bi [] [(225005,M2)] (aY tab sl sh [(125,oq)] []) 125 (DA.cons (DT.one dF) (DA.one (DT.agg xP))) Jt (DA.one (DT.one dF)):=fun _=>by kernel_rfl
theorem Zv:bU PR 125 .keep J7:=bj ZV (aZ base (aC (FJ.ae rfl (aC (lC aEA rfl) aN)) aN) aN) (.inl rfl) FJ.enters
def aCe (s1:ByteArray)(b1:Bool)(i1:Int):Option ((ByteArray×Bool×Int)⊕(((Bool)⊕(Bool)))) :=
 cond (decide (i1 < (s1.size:Int)))
 (cond (decide (0≤i1))
 (cond (decide (i1 < (s1.size:Int)))
 (cond (decide (((s1[(i1:Int).toNat]?.getD 0).toNat:Int) < 32))
 (some (.inr (.inr false)))
 (cond (decide (0≤i1))
 (cond (decide (i1 < (s1.size:Int)))
 (cond (((s1[(i1:Int).toNat]?.getD 0).toNat:Int) == 127)
 (some (.inr (.inr false)))
 (some (.inl (s1,b1,(aF (i1+1))))))
 none)
 none))
 none)
 none)
 (some (.inr (.inl b1)))
def Bc (p:ByteArray×Bool×Int):Option ((ByteArray×Bool×Int)⊕(((Bool)⊕(Bool)))):=aCe p.1 p.2.1 p.2.2
def UY (s1:ByteArray)(b1:Bool)(i1:Int):Option (((Bool)⊕(Bool))):=bm Bc (((s1.size:Int) - i1).toNat+2) (s1,b1,i1)
def xJ:kT (ByteArray×Bool×Int):=kO (kS 0 (kC (aE.xs (aE.sc kE)) (kC kB (kC kI kN))) kN) (fun p=>(p.1.1,p.1.2.1,p.1.2.2.1)) (fun (x:ByteArray×Bool×Int)=>((x.1,(x.2.1,(x.2.2,()))),())) (fun _=>rfl)
def OL:aT TL:=aT.two xJ.dec (fun p=>UY p.1 p.2.1 p.2.2) (.exit 0) .ret bP.aJ bP.aJ
def Q6:Env:=aY tab sl sh [] []
theorem aC8:bK PR (bJ cZ sZ) Q6:=aZ base aN aN
theorem aDQ (x:ByteArray×Bool×Int):Out.run (bO cZ sZ) (bp Q6 12 20 pE.an D4 (ag (a8 pE.body) 4) (xJ.aJ x)) (cj xJ bP bP (.exit 0) .ret)=Bc x:=by kernel_rfl
theorem aGB:bZ PR (bx OL) Vg D4 (ag (a8 pE.body) 4) :=
  dL aC8 (loops:=12) (k:=20) (an:=pE.an) (by kernel_rfl) (aR.cI rfl F6.keys (aC (.inl (by kernel_rfl)) aN)) xJ bP bP (.exit 0) .ret rfl rfl Bc _ aDQ (fun x y h=>⟨_,h⟩) (fun _=>cA.1 rfl)
def On (s1:ByteArray):Option Bool :=
 cond (decide ((s1.size:Int) > 40))
 (some false)
 (ob (UY s1 false 0) fun y0 =>
 two y0 (fun _ =>
 some true) (fun b2 =>
 some b2))
def Jj (p:ByteArray):Option Bool:=On p
def J5:aV TL:=aV.of (DA.one (DT.one DI.str)) Jj (DA.one dB)
theorem Zm:bi [] [(173004,OL)] (aY tab sl sh [(73,pE)] []) 73 (DA.one (DT.one DI.str)) Jj (DA.one dB):=fun _=>by kernel_rfl
theorem aAn:bU PR 73 .pure J5:=bj Zm (aZ base (aC (F6.ae rfl (aC (lC aGB rfl) aN)) aN) aN) (.inr rfl) F6.enters
def Hu (c1:bl):Option Bool :=
 cond (!dk c1.key dO)
 (ob (On c1.key) fun r0 =>
 some (cond r0 (cond (decide (c1.cC≥0)) (cond (decide (c1.cC < 3)) (cond (decide ((-1099511627776)≤c1.lo)) (cond (decide (c1.lo≤c1.start)) (cond (decide (c1.start≤c1.hi)) (decide (c1.hi≤1099511627776)) false) false) false) false) false) false))
 (some false)
def GM (p:bl):Option Bool:=Hu p
def GS:aV TL:=aV.of (DA.one (DT.agg vK)) GM (DA.one dB)
theorem Wq:bi [(73,J5)] [] (aY tab sl sh [(43,Vs)] [(73,.pure)]) 43 (DA.one (DT.agg vK)) GM (DA.one dB):=fun _=>by kernel_rfl
theorem XO:bU PR 43 .pure GS:=bj Wq (aZ base (aC (VB.ae rfl aN) aN) (aC (oD aAn rfl) aN)) (.inr rfl) VB.enters
abbrev pT:=ByteArray×Int×Int×aG
def aCJ (s1:ByteArray)(i1:Int)(i2:Int)(bx1:aG):Option ((pT)⊕(((Int×aG)⊕(Int×aG)))) :=
 cond (decide (i2 < (bx1.ak.length:Int)))
 (cond (decide (0≤i2))
 (ob (bx1.ak[i2.toNat]?) fun e0 =>
 cond (dk e0.key s1)
 (some (.inr (.inr (i2,bx1))))
 (some (.inl (s1,i1,(aF (i2+1)),bx1))))
 none)
 (some (.inr (.inl (i1,bx1))))
def Bp (p:pT):Option ((pT)⊕(((Int×aG)⊕(Int×aG)))):=aCJ p.1 p.2.1 p.2.2.1 p.2.2.2
def U3 (s1:ByteArray)(i1:Int)(i2:Int)(bx1:aG):Option (((Int×aG)⊕(Int×aG))):=bm Bp (1099511627776) (s1,i1,i2,bx1)
def xf:kT (pT):=kO (kS 1 (kC (aE.xs (aE.sc kE)) (kC (kP 0 0) (kC kI (kC kI kN)))) (kC (aE.var 0 29 mK) kN)) (fun p=>(p.1.1,p.1.2.2.1,p.1.2.2.2.1,p.2.1)) (fun (x:pT)=>((x.1,((),(x.2.1,(x.2.2.1,())))),(x.2.2.2,()))) (fun _=>rfl)
def il:kT (Int×aG):=kO (kS 2 (kC kI kN) (kC (aE.var 0 29 mK) kN)) (fun p=>(p.1.1,p.2.1)) (fun (x:Int×aG)=>((x.1,()),(x.2,()))) (fun _=>rfl)
def Oo:aT TL:=aT.two xf.dec (fun p=>U3 p.1 p.2.1 p.2.2.1 p.2.2.2) (.exit 0) .ret il.aJ il.aJ
def Qk:Env:=aY tab sl sh [] []
theorem aDG:bK PR (bJ cZ sZ) Qk:=aZ base aN aN
theorem aEh (x:pT):Out.run (bO cZ sZ) (bp Qk 12 20 pX.an DR (ag (a8 pX.body) 2) (xf.aJ x)) (cj xf il il (.exit 0) .ret)=Bp x:=by kernel_rfl
theorem aEz:bZ PR (bx Oo) Vf DR (ag (a8 pX.body) 2) :=
  dL aDG (loops:=12) (k:=20) (an:=pX.an) (by kernel_rfl) (aR.cI rfl F9.keys (aC (.inl (by kernel_rfl)) aN)) xf il il (.exit 0) .ret rfl rfl Bp _ aEh (fun x y h=>⟨_,h⟩) (fun _=>cA.1 rfl)
def KP (bx1:aG)(s1:ByteArray):Option Int :=
 ob (U3 s1 0 0 bx1) fun y0 =>
 two y0 (fun _ =>
 some (-1)) (fun b2 =>
 some b2.1)
def Gs (p:aG×ByteArray):Option Int:=KP p.1 p.2
def Gk:aV TL:=aV.of (DA.cons (DT.agg dU) (DA.one (DT.one DI.str))) Gs (DA.one dI)
theorem XR:bi [] [(144002,Oo)] (aY tab sl sh [(44,pX)] []) 44 (DA.cons (DT.agg dU) (DA.one (DT.one DI.str))) Gs (DA.one dI):=fun _=>by kernel_rfl
theorem Xq:bU PR 44 .pure Gk:=bj XR (aZ base (aC (F9.ae rfl (aC (lC aEz rfl) aN)) aN) aN) (.inr rfl) F9.enters
abbrev pW:=(List bl)×Int×Int×Int×aG×aG
def aCm (l1:List bl)(i1:Int)(i2:Int)(i3:Int)(bx1:aG)(bx2:aG):Option ((pW)⊕(((Int×Int×aG×aG)⊕(Int×Int×aG×aG×(List bl)×(List Range)×(List aI)×(List Int))))) :=
 cond (decide (i3 < (l1.length:Int)))
 (cond (decide (0≤i3))
 (ob (l1[i3.toNat]?) fun e0 =>
 ob (Hu e0) fun r1 =>
 cond (!r1)
 (some (.inr (.inr (i1,1,(aG.mk [] [] [] []),bx2,bx1.ak,bx1.free,bx1.aP,bx1.bF))))
 (cond (decide (0≤i3))
 (ob (l1[i3.toNat]?) fun e2 =>
 ob (KP bx2 e2.key) fun r3 =>
 cond (decide (r3≥0))
 (some (.inr (.inr (i1,7,(aG.mk [] [] [] []),bx2,bx1.ak,bx1.free,bx1.aP,bx1.bF))))
 (cond (decide (0≤i3))
 (ob (l1[i3.toNat]?) fun e4 =>
 cond (fits ((bx2.ak++[(bl.mk e4.key e4.cC e4.lo e4.hi e4.start (aF (e4.hi - e4.start)) (aF (e4.start - e4.lo)))]).length))
 (some (.inl (l1,i1,i2,(aF (i3+1)),bx1,(aG.mk (bx2.ak++[(bl.mk e4.key e4.cC e4.lo e4.hi e4.start (aF (e4.hi - e4.start)) (aF (e4.start - e4.lo)))]) bx2.free bx2.aP bx2.bF))))
 none)
 none))
 none))
 none)
 (some (.inr (.inl (i1,i2,bx1,bx2))))
def Bw (p:pW):Option ((pW)⊕(((Int×Int×aG×aG)⊕(Int×Int×aG×aG×(List bl)×(List Range)×(List aI)×(List Int))))):=aCm p.1 p.2.1 p.2.2.1 p.2.2.2.1 p.2.2.2.2.1 p.2.2.2.2.2
def Tq (l1:List bl)(i1:Int)(i2:Int)(i3:Int)(bx1:aG)(bx2:aG):Option (((Int×Int×aG×aG)⊕(Int×Int×aG×aG×(List bl)×(List Range)×(List aI)×(List Int)))):=bm Bw (((l1.length:Int) - i3).toNat+2) (l1,i1,i2,i3,bx1,bx2)
def xZ:kT (pW):=kO (kS 10 (kC (kF cQ) (kC kI (kC (kP 0 0) (kC kI (kC (kP 1 0) (kC kI kN)))))) (kC (aE.var 0 29 (kC (kA 2) (kC (kA 3) (kC (kA 4) (kC (kA 5) kN))))) (kC (aE.var 1 29 (kC (kA 6) (kC (kA 7) (kC (kA 8) (kC (kA 9) kN))))) (kC (kR 2 65 cQ) (kC (kR 3 153 aa) (kC (kR 4 43 cS) (kC (kR 5 3 au) (kC (kR 6 65 cQ) (kC (kR 7 153 aa) (kC (kR 8 43 cS) (kC (kR 9 3 au) kN))))))))))) (fun p=>(p.1.1,p.1.2.1,p.1.2.2.2.1,p.1.2.2.2.2.2.1,(aG.mk p.2.2.2.1 p.2.2.2.2.1 p.2.2.2.2.2.1 p.2.2.2.2.2.2.1),(aG.mk p.2.2.2.2.2.2.2.1 p.2.2.2.2.2.2.2.2.1 (t8 p.2).1 (t8 p.2).2.1))) (fun (x:pW)=>((x.1,(x.2.1,((),(x.2.2.1,((),(x.2.2.2.1,())))))),(((),((),((),((),())))),(((),((),((),((),())))),(x.2.2.2.2.1.ak,(x.2.2.2.2.1.free,(x.2.2.2.2.1.aP,(x.2.2.2.2.1.bF,(x.2.2.2.2.2.ak,(x.2.2.2.2.2.free,(x.2.2.2.2.2.aP,(x.2.2.2.2.2.bF,())))))))))))) (fun _=>rfl)
def Pg:aT TL:=aT.two xZ.dec (fun p=>Tq p.1 p.2.1 p.2.2.1 p.2.2.2.1 p.2.2.2.2.1 p.2.2.2.2.2) (.exit 0) .ret nJ.aJ nM.aJ
def Mp:cL:=[(43,GS),(44,Gk)]
def QJ:Env:=aY tab sl sh [] [(43,.pure),(44,.pure)]
theorem aBe:bK PR (bJ Mp sZ) QJ:=aZ base aN (aC (oD XO rfl) (aC (oD Xq rfl) aN))
theorem aDw (x:pW):Out.run (bO Mp sZ) (bp QJ 12 20 qJ.an DQ (ag (a8 qJ.body) 5) (xZ.aJ x)) (cj xZ nJ nM (.exit 0) .ret)=Bw x:=by kernel_rfl
theorem aFw:bZ PR (bx Pg) Vb DQ (ag (a8 qJ.body) 5) :=
  dL aBe (loops:=12) (k:=20) (an:=qJ.an) (by kernel_rfl) (aR.cI rfl F1.keys (aC (.inl (by kernel_rfl)) aN)) xZ nJ nM (.exit 0) .ret rfl rfl Bw _ aDw (fun x y h=>⟨_,h⟩) (fun _=>cA.1 rfl)
def O9 (l1:List bl)(i1:Int):Option (aG×Int) :=
 cond (decide ((l1.length:Int) > 4))
 (some ((aG.mk [] [] [] []),4))
 (ob (Tq l1 i1 0 0 (aG.mk [] [] [] []) (aG.mk [] [] [] [])) fun y0 =>
 two y0 (fun a1 =>
 cond (cond (decide (a1.1 < 0)) true (decide (a1.1 > 1000)))
 (some ((aG.mk [] [] [] []),1))
 (ob (Ou [] (Range.mk 0 a1.1)) fun r3 =>
 some ((aG.mk a1.2.2.2.ak r3 a1.2.2.2.aP a1.2.2.2.bF),0))) (fun b2 =>
 some (b2.2.2.1,b2.2.1)))
def JR (p:(List bl)×Int):Option (aG×Int):=O9 p.1 p.2
def Jy:aV TL:=aV.of (DA.cons (DT.one jK) (DA.one dI)) JR (DA.cons (DT.agg dU) (DA.one dI))
theorem ZH:bi [(125,J7)] [(176005,Pg)] (aY tab sl sh [(76,qJ)] [(125,.keep)]) 76 (DA.cons (DT.one jK) (DA.one dI)) JR (DA.cons (DT.agg dU) (DA.one dI)):=fun _=>by kernel_rfl
theorem aA7:bU PR 76 .keep Jy:=bj ZH (aZ base (aC (F1.ae rfl (aC (lC aFw rfl) aN)) aN) (aC (oD Zv rfl) aN)) (.inl rfl) F1.enters
def PE  : Option aG :=
 ob (O9 [(bl.mk iN 0 0 20 10 0 0),(bl.mk jH 1 (-30) 30 0 0 0)] 40) fun r0 =>
 some r0.1
def Jm (_:Unit):Option aG:=PE
def JU:aV TL:=aV.of (DA.nil) Jm (DA.one (DT.agg dU))
theorem Yz:bi [(76,Jy)] [] (aY tab sl sh [(37,Uj)] [(76,.keep)]) 37 (DA.nil) Jm (DA.one (DT.agg dU)):=fun _=>by kernel_rfl
theorem aAZ:bU PR 37 .keep JU:=bj Yz (aZ base (aC (V4.ae rfl aN) aN) (aC (oD aA7 rfl) aN)) (.inl rfl) V4.enters
def C9  : Option bI :=
 ob (PE) fun r0 =>
 some (bI.mk r0 (fw.mk (ah.mk [] [] [] [] [] []) (ah.mk [] [] [] [] [] []) (ah.mk [] [] [] [] [] [])) [] (dw.mk (Device.mk 0 0 (aO.mk 0 0 (aI.mk 0 0 0 0 [] [] []))) (Device.mk 0 0 (aO.mk 0 0 (aI.mk 0 0 0 0 [] [] []))) (Device.mk 0 0 (aO.mk 0 0 (aI.mk 0 0 0 0 [] [] []))) (Device.mk 0 0 (aO.mk 0 0 (aI.mk 0 0 0 0 [] [] []))) (Device.mk 0 0 (aO.mk 0 0 (aI.mk 0 0 0 0 [] [] []))) (Device.mk 0 0 (aO.mk 0 0 (aI.mk 0 0 0 0 [] [] [])))) [] 0)
def K9 (_:Unit):Option bI:=C9
def KR:aV TL:=aV.of (DA.nil) K9 (DA.one (DT.agg fv))
theorem Z7:bi [(37,JU)] [] (aY tab sl sh [(17,VV)] [(37,.keep)]) 17 (DA.nil) K9 (DA.one (DT.agg fv)):=fun _=>by kernel_rfl
theorem aBP:bU PR 17 .keep KR:=bj Z7 (aZ base (aC (Vz.ae rfl aN) aN) (aC (oD aAZ rfl) aN)) (.inl rfl) Vz.enters
def rK (i1:Int)(i2:Int):Option Int :=
 cond (decide (i2=0))
 none
 (some (cond (decide ((i1.tmod i2) < 0)) (aF ((i1.tmod i2)+i2)) (i1.tmod i2)))
def HX (p:Int×Int):Option Int:=rK p.1 p.2
def Hs:aV TL:=aV.of (DA.cons dI (DA.one dI)) HX (DA.one dI)
theorem Xr:bi [] [] (aY tab sl sh [(96,VC)] []) 96 (DA.cons dI (DA.one dI)) HX (DA.one dI):=fun _=>by kernel_rfl
theorem Y3:bU PR 96 .pure Hs:=bj Xr (aZ base (aC (WH.ae rfl aN) aN) aN) (.inr rfl) WH.enters
abbrev qC:=(List Want)×(List Want)×Int
def Lm (l1:List Want)(l2:List Want)(i1:Int):Option ((qC)⊕((List Want))) :=
 cond (cond (decide (i1 < (l1.length:Int))) (decide (i1 < 3)) false)
 (cond (decide (0≤i1))
 (cond (decide (i1 < ([iN,jH,dO].length:Int)))
 (ob ([iN,jH,dO][i1.toNat]?) fun e0 =>
 cond (decide (0≤i1))
 (ob (l1[i1.toNat]?) fun e1 =>
 ob (rK e1.cO 7) fun r2 =>
 cond (decide (0≤i1))
 (ob (l1[i1.toNat]?) fun e3 =>
 ob (rK e3.cY 7) fun r4 =>
 cond (decide (0≤i1))
 (ob (l1[i1.toNat]?) fun e5 =>
 ob (rK e5.ids 7) fun r6 =>
 cond (i1 == 2)
 (cond (fits ((l2++[(Want.mk e0 0 0 r6)]).length))
 (some (.inl (l1,(l2++[(Want.mk e0 0 0 r6)]),(aF (i1+1)))))
 none)
 (cond (fits ((l2++[(Want.mk e0 r2 r4 r6)]).length))
 (some (.inl (l1,(l2++[(Want.mk e0 r2 r4 r6)]),(aF (i1+1)))))
 none))
 none)
 none)
 none)
 none)
 none)
 (some (.inr l2))
def wT (p:qC):Option ((qC)⊕((List Want))):=Lm p.1 p.2.1 p.2.2
def UT (l1:List Want)(l2:List Want)(i1:Int):Option ((List Want)):=bm wT (((l1.length:Int) - i1).toNat+2) (l1,l2,i1)
def xA:kT (qC):=kO (kS 1 (kC (kF fb) (kC (aE.xs (aE.sc (kA 0))) (kC kI kN))) (kC (kR 0 105 fb) kN)) (fun p=>(p.1.1,p.2.1,p.1.2.2.1)) (fun (x:qC)=>((x.1,((),(x.2.2,()))),(x.2.1,()))) (fun _=>rfl)
def Bg:kT ((List Want)):=kO (kS 2 (kC (aE.xs (aE.sc (kA 1))) kN) (kC (kR 1 105 fb) kN)) (fun p=>p.2.1) (fun (x:(List Want))=>(((),()),(x,()))) (fun _=>rfl)
def OF:aT TL:=aT.one xA.dec (fun p=>UT p.1 p.2.1 p.2.2) (.exit 0) Bg.aJ
def Mq:cL:=[(96,Hs)]
def Qh:Env:=aY tab sl sh [] [(96,.pure)]
theorem aB4:bK PR (bJ Mq sZ) Qh:=aZ base aN (aC (oD Y3 rfl) aN)
theorem aEj (x:qC):Out.run (bO Mq sZ) (bp Qh 12 20 pQ.an D6 (ag (a8 pQ.body) 3) (xA.aJ x)) (back xA Bg fun e=>ck e (.exit 0))=wT x:=by kernel_rfl
theorem aFy:bZ PR (bx OF) Vp D6 (ag (a8 pQ.body) 3) :=
  dd aB4 (loops:=12) (k:=20) (an:=pQ.an) (by kernel_rfl) (aR.cI rfl FX.keys (aC (.inl (by kernel_rfl)) aN)) xA Bg (.exit 0) rfl wT _ aEj (fun x y h=>⟨_,h⟩) (fun _=>cA.1 rfl)
def jx (l1:List Want):Option ((List Want)) :=
 ob (UT l1 [] 0) fun y0 =>
 some y0
def K2 (p:(List Want)):Option ((List Want)):=jx p
def Kd:aV TL:=aV.of (DA.one (DT.one n3)) K2 (DA.one (DT.one n3))
theorem ZZ:bi [] [(153003,OF)] (aY tab sl sh [(53,pQ)] []) 53 (DA.one (DT.one n3)) K2 (DA.one (DT.one n3)):=fun _=>by kernel_rfl
theorem aAP:bU PR 53 .keep Kd:=bj ZZ (aZ base (aC (FX.ae rfl (aC (lC aFy rfl) aN)) aN) aN) (.inl rfl) FX.enters
abbrev qI:=Int×Int×Int×Int×bI
def MF (i1:Int)(i2:Int)(i3:Int)(i4:Int)(d1:bI):Option ((qI)⊕(Int×bI)) :=
 cond (decide (i4 < (d1.log.length:Int)))
 (cond (decide (0≤i4))
 (ob (d1.log[i4.toNat]?) fun e0 =>
 cond (e0.al.device == i1)
 (cond (decide (0≤i4))
 (ob (d1.log[i4.toNat]?) fun e1 =>
 some (.inl (i1,i2,(cond (e1.al.aB == i2) (aF (i3+1)) i3),(aF (i4+1)),d1)))
 none)
 (some (.inl (i1,i2,i3,(aF (i4+1)),d1))))
 none)
 (some (.inr (i3,d1)))
def wN (p:qI):Option ((qI)⊕(Int×bI)):=MF p.1 p.2.1 p.2.2.1 p.2.2.2.1 p.2.2.2.2
def Eo (i1:Int)(i2:Int)(i3:Int)(i4:Int)(d1:bI):Option (Int×bI):=bm wN (1099511627776) (i1,i2,i3,i4,d1)
def xF:kT (qI):=kO (kS 1 (kC kI (kC kI (kC (kP 0 0) (kC kI (kC kI kN))))) (kC (aE.var 0 50 mB) kN)) (fun ((z0,z1,_,z2,z3,_),z4,_)=>(z0,z1,z2,z3,z4)) (fun (x:qI)=>((x.1,(x.2.1,((),(x.2.2.1,(x.2.2.2.1,()))))),(x.2.2.2.2,()))) (fun _=>rfl)
def CO:kT (Int×bI):=kO (kS 2 (kC kI kN) (kC (aE.var 0 50 mB) kN)) (fun p=>(p.1.1,p.2.1)) (fun (x:Int×bI)=>((x.1,()),(x.2,()))) (fun _=>rfl)
def PG:aT TL:=aT.one xF.dec (fun p=>Eo p.1 p.2.1 p.2.2.1 p.2.2.2.1 p.2.2.2.2) (.exit 0) CO.aJ
def Pq:Env:=aY tab sl sh [] []
theorem aCy:bK PR (bJ cZ sZ) Pq:=aZ base aN aN
theorem aDn (x:qI):Out.run (bO cZ sZ) (bp Pq 12 20 pI.an D5 (ag (a8 pI.body) 3) (xF.aJ x)) (back xF CO fun e=>ck e (.exit 0))=wN x:=by kernel_rfl
theorem aFO:bZ PR (bx PG) VX D5 (ag (a8 pI.body) 3) :=
  dd aCy (loops:=12) (k:=20) (an:=pI.an) (by kernel_rfl) (aR.cI rfl F7.keys (aC (.inl (by kernel_rfl)) aN)) xF CO (.exit 0) rfl wN _ aDn (fun x y h=>⟨_,h⟩) (fun _=>cA.1 rfl)
def jo (d1:bI)(i1:Int)(i2:Int):Option Int :=
 ob (Eo i1 i2 0 0 d1) fun y0 =>
 some y0.1
def GP (p:bI×Int×Int):Option Int:=jo p.1 p.2.1 p.2.2
def GY:aV TL:=aV.of (DA.cons (DT.agg fv) (DA.cons dI (DA.one dI))) GP (DA.one dI)
theorem Wt:bi [] [(154003,PG)] (aY tab sl sh [(54,pI)] []) 54 (DA.cons (DT.agg fv) (DA.cons dI (DA.one dI))) GP (DA.one dI):=fun _=>by kernel_rfl
theorem XA:bU PR 54 .pure GY:=bj Wt (aZ base (aC (F7.ae rfl (aC (lC aFO rfl) aN)) aN) aN) (.inr rfl) F7.enters
def gU (i1:Int)(i2:Int):Option Int :=
 cond (decide (i2=0))
 none
 (some (cond (decide ((i1.tmod i2) < 0)) (aF ((i1.tmod i2)+i2)) (i1.tmod i2)))
def IB (p:Int×Int):Option Int:=gU p.1 p.2
def AL:aV TL:=aV.of (DA.cons dI (DA.one dI)) IB (DA.one dI)
theorem Ya:bi [] [] (aY tab sl sh [(97,V8)] []) 97 (DA.cons dI (DA.one dI)) IB (DA.one dI):=fun _=>by kernel_rfl
theorem I1:bU PR 97 .pure AL:=bj Ya (aZ base (aC (WI.ae rfl aN) aN) aN) (.inr rfl) WI.enters
def xY (ex1:aL)(ex2:aL):Option Bool :=
 cond (ex1.device != ex2.device)
 (some (decide (ex1.device < ex2.device)))
 (cond (ex1.aB != ex2.aB)
 (some (decide (ex1.aB < ex2.aB)))
 (some (decide (ex1.seq < ex2.seq))))
def Kf (p:aL×aL):Option Bool:=xY p.1 p.2
def KQ:aV TL:=aV.of (DA.cons (DT.agg fu) (DA.one (DT.agg fu))) Kf (DA.one dB)
theorem ZA:bi [] [] (aY tab sl sh [(74,Uz)] []) 74 (DA.cons (DT.agg fu) (DA.one (DT.agg fu))) Kf (DA.one dB):=fun _=>by kernel_rfl
theorem aBB:bU PR 74 .pure KQ:=bj ZA (aZ base (aC (Vj.ae rfl aN) aN) aN) (.inr rfl) Vj.enters
abbrev jS:=(List aL)×Int×Int×Op×Op×aL
def Jq (l1:List aL)(i1:Int)(i2:Int)(o1:Op)(o2:Op)(ex1:aL):Option ((jS)⊕(jS)) :=
 cond (decide (i2 < (l1.length:Int)))
 (cond (decide (0≤i2))
 (ob (l1[i2.toNat]?) fun e0 =>
 ob (xY e0 ex1) fun r1 =>
 cond (r1)
 (some (.inl (l1,i1,(aF (i2+1)),o1,o2,ex1)))
 (some (.inr (l1,i1,i2,o1,o2,ex1))))
 none)
 (some (.inr (l1,i1,i2,o1,o2,ex1)))
def vb (p:jS):Option ((jS)⊕(jS)):=Jq p.1 p.2.1 p.2.2.1 p.2.2.2.1 p.2.2.2.2.1 p.2.2.2.2.2
def R9 (l1:List aL)(i1:Int)(i2:Int)(o1:Op)(o2:Op)(ex1:aL):Option jS:=bm vb (((l1.length:Int) - i2).toNat+2) (l1,i1,i2,o1,o2,ex1)
def wD:kT (jS):=kO (kS 4 (kC (kP 0 0) (kC (kP 1 0) (kC (kF bL) (kC kI (kC (kP 2 0) (kC kI kN)))))) (kC (aE.var 0 61 kQ) (kC (aE.var 1 61 (kC kJ (kC kJ (kC kJ (kC kJ (kC kJ (kC kJ (kC kE (kC kE (kC kJ (kC kJ (kC (kA 3) kN)))))))))))) (kC (aE.var 2 59 (kC kJ (kC kJ (kC kJ kN)))) (kC (kR 3 59 bL) kN))))) (fun p=>(p.1.2.2.1,p.1.2.2.2.1,p.1.2.2.2.2.2.1,p.2.1,(Op.mk (aL.mk p.2.2.1.1 p.2.2.1.2.1 p.2.2.1.2.2.1) p.2.2.1.2.2.2.1 p.2.2.1.2.2.2.2.1 p.2.2.1.2.2.2.2.2.1 p.2.2.1.2.2.2.2.2.2.1 p.2.2.1.2.2.2.2.2.2.2.1 (t8 p.2.2.1).1 (t8 p.2.2.1).2.1 p.2.2.2.2.1),(aL.mk p.2.2.2.1.1 p.2.2.2.1.2.1 p.2.2.2.1.2.2.1))) (fun (x:jS)=>(((),((),(x.1,(x.2.1,((),(x.2.2.1,())))))),(x.2.2.2.1,((x.2.2.2.2.1.al.device,(x.2.2.2.2.1.al.aB,(x.2.2.2.2.1.al.seq,(x.2.2.2.2.1.cC,(x.2.2.2.2.1.cU,(x.2.2.2.2.1.kind,(x.2.2.2.2.1.key,(x.2.2.2.2.1.text,(x.2.2.2.2.1.n,(x.2.2.2.2.1.time,((),()))))))))))),((x.2.2.2.2.2.device,(x.2.2.2.2.2.aB,(x.2.2.2.2.2.seq,()))),(x.2.2.2.2.1.dG,())))))) (fun _=>rfl)
def BR:kT (jS):=kO (kS 8 (kC (kP 0 0) (kC (kP 1 0) (kC (kF bL) (kC kI (kC (kP 2 0) (kC kI kN)))))) (kC (aE.var 0 61 kQ) (kC (aE.var 1 61 (kC kJ (kC kJ (kC kJ (kC kJ (kC kJ (kC kJ (kC kE (kC kE (kC kJ (kC kJ (kC (kA 3) kN)))))))))))) (kC (aE.var 2 59 (kC kJ (kC kJ (kC kJ kN)))) (kC (kR 3 59 bL) kN))))) (fun p=>(p.1.2.2.1,p.1.2.2.2.1,p.1.2.2.2.2.2.1,p.2.1,(Op.mk (aL.mk p.2.2.1.1 p.2.2.1.2.1 p.2.2.1.2.2.1) p.2.2.1.2.2.2.1 p.2.2.1.2.2.2.2.1 p.2.2.1.2.2.2.2.2.1 p.2.2.1.2.2.2.2.2.2.1 p.2.2.1.2.2.2.2.2.2.2.1 (t8 p.2.2.1).1 (t8 p.2.2.1).2.1 p.2.2.2.2.1),(aL.mk p.2.2.2.1.1 p.2.2.2.1.2.1 p.2.2.2.1.2.2.1))) (fun (x:jS)=>(((),((),(x.1,(x.2.1,((),(x.2.2.1,())))))),(x.2.2.2.1,((x.2.2.2.2.1.al.device,(x.2.2.2.2.1.al.aB,(x.2.2.2.2.1.al.seq,(x.2.2.2.2.1.cC,(x.2.2.2.2.1.cU,(x.2.2.2.2.1.kind,(x.2.2.2.2.1.key,(x.2.2.2.2.1.text,(x.2.2.2.2.1.n,(x.2.2.2.2.1.time,((),()))))))))))),((x.2.2.2.2.2.device,(x.2.2.2.2.2.aB,(x.2.2.2.2.2.seq,()))),(x.2.2.2.2.1.dG,())))))) (fun _=>rfl)
def Bm:aT TL:=aT.one wD.dec (fun p=>R9 p.1 p.2.1 p.2.2.1 p.2.2.2.1 p.2.2.2.2.1 p.2.2.2.2.2) (.exit 2) BR.aJ
def MG:cL:=[(74,KQ)]
def P5:Env:=aY tab sl sh [] [(74,.pure)]
theorem aBN:bK PR (bJ MG sZ) P5:=aZ base aN (aC (oD aBB rfl) aN)
theorem aBc (x:jS):Out.run (bO MG sZ) (bp P5 12 20 jm.an C2 (ag (a8 jm.body) 10) (wD.aJ x)) (back wD BR fun e=>ck e (.exit 2))=vb x:=by kernel_rfl
theorem NU:bZ PR (bx Bm) F3 C2 (ag (a8 jm.body) 10) :=
  dd aBN (loops:=12) (k:=20) (an:=jm.an) (by kernel_rfl) (aR.cI rfl yz.keys (aC (.inl (by kernel_rfl)) (aC (.inl (by kernel_rfl)) aN))) wD BR (.exit 2) rfl vb _ aBc (fun x y h=>⟨_,h⟩) (fun _=>cA.1 rfl)
abbrev pg:=(List aL)×Int×Op×Op
def MA (l1:List aL)(i1:Int)(o1:Op)(o2:Op):Option ((pg)⊕((List aL)×Op×Op)) :=
 cond (cond (decide (i1 < (o1.dG.length:Int))) (cond (decide (i1 < 8)) (o1.kind == 3) false) false)
 (cond (decide (0≤i1))
 (ob (o1.dG[i1.toNat]?) fun e0 =>
 ob (gU e0.device 6) fun r1 =>
 cond (decide (0≤i1))
 (ob (o1.dG[i1.toNat]?) fun e2 =>
 ob (gU e2.aB 3) fun r3 =>
 cond (decide (0≤i1))
 (ob (o1.dG[i1.toNat]?) fun e4 =>
 ob (gU e4.seq 12) fun r5 =>
 ob (R9 l1 i1 0 o1 o2 (aL.mk r1 (aF (1+r3)) (aF (1+r5)))) fun y6 =>
 cond (decide (y6.2.2.1 < (y6.1.length:Int)))
 (cond (decide (0≤y6.2.2.1))
 (ob (y6.1[y6.2.2.1.toNat]?) fun e7 =>
 cond (cond (e7.device == y6.2.2.2.2.2.device) (cond (e7.aB == y6.2.2.2.2.2.aB) (cond (e7.seq == y6.2.2.2.2.2.seq) true false) false) false)
 (some (.inl (y6.1,(aF (y6.2.1+1)),y6.2.2.2.1,y6.2.2.2.2.1)))
 (cond (decide (0≤y6.2.2.1))
 (cond (decide (y6.2.2.1≤(y6.1.length:Int)))
 (cond (fits (([]++(y6.1.take y6.2.2.1.toNat)).length))
 (cond (fits ((([]++(y6.1.take y6.2.2.1.toNat))++[y6.2.2.2.2.2]).length))
 (cond (decide (0≤y6.2.2.1))
 (cond (decide (y6.2.2.1≤(y6.1.length:Int)))
 (cond (decide ((y6.1.length:Int)≤(y6.1.length:Int)))
 (cond (fits (((([]++(y6.1.take y6.2.2.1.toNat))++[y6.2.2.2.2.2])++((y6.1.take (((y6.1.length:Int)).toNat)).drop y6.2.2.1.toNat)).length))
 (some (.inl (((([]++(y6.1.take y6.2.2.1.toNat))++[y6.2.2.2.2.2])++((y6.1.take (((y6.1.length:Int)).toNat)).drop y6.2.2.1.toNat)),(aF (y6.2.1+1)),y6.2.2.2.1,y6.2.2.2.2.1)))
 none)
 none)
 none)
 none)
 none)
 none)
 none)
 none))
 none)
 (cond (decide (0≤y6.2.2.1))
 (cond (decide (y6.2.2.1≤(y6.1.length:Int)))
 (cond (fits (([]++(y6.1.take y6.2.2.1.toNat)).length))
 (cond (fits ((([]++(y6.1.take y6.2.2.1.toNat))++[y6.2.2.2.2.2]).length))
 (cond (decide (0≤y6.2.2.1))
 (cond (decide (y6.2.2.1≤(y6.1.length:Int)))
 (cond (decide ((y6.1.length:Int)≤(y6.1.length:Int)))
 (cond (fits (((([]++(y6.1.take y6.2.2.1.toNat))++[y6.2.2.2.2.2])++((y6.1.take (((y6.1.length:Int)).toNat)).drop y6.2.2.1.toNat)).length))
 (some (.inl (((([]++(y6.1.take y6.2.2.1.toNat))++[y6.2.2.2.2.2])++((y6.1.take (((y6.1.length:Int)).toNat)).drop y6.2.2.1.toNat)),(aF (y6.2.1+1)),y6.2.2.2.1,y6.2.2.2.2.1)))
 none)
 none)
 none)
 none)
 none)
 none)
 none)
 none))
 none)
 none)
 none)
 (some (.inr (l1,o1,o2)))
def vu (p:pg):Option ((pg)⊕((List aL)×Op×Op)):=MA p.1 p.2.1 p.2.2.1 p.2.2.2
def SF (l1:List aL)(i1:Int)(o1:Op)(o2:Op):Option ((List aL)×Op×Op):=bm vu ((8 - i1).toNat+2) (l1,i1,o1,o2)
def xW:kT (pg):=kO (kS 3 (kC (kP 0 0) (kC (kP 1 0) (kC (kF bL) (kC kI kN)))) (kC (aE.var 0 61 kQ) (kC (aE.var 1 61 (kC kJ (kC kJ (kC kJ (kC kJ (kC kJ (kC kJ (kC kE (kC kE (kC kJ (kC kJ (kC (kA 2) kN)))))))))))) (kC (kR 2 59 bL) kN)))) (fun p=>(p.1.2.2.1,p.1.2.2.2.1,p.2.1,(Op.mk (aL.mk p.2.2.1.1 p.2.2.1.2.1 p.2.2.1.2.2.1) p.2.2.1.2.2.2.1 p.2.2.1.2.2.2.2.1 p.2.2.1.2.2.2.2.2.1 p.2.2.1.2.2.2.2.2.2.1 p.2.2.1.2.2.2.2.2.2.2.1 (t8 p.2.2.1).1 (t8 p.2.2.1).2.1 p.2.2.2.1))) (fun (x:pg)=>(((),((),(x.1,(x.2.1,())))),(x.2.2.1,((x.2.2.2.al.device,(x.2.2.2.al.aB,(x.2.2.2.al.seq,(x.2.2.2.cC,(x.2.2.2.cU,(x.2.2.2.kind,(x.2.2.2.key,(x.2.2.2.text,(x.2.2.2.n,(x.2.2.2.time,((),()))))))))))),(x.2.2.2.dG,()))))) (fun _=>rfl)
def CH:kT ((List aL)×Op×Op):=kO (kS 6 (kC (kP 0 0) (kC (kP 1 0) (kC (kF bL) kN))) (kC (aE.var 0 61 kQ) (kC (aE.var 1 61 (kC kJ (kC kJ (kC kJ (kC kJ (kC kJ (kC kJ (kC kE (kC kE (kC kJ (kC kJ (kC (kA 2) kN)))))))))))) (kC (kR 2 59 bL) kN)))) (fun p=>(p.1.2.2.1,p.2.1,(Op.mk (aL.mk p.2.2.1.1 p.2.2.1.2.1 p.2.2.1.2.2.1) p.2.2.1.2.2.2.1 p.2.2.1.2.2.2.2.1 p.2.2.1.2.2.2.2.2.1 p.2.2.1.2.2.2.2.2.2.1 p.2.2.1.2.2.2.2.2.2.2.1 (t8 p.2.2.1).1 (t8 p.2.2.1).2.1 p.2.2.2.1))) (fun (x:(List aL)×Op×Op)=>(((),((),(x.1,()))),(x.2.1,((x.2.2.al.device,(x.2.2.al.aB,(x.2.2.al.seq,(x.2.2.cC,(x.2.2.cU,(x.2.2.kind,(x.2.2.key,(x.2.2.text,(x.2.2.n,(x.2.2.time,((),()))))))))))),(x.2.2.dG,()))))) (fun _=>rfl)
def Pk:aT TL:=aT.one xW.dec (fun p=>SF p.1 p.2.1 p.2.2.1 p.2.2.2) (.exit 0) CH.aJ
def Mb:cL:=[(97,AL)]
def N7:sL:=[(155010,Bm)]
def Q0:Env:=aY tab sl sh [] [(97,.pure)]
theorem aCU:bK PR (bJ Mb N7) Q0:=aZ base aN (aC (oD I1 rfl) aN)
theorem aD0 (x:pg):Out.run (bO Mb N7) (bp Q0 12 20 jm.an De (ag (a8 jm.body) 6) (xW.aJ x)) (back xW CH fun e=>ck e (.exit 0))=vu x:=by kernel_rfl
theorem aFn:bZ PR (bx Pk) F3 De (ag (a8 jm.body) 6) :=
  dd aCU (loops:=12) (k:=20) (an:=jm.an) (by kernel_rfl) (aR.cI rfl yz.keys (aC (.inl (by kernel_rfl)) (aC (.inr (lC NU rfl)) aN))) xW CH (.exit 0) rfl vu _ aD0 (fun x y h=>⟨_,h⟩) (fun _=>cA.1 rfl)
def yO (o1:Op):Option Op :=
 ob (gU o1.al.device 6) fun r0 =>
 ob (gU o1.al.aB 3) fun r1 =>
 ob (gU o1.al.seq 30) fun r2 =>
 ob (gU o1.cC 3) fun r3 =>
 ob (gU o1.cU 3) fun r4 =>
 ob (gU o1.kind 5) fun r5 =>
 ob (gU o1.time 50) fun r6 =>
 ob (gU (o1.key.size:Int) 3) fun r7 =>
 cond (decide (0≤r7))
 (cond (decide (r7 < ([iN,jH,tX].length:Int)))
 (ob ([iN,jH,tX][r7.toNat]?) fun e8 =>
 ob (gU (o1.text.size:Int) 4) fun r9 =>
 cond (decide (0≤r9))
 (cond (decide (r9 < ([dO,tZ,su,sg].length:Int)))
 (ob ([dO,tZ,su,sg][r9.toNat]?) fun e10 =>
 ob (SF [] 0 (Op.mk (aL.mk r0 (aF (1+r1)) (aF (1+r2))) r3 (aF (1+r4)) (aF (1+r5)) e8 e10 o1.n r6 o1.dG) (Op.mk (aL.mk 0 0 0) 0 0 0 dO dO 0 0 [])) fun y11 =>
 cond (y11.2.1.kind == 4)
 (ob (gU y11.2.1.n 12) fun r12 =>
 cond ((aF (r12 - 6)) == 0)
 (some (Op.mk y11.2.1.al y11.2.1.cC y11.2.1.cU y11.2.1.kind y11.2.1.key y11.2.1.text 6 y11.2.1.time y11.1))
 (some (Op.mk y11.2.1.al y11.2.1.cC y11.2.1.cU y11.2.1.kind y11.2.1.key y11.2.1.text (aF (r12 - 6)) y11.2.1.time y11.1)))
 (cond (y11.2.1.kind == 5)
 (ob (gU y11.2.1.n 30) fun r13 =>
 some (Op.mk y11.2.1.al y11.2.1.cC y11.2.1.cU y11.2.1.kind y11.2.1.key y11.2.1.text r13 y11.2.1.time y11.1))
 (some (Op.mk y11.2.1.al y11.2.1.cC y11.2.1.cU y11.2.1.kind y11.2.1.key y11.2.1.text y11.2.1.n y11.2.1.time y11.1))))
 none)
 none)
 none)
 none
def Mi (p:Op):Option Op:=yO p
def NX:aV TL:=aV.of (DA.one (DT.agg fC)) Mi (DA.one (DT.agg fC))
theorem aDI:bi [(97,AL)] [(155006,Pk),(155010,Bm)] (aY tab sl sh [(55,jm)] [(97,.pure)]) 55 (DA.one (DT.agg fC)) Mi (DA.one (DT.agg fC)):=fun _=>by kernel_rfl
theorem aEM:bU PR 55 .keep NX:=bj aDI (aZ base (aC (yz.ae rfl (aC (lC aFn rfl) (aC (lC NU rfl) aN))) aN) (aC (oD I1 rfl) aN)) (.inl rfl) yz.enters
def JZ (i1:Int)(i2:Int)(i3:Int)(bx1:aG):Option ((Int×Int×Int×aG)⊕(((Int×aG)⊕(Int×aG)))) :=
 cond (decide (i3 < (bx1.aP.length:Int)))
 (cond (decide (0≤i3))
 (ob (bx1.aP[i3.toNat]?) fun e0 =>
 cond (e0.device == i1)
 (some (.inr (.inr (i3,bx1))))
 (some (.inl (i1,i2,(aF (i3+1)),bx1))))
 none)
 (some (.inr (.inl (i2,bx1))))
def uy (p:Int×Int×Int×aG):Option ((Int×Int×Int×aG)⊕(((Int×aG)⊕(Int×aG)))):=JZ p.1 p.2.1 p.2.2.1 p.2.2.2
def EF (i1:Int)(i2:Int)(i3:Int)(bx1:aG):Option (((Int×aG)⊕(Int×aG))):=bm uy (1099511627776) (i1,i2,i3,bx1)
def vn:kT (Int×Int×Int×aG):=kO (kS 1 (kC kI (kC (kP 0 0) (kC kI (kC kI kN)))) (kC (aE.var 0 29 mK) kN)) (fun p=>(p.1.1,p.1.2.2.1,p.1.2.2.2.1,p.2.1)) (fun (x:Int×Int×Int×aG)=>((x.1,((),(x.2.1,(x.2.2.1,())))),(x.2.2.2,()))) (fun _=>rfl)
def Mn:aT TL:=aT.two vn.dec (fun p=>EF p.1 p.2.1 p.2.2.1 p.2.2.2) (.exit 0) .ret il.aJ il.aJ
def Ph:Env:=aY tab sl sh [] []
theorem aBA:bK PR (bJ cZ sZ) Ph:=aZ base aN aN
theorem aC6 (x:Int×Int×Int×aG):Out.run (bO cZ sZ) (bp Ph 12 20 om.an Cq (ag (a8 om.body) 2) (vn.aJ x)) (cj vn il il (.exit 0) .ret)=uy x:=by kernel_rfl
theorem aEC:bZ PR (bx Mn) UO Cq (ag (a8 om.body) 2) :=
  dL aBA (loops:=12) (k:=20) (an:=om.an) (by kernel_rfl) (aR.cI rfl Eu.keys (aC (.inl (by kernel_rfl)) aN)) vn il il (.exit 0) .ret rfl rfl uy _ aC6 (fun x y h=>⟨_,h⟩) (fun _=>cA.1 rfl)
def sE (bx1:aG)(i1:Int):Option Int :=
 ob (EF i1 0 0 bx1) fun y0 =>
 two y0 (fun _ =>
 some (-1)) (fun b2 =>
 some b2.1)
def Jo (p:aG×Int):Option Int:=sE p.1 p.2
def KE:aV TL:=aV.of (DA.cons (DT.agg dU) (DA.one dI)) Jo (DA.one dI)
theorem Yx:bi [] [(237002,Mn)] (aY tab sl sh [(137,om)] []) 137 (DA.cons (DT.agg dU) (DA.one dI)) Jo (DA.one dI):=fun _=>by kernel_rfl
theorem aAq:bU PR 137 .pure KE:=bj Yx (aZ base (aC (Eu.ae rfl (aC (lC aEC rfl) aN)) aN) aN) (.inr rfl) Eu.enters
def uN (lx1:aI):Option aI :=
 cond (fits (([]++lx1.aX).length))
 (cond (fits (([]++lx1.ids).length))
 (cond (fits (([]++lx1.used).length))
 (some (aI.mk lx1.device lx1.aB lx1.bC lx1.last ([]++lx1.aX) ([]++lx1.ids) ([]++lx1.used)))
 none)
 none)
 none
def zQ (p:aI):Option aI:=uN p
def Gy:aT TL:=aT.one jr.dec zQ .normal jp.aJ
def Ga:Env:=aY tab sl sh [(138,Sz)] []
theorem We:bK PR (bJ cZ sZ) Ga:=aZ base (aC (TB.ae rfl aN) aN) aN
theorem X8 (x:aI):Out.run (bO cZ sZ) (eZ Ga 12 20 138 (jr.aJ x)) (ef jp)=zQ x:=by kernel_rfl
theorem YD:ez PR 138 Gy:=fW We (loops:=12) (n:=20) TB.enters jr jp zQ X8
def vw (bx1:aG)(i1:Int)(i2:Int):Option (aI×Bool) :=
 ob (sE bx1 i1) fun r0 =>
 cond (decide (r0 < 0))
 (some ((aI.mk 0 0 0 0 [] [] []),false))
 (cond (decide (0≤r0))
 (ob (bx1.aP[r0.toNat]?) fun e1 =>
 cond (e1.aB != i2)
 (some ((aI.mk 0 0 0 0 [] [] []),false))
 (cond (decide (0≤r0))
 (ob (bx1.aP[r0.toNat]?) fun e2 =>
 ob (uN e2) fun y3 =>
 some (y3,true))
 none))
 none)
def Ix (p:aG×Int×Int):Option (aI×Bool):=vw p.1 p.2.1 p.2.2
def IU:aV TL:=aV.of (DA.cons (DT.agg dU) (DA.cons dI (DA.one dI))) Ix (DA.cons (DT.agg eQ) (DA.one dB))
theorem Yl:bi [(137,KE)] [(138,Gy)] (aY tab sl sh [(98,Ud)] [(137,.pure),(138,.sum)]) 98 (DA.cons (DT.agg dU) (DA.cons dI (DA.one dI))) Ix (DA.cons (DT.agg eQ) (DA.one dB)):=fun _=>by kernel_rfl
theorem Za:bU PR 98 .keep IU:=bj Yl (aZ base (aC (WN.ae rfl aN) aN) (aC (oD aAq rfl) (aC (dj rfl YD) aN))) (.inl rfl) WN.enters
def aB7 (l1:List Range)(i1:Int)(i2:Int):Option (((List Range)×Int×Int)⊕(Int)) :=
 cond (decide (i2 < (l1.length:Int)))
 (cond (decide (0≤i2))
 (ob (l1[i2.toNat]?) fun e0 =>
 cond (decide (0≤i2))
 (ob (l1[i2.toNat]?) fun e1 =>
 some (.inl (l1,(aF ((aF (i1+e0.bt)) - e1.from_)),(aF (i2+1)))))
 none)
 none)
 (some (.inr i1))
def Bj (p:(List Range)×Int×Int):Option (((List Range)×Int×Int)⊕(Int)):=aB7 p.1 p.2.1 p.2.2
def UW (l1:List Range)(i1:Int)(i2:Int):Option Int:=bm Bj (((l1.length:Int) - i2).toNat+2) (l1,i1,i2)
def xc:kT ((List Range)×Int×Int):=kO (kS 0 (kC (kF aa) (kC kI (kC kI kN))) kN) (fun p=>(p.1.1,p.1.2.1,p.1.2.2.1)) (fun (x:(List Range)×Int×Int)=>((x.1,(x.2.1,(x.2.2,()))),())) (fun _=>rfl)
def Om:aT TL:=aT.one xc.dec (fun p=>UW p.1 p.2.1 p.2.2) (.exit 0) ij.aJ
def QR:Env:=aY tab sl sh [] []
theorem aCE:bK PR (bJ cZ sZ) QR:=aZ base aN aN
theorem aE4 (x:(List Range)×Int×Int):Out.run (bO cZ sZ) (bp QR 12 20 pc.an Dc (ag (a8 pc.body) 3) (xc.aJ x)) (back xc ij fun e=>ck e (.exit 0))=Bj x:=by kernel_rfl
theorem aEu:bZ PR (bx Om) Vo Dc (ag (a8 pc.body) 3) :=
  dd aCE (loops:=12) (k:=20) (an:=pc.an) (by kernel_rfl) (aR.cI rfl FW.keys (aC (.inl (by kernel_rfl)) aN)) xc ij (.exit 0) rfl Bj _ aE4 (fun x y h=>⟨_,h⟩) (fun _=>cA.1 rfl)
def xB (l1:List Range):Option Int :=
 ob (UW l1 0 0) fun y0 =>
 some y0
def JX (p:(List Range)):Option Int:=xB p
def Jk:aV TL:=aV.of (DA.one (DT.one dF)) JX (DA.one dI)
theorem Yy:bi [] [(199003,Om)] (aY tab sl sh [(99,pc)] []) 99 (DA.one (DT.one dF)) JX (DA.one dI):=fun _=>by kernel_rfl
theorem aAJ:bU PR 99 .pure Jk:=bj Yy (aZ base (aC (FW.ae rfl (aC (lC aEu rfl) aN)) aN) aN) (.inr rfl) FW.enters
end
end Go.Proofs.YtcjpeijiaojeiaaGreat
