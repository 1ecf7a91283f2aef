/- By program (gen.py): the functions in their typed form. -/
import Derived.Test.YtcjpeijiaojeiaaGreatF1
import Derived.Test.YtcjpeijiaojeiaaGreatHa
import Derived.Test.YtcjpeijiaojeiaaGreatLb
namespace Go.Proofs.YtcjpeijiaojeiaaGreat
open Go Go.Ev
set_option maxRecDepth 1000000
noncomputable section
def pL (bx1:aG)(i1:Int)(i2:Int):Option (aG×Int) :=
 ob (gE bx1) fun y0 =>
 ob (nh y0 i1 i2) fun r1 =>
 cond (decide (r1 < 0))
 (some (y0,2))
 (cond (decide (0≤r1))
 (cond (decide (r1 < (y0.aK.length:Int)))
 (ob (y0.aK[r1.toNat]?) fun e2 =>
 ob (Oj r1 e2.aW (e2.aW.length:Int) 0 y0 (aG.mk [] [] [] []) e2) fun y3 =>
 ob (Ns y3.1 y3.2.2.2.ids y3.2.2.2.used (y3.2.2.2.used.length:Int) 0 y3.2.1 y3.2.2.1) fun y4 =>
 ob (Nm y4.1 y4.2.1 (y4.2.1.length:Int) 0 y4.2.2.1 y4.2.2.2) fun y5 =>
 cond (decide (0≤y5.1))
 (cond (decide (y5.1≤(aF (y5.1+1))))
 (cond (decide ((aF (y5.1+1))≤(y5.2.1.aK.length:Int)))
 (cond (fits y5.2.1.aK.length)
 (ob (gE (aG.mk y5.2.1.af y5.2.1.free ((y5.2.1.aK.take y5.1.toNat)++((y5.2.1.aK.take y5.2.1.aK.length).drop (((aF (y5.1+1))).toNat))) y5.2.1.bB)) fun y6 =>
 some (y6,0))
 none)
 none)
 none)
 none)
 none)
 none)
def WT (p:aG×Int×Int):Option (aG×Int):=pL p.1 p.2.1 p.2.2
def yr:aQ TL:=aQ.of (DA.cons (DT.agg fq) (DA.cons dI (DA.one dI))) WT (DA.cons (DT.agg fq) (DA.one dI))
theorem FO:be PR 136 .keep yr:=bx (cs:=[(162,tZ)]) (ss:=[(124,nR),(236007,Kv),(236016,Il),(236026,IE)]) (E:=aX tab sl sh [(136,mC)] [(124,.sum),(162,.pure),(166,(.del 43))]) (fun _=>by kernel_rfl) (aY base (aC (rD.ak rfl (aC (lC aCB rfl) (aC (lC Zq rfl) (aC (lC ZW rfl) aN)))) aN) (aC (eF rfl pD) (aC (oD zG rfl) (aC (aGj aER) aN)))) (.inl rfl) rD.enters
def tc (c1:bY):Option (aU×bY) :=
 cond (decide (0≤c1.c.device) && decide (c1.c.device < 6))
 (ob (nY c1.d.book c1.c.device (cond (decide (c1.c.device=0)) c1.d.dev.a0.aA (cond (decide (c1.c.device=1)) c1.d.dev.a1.aA (cond (decide (c1.c.device=2)) c1.d.dev.a2.aA (cond (decide (c1.c.device=3)) c1.d.dev.a3.aA (cond (decide (c1.c.device=4)) c1.d.dev.a4.aA c1.d.dev.a5.aA)))))) fun r0 =>
 cond (!r0.2)
 (ob (dx 2) fun r1 =>
 some (r1,c1))
 (cond (r0.1.last == (-1))
 (ob (dx 19) fun r2 =>
 some (r2,c1))
 (ob (jk c1.d.log c1.c.device (cond (decide (c1.c.device=0)) c1.d.dev.a0.aA (cond (decide (c1.c.device=1)) c1.d.dev.a1.aA (cond (decide (c1.c.device=2)) c1.d.dev.a2.aA (cond (decide (c1.c.device=3)) c1.d.dev.a3.aA (cond (decide (c1.c.device=4)) c1.d.dev.a4.aA c1.d.dev.a5.aA)))))) fun r3 =>
 cond (decide (r3 < r0.1.last))
 (ob (dx 12) fun r4 =>
 some (r4,c1))
 (cond (decide (c1.d.now < (aF (r0.1.bN+5))))
 (ob (dx 20) fun r5 =>
 some (r5,c1))
 (ob (pL c1.d.book c1.c.device (cond (decide (c1.c.device=0)) c1.d.dev.a0.aA (cond (decide (c1.c.device=1)) c1.d.dev.a1.aA (cond (decide (c1.c.device=2)) c1.d.dev.a2.aA (cond (decide (c1.c.device=3)) c1.d.dev.a3.aA (cond (decide (c1.c.device=4)) c1.d.dev.a4.aA c1.d.dev.a5.aA)))))) fun r6 =>
 some ((aU.mk 0 0 (aH.mk 0 0 0 0 [] [] [])),(bY.mk (aw.mk r6.1 c1.d.aI c1.d.log c1.d.dev c1.d.lost c1.d.now) c1.c)))))))
 none
def VE (p:bY):Option (aU×bY):=tc p
def Ep:aM TL:=aM.one lV.dec VE .normal tH.enc
theorem VF:fL PR 88 Ep:=sM (cs:=[(134,tO),(39,jm),(133,nM),(136,yr)]) (ss:=[]) (E:=aX tab sl sh [(88,UI),(128,my)] [(134,.keep),(39,.keep),(133,(.rd 22 61)),(136,.keep)]) (aY base (aC (T0.ak rfl aN) (aC (oV.ak rfl aN) aN)) (aC (oD yq rfl) (aC (oD ki rfl) (aC (oD oz rfl) (aC (oD FO rfl) aN))))) T0.enters fun _=>by kernel_rfl
def vC (c1:bY):Option (aU×bY) :=
 cond (decide (0≤c1.c.device) && decide (c1.c.device < 6))
 (cond ((cond (decide (c1.c.device=0)) c1.d.dev.a0.aA (cond (decide (c1.c.device=1)) c1.d.dev.a1.aA (cond (decide (c1.c.device=2)) c1.d.dev.a2.aA (cond (decide (c1.c.device=3)) c1.d.dev.a3.aA (cond (decide (c1.c.device=4)) c1.d.dev.a4.aA c1.d.dev.a5.aA))))) == 0)
 (ob (dx 2) fun r0 =>
 some (r0,c1))
 (ob (jo c1.d.lost c1.c.device (cond (decide (c1.c.device=0)) c1.d.dev.a0.aA (cond (decide (c1.c.device=1)) c1.d.dev.a1.aA (cond (decide (c1.c.device=2)) c1.d.dev.a2.aA (cond (decide (c1.c.device=3)) c1.d.dev.a3.aA (cond (decide (c1.c.device=4)) c1.d.dev.a4.aA c1.d.dev.a5.aA)))))) fun r1 =>
 cond (r1)
 (ob (dx 7) fun r2 =>
 some (r2,c1))
 (ob (pL c1.d.book c1.c.device (cond (decide (c1.c.device=0)) c1.d.dev.a0.aA (cond (decide (c1.c.device=1)) c1.d.dev.a1.aA (cond (decide (c1.c.device=2)) c1.d.dev.a2.aA (cond (decide (c1.c.device=3)) c1.d.dev.a3.aA (cond (decide (c1.c.device=4)) c1.d.dev.a4.aA c1.d.dev.a5.aA)))))) fun r3 =>
 ob (jk c1.d.log c1.c.device (cond (decide (c1.c.device=0)) c1.d.dev.a0.aA (cond (decide (c1.c.device=1)) c1.d.dev.a1.aA (cond (decide (c1.c.device=2)) c1.d.dev.a2.aA (cond (decide (c1.c.device=3)) c1.d.dev.a3.aA (cond (decide (c1.c.device=4)) c1.d.dev.a4.aA c1.d.dev.a5.aA)))))) fun r4 =>
 cond (fits ((c1.d.lost++[(aL.mk c1.c.device (cond (decide (c1.c.device=0)) c1.d.dev.a0.aA (cond (decide (c1.c.device=1)) c1.d.dev.a1.aA (cond (decide (c1.c.device=2)) c1.d.dev.a2.aA (cond (decide (c1.c.device=3)) c1.d.dev.a3.aA (cond (decide (c1.c.device=4)) c1.d.dev.a4.aA c1.d.dev.a5.aA))))) r4)]).length))
 (some ((aU.mk 0 r4 (aH.mk 0 0 0 0 [] [] [])),(bY.mk (aw.mk r3.1 c1.d.aI c1.d.log c1.d.dev (c1.d.lost++[(aL.mk c1.c.device (cond (decide (c1.c.device=0)) c1.d.dev.a0.aA (cond (decide (c1.c.device=1)) c1.d.dev.a1.aA (cond (decide (c1.c.device=2)) c1.d.dev.a2.aA (cond (decide (c1.c.device=3)) c1.d.dev.a3.aA (cond (decide (c1.c.device=4)) c1.d.dev.a4.aA c1.d.dev.a5.aA))))) r4)]) c1.d.now) c1.c)))
 none)))
 none
def Wy (p:bY):Option (aU×bY):=vC p
def GK:aM TL:=aM.one lV.dec Wy .normal tH.enc
theorem XQ:fL PR 89 GK:=sM (cs:=[(39,jm),(129,nS),(136,yr),(133,nM)]) (ss:=[]) (E:=aX tab sl sh [(89,TK),(128,my)] [(39,.keep),(129,(.rd 89 66)),(136,.keep),(133,(.rd 22 61))]) (aY base (aC (Tq.ak rfl aN) (aC (oV.ak rfl aN) aN)) (aC (oD ki rfl) (aC (oD pE rfl) (aC (oD FO rfl) (aC (oD oz rfl) aN))))) Tq.enters fun _=>by kernel_rfl
def vD (c1:bY):Option (aU×bY) :=
 cond (cond (decide (c1.c.n < 0)) true (decide (c1.c.n > 1099511627776)))
 (ob (dx 1) fun r0 =>
 some (r0,c1))
 (some ((aU.mk 0 0 (aH.mk 0 0 0 0 [] [] [])),(bY.mk (aw.mk c1.d.book c1.d.aI c1.d.log c1.d.dev c1.d.lost (max2 c1.d.now c1.c.n)) c1.c)))
def XC (p:bY):Option (aU×bY):=vD p
def GH:aM TL:=aM.one lV.dec XC .normal Ej.enc
theorem XJ:fL PR 90 GH:=sM (cs:=[(39,jm)]) (ss:=[]) (E:=aX tab sl sh [(90,TT)] [(39,.keep)]) (aY base (aC (TW.ak rfl aN) aN) (aC (oD ki rfl) aN)) TW.enters fun _=>by kernel_rfl
def n8 (c1:bY):Option (aU×bY) :=
 cond (c1.c.kind == 1)
 (ob (tQ c1) fun y0 =>
 some (y0.1,y0.2))
 (cond (c1.c.kind == 2)
 (ob (tM c1) fun y1 =>
 some (y1.1,y1.2))
 (cond (c1.c.kind == 3)
 (ob (uG c1) fun y2 =>
 some (y2.1,y2.2))
 (cond (c1.c.kind == 4)
 (ob (uw c1) fun y3 =>
 some (y3.1,y3.2))
 (cond (c1.c.kind == 5)
 (ob (tc c1) fun y4 =>
 some (y4.1,y4.2))
 (cond (c1.c.kind == 6)
 (ob (vC c1) fun y5 =>
 some (y5.1,y5.2))
 (ob (vD c1) fun y6 =>
 some (y6.1,y6.2)))))))
def Wm (p:bY):Option (aU×bY):=n8 p
def GI:aM TL:=aM.one lV.dec Wm .normal FV.enc
theorem Ws:fL PR 40 GI:=sM (cs:=[]) (ss:=[(84,Ei),(85,El),(86,FR),(87,GW),(88,Ep),(89,GK),(90,GH)]) (E:=aX tab sl sh [(40,Tk)] [(84,.sum),(85,.sum),(86,.sum),(87,.sum),(88,.sum),(89,.sum),(90,.sum)]) (aY base (aC (TG.ak rfl aN) aN) (aC (eF rfl Uz) (aC (eF rfl Uw) (aC (eF rfl WU) (aC (eF rfl Wu) (aC (eF rfl VF) (aC (eF rfl XQ) (aC (eF rfl XJ) aN)))))))) TG.enters fun _=>by kernel_rfl
def qV (d1:aw)(c1:cH):Option (aw×aU) :=
 cond (cond (decide (c1.kind < 1)) true (decide (c1.kind > 7)))
 (ob (eJ d1) fun y0 =>
 ob (dx 3) fun r1 =>
 some (y0,r1))
 (cond (cond (c1.kind != 7) (!(cond (decide (c1.device≥0)) (decide (c1.device < 6)) false)) false)
 (ob (eJ d1) fun y2 =>
 ob (dx 1) fun r3 =>
 some (y2,r3))
 (cond (c1.kind == 1)
 (ob (eJ d1) fun y4 =>
 cond (decide (0≤c1.device) && decide (c1.device < 6))
 (cond (cond (decide (c1.aO < 1)) true (decide (c1.aO > 1073741824)))
 (ob (eJ d1) fun y5 =>
 ob (dx 1) fun r6 =>
 some (y5,r6))
 (cond (c1.aO == (cond (decide (c1.device=0)) y4.dev.a0.aO (cond (decide (c1.device=1)) y4.dev.a1.aO (cond (decide (c1.device=2)) y4.dev.a2.aO (cond (decide (c1.device=3)) y4.dev.a3.aO (cond (decide (c1.device=4)) y4.dev.a4.aO y4.dev.a5.aO))))))
 (ob (eJ d1) fun y7 =>
 some (y7,(aU.cc (decide (c1.device=0)) y4.dev.a0.aB (aU.mk (cond (decide (c1.device=1)) y4.dev.a1.aB.err (cond (decide (c1.device=2)) y4.dev.a2.aB.err (cond (decide (c1.device=3)) y4.dev.a3.aB.err (cond (decide (c1.device=4)) y4.dev.a4.aB.err y4.dev.a5.aB.err)))) (cond (decide (c1.device=1)) y4.dev.a1.aB.n (cond (decide (c1.device=2)) y4.dev.a2.aB.n (cond (decide (c1.device=3)) y4.dev.a3.aB.n (cond (decide (c1.device=4)) y4.dev.a4.aB.n y4.dev.a5.aB.n)))) (aH.mk (cond (decide (c1.device=1)) y4.dev.a1.aB.aE.device (cond (decide (c1.device=2)) y4.dev.a2.aB.aE.device (cond (decide (c1.device=3)) y4.dev.a3.aB.aE.device (cond (decide (c1.device=4)) y4.dev.a4.aB.aE.device y4.dev.a5.aB.aE.device)))) (cond (decide (c1.device=1)) y4.dev.a1.aB.aE.aA (cond (decide (c1.device=2)) y4.dev.a2.aB.aE.aA (cond (decide (c1.device=3)) y4.dev.a3.aB.aE.aA (cond (decide (c1.device=4)) y4.dev.a4.aB.aE.aA y4.dev.a5.aB.aE.aA)))) (cond (decide (c1.device=1)) y4.dev.a1.aB.aE.bN (cond (decide (c1.device=2)) y4.dev.a2.aB.aE.bN (cond (decide (c1.device=3)) y4.dev.a3.aB.aE.bN (cond (decide (c1.device=4)) y4.dev.a4.aB.aE.bN y4.dev.a5.aB.aE.bN)))) (cond (decide (c1.device=1)) y4.dev.a1.aB.aE.last (cond (decide (c1.device=2)) y4.dev.a2.aB.aE.last (cond (decide (c1.device=3)) y4.dev.a3.aB.aE.last (cond (decide (c1.device=4)) y4.dev.a4.aB.aE.last y4.dev.a5.aB.aE.last)))) (cond (decide (c1.device=1)) y4.dev.a1.aB.aE.aW (cond (decide (c1.device=2)) y4.dev.a2.aB.aE.aW (cond (decide (c1.device=3)) y4.dev.a3.aB.aE.aW (cond (decide (c1.device=4)) y4.dev.a4.aB.aE.aW y4.dev.a5.aB.aE.aW)))) (cond (decide (c1.device=1)) y4.dev.a1.aB.aE.ids (cond (decide (c1.device=2)) y4.dev.a2.aB.aE.ids (cond (decide (c1.device=3)) y4.dev.a3.aB.aE.ids (cond (decide (c1.device=4)) y4.dev.a4.aB.aE.ids y4.dev.a5.aB.aE.ids)))) (cond (decide (c1.device=1)) y4.dev.a1.aB.aE.used (cond (decide (c1.device=2)) y4.dev.a2.aB.aE.used (cond (decide (c1.device=3)) y4.dev.a3.aB.aE.used (cond (decide (c1.device=4)) y4.dev.a4.aB.aE.used y4.dev.a5.aB.aE.used)))))))))
 (cond (decide (c1.aO < (cond (decide (c1.device=0)) y4.dev.a0.aO (cond (decide (c1.device=1)) y4.dev.a1.aO (cond (decide (c1.device=2)) y4.dev.a2.aO (cond (decide (c1.device=3)) y4.dev.a3.aO (cond (decide (c1.device=4)) y4.dev.a4.aO y4.dev.a5.aO)))))))
 (ob (eJ d1) fun y8 =>
 ob (dx 7) fun r9 =>
 some (y8,r9))
 (ob (eJ d1) fun y16 =>
 ob (n8 (bY.mk y16 c1)) fun y17 =>
 cond (y17.1.err != 0)
 (ob (eJ d1) fun y18 =>
 cond (decide (0≤c1.device) && decide (c1.device < 6))
 (cond (decide (0≤c1.device) && decide (c1.device < 6))
 (ob (iA y17.1.aE) fun y19 =>
 ob (eJ (aw.mk y18.book y18.aI y18.log (eP.mk (Device.mk y18.dev.a0.aA (cond (decide (c1.device=0)) c1.aO y18.dev.a0.aO) (aU.cc (decide (c1.device=0)) y17.1 y18.dev.a0.aB)) (Device.mk y18.dev.a1.aA (cond (decide (c1.device=1)) c1.aO y18.dev.a1.aO) (aU.cc (decide (c1.device=1)) y17.1 y18.dev.a1.aB)) (Device.mk y18.dev.a2.aA (cond (decide (c1.device=2)) c1.aO y18.dev.a2.aO) (aU.cc (decide (c1.device=2)) y17.1 y18.dev.a2.aB)) (Device.mk y18.dev.a3.aA (cond (decide (c1.device=3)) c1.aO y18.dev.a3.aO) (aU.cc (decide (c1.device=3)) y17.1 y18.dev.a3.aB)) (Device.mk y18.dev.a4.aA (cond (decide (c1.device=4)) c1.aO y18.dev.a4.aO) (aU.cc (decide (c1.device=4)) y17.1 y18.dev.a4.aB)) (Device.mk y18.dev.a5.aA (cond (decide (c1.device=5)) c1.aO y18.dev.a5.aO) (aU.cc (decide (c1.device=5)) y17.1 y18.dev.a5.aB))) y18.lost y18.now)) fun y20 =>
 some (y20,(aU.mk y17.1.err y17.1.n y19)))
 none)
 none)
 (ob (eJ y17.2.d) fun y21 =>
 cond (decide (0≤c1.device) && decide (c1.device < 6))
 (cond (decide (0≤c1.device) && decide (c1.device < 6))
 (ob (iA y17.1.aE) fun y22 =>
 ob (eJ (aw.mk y21.book y21.aI y21.log (eP.mk (Device.mk y21.dev.a0.aA (cond (decide (c1.device=0)) c1.aO y21.dev.a0.aO) (aU.cc (decide (c1.device=0)) y17.1 y21.dev.a0.aB)) (Device.mk y21.dev.a1.aA (cond (decide (c1.device=1)) c1.aO y21.dev.a1.aO) (aU.cc (decide (c1.device=1)) y17.1 y21.dev.a1.aB)) (Device.mk y21.dev.a2.aA (cond (decide (c1.device=2)) c1.aO y21.dev.a2.aO) (aU.cc (decide (c1.device=2)) y17.1 y21.dev.a2.aB)) (Device.mk y21.dev.a3.aA (cond (decide (c1.device=3)) c1.aO y21.dev.a3.aO) (aU.cc (decide (c1.device=3)) y17.1 y21.dev.a3.aB)) (Device.mk y21.dev.a4.aA (cond (decide (c1.device=4)) c1.aO y21.dev.a4.aO) (aU.cc (decide (c1.device=4)) y17.1 y21.dev.a4.aB)) (Device.mk y21.dev.a5.aA (cond (decide (c1.device=5)) c1.aO y21.dev.a5.aO) (aU.cc (decide (c1.device=5)) y17.1 y21.dev.a5.aB))) y21.lost y21.now)) fun y23 =>
 some (y23,(aU.mk y17.1.err y17.1.n y22)))
 none)
 none)))))
 none)
 (cond (cond (c1.kind == 2) (c1.kind == 2) (c1.kind == 4))
 (ob (eJ d1) fun y10 =>
 cond (decide (0≤c1.device) && decide (c1.device < 6))
 (cond (cond (decide (c1.aO < 1)) true (decide (c1.aO > 1073741824)))
 (ob (eJ d1) fun y11 =>
 ob (dx 1) fun r12 =>
 some (y11,r12))
 (cond (c1.aO == (cond (decide (c1.device=0)) y10.dev.a0.aO (cond (decide (c1.device=1)) y10.dev.a1.aO (cond (decide (c1.device=2)) y10.dev.a2.aO (cond (decide (c1.device=3)) y10.dev.a3.aO (cond (decide (c1.device=4)) y10.dev.a4.aO y10.dev.a5.aO))))))
 (ob (eJ d1) fun y13 =>
 some (y13,(aU.cc (decide (c1.device=0)) y10.dev.a0.aB (aU.mk (cond (decide (c1.device=1)) y10.dev.a1.aB.err (cond (decide (c1.device=2)) y10.dev.a2.aB.err (cond (decide (c1.device=3)) y10.dev.a3.aB.err (cond (decide (c1.device=4)) y10.dev.a4.aB.err y10.dev.a5.aB.err)))) (cond (decide (c1.device=1)) y10.dev.a1.aB.n (cond (decide (c1.device=2)) y10.dev.a2.aB.n (cond (decide (c1.device=3)) y10.dev.a3.aB.n (cond (decide (c1.device=4)) y10.dev.a4.aB.n y10.dev.a5.aB.n)))) (aH.mk (cond (decide (c1.device=1)) y10.dev.a1.aB.aE.device (cond (decide (c1.device=2)) y10.dev.a2.aB.aE.device (cond (decide (c1.device=3)) y10.dev.a3.aB.aE.device (cond (decide (c1.device=4)) y10.dev.a4.aB.aE.device y10.dev.a5.aB.aE.device)))) (cond (decide (c1.device=1)) y10.dev.a1.aB.aE.aA (cond (decide (c1.device=2)) y10.dev.a2.aB.aE.aA (cond (decide (c1.device=3)) y10.dev.a3.aB.aE.aA (cond (decide (c1.device=4)) y10.dev.a4.aB.aE.aA y10.dev.a5.aB.aE.aA)))) (cond (decide (c1.device=1)) y10.dev.a1.aB.aE.bN (cond (decide (c1.device=2)) y10.dev.a2.aB.aE.bN (cond (decide (c1.device=3)) y10.dev.a3.aB.aE.bN (cond (decide (c1.device=4)) y10.dev.a4.aB.aE.bN y10.dev.a5.aB.aE.bN)))) (cond (decide (c1.device=1)) y10.dev.a1.aB.aE.last (cond (decide (c1.device=2)) y10.dev.a2.aB.aE.last (cond (decide (c1.device=3)) y10.dev.a3.aB.aE.last (cond (decide (c1.device=4)) y10.dev.a4.aB.aE.last y10.dev.a5.aB.aE.last)))) (cond (decide (c1.device=1)) y10.dev.a1.aB.aE.aW (cond (decide (c1.device=2)) y10.dev.a2.aB.aE.aW (cond (decide (c1.device=3)) y10.dev.a3.aB.aE.aW (cond (decide (c1.device=4)) y10.dev.a4.aB.aE.aW y10.dev.a5.aB.aE.aW)))) (cond (decide (c1.device=1)) y10.dev.a1.aB.aE.ids (cond (decide (c1.device=2)) y10.dev.a2.aB.aE.ids (cond (decide (c1.device=3)) y10.dev.a3.aB.aE.ids (cond (decide (c1.device=4)) y10.dev.a4.aB.aE.ids y10.dev.a5.aB.aE.ids)))) (cond (decide (c1.device=1)) y10.dev.a1.aB.aE.used (cond (decide (c1.device=2)) y10.dev.a2.aB.aE.used (cond (decide (c1.device=3)) y10.dev.a3.aB.aE.used (cond (decide (c1.device=4)) y10.dev.a4.aB.aE.used y10.dev.a5.aB.aE.used)))))))))
 (cond (decide (c1.aO < (cond (decide (c1.device=0)) y10.dev.a0.aO (cond (decide (c1.device=1)) y10.dev.a1.aO (cond (decide (c1.device=2)) y10.dev.a2.aO (cond (decide (c1.device=3)) y10.dev.a3.aO (cond (decide (c1.device=4)) y10.dev.a4.aO y10.dev.a5.aO)))))))
 (ob (eJ d1) fun y14 =>
 ob (dx 7) fun r15 =>
 some (y14,r15))
 (ob (eJ d1) fun y24 =>
 ob (n8 (bY.mk y24 c1)) fun y25 =>
 cond (y25.1.err != 0)
 (ob (eJ d1) fun y26 =>
 cond (decide (0≤c1.device) && decide (c1.device < 6))
 (cond (decide (0≤c1.device) && decide (c1.device < 6))
 (ob (iA y25.1.aE) fun y27 =>
 ob (eJ (aw.mk y26.book y26.aI y26.log (eP.mk (Device.mk y26.dev.a0.aA (cond (decide (c1.device=0)) c1.aO y26.dev.a0.aO) (aU.cc (decide (c1.device=0)) y25.1 y26.dev.a0.aB)) (Device.mk y26.dev.a1.aA (cond (decide (c1.device=1)) c1.aO y26.dev.a1.aO) (aU.cc (decide (c1.device=1)) y25.1 y26.dev.a1.aB)) (Device.mk y26.dev.a2.aA (cond (decide (c1.device=2)) c1.aO y26.dev.a2.aO) (aU.cc (decide (c1.device=2)) y25.1 y26.dev.a2.aB)) (Device.mk y26.dev.a3.aA (cond (decide (c1.device=3)) c1.aO y26.dev.a3.aO) (aU.cc (decide (c1.device=3)) y25.1 y26.dev.a3.aB)) (Device.mk y26.dev.a4.aA (cond (decide (c1.device=4)) c1.aO y26.dev.a4.aO) (aU.cc (decide (c1.device=4)) y25.1 y26.dev.a4.aB)) (Device.mk y26.dev.a5.aA (cond (decide (c1.device=5)) c1.aO y26.dev.a5.aO) (aU.cc (decide (c1.device=5)) y25.1 y26.dev.a5.aB))) y26.lost y26.now)) fun y28 =>
 some (y28,(aU.mk y25.1.err y25.1.n y27)))
 none)
 none)
 (ob (eJ y25.2.d) fun y29 =>
 cond (decide (0≤c1.device) && decide (c1.device < 6))
 (cond (decide (0≤c1.device) && decide (c1.device < 6))
 (ob (iA y25.1.aE) fun y30 =>
 ob (eJ (aw.mk y29.book y29.aI y29.log (eP.mk (Device.mk y29.dev.a0.aA (cond (decide (c1.device=0)) c1.aO y29.dev.a0.aO) (aU.cc (decide (c1.device=0)) y25.1 y29.dev.a0.aB)) (Device.mk y29.dev.a1.aA (cond (decide (c1.device=1)) c1.aO y29.dev.a1.aO) (aU.cc (decide (c1.device=1)) y25.1 y29.dev.a1.aB)) (Device.mk y29.dev.a2.aA (cond (decide (c1.device=2)) c1.aO y29.dev.a2.aO) (aU.cc (decide (c1.device=2)) y25.1 y29.dev.a2.aB)) (Device.mk y29.dev.a3.aA (cond (decide (c1.device=3)) c1.aO y29.dev.a3.aO) (aU.cc (decide (c1.device=3)) y25.1 y29.dev.a3.aB)) (Device.mk y29.dev.a4.aA (cond (decide (c1.device=4)) c1.aO y29.dev.a4.aO) (aU.cc (decide (c1.device=4)) y25.1 y29.dev.a4.aB)) (Device.mk y29.dev.a5.aA (cond (decide (c1.device=5)) c1.aO y29.dev.a5.aO) (aU.cc (decide (c1.device=5)) y25.1 y29.dev.a5.aB))) y29.lost y29.now)) fun y31 =>
 some (y31,(aU.mk y25.1.err y25.1.n y30)))
 none)
 none)))))
 none)
 (ob (eJ d1) fun y32 =>
 ob (n8 (bY.mk y32 c1)) fun y33 =>
 cond (y33.1.err != 0)
 (ob (eJ d1) fun y34 =>
 ob (iA y33.1.aE) fun y35 =>
 ob (eJ y34) fun y36 =>
 some (y36,(aU.mk y33.1.err y33.1.n y35)))
 (ob (eJ y33.2.d) fun y37 =>
 ob (iA y33.1.aE) fun y38 =>
 ob (eJ y37) fun y39 =>
 some (y39,(aU.mk y33.1.err y33.1.n y38)))))))
def aCE (p:aw×cH):Option (aw×aU):=qV p.1 p.2
def BD:aQ TL:=aQ.of (DA.cons (DT.agg kz) (DA.one (DT.agg P7))) aCE (DA.cons (DT.agg kz) (DA.one (DT.agg LS)))
theorem Jo:be PR 18 .keep BD:=bx (cs:=[(39,jm)]) (ss:=[(38,IT),(40,GI),(41,tV)]) (E:=aX tab sl sh [(18,T7)] [(38,.sum),(39,.keep),(40,.sum),(41,.sum)]) (fun _=>by kernel_rfl) (aY base (aC (UJ.ak rfl aN) aN) (aC (eF rfl ZP) (aC (oD ki rfl) (aC (eF rfl Ws) (aC (eF rfl yz) aN))))) (.inl rfl) UJ.enters
abbrev mN:=(List aL)×(List aL)×Bool×Int×Int
def AF (l1:List aL)(l2:List aL)(b1:Bool)(i1:Int)(i2:Int):Option ((mN)⊕(((Bool)⊕(Bool)))) :=
 cond (decide (i2 < i1))
 (cond (decide (0≤i2))
 (ob (l1[i2.toNat]?) fun e0 =>
 cond (decide (0≤i2))
 (ob (l2[i2.toNat]?) fun e1 =>
 cond (!(cond (e0.device == e1.device) (cond (e0.aA == e1.aA) (cond (e0.seq == e1.seq) true false) false) false))
 (some (.inr (.inr false)))
 (some (.inl (l1,l2,b1,i1,(aF (i2+1))))))
 none)
 none)
 (some (.inr (.inl b1)))
def vH (p:mN):Option ((mN)⊕(((Bool)⊕(Bool)))):=AF p.1 p.2.1 p.2.2.1 p.2.2.2.1 p.2.2.2.2
def D5 (l1:List aL)(l2:List aL)(b1:Bool)(i1:Int)(i2:Int):Option (((Bool)⊕(Bool))):=bZ vH ((i1 - i2).toNat+2) (l1,l2,b1,i1,i2)
def Mk:kT (mN):=kO (kS 0 (kC (kF bQ) (kC (kF bQ) (kC kB (kC kI (kC kI kN))))) kN) (fun ((z0,z1,z2,z3,z4,_),_)=>(z0,z1,z2,z3,z4)) (fun (x:mN)=>((x.1,(x.2.1,(x.2.2.1,(x.2.2.2.1,(x.2.2.2.2,()))))),())) (fun _=>rfl)
def Ms:aM TL:=aM.two Mk.dec (fun p=>D5 p.1 p.2.1 p.2.2.1 p.2.2.2.1 p.2.2.2.2) (.exit 0) .ret dZ.enc dZ.enc
theorem aEN:bM PR (bm Ms) Td OM (bV (bC xp.body) 4):=lB (cs:=[]) (ss:=[]) (E:=aX tab sl sh [] []) (an:=xp.an) (aY base aN aN) vH (by kernel_rfl) (sB rfl E5.keys (by kernel_rfl)) rfl rfl (fun x y h=>⟨_,h⟩) (fun _=>rfl) fun _=>by kernel_rfl
def lZ (l1:List aL)(l2:List aL):Option Bool :=
 cond ((l1.length:Int) != (l2.length:Int))
 (some false)
 (ob (D5 l1 l2 false (l1.length:Int) 0) fun y0 =>
 two y0 (fun _ =>
 some true) (fun b2 =>
 some b2))
def WW (p:(List aL)×(List aL)):Option Bool:=lZ p.1 p.2
def yo:aQ TL:=aQ.of (DA.cons (DT.one eu) (DA.one (DT.one eu))) WW (DA.one dB)
theorem FM:be PR 72 .pure yo:=bx (cs:=[]) (ss:=[(172004,Ms)]) (E:=aX tab sl sh [(72,xp)] []) (fun _=>by kernel_rfl) (aY base (aC (E5.ak rfl (aC (lC aEN rfl) aN)) aN) aN) (.inr rfl) E5.enters
abbrev rq:=(List db)×(List db)×Bool×Int×Int
def zY (l1:List db)(l2:List db)(b1:Bool)(i1:Int)(i2:Int):Option ((rq)⊕(((Bool)⊕(Bool)))) :=
 cond (decide (i2 < i1))
 (cond (decide (0≤i2))
 (ob (l1[i2.toNat]?) fun e0 =>
 cond (decide (0≤i2))
 (ob (l2[i2.toNat]?) fun e1 =>
 cond (!(cond (cA e0.key e1.key) (cond (cA e0.text e1.text) (cond (e0.cW == e1.cW) (cond (e0.time == e1.time) (cond (cond (e0.aP.device == e1.aP.device) (cond (e0.aP.aA == e1.aP.aA) (cond (e0.aP.seq == e1.aP.seq) true false) false) false) true false) false) false) false) false))
 (some (.inr (.inr false)))
 (some (.inl (l1,l2,b1,i1,(aF (i2+1))))))
 none)
 none)
 (some (.inr (.inl b1)))
def uE (p:rq):Option ((rq)⊕(((Bool)⊕(Bool)))):=zY p.1 p.2.1 p.2.2.1 p.2.2.2.1 p.2.2.2.2
def C2 (l1:List db)(l2:List db)(b1:Bool)(i1:Int)(i2:Int):Option (((Bool)⊕(Bool))):=bZ uE ((i1 - i2).toNat+2) (l1,l2,b1,i1,i2)
def aB5:kT (rq):=kO (kS 0 (kC (kF dU) (kC (kF dU) (kC kB (kC kI (kC kI kN))))) kN) (fun ((z0,z1,z2,z3,z4,_),_)=>(z0,z1,z2,z3,z4)) (fun (x:rq)=>((x.1,(x.2.1,(x.2.2.1,(x.2.2.2.1,(x.2.2.2.2,()))))),())) (fun _=>rfl)
def KD:aM TL:=aM.two aB5.dec (fun p=>C2 p.1 p.2.1 p.2.2.1 p.2.2.2.1 p.2.2.2.2) (.exit 0) .ret dZ.enc dZ.enc
theorem aBE:bM PR (bm KD) RY LX (bV (bC xB.body) 4):=lB (cs:=[]) (ss:=[]) (E:=aX tab sl sh [] []) (an:=xB.an) (aY base aN aN) uE (by kernel_rfl) (sB rfl DB.keys (by kernel_rfl)) rfl rfl (fun x y h=>⟨_,h⟩) (fun _=>rfl) fun _=>by kernel_rfl
def vb (l1:List db)(l2:List db):Option Bool :=
 cond ((l1.length:Int) != (l2.length:Int))
 (some false)
 (ob (C2 l1 l2 false (l1.length:Int) 0) fun y0 =>
 two y0 (fun _ =>
 some true) (fun b2 =>
 some b2))
def Xy (p:(List db)×(List db)):Option Bool:=vb p.1 p.2
def HY:aQ TL:=aQ.of (DA.cons (DT.one qD) (DA.one (DT.one qD))) Xy (DA.one dB)
theorem YU:be PR 109 .pure HY:=bx (cs:=[]) (ss:=[(209004,KD)]) (E:=aX tab sl sh [(109,xB)] []) (fun _=>by kernel_rfl) (aY base (aC (DB.ak rfl (aC (lC aBE rfl) aN)) aN) aN) (.inr rfl) DB.enters
abbrev rv:=(List cR)×(List cR)×Bool×Int×Int
def zW (l1:List cR)(l2:List cR)(b1:Bool)(i1:Int)(i2:Int):Option ((rv)⊕(((Bool)⊕(Bool)))) :=
 cond (decide (i2 < i1))
 (cond (decide (0≤i2))
 (ob (l1[i2.toNat]?) fun e0 =>
 cond (decide (0≤i2))
 (ob (l2[i2.toNat]?) fun e1 =>
 cond (!(cond (cA e0.key e1.key) (cond (cA e0.text e1.text) (cond (e0.cW == e1.cW) (cond (cond (e0.aP.device == e1.aP.device) (cond (e0.aP.aA == e1.aP.aA) (cond (e0.aP.seq == e1.aP.seq) true false) false) false) true false) false) false) false))
 (some (.inr (.inr false)))
 (some (.inl (l1,l2,b1,i1,(aF (i2+1))))))
 none)
 none)
 (some (.inr (.inl b1)))
def uf (p:rv):Option ((rv)⊕(((Bool)⊕(Bool)))):=zW p.1 p.2.1 p.2.2.1 p.2.2.2.1 p.2.2.2.2
def Cg (l1:List cR)(l2:List cR)(b1:Bool)(i1:Int)(i2:Int):Option (((Bool)⊕(Bool))):=bZ uf ((i1 - i2).toNat+2) (l1,l2,b1,i1,i2)
def aAl:kT (rv):=kO (kS 0 (kC (kF dE) (kC (kF dE) (kC kB (kC kI (kC kI kN))))) kN) (fun ((z0,z1,z2,z3,z4,_),_)=>(z0,z1,z2,z3,z4)) (fun (x:rv)=>((x.1,(x.2.1,(x.2.2.1,(x.2.2.2.1,(x.2.2.2.2,()))))),())) (fun _=>rfl)
def KN:aM TL:=aM.two aAl.dec (fun p=>Cg p.1 p.2.1 p.2.2.1 p.2.2.2.1 p.2.2.2.2) (.exit 0) .ret dZ.enc dZ.enc
theorem aBF:bM PR (bm KN) Pw La (bV (bC xO.body) 4):=lB (cs:=[]) (ss:=[]) (E:=aX tab sl sh [] []) (an:=xO.an) (aY base aN aN) uf (by kernel_rfl) (sB rfl DX.keys (by kernel_rfl)) rfl rfl (fun x y h=>⟨_,h⟩) (fun _=>rfl) fun _=>by kernel_rfl
def vL (l1:List cR)(l2:List cR):Option Bool :=
 cond ((l1.length:Int) != (l2.length:Int))
 (some false)
 (ob (Cg l1 l2 false (l1.length:Int) 0) fun y0 =>
 two y0 (fun _ =>
 some true) (fun b2 =>
 some b2))
def Wi (p:(List cR)×(List cR)):Option Bool:=vL p.1 p.2
def GP:aQ TL:=aQ.of (DA.cons (DT.one pr) (DA.one (DT.one pr))) Wi (DA.one dB)
theorem XK:be PR 110 .pure GP:=bx (cs:=[]) (ss:=[(210004,KN)]) (E:=aX tab sl sh [(110,xO)] []) (fun _=>by kernel_rfl) (aY base (aC (DX.ak rfl (aC (lC aBF rfl) aN)) aN) aN) (.inr rfl) DX.enters
def zj (l1:List aL)(l2:List aL)(b1:Bool)(i1:Int)(i2:Int):Option ((mN)⊕(((Bool)⊕(Bool)))) :=
 cond (decide (i2 < i1))
 (cond (decide (0≤i2))
 (ob (l1[i2.toNat]?) fun e0 =>
 cond (decide (0≤i2))
 (ob (l2[i2.toNat]?) fun e1 =>
 cond (!(cond (e0.device == e1.device) (cond (e0.aA == e1.aA) (cond (e0.seq == e1.seq) true false) false) false))
 (some (.inr (.inr false)))
 (some (.inl (l1,l2,b1,i1,(aF (i2+1))))))
 none)
 none)
 (some (.inr (.inl b1)))
def u5 (p:mN):Option ((mN)⊕(((Bool)⊕(Bool)))):=zj p.1 p.2.1 p.2.2.1 p.2.2.2.1 p.2.2.2.2
def C5 (l1:List aL)(l2:List aL)(b1:Bool)(i1:Int)(i2:Int):Option (((Bool)⊕(Bool))):=bZ u5 ((i1 - i2).toNat+2) (l1,l2,b1,i1,i2)
def Ki:aM TL:=aM.two Mk.dec (fun p=>C5 p.1 p.2.1 p.2.2.1 p.2.2.2.1 p.2.2.2.2) (.exit 0) .ret dZ.enc dZ.enc
theorem aAD:bM PR (bm Ki) Q3 LR (bV (bC we.body) 4):=lB (cs:=[]) (ss:=[]) (E:=aX tab sl sh [] []) (an:=we.an) (aY base aN aN) u5 (by kernel_rfl) (sB rfl DG.keys (by kernel_rfl)) rfl rfl (fun x y h=>⟨_,h⟩) (fun _=>rfl) fun _=>by kernel_rfl
def pu (l1:List aL)(l2:List aL):Option Bool :=
 cond ((l1.length:Int) != (l2.length:Int))
 (some false)
 (ob (C5 l1 l2 false (l1.length:Int) 0) fun y0 =>
 two y0 (fun _ =>
 some true) (fun b2 =>
 some b2))
def Y7 (p:(List aL)×(List aL)):Option Bool:=pu p.1 p.2
def ze:aQ TL:=aQ.of (DA.cons (DT.one eu) (DA.one (DT.one eu))) Y7 (DA.one dB)
theorem Hn:be PR 111 .pure ze:=bx (cs:=[]) (ss:=[(211004,Ki)]) (E:=aX tab sl sh [(111,we)] []) (fun _=>by kernel_rfl) (aY base (aC (DG.ak rfl (aC (lC aAD rfl) aN)) aN) aN) (.inr rfl) DG.enters
abbrev sV:=(List Sum)×(List Sum)×Bool×Int×Int
def za (l1:List Sum)(l2:List Sum)(b1:Bool)(i1:Int)(i2:Int):Option ((sV)⊕(((Bool)⊕(Bool)))) :=
 cond (decide (i2 < i1))
 (cond (decide (0≤i2))
 (ob (l1[i2.toNat]?) fun e0 =>
 cond (decide (0≤i2))
 (ob (l2[i2.toNat]?) fun e1 =>
 cond (!(cond (cA e0.key e1.key) (cond (e0.n == e1.n) true false) false))
 (some (.inr (.inr false)))
 (some (.inl (l1,l2,b1,i1,(aF (i2+1))))))
 none)
 none)
 (some (.inr (.inl b1)))
def uI (p:sV):Option ((sV)⊕(((Bool)⊕(Bool)))):=za p.1 p.2.1 p.2.2.1 p.2.2.2.1 p.2.2.2.2
def Cz (l1:List Sum)(l2:List Sum)(b1:Bool)(i1:Int)(i2:Int):Option (((Bool)⊕(Bool))):=bZ uI ((i1 - i2).toNat+2) (l1,l2,b1,i1,i2)
def aA3:kT (sV):=kO (kS 0 (kC (kF dS) (kC (kF dS) (kC kB (kC kI (kC kI kN))))) kN) (fun ((z0,z1,z2,z3,z4,_),_)=>(z0,z1,z2,z3,z4)) (fun (x:sV)=>((x.1,(x.2.1,(x.2.2.1,(x.2.2.2.1,(x.2.2.2.2,()))))),())) (fun _=>rfl)
def JK:aM TL:=aM.two aA3.dec (fun p=>Cz p.1 p.2.1 p.2.2.1 p.2.2.2.1 p.2.2.2.2) (.exit 0) .ret dZ.enc dZ.enc
theorem aBY:bM PR (bm JK) QD Mw (bV (bC wu.body) 4):=lB (cs:=[]) (ss:=[]) (E:=aX tab sl sh [] []) (an:=wu.an) (aY base aN aN) uI (by kernel_rfl) (sB rfl D3.keys (by kernel_rfl)) rfl rfl (fun x y h=>⟨_,h⟩) (fun _=>rfl) fun _=>by kernel_rfl
def vU (l1:List Sum)(l2:List Sum):Option Bool :=
 cond ((l1.length:Int) != (l2.length:Int))
 (some false)
 (ob (Cz l1 l2 false (l1.length:Int) 0) fun y0 =>
 two y0 (fun _ =>
 some true) (fun b2 =>
 some b2))
def YW (p:(List Sum)×(List Sum)):Option Bool:=vU p.1 p.2
def HC:aQ TL:=aQ.of (DA.cons (DT.one qR) (DA.one (DT.one qR))) YW (DA.one dB)
theorem YY:be PR 112 .pure HC:=bx (cs:=[]) (ss:=[(212004,JK)]) (E:=aX tab sl sh [(112,wu)] []) (fun _=>by kernel_rfl) (aY base (aC (D3.ak rfl (aC (lC aBY rfl) aN)) aN) aN) (.inr rfl) D3.enters
abbrev sI:=(List Bind)×(List Bind)×Bool×Int×Int
def zX (l1:List Bind)(l2:List Bind)(b1:Bool)(i1:Int)(i2:Int):Option ((sI)⊕(((Bool)⊕(Bool)))) :=
 cond (decide (i2 < i1))
 (cond (decide (0≤i2))
 (ob (l1[i2.toNat]?) fun e0 =>
 cond (decide (0≤i2))
 (ob (l2[i2.toNat]?) fun e1 =>
 cond (!(cond (e0.se == e1.se) (cond (cA e0.text e1.text) (cond (e0.cW == e1.cW) (cond (cond (e0.aP.device == e1.aP.device) (cond (e0.aP.aA == e1.aP.aA) (cond (e0.aP.seq == e1.aP.seq) true false) false) false) true false) false) false) false))
 (some (.inr (.inr false)))
 (some (.inl (l1,l2,b1,i1,(aF (i2+1))))))
 none)
 none)
 (some (.inr (.inl b1)))
def u6 (p:sI):Option ((sI)⊕(((Bool)⊕(Bool)))):=zX p.1 p.2.1 p.2.2.1 p.2.2.2.1 p.2.2.2.2
def Cd (l1:List Bind)(l2:List Bind)(b1:Bool)(i1:Int)(i2:Int):Option (((Bool)⊕(Bool))):=bZ u6 ((i1 - i2).toNat+2) (l1,l2,b1,i1,i2)
def aAx:kT (sI):=kO (kS 0 (kC (kF dQ) (kC (kF dQ) (kC kB (kC kI (kC kI kN))))) kN) (fun ((z0,z1,z2,z3,z4,_),_)=>(z0,z1,z2,z3,z4)) (fun (x:sI)=>((x.1,(x.2.1,(x.2.2.1,(x.2.2.2.1,(x.2.2.2.2,()))))),())) (fun _=>rfl)
def KB:aM TL:=aM.two aAx.dec (fun p=>Cd p.1 p.2.1 p.2.2.1 p.2.2.2.1 p.2.2.2.2) (.exit 0) .ret dZ.enc dZ.enc
theorem aAy:bM PR (bm KB) R0 NH (bV (bC xG.body) 4):=lB (cs:=[]) (ss:=[]) (E:=aX tab sl sh [] []) (an:=xG.an) (aY base aN aN) u6 (by kernel_rfl) (sB rfl DF.keys (by kernel_rfl)) rfl rfl (fun x y h=>⟨_,h⟩) (fun _=>rfl) fun _=>by kernel_rfl
def uj (l1:List Bind)(l2:List Bind):Option Bool :=
 cond ((l1.length:Int) != (l2.length:Int))
 (some false)
 (ob (Cd l1 l2 false (l1.length:Int) 0) fun y0 =>
 two y0 (fun _ =>
 some true) (fun b2 =>
 some b2))
def W4 (p:(List Bind)×(List Bind)):Option Bool:=uj p.1 p.2
def Ff:aQ TL:=aQ.of (DA.cons (DT.one pn) (DA.one (DT.one pn))) W4 (DA.one dB)
theorem XG:be PR 113 .pure Ff:=bx (cs:=[]) (ss:=[(213004,KB)]) (E:=aX tab sl sh [(113,xG)] []) (fun _=>by kernel_rfl) (aY base (aC (DF.ak rfl (aC (lC aAy rfl) aN)) aN) aN) (.inr rfl) DF.enters
def nv (c1:ag)(c2:ag):Option Bool :=
 ob (lZ c1.v c2.v) fun r0 =>
 cond (r0)
 (ob (vb c1.cB c2.cB) fun r1 =>
 cond (r1)
 (ob (vL c1.bp c2.bp) fun r2 =>
 cond (r2)
 (ob (pu c1.gone c2.gone) fun r3 =>
 cond (r3)
 (ob (vU c1.bJ c2.bJ) fun r4 =>
 cond (r4)
 (ob (uj c1.binds c2.binds) fun r5 =>
 some r5)
 (some false))
 (some false))
 (some false))
 (some false))
 (some false)
def Xg (p:ag×ag):Option Bool:=nv p.1 p.2
def HX:aQ TL:=aQ.of (DA.cons (DT.agg qJ) (DA.one (DT.agg qJ))) Xg (DA.one dB)
theorem YX:be PR 66 .pure HX:=bx (cs:=[(72,yo),(109,HY),(110,GP),(111,ze),(112,HC),(113,Ff)]) (ss:=[]) (E:=aX tab sl sh [(66,Sz)] [(72,.pure),(109,.pure),(110,.pure),(111,.pure),(112,.pure),(113,.pure)]) (fun _=>by kernel_rfl) (aY base (aC (U0.ak rfl aN) aN) (aC (oD FM rfl) (aC (oD YU rfl) (aC (oD XK rfl) (aC (oD Hn rfl) (aC (oD YY rfl) (aC (oD XG rfl) aN))))))) (.inr rfl) U0.enters
abbrev sX:=(List bP)×(List bP)×Bool×Int×Int
def zO (l1:List bP)(l2:List bP)(b1:Bool)(i1:Int)(i2:Int):Option ((sX)⊕(((Bool)⊕(Bool)))) :=
 cond (decide (i2 < i1))
 (cond (decide (0≤i2))
 (ob (l1[i2.toNat]?) fun e0 =>
 cond (decide (0≤i2))
 (ob (l2[i2.toNat]?) fun e1 =>
 cond (!(cond (cA e0.key e1.key) (cond (e0.bc == e1.bc) (cond (e0.lo == e1.lo) (cond (e0.hi == e1.hi) (cond (e0.start == e1.start) (cond (e0.bj == e1.bj) (cond (e0.cE == e1.cE) true false) false) false) false) false) false) false))
 (some (.inr (.inr false)))
 (some (.inl (l1,l2,b1,i1,(aF (i2+1))))))
 none)
 none)
 (some (.inr (.inl b1)))
def uD (p:sX):Option ((sX)⊕(((Bool)⊕(Bool)))):=zO p.1 p.2.1 p.2.2.1 p.2.2.2.1 p.2.2.2.2
def Cu (l1:List bP)(l2:List bP)(b1:Bool)(i1:Int)(i2:Int):Option (((Bool)⊕(Bool))):=bZ uD ((i1 - i2).toNat+2) (l1,l2,b1,i1,i2)
def aBb:kT (sX):=kO (kS 0 (kC (kF cY) (kC (kF cY) (kC kB (kC kI (kC kI kN))))) kN) (fun ((z0,z1,z2,z3,z4,_),_)=>(z0,z1,z2,z3,z4)) (fun (x:sX)=>((x.1,(x.2.1,(x.2.2.1,(x.2.2.2.1,(x.2.2.2.2,()))))),())) (fun _=>rfl)
def KF:aM TL:=aM.two aBb.dec (fun p=>Cu p.1 p.2.1 p.2.2.1 p.2.2.2.1 p.2.2.2.2) (.exit 0) .ret dZ.enc dZ.enc
theorem aAM:bM PR (bm KF) QC M4 (bV (bC ww.body) 4):=lB (cs:=[]) (ss:=[]) (E:=aX tab sl sh [] []) (an:=ww.an) (aY base aN aN) uD (by kernel_rfl) (sB rfl DQ.keys (by kernel_rfl)) rfl rfl (fun x y h=>⟨_,h⟩) (fun _=>rfl) fun _=>by kernel_rfl
def tW (l1:List bP)(l2:List bP):Option Bool :=
 cond ((l1.length:Int) != (l2.length:Int))
 (some false)
 (ob (Cu l1 l2 false (l1.length:Int) 0) fun y0 =>
 two y0 (fun _ =>
 some true) (fun b2 =>
 some b2))
def VH (p:(List bP)×(List bP)):Option Bool:=tW p.1 p.2
def Et:aQ TL:=aQ.of (DA.cons (DT.one nV) (DA.one (DT.one nV))) VH (DA.one dB)
theorem VJ:be PR 114 .pure Et:=bx (cs:=[]) (ss:=[(214004,KF)]) (E:=aX tab sl sh [(114,ww)] []) (fun _=>by kernel_rfl) (aY base (aC (DQ.ak rfl (aC (lC aAM rfl) aN)) aN) aN) (.inr rfl) DQ.enters
abbrev mJ:=(List Range)×(List Range)×Bool×Int×Int
def zg (l1:List Range)(l2:List Range)(b1:Bool)(i1:Int)(i2:Int):Option ((mJ)⊕(((Bool)⊕(Bool)))) :=
 cond (decide (i2 < i1))
 (cond (decide (0≤i2))
 (ob (l1[i2.toNat]?) fun e0 =>
 cond (decide (0≤i2))
 (ob (l2[i2.toNat]?) fun e1 =>
 cond (!(cond (e0.from_ == e1.from_) (cond (e0.bU == e1.bU) true false) false))
 (some (.inr (.inr false)))
 (some (.inl (l1,l2,b1,i1,(aF (i2+1))))))
 none)
 none)
 (some (.inr (.inl b1)))
def uN (p:mJ):Option ((mJ)⊕(((Bool)⊕(Bool)))):=zg p.1 p.2.1 p.2.2.1 p.2.2.2.1 p.2.2.2.2
def Cn (l1:List Range)(l2:List Range)(b1:Bool)(i1:Int)(i2:Int):Option (((Bool)⊕(Bool))):=bZ uN ((i1 - i2).toNat+2) (l1,l2,b1,i1,i2)
def LB:kT (mJ):=kO (kS 0 (kC (kF aj) (kC (kF aj) (kC kB (kC kI (kC kI kN))))) kN) (fun ((z0,z1,z2,z3,z4,_),_)=>(z0,z1,z2,z3,z4)) (fun (x:mJ)=>((x.1,(x.2.1,(x.2.2.1,(x.2.2.2.1,(x.2.2.2.2,()))))),())) (fun _=>rfl)
def K0:aM TL:=aM.two LB.dec (fun p=>Cn p.1 p.2.1 p.2.2.1 p.2.2.2.1 p.2.2.2.2) (.exit 0) .ret dZ.enc dZ.enc
theorem aAL:bM PR (bm K0) P9 NF (bV (bC xY.body) 4):=lB (cs:=[]) (ss:=[]) (E:=aX tab sl sh [] []) (an:=xY.an) (aY base aN aN) uN (by kernel_rfl) (sB rfl D6.keys (by kernel_rfl)) rfl rfl (fun x y h=>⟨_,h⟩) (fun _=>rfl) fun _=>by kernel_rfl
def nW (l1:List Range)(l2:List Range):Option Bool :=
 cond ((l1.length:Int) != (l2.length:Int))
 (some false)
 (ob (Cn l1 l2 false (l1.length:Int) 0) fun y0 =>
 two y0 (fun _ =>
 some true) (fun b2 =>
 some b2))
def Vy (p:(List Range)×(List Range)):Option Bool:=nW p.1 p.2
def tN:aQ TL:=aQ.of (DA.cons (DT.one ev) (DA.one (DT.one ev))) Vy (DA.one dB)
theorem ym:be PR 115 .pure tN:=bx (cs:=[]) (ss:=[(215004,K0)]) (E:=aX tab sl sh [(115,xY)] []) (fun _=>by kernel_rfl) (aY base (aC (D6.ak rfl (aC (lC aAL rfl) aN)) aN) aN) (.inr rfl) D6.enters
abbrev sY:=(List Int)×(List Int)×Bool×Int×Int
def zp (l1:List Int)(l2:List Int)(b1:Bool)(i1:Int)(i2:Int):Option ((sY)⊕(((Bool)⊕(Bool)))) :=
 cond (decide (i2 < i1))
 (cond (decide (0≤i2))
 (ob (l1[i2.toNat]?) fun e0 =>
 cond (decide (0≤i2))
 (ob (l2[i2.toNat]?) fun e1 =>
 cond (e0 != e1)
 (some (.inr (.inr false)))
 (some (.inl (l1,l2,b1,i1,(aF (i2+1))))))
 none)
 none)
 (some (.inr (.inl b1)))
def uU (p:sY):Option ((sY)⊕(((Bool)⊕(Bool)))):=zp p.1 p.2.1 p.2.2.1 p.2.2.2.1 p.2.2.2.2
def CV (l1:List Int)(l2:List Int)(b1:Bool)(i1:Int)(i2:Int):Option (((Bool)⊕(Bool))):=bZ uU ((i1 - i2).toNat+2) (l1,l2,b1,i1,i2)
def aAf:kT (sY):=kO (kS 0 (kC (kF bA) (kC (kF bA) (kC kB (kC kI (kC kI kN))))) kN) (fun ((z0,z1,z2,z3,z4,_),_)=>(z0,z1,z2,z3,z4)) (fun (x:sY)=>((x.1,(x.2.1,(x.2.2.1,(x.2.2.2.1,(x.2.2.2.2,()))))),())) (fun _=>rfl)
def K5:aM TL:=aM.two aAf.dec (fun p=>CV p.1 p.2.1 p.2.2.1 p.2.2.2.1 p.2.2.2.2) (.exit 0) .ret dZ.enc dZ.enc
theorem aAu:bM PR (bm K5) Q0 Lr (bV (bC xe.body) 4):=lB (cs:=[]) (ss:=[]) (E:=aX tab sl sh [] []) (an:=xe.an) (aY base aN aN) uU (by kernel_rfl) (sB rfl Dy.keys (by kernel_rfl)) rfl rfl (fun x y h=>⟨_,h⟩) (fun _=>rfl) fun _=>by kernel_rfl
def mf (l1:List Int)(l2:List Int):Option Bool :=
 cond ((l1.length:Int) != (l2.length:Int))
 (some false)
 (ob (CV l1 l2 false (l1.length:Int) 0) fun y0 =>
 two y0 (fun _ =>
 some true) (fun b2 =>
 some b2))
def Xk (p:(List Int)×(List Int)):Option Bool:=mf p.1 p.2
def tv:aQ TL:=aQ.of (DA.cons (DT.one jR) (DA.one (DT.one jR))) Xk (DA.one dB)
theorem zP:be PR 118 .pure tv:=bx (cs:=[]) (ss:=[(218004,K5)]) (E:=aX tab sl sh [(118,xe)] []) (fun _=>by kernel_rfl) (aY base (aC (Dy.ak rfl (aC (lC aAu rfl) aN)) aN) aN) (.inr rfl) Dy.enters
abbrev sE:=(List Slice)×(List Slice)×Bool×Int×Int
def zh (l1:List Slice)(l2:List Slice)(b1:Bool)(i1:Int)(i2:Int):Option ((sE)⊕(((Bool)⊕(Bool)))) :=
 cond (decide (i2 < i1))
 (cond (decide (0≤i2))
 (ob (l1[i2.toNat]?) fun e0 =>
 cond (decide (0≤i2))
 (ob (l2[i2.toNat]?) fun e1 =>
 cond (!(cond (cA e0.key e1.key) (cond (e0.bj == e1.bj) (cond (e0.cE == e1.cE) (cond (e0.dy == e1.dy) (cond (e0.eO == e1.eO) true false) false) false) false) false))
 (some (.inr (.inr false)))
 (some (.inl (l1,l2,b1,i1,(aF (i2+1))))))
 none)
 none)
 (some (.inr (.inl b1)))
def uB (p:sE):Option ((sE)⊕(((Bool)⊕(Bool)))):=zh p.1 p.2.1 p.2.2.1 p.2.2.2.1 p.2.2.2.2
def Ce (l1:List Slice)(l2:List Slice)(b1:Bool)(i1:Int)(i2:Int):Option (((Bool)⊕(Bool))):=bZ uB ((i1 - i2).toNat+2) (l1,l2,b1,i1,i2)
def aBS:kT (sE):=kO (kS 0 (kC (kF cD) (kC (kF cD) (kC kB (kC kI (kC kI kN))))) kN) (fun ((z0,z1,z2,z3,z4,_),_)=>(z0,z1,z2,z3,z4)) (fun (x:sE)=>((x.1,(x.2.1,(x.2.2.1,(x.2.2.2.1,(x.2.2.2.2,()))))),())) (fun _=>rfl)
def Jv:aM TL:=aM.two aBS.dec (fun p=>Ce p.1 p.2.1 p.2.2.1 p.2.2.2.1 p.2.2.2.2) (.exit 0) .ret dZ.enc dZ.enc
theorem aAc:bM PR (bm Jv) QY NJ (bV (bC wo.body) 4):=lB (cs:=[]) (ss:=[]) (E:=aX tab sl sh [] []) (an:=wo.an) (aY base aN aN) uB (by kernel_rfl) (sB rfl DK.keys (by kernel_rfl)) rfl rfl (fun x y h=>⟨_,h⟩) (fun _=>rfl) fun _=>by kernel_rfl
def pK (l1:List Slice)(l2:List Slice):Option Bool :=
 cond ((l1.length:Int) != (l2.length:Int))
 (some false)
 (ob (Ce l1 l2 false (l1.length:Int) 0) fun y0 =>
 two y0 (fun _ =>
 some true) (fun b2 =>
 some b2))
def WI (p:(List Slice)×(List Slice)):Option Bool:=pK p.1 p.2
def yp:aQ TL:=aQ.of (DA.cons (DT.one ld) (DA.one (DT.one ld))) WI (DA.one dB)
theorem F5:be PR 146 .pure yp:=bx (cs:=[]) (ss:=[(246004,Jv)]) (E:=aX tab sl sh [(146,wo)] []) (fun _=>by kernel_rfl) (aY base (aC (DK.ak rfl (aC (lC aAc rfl) aN)) aN) aN) (.inr rfl) DK.enters
def tG (lx1:aH)(lx2:aH):Option Bool :=
 cond (lx1.device == lx2.device)
 (cond (lx1.aA == lx2.aA)
 (cond (lx1.bN == lx2.bN)
 (cond (lx1.last == lx2.last)
 (ob (pK lx1.aW lx2.aW) fun r0 =>
 cond (r0)
 (ob (nW lx1.ids lx2.ids) fun r1 =>
 cond (r1)
 (ob (mf lx1.used lx2.used) fun r2 =>
 some r2)
 (some false))
 (some false))
 (some false))
 (some false))
 (some false))
 (some false)
def Uf (p:aH×aH):Option Bool:=tG p.1 p.2
def Ed:aQ TL:=aQ.of (DA.cons (DT.agg jc) (DA.one (DT.agg jc))) Uf (DA.one dB)
theorem Ug:be PR 117 .pure Ed:=bx (cs:=[(146,yp),(115,tN),(118,tv)]) (ss:=[]) (E:=aX tab sl sh [(117,Q8)] [(146,.pure),(115,.pure),(118,.pure)]) (fun _=>by kernel_rfl) (aY base (aC (Rz.ak rfl aN) aN) (aC (oD F5 rfl) (aC (oD ym rfl) (aC (oD zP rfl) aN)))) (.inr rfl) Rz.enters
abbrev rV:=(List aH)×Bool×(List aH)×Int×Int
def zU (l1:List aH)(b1:Bool)(l2:List aH)(i1:Int)(i2:Int):Option ((rV)⊕(((Bool)⊕(Bool)))) :=
 cond (decide (i2 < i1))
 (cond (decide (0≤i2))
 (ob (l2[i2.toNat]?) fun e0 =>
 cond (decide (0≤i2))
 (ob (l1[i2.toNat]?) fun e1 =>
 ob (tG e0 e1) fun r2 =>
 cond (!r2)
 (some (.inr (.inr false)))
 (some (.inl (l1,b1,l2,i1,(aF (i2+1))))))
 none)
 none)
 (some (.inr (.inl b1)))
def u9 (p:rV):Option ((rV)⊕(((Bool)⊕(Bool)))):=zU p.1 p.2.1 p.2.2.1 p.2.2.2.1 p.2.2.2.2
def C8 (l1:List aH)(b1:Bool)(l2:List aH)(i1:Int)(i2:Int):Option (((Bool)⊕(Bool))):=bZ u9 ((i1 - i2).toNat+2) (l1,b1,l2,i1,i2)
def aB2:kT (rV):=kO (kS 0 (kC (kF ch) (kC (aD.xs (aD.sc (aD.dY 117 [] []))) (kC kB (kC (kF ch) (kC kI (kC kI kN)))))) kN) (fun ((z0,_,z1,z2,z3,z4,_),_)=>(z0,z1,z2,z3,z4)) (fun (x:rV)=>((x.1,((),(x.2.1,(x.2.2.1,(x.2.2.2.1,(x.2.2.2.2,())))))),())) (fun _=>rfl)
def Jt:aM TL:=aM.two aB2.dec (fun p=>C8 p.1 p.2.1 p.2.2.1 p.2.2.2.1 p.2.2.2.2) (.exit 0) .ret dZ.enc dZ.enc
theorem aA8:bM PR (bm Jt) R7 Mh (bV (bC wv.body) 4):=lB (cs:=[(117,Ed)]) (ss:=[]) (E:=aX tab sl sh [] [(117,.pure)]) (an:=wv.an) (aY base aN (aC (oD Ug rfl) aN)) u9 (by kernel_rfl) (sB rfl SV.keys (by kernel_rfl)) rfl rfl (fun x y h=>⟨_,h⟩) (fun _=>rfl) fun _=>by kernel_rfl
def ua (bx1:aG)(bx2:aG):Option Bool :=
 ob (tW bx1.af bx2.af) fun r0 =>
 cond (r0)
 (ob (nW bx1.free bx2.free) fun r1 =>
 cond (r1)
 (cond ((bx1.aK.length:Int) != (bx2.aK.length:Int))
 (some false)
 (ob (C8 bx2.aK false bx1.aK (bx1.aK.length:Int) 0) fun y2 =>
 two y2 (fun _ =>
 ob (mf bx1.bB bx2.bB) fun r5 =>
 some r5) (fun b4 =>
 cond (b4)
 (ob (mf bx1.bB bx2.bB) fun r6 =>
 some r6)
 (some false))))
 (some false))
 (some false)
def Vj (p:aG×aG):Option Bool:=ua p.1 p.2
def F6:aQ TL:=aQ.of (DA.cons (DT.agg fq) (DA.one (DT.agg fq))) Vj (DA.one dB)
theorem WY:be PR 67 .pure F6:=bx (cs:=[(114,Et),(115,tN),(118,tv)]) (ss:=[(216004,Jt)]) (E:=aX tab sl sh [(67,Tm),(116,wv)] [(114,.pure),(115,.pure),(118,.pure)]) (fun _=>by kernel_rfl) (aY base (aC (TA.ak rfl aN) (aC (SV.ak rfl (aC (lC aA8 rfl) aN)) aN)) (aC (oD VJ rfl) (aC (oD ym rfl) (aC (oD zP rfl) aN)))) (.inr rfl) TA.enters
def vm (o1:Op)(o2:Op):Option Bool :=
 cond (cond (o1.aP.device == o2.aP.device) (cond (o1.aP.aA == o2.aP.aA) (cond (o1.aP.seq == o2.aP.seq) true false) false) false)
 (cond (o1.bc == o2.bc)
 (cond (o1.cW == o2.cW)
 (cond (o1.kind == o2.kind)
 (cond (cA o1.key o2.key)
 (cond (cA o1.text o2.text)
 (cond (o1.n == o2.n)
 (cond (o1.time == o2.time)
 (ob (pu o1.cz o2.cz) fun r0 =>
 some r0)
 (some false))
 (some false))
 (some false))
 (some false))
 (some false))
 (some false))
 (some false))
 (some false)
def Z5 (p:Op×Op):Option Bool:=vm p.1 p.2
def Iu:aQ TL:=aQ.of (DA.cons (DT.agg jW) (DA.one (DT.agg jW))) Z5 (DA.one dB)
theorem Yt:be PR 69 .pure Iu:=bx (cs:=[(111,ze)]) (ss:=[]) (E:=aX tab sl sh [(69,TP)] [(111,.pure)]) (fun _=>by kernel_rfl) (aY base (aC (Tu.ak rfl aN) aN) (aC (oD Hn rfl) aN)) (.inr rfl) Tu.enters
abbrev rT:=(List Op)×Bool×(List Op)×Int×Int
def zx (l1:List Op)(b1:Bool)(l2:List Op)(i1:Int)(i2:Int):Option ((rT)⊕(((Bool)⊕(Bool)))) :=
 cond (decide (i2 < i1))
 (cond (decide (0≤i2))
 (ob (l2[i2.toNat]?) fun e0 =>
 cond (decide (0≤i2))
 (ob (l1[i2.toNat]?) fun e1 =>
 ob (vm e0 e1) fun r2 =>
 cond (!r2)
 (some (.inr (.inr false)))
 (some (.inl (l1,b1,l2,i1,(aF (i2+1))))))
 none)
 none)
 (some (.inr (.inl b1)))
def vG (p:rT):Option ((rT)⊕(((Bool)⊕(Bool)))):=zx p.1 p.2.1 p.2.2.1 p.2.2.2.1 p.2.2.2.2
def Ds (l1:List Op)(b1:Bool)(l2:List Op)(i1:Int)(i2:Int):Option (((Bool)⊕(Bool))):=bZ vG ((i1 - i2).toNat+2) (l1,b1,l2,i1,i2)
def aDJ:kT (rT):=kO (kS 0 (kC (kF eH) (kC (aD.xs (aD.sc (aD.dY 69 [] []))) (kC kB (kC (kF eH) (kC kI (kC kI kN)))))) kN) (fun ((z0,_,z1,z2,z3,z4,_),_)=>(z0,z1,z2,z3,z4)) (fun (x:rT)=>((x.1,((),(x.2.1,(x.2.2.1,(x.2.2.2.1,(x.2.2.2.2,())))))),())) (fun _=>rfl)
def LU:aM TL:=aM.two aDJ.dec (fun p=>Ds p.1 p.2.1 p.2.2.1 p.2.2.2.1 p.2.2.2.2) (.exit 0) .ret dZ.enc dZ.enc
theorem aCX:bM PR (bm LU) UF Np (bV (bC yG.body) 4):=lB (cs:=[(69,Iu)]) (ss:=[]) (E:=aX tab sl sh [] [(69,.pure)]) (an:=yG.an) (aY base aN (aC (oD Yt rfl) aN)) vG (by kernel_rfl) (sB rfl Ti.keys (by kernel_rfl)) rfl rfl (fun x y h=>⟨_,h⟩) (fun _=>rfl) fun _=>by kernel_rfl
def yg (lx1:aH)(lx2:aH):Option Bool :=
 cond (lx1.device == lx2.device)
 (cond (lx1.aA == lx2.aA)
 (cond (lx1.bN == lx2.bN)
 (cond (lx1.last == lx2.last)
 (ob (pK lx1.aW lx2.aW) fun r0 =>
 cond (r0)
 (ob (nW lx1.ids lx2.ids) fun r1 =>
 cond (r1)
 (ob (mf lx1.used lx2.used) fun r2 =>
 some r2)
 (some false))
 (some false))
 (some false))
 (some false))
 (some false))
 (some false)
def Uo (p:aH×aH):Option Bool:=yg p.1 p.2
def Eh:aQ TL:=aQ.of (DA.cons (DT.agg jc) (DA.one (DT.agg jc))) Uo (DA.one dB)
theorem Un:be PR 119 .pure Eh:=bx (cs:=[(146,yp),(115,tN),(118,tv)]) (ss:=[]) (E:=aX tab sl sh [(119,Rq)] [(146,.pure),(115,.pure),(118,.pure)]) (fun _=>by kernel_rfl) (aY base (aC (Ri.ak rfl aN) aN) (aC (oD F5 rfl) (aC (oD ym rfl) (aC (oD zP rfl) aN)))) (.inr rfl) Ri.enters
def tK (d1:Device)(d2:Device):Option Bool :=
 cond (d1.aA == d2.aA)
 (cond (d1.aO == d2.aO)
 (cond (d1.aB.err == d2.aB.err)
 (cond (d1.aB.n == d2.aB.n)
 (ob (yg d1.aB.aE d2.aB.aE) fun r0 =>
 some r0)
 (some false))
 (some false))
 (some false))
 (some false)
def Uj (p:Device×Device):Option Bool:=tK p.1 p.2
def Ee:aQ TL:=aQ.of (DA.cons (DT.agg Kz) (DA.one (DT.agg Kz))) Uj (DA.one dB)
theorem Uk:be PR 71 .pure Ee:=bx (cs:=[(119,Eh)]) (ss:=[]) (E:=aX tab sl sh [(71,UH)] [(119,.pure)]) (fun _=>by kernel_rfl) (aY base (aC (Tw.ak rfl aN) aN) (aC (oD Un rfl) aN)) (.inr rfl) Tw.enters
abbrev sC:=(List Device)×Bool×(List Device)×Int×Int
def AW (l1:List Device)(b1:Bool)(l2:List Device)(i1:Int)(i2:Int):Option ((sC)⊕(((Bool)⊕(Bool)))) :=
 cond (decide (i2 < i1))
 (cond (decide (0≤i2))
 (ob (l2[i2.toNat]?) fun e0 =>
 cond (decide (0≤i2))
 (ob (l1[i2.toNat]?) fun e1 =>
 ob (tK e0 e1) fun r2 =>
 cond (!r2)
 (some (.inr (.inr false)))
 (some (.inl (l1,b1,l2,i1,(aF (i2+1))))))
 none)
 none)
 (some (.inr (.inl b1)))
def vJ (p:sC):Option ((sC)⊕(((Bool)⊕(Bool)))):=AW p.1 p.2.1 p.2.2.1 p.2.2.2.1 p.2.2.2.2
def xh (l1:List Device)(b1:Bool)(l2:List Device)(i1:Int)(i2:Int):Option (((Bool)⊕(Bool))):=bZ vJ ((i1 - i2).toNat+2) (l1,b1,l2,i1,i2)
def aCf:kT (sC):=kO (kS 0 (kC (kF KA) (kC (aD.xs (aD.sc (aD.dY 71 [] []))) (kC kB (kC (kF KA) (kC kI (kC kI kN)))))) kN) (fun ((z0,_,z1,z2,z3,z4,_),_)=>(z0,z1,z2,z3,z4)) (fun (x:sC)=>((x.1,((),(x.2.1,(x.2.2.1,(x.2.2.2.1,(x.2.2.2.2,())))))),())) (fun _=>rfl)
def Lk:aM TL:=aM.two aCf.dec (fun p=>xh p.1 p.2.1 p.2.2.1 p.2.2.2.1 p.2.2.2.2) (.exit 0) .ret dZ.enc dZ.enc
theorem aDA:bM PR (bm Lk) TQ OW (bV (bC yT.body) 4):=lB (cs:=[(71,Ee)]) (ss:=[]) (E:=aX tab sl sh [] [(71,.pure)]) (an:=yT.an) (aY base aN (aC (oD Uk rfl) aN)) vJ (by kernel_rfl) (sB rfl UZ.keys (by kernel_rfl)) rfl rfl (fun x y h=>⟨_,h⟩) (fun _=>rfl) fun _=>by kernel_rfl
def xg (d1:aw)(d2:aw):Option Bool :=
 ob (nv d1.aI.a0 d2.aI.a0) fun r0 =>
 cond (!r0)
 (some false)
 (ob (nv d1.aI.a1 d2.aI.a1) fun r1 =>
 cond (!r1)
 (some false)
 (ob (nv d1.aI.a2 d2.aI.a2) fun r2 =>
 cond (!r2)
 (some false)
 (ob (ua d1.book d2.book) fun r3 =>
 cond (r3)
 (cond ((d1.log.length:Int) != (d2.log.length:Int))
 (some false)
 (ob (Ds d2.log false d1.log (d1.log.length:Int) 0) fun y4 =>
 two y4 (fun _ =>
 cond (([d1.dev.a0,d1.dev.a1,d1.dev.a2,d1.dev.a3,d1.dev.a4,d1.dev.a5].length:Int) != ([d2.dev.a0,d2.dev.a1,d2.dev.a2,d2.dev.a3,d2.dev.a4,d2.dev.a5].length:Int))
 (some false)
 (ob (xh [d2.dev.a0,d2.dev.a1,d2.dev.a2,d2.dev.a3,d2.dev.a4,d2.dev.a5] false [d1.dev.a0,d1.dev.a1,d1.dev.a2,d1.dev.a3,d1.dev.a4,d1.dev.a5] ([d1.dev.a0,d1.dev.a1,d1.dev.a2,d1.dev.a3,d1.dev.a4,d1.dev.a5].length:Int) 0) fun y7 =>
 two y7 (fun _ =>
 ob (lZ d1.lost d2.lost) fun r10 =>
 cond (r10)
 (some (d1.now == d2.now))
 (some false)) (fun b9 =>
 cond (b9)
 (ob (lZ d1.lost d2.lost) fun r11 =>
 cond (r11)
 (some (d1.now == d2.now))
 (some false))
 (some false)))) (fun b6 =>
 cond (b6)
 (cond (([d1.dev.a0,d1.dev.a1,d1.dev.a2,d1.dev.a3,d1.dev.a4,d1.dev.a5].length:Int) != ([d2.dev.a0,d2.dev.a1,d2.dev.a2,d2.dev.a3,d2.dev.a4,d2.dev.a5].length:Int))
 (some false)
 (ob (xh [d2.dev.a0,d2.dev.a1,d2.dev.a2,d2.dev.a3,d2.dev.a4,d2.dev.a5] false [d1.dev.a0,d1.dev.a1,d1.dev.a2,d1.dev.a3,d1.dev.a4,d1.dev.a5] ([d1.dev.a0,d1.dev.a1,d1.dev.a2,d1.dev.a3,d1.dev.a4,d1.dev.a5].length:Int) 0) fun y12 =>
 two y12 (fun _ =>
 ob (lZ d1.lost d2.lost) fun r15 =>
 cond (r15)
 (some (d1.now == d2.now))
 (some false)) (fun b14 =>
 cond (b14)
 (ob (lZ d1.lost d2.lost) fun r16 =>
 cond (r16)
 (some (d1.now == d2.now))
 (some false))
 (some false))))
 (some false))))
 (some false))))
def aCp (p:aw×aw):Option Bool:=xg p.1 p.2
def M8:aQ TL:=aQ.of (DA.cons (DT.agg kz) (DA.one (DT.agg kz))) aCp (DA.one dB)
theorem aCu:be PR 32 .pure M8:=bx (cs:=[(66,HX),(67,F6),(72,yo)]) (ss:=[(168004,LU),(170004,Lk)]) (E:=aX tab sl sh [(32,Ts),(68,yG),(70,yT)] [(66,.pure),(67,.pure),(72,.pure)]) (fun _=>by kernel_rfl) (aY base (aC (TR.ak rfl aN) (aC (Ti.ak rfl (aC (lC aCX rfl) aN)) (aC (UZ.ak rfl (aC (lC aDA rfl) aN)) aN))) (aC (oD YX rfl) (aC (oD WY rfl) (aC (oD FM rfl) aN)))) (.inr rfl) TR.enters
def Yi (s1:ByteArray)(b1:Bool)(i1:Int)(i2:Int):Option ((mO)⊕(((ByteArray×Bool)⊕(ByteArray×Bool)))) :=
 cond (decide (i2 < i1))
 (cond (decide (0≤i2))
 (cond (decide (i2 < (s1.size:Int)))
 (cond (decide (((s1[(i2:Int).toNat]?.getD 0).toNat:Int) < 32))
 (some (.inr (.inr (s1,false))))
 (cond (decide (0≤i2))
 (cond (decide (i2 < (s1.size:Int)))
 (cond (((s1[(i2:Int).toNat]?.getD 0).toNat:Int) == 127)
 (some (.inr (.inr (s1,false))))
 (some (.inl (s1,b1,i1,(aF (i2+1))))))
 none)
 none))
 none)
 none)
 (some (.inr (.inl (s1,b1))))
def IF (p:mO):Option ((mO)⊕(((ByteArray×Bool)⊕(ByteArray×Bool)))):=Yi p.1 p.2.1 p.2.2.1 p.2.2.2
def PZ (s1:ByteArray)(b1:Bool)(i1:Int)(i2:Int):Option (((ByteArray×Bool)⊕(ByteArray×Bool))):=bZ IF ((i1 - i2).toNat+2) (s1,b1,i1,i2)
def Kl:aM TL:=aM.two J9.dec (fun p=>PZ p.1 p.2.1 p.2.2.1 p.2.2.2) (.exit 0) .ret ug.enc ug.enc
theorem aCD:bM PR (bm Kl) RW Mj (bV (bC xQ.body) 2):=lB (cs:=[]) (ss:=[]) (E:=aX tab sl sh [] []) (an:=xQ.an) (aY base aN aN) IF (by kernel_rfl) (sB rfl EA.keys (by kernel_rfl)) rfl rfl (fun x y h=>⟨_,h⟩) (fun _=>rfl) fun _=>by kernel_rfl
def Hb (s1:ByteArray):Option Bool :=
 ob (PZ s1 false (s1.size:Int) 0) fun y0 =>
 two y0 (fun a1 =>
 some (decide ((a1.1.size:Int)≤40))) (fun b2 =>
 some b2.2)
def VS (p:ByteArray):Option Bool:=Hb p
def FC:aQ TL:=aQ.of (DA.one (DT.one DI.str)) VS (DA.one dB)
theorem VV:be PR 147 .pure FC:=bx (cs:=[]) (ss:=[(247002,Kl)]) (E:=aX tab sl sh [(147,xQ)] []) (fun _=>by kernel_rfl) (aY base (aC (EA.ak rfl (aC (lC aCD rfl) aN)) aN) aN) (.inr rfl) EA.enters
def IQ (c1:bP):Option Bool :=
 cond (!cA c1.key cr)
 (ob (Hb c1.key) fun r0 =>
 cond (r0)
 (ob (ib c1.bc 0 2) fun r1 =>
 some (cond r1 (cond (decide (c1.lo≥(-1099511627776))) (cond (decide (c1.lo≤c1.start)) (cond (decide (c1.start≤c1.hi)) (decide (c1.hi≤1099511627776)) false) false) false) false))
 (some false))
 (some false)
def Vs (p:bP):Option Bool:=IQ p
def FY:aQ TL:=aQ.of (DA.one (DT.agg IL)) Vs (DA.one dB)
theorem Vk:be PR 120 .pure FY:=bx (cs:=[(147,FC),(122,nK)]) (ss:=[]) (E:=aX tab sl sh [(120,Se)] [(147,.pure),(122,.pure)]) (fun _=>by kernel_rfl) (aY base (aC (Sa.ak rfl aN) aN) (aC (oD VV rfl) (aC (oD oy rfl) aN))) (.inr rfl) Sa.enters
abbrev rN:=Int×Int×(List bP)×Int×Int×aG×aG
def ZJ (i1:Int)(i2:Int)(l1:List bP)(i3:Int)(i4:Int)(bx1:aG)(bx2:aG):Option ((rN)⊕(((Int×Int×aG×aG)⊕(Int×Int×aG×aG×(List bP)×(List Range)×(List aH)×(List Int))))) :=
 cond (decide (i4 < i3))
 (cond (decide (0≤i4))
 (ob (l1[i4.toNat]?) fun e0 =>
 ob (IQ e0) fun r1 =>
 cond (!r1)
 (some (.inr (.inr (i1,1,(aG.mk [] [] [] []),bx2,bx1.af,bx1.free,bx1.aK,bx1.bB))))
 (ob (nP bx2 e0.key) fun r2 =>
 cond (decide (r2≥0))
 (some (.inr (.inr (i1,7,(aG.mk [] [] [] []),bx2,bx1.af,bx1.free,bx1.aK,bx1.bB))))
 (cond (fits ((bx2.af++[(bP.mk e0.key e0.bc e0.lo e0.hi e0.start (aF (e0.hi - e0.start)) (aF (e0.start - e0.lo)))]).length))
 (some (.inl (i1,i2,l1,i3,(aF (i4+1)),bx1,(aG.mk (bx2.af++[(bP.mk e0.key e0.bc e0.lo e0.hi e0.start (aF (e0.hi - e0.start)) (aF (e0.start - e0.lo)))]) bx2.free bx2.aK bx2.bB))))
 none)))
 none)
 (some (.inr (.inl (i1,i2,bx1,bx2))))
def JW (p:rN):Option ((rN)⊕(((Int×Int×aG×aG)⊕(Int×Int×aG×aG×(List bP)×(List Range)×(List aH)×(List Int))))):=ZJ p.1 p.2.1 p.2.2.1 p.2.2.2.1 p.2.2.2.2.1 p.2.2.2.2.2.1 p.2.2.2.2.2.2
def QZ (i1:Int)(i2:Int)(l1:List bP)(i3:Int)(i4:Int)(bx1:aG)(bx2:aG):Option (((Int×Int×aG×aG)⊕(Int×Int×aG×aG×(List bP)×(List Range)×(List aH)×(List Int)))):=bZ JW ((i3 - i4).toNat+2) (i1,i2,l1,i3,i4,bx1,bx2)
def aED:kT (rN):=kO (kS 10 (kC kI (kC (kP 0 0) (kC kI (kC (kP 1 0) (kC (kF cY) (kC kI (kC kI kN))))))) (kC (aD.var 0 29 (kC (kA 2) (kC (kA 3) (kC (kA 4) (kC (kA 5) kN))))) (kC (aD.var 1 29 (kC (kA 6) (kC (kA 7) (kC (kA 8) (kC (kA 9) kN))))) (kC (kR 2 65 cY) (kC (kR 3 153 aj) (kC (kR 4 43 ch) (kC (kR 5 3 bA) (kC (kR 6 65 cY) (kC (kR 7 153 aj) (kC (kR 8 43 ch) (kC (kR 9 3 bA) kN))))))))))) (fun p=>(p.1.1,p.1.2.2.1,p.1.2.2.2.2.1,p.1.2.2.2.2.2.1,p.1.2.2.2.2.2.2.1,(aG.mk p.2.2.2.1 p.2.2.2.2.1 p.2.2.2.2.2.1 p.2.2.2.2.2.2.1),(aG.mk p.2.2.2.2.2.2.2.1 p.2.2.2.2.2.2.2.2.1 (t8 p.2).1 (t8 p.2).2.1))) (fun (x:rN)=>((x.1,((),(x.2.1,((),(x.2.2.1,(x.2.2.2.1,(x.2.2.2.2.1,()))))))),(((),((),((),((),())))),(((),((),((),((),())))),(x.2.2.2.2.2.1.af,(x.2.2.2.2.2.1.free,(x.2.2.2.2.2.1.aK,(x.2.2.2.2.2.1.bB,(x.2.2.2.2.2.2.af,(x.2.2.2.2.2.2.free,(x.2.2.2.2.2.2.aK,(x.2.2.2.2.2.2.bB,())))))))))))) (fun _=>rfl)
def Km:kT (Int×Int×aG×aG):=kO (kS 20 (kC kI (kC (kP 0 0) (kC kI (kC (kP 1 0) kN)))) (kC (aD.var 0 29 (kC (kA 2) (kC (kA 3) (kC (kA 4) (kC (kA 5) kN))))) (kC (aD.var 1 29 (kC (kA 19) (kC (kA 7) (kC (kA 8) (kC (kA 9) kN))))) (kC (kR 2 65 cY) (kC (kR 3 153 aj) (kC (kR 4 43 ch) (kC (kR 5 3 bA) (kC (kR 7 153 aj) (kC (kR 8 43 ch) (kC (kR 9 3 bA) (kC (kR 19 65 cY) kN))))))))))) (fun p=>(p.1.1,p.1.2.2.1,(aG.mk p.2.2.2.1 p.2.2.2.2.1 p.2.2.2.2.2.1 p.2.2.2.2.2.2.1),(aG.mk (t8 p.2).2.1 p.2.2.2.2.2.2.2.1 p.2.2.2.2.2.2.2.2.1 (t8 p.2).1))) (fun (x:Int×Int×aG×aG)=>((x.1,((),(x.2.1,((),())))),(((),((),((),((),())))),(((),((),((),((),())))),(x.2.2.1.af,(x.2.2.1.free,(x.2.2.1.aK,(x.2.2.1.bB,(x.2.2.2.free,(x.2.2.2.aK,(x.2.2.2.bB,(x.2.2.2.af,())))))))))))) (fun _=>rfl)
def J6:kT (Int×Int×aG×aG×(List bP)×(List Range)×(List aH)×(List Int)):=kO (kS 24 (kC kI (kC (kP 0 0) (kC kI (kC (kP 1 0) kN)))) (kC (aD.var 0 29 (kC (kA 19) (kC (kA 20) (kC (kA 21) (kC (kA 22) kN))))) (kC (aD.var 1 29 (kC (kA 23) (kC (kA 7) (kC (kA 8) (kC (kA 9) kN))))) (kC (kR 2 65 cY) (kC (kR 3 153 aj) (kC (kR 4 43 ch) (kC (kR 5 3 bA) (kC (kR 7 153 aj) (kC (kR 8 43 ch) (kC (kR 9 3 bA) (kC (kR 19 65 cY) (kC (kR 20 153 aj) (kC (kR 21 43 ch) (kC (kR 22 3 bA) (kC (kR 23 65 cY) kN))))))))))))))) (fun p=>(p.1.1,p.1.2.2.1,(aG.mk (t8 p.2).2.1 (t8 p.2).2.2.1 (t8 p.2).2.2.2.1 (t8 p.2).2.2.2.2.1),(aG.mk (t8 p.2).2.2.2.2.2.1 p.2.2.2.2.2.2.2.1 p.2.2.2.2.2.2.2.2.1 (t8 p.2).1),p.2.2.2.1,p.2.2.2.2.1,p.2.2.2.2.2.1,p.2.2.2.2.2.2.1)) (fun (x:Int×Int×aG×aG×(List bP)×(List Range)×(List aH)×(List Int))=>((x.1,((),(x.2.1,((),())))),(((),((),((),((),())))),(((),((),((),((),())))),(x.2.2.2.2.1,(x.2.2.2.2.2.1,(x.2.2.2.2.2.2.1,(x.2.2.2.2.2.2.2,(x.2.2.2.1.free,(x.2.2.2.1.aK,(x.2.2.2.1.bB,(x.2.2.1.af,(x.2.2.1.free,(x.2.2.1.aK,(x.2.2.1.bB,(x.2.2.2.1.af,())))))))))))))))) (fun _=>rfl)
def My:aM TL:=aM.two aED.dec (fun p=>QZ p.1 p.2.1 p.2.2.1 p.2.2.2.1 p.2.2.2.2.1 p.2.2.2.2.2.1 p.2.2.2.2.2.2) (.exit 0) .ret Km.enc J6.enc
theorem aEH:bM PR (bm My) TS OO (bV (bC yH.body) 5):=lB (cs:=[(120,FY),(121,tF)]) (ss:=[]) (E:=aX tab sl sh [] [(120,.pure),(121,.pure)]) (an:=yH.an) (aY base aN (aC (oD Vk rfl) (aC (oD yb rfl) aN))) JW (by kernel_rfl) (sB rfl EN.keys (by kernel_rfl)) rfl rfl (fun x y h=>⟨_,h⟩) (fun _=>rfl) fun _=>by kernel_rfl
def Jr (l1:List bP)(i1:Int):Option (aG×Int) :=
 cond (decide ((l1.length:Int) > 4))
 (some ((aG.mk [] [] [] []),4))
 (ob (QZ i1 0 l1 (l1.length:Int) 0 (aG.mk [] [] [] []) (aG.mk [] [] [] [])) fun y0 =>
 two y0 (fun a1 =>
 ob (ib a1.1 0 1000) fun r3 =>
 cond (!r3)
 (some ((aG.mk [] [] [] []),1))
 (ob (n7 [] (Range.mk 0 a1.1)) fun r4 =>
 ob (gE (aG.mk a1.2.2.2.af r4 a1.2.2.2.aK a1.2.2.2.bB)) fun y5 =>
 some (y5,0))) (fun b2 =>
 some (b2.2.2.1,b2.2.1)))
def XE (p:(List bP)×Int):Option (aG×Int):=Jr p.1 p.2
def Fc:aQ TL:=aQ.of (DA.cons (DT.one nV) (DA.one dI)) XE (DA.cons (DT.agg fq) (DA.one dI))
theorem Wh:be PR 75 .keep Fc:=bx (cs:=[(122,nK),(123,ta)]) (ss:=[(124,nR),(175005,My)]) (E:=aX tab sl sh [(75,yH)] [(122,.pure),(123,.keep),(124,.sum)]) (fun _=>by kernel_rfl) (aY base (aC (EN.ak rfl (aC (lC aEH rfl) aN)) aN) (aC (oD oy rfl) (aC (oD yx rfl) (aC (eF rfl pD) aN)))) (.inl rfl) EN.enters
def ON (l1:List bP)(i1:Int):Option (aw×Int) :=
 ob (Jr l1 i1) fun r0 =>
 cond (r0.2 != 0)
 (some ((aw.mk (aG.mk [] [] [] []) (gQ.mk (ag.mk [] [] [] [] [] []) (ag.mk [] [] [] [] [] []) (ag.mk [] [] [] [] [] [])) [] (eP.mk (Device.mk 0 0 (aU.mk 0 0 (aH.mk 0 0 0 0 [] [] []))) (Device.mk 0 0 (aU.mk 0 0 (aH.mk 0 0 0 0 [] [] []))) (Device.mk 0 0 (aU.mk 0 0 (aH.mk 0 0 0 0 [] [] []))) (Device.mk 0 0 (aU.mk 0 0 (aH.mk 0 0 0 0 [] [] []))) (Device.mk 0 0 (aU.mk 0 0 (aH.mk 0 0 0 0 [] [] []))) (Device.mk 0 0 (aU.mk 0 0 (aH.mk 0 0 0 0 [] [] [])))) [] 0),r0.2))
 (some ((aw.mk r0.1 (gQ.mk (ag.mk [] [] [] [] [] []) (ag.mk [] [] [] [] [] []) (ag.mk [] [] [] [] [] [])) [] (eP.mk (Device.mk 0 0 (aU.mk 0 0 (aH.mk 0 0 0 0 [] [] []))) (Device.mk 0 0 (aU.mk 0 0 (aH.mk 0 0 0 0 [] [] []))) (Device.mk 0 0 (aU.mk 0 0 (aH.mk 0 0 0 0 [] [] []))) (Device.mk 0 0 (aU.mk 0 0 (aH.mk 0 0 0 0 [] [] []))) (Device.mk 0 0 (aU.mk 0 0 (aH.mk 0 0 0 0 [] [] []))) (Device.mk 0 0 (aU.mk 0 0 (aH.mk 0 0 0 0 [] [] [])))) [] 0),0))
def ZZ (p:(List bP)×Int):Option (aw×Int):=ON p.1 p.2
def If:aQ TL:=aQ.of (DA.cons (DT.one nV) (DA.one dI)) ZZ (DA.cons (DT.agg kz) (DA.one dI))
theorem Yw:be PR 36 .keep If:=bx (cs:=[(75,Fc)]) (ss:=[]) (E:=aX tab sl sh [(36,T4)] [(75,.keep)]) (fun _=>by kernel_rfl) (aY base (aC (TD.ak rfl aN) aN) (aC (oD Wh rfl) aN)) (.inl rfl) TD.enters
def known  : Option Bool :=
 ob (ON [] 5) fun r0 =>
 ob (qV r0.1 (cH.mk 1 2 0 1 0 [] [])) fun r1 =>
 some (cond (r0.2 == 0) (cond (r1.2.err == 0) (cond (r1.2.n == 1) (cond (r1.1.dev.a2.aA == 1) (r1.1.dev.a2.aO == 1) false) false) false) false)
def aCw (_:Unit):Option Bool:=known
def M3:aQ TL:=aQ.of (DA.nil) aCw (DA.one dB)
theorem aDI:be PR 15 .pure M3:=bx (cs:=[(36,If),(18,BD)]) (ss:=[]) (E:=aX tab sl sh [(15,Sn)] [(36,.keep),(18,.keep)]) (fun _=>by kernel_rfl) (aY base (aC (UU.ak rfl aN) aN) (aC (oD Yw rfl) (aC (oD Jo rfl) aN))) (.inr rfl) UU.enters
def within (i1:Int)(i2:Int):Option Int :=
 cond (decide (i2=0))
 none
 (some (cond (decide ((i1.tmod i2) < 0)) (aF ((i1.tmod i2)+i2)) (i1.tmod i2)))
def aBC (p:Int×Int):Option Int:=within p.1 p.2
def uy:aQ TL:=aQ.of (DA.cons dI (DA.one dI)) aBC (DA.one dI)
theorem B5:be PR 16 .pure uy:=bx (cs:=[]) (ss:=[]) (E:=aX tab sl sh [(16,Sw)] []) (fun _=>by kernel_rfl) (aY base (aC (UW.ak rfl aN) aN) aN) (.inr rfl) UW.enters
def DO (o1:Op):Option Bool :=
 some (cond (decide ((o1.key.size:Int)≤60)) (cond (decide ((o1.text.size:Int)≤60)) (decide ((o1.cz.length:Int)≤12)) false) false)
def aCc (p:Op):Option Bool:=DO p
def Mb:aQ TL:=aQ.of (DA.one (DT.agg jW)) aCc (DA.one dB)
theorem aEC:be PR 49 .pure Mb:=bx (cs:=[]) (ss:=[]) (E:=aX tab sl sh [(49,UC)] []) (fun _=>by kernel_rfl) (aY base (aC (TZ.ak rfl aN) aN) aN) (.inr rfl) TZ.enters
abbrev mQ:=(List Act)×Bool×Int×Int
def Im (l1:List Act)(b1:Bool)(i1:Int)(i2:Int):Option ((mQ)⊕((((List Act)×Bool×Int)⊕((List Act)×Bool×Int)))) :=
 cond (decide (0≤i1))
 (ob (l1[i1.toNat]?) fun e0 =>
 cond (decide (i2 < (e0.ops.length:Int)))
 (cond (decide (0≤i1))
 (ob (l1[i1.toNat]?) fun e1 =>
 cond (decide (0≤i2))
 (ob (e1.ops[i2.toNat]?) fun e2 =>
 ob (DO e2) fun r3 =>
 cond (!r3)
 (some (.inr (.inr (l1,false,i1))))
 (some (.inl (l1,b1,i1,(aF (i2+1))))))
 none)
 none)
 (some (.inr (.inl (l1,b1,i1)))))
 none
def BH (p:mQ):Option ((mQ)⊕((((List Act)×Bool×Int)⊕((List Act)×Bool×Int)))):=Im p.1 p.2.1 p.2.2.1 p.2.2.2
def D2 (l1:List Act)(b1:Bool)(i1:Int)(i2:Int):Option ((((List Act)×Bool×Int)⊕((List Act)×Bool×Int))):=bZ BH (1099511627776) (l1,b1,i1,i2)
def L4:kT (mQ):=kO (kS 0 (kC (kF oN) (kC kB (kC kI (kC kI kN)))) kN) (fun ((z0,z1,z2,z3,_),_)=>(z0,z1,z2,z3)) (fun (x:mQ)=>((x.1,(x.2.1,(x.2.2.1,(x.2.2.2,())))),())) (fun _=>rfl)
def pe:kT ((List Act)×Bool×Int):=kO (kS 0 (kC (kF oN) (kC kB (kC kI kN))) kN) (fun p=>(p.1.1,p.1.2.1,p.1.2.2.1)) (fun (x:(List Act)×Bool×Int)=>((x.1,(x.2.1,(x.2.2,()))),())) (fun _=>rfl)
def Bk:aM TL:=aM.two L4.dec (fun p=>D2 p.1 p.2.1 p.2.2.1 p.2.2.2) (.exit 2) .ret pe.enc pe.enc
theorem MV:bM PR (bm Bk) xq Nc (bV (bC mK.body) 7):=lB (cs:=[(49,Mb)]) (ss:=[]) (E:=aX tab sl sh [] [(49,.pure)]) (an:=mK.an) (aY base aN (aC (oD aEC rfl) aN)) BH (by kernel_rfl) (ae.du rfl ry.keys (aC (.inl (by kernel_rfl)) (aC (.inl (by kernel_rfl)) (aC (.inl (by kernel_rfl)) aN)))) rfl rfl (fun x y h=>⟨_,h⟩) (fun _=>rfl) fun _=>by kernel_rfl
def Gn (l1:List Act)(b1:Bool)(i1:Int)(i2:Int):Option ((mQ)⊕((((List Act)×Bool×Int)⊕((List Act)×Bool×Int)))) :=
 cond (decide (0≤i1))
 (ob (l1[i1.toNat]?) fun e0 =>
 cond (decide (i2 < (e0.cj.length:Int)))
 (cond (decide (0≤i1))
 (ob (l1[i1.toNat]?) fun e1 =>
 cond (decide (0≤i2))
 (ob (e1.cj[i2.toNat]?) fun e2 =>
 cond (decide ((e2.key.size:Int) > 60))
 (some (.inr (.inr (l1,false,i1))))
 (some (.inl (l1,b1,i1,(aF (i2+1))))))
 none)
 none)
 (some (.inr (.inl (l1,b1,i1)))))
 none
def AZ (p:mQ):Option ((mQ)⊕((((List Act)×Bool×Int)⊕((List Act)×Bool×Int)))):=Gn p.1 p.2.1 p.2.2.1 p.2.2.2
def Cv (l1:List Act)(b1:Bool)(i1:Int)(i2:Int):Option ((((List Act)×Bool×Int)⊕((List Act)×Bool×Int))):=bZ AZ (1099511627776) (l1,b1,i1,i2)
def Aq:aM TL:=aM.two L4.dec (fun p=>Cv p.1 p.2.1 p.2.2.1 p.2.2.2) (.exit 4) .ret pe.enc pe.enc
theorem JL:bM PR (bm Aq) xq L3 (bV (bC mK.body) 12):=lB (cs:=[]) (ss:=[]) (E:=aX tab sl sh [] []) (an:=mK.an) (aY base aN aN) AZ (by kernel_rfl) (ae.du rfl ry.keys (aC (.inl (by kernel_rfl)) (aC (.inl (by kernel_rfl)) (aC (.inl (by kernel_rfl)) aN)))) rfl rfl (fun x y h=>⟨_,h⟩) (fun _=>rfl) fun _=>by kernel_rfl
def IB (l1:List Act)(b1:Bool)(i1:Int):Option (((List Act)×Bool×Int)⊕((((List Act)×Bool)⊕((List Act)×Bool)))) :=
 cond (decide (i1 < (l1.length:Int)))
 (cond (decide (0≤i1))
 (ob (l1[i1.toNat]?) fun e0 =>
 cond (decide ((e0.cj.length:Int) > 8))
 (some (.inr (.inr (l1,false))))
 (cond (decide (0≤i1))
 (ob (l1[i1.toNat]?) fun e1 =>
 cond (decide ((e1.ops.length:Int) > 22))
 (some (.inr (.inr (l1,false))))
 (ob (D2 l1 b1 i1 0) fun y2 =>
 two y2 (fun a3 =>
 ob (Cv a3.1 a3.2.1 a3.2.2 0) fun y5 =>
 two y5 (fun a6 =>
 some (.inl (a6.1,a6.2.1,(aF (a6.2.2+1))))) (fun b7 =>
 some (.inr (.inr (b7.1,b7.2.1))))) (fun b4 =>
 some (.inr (.inr (b4.1,b4.2.1))))))
 none))
 none)
 (some (.inr (.inl (l1,b1))))
def BT (p:(List Act)×Bool×Int):Option (((List Act)×Bool×Int)⊕((((List Act)×Bool)⊕((List Act)×Bool)))):=IB p.1 p.2.1 p.2.2
def Dl (l1:List Act)(b1:Bool)(i1:Int):Option ((((List Act)×Bool)⊕((List Act)×Bool))):=bZ BT (((l1.length:Int) - i1).toNat+2) (l1,b1,i1)
def K2:kT ((List Act)×Bool):=kO (kS 0 (kC (kF oN) (kC kB kN)) kN) (fun p=>(p.1.1,p.1.2.1)) (fun (x:(List Act)×Bool)=>((x.1,(x.2,())),())) (fun _=>rfl)
def Mu:aM TL:=aM.two pe.dec (fun p=>Dl p.1 p.2.1 p.2.2) (.exit 0) .ret K2.enc K2.enc
theorem aCr:bM PR (bm Mu) xq Nk (bV (bC mK.body) 2):=lB (cs:=[]) (ss:=[(122007,Bk),(122012,Aq)]) (E:=aX tab sl sh [] []) (an:=mK.an) (aY base aN aN) BT (by kernel_rfl) (ae.du rfl ry.keys (aC (.inl (by kernel_rfl)) (aC (.inr (lC MV rfl)) (aC (.inr (lC JL rfl)) aN)))) rfl rfl (fun x y h=>⟨_,h⟩) (fun _=>rfl) fun _=>by kernel_rfl
def w6 (l1:List Act):Option Bool :=
 ob (Dl l1 false 0) fun y0 =>
 two y0 (fun a1 =>
 some (decide ((a1.1.length:Int)≤60))) (fun b2 =>
 some b2.2)
def aBX (p:(List Act)):Option Bool:=w6 p
def Ju:aQ TL:=aQ.of (DA.one (DT.one qC)) aBX (DA.one dB)
theorem aAm:be PR 22 .pure Ju:=bx (cs:=[]) (ss:=[(122002,Mu),(122007,Bk),(122012,Aq)]) (E:=aX tab sl sh [(22,mK)] []) (fun _=>by kernel_rfl) (aY base (aC (ry.ak rfl (aC (lC aCr rfl) (aC (lC MV rfl) (aC (lC JL rfl) aN)))) aN) aN) (.inr rfl) ry.enters
abbrev rK:=(List Range)×(List Range)×(List Range)×Int×Range
def YP (l1:List Range)(l2:List Range)(l3:List Range)(i1:Int)(rx1:Range):Option ((rK)⊕((List Range)×(List Range)×Range)) :=
 cond (decide (i1 < (l1.length:Int)))
 (cond (decide (0≤i1))
 (ob (l1[i1.toNat]?) fun e0 =>
 cond (decide (e0.bU < rx1.from_))
 (cond (decide (0≤i1))
 (ob (l1[i1.toNat]?) fun e1 =>
 cond (fits ((l2++[e1]).length))
 (some (.inl (l1,(l2++[e1]),l3,(aF (i1+1)),rx1)))
 none)
 none)
 (cond (decide (0≤i1))
 (ob (l1[i1.toNat]?) fun e2 =>
 cond (decide (e2.from_ > rx1.bU))
 (cond (decide (0≤i1))
 (ob (l1[i1.toNat]?) fun e3 =>
 cond (fits ((l3++[e3]).length))
 (some (.inl (l1,l2,(l3++[e3]),(aF (i1+1)),rx1)))
 none)
 none)
 (cond (decide (0≤i1))
 (ob (l1[i1.toNat]?) fun e4 =>
 cond (decide (0≤i1))
 (ob (l1[i1.toNat]?) fun e5 =>
 some (.inl (l1,l2,l3,(aF (i1+1)),(Range.mk (min2 rx1.from_ e4.from_) (max2 rx1.bU e5.bU)))))
 none)
 none))
 none))
 none)
 (some (.inr (l2,l3,rx1)))
def Hy (p:rK):Option ((rK)⊕((List Range)×(List Range)×Range)):=YP p.1 p.2.1 p.2.2.1 p.2.2.2.1 p.2.2.2.2
def PO (l1:List Range)(l2:List Range)(l3:List Range)(i1:Int)(rx1:Range):Option ((List Range)×(List Range)×Range):=bZ Hy (((l1.length:Int) - i1).toNat+2) (l1,l2,l3,i1,rx1)
def aBo:kT (rK):=kO (kS 3 (kC (kF aj) (kC (kP 0 0) (kC (aD.xs (aD.sc (kA 1))) (kC (aD.xs (aD.sc (kA 2))) (kC kI kN))))) (kC (aD.var 0 153 (kC kJ (kC kJ kN))) (kC (kR 1 153 aj) (kC (kR 2 153 aj) kN)))) (fun p=>(p.1.1,p.2.2.1,p.2.2.2.1,p.1.2.2.2.2.1,(Range.mk p.2.1.1 p.2.1.2.1))) (fun (x:rK)=>((x.1,((),((),((),(x.2.2.2.1,()))))),((x.2.2.2.2.from_,(x.2.2.2.2.bU,())),(x.2.1,(x.2.2.1,()))))) (fun _=>rfl)
def Zz:kT ((List Range)×(List Range)×Range):=kO (kS 6 (kC (kP 0 0) (kC (aD.xs (aD.sc (kA 4))) (kC (aD.xs (aD.sc (kA 5))) kN))) (kC (aD.var 0 153 (kC kJ (kC kJ kN))) (kC (kR 4 153 aj) (kC (kR 5 153 aj) kN)))) (fun p=>(p.2.2.1,p.2.2.2.1,(Range.mk p.2.1.1 p.2.1.2.1))) (fun (x:(List Range)×(List Range)×Range)=>(((),((),((),()))),((x.2.2.from_,(x.2.2.bU,())),(x.1,(x.2.1,()))))) (fun _=>rfl)
def Kt:aM TL:=aM.one aBo.dec (fun p=>PO p.1 p.2.1 p.2.2.1 p.2.2.2.1 p.2.2.2.2) (.exit 0) Zz.enc
theorem aBj:bM PR (bm Kt) Rn L5 (bV (bC xX.body) 5):=lA (cs:=[]) (ss:=[]) (E:=aX tab sl sh [] []) (an:=xX.an) (aY base aN aN) Hy (by kernel_rfl) (sB rfl Di.keys (by kernel_rfl)) rfl (fun x y h=>⟨_,h⟩) (fun _=>rfl) fun _=>by kernel_rfl
def MR (l1:List Range)(rx1:Range):Option ((List Range)) :=
 cond (cond (decide (rx1.from_ < 0)) true (cond (decide (rx1.from_≥rx1.bU)) true (decide (rx1.bU > 1073741824))))
 (cond (fits (([]++l1).length))
 (some ([]++l1))
 none)
 (ob (PO l1 [] [] 0 rx1) fun y0 =>
 cond (fits ((y0.1++[y0.2.2]).length))
 (cond (fits (((y0.1++[y0.2.2])++y0.2.1).length))
 (some ((y0.1++[y0.2.2])++y0.2.1))
 none)
 none)
def Xj (p:(List Range)×Range):Option ((List Range)):=MR p.1 p.2
def GZ:aQ TL:=aQ.of (DA.cons (DT.one ev) (DA.one (DT.agg Mq))) Xj (DA.one (DT.one ev))
theorem Xb:be PR 125 .keep GZ:=bx (cs:=[]) (ss:=[(225005,Kt)]) (E:=aX tab sl sh [(125,xX)] []) (fun _=>by kernel_rfl) (aY base (aC (Di.ak rfl (aC (lC aBj rfl) aN)) aN) aN) (.inl rfl) Di.enters
def I6 (s1:ByteArray)(b1:Bool)(i1:Int):Option ((ByteArray×Bool×Int)⊕(((Bool)⊕(Bool)))) :=
 cond (decide (i1 < (s1.size:Int)))
 (cond (decide (0≤i1))
 (cond (decide (i1 < (s1.size:Int)))
 (cond (decide (((s1[(i1:Int).toNat]?.getD 0).toNat:Int) < 32))
 (some (.inr (.inr false)))
 (cond (decide (0≤i1))
 (cond (decide (i1 < (s1.size:Int)))
 (cond (((s1[(i1:Int).toNat]?.getD 0).toNat:Int) == 127)
 (some (.inr (.inr false)))
 (some (.inl (s1,b1,(aF (i1+1))))))
 none)
 none))
 none)
 none)
 (some (.inr (.inl b1)))
def Ba (p:ByteArray×Bool×Int):Option ((ByteArray×Bool×Int)⊕(((Bool)⊕(Bool)))):=I6 p.1 p.2.1 p.2.2
def Q2 (s1:ByteArray)(b1:Bool)(i1:Int):Option (((Bool)⊕(Bool))):=bZ Ba (((s1.size:Int) - i1).toNat+2) (s1,b1,i1)
def aDE:kT (ByteArray×Bool×Int):=kO (kS 0 (kC (aD.xs (aD.sc kE)) (kC kB (kC kI kN))) kN) (fun p=>(p.1.1,p.1.2.1,p.1.2.2.1)) (fun (x:ByteArray×Bool×Int)=>((x.1,(x.2.1,(x.2.2,()))),())) (fun _=>rfl)
def MH:aM TL:=aM.two aDE.dec (fun p=>Q2 p.1 p.2.1 p.2.2) (.exit 0) .ret dZ.enc dZ.enc
theorem aDO:bM PR (bm MH) Tj N3 (bV (bC yA.body) 4):=lB (cs:=[]) (ss:=[]) (E:=aX tab sl sh [] []) (an:=yA.an) (aY base aN aN) Ba (by kernel_rfl) (sB rfl EV.keys (by kernel_rfl)) rfl rfl (fun x y h=>⟨_,h⟩) (fun _=>rfl) fun _=>by kernel_rfl
def nl (s1:ByteArray):Option Bool :=
 cond (decide ((s1.size:Int) > 40))
 (some false)
 (ob (Q2 s1 false 0) fun y0 =>
 two y0 (fun _ =>
 some true) (fun b2 =>
 some b2))
def Xl (p:ByteArray):Option Bool:=nl p
def zQ:aQ TL:=aQ.of (DA.one (DT.one DI.str)) Xl (DA.one dB)
theorem G6:be PR 73 .pure zQ:=bx (cs:=[]) (ss:=[(173004,MH)]) (E:=aX tab sl sh [(73,yA)] []) (fun _=>by kernel_rfl) (aY base (aC (EV.ak rfl (aC (lC aDO rfl) aN)) aN) aN) (.inr rfl) EV.enters
def tP (c1:bP):Option Bool :=
 cond (!cA c1.key cr)
 (ob (nl c1.key) fun r0 =>
 some (cond r0 (cond (decide (c1.bc≥0)) (cond (decide (c1.bc < 3)) (cond (decide ((-1099511627776)≤c1.lo)) (cond (decide (c1.lo≤c1.start)) (cond (decide (c1.start≤c1.hi)) (decide (c1.hi≤1099511627776)) false) false) false) false) false) false))
 (some false)
def VC (p:bP):Option Bool:=tP p
def yc:aQ TL:=aQ.of (DA.one (DT.agg IL)) VC (DA.one dB)
theorem Ek:be PR 43 .pure yc:=bx (cs:=[(73,zQ)]) (ss:=[]) (E:=aX tab sl sh [(43,UL)] [(73,.pure)]) (fun _=>by kernel_rfl) (aY base (aC (UT.ak rfl aN) aN) (aC (oD G6 rfl) aN)) (.inr rfl) UT.enters
abbrev sU:=ByteArray×Int×Int×aG
def Zl (s1:ByteArray)(i1:Int)(i2:Int)(bx1:aG):Option ((sU)⊕(((Int×aG)⊕(Int×aG)))) :=
 cond (decide (i2 < (bx1.af.length:Int)))
 (cond (decide (0≤i2))
 (ob (bx1.af[i2.toNat]?) fun e0 =>
 cond (cA e0.key s1)
 (some (.inr (.inr (i2,bx1))))
 (some (.inl (s1,i1,(aF (i2+1)),bx1))))
 none)
 (some (.inr (.inl (i1,bx1))))
def Kr (p:sU):Option ((sU)⊕(((Int×aG)⊕(Int×aG)))):=Zl p.1 p.2.1 p.2.2.1 p.2.2.2
def Rh (s1:ByteArray)(i1:Int)(i2:Int)(bx1:aG):Option (((Int×aG)⊕(Int×aG))):=bZ Kr (1099511627776) (s1,i1,i2,bx1)
def aD3:kT (sU):=kO (kS 1 (kC (aD.xs (aD.sc kE)) (kC (kP 0 0) (kC kI (kC kI kN)))) (kC (aD.var 0 29 fX) kN)) (fun p=>(p.1.1,p.1.2.2.1,p.1.2.2.2.1,p.2.1)) (fun (x:sU)=>((x.1,((),(x.2.1,(x.2.2.1,())))),(x.2.2.2,()))) (fun _=>rfl)
def ux:kT (Int×aG):=kO (kS 2 (kC kI kN) (kC (aD.var 0 29 fX) kN)) (fun p=>(p.1.1,p.2.1)) (fun (x:Int×aG)=>((x.1,()),(x.2,()))) (fun _=>rfl)
def Mi:aM TL:=aM.two aD3.dec (fun p=>Rh p.1 p.2.1 p.2.2.1 p.2.2.2) (.exit 0) .ret ux.enc ux.enc
theorem aD9:bM PR (bm Mi) Te N5 (bV (bC yE.body) 2):=lB (cs:=[]) (ss:=[]) (E:=aX tab sl sh [] []) (an:=yE.an) (aY base aN aN) Kr (by kernel_rfl) (sB rfl EK.keys (by kernel_rfl)) rfl rfl (fun x y h=>⟨_,h⟩) (fun _=>rfl) fun _=>by kernel_rfl
def kj (bx1:aG)(s1:ByteArray):Option Int :=
 ob (Rh s1 0 0 bx1) fun y0 =>
 two y0 (fun _ =>
 some (-1)) (fun b2 =>
 some b2.1)
def V4 (p:aG×ByteArray):Option Int:=kj p.1 p.2
def pC:aQ TL:=aQ.of (DA.cons (DT.agg fq) (DA.one (DT.one DI.str))) V4 (DA.one dI)
theorem tL:be PR 44 .pure pC:=bx (cs:=[]) (ss:=[(144002,Mi)]) (E:=aX tab sl sh [(44,yE)] []) (fun _=>by kernel_rfl) (aY base (aC (EK.ak rfl (aC (lC aD9 rfl) aN)) aN) aN) (.inr rfl) EK.enters
abbrev sW:=(List bP)×Int×Int×Int×aG×aG
def Z4 (l1:List bP)(i1:Int)(i2:Int)(i3:Int)(bx1:aG)(bx2:aG):Option ((sW)⊕(((Int×Int×aG×aG)⊕(Int×Int×aG×aG×(List bP)×(List Range)×(List aH)×(List Int))))) :=
 cond (decide (i3 < (l1.length:Int)))
 (cond (decide (0≤i3))
 (ob (l1[i3.toNat]?) fun e0 =>
 ob (tP e0) fun r1 =>
 cond (!r1)
 (some (.inr (.inr (i1,1,(aG.mk [] [] [] []),bx2,bx1.af,bx1.free,bx1.aK,bx1.bB))))
 (cond (decide (0≤i3))
 (ob (l1[i3.toNat]?) fun e2 =>
 ob (kj bx2 e2.key) fun r3 =>
 cond (decide (r3≥0))
 (some (.inr (.inr (i1,7,(aG.mk [] [] [] []),bx2,bx1.af,bx1.free,bx1.aK,bx1.bB))))
 (cond (decide (0≤i3))
 (ob (l1[i3.toNat]?) fun e4 =>
 cond (fits ((bx2.af++[(bP.mk e4.key e4.bc e4.lo e4.hi e4.start (aF (e4.hi - e4.start)) (aF (e4.start - e4.lo)))]).length))
 (some (.inl (l1,i1,i2,(aF (i3+1)),bx1,(aG.mk (bx2.af++[(bP.mk e4.key e4.bc e4.lo e4.hi e4.start (aF (e4.hi - e4.start)) (aF (e4.start - e4.lo)))]) bx2.free bx2.aK bx2.bB))))
 none)
 none))
 none))
 none)
 (some (.inr (.inl (i1,i2,bx1,bx2))))
def K4 (p:sW):Option ((sW)⊕(((Int×Int×aG×aG)⊕(Int×Int×aG×aG×(List bP)×(List Range)×(List aH)×(List Int))))):=Z4 p.1 p.2.1 p.2.2.1 p.2.2.2.1 p.2.2.2.2.1 p.2.2.2.2.2
def Qt (l1:List bP)(i1:Int)(i2:Int)(i3:Int)(bx1:aG)(bx2:aG):Option (((Int×Int×aG×aG)⊕(Int×Int×aG×aG×(List bP)×(List Range)×(List aH)×(List Int)))):=bZ K4 (((l1.length:Int) - i3).toNat+2) (l1,i1,i2,i3,bx1,bx2)
def aDM:kT (sW):=kO (kS 10 (kC (kF cY) (kC kI (kC (kP 0 0) (kC kI (kC (kP 1 0) (kC kI kN)))))) (kC (aD.var 0 29 (kC (kA 2) (kC (kA 3) (kC (kA 4) (kC (kA 5) kN))))) (kC (aD.var 1 29 (kC (kA 6) (kC (kA 7) (kC (kA 8) (kC (kA 9) kN))))) (kC (kR 2 65 cY) (kC (kR 3 153 aj) (kC (kR 4 43 ch) (kC (kR 5 3 bA) (kC (kR 6 65 cY) (kC (kR 7 153 aj) (kC (kR 8 43 ch) (kC (kR 9 3 bA) kN))))))))))) (fun p=>(p.1.1,p.1.2.1,p.1.2.2.2.1,p.1.2.2.2.2.2.1,(aG.mk p.2.2.2.1 p.2.2.2.2.1 p.2.2.2.2.2.1 p.2.2.2.2.2.2.1),(aG.mk p.2.2.2.2.2.2.2.1 p.2.2.2.2.2.2.2.2.1 (t8 p.2).1 (t8 p.2).2.1))) (fun (x:sW)=>((x.1,(x.2.1,((),(x.2.2.1,((),(x.2.2.2.1,())))))),(((),((),((),((),())))),(((),((),((),((),())))),(x.2.2.2.2.1.af,(x.2.2.2.2.1.free,(x.2.2.2.2.1.aK,(x.2.2.2.2.1.bB,(x.2.2.2.2.2.af,(x.2.2.2.2.2.free,(x.2.2.2.2.2.aK,(x.2.2.2.2.2.bB,())))))))))))) (fun _=>rfl)
def ND:aM TL:=aM.two aDM.dec (fun p=>Qt p.1 p.2.1 p.2.2.1 p.2.2.2.1 p.2.2.2.2.1 p.2.2.2.2.2) (.exit 0) .ret Km.enc J6.enc
theorem aD0:bM PR (bm ND) Tb O7 (bV (bC xr.body) 5):=lB (cs:=[(43,yc),(44,pC)]) (ss:=[]) (E:=aX tab sl sh [] [(43,.pure),(44,.pure)]) (an:=xr.an) (aY base aN (aC (oD Ek rfl) (aC (oD tL rfl) aN))) K4 (by kernel_rfl) (sB rfl E0.keys (by kernel_rfl)) rfl rfl (fun x y h=>⟨_,h⟩) (fun _=>rfl) fun _=>by kernel_rfl
def NE (l1:List bP)(i1:Int):Option (aG×Int) :=
 cond (decide ((l1.length:Int) > 4))
 (some ((aG.mk [] [] [] []),4))
 (ob (Qt l1 i1 0 0 (aG.mk [] [] [] []) (aG.mk [] [] [] [])) fun y0 =>
 two y0 (fun a1 =>
 cond (cond (decide (a1.1 < 0)) true (decide (a1.1 > 1000)))
 (some ((aG.mk [] [] [] []),1))
 (ob (MR [] (Range.mk 0 a1.1)) fun r3 =>
 some ((aG.mk a1.2.2.2.af r3 a1.2.2.2.aK a1.2.2.2.bB),0))) (fun b2 =>
 some (b2.2.2.1,b2.2.1)))
def Xn (p:(List bP)×Int):Option (aG×Int):=NE p.1 p.2
def HQ:aQ TL:=aQ.of (DA.cons (DT.one nV) (DA.one dI)) Xn (DA.cons (DT.agg fq) (DA.one dI))
theorem Yg:be PR 76 .keep HQ:=bx (cs:=[(125,GZ)]) (ss:=[(176005,ND)]) (E:=aX tab sl sh [(76,xr)] [(125,.keep)]) (fun _=>by kernel_rfl) (aY base (aC (E0.ak rfl (aC (lC aD0 rfl) aN)) aN) (aC (oD Xb rfl) aN)) (.inl rfl) E0.enters
def NI  : Option aG :=
 ob (NE [(bP.mk cV 0 0 20 10 0 0),(bP.mk cX 1 (-30) 30 0 0 0)] 40) fun r0 =>
 some r0.1
def YV (_:Unit):Option aG:=NI
def Gc:aQ TL:=aQ.of (DA.nil) YV (DA.one (DT.agg fq))
theorem YA:be PR 37 .keep Gc:=bx (cs:=[(76,HQ)]) (ss:=[]) (E:=aX tab sl sh [(37,UB)] [(76,.keep)]) (fun _=>by kernel_rfl) (aY base (aC (UY.ak rfl aN) aN) (aC (oD Yg rfl) aN)) (.inl rfl) UY.enters
def Bj  : Option aw :=
 ob (NI) fun r0 =>
 some (aw.mk r0 (gQ.mk (ag.mk [] [] [] [] [] []) (ag.mk [] [] [] [] [] []) (ag.mk [] [] [] [] [] [])) [] (eP.mk (Device.mk 0 0 (aU.mk 0 0 (aH.mk 0 0 0 0 [] [] []))) (Device.mk 0 0 (aU.mk 0 0 (aH.mk 0 0 0 0 [] [] []))) (Device.mk 0 0 (aU.mk 0 0 (aH.mk 0 0 0 0 [] [] []))) (Device.mk 0 0 (aU.mk 0 0 (aH.mk 0 0 0 0 [] [] []))) (Device.mk 0 0 (aU.mk 0 0 (aH.mk 0 0 0 0 [] [] []))) (Device.mk 0 0 (aU.mk 0 0 (aH.mk 0 0 0 0 [] [] [])))) [] 0)
def YC (_:Unit):Option aw:=Bj
def Gl:aQ TL:=aQ.of (DA.nil) YC (DA.one (DT.agg kz))
theorem Yb:be PR 17 .keep Gl:=bx (cs:=[(37,Gc)]) (ss:=[]) (E:=aX tab sl sh [(17,T2)] [(37,.keep)]) (fun _=>by kernel_rfl) (aY base (aC (TJ.ak rfl aN) aN) (aC (oD YA rfl) aN)) (.inl rfl) TJ.enters
def pP (i1:Int)(i2:Int):Option Int :=
 cond (decide (i2=0))
 none
 (some (cond (decide ((i1.tmod i2) < 0)) (aF ((i1.tmod i2)+i2)) (i1.tmod i2)))
def Vn (p:Int×Int):Option Int:=pP p.1 p.2
def F4:aQ TL:=aQ.of (DA.cons dI (DA.one dI)) Vn (DA.one dI)
theorem WQ:be PR 96 .pure F4:=bx (cs:=[]) (ss:=[]) (E:=aX tab sl sh [(96,TN)] []) (fun _=>by kernel_rfl) (aY base (aC (UA.ak rfl aN) aN) aN) (.inr rfl) UA.enters
abbrev rG:=(List Want)×(List Want)×Int
def IM (l1:List Want)(l2:List Want)(i1:Int):Option ((rG)⊕((List Want))) :=
 cond (cond (decide (i1 < (l1.length:Int))) (decide (i1 < 3)) false)
 (cond (decide (0≤i1))
 (cond (decide (i1 < ([cV,cX,cr].length:Int)))
 (ob ([cV,cX,cr][i1.toNat]?) fun e0 =>
 cond (decide (0≤i1))
 (ob (l1[i1.toNat]?) fun e1 =>
 ob (pP e1.bj 7) fun r2 =>
 cond (decide (0≤i1))
 (ob (l1[i1.toNat]?) fun e3 =>
 ob (pP e3.cE 7) fun r4 =>
 cond (decide (0≤i1))
 (ob (l1[i1.toNat]?) fun e5 =>
 ob (pP e5.ids 7) fun r6 =>
 cond (i1 == 2)
 (cond (fits ((l2++[(Want.mk e0 0 0 r6)]).length))
 (some (.inl (l1,(l2++[(Want.mk e0 0 0 r6)]),(aF (i1+1)))))
 none)
 (cond (fits ((l2++[(Want.mk e0 r2 r4 r6)]).length))
 (some (.inl (l1,(l2++[(Want.mk e0 r2 r4 r6)]),(aF (i1+1)))))
 none))
 none)
 none)
 none)
 none)
 none)
 (some (.inr l2))
def At (p:rG):Option ((rG)⊕((List Want))):=IM p.1 p.2.1 p.2.2
def Qh (l1:List Want)(l2:List Want)(i1:Int):Option ((List Want)):=bZ At (((l1.length:Int) - i1).toNat+2) (l1,l2,i1)
def aEM:kT (rG):=kO (kS 1 (kC (kF gL) (kC (aD.xs (aD.sc (kA 0))) (kC kI kN))) (kC (kR 0 105 gL) kN)) (fun p=>(p.1.1,p.2.1,p.1.2.2.1)) (fun (x:rG)=>((x.1,((),(x.2.2,()))),(x.2.1,()))) (fun _=>rfl)
def aAO:kT ((List Want)):=kO (kS 2 (kC (aD.xs (aD.sc (kA 1))) kN) (kC (kR 1 105 gL) kN)) (fun p=>p.2.1) (fun (x:(List Want))=>(((),()),(x,()))) (fun _=>rfl)
def MS:aM TL:=aM.one aEM.dec (fun p=>Qh p.1 p.2.1 p.2.2) (.exit 0) aAO.enc
theorem aDj:bM PR (bm MS) Th O5 (bV (bC yU.body) 3):=lA (cs:=[(96,F4)]) (ss:=[]) (E:=aX tab sl sh [] [(96,.pure)]) (an:=yU.an) (aY base aN (aC (oD WQ rfl) aN)) At (by kernel_rfl) (sB rfl EG.keys (by kernel_rfl)) rfl (fun x y h=>⟨_,h⟩) (fun _=>rfl) fun _=>by kernel_rfl
def kw (l1:List Want):Option ((List Want)) :=
 ob (Qh l1 [] 0) fun y0 =>
 some y0
def YL (p:(List Want)):Option ((List Want)):=kw p
def Hh:aQ TL:=aQ.of (DA.one (DT.one Bw)) YL (DA.one (DT.one Bw))
theorem Yf:be PR 53 .keep Hh:=bx (cs:=[]) (ss:=[(153003,MS)]) (E:=aX tab sl sh [(53,yU)] []) (fun _=>by kernel_rfl) (aY base (aC (EG.ak rfl (aC (lC aDj rfl) aN)) aN) aN) (.inl rfl) EG.enters
abbrev sN:=Int×Int×Int×Int×aw
def JA (i1:Int)(i2:Int)(i3:Int)(i4:Int)(d1:aw):Option ((sN)⊕(Int×aw)) :=
 cond (decide (i4 < (d1.log.length:Int)))
 (cond (decide (0≤i4))
 (ob (d1.log[i4.toNat]?) fun e0 =>
 cond (e0.aP.device == i1)
 (cond (decide (0≤i4))
 (ob (d1.log[i4.toNat]?) fun e1 =>
 some (.inl (i1,i2,(cond (e1.aP.aA == i2) (aF (i3+1)) i3),(aF (i4+1)),d1)))
 none)
 (some (.inl (i1,i2,i3,(aF (i4+1)),d1))))
 none)
 (some (.inr (i3,d1)))
def BG (p:sN):Option ((sN)⊕(Int×aw)):=JA p.1 p.2.1 p.2.2.1 p.2.2.2.1 p.2.2.2.2
def D9 (i1:Int)(i2:Int)(i3:Int)(i4:Int)(d1:aw):Option (Int×aw):=bZ BG (1099511627776) (i1,i2,i3,i4,d1)
def aDd:kT (sN):=kO (kS 1 (kC kI (kC kI (kC (kP 0 0) (kC kI (kC kI kN))))) (kC (aD.var 0 50 iy) kN)) (fun ((z0,z1,_,z2,z3,_),z4,_)=>(z0,z1,z2,z3,z4)) (fun (x:sN)=>((x.1,(x.2.1,((),(x.2.2.1,(x.2.2.2.1,()))))),(x.2.2.2.2,()))) (fun _=>rfl)
def aB1:kT (Int×aw):=kO (kS 2 (kC kI kN) (kC (aD.var 0 50 iy) kN)) (fun p=>(p.1.1,p.2.1)) (fun (x:Int×aw)=>((x.1,()),(x.2,()))) (fun _=>rfl)
def Mx:aM TL:=aM.one aDd.dec (fun p=>D9 p.1 p.2.1 p.2.2.1 p.2.2.2.1 p.2.2.2.2) (.exit 0) aB1.enc
theorem aEQ:bM PR (bm Mx) Sg N4 (bV (bC yF.body) 3):=lA (cs:=[]) (ss:=[]) (E:=aX tab sl sh [] []) (an:=yF.an) (aY base aN aN) BG (by kernel_rfl) (sB rfl EL.keys (by kernel_rfl)) rfl (fun x y h=>⟨_,h⟩) (fun _=>rfl) fun _=>by kernel_rfl
def kh (d1:aw)(i1:Int)(i2:Int):Option Int :=
 ob (D9 i1 i2 0 0 d1) fun y0 =>
 some y0.1
def Uv (p:aw×Int×Int):Option Int:=kh p.1 p.2.1 p.2.2
def Em:aQ TL:=aQ.of (DA.cons (DT.agg kz) (DA.cons dI (DA.one dI))) Uv (DA.one dI)
theorem Ut:be PR 54 .pure Em:=bx (cs:=[]) (ss:=[(154003,Mx)]) (E:=aX tab sl sh [(54,yF)] []) (fun _=>by kernel_rfl) (aY base (aC (EL.ak rfl (aC (lC aEQ rfl) aN)) aN) aN) (.inr rfl) EL.enters
def iB (i1:Int)(i2:Int):Option Int :=
 cond (decide (i2=0))
 none
 (some (cond (decide ((i1.tmod i2) < 0)) (aF ((i1.tmod i2)+i2)) (i1.tmod i2)))
def XM (p:Int×Int):Option Int:=iB p.1 p.2
def zA:aQ TL:=aQ.of (DA.cons dI (DA.one dI)) XM (DA.one dI)
theorem GC:be PR 97 .pure zA:=bx (cs:=[]) (ss:=[]) (E:=aX tab sl sh [(97,Si)] []) (fun _=>by kernel_rfl) (aY base (aC (Sk.ak rfl aN) aN) aN) (.inr rfl) Sk.enters
def jt (ex1:aL)(ex2:aL):Option Bool :=
 cond (ex1.device != ex2.device)
 (some (decide (ex1.device < ex2.device)))
 (cond (ex1.aA != ex2.aA)
 (some (decide (ex1.aA < ex2.aA)))
 (some (decide (ex1.seq < ex2.seq))))
def YB (p:aL×aL):Option Bool:=jt p.1 p.2
def zL:aQ TL:=aQ.of (DA.cons (DT.agg kv) (DA.one (DT.agg kv))) YB (DA.one dB)
theorem G0:be PR 74 .pure zL:=bx (cs:=[]) (ss:=[]) (E:=aX tab sl sh [(74,Sp)] []) (fun _=>by kernel_rfl) (aY base (aC (TU.ak rfl aN) aN) aN) (.inr rfl) TU.enters
abbrev kM:=(List aL)×Int×Int×Op×Op×aL
def H3 (l1:List aL)(i1:Int)(i2:Int)(o1:Op)(o2:Op)(ex1:aL):Option ((kM)⊕(kM)) :=
 cond (decide (i2 < (l1.length:Int)))
 (cond (decide (0≤i2))
 (ob (l1[i2.toNat]?) fun e0 =>
 ob (jt e0 ex1) fun r1 =>
 cond (r1)
 (some (.inl (l1,i1,(aF (i2+1)),o1,o2,ex1)))
 (some (.inr (l1,i1,i2,o1,o2,ex1))))
 none)
 (some (.inr (l1,i1,i2,o1,o2,ex1)))
def AQ (p:kM):Option ((kM)⊕(kM)):=H3 p.1 p.2.1 p.2.2.1 p.2.2.2.1 p.2.2.2.2.1 p.2.2.2.2.2
def PI (l1:List aL)(i1:Int)(i2:Int)(o1:Op)(o2:Op)(ex1:aL):Option kM:=bZ AQ (((l1.length:Int) - i2).toNat+2) (l1,i1,i2,o1,o2,ex1)
def aCC:kT (kM):=kO (kS 4 (kC (kP 0 0) (kC (kP 1 0) (kC (kF bQ) (kC kI (kC (kP 2 0) (kC kI kN)))))) (kC (aD.var 0 61 jE) (kC (aD.var 1 61 (kC kJ (kC kJ (kC kJ (kC kJ (kC kJ (kC kJ (kC kE (kC kE (kC kJ (kC kJ (kC (kA 3) kN)))))))))))) (kC (aD.var 2 59 (kC kJ (kC kJ (kC kJ kN)))) (kC (kR 3 59 bQ) kN))))) (fun p=>(p.1.2.2.1,p.1.2.2.2.1,p.1.2.2.2.2.2.1,p.2.1,(Op.mk (aL.mk p.2.2.1.1 p.2.2.1.2.1 p.2.2.1.2.2.1) p.2.2.1.2.2.2.1 p.2.2.1.2.2.2.2.1 p.2.2.1.2.2.2.2.2.1 p.2.2.1.2.2.2.2.2.2.1 p.2.2.1.2.2.2.2.2.2.2.1 (t8 p.2.2.1).1 (t8 p.2.2.1).2.1 p.2.2.2.2.1),(aL.mk p.2.2.2.1.1 p.2.2.2.1.2.1 p.2.2.2.1.2.2.1))) (fun (x:kM)=>(((),((),(x.1,(x.2.1,((),(x.2.2.1,())))))),(x.2.2.2.1,((x.2.2.2.2.1.aP.device,(x.2.2.2.2.1.aP.aA,(x.2.2.2.2.1.aP.seq,(x.2.2.2.2.1.bc,(x.2.2.2.2.1.cW,(x.2.2.2.2.1.kind,(x.2.2.2.2.1.key,(x.2.2.2.2.1.text,(x.2.2.2.2.1.n,(x.2.2.2.2.1.time,((),()))))))))))),((x.2.2.2.2.2.device,(x.2.2.2.2.2.aA,(x.2.2.2.2.2.seq,()))),(x.2.2.2.2.1.cz,())))))) (fun _=>rfl)
def Ys:kT (kM):=kO (kS 8 (kC (kP 0 0) (kC (kP 1 0) (kC (kF bQ) (kC kI (kC (kP 2 0) (kC kI kN)))))) (kC (aD.var 0 61 jE) (kC (aD.var 1 61 (kC kJ (kC kJ (kC kJ (kC kJ (kC kJ (kC kJ (kC kE (kC kE (kC kJ (kC kJ (kC (kA 3) kN)))))))))))) (kC (aD.var 2 59 (kC kJ (kC kJ (kC kJ kN)))) (kC (kR 3 59 bQ) kN))))) (fun p=>(p.1.2.2.1,p.1.2.2.2.1,p.1.2.2.2.2.2.1,p.2.1,(Op.mk (aL.mk p.2.2.1.1 p.2.2.1.2.1 p.2.2.1.2.2.1) p.2.2.1.2.2.2.1 p.2.2.1.2.2.2.2.1 p.2.2.1.2.2.2.2.2.1 p.2.2.1.2.2.2.2.2.2.1 p.2.2.1.2.2.2.2.2.2.2.1 (t8 p.2.2.1).1 (t8 p.2.2.1).2.1 p.2.2.2.2.1),(aL.mk p.2.2.2.1.1 p.2.2.2.1.2.1 p.2.2.2.1.2.2.1))) (fun (x:kM)=>(((),((),(x.1,(x.2.1,((),(x.2.2.1,())))))),(x.2.2.2.1,((x.2.2.2.2.1.aP.device,(x.2.2.2.2.1.aP.aA,(x.2.2.2.2.1.aP.seq,(x.2.2.2.2.1.bc,(x.2.2.2.2.1.cW,(x.2.2.2.2.1.kind,(x.2.2.2.2.1.key,(x.2.2.2.2.1.text,(x.2.2.2.2.1.n,(x.2.2.2.2.1.time,((),()))))))))))),((x.2.2.2.2.2.device,(x.2.2.2.2.2.aA,(x.2.2.2.2.2.seq,()))),(x.2.2.2.2.1.cz,())))))) (fun _=>rfl)
def BC:aM TL:=aM.one aCC.dec (fun p=>PI p.1 p.2.1 p.2.2.1 p.2.2.2.1 p.2.2.2.2.1 p.2.2.2.2.2) (.exit 2) Ys.enc
theorem LD:bM PR (bm BC) EH M5 (bV (bC oh.body) 10):=lA (cs:=[(74,zL)]) (ss:=[]) (E:=aX tab sl sh [] [(74,.pure)]) (an:=oh.an) (aY base aN (aC (oD G0 rfl) aN)) AQ (by kernel_rfl) (ae.du rfl yS.keys (aC (.inl (by kernel_rfl)) (aC (.inl (by kernel_rfl)) aN))) rfl (fun x y h=>⟨_,h⟩) (fun _=>rfl) fun _=>by kernel_rfl
abbrev sK:=(List aL)×Int×Op×Op
def IH (l1:List aL)(i1:Int)(o1:Op)(o2:Op):Option ((sK)⊕((List aL)×Op×Op)) :=
 cond (cond (decide (i1 < (o1.cz.length:Int))) (cond (decide (i1 < 8)) (o1.kind == 3) false) false)
 (cond (decide (0≤i1))
 (ob (o1.cz[i1.toNat]?) fun e0 =>
 ob (iB e0.device 6) fun r1 =>
 cond (decide (0≤i1))
 (ob (o1.cz[i1.toNat]?) fun e2 =>
 ob (iB e2.aA 3) fun r3 =>
 cond (decide (0≤i1))
 (ob (o1.cz[i1.toNat]?) fun e4 =>
 ob (iB e4.seq 12) fun r5 =>
 ob (PI l1 i1 0 o1 o2 (aL.mk r1 (aF (1+r3)) (aF (1+r5)))) fun y6 =>
 cond (decide (y6.2.2.1 < (y6.1.length:Int)))
 (cond (decide (0≤y6.2.2.1))
 (ob (y6.1[y6.2.2.1.toNat]?) fun e7 =>
 cond (cond (e7.device == y6.2.2.2.2.2.device) (cond (e7.aA == y6.2.2.2.2.2.aA) (cond (e7.seq == y6.2.2.2.2.2.seq) true false) false) false)
 (some (.inl (y6.1,(aF (y6.2.1+1)),y6.2.2.2.1,y6.2.2.2.2.1)))
 (cond (decide (0≤y6.2.2.1))
 (cond (decide (y6.2.2.1≤(y6.1.length:Int)))
 (cond (fits (([]++(y6.1.take y6.2.2.1.toNat)).length))
 (cond (fits ((([]++(y6.1.take y6.2.2.1.toNat))++[y6.2.2.2.2.2]).length))
 (cond (decide (0≤y6.2.2.1))
 (cond (decide (y6.2.2.1≤(y6.1.length:Int)))
 (cond (decide ((y6.1.length:Int)≤(y6.1.length:Int)))
 (cond (fits (((([]++(y6.1.take y6.2.2.1.toNat))++[y6.2.2.2.2.2])++((y6.1.take (((y6.1.length:Int)).toNat)).drop y6.2.2.1.toNat)).length))
 (some (.inl (((([]++(y6.1.take y6.2.2.1.toNat))++[y6.2.2.2.2.2])++((y6.1.take (((y6.1.length:Int)).toNat)).drop y6.2.2.1.toNat)),(aF (y6.2.1+1)),y6.2.2.2.1,y6.2.2.2.2.1)))
 none)
 none)
 none)
 none)
 none)
 none)
 none)
 none))
 none)
 (cond (decide (0≤y6.2.2.1))
 (cond (decide (y6.2.2.1≤(y6.1.length:Int)))
 (cond (fits (([]++(y6.1.take y6.2.2.1.toNat)).length))
 (cond (fits ((([]++(y6.1.take y6.2.2.1.toNat))++[y6.2.2.2.2.2]).length))
 (cond (decide (0≤y6.2.2.1))
 (cond (decide (y6.2.2.1≤(y6.1.length:Int)))
 (cond (decide ((y6.1.length:Int)≤(y6.1.length:Int)))
 (cond (fits (((([]++(y6.1.take y6.2.2.1.toNat))++[y6.2.2.2.2.2])++((y6.1.take (((y6.1.length:Int)).toNat)).drop y6.2.2.1.toNat)).length))
 (some (.inl (((([]++(y6.1.take y6.2.2.1.toNat))++[y6.2.2.2.2.2])++((y6.1.take (((y6.1.length:Int)).toNat)).drop y6.2.2.1.toNat)),(aF (y6.2.1+1)),y6.2.2.2.1,y6.2.2.2.2.1)))
 none)
 none)
 none)
 none)
 none)
 none)
 none)
 none))
 none)
 none)
 none)
 (some (.inr (l1,o1,o2)))
def BU (p:sK):Option ((sK)⊕((List aL)×Op×Op)):=IH p.1 p.2.1 p.2.2.1 p.2.2.2
def Pz (l1:List aL)(i1:Int)(o1:Op)(o2:Op):Option ((List aL)×Op×Op):=bZ BU ((8 - i1).toNat+2) (l1,i1,o1,o2)
def aCY:kT (sK):=kO (kS 3 (kC (kP 0 0) (kC (kP 1 0) (kC (kF bQ) (kC kI kN)))) (kC (aD.var 0 61 jE) (kC (aD.var 1 61 (kC kJ (kC kJ (kC kJ (kC kJ (kC kJ (kC kJ (kC kE (kC kE (kC kJ (kC kJ (kC (kA 2) kN)))))))))))) (kC (kR 2 59 bQ) kN)))) (fun p=>(p.1.2.2.1,p.1.2.2.2.1,p.2.1,(Op.mk (aL.mk p.2.2.1.1 p.2.2.1.2.1 p.2.2.1.2.2.1) p.2.2.1.2.2.2.1 p.2.2.1.2.2.2.2.1 p.2.2.1.2.2.2.2.2.1 p.2.2.1.2.2.2.2.2.2.1 p.2.2.1.2.2.2.2.2.2.2.1 (t8 p.2.2.1).1 (t8 p.2.2.1).2.1 p.2.2.2.1))) (fun (x:sK)=>(((),((),(x.1,(x.2.1,())))),(x.2.2.1,((x.2.2.2.aP.device,(x.2.2.2.aP.aA,(x.2.2.2.aP.seq,(x.2.2.2.bc,(x.2.2.2.cW,(x.2.2.2.kind,(x.2.2.2.key,(x.2.2.2.text,(x.2.2.2.n,(x.2.2.2.time,((),()))))))))))),(x.2.2.2.cz,()))))) (fun _=>rfl)
def aAZ:kT ((List aL)×Op×Op):=kO (kS 6 (kC (kP 0 0) (kC (kP 1 0) (kC (kF bQ) kN))) (kC (aD.var 0 61 jE) (kC (aD.var 1 61 (kC kJ (kC kJ (kC kJ (kC kJ (kC kJ (kC kJ (kC kE (kC kE (kC kJ (kC kJ (kC (kA 2) kN)))))))))))) (kC (kR 2 59 bQ) kN)))) (fun p=>(p.1.2.2.1,p.2.1,(Op.mk (aL.mk p.2.2.1.1 p.2.2.1.2.1 p.2.2.1.2.2.1) p.2.2.1.2.2.2.1 p.2.2.1.2.2.2.2.1 p.2.2.1.2.2.2.2.2.1 p.2.2.1.2.2.2.2.2.2.1 p.2.2.1.2.2.2.2.2.2.2.1 (t8 p.2.2.1).1 (t8 p.2.2.1).2.1 p.2.2.2.1))) (fun (x:(List aL)×Op×Op)=>(((),((),(x.1,()))),(x.2.1,((x.2.2.aP.device,(x.2.2.aP.aA,(x.2.2.aP.seq,(x.2.2.bc,(x.2.2.cW,(x.2.2.kind,(x.2.2.key,(x.2.2.text,(x.2.2.n,(x.2.2.time,((),()))))))))))),(x.2.2.cz,()))))) (fun _=>rfl)
def Lx:aM TL:=aM.one aCY.dec (fun p=>Pz p.1 p.2.1 p.2.2.1 p.2.2.2) (.exit 0) aAZ.enc
theorem aDB:bM PR (bm Lx) EH OG (bV (bC oh.body) 6):=lA (cs:=[(97,zA)]) (ss:=[(155010,BC)]) (E:=aX tab sl sh [] [(97,.pure)]) (an:=oh.an) (aY base aN (aC (oD GC rfl) aN)) BU (by kernel_rfl) (ae.du rfl yS.keys (aC (.inl (by kernel_rfl)) (aC (.inr (lC LD rfl)) aN))) rfl (fun x y h=>⟨_,h⟩) (fun _=>rfl) fun _=>by kernel_rfl
def wZ (o1:Op):Option Op :=
 ob (iB o1.aP.device 6) fun r0 =>
 ob (iB o1.aP.aA 3) fun r1 =>
 ob (iB o1.aP.seq 30) fun r2 =>
 ob (iB o1.bc 3) fun r3 =>
 ob (iB o1.cW 3) fun r4 =>
 ob (iB o1.kind 5) fun r5 =>
 ob (iB o1.time 50) fun r6 =>
 ob (iB (o1.key.size:Int) 3) fun r7 =>
 cond (decide (0≤r7))
 (cond (decide (r7 < ([cV,cX,sb].length:Int)))
 (ob ([cV,cX,sb][r7.toNat]?) fun e8 =>
 ob (iB (o1.text.size:Int) 4) fun r9 =>
 cond (decide (0≤r9))
 (cond (decide (r9 < ([cr,sw,qe,ql].length:Int)))
 (ob ([cr,sw,qe,ql][r9.toNat]?) fun e10 =>
 ob (Pz [] 0 (Op.mk (aL.mk r0 (aF (1+r1)) (aF (1+r2))) r3 (aF (1+r4)) (aF (1+r5)) e8 e10 o1.n r6 o1.cz) (Op.mk (aL.mk 0 0 0) 0 0 0 cr cr 0 0 [])) fun y11 =>
 cond (y11.2.1.kind == 4)
 (ob (iB y11.2.1.n 12) fun r12 =>
 cond ((aF (r12 - 6)) == 0)
 (some (Op.mk y11.2.1.aP y11.2.1.bc y11.2.1.cW y11.2.1.kind y11.2.1.key y11.2.1.text 6 y11.2.1.time y11.1))
 (some (Op.mk y11.2.1.aP y11.2.1.bc y11.2.1.cW y11.2.1.kind y11.2.1.key y11.2.1.text (aF (r12 - 6)) y11.2.1.time y11.1)))
 (cond (y11.2.1.kind == 5)
 (ob (iB y11.2.1.n 30) fun r13 =>
 some (Op.mk y11.2.1.aP y11.2.1.bc y11.2.1.cW y11.2.1.kind y11.2.1.key y11.2.1.text r13 y11.2.1.time y11.1))
 (some (Op.mk y11.2.1.aP y11.2.1.bc y11.2.1.cW y11.2.1.kind y11.2.1.key y11.2.1.text y11.2.1.n y11.2.1.time y11.1))))
 none)
 none)
 none)
 none
def aAQ (p:Op):Option Op:=wZ p
def Jy:aQ TL:=aQ.of (DA.one (DT.agg jW)) aAQ (DA.one (DT.agg jW))
theorem aB9:be PR 55 .keep Jy:=bx (cs:=[(97,zA)]) (ss:=[(155006,Lx),(155010,BC)]) (E:=aX tab sl sh [(55,oh)] [(97,.pure)]) (fun _=>by kernel_rfl) (aY base (aC (yS.ak rfl (aC (lC aDB rfl) (aC (lC LD rfl) aN))) aN) (aC (oD GC rfl) aN)) (.inl rfl) yS.enters
def HD (i1:Int)(i2:Int)(i3:Int)(bx1:aG):Option ((Int×Int×Int×aG)⊕(((Int×aG)⊕(Int×aG)))) :=
 cond (decide (i3 < (bx1.aK.length:Int)))
 (cond (decide (0≤i3))
 (ob (bx1.aK[i3.toNat]?) fun e0 =>
 cond (e0.device == i1)
 (some (.inr (.inr (i3,bx1))))
 (some (.inl (i1,i2,(aF (i3+1)),bx1))))
 none)
 (some (.inr (.inl (i2,bx1))))
def zt (p:Int×Int×Int×aG):Option ((Int×Int×Int×aG)⊕(((Int×aG)⊕(Int×aG)))):=HD p.1 p.2.1 p.2.2.1 p.2.2.2
def CX (i1:Int)(i2:Int)(i3:Int)(bx1:aG):Option (((Int×aG)⊕(Int×aG))):=bZ zt (1099511627776) (i1,i2,i3,bx1)
def aBf:kT (Int×Int×Int×aG):=kO (kS 1 (kC kI (kC (kP 0 0) (kC kI (kC kI kN)))) (kC (aD.var 0 29 fX) kN)) (fun p=>(p.1.1,p.1.2.2.1,p.1.2.2.2.1,p.2.1)) (fun (x:Int×Int×Int×aG)=>((x.1,((),(x.2.1,(x.2.2.1,())))),(x.2.2.2,()))) (fun _=>rfl)
def K7:aM TL:=aM.two aBf.dec (fun p=>CX p.1 p.2.1 p.2.2.1 p.2.2.2) (.exit 0) .ret ux.enc ux.enc
theorem aBI:bM PR (bm K7) RF Mg (bV (bC wc.body) 2):=lB (cs:=[]) (ss:=[]) (E:=aX tab sl sh [] []) (an:=wc.an) (aY base aN aN) zt (by kernel_rfl) (sB rfl D4.keys (by kernel_rfl)) rfl rfl (fun x y h=>⟨_,h⟩) (fun _=>rfl) fun _=>by kernel_rfl
def pw (bx1:aG)(i1:Int):Option Int :=
 ob (CX i1 0 0 bx1) fun y0 =>
 two y0 (fun _ =>
 some (-1)) (fun b2 =>
 some b2.1)
def Y4 (p:aG×Int):Option Int:=pw p.1 p.2
def Gj:aQ TL:=aQ.of (DA.cons (DT.agg fq) (DA.one dI)) Y4 (DA.one dI)
theorem Xc:be PR 137 .pure Gj:=bx (cs:=[]) (ss:=[(237002,K7)]) (E:=aX tab sl sh [(137,wc)] []) (fun _=>by kernel_rfl) (aY base (aC (D4.ak rfl (aC (lC aBI rfl) aN)) aN) aN) (.inr rfl) D4.enters
def tq (lx1:aH):Option aH :=
 cond (fits (([]++lx1.aW).length))
 (cond (fits (([]++lx1.ids).length))
 (cond (fits (([]++lx1.used).length))
 (some (aH.mk lx1.device lx1.aA lx1.bN lx1.last ([]++lx1.aW) ([]++lx1.ids) ([]++lx1.used)))
 none)
 none)
 none
def VO (p:aH):Option aH:=tq p
def FI:aM TL:=aM.one zC.dec VO .normal zH.enc
theorem V9:fL PR 138 FI:=sM (cs:=[]) (ss:=[]) (E:=aX tab sl sh [(138,QT)] []) (aY base (aC (Qd.ak rfl aN) aN) aN) Qd.enters fun _=>by kernel_rfl
def vO (bx1:aG)(i1:Int)(i2:Int):Option (aH×Bool) :=
 ob (pw bx1 i1) fun r0 =>
 cond (decide (r0 < 0))
 (some ((aH.mk 0 0 0 0 [] [] []),false))
 (cond (decide (0≤r0))
 (ob (bx1.aK[r0.toNat]?) fun e1 =>
 cond (e1.aA != i2)
 (some ((aH.mk 0 0 0 0 [] [] []),false))
 (cond (decide (0≤r0))
 (ob (bx1.aK[r0.toNat]?) fun e2 =>
 ob (tq e2) fun y3 =>
 some (y3,true))
 none))
 none)
def Wb (p:aG×Int×Int):Option (aH×Bool):=vO p.1 p.2.1 p.2.2
def Fl:aQ TL:=aQ.of (DA.cons (DT.agg fq) (DA.cons dI (DA.one dI))) Wb (DA.cons (DT.agg jc) (DA.one dB))
theorem XD:be PR 98 .keep Fl:=bx (cs:=[(137,Gj)]) (ss:=[(138,FI)]) (E:=aX tab sl sh [(98,TE)] [(137,.pure),(138,.sum)]) (fun _=>by kernel_rfl) (aY base (aC (UD.ak rfl aN) aN) (aC (oD Xc rfl) (aC (eF rfl V9) aN))) (.inl rfl) UD.enters
def ZH (l1:List Range)(i1:Int)(i2:Int):Option (((List Range)×Int×Int)⊕(Int)) :=
 cond (decide (i2 < (l1.length:Int)))
 (cond (decide (0≤i2))
 (ob (l1[i2.toNat]?) fun e0 =>
 cond (decide (0≤i2))
 (ob (l1[i2.toNat]?) fun e1 =>
 some (.inl (l1,(aF ((aF (i1+e0.bU)) - e1.from_)),(aF (i2+1)))))
 none)
 none)
 (some (.inr i1))
def Ks (p:(List Range)×Int×Int):Option (((List Range)×Int×Int)⊕(Int)):=ZH p.1 p.2.1 p.2.2
def Qg (l1:List Range)(i1:Int)(i2:Int):Option Int:=bZ Ks (((l1.length:Int) - i2).toNat+2) (l1,i1,i2)
def aDc:kT ((List Range)×Int×Int):=kO (kS 0 (kC (kF aj) (kC kI (kC kI kN))) kN) (fun p=>(p.1.1,p.1.2.1,p.1.2.2.1)) (fun (x:(List Range)×Int×Int)=>((x.1,(x.2.1,(x.2.2,()))),())) (fun _=>rfl)
def LL:aM TL:=aM.one aDc.dec (fun p=>Qg p.1 p.2.1 p.2.2) (.exit 0) uX.enc
theorem aDS:bM PR (bm LL) Sy Nw (bV (bC xt.body) 3):=lA (cs:=[]) (ss:=[]) (E:=aX tab sl sh [] []) (an:=xt.an) (aY base aN aN) Ks (by kernel_rfl) (sB rfl EW.keys (by kernel_rfl)) rfl (fun x y h=>⟨_,h⟩) (fun _=>rfl) fun _=>by kernel_rfl
def vP (l1:List Range):Option Int :=
 ob (Qg l1 0 0) fun y0 =>
 some y0
def Yh (p:(List Range)):Option Int:=vP p
def Hm:aQ TL:=aQ.of (DA.one (DT.one ev)) Yh (DA.one dI)
theorem Xz:be PR 99 .pure Hm:=bx (cs:=[]) (ss:=[(199003,LL)]) (E:=aX tab sl sh [(99,xt)] []) (fun _=>by kernel_rfl) (aY base (aC (EW.ak rfl (aC (lC aDS rfl) aN)) aN) aN) (.inr rfl) EW.enters
end
end Go.Proofs.YtcjpeijiaojeiaaGreat
