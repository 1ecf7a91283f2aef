/- By program (gen.py): the functions in their typed form. -/
import Derived.Test.YtcjpeijiaojeiaaGreatF0
import Derived.Test.YtcjpeijiaojeiaaGreatHa
import Derived.Test.YtcjpeijiaojeiaaGreatLb
namespace Go.Proofs.YtcjpeijiaojeiaaGreat
open Go Go.Ev
set_option maxRecDepth 1000000
noncomputable section
abbrev jl:=ByteArray×Bool×Int×Int
def Jz (s1:ByteArray)(b1:Bool)(i1:Int)(i2:Int):Option ((jl)⊕(((ByteArray×Bool)⊕(ByteArray×Bool)))) :=
 cond (decide (i2 < i1))
 (cond (decide (0≤i2))
 (cond (decide (i2 < (s1.size:Int)))
 (cond (decide (((s1[(i2:Int).toNat]?.getD 0).toNat:Int) < 32))
 (some (.inr (.inr (s1,false))))
 (cond (decide (0≤i2))
 (cond (decide (i2 < (s1.size:Int)))
 (cond (((s1[(i2:Int).toNat]?.getD 0).toNat:Int) == 127)
 (some (.inr (.inr (s1,false))))
 (some (.inl (s1,b1,i1,(aF (i2+1))))))
 none)
 none))
 none)
 none)
 (some (.inr (.inl (s1,b1))))
def vR (p:jl):Option ((jl)⊕(((ByteArray×Bool)⊕(ByteArray×Bool)))):=Jz p.1 p.2.1 p.2.2.1 p.2.2.2
def Ql (s1:ByteArray)(b1:Bool)(i1:Int)(i2:Int):Option (((ByteArray×Bool)⊕(ByteArray×Bool))):=bm vR ((i1 - i2).toNat+2) (s1,b1,i1,i2)
def ks:kT (jl):=kO (kS 0 (kC (aE.xs (aE.sc kE)) (kC kB (kC kI (kC kI kN)))) kN) (fun ((z0,z1,z2,z3,_),_)=>(z0,z1,z2,z3)) (fun (x:jl)=>((x.1,(x.2.1,(x.2.2.1,(x.2.2.2,())))),())) (fun _=>rfl)
def ik:kT (ByteArray×Bool):=kO (kS 0 (kC (aE.xs (aE.sc kE)) (kC kB kN)) kN) (fun p=>(p.1.1,p.1.2.1)) (fun (x:ByteArray×Bool)=>((x.1,(x.2,())),())) (fun _=>rfl)
def NB:aT TL:=aT.two ks.dec (fun p=>Ql p.1 p.2.1 p.2.2.1 p.2.2.2) (.exit 0) .ret ik.aJ ik.aJ
def O6:Env:=aY tab sl sh [] []
theorem aAW:bK PR (bJ cZ sZ) O6:=aZ base aN aN
theorem aCs (x:jl):Out.run (bO cZ sZ) (bp O6 12 20 o5.an DE (ag (a8 o5.body) 2) (ks.aJ x)) (cj ks ik ik (.exit 0) .ret)=vR x:=by kernel_rfl
theorem aDR:bZ PR (bx NB) UK DE (ag (a8 o5.body) 2) :=
  dL aAW (loops:=12) (k:=20) (an:=o5.an) (by kernel_rfl) (aR.cI rfl Ei.keys (aC (.inl (by kernel_rfl)) aN)) ks ik ik (.exit 0) .ret rfl rfl vR _ aCs (fun x y h=>⟨_,h⟩) (fun _=>cA.1 rfl)
def sN (s1:ByteArray):Option Bool :=
 ob (Ql s1 false (s1.size:Int) 0) fun y0 =>
 two y0 (fun a1 =>
 some (decide ((a1.1.size:Int)≤40))) (fun b2 =>
 some b2.2)
def K0 (p:ByteArray):Option Bool:=sN p
def Jw:aV TL:=aV.of (DA.one (DT.one DI.str)) K0 (DA.one dB)
theorem Z2:bi [] [(283002,NB)] (aY tab sl sh [(183,o5)] []) 183 (DA.one (DT.one DI.str)) K0 (DA.one dB):=fun _=>by kernel_rfl
theorem Zz:bU PR 183 .pure Jw:=bj Z2 (aZ base (aC (Ei.ae rfl (aC (lC aDR rfl) aN)) aN) aN) (.inr rfl) Ei.enters
def vA (ex1:aL)(ex2:aL):Option Int :=
 ob (iQ ex1.device ex2.device) fun r0 =>
 ob (iQ ex1.aB ex2.aB) fun r1 =>
 ob (iQ ex1.seq ex2.seq) fun r2 =>
 ob (jy [r0,r1,r2]) fun r3 =>
 some r3
def Hz (p:aL×aL):Option Int:=vA p.1 p.2
def HJ:aV TL:=aV.of (DA.cons (DT.agg fu) (DA.one (DT.agg fu))) Hz (DA.one dI)
theorem Xc:bi [(239,mf),(216,mv)] [] (aY tab sl sh [(231,TE)] [(239,.pure),(216,.pure)]) 231 (DA.cons (DT.agg fu) (DA.one (DT.agg fu))) Hz (DA.one dI):=fun _=>by kernel_rfl
theorem YZ:bU PR 231 .pure HJ:=bj Xc (aZ base (aC (U8.ae rfl aN) aN) (aC (oD q9 rfl) (aC (oD qh rfl) aN))) (.inr rfl) U8.enters
abbrev pA:=(List aL)×Int×Int×Int
def Ju (l1:List aL)(i1:Int)(i2:Int)(i3:Int):Option ((pA)⊕(((Int)⊕(Int)))) :=
 cond (decide (i3 < i2))
 (cond (decide (i3 > 0))
 (cond (decide (0≤(aF (i3 - 1))))
 (ob (l1[((aF (i3 - 1))).toNat]?) fun e0 =>
 cond (decide (0≤i3))
 (ob (l1[i3.toNat]?) fun e1 =>
 ob (vA e0 e1) fun r2 =>
 cond (decide (r2≥0))
 (some (.inr (.inr 10)))
 (some (.inl (l1,i1,i2,(aF (i3+1))))))
 none)
 none)
 (some (.inl (l1,i1,i2,(aF (i3+1))))))
 (some (.inr (.inl i1)))
def uw (p:pA):Option ((pA)⊕(((Int)⊕(Int)))):=Ju p.1 p.2.1 p.2.2.1 p.2.2.2
def Qz (l1:List aL)(i1:Int)(i2:Int)(i3:Int):Option (((Int)⊕(Int))):=bm uw ((i2 - i3).toNat+2) (l1,i1,i2,i3)
def wW:kT (pA):=kO (kS 0 (kC (kF bL) (kC kI (kC kI (kC kI kN)))) kN) (fun ((z0,z1,z2,z3,_),_)=>(z0,z1,z2,z3)) (fun (x:pA)=>((x.1,(x.2.1,(x.2.2.1,(x.2.2.2,())))),())) (fun _=>rfl)
def NF:aT TL:=aT.two wW.dec (fun p=>Qz p.1 p.2.1 p.2.2.1 p.2.2.2) (.exit 0) .ret ij.aJ ij.aJ
def LW:cL:=[(231,HJ)]
def O4:Env:=aY tab sl sh [] [(231,.pure)]
theorem aAY:bK PR (bJ LW sZ) O4:=aZ base aN (aC (oD YZ rfl) aN)
theorem aCM (x:pA):Out.run (bO LW sZ) (bp O4 12 20 oS.an Ck (ag (a8 oS.body) 4) (wW.aJ x)) (cj wW ij ij (.exit 0) .ret)=uw x:=by kernel_rfl
theorem aE6:bZ PR (bx NF) S9 Ck (ag (a8 oS.body) 4) :=
  dL aAY (loops:=12) (k:=20) (an:=oS.an) (by kernel_rfl) (aR.cI rfl FB.keys (aC (.inl (by kernel_rfl)) aN)) wW ij ij (.exit 0) .ret rfl rfl uw _ aCM (fun x y h=>⟨_,h⟩) (fun _=>cA.1 rfl)
def xC (l1:List aL):Option Int :=
 cond (decide ((l1.length:Int) > 8))
 (some 4)
 (ob (Qz l1 0 (l1.length:Int) 0) fun y0 =>
 two y0 (fun _ =>
 some 0) (fun b2 =>
 some b2))
def J1 (p:(List aL)):Option Int:=xC p
def Ki:aV TL:=aV.of (DA.one (DT.one dP)) J1 (DA.one dI)
theorem ZE:bi [] [(307004,NF)] (aY tab sl sh [(207,oS)] []) 207 (DA.one (DT.one dP)) J1 (DA.one dI):=fun _=>by kernel_rfl
theorem aBX:bU PR 207 .pure Ki:=bj ZE (aZ base (aC (FB.ae rfl (aC (lC aE6 rfl) aN)) aN) aN) (.inr rfl) FB.enters
def wv (o1:Op):Option Int :=
 cond (o1.kind == 3)
 (cond (!dk o1.key dO)
 (ob (xC o1.dG) fun r0 =>
 some r0)
 (cond (dk o1.key dO)
 (some 1)
 (some 0)))
 (cond (cond (o1.kind == 1) (o1.kind == 1) (o1.kind == 2))
 (cond (dk o1.key dO)
 (some 1)
 (some 0))
 (cond (o1.kind == 4)
 (cond (dk o1.key dO)
 (some 1)
 (cond (o1.n == 0)
 (some 11)
 (ob (jL o1.n (-1099511627776) 1099511627776) fun r1 =>
 cond (!r1)
 (some 11)
 (some 0))))
 (cond (o1.kind == 5)
 (ob (jL o1.n 0 999) fun r2 =>
 cond (!r2)
 (some 11)
 (some 0))
 (some 0))))
def KH (p:Op):Option Int:=wv p
def Kk:aV TL:=aV.of (DA.one (DT.agg fC)) KH (DA.one dI)
theorem Z4:bi [(207,Ki),(182,zZ)] [] (aY tab sl sh [(184,TK)] [(207,.pure),(182,.pure)]) 184 (DA.one (DT.agg fC)) KH (DA.one dI):=fun _=>by kernel_rfl
theorem aAt:bU PR 184 .pure Kk:=bj Z4 (aZ base (aC (Su.ae rfl aN) aN) (aC (oD aBX rfl) (aC (oD He rfl) aN))) (.inr rfl) Su.enters
def nY (o1:Op):Option Int :=
 ob (jL o1.al.device 0 5) fun r0 =>
 cond (!r0)
 (some 1)
 (ob (jL o1.al.aB 1 1073741824) fun r1 =>
 cond (!r1)
 (some 1)
 (ob (jL o1.al.seq 1 1073741824) fun r2 =>
 cond (!r2)
 (some 1)
 (ob (jL o1.cC 0 2) fun r3 =>
 cond (!r3)
 (some 1)
 (ob (jL o1.cU 1 3) fun r4 =>
 cond (!r4)
 (some 1)
 (ob (jL o1.time 0 1099511627776) fun r5 =>
 cond (!r5)
 (some 1)
 (ob (jL o1.kind 1 5) fun r6 =>
 cond (!r6)
 (some 3)
 (ob (sN o1.key) fun r7 =>
 cond (!r7)
 (some 5)
 (ob (sN o1.text) fun r8 =>
 cond (!r8)
 (some 5)
 (ob (wv o1) fun r9 =>
 some r9)))))))))
def Js (p:Op):Option Int:=nY p
def Ab:aV TL:=aV.of (DA.one (DT.agg fC)) Js (DA.one dI)
theorem ZS:bi [(182,zZ),(183,Jw),(184,Kk)] [] (aY tab sl sh [(158,SB)] [(182,.pure),(183,.pure),(184,.pure)]) 158 (DA.one (DT.agg fC)) Js (DA.one dI):=fun _=>by kernel_rfl
theorem Jc:bU PR 158 .pure Ab:=bj ZS (aZ base (aC (Rc.ae rfl aN) aN) (aC (oD He rfl) (aC (oD Zz rfl) (aC (oD aAt rfl) aN)))) (.inr rfl) Rc.enters
abbrev p7:=Int×Bool×(List Range)×Int×Int
def K6 (i1:Int)(b1:Bool)(l1:List Range)(i2:Int)(i3:Int):Option ((p7)⊕(((Bool)⊕(Bool)))) :=
 cond (decide (i3 < i2))
 (cond (decide (0≤i3))
 (ob (l1[i3.toNat]?) fun e0 =>
 cond (cond (decide (i1≥e0.from_)) (decide (i1 < e0.bt)) false)
 (some (.inr (.inr true)))
 (some (.inl (i1,b1,l1,i2,(aF (i3+1))))))
 none)
 (some (.inr (.inl b1)))
def uz (p:p7):Option ((p7)⊕(((Bool)⊕(Bool)))):=K6 p.1 p.2.1 p.2.2.1 p.2.2.2.1 p.2.2.2.2
def Qt (i1:Int)(b1:Bool)(l1:List Range)(i2:Int)(i3:Int):Option (((Bool)⊕(Bool))):=bm uz ((i2 - i3).toNat+2) (i1,b1,l1,i2,i3)
def wE:kT (p7):=kO (kS 0 (kC kI (kC kB (kC (kF aa) (kC kI (kC kI kN))))) kN) (fun ((z0,z1,z2,z3,z4,_),_)=>(z0,z1,z2,z3,z4)) (fun (x:p7)=>((x.1,(x.2.1,(x.2.2.1,(x.2.2.2.1,(x.2.2.2.2,()))))),())) (fun _=>rfl)
def bP:kT (Bool):=kO (kS 0 (kC kB kN) kN) (fun p=>p.1.1) (fun (x:Bool)=>((x,()),())) (fun _=>rfl)
def Ma:aT TL:=aT.two wE.dec (fun p=>Qt p.1 p.2.1 p.2.2.1 p.2.2.2.1 p.2.2.2.2) (.exit 0) .ret bP.aJ bP.aJ
def PT:Env:=aY tab sl sh [] []
theorem aBM:bK PR (bJ cZ sZ) PT:=aZ base aN aN
theorem aDH (x:p7):Out.run (bO cZ sZ) (bp PT 12 20 oh.an Ct (ag (a8 oh.body) 2) (wE.aJ x)) (cj wE bP bP (.exit 0) .ret)=uz x:=by kernel_rfl
theorem aE9:bZ PR (bx Ma) S6 Ct (ag (a8 oh.body) 2) :=
  dL aBM (loops:=12) (k:=20) (an:=oh.an) (by kernel_rfl) (aR.cI rfl FL.keys (aC (.inl (by kernel_rfl)) aN)) wE bP bP (.exit 0) .ret rfl rfl uz _ aDH (fun x y h=>⟨_,h⟩) (fun _=>cA.1 rfl)
def rz (l1:List Range)(i1:Int):Option Bool :=
 ob (Qt i1 false l1 (l1.length:Int) 0) fun y0 =>
 two y0 (fun _ =>
 some false) (fun b2 =>
 some b2)
def IP (p:(List Range)×Int):Option Bool:=rz p.1 p.2
def zy:aV TL:=aV.of (DA.cons (DT.one dF) (DA.one dI)) IP (DA.one dB)
theorem YR:bi [] [(287002,Ma)] (aY tab sl sh [(187,oh)] []) 187 (DA.cons (DT.one dF) (DA.one dI)) IP (DA.one dB):=fun _=>by kernel_rfl
theorem IY:bU PR 187 .pure zy:=bj YR (aZ base (aC (FL.ae rfl (aC (lC aE9 rfl) aN)) aN) aN) (.inr rfl) FL.enters
def tj (i1:Int):Option Bool :=
 some (i1 != i1)
def GA (p:Int):Option Bool:=tj p
def Fx:aV TL:=aV.of (DA.one dI) GA (DA.one dB)
theorem W7:bi [] [] (aY tab sl sh [(198,Tg)] []) 198 (DA.one dI) GA (DA.one dB):=fun _=>by kernel_rfl
theorem Wi:bU PR 198 .pure Fx:=bj W7 (aZ base (aC (SK.ae rfl aN) aN) aN) (.inr rfl) SK.enters
def ub (i1:Int)(i2:Int):Option Bool :=
 ob (l7 i1) fun r0 =>
 cond (r0)
 (ob (l7 i2) fun r1 =>
 some (cond (!r1) true (decide (i1 < i2))))
 (some (decide (i1 < i2)))
def HC (p:Int×Int):Option Bool:=ub p.1 p.2
def H5:aV TL:=aV.of (DA.cons dI (DA.one dI)) HC (DA.one dB)
theorem Xm:bi [(226,zL)] [] (aY tab sl sh [(197,UC)] [(226,.pure)]) 197 (DA.cons dI (DA.one dI)) HC (DA.one dB):=fun _=>by kernel_rfl
theorem YH:bU PR 197 .pure H5:=bj Xm (aZ base (aC (Tw.ae rfl aN) aN) (aC (oD Gc rfl) aN)) (.inr rfl) Tw.enters
abbrev pB:=(List Int)×Int×Int×Int×Int
def KZ (l1:List Int)(i1:Int)(i2:Int)(i3:Int)(i4:Int):Option ((pB)⊕((List Int)×Int×Int×Int)) :=
 cond (decide (i3 < i4))
 (cond (decide (0≤(aF (((IntKind.u64.wrap ((aF (i3+i4)))) / 2)))))
 (ob (l1[((aF (((IntKind.u64.wrap ((aF (i3+i4)))) / 2)))).toNat]?) fun e0 =>
 ob (ub e0 i1) fun r1 =>
 some (.inl (l1,i1,i2,(cond r1 (aF ((aF (((IntKind.u64.wrap ((aF (i3+i4)))) / 2)))+1)) i3),(cond r1 i4 (aF (((IntKind.u64.wrap ((aF (i3+i4)))) / 2)))))))
 none)
 (some (.inr (l1,i1,i2,i3)))
def uj (p:pB):Option ((pB)⊕((List Int)×Int×Int×Int)):=KZ p.1 p.2.1 p.2.2.1 p.2.2.2.1 p.2.2.2.2
def RJ (l1:List Int)(i1:Int)(i2:Int)(i3:Int)(i4:Int):Option ((List Int)×Int×Int×Int):=bm uj ((i4 - i3).toNat+2) (l1,i1,i2,i3,i4)
def vq:kT (pB):=kO (kS 0 (kC (kF au) (kC kI (kC kI (kC kI (kC kI kN))))) kN) (fun ((z0,z1,z2,z3,z4,_),_)=>(z0,z1,z2,z3,z4)) (fun (x:pB)=>((x.1,(x.2.1,(x.2.2.1,(x.2.2.2.1,(x.2.2.2.2,()))))),())) (fun _=>rfl)
def BV:kT ((List Int)×Int×Int×Int):=kO (kS 0 (kC (kF au) (kC kI (kC kI (kC kI kN)))) kN) (fun ((z0,z1,z2,z3,_),_)=>(z0,z1,z2,z3)) (fun (x:(List Int)×Int×Int×Int)=>((x.1,(x.2.1,(x.2.2.1,(x.2.2.2,())))),())) (fun _=>rfl)
def NK:aT TL:=aT.one vq.dec (fun p=>RJ p.1 p.2.1 p.2.2.1 p.2.2.2.1 p.2.2.2.2) (.exit 0) BV.aJ
def L7:cL:=[(197,H5)]
def PW:Env:=aY tab sl sh [] [(197,.pure)]
theorem aA4:bK PR (bJ L7 sZ) PW:=aZ base aN (aC (oD YH rfl) aN)
theorem aCv (x:pB):Out.run (bO L7 sZ) (bp PW 12 20 oe.an Cf (ag (a8 oe.body) 3) (vq.aJ x)) (back vq BV fun e=>ck e (.exit 0))=uj x:=by kernel_rfl
theorem aDZ:bZ PR (bx NK) UQ Cf (ag (a8 oe.body) 3) :=
  dd aA4 (loops:=12) (k:=20) (an:=oe.an) (by kernel_rfl) (aR.cI rfl E6.keys (aC (.inl (by kernel_rfl)) aN)) vq BV (.exit 0) rfl uj _ aCv (fun x y h=>⟨_,h⟩) (fun _=>cA.1 rfl)
def qw (l1:List Int)(i1:Int):Option (Int×Bool) :=
 ob (RJ l1 i1 (l1.length:Int) 0 (l1.length:Int)) fun y0 =>
 cond (decide (y0.2.2.2 < y0.2.2.1))
 (cond (decide (0≤y0.2.2.2))
 (ob (y0.1[y0.2.2.2.toNat]?) fun e1 =>
 cond (e1 == y0.2.1)
 (some (y0.2.2.2,true))
 (cond (decide (0≤y0.2.2.2))
 (ob (y0.1[y0.2.2.2.toNat]?) fun e2 =>
 ob (tj e2) fun r3 =>
 cond (r3)
 (ob (tj y0.2.1) fun r4 =>
 some (y0.2.2.2,r4))
 (some (y0.2.2.2,false)))
 none))
 none)
 (some (y0.2.2.2,false))
def H2 (p:(List Int)×Int):Option (Int×Bool):=qw p.1 p.2
def zc:aV TL:=aV.of (DA.cons (DT.one fX) (DA.one dI)) H2 (DA.cons dI (DA.one dB))
theorem YF:bi [(198,Fx)] [(264003,NK)] (aY tab sl sh [(164,oe)] [(198,.pure)]) 164 (DA.cons (DT.one fX) (DA.one dI)) H2 (DA.cons dI (DA.one dB)):=fun _=>by kernel_rfl
theorem HW:bU PR 164 .pure zc:=bj YF (aZ base (aC (E6.ae rfl (aC (lC aDZ rfl) aN)) aN) (aC (oD Wi rfl) aN)) (.inr rfl) E6.enters
abbrev qK:=(List Slice)×Int×Int×Int×Op
def Ja (l1:List Slice)(i1:Int)(i2:Int)(i3:Int)(o1:Op):Option ((qK)⊕(((Int×Op×(List Slice))⊕(Int×Op×(List Slice))))) :=
 cond (decide (i3 < i2))
 (cond (decide (0≤i3))
 (cond (decide (i3 < (l1.length:Int)))
 (ob (l1[i3.toNat]?) fun e0 =>
 cond (dk e0.key o1.key)
 (some (.inr (.inr (i3,o1,l1))))
 (some (.inl (l1,i1,i2,(aF (i3+1)),o1))))
 none)
 none)
 (some (.inr (.inl (i1,o1,l1))))
def vW (p:qK):Option ((qK)⊕(((Int×Op×(List Slice))⊕(Int×Op×(List Slice))))):=Ja p.1 p.2.1 p.2.2.1 p.2.2.2.1 p.2.2.2.2
def RH (l1:List Slice)(i1:Int)(i2:Int)(i3:Int)(o1:Op):Option (((Int×Op×(List Slice))⊕(Int×Op×(List Slice)))):=bm vW ((i2 - i3).toNat+2) (l1,i1,i2,i3,o1)
def kQ:aE (List (C TL)) Op:=kO (kC kJ (kC kJ (kC kJ (kC kJ (kC kJ (kC kJ (kC kE (kC kE (kC kJ (kC kJ (kC (kG bL) kN))))))))))) (fun p=>(Op.mk (aL.mk p.1 p.2.1 p.2.2.1) p.2.2.2.1 p.2.2.2.2.1 p.2.2.2.2.2.1 p.2.2.2.2.2.2.1 p.2.2.2.2.2.2.2.1 (t8 p).1 (t8 p).2.1 (t8 p).2.2.1)) (fun (x:Op)=>(x.al.device,(x.al.aB,(x.al.seq,(x.cC,(x.cU,(x.kind,(x.key,(x.text,(x.n,(x.time,(x.dG,())))))))))))) (fun _=>rfl)
def vl:kT (qK):=kO (kS 2 (kC (aE.xs (aE.sc (kA 0))) (kC (aE.xs (aE.sc (aE.dK 186 [] [(1,0)]))) (kC kI (kC kI (kC kI kN))))) (kC (kR 0 133 bh) (kC (aE.var 1 61 kQ) kN))) (fun ((_,_,z0,z1,z2,_),z3,z4,_)=>(z3,z0,z1,z2,z4)) (fun (x:qK)=>(((),((),(x.2.1,(x.2.2.1,(x.2.2.2.1,()))))),(x.1,(x.2.2.2.2,())))) (fun _=>rfl)
def nD:kT (Int×Op×(List Slice)):=kO (kS 4 (kC kI kN) (kC (kR 0 133 bh) (kC (aE.var 1 61 kQ) kN))) (fun p=>(p.1.1,p.2.2.1,p.2.1)) (fun (x:Int×Op×(List Slice))=>((x.1,()),(x.2.2,(x.2.1,())))) (fun _=>rfl)
def Nk:aT TL:=aT.two vl.dec (fun p=>RH p.1 p.2.1 p.2.2.1 p.2.2.2.1 p.2.2.2.2) (.exit 0) .ret nD.aJ nD.aJ
def PY:Env:=aY tab sl sh [(186,TP)] []
theorem aBR:bK PR (bJ cZ sZ) PY:=aZ base (aC (aIc.ae rfl aN) aN) aN
theorem aCA (x:qK):Out.run (bO cZ sZ) (bp PY 12 20 oM.an CY (ag (a8 oM.body) 2) (vl.aJ x)) (cj vl nD nD (.exit 0) .ret)=vW x:=by kernel_rfl
theorem aEG:bZ PR (bx Nk) T3 CY (ag (a8 oM.body) 2) :=
  dL aBR (loops:=12) (k:=20) (an:=oM.an) (by kernel_rfl) (aR.cI rfl SV.keys (aC (.inl (by kernel_rfl)) aN)) vl nD nD (.exit 0) .ret rfl rfl vW _ aCA (fun x y h=>⟨_,h⟩) (fun _=>cA.1 rfl)
def uQ (lx1:aI)(o1:Op):Option (aI×Int) :=
 ob (fO lx1) fun y0 =>
 cond (o1.kind == 4)
 (ob (RH y0.aX 0 (y0.aX.length:Int) 0 o1) fun y1 =>
 two y1 (fun _ =>
 ob (fO lx1) fun y4 =>
 some (y4,14)) (fun b3 =>
 cond (decide (b3.1 < 0))
 (ob (fO lx1) fun y5 =>
 some (y5,14))
 (cond (decide (0≤b3.1))
 (cond (decide (b3.1 < (b3.2.2.length:Int)))
 (ob (b3.2.2[b3.1.toNat]?) fun e6 =>
 ob (b3.2.2[b3.1.toNat]?) fun e7 =>
 cond (decide (b3.2.1.n > (aF (e6.cO - e7.gZ))))
 (ob (fO lx1) fun y10 =>
 some (y10,14))
 (ob (b3.2.2[b3.1.toNat]?) fun e8 =>
 ob (b3.2.2[b3.1.toNat]?) fun e9 =>
 cond (decide ((aF (0 - b3.2.1.n)) > (aF (e8.cY - e9.ir))))
 (ob (fO lx1) fun y11 =>
 some (y11,14))
 (ob (b3.2.2[b3.1.toNat]?) fun e12 =>
 ob (b3.2.2[b3.1.toNat]?) fun e13 =>
 ob ((b3.2.2.set b3.1.toNat (Slice.mk e13.key e13.cO e13.cY (aF (e12.gZ+(max2 b3.2.1.n 0))) e13.ir))[b3.1.toNat]?) fun e14 =>
 ob ((b3.2.2.set b3.1.toNat (Slice.mk e13.key e13.cO e13.cY (aF (e12.gZ+(max2 b3.2.1.n 0))) e13.ir))[b3.1.toNat]?) fun e15 =>
 ob (fO (aI.mk y0.device y0.aB y0.bC y0.last ((b3.2.2.set b3.1.toNat (Slice.mk e13.key e13.cO e13.cY (aF (e12.gZ+(max2 b3.2.1.n 0))) e13.ir)).set b3.1.toNat (Slice.mk e15.key e15.cO e15.cY e15.gZ (aF (e14.ir+(max2 (aF (0 - b3.2.1.n)) 0))))) y0.ids y0.used)) fun y20 =>
 some (y20,0))))
 none)
 none)))
 (cond (o1.kind == 5)
 (ob (rz y0.ids o1.n) fun r16 =>
 cond (!r16)
 (ob (fO lx1) fun y17 =>
 some (y17,14))
 (ob (qw y0.used o1.n) fun r18 =>
 cond (r18.2)
 (ob (fO lx1) fun y19 =>
 some (y19,7))
 (cond (decide (0≤r18.1))
 (cond (decide (r18.1≤(y0.used.length:Int)))
 (cond (fits ((((y0.used.take r18.1.toNat)++[o1.n])++((y0.used.take y0.used.length).drop r18.1.toNat)).length))
 (ob (fO (aI.mk y0.device y0.aB y0.bC y0.last y0.aX y0.ids (((y0.used.take r18.1.toNat)++[o1.n])++((y0.used.take y0.used.length).drop r18.1.toNat)))) fun y21 =>
 some (y21,0))
 none)
 none)
 none)))
 (ob (fO y0) fun y22 =>
 some (y22,0)))
def Gq (p:aI×Op):Option (aI×Int):=uQ p.1 p.2
def Gi:aV TL:=aV.of (DA.cons (DT.agg eQ) (DA.one (DT.agg fC))) Gq (DA.cons (DT.agg eQ) (DA.one dI))
theorem X9:bi [(187,zy),(164,zc)] [(151,mj),(285002,Nk)] (aY tab sl sh [(159,Sr),(185,oM)] [(151,.sum),(187,.pure),(164,.pure),(165,(.ins 3))]) 159 (DA.cons (DT.agg eQ) (DA.one (DT.agg fC))) Gq (DA.cons (DT.agg eQ) (DA.one dI)):=fun _=>by kernel_rfl
theorem YE:bU PR 159 .keep Gi:=bj X9 (aZ base (aC (Ro.ae rfl aN) (aC (SV.ae rfl (aC (lC aEG rfl) aN)) aN)) (aC (dj rfl qc) (aC (oD IY rfl) (aC (oD HW rfl) (aC (lT Q1) aN))))) (.inl rfl) Ro.enters
def eK (c1:ah):Option ah :=
 cond (fits c1.v.length)
 (cond (fits c1.be.length)
 (cond (fits c1.bY.length)
 (cond (fits c1.gone.length)
 (cond (fits c1.bc.length)
 (cond (fits c1.binds.length)
 (some c1)
 none)
 none)
 none)
 none)
 none)
 none
def aGo:aE (List (C TL)) ah:=kO (kC (kG bL) (kC (kG dC) (kC (kG cd) (kC (kG bL) (kC (kG dD) (kC (kG dA) kN)))))) (fun (z0,z1,z2,z3,z4,z5,_)=>(ah.mk z0 z1 z2 z3 z4 z5)) (fun (x:ah)=>(x.v,(x.be,(x.bY,(x.gone,(x.bc,(x.binds,()))))))) (fun _=>rfl)
def BJ:kT (ah):=kO (kS 0 (kC (aE.xs (aE.sa aGo)) kN) kN) (fun p=>p.1.1) (fun (x:ah)=>((x,()),())) (fun _=>rfl)
def B2:kT (ah):=kO (kS 6 (kC (aE.xs (aE.sa (kC (kA 0) (kC (kA 1) (kC (kA 2) (kC (kA 3) (kC (kA 4) (kC (kA 5) kN)))))))) kN) (kC (kR 0 66 bL) (kC (kR 1 142 dC) (kC (kR 2 145 cd) (kC (kR 3 59 bL) (kC (kR 4 129 dD) (kC (kR 5 149 dA) kN))))))) (fun (_,z0,z1,z2,z3,z4,z5,_)=>(ah.mk z0 z1 z2 z3 z4 z5)) (fun (x:ah)=>((((),((),((),((),((),((),())))))),()),(x.v,(x.be,(x.bY,(x.gone,(x.bc,(x.binds,())))))))) (fun _=>rfl)
def B3 (p:ah):Option ah:=eK p
def Kz:aT TL:=aT.one BJ.dec B3 .normal B2.aJ
def JI:Env:=aY tab sl sh [(188,Rx)] [(79,(.dZ 66)),(80,(.dZ 142)),(81,(.dZ 145)),(50,(.dZ 59)),(82,(.dZ 129)),(83,(.dZ 149))]
theorem Xy:bK PR (bJ cZ sZ) JI:=aZ base (aC (Sw.ae rfl aN) aN) (aC (dx R3) (aC (dx RD) (aC (dx Qn) (aC (dx EU) (aC (dx RF) (aC (dx RN) aN))))))
theorem aAH (x:ah):Out.run (bO cZ sZ) (eZ JI 12 20 188 (BJ.aJ x)) (ef B2)=B3 x:=by kernel_rfl
theorem aBa:ez PR 188 Kz:=fW Xy (loops:=12) (n:=20) Sw.enters BJ B2 B3 aAH
def wj (l1:List aL)(i1:Int)(i2:Int):Option Int :=
 ob (ru l1 (fE.mk i1 i2)) fun r0 =>
 cond (!r0.2)
 (some 0)
 (cond (decide (0≤r0.1))
 (ob (l1[r0.1.toNat]?) fun e1 =>
 some e1.seq)
 none)
def Ig (p:(List aL)×Int×Int):Option Int:=wj p.1 p.2.1 p.2.2
def I4:aV TL:=aV.of (DA.cons (DT.one dP) (DA.cons dI (DA.one dI))) Ig (DA.one dI)
theorem Yc:bi [(233,AC)] [] (aY tab sl sh [(232,Rh)] [(233,.pure)]) 232 (DA.cons (DT.one dP) (DA.cons dI (DA.one dI))) Ig (DA.one dI):=fun _=>by kernel_rfl
theorem ZL:bU PR 232 .pure I4:=bj Yc (aZ base (aC (TN.ae rfl aN) aN) (aC (oD IA rfl) aN)) (.inr rfl) TN.enters
def Bq (l1:List aL)(ex1:aL):Option Bool :=
 cond (decide (ex1.seq≥1))
 (ob (wj l1 ex1.device ex1.aB) fun r0 =>
 some (decide (ex1.seq≤r0)))
 (some false)
def IH (p:(List aL)×aL):Option Bool:=Bq p.1 p.2
def IK:aV TL:=aV.of (DA.cons (DT.one dP) (DA.one (DT.agg fu))) IH (DA.one dB)
theorem Yg:bi [(232,I4)] [] (aY tab sl sh [(208,Si)] [(232,.pure)]) 208 (DA.cons (DT.one dP) (DA.one (DT.agg fu))) IH (DA.one dB):=fun _=>by kernel_rfl
theorem Z3:bU PR 208 .pure IK:=bj Yg (aZ base (aC (Rm.ae rfl aN) aN) (aC (oD ZL rfl) aN)) (.inr rfl) Rm.enters
def vE (l1:List aL)(ex1:aL):Option ((List aL)×Int) :=
 cond (cond (decide (ex1.device < 0)) true (cond (decide (ex1.aB < 0)) true (decide (ex1.seq < 1))))
 (some ([],1))
 (ob (Bq l1 ex1) fun r0 =>
 cond (r0)
 (some ([],7))
 (ob (laid l1 [ex1]) fun r1 =>
 some (r1,0)))
def Hv (p:(List aL)×aL):Option ((List aL)×Int):=vE p.1 p.2
def Hh:aV TL:=aV.of (DA.cons (DT.one dP) (DA.one (DT.agg fu))) Hv (DA.cons (DT.one dP) (DA.one dI))
theorem Xj:bi [(208,IK),(209,Pp)] [] (aY tab sl sh [(189,Tc)] [(208,.pure),(209,(.fresh 66))]) 189 (DA.cons (DT.one dP) (DA.one (DT.agg fu))) Hv (DA.cons (DT.one dP) (DA.one dI)):=fun _=>by kernel_rfl
theorem YX:bU PR 189 .keep Hh:=bj Xj (aZ base (aC (Re.ae rfl aN) aN) (aC (oD Z3 rfl) (aC (oD aHK rfl) aN))) (.inl rfl) Re.enters
def tg (s1:ByteArray):Option Bool :=
 some (!dk s1 s1)
def Fy (p:ByteArray):Option Bool:=tg p
def Fv:aV TL:=aV.of (DA.one (DT.one DI.str)) Fy (DA.one dB)
theorem Wa:bi [] [] (aY tab sl sh [(242,U4)] []) 242 (DA.one (DT.one DI.str)) Fy (DA.one dB):=fun _=>by kernel_rfl
theorem Wl:bU PR 242 .pure Fv:=bj Wa (aZ base (aC (To.ae rfl aN) aN) aN) (.inr rfl) To.enters
def iP (s1:ByteArray)(s2:ByteArray):Option Int :=
 ob (tg s1) fun r0 =>
 ob (tg s2) fun r1 =>
 cond (r0)
 (cond (r1)
 (some 0)
 (some (-1)))
 (cond (r1)
 (some 1)
 (cond (WO s1 s2)
 (some (-1))
 (cond (!(WO s1 s2 || dk s1 s2))
 (some 1)
 (some 0))))
def Fq (p:ByteArray×ByteArray):Option Int:=iP p.1 p.2
def q7:aV TL:=aV.of (DA.cons (DT.one DI.str) (DA.one (DT.one DI.str))) Fq (DA.one dI)
theorem W2:bi [(242,Fv)] [] (aY tab sl sh [(217,Rt)] [(242,.pure)]) 217 (DA.cons (DT.one DI.str) (DA.one (DT.one DI.str))) Fq (DA.one dI):=fun _=>by kernel_rfl
theorem ta:bU PR 217 .pure q7:=bj W2 (aZ base (aC (UJ.ae rfl aN) aN) (aC (oD Wl rfl) aN)) (.inr rfl) UJ.enters
def jJ (ex1:aL)(ex2:aL):Option Int :=
 ob (iQ ex1.device ex2.device) fun r0 =>
 ob (iQ ex1.aB ex2.aB) fun r1 =>
 ob (iQ ex1.seq ex2.seq) fun r2 =>
 ob (jy [r0,r1,r2]) fun r3 =>
 some r3
def Ft (p:aL×aL):Option Int:=jJ p.1 p.2
def q0:aV TL:=aV.of (DA.cons (DT.agg fu) (DA.one (DT.agg fu))) Ft (DA.one dI)
theorem W5:bi [(239,mf),(216,mv)] [] (aY tab sl sh [(212,Tp)] [(239,.pure),(216,.pure)]) 212 (DA.cons (DT.agg fu) (DA.one (DT.agg fu))) Ft (DA.one dI):=fun _=>by kernel_rfl
theorem tc:bU PR 212 .pure q0:=bj W5 (aZ base (aC (TQ.ae rfl aN) aN) (aC (oD q9 rfl) (aC (oD qh rfl) aN))) (.inr rfl) TQ.enters
abbrev pu:=(List dE)×Int×Int×ByteArray
def KX (l1:List dE)(i1:Int)(i2:Int)(s1:ByteArray):Option ((pu)⊕((List dE)×Int×ByteArray)) :=
 cond (decide (i1 < i2))
 (cond (decide (0≤(aF ((aF (i1+i2)).tdiv 2))))
 (cond (decide ((aF ((aF (i1+i2)).tdiv 2)) < (l1.length:Int)))
 (ob (l1[((aF ((aF (i1+i2)).tdiv 2))).toNat]?) fun e0 =>
 ob (iP e0.key s1) fun r1 =>
 some (.inl (l1,(cond (decide (r1 < 0)) (aF ((aF ((aF (i1+i2)).tdiv 2))+1)) i1),(cond (decide (r1 < 0)) i2 (aF ((aF (i1+i2)).tdiv 2))),s1)))
 none)
 none)
 (some (.inr (l1,i1,s1)))
def v7 (p:pu):Option ((pu)⊕((List dE)×Int×ByteArray)):=KX p.1 p.2.1 p.2.2.1 p.2.2.2
def ET (l1:List dE)(i1:Int)(i2:Int)(s1:ByteArray):Option ((List dE)×Int×ByteArray):=bm v7 ((i2 - i1).toNat+2) (l1,i1,i2,s1)
def vg:kT (pu):=kO (kS 2 (kC (aE.xs (aE.sc (kA 0))) (kC (aE.xs (aE.sc (aE.dK 236 [] [(1,0)]))) (kC kI (kC kI kN)))) (kC (kR 0 142 dC) (kC (aE.var 1 9 (kC kE kN)) kN))) (fun p=>(p.2.1,p.1.2.2.1,p.1.2.2.2.1,p.2.2.1.1)) (fun (x:pu)=>(((),((),(x.2.1,(x.2.2.1,())))),(x.1,((x.2.2.2,()),())))) (fun _=>rfl)
def B8:kT ((List dE)×Int×ByteArray):=kO (kS 4 (kC (aE.xs (aE.sc (kA 0))) (kC (aE.xs (aE.sc (aE.dK 236 [] [(1,0)]))) (kC kI kN))) (kC (kR 0 142 dC) (kC (aE.var 1 9 (kC kE kN)) kN))) (fun p=>(p.2.1,p.1.2.2.1,p.2.2.1.1)) (fun (x:(List dE)×Int×ByteArray)=>(((),((),(x.2.1,()))),(x.1,((x.2.2,()),())))) (fun _=>rfl)
def MI:aT TL:=aT.one vg.dec (fun p=>ET p.1 p.2.1 p.2.2.1 p.2.2.2) (.exit 0) B8.aJ
def LR:cL:=[(217,q7)]
def Oq:Env:=aY tab sl sh [(236,FH)] [(217,.pure)]
theorem aAO:bK PR (bJ LR sZ) Oq:=aZ base (aC (Sb.ae rfl aN) aN) (aC (oD ta rfl) aN)
theorem aC1 (x:pu):Out.run (bO LR sZ) (bp Oq 12 20 oL.an Ce (ag (a8 oL.body) 2) (vg.aJ x)) (back vg B8 fun e=>ck e (.exit 0))=v7 x:=by kernel_rfl
theorem aEg:bZ PR (bx MI) Tx Ce (ag (a8 oL.body) 2) :=
  dd aAO (loops:=12) (k:=20) (an:=oL.an) (by kernel_rfl) (aR.cI rfl Rq.keys (aC (.inl (by kernel_rfl)) aN)) vg B8 (.exit 0) rfl v7 _ aC1 (fun x y h=>⟨_,h⟩) (fun _=>cA.1 rfl)
abbrev pb:=(List aL)×Int×Int×aL
def J4 (l1:List aL)(i1:Int)(i2:Int)(ex1:aL):Option ((pb)⊕((List aL)×Int×aL)) :=
 cond (decide (i1 < i2))
 (cond (decide (0≤(aF ((aF (i1+i2)).tdiv 2))))
 (cond (decide ((aF ((aF (i1+i2)).tdiv 2)) < (l1.length:Int)))
 (ob (l1[((aF ((aF (i1+i2)).tdiv 2))).toNat]?) fun e0 =>
 ob (jJ e0 ex1) fun r1 =>
 some (.inl (l1,(cond (decide (r1 < 0)) (aF ((aF ((aF (i1+i2)).tdiv 2))+1)) i1),(cond (decide (r1 < 0)) i2 (aF ((aF (i1+i2)).tdiv 2))),ex1)))
 none)
 none)
 (some (.inr (l1,i1,ex1)))
def uY (p:pb):Option ((pb)⊕((List aL)×Int×aL)):=J4 p.1 p.2.1 p.2.2.1 p.2.2.2
def yV (l1:List aL)(i1:Int)(i2:Int)(ex1:aL):Option ((List aL)×Int×aL):=bm uY ((i2 - i1).toNat+2) (l1,i1,i2,ex1)
def wO:kT (pb):=kO (kS 3 (kC (aE.xs (aE.sc (kA 0))) (kC (aE.xs (aE.sc (aE.dK 241 [] [(1,0),(2,0)]))) (kC kI (kC kI kN)))) (kC (kR 0 59 bL) (kC (aE.var 1 279 (kC (aE.dK 212 [] []) kN)) (kC (aE.var 2 59 (kC kJ (kC kJ (kC kJ kN)))) kN)))) (fun ((_,_,z0,z1,_),z2,_,(z3,z4,z5,_),_)=>(z2,z0,z1,(aL.mk z3 z4 z5))) (fun (x:pb)=>(((),((),(x.2.1,(x.2.2.1,())))),(x.1,(((),()),((x.2.2.2.device,(x.2.2.2.aB,(x.2.2.2.seq,()))),()))))) (fun _=>rfl)
def BT:kT ((List aL)×Int×aL):=kO (kS 6 (kC (aE.xs (aE.sc (kA 0))) (kC (aE.xs (aE.sc (aE.dK 241 [] [(1,0),(2,0)]))) (kC kI kN))) (kC (kR 0 59 bL) (kC (aE.var 1 279 (kC (aE.dK 212 [] []) kN)) (kC (aE.var 2 59 (kC kJ (kC kJ (kC kJ kN)))) kN)))) (fun ((_,_,z0,_),z1,_,(z2,z3,z4,_),_)=>(z1,z0,(aL.mk z2 z3 z4))) (fun (x:(List aL)×Int×aL)=>(((),((),(x.2.1,()))),(x.1,(((),()),((x.2.2.device,(x.2.2.aB,(x.2.2.seq,()))),()))))) (fun _=>rfl)
def Bn:aT TL:=aT.one wO.dec (fun p=>yV p.1 p.2.1 p.2.2.1 p.2.2.2) (.exit 0) BT.aJ
def Ld:cL:=[(212,q0)]
def OR:Env:=aY tab sl sh [(241,yn)] [(212,.pure)]
theorem aBF:bK PR (bJ Ld sZ) OR:=aZ base (aC (FF.ae rfl aN) aN) (aC (oD tc rfl) aN)
theorem aBs (x:pb):Out.run (bO Ld sZ) (bp OR 12 20 m7.an CU (ag (a8 m7.body) 2) (wO.aJ x)) (back wO BT fun e=>ck e (.exit 0))=uY x:=by kernel_rfl
theorem Mk:bZ PR (bx Bn) Rp CU (ag (a8 m7.body) 2) :=
  dd aBF (loops:=12) (k:=20) (an:=m7.an) (by kernel_rfl) (aR.cI rfl E3.keys (aC (.inl (by kernel_rfl)) aN)) wO BT (.exit 0) rfl uY _ aBs (fun x y h=>⟨_,h⟩) (fun _=>cA.1 rfl)
abbrev pw:=(List cH)×Int×Int×Op
def K8 (l1:List cH)(i1:Int)(i2:Int)(o1:Op):Option ((pw)⊕((List cH)×Int×Op)) :=
 cond (decide (i1 < i2))
 (cond (decide (0≤(aF ((aF (i1+i2)).tdiv 2))))
 (cond (decide ((aF ((aF (i1+i2)).tdiv 2)) < (l1.length:Int)))
 (ob (l1[((aF ((aF (i1+i2)).tdiv 2))).toNat]?) fun e0 =>
 ob (iP e0.key o1.key) fun r1 =>
 ob (iP e0.text o1.text) fun r2 =>
 ob (jJ e0.al o1.al) fun r3 =>
 ob (jy [r1,r2,r3]) fun r4 =>
 some (.inl (l1,(cond (decide (r4 < 0)) (aF ((aF ((aF (i1+i2)).tdiv 2))+1)) i1),(cond (decide (r4 < 0)) i2 (aF ((aF (i1+i2)).tdiv 2))),o1)))
 none)
 none)
 (some (.inr (l1,i1,o1)))
def uZ (p:pw):Option ((pw)⊕((List cH)×Int×Op)):=K8 p.1 p.2.1 p.2.2.1 p.2.2.2
def yG (l1:List cH)(i1:Int)(i2:Int)(o1:Op):Option ((List cH)×Int×Op):=bm uZ ((i2 - i1).toNat+2) (l1,i1,i2,o1)
def wH:kT (pw):=kO (kS 2 (kC (aE.xs (aE.sc (kA 0))) (kC (aE.xs (aE.sc (aE.dK 215 [] [(1,0)]))) (kC kI (kC kI kN)))) (kC (kR 0 145 cd) (kC (aE.var 1 61 kQ) kN))) (fun p=>(p.2.1,p.1.2.2.1,p.1.2.2.2.1,p.2.2.1)) (fun (x:pw)=>(((),((),(x.2.1,(x.2.2.1,())))),(x.1,(x.2.2.2,())))) (fun _=>rfl)
def BL:kT ((List cH)×Int×Op):=kO (kS 4 (kC (aE.xs (aE.sc (kA 0))) (kC (aE.xs (aE.sc (aE.dK 215 [] [(1,0)]))) (kC kI kN))) (kC (kR 0 145 cd) (kC (aE.var 1 61 kQ) kN))) (fun p=>(p.2.1,p.1.2.2.1,p.2.2.1)) (fun (x:(List cH)×Int×Op)=>(((),((),(x.2.1,()))),(x.1,(x.2.2,())))) (fun _=>rfl)
def M1:aT TL:=aT.one wH.dec (fun p=>yG p.1 p.2.1 p.2.2.1 p.2.2.2) (.exit 0) BL.aJ
def LN:cL:=[(217,q7),(212,q0),(216,mv)]
def Nx:Env:=aY tab sl sh [(215,Ew)] [(217,.pure),(212,.pure),(216,.pure)]
theorem aBL:bK PR (bJ LN sZ) Nx:=aZ base (aC (TS.ae rfl aN) aN) (aC (oD ta rfl) (aC (oD tc rfl) (aC (oD qh rfl) aN)))
theorem aDJ (x:pw):Out.run (bO LN sZ) (bp Nx 12 20 oJ.an Cj (ag (a8 oJ.body) 2) (wH.aJ x)) (back wH BL fun e=>ck e (.exit 0))=uZ x:=by kernel_rfl
theorem aEL:bZ PR (bx M1) Td Cj (ag (a8 oJ.body) 2) :=
  dd aBL (loops:=12) (k:=20) (an:=oJ.an) (by kernel_rfl) (aR.cI rfl U6.keys (aC (.inl (by kernel_rfl)) aN)) wH BL (.exit 0) rfl uZ _ aDJ (fun x y h=>⟨_,h⟩) (fun _=>cA.1 rfl)
abbrev p0:=(List cH)×Int×Int×aL
def J3 (l1:List cH)(i1:Int)(i2:Int)(ex1:aL):Option ((p0)⊕((List cH)×Int×aL)) :=
 cond (decide (i2 < (l1.length:Int)))
 (cond (decide (0≤i2))
 (cond (decide (i2 < (l1.length:Int)))
 (ob (l1[i2.toNat]?) fun e0 =>
 cond (!(cond (e0.al.device == ex1.device) (cond (e0.al.aB == ex1.aB) (cond (e0.al.seq == ex1.seq) true false) false) false))
 (cond (decide (0≤i1))
 (cond (decide (i1 < (l1.length:Int)))
 (ob (l1[i1.toNat]?) fun _ =>
 some (.inl ((l1.set i1.toNat e0),(aF (i1+1)),(aF (i2+1)),ex1)))
 none)
 none)
 (some (.inl (l1,i1,(aF (i2+1)),ex1))))
 none)
 none)
 (some (.inr (l1,i1,ex1)))
def vL (p:p0):Option ((p0)⊕((List cH)×Int×aL)):=J3 p.1 p.2.1 p.2.2.1 p.2.2.2
def sk (l1:List cH)(i1:Int)(i2:Int)(ex1:aL):Option ((List cH)×Int×aL):=bm vL (((l1.length:Int) - i2).toNat+2) (l1,i1,i2,ex1)
def wm:kT (p0):=kO (kS 2 (kC (aE.xs (aE.sc (kA 0))) (kC (aE.xs (aE.sc (aE.dK 221 [] [(1,0)]))) (kC kI (kC kI kN)))) (kC (kR 0 145 cd) (kC (aE.var 1 59 (kC kJ (kC kJ (kC kJ kN)))) kN))) (fun ((_,_,z0,z1,_),z2,(z3,z4,z5,_),_)=>(z2,z0,z1,(aL.mk z3 z4 z5))) (fun (x:p0)=>(((),((),(x.2.1,(x.2.2.1,())))),(x.1,((x.2.2.2.device,(x.2.2.2.aB,(x.2.2.2.seq,()))),())))) (fun _=>rfl)
def Au:kT ((List cH)×Int×aL):=kO (kS 4 (kC (aE.xs (aE.sc (kA 0))) (kC kI kN)) (kC (kR 0 145 cd) (kC (aE.var 1 59 (kC kJ (kC kJ (kC kJ kN)))) kN))) (fun p=>(p.2.1,p.1.2.1,(aL.mk p.2.2.1.1 p.2.2.1.2.1 p.2.2.1.2.2.1))) (fun (x:(List cH)×Int×aL)=>(((),(x.2.1,())),(x.1,((x.2.2.device,(x.2.2.aB,(x.2.2.seq,()))),())))) (fun _=>rfl)
def NV:aT TL:=aT.one wm.dec (fun p=>sk p.1 p.2.1 p.2.2.1 p.2.2.2) (.exit 0) Au.aJ
def Pc:Env:=aY tab sl sh [(221,Eh)] []
theorem aA5:bK PR (bJ cZ sZ) Pc:=aZ base (aC (Se.ae rfl aN) aN) aN
theorem aB3 (x:p0):Out.run (bO cZ sZ) (bp Pc 12 20 ox.an C4 (ag (a8 ox.body) 5) (wm.aJ x)) (back wm Au fun e=>ck e (.exit 0))=vL x:=by kernel_rfl
theorem aEc:bZ PR (bx NV) TO C4 (ag (a8 ox.body) 5) :=
  dd aA5 (loops:=12) (k:=20) (an:=ox.an) (by kernel_rfl) (aR.cI rfl Rv.keys (aC (.inl (by kernel_rfl)) aN)) wm Au (.exit 0) rfl vL _ aB3 (fun x y h=>⟨_,h⟩) (fun _=>cA.1 rfl)
abbrev pO:=(List cH)×Int×Int×Int×aL
def Kc (l1:List cH)(i1:Int)(i2:Int)(i3:Int)(ex1:aL):Option ((pO)⊕(((Int×aL×(List cH))⊕(Int×aL×(List cH))))) :=
 cond (decide (i3 < i2))
 (cond (decide (0≤i3))
 (cond (decide (i3 < (l1.length:Int)))
 (ob (l1[i3.toNat]?) fun e0 =>
 cond (cond (e0.al.device == ex1.device) (cond (e0.al.aB == ex1.aB) (cond (e0.al.seq == ex1.seq) true false) false) false)
 (some (.inr (.inr (i3,ex1,l1))))
 (some (.inl (l1,i1,i2,(aF (i3+1)),ex1))))
 none)
 none)
 (some (.inr (.inl (i1,ex1,l1))))
def uX (p:pO):Option ((pO)⊕(((Int×aL×(List cH))⊕(Int×aL×(List cH))))):=Kc p.1 p.2.1 p.2.2.1 p.2.2.2.1 p.2.2.2.2
def sj (l1:List cH)(i1:Int)(i2:Int)(i3:Int)(ex1:aL):Option (((Int×aL×(List cH))⊕(Int×aL×(List cH)))):=bm uX ((i2 - i3).toNat+2) (l1,i1,i2,i3,ex1)
def w6:kT (pO):=kO (kS 2 (kC (aE.xs (aE.sc (kA 0))) (kC (aE.xs (aE.sc (aE.dK 221 [] [(1,0)]))) (kC kI (kC kI (kC kI kN))))) (kC (kR 0 145 cd) (kC (aE.var 1 59 (kC kJ (kC kJ (kC kJ kN)))) kN))) (fun ((_,_,z0,z1,z2,_),z3,(z4,z5,z6,_),_)=>(z3,z0,z1,z2,(aL.mk z4 z5 z6))) (fun (x:pO)=>(((),((),(x.2.1,(x.2.2.1,(x.2.2.2.1,()))))),(x.1,((x.2.2.2.2.device,(x.2.2.2.2.aB,(x.2.2.2.2.seq,()))),())))) (fun _=>rfl)
def nG:kT (Int×aL×(List cH)):=kO (kS 4 (kC kI kN) (kC (kR 0 145 cd) (kC (aE.var 1 59 (kC kJ (kC kJ (kC kJ kN)))) kN))) (fun ((z0,_),z1,(z2,z3,z4,_),_)=>(z0,(aL.mk z2 z3 z4),z1)) (fun (x:Int×aL×(List cH))=>((x.1,()),(x.2.2,((x.2.1.device,(x.2.1.aB,(x.2.1.seq,()))),())))) (fun _=>rfl)
def Ni:aT TL:=aT.two w6.dec (fun p=>sj p.1 p.2.1 p.2.2.1 p.2.2.2.1 p.2.2.2.2) (.exit 0) .ret nG.aJ nG.aJ
def OW:Env:=aY tab sl sh [(221,Eh)] []
theorem aBY:bK PR (bJ cZ sZ) OW:=aZ base (aC (Se.ae rfl aN) aN) aN
theorem aCi (x:pO):Out.run (bO cZ sZ) (bp OW 12 20 o7.an CQ (ag (a8 o7.body) 2) (w6.aJ x)) (cj w6 nG nG (.exit 0) .ret)=uX x:=by kernel_rfl
theorem aDa:bZ PR (bx Ni) Sn CQ (ag (a8 o7.body) 2) :=
  dL aBY (loops:=12) (k:=20) (an:=o7.an) (by kernel_rfl) (aR.cI rfl Sm.keys (aC (.inl (by kernel_rfl)) aN)) w6 nG nG (.exit 0) .ret rfl rfl uX _ aCi (fun x y h=>⟨_,h⟩) (fun _=>cA.1 rfl)
abbrev pt:=(List aL)×Int×Int×ah×ah
def Jp (l1:List aL)(i1:Int)(i2:Int)(c1:ah)(c2:ah):Option ((pt)⊕(ah×ah)) :=
 cond (decide (i2 < i1))
 (cond (decide (0≤i2))
 (ob (l1[i2.toNat]?) fun e0 =>
 ob (yV c1.gone 0 (c1.gone.length:Int) e0) fun y1 =>
 cond (decide (y1.2.1 < (y1.1.length:Int)))
 (cond (decide (0≤y1.2.1))
 (cond (decide (y1.2.1 < (y1.1.length:Int)))
 (ob (y1.1[y1.2.1.toNat]?) fun e2 =>
 ob (jJ e2 y1.2.2) fun r3 =>
 cond (!(r3 == 0))
 (cond (decide (0≤y1.2.1))
 (cond (decide (y1.2.1≤(y1.1.length:Int)))
 (cond (fits ((((y1.1.take y1.2.1.toNat)++[e0])++((y1.1.take y1.1.length).drop y1.2.1.toNat)).length))
 (ob (sj c1.bY 0 (c1.bY.length:Int) 0 e0) fun y4 =>
 two y4 (fun a5 =>
 some (.inl (l1,i1,(aF (i2+1)),(ah.mk c1.v c1.be a5.2.2 (((y1.1.take y1.2.1.toNat)++[e0])++((y1.1.take y1.1.length).drop y1.2.1.toNat)) c1.bc c1.binds),c2))) (fun b6 =>
 cond (b6.1 == (-1))
 (some (.inl (l1,i1,(aF (i2+1)),(ah.mk c1.v c1.be b6.2.2 (((y1.1.take y1.2.1.toNat)++[e0])++((y1.1.take y1.1.length).drop y1.2.1.toNat)) c1.bc c1.binds),c2)))
 (ob (sk b6.2.2 b6.1 (aF (b6.1+1)) b6.2.1) fun y7 =>
 cond (decide (0≤y7.2.1))
 (cond (decide (y7.2.1≤(y7.1.length:Int)))
 (cond (decide ((y7.1.length:Int)≤(y7.1.length:Int)))
 (cond (decide (0≤y7.2.1))
 (cond (decide (y7.2.1≤((((y7.1.take y7.2.1.toNat)++(List.replicate (((y7.1.length:Int)).toNat - y7.2.1.toNat) (cH.mk dO dO 0 (aL.mk 0 0 0))))++((y7.1.take y7.1.length).drop (y7.2.1.toNat+(((y7.1.length:Int)).toNat - y7.2.1.toNat)))).length:Int)))
 (some (.inl (l1,i1,(aF (i2+1)),(ah.mk c1.v c1.be ((((y7.1.take y7.2.1.toNat)++(List.replicate (((y7.1.length:Int)).toNat - y7.2.1.toNat) (cH.mk dO dO 0 (aL.mk 0 0 0))))++((y7.1.take y7.1.length).drop (y7.2.1.toNat+(((y7.1.length:Int)).toNat - y7.2.1.toNat)))).take y7.2.1.toNat) (((y1.1.take y1.2.1.toNat)++[e0])++((y1.1.take y1.1.length).drop y1.2.1.toNat)) c1.bc c1.binds),c2)))
 none)
 none)
 none)
 none)
 none)))
 none)
 none)
 none)
 (ob (sj c1.bY 0 (c1.bY.length:Int) 0 e0) fun y8 =>
 two y8 (fun a9 =>
 some (.inl (l1,i1,(aF (i2+1)),(ah.mk c1.v c1.be a9.2.2 y1.1 c1.bc c1.binds),c2))) (fun b10 =>
 cond (b10.1 == (-1))
 (some (.inl (l1,i1,(aF (i2+1)),(ah.mk c1.v c1.be b10.2.2 y1.1 c1.bc c1.binds),c2)))
 (ob (sk b10.2.2 b10.1 (aF (b10.1+1)) b10.2.1) fun y11 =>
 cond (decide (0≤y11.2.1))
 (cond (decide (y11.2.1≤(y11.1.length:Int)))
 (cond (decide ((y11.1.length:Int)≤(y11.1.length:Int)))
 (cond (decide (0≤y11.2.1))
 (cond (decide (y11.2.1≤((((y11.1.take y11.2.1.toNat)++(List.replicate (((y11.1.length:Int)).toNat - y11.2.1.toNat) (cH.mk dO dO 0 (aL.mk 0 0 0))))++((y11.1.take y11.1.length).drop (y11.2.1.toNat+(((y11.1.length:Int)).toNat - y11.2.1.toNat)))).length:Int)))
 (some (.inl (l1,i1,(aF (i2+1)),(ah.mk c1.v c1.be ((((y11.1.take y11.2.1.toNat)++(List.replicate (((y11.1.length:Int)).toNat - y11.2.1.toNat) (cH.mk dO dO 0 (aL.mk 0 0 0))))++((y11.1.take y11.1.length).drop (y11.2.1.toNat+(((y11.1.length:Int)).toNat - y11.2.1.toNat)))).take y11.2.1.toNat) y1.1 c1.bc c1.binds),c2)))
 none)
 none)
 none)
 none)
 none))))
 none)
 none)
 (cond (decide (0≤y1.2.1))
 (cond (decide (y1.2.1≤(y1.1.length:Int)))
 (cond (fits ((((y1.1.take y1.2.1.toNat)++[e0])++((y1.1.take y1.1.length).drop y1.2.1.toNat)).length))
 (ob (sj c1.bY 0 (c1.bY.length:Int) 0 e0) fun y12 =>
 two y12 (fun a13 =>
 some (.inl (l1,i1,(aF (i2+1)),(ah.mk c1.v c1.be a13.2.2 (((y1.1.take y1.2.1.toNat)++[e0])++((y1.1.take y1.1.length).drop y1.2.1.toNat)) c1.bc c1.binds),c2))) (fun b14 =>
 cond (b14.1 == (-1))
 (some (.inl (l1,i1,(aF (i2+1)),(ah.mk c1.v c1.be b14.2.2 (((y1.1.take y1.2.1.toNat)++[e0])++((y1.1.take y1.1.length).drop y1.2.1.toNat)) c1.bc c1.binds),c2)))
 (ob (sk b14.2.2 b14.1 (aF (b14.1+1)) b14.2.1) fun y15 =>
 cond (decide (0≤y15.2.1))
 (cond (decide (y15.2.1≤(y15.1.length:Int)))
 (cond (decide ((y15.1.length:Int)≤(y15.1.length:Int)))
 (cond (decide (0≤y15.2.1))
 (cond (decide (y15.2.1≤((((y15.1.take y15.2.1.toNat)++(List.replicate (((y15.1.length:Int)).toNat - y15.2.1.toNat) (cH.mk dO dO 0 (aL.mk 0 0 0))))++((y15.1.take y15.1.length).drop (y15.2.1.toNat+(((y15.1.length:Int)).toNat - y15.2.1.toNat)))).length:Int)))
 (some (.inl (l1,i1,(aF (i2+1)),(ah.mk c1.v c1.be ((((y15.1.take y15.2.1.toNat)++(List.replicate (((y15.1.length:Int)).toNat - y15.2.1.toNat) (cH.mk dO dO 0 (aL.mk 0 0 0))))++((y15.1.take y15.1.length).drop (y15.2.1.toNat+(((y15.1.length:Int)).toNat - y15.2.1.toNat)))).take y15.2.1.toNat) (((y1.1.take y1.2.1.toNat)++[e0])++((y1.1.take y1.1.length).drop y1.2.1.toNat)) c1.bc c1.binds),c2)))
 none)
 none)
 none)
 none)
 none)))
 none)
 none)
 none))
 none)
 (some (.inr (c1,c2)))
def u6 (p:pt):Option ((pt)⊕(ah×ah)):=Jp p.1 p.2.1 p.2.2.1 p.2.2.2.1 p.2.2.2.2
def EX (l1:List aL)(i1:Int)(i2:Int)(c1:ah)(c2:ah):Option (ah×ah):=bm u6 ((i1 - i2).toNat+2) (l1,i1,i2,c1,c2)
def wi:kT (pt):=kO (kS 13 (kC (kP 0 0) (kC (kP 1 0) (kC (kF bL) (kC kI (kC kI kN))))) (kC (aE.var 0 37 (kC (kG bL) (kC (kA 2) (kC (kA 3) (kC (kA 4) (kC (kA 5) (kC (kA 6) kN))))))) (kC (aE.var 1 37 (kC (kA 7) (kC (kA 8) (kC (kA 9) (kC (kA 10) (kC (kA 11) (kC (kA 12) kN))))))) (kC (kR 2 142 dC) (kC (kR 3 145 cd) (kC (kR 4 59 bL) (kC (kR 5 129 dD) (kC (kR 6 149 dA) (kC (kR 7 66 bL) (kC (kR 8 142 dC) (kC (kR 9 145 cd) (kC (kR 10 59 bL) (kC (kR 11 129 dD) (kC (kR 12 149 dA) kN)))))))))))))) (fun p=>(p.1.2.2.1,p.1.2.2.2.1,p.1.2.2.2.2.1,(ah.mk p.2.1.1 p.2.2.2.1 p.2.2.2.2.1 p.2.2.2.2.2.1 p.2.2.2.2.2.2.1 p.2.2.2.2.2.2.2.1),(ah.mk p.2.2.2.2.2.2.2.2.1 (t8 p.2).1 (t8 p.2).2.1 (t8 p.2).2.2.1 (t8 p.2).2.2.2.1 (t8 p.2).2.2.2.2.1))) (fun (x:pt)=>(((),((),(x.1,(x.2.1,(x.2.2.1,()))))),((x.2.2.2.1.v,((),((),((),((),((),())))))),(((),((),((),((),((),((),())))))),(x.2.2.2.1.be,(x.2.2.2.1.bY,(x.2.2.2.1.gone,(x.2.2.2.1.bc,(x.2.2.2.1.binds,(x.2.2.2.2.v,(x.2.2.2.2.be,(x.2.2.2.2.bY,(x.2.2.2.2.gone,(x.2.2.2.2.bc,(x.2.2.2.2.binds,()))))))))))))))) (fun _=>rfl)
def BZ:kT (ah×ah):=kO (kS 26 (kC (kP 0 0) (kC (kP 1 0) kN)) (kC (aE.var 0 37 (kC (kG bL) (kC (kA 2) (kC (kA 24) (kC (kA 25) (kC (kA 5) (kC (kA 6) kN))))))) (kC (aE.var 1 37 (kC (kA 7) (kC (kA 8) (kC (kA 9) (kC (kA 10) (kC (kA 11) (kC (kA 12) kN))))))) (kC (kR 2 142 dC) (kC (kR 5 129 dD) (kC (kR 6 149 dA) (kC (kR 7 66 bL) (kC (kR 8 142 dC) (kC (kR 9 145 cd) (kC (kR 10 59 bL) (kC (kR 11 129 dD) (kC (kR 12 149 dA) (kC (kR 24 145 cd) (kC (kR 25 59 bL) kN)))))))))))))) (fun p=>((ah.mk p.2.1.1 p.2.2.2.1 (t8 p.2).2.2.2.1 (t8 p.2).2.2.2.2.1 p.2.2.2.2.1 p.2.2.2.2.2.1),(ah.mk p.2.2.2.2.2.2.1 p.2.2.2.2.2.2.2.1 p.2.2.2.2.2.2.2.2.1 (t8 p.2).1 (t8 p.2).2.1 (t8 p.2).2.2.1))) (fun (x:ah×ah)=>(((),((),())),((x.1.v,((),((),((),((),((),())))))),(((),((),((),((),((),((),())))))),(x.1.be,(x.1.bc,(x.1.binds,(x.2.v,(x.2.be,(x.2.bY,(x.2.gone,(x.2.bc,(x.2.binds,(x.1.bY,(x.1.gone,()))))))))))))))) (fun _=>rfl)
def Mc:aT TL:=aT.one wi.dec (fun p=>EX p.1 p.2.1 p.2.2.1 p.2.2.2.1 p.2.2.2.2) (.exit 0) BZ.aJ
def Lk:cL:=[(212,q0)]
def Kr:sL:=[(340002,Bn),(320005,NV),(347002,Ni)]
def PC:Env:=aY tab sl sh [(213,Ea),(240,m7),(241,yn),(220,ox),(247,o7)] [(212,.pure),(219,(.ins 59))]
theorem aAl:bK PR (bJ Lk Kr) PC:=aZ base (aC (TH.ae rfl aN) (aC (E3.ae rfl (aC (lC Mk rfl) aN)) (aC (FF.ae rfl aN) (aC (Rv.ae rfl (aC (lC aEc rfl) aN)) (aC (Sm.ae rfl (aC (lC aDa rfl) aN)) aN))))) (aC (oD tc rfl) (aC (lT aGa) aN))
theorem aCb (x:pt):Out.run (bO Lk Kr) (bp PC 12 20 ou.an Cy (ag (a8 ou.body) 2) (wi.aJ x)) (back wi BZ fun e=>ck e (.exit 0))=u6 x:=by kernel_rfl
theorem aD4:bZ PR (bx Mc) UH Cy (ag (a8 ou.body) 2) :=
  dd aAl (loops:=12) (k:=20) (an:=ou.an) (by kernel_rfl) (aR.cI rfl Tt.keys (aC (.inl (by kernel_rfl)) aN)) wi BZ (.exit 0) rfl u6 _ aCb (fun x y h=>⟨_,h⟩) (fun _=>cA.1 rfl)
abbrev pq:=(List Sum)×Int×Int×ByteArray
def JS (l1:List Sum)(i1:Int)(i2:Int)(s1:ByteArray):Option ((pq)⊕((List Sum)×Int×ByteArray)) :=
 cond (decide (i1 < i2))
 (cond (decide (0≤(aF ((aF (i1+i2)).tdiv 2))))
 (cond (decide ((aF ((aF (i1+i2)).tdiv 2)) < (l1.length:Int)))
 (ob (l1[((aF ((aF (i1+i2)).tdiv 2))).toNat]?) fun e0 =>
 ob (iP e0.key s1) fun r1 =>
 some (.inl (l1,(cond (decide (r1 < 0)) (aF ((aF ((aF (i1+i2)).tdiv 2))+1)) i1),(cond (decide (r1 < 0)) i2 (aF ((aF (i1+i2)).tdiv 2))),s1)))
 none)
 none)
 (some (.inr (l1,i1,s1)))
def vY (p:pq):Option ((pq)⊕((List Sum)×Int×ByteArray)):=JS p.1 p.2.1 p.2.2.1 p.2.2.2
def EW (l1:List Sum)(i1:Int)(i2:Int)(s1:ByteArray):Option ((List Sum)×Int×ByteArray):=bm vY ((i2 - i1).toNat+2) (l1,i1,i2,s1)
def wU:kT (pq):=kO (kS 2 (kC (aE.xs (aE.sc (kA 0))) (kC (aE.xs (aE.sc (aE.dK 249 [] [(1,0)]))) (kC kI (kC kI kN)))) (kC (kR 0 129 dD) (kC (aE.var 1 9 (kC kE kN)) kN))) (fun p=>(p.2.1,p.1.2.2.1,p.1.2.2.2.1,p.2.2.1.1)) (fun (x:pq)=>(((),((),(x.2.1,(x.2.2.1,())))),(x.1,((x.2.2.2,()),())))) (fun _=>rfl)
def BD:kT ((List Sum)×Int×ByteArray):=kO (kS 4 (kC (aE.xs (aE.sc (kA 0))) (kC (aE.xs (aE.sc (aE.dK 249 [] [(1,0)]))) (kC kI kN))) (kC (kR 0 129 dD) (kC (aE.var 1 9 (kC kE kN)) kN))) (fun p=>(p.2.1,p.1.2.2.1,p.2.2.1.1)) (fun (x:(List Sum)×Int×ByteArray)=>(((),((),(x.2.1,()))),(x.1,((x.2.2,()),())))) (fun _=>rfl)
def MX:aT TL:=aT.one wU.dec (fun p=>EW p.1 p.2.1 p.2.2.1 p.2.2.2) (.exit 0) BD.aJ
def MD:cL:=[(217,q7)]
def Pd:Env:=aY tab sl sh [(249,E2)] [(217,.pure)]
theorem aAw:bK PR (bJ MD sZ) Pd:=aZ base (aC (TA.ae rfl aN) aN) (aC (oD ta rfl) aN)
theorem aCL (x:pq):Out.run (bO MD sZ) (bp Pd 12 20 oN.an Cc (ag (a8 oN.body) 2) (wU.aJ x)) (back wU BD fun e=>ck e (.exit 0))=vY x:=by kernel_rfl
theorem aDg:bZ PR (bx MX) SE Cc (ag (a8 oN.body) 2) :=
  dd aAw (loops:=12) (k:=20) (an:=oN.an) (by kernel_rfl) (aR.cI rfl Ss.keys (aC (.inl (by kernel_rfl)) aN)) wU BD (.exit 0) rfl vY _ aCL (fun x y h=>⟨_,h⟩) (fun _=>cA.1 rfl)
abbrev pf:=(List Bind)×Int×Int×Int
def J0 (l1:List Bind)(i1:Int)(i2:Int)(i3:Int):Option ((pf)⊕((List Bind)×Int×Int)) :=
 cond (decide (i1 < i2))
 (cond (decide (0≤(aF ((aF (i1+i2)).tdiv 2))))
 (cond (decide ((aF ((aF (i1+i2)).tdiv 2)) < (l1.length:Int)))
 (ob (l1[((aF ((aF (i1+i2)).tdiv 2))).toNat]?) fun e0 =>
 ob (iQ e0.tY i3) fun r1 =>
 some (.inl (l1,(cond (decide (r1 < 0)) (aF ((aF ((aF (i1+i2)).tdiv 2))+1)) i1),(cond (decide (r1 < 0)) i2 (aF ((aF (i1+i2)).tdiv 2))),i3)))
 none)
 none)
 (some (.inr (l1,i1,i3)))
def uc (p:pf):Option ((pf)⊕((List Bind)×Int×Int)):=J0 p.1 p.2.1 p.2.2.1 p.2.2.2
def EE (l1:List Bind)(i1:Int)(i2:Int)(i3:Int):Option ((List Bind)×Int×Int):=bm uc ((i2 - i1).toNat+2) (l1,i1,i2,i3)
def wc:kT (pf):=kO (kS 2 (kC (aE.xs (aE.sc (kA 0))) (kC (aE.xs (aE.sc (aE.dK 253 [] [(1,0)]))) (kC kI (kC kI kN)))) (kC (kR 0 149 dA) (kC (aE.var 1 3 (kC kJ kN)) kN))) (fun p=>(p.2.1,p.1.2.2.1,p.1.2.2.2.1,p.2.2.1.1)) (fun (x:pf)=>(((),((),(x.2.1,(x.2.2.1,())))),(x.1,((x.2.2.2,()),())))) (fun _=>rfl)
def BM:kT ((List Bind)×Int×Int):=kO (kS 4 (kC (aE.xs (aE.sc (kA 0))) (kC (aE.xs (aE.sc (aE.dK 253 [] [(1,0)]))) (kC kI kN))) (kC (kR 0 149 dA) (kC (aE.var 1 3 (kC kJ kN)) kN))) (fun p=>(p.2.1,p.1.2.2.1,p.2.2.1.1)) (fun (x:(List Bind)×Int×Int)=>(((),((),(x.2.1,()))),(x.1,((x.2.2,()),())))) (fun _=>rfl)
def My:aT TL:=aT.one wc.dec (fun p=>EE p.1 p.2.1 p.2.2.1 p.2.2.2) (.exit 0) BM.aJ
def L9:cL:=[(239,mf)]
def Ov:Env:=aY tab sl sh [(253,FA)] [(239,.pure)]
theorem aAa:bK PR (bJ L9 sZ) Ov:=aZ base (aC (Th.ae rfl aN) aN) (aC (oD q9 rfl) aN)
theorem aBd (x:pf):Out.run (bO L9 sZ) (bp Ov 12 20 oQ.an CV (ag (a8 oQ.body) 2) (wc.aJ x)) (back wc BM fun e=>ck e (.exit 0))=uc x:=by kernel_rfl
theorem aEE:bZ PR (bx My) Tm CV (ag (a8 oQ.body) 2) :=
  dd aAa (loops:=12) (k:=20) (an:=oQ.an) (by kernel_rfl) (aR.cI rfl UL.keys (aC (.inl (by kernel_rfl)) aN)) wc BM (.exit 0) rfl uc _ aBd (fun x y h=>⟨_,h⟩) (fun _=>cA.1 rfl)
def vo (c1:ah)(o1:Op):Option (ah×Int) :=
 ob (eK c1) fun y0 =>
 ob (nY o1) fun r1 =>
 cond (r1 != 0)
 (some (y0,r1))
 (ob (vE y0.v o1.al) fun r2 =>
 cond (r2.2 != 0)
 (some (y0,r2.2))
 (cond (o1.kind == 1)
 (ob (ET y0.be 0 (y0.be.length:Int) o1.key) fun y3 =>
 cond (decide (y3.2.1 < (y3.1.length:Int)))
 (cond (decide (0≤y3.2.1))
 (cond (decide (y3.2.1 < (y3.1.length:Int)))
 (ob (y3.1[y3.2.1.toNat]?) fun e4 =>
 ob (iP e4.key y3.2.2) fun r5 =>
 cond (!(r5 == 0))
 (cond (decide (0≤y3.2.1))
 (cond (decide (y3.2.1≤(y3.1.length:Int)))
 (cond (fits ((((y3.1.take y3.2.1.toNat)++[(dE.mk o1.key o1.text o1.cU o1.time o1.al)])++((y3.1.take y3.1.length).drop y3.2.1.toNat)).length))
 (ob (eK (ah.mk r2.1 (((y3.1.take y3.2.1.toNat)++[(dE.mk o1.key o1.text o1.cU o1.time o1.al)])++((y3.1.take y3.1.length).drop y3.2.1.toNat)) y0.bY y0.gone y0.bc y0.binds)) fun y39 =>
 some (y39,0))
 none)
 none)
 none)
 (cond (decide (0≤y3.2.1))
 (cond (decide (y3.2.1 < (y3.1.length:Int)))
 (ob (y3.1[y3.2.1.toNat]?) fun e6 =>
 cond (decide (o1.time > e6.time))
 (cond (decide (0≤y3.2.1))
 (cond (decide (y3.2.1 < (y3.1.length:Int)))
 (ob (y3.1[y3.2.1.toNat]?) fun _ =>
 ob (eK (ah.mk r2.1 (y3.1.set y3.2.1.toNat (dE.mk o1.key o1.text o1.cU o1.time o1.al)) y0.bY y0.gone y0.bc y0.binds)) fun y40 =>
 some (y40,0))
 none)
 none)
 (cond (decide (0≤y3.2.1))
 (cond (decide (y3.2.1 < (y3.1.length:Int)))
 (ob (y3.1[y3.2.1.toNat]?) fun e7 =>
 cond (o1.time == e7.time)
 (cond (decide (0≤y3.2.1))
 (cond (decide (y3.2.1 < (y3.1.length:Int)))
 (ob (y3.1[y3.2.1.toNat]?) fun e8 =>
 ob (jJ o1.al e8.al) fun r9 =>
 cond (decide (r9 > 0))
 (cond (decide (0≤y3.2.1))
 (cond (decide (y3.2.1 < (y3.1.length:Int)))
 (ob (y3.1[y3.2.1.toNat]?) fun _ =>
 ob (eK (ah.mk r2.1 (y3.1.set y3.2.1.toNat (dE.mk o1.key o1.text o1.cU o1.time o1.al)) y0.bY y0.gone y0.bc y0.binds)) fun y41 =>
 some (y41,0))
 none)
 none)
 (ob (eK (ah.mk r2.1 y3.1 y0.bY y0.gone y0.bc y0.binds)) fun y42 =>
 some (y42,0)))
 none)
 none)
 (ob (eK (ah.mk r2.1 y3.1 y0.bY y0.gone y0.bc y0.binds)) fun y43 =>
 some (y43,0)))
 none)
 none))
 none)
 none))
 none)
 none)
 (cond (decide (0≤y3.2.1))
 (cond (decide (y3.2.1≤(y3.1.length:Int)))
 (cond (fits ((((y3.1.take y3.2.1.toNat)++[(dE.mk o1.key o1.text o1.cU o1.time o1.al)])++((y3.1.take y3.1.length).drop y3.2.1.toNat)).length))
 (ob (eK (ah.mk r2.1 (((y3.1.take y3.2.1.toNat)++[(dE.mk o1.key o1.text o1.cU o1.time o1.al)])++((y3.1.take y3.1.length).drop y3.2.1.toNat)) y0.bY y0.gone y0.bc y0.binds)) fun y44 =>
 some (y44,0))
 none)
 none)
 none))
 (cond (o1.kind == 2)
 (ob (yV y0.gone 0 (y0.gone.length:Int) o1.al) fun y12 =>
 cond (decide (y12.2.1 < (y12.1.length:Int)))
 (cond (decide (0≤y12.2.1))
 (cond (decide (y12.2.1 < (y12.1.length:Int)))
 (ob (y12.1[y12.2.1.toNat]?) fun e13 =>
 ob (jJ e13 y12.2.2) fun r14 =>
 cond (r14 == 0)
 (ob (eK (ah.mk r2.1 y0.be y0.bY y12.1 y0.bc y0.binds)) fun y45 =>
 some (y45,0))
 (ob (yG y0.bY 0 (y0.bY.length:Int) o1) fun y15 =>
 cond (decide (y15.2.1 < (y15.1.length:Int)))
 (cond (decide (0≤y15.2.1))
 (cond (decide (y15.2.1 < (y15.1.length:Int)))
 (ob (y15.1[y15.2.1.toNat]?) fun e16 =>
 ob (iP e16.key y15.2.2.key) fun r17 =>
 ob (iP e16.text y15.2.2.text) fun r18 =>
 ob (jJ e16.al y15.2.2.al) fun r19 =>
 ob (jy [r17,r18,r19]) fun _ =>
 cond (decide (0≤y15.2.1))
 (cond (decide (y15.2.1≤(y15.1.length:Int)))
 (cond (fits ((((y15.1.take y15.2.1.toNat)++[(cH.mk y15.2.2.key y15.2.2.text y15.2.2.cU y15.2.2.al)])++((y15.1.take y15.1.length).drop y15.2.1.toNat)).length))
 (ob (eK (ah.mk r2.1 y0.be (((y15.1.take y15.2.1.toNat)++[(cH.mk y15.2.2.key y15.2.2.text y15.2.2.cU y15.2.2.al)])++((y15.1.take y15.1.length).drop y15.2.1.toNat)) y12.1 y0.bc y0.binds)) fun y46 =>
 some (y46,0))
 none)
 none)
 none)
 none)
 none)
 (cond (decide (0≤y15.2.1))
 (cond (decide (y15.2.1≤(y15.1.length:Int)))
 (cond (fits ((((y15.1.take y15.2.1.toNat)++[(cH.mk y15.2.2.key y15.2.2.text y15.2.2.cU y15.2.2.al)])++((y15.1.take y15.1.length).drop y15.2.1.toNat)).length))
 (ob (eK (ah.mk r2.1 y0.be (((y15.1.take y15.2.1.toNat)++[(cH.mk y15.2.2.key y15.2.2.text y15.2.2.cU y15.2.2.al)])++((y15.1.take y15.1.length).drop y15.2.1.toNat)) y12.1 y0.bc y0.binds)) fun y47 =>
 some (y47,0))
 none)
 none)
 none)))
 none)
 none)
 (ob (yG y0.bY 0 (y0.bY.length:Int) o1) fun y21 =>
 cond (decide (y21.2.1 < (y21.1.length:Int)))
 (cond (decide (0≤y21.2.1))
 (cond (decide (y21.2.1 < (y21.1.length:Int)))
 (ob (y21.1[y21.2.1.toNat]?) fun e22 =>
 ob (iP e22.key y21.2.2.key) fun r23 =>
 ob (iP e22.text y21.2.2.text) fun r24 =>
 ob (jJ e22.al y21.2.2.al) fun r25 =>
 ob (jy [r23,r24,r25]) fun _ =>
 cond (decide (0≤y21.2.1))
 (cond (decide (y21.2.1≤(y21.1.length:Int)))
 (cond (fits ((((y21.1.take y21.2.1.toNat)++[(cH.mk y21.2.2.key y21.2.2.text y21.2.2.cU y21.2.2.al)])++((y21.1.take y21.1.length).drop y21.2.1.toNat)).length))
 (ob (eK (ah.mk r2.1 y0.be (((y21.1.take y21.2.1.toNat)++[(cH.mk y21.2.2.key y21.2.2.text y21.2.2.cU y21.2.2.al)])++((y21.1.take y21.1.length).drop y21.2.1.toNat)) y12.1 y0.bc y0.binds)) fun y48 =>
 some (y48,0))
 none)
 none)
 none)
 none)
 none)
 (cond (decide (0≤y21.2.1))
 (cond (decide (y21.2.1≤(y21.1.length:Int)))
 (cond (fits ((((y21.1.take y21.2.1.toNat)++[(cH.mk y21.2.2.key y21.2.2.text y21.2.2.cU y21.2.2.al)])++((y21.1.take y21.1.length).drop y21.2.1.toNat)).length))
 (ob (eK (ah.mk r2.1 y0.be (((y21.1.take y21.2.1.toNat)++[(cH.mk y21.2.2.key y21.2.2.text y21.2.2.cU y21.2.2.al)])++((y21.1.take y21.1.length).drop y21.2.1.toNat)) y12.1 y0.bc y0.binds)) fun y49 =>
 some (y49,0))
 none)
 none)
 none)))
 (cond (o1.kind == 3)
 (ob (EX o1.dG (o1.dG.length:Int) 0 (ah.mk r2.1 y0.be y0.bY y0.gone y0.bc y0.binds) (ah.mk [] [] [] [] [] [])) fun y27 =>
 ob (eK y27.1) fun y50 =>
 some (y50,0))
 (cond (o1.kind == 4)
 (ob (EW y0.bc 0 (y0.bc.length:Int) o1.key) fun y28 =>
 cond (decide (y28.2.1 < (y28.1.length:Int)))
 (cond (decide (0≤y28.2.1))
 (cond (decide (y28.2.1 < (y28.1.length:Int)))
 (ob (y28.1[y28.2.1.toNat]?) fun e29 =>
 ob (iP e29.key y28.2.2) fun r30 =>
 cond (r30 == 0)
 (cond (decide (0≤y28.2.1))
 (cond (decide (y28.2.1 < (y28.1.length:Int)))
 (ob (y28.1[y28.2.1.toNat]?) fun e31 =>
 cond (decide (0≤y28.2.1))
 (cond (decide (y28.2.1 < (y28.1.length:Int)))
 (ob (y28.1[y28.2.1.toNat]?) fun e32 =>
 ob (eK (ah.mk r2.1 y0.be y0.bY y0.gone (y28.1.set y28.2.1.toNat (Sum.mk e32.key (aF (e31.n+o1.n)))) y0.binds)) fun y51 =>
 some (y51,0))
 none)
 none)
 none)
 none)
 (cond (decide (0≤y28.2.1))
 (cond (decide (y28.2.1≤(y28.1.length:Int)))
 (cond (fits ((((y28.1.take y28.2.1.toNat)++[(Sum.mk o1.key o1.n)])++((y28.1.take y28.1.length).drop y28.2.1.toNat)).length))
 (ob (eK (ah.mk r2.1 y0.be y0.bY y0.gone (((y28.1.take y28.2.1.toNat)++[(Sum.mk o1.key o1.n)])++((y28.1.take y28.1.length).drop y28.2.1.toNat)) y0.binds)) fun y52 =>
 some (y52,0))
 none)
 none)
 none))
 none)
 none)
 (cond (decide (0≤y28.2.1))
 (cond (decide (y28.2.1≤(y28.1.length:Int)))
 (cond (fits ((((y28.1.take y28.2.1.toNat)++[(Sum.mk o1.key o1.n)])++((y28.1.take y28.1.length).drop y28.2.1.toNat)).length))
 (ob (eK (ah.mk r2.1 y0.be y0.bY y0.gone (((y28.1.take y28.2.1.toNat)++[(Sum.mk o1.key o1.n)])++((y28.1.take y28.1.length).drop y28.2.1.toNat)) y0.binds)) fun y53 =>
 some (y53,0))
 none)
 none)
 none))
 (cond (o1.kind == 5)
 (ob (EE y0.binds 0 (y0.binds.length:Int) o1.n) fun y33 =>
 cond (decide (y33.2.1 < (y33.1.length:Int)))
 (cond (decide (0≤y33.2.1))
 (cond (decide (y33.2.1 < (y33.1.length:Int)))
 (ob (y33.1[y33.2.1.toNat]?) fun e34 =>
 ob (iQ e34.tY y33.2.2) fun r35 =>
 cond (!(r35 == 0))
 (cond (decide (0≤y33.2.1))
 (cond (decide (y33.2.1≤(y33.1.length:Int)))
 (cond (fits ((((y33.1.take y33.2.1.toNat)++[(Bind.mk o1.n o1.text o1.cU o1.al)])++((y33.1.take y33.1.length).drop y33.2.1.toNat)).length))
 (ob (eK (ah.mk r2.1 y0.be y0.bY y0.gone y0.bc (((y33.1.take y33.2.1.toNat)++[(Bind.mk o1.n o1.text o1.cU o1.al)])++((y33.1.take y33.1.length).drop y33.2.1.toNat)))) fun y54 =>
 some (y54,0))
 none)
 none)
 none)
 (cond (decide (0≤y33.2.1))
 (cond (decide (y33.2.1 < (y33.1.length:Int)))
 (ob (y33.1[y33.2.1.toNat]?) fun e36 =>
 ob (jJ o1.al e36.al) fun r37 =>
 cond (decide (r37 < 0))
 (cond (decide (0≤y33.2.1))
 (cond (decide (y33.2.1 < (y33.1.length:Int)))
 (ob (y33.1[y33.2.1.toNat]?) fun _ =>
 ob (eK (ah.mk r2.1 y0.be y0.bY y0.gone y0.bc (y33.1.set y33.2.1.toNat (Bind.mk o1.n o1.text o1.cU o1.al)))) fun y55 =>
 some (y55,0))
 none)
 none)
 (ob (eK (ah.mk r2.1 y0.be y0.bY y0.gone y0.bc y33.1)) fun y56 =>
 some (y56,0)))
 none)
 none))
 none)
 none)
 (cond (decide (0≤y33.2.1))
 (cond (decide (y33.2.1≤(y33.1.length:Int)))
 (cond (fits ((((y33.1.take y33.2.1.toNat)++[(Bind.mk o1.n o1.text o1.cU o1.al)])++((y33.1.take y33.1.length).drop y33.2.1.toNat)).length))
 (ob (eK (ah.mk r2.1 y0.be y0.bY y0.gone y0.bc (((y33.1.take y33.2.1.toNat)++[(Bind.mk o1.n o1.text o1.cU o1.al)])++((y33.1.take y33.1.length).drop y33.2.1.toNat)))) fun y57 =>
 some (y57,0))
 none)
 none)
 none))
 (ob (eK (ah.mk r2.1 y0.be y0.bY y0.gone y0.bc y0.binds)) fun y58 =>
 some (y58,0))))))))
def I9 (p:ah×Op):Option (ah×Int):=vo p.1 p.2
def IC:aV TL:=aV.of (DA.cons (DT.agg lJ) (DA.one (DT.agg fC))) I9 (DA.cons (DT.agg lJ) (DA.one dI))
theorem Y6:bi [(158,Ab),(189,Hh),(217,q7),(212,q0),(216,mv),(239,mf)] [(188,Kz),(335002,MI),(340002,Bn),(314002,M1),(292002,Mc),(348002,MX),(352002,My)] (aY tab sl sh [(160,Tu),(190,Sy),(210,S1),(235,oL),(236,FH),(191,Sg),(213,Ea),(240,m7),(241,yn),(214,oJ),(215,Ew),(192,ou),(193,T0),(222,U9),(248,oN),(249,E2),(194,S5),(224,Ts),(252,oQ),(253,FA)] [(188,.sum),(158,.pure),(189,.keep),(217,.pure),(211,(.ins 142)),(212,.pure),(216,.pure),(218,(.ins 145)),(223,(.ins 129)),(239,.pure),(225,(.ins 149))]) 160 (DA.cons (DT.agg lJ) (DA.one (DT.agg fC))) I9 (DA.cons (DT.agg lJ) (DA.one dI)):=fun _=>by kernel_rfl
theorem ZD:bU PR 160 .keep IC:=bj Y6 (aZ base (aC (Sp.ae rfl aN) (aC (aHs.ae rfl aN) (aC (aM7.ae rfl aN) (aC (Rq.ae rfl (aC (lC aEg rfl) aN)) (aC (Sb.ae rfl aN) (aC (aJI.ae rfl aN) (aC (TH.ae rfl aN) (aC (E3.ae rfl (aC (lC Mk rfl) aN)) (aC (FF.ae rfl aN) (aC (U6.ae rfl (aC (lC aEL rfl) aN)) (aC (TS.ae rfl aN) (aC (Tt.ae rfl (aC (lC aD4 rfl) aN)) (aC (aId.ae rfl aN) (aC (aKE.ae rfl aN) (aC (Ss.ae rfl (aC (lC aDg rfl) aN)) (aC (TA.ae rfl aN) (aC (aM3.ae rfl aN) (aC (aIC.ae rfl aN) (aC (UL.ae rfl (aC (lC aEE rfl) aN)) (aC (Th.ae rfl aN) aN)))))))))))))))))))) (aC (dj rfl aBa) (aC (oD Jc rfl) (aC (oD YX rfl) (aC (oD ta rfl) (aC (lT aHL) (aC (oD tc rfl) (aC (oD qh rfl) (aC (lT aG5) (aC (lT aGw) (aC (oD q9 rfl) (aC (lT aG4) aN)))))))))))) (.inl rfl) Sp.enters
def re (bx1:aG)(lx1:aI):Option (aG×Int) :=
 ob (fP bx1) fun y0 =>
 ob (nW y0 lx1.device lx1.aB) fun r1 =>
 cond (decide (r1 < 0))
 (some (y0,2))
 (ob (fO lx1) fun y2 =>
 cond (decide (0≤r1))
 (cond (decide (r1 < (y0.aP.length:Int)))
 (ob (y0.aP[r1.toNat]?) fun _ =>
 some ((aG.mk y0.ak y0.free (y0.aP.set r1.toNat y2) y0.bF),0))
 none)
 none)
def IW (p:aG×aI):Option (aG×Int):=re p.1 p.2
def AG:aV TL:=aV.of (DA.cons (DT.agg dU) (DA.one (DT.agg eQ))) IW (DA.cons (DT.agg dU) (DA.one dI))
theorem Y9:bi [(162,uE)] [(124,ms),(151,mj)] (aY tab sl sh [(135,S3)] [(124,.sum),(162,.pure),(151,.sum)]) 135 (DA.cons (DT.agg dU) (DA.one (DT.agg eQ))) IW (DA.cons (DT.agg dU) (DA.one dI)):=fun _=>by kernel_rfl
theorem Io:bU PR 135 .keep AG:=bj Y9 (aZ base (aC (Sk.ae rfl aN) aN) (aC (dj rfl qf) (aC (oD AA rfl) (aC (dj rfl qc) aN)))) (.inl rfl) Sk.enters
def mo (o1:Op)(c1:az):Option (Int×az) :=
 ob (jX c1.d.log c1.c.device c1.c.aB) fun r0 =>
 ob (nH c1.d.book c1.c.device c1.c.aB) fun r1 =>
 ob (nY o1) fun r2 =>
 cond (r2 != 0)
 (some (r2,c1))
 (cond (cond (o1.al.device != c1.c.device) true (o1.al.aB != c1.c.aB))
 (some (1,c1))
 (cond (decide (o1.al.seq≤r0))
 (some (0,c1))
 (cond (decide (o1.al.seq > (aF (r0+1))))
 (some (12,c1))
 (cond (cond (cond (o1.kind == 4) true (o1.kind == 5)) (!r1.2) false)
 (some (14,c1))
 (ob (uQ r1.1 o1) fun r3 =>
 cond (r3.2 != 0)
 (some (r3.2,c1))
 (cond (decide ((c1.d.log.length:Int)≥2000))
 (some (11,c1))
 (cond (decide (0≤o1.cC) && decide (o1.cC < 3))
 (ob (vo (ah.cW (decide (o1.cC=0)) c1.d.aM.a0 (ah.mk (cond (decide (o1.cC=1)) c1.d.aM.a1.v c1.d.aM.a2.v) (cond (decide (o1.cC=1)) c1.d.aM.a1.be c1.d.aM.a2.be) (cond (decide (o1.cC=1)) c1.d.aM.a1.bY c1.d.aM.a2.bY) (cond (decide (o1.cC=1)) c1.d.aM.a1.gone c1.d.aM.a2.gone) (cond (decide (o1.cC=1)) c1.d.aM.a1.bc c1.d.aM.a2.bc) (cond (decide (o1.cC=1)) c1.d.aM.a1.binds c1.d.aM.a2.binds))) o1) fun r4 =>
 cond (r4.2 != 0)
 (some (r4.2,c1))
 (cond (r1.2)
 (ob (re c1.d.book r3.1) fun r5 =>
 cond (decide (0≤o1.cC) && decide (o1.cC < 3))
 (cond (fits ((c1.d.log++[o1]).length))
 (some (0,(az.mk (bI.mk r5.1 (fw.mk (ah.cW (decide (o1.cC=0)) r4.1 c1.d.aM.a0) (ah.cW (decide (o1.cC=1)) r4.1 c1.d.aM.a1) (ah.cW (decide (o1.cC=2)) r4.1 c1.d.aM.a2)) (c1.d.log++[o1]) c1.d.dev c1.d.lost c1.d.now) c1.c)))
 none)
 none)
 (cond (decide (0≤o1.cC) && decide (o1.cC < 3))
 (cond (fits ((c1.d.log++[o1]).length))
 (some (0,(az.mk (bI.mk c1.d.book (fw.mk (ah.cW (decide (o1.cC=0)) r4.1 c1.d.aM.a0) (ah.cW (decide (o1.cC=1)) r4.1 c1.d.aM.a1) (ah.cW (decide (o1.cC=2)) r4.1 c1.d.aM.a2)) (c1.d.log++[o1]) c1.d.dev c1.d.lost c1.d.now) c1.c)))
 none)
 none)))
 none)))))))
def aEF:aE (List (Nat×En TL)) az:=kO (kC (aE.var 0 100 (kC (kG cQ) (kC (kG aa) (kC (kG cS) (kC (kG au) (kC (kG bL) (kC (kG dC) (kC (kG cd) (kC (kG bL) (kC (kG dD) (kC (kG dA) (kC (kG bL) (kC (kG dC) (kC (kG cd) (kC (kG bL) (kC (kG dD) (kC (kG dA) (kC (kG bL) (kC (kG dC) (kC (kG cd) (kC (kG bL) (kC (kG dD) (kC (kG dA) (kC (kA 1) (kC kJ (kC kJ (kC kJ (kC kJ (kC kJ (kC kJ (kC kJ (kC kJ (kC (kA 2) (kC (kA 3) (kC (kA 4) (kC kJ (kC kJ (kC kJ (kC kJ (kC kJ (kC kJ (kC kJ (kC kJ (kC (kA 5) (kC (kA 6) (kC (kA 7) (kC kJ (kC kJ (kC kJ (kC kJ (kC kJ (kC kJ (kC kJ (kC kJ (kC (kA 8) (kC (kA 9) (kC (kA 10) (kC kJ (kC kJ (kC kJ (kC kJ (kC kJ (kC kJ (kC kJ (kC kJ (kC (kA 11) (kC (kA 12) (kC (kA 13) (kC kJ (kC kJ (kC kJ (kC kJ (kC kJ (kC kJ (kC kJ (kC kJ (kC (kA 14) (kC (kA 15) (kC (kA 16) (kC kJ (kC kJ (kC kJ (kC kJ (kC kJ (kC kJ (kC kJ (kC kJ (kC (kA 17) (kC (kA 18) (kC (kA 19) (kC (kA 20) (kC kJ (kC kJ (kC kJ (kC kJ (kC kJ (kC kJ (kC (kG fb) (kC (kG dn) kN))))))))))))))))))))))))))))))))))))))))))))))))))))))))))))))))))))))))))))))))))))))))))))))))))) (kC (kR 1 61 dn) (kC (kR 2 133 bh) (kC (kR 3 153 aa) (kC (kR 4 3 au) (kC (kR 5 133 bh) (kC (kR 6 153 aa) (kC (kR 7 3 au) (kC (kR 8 133 bh) (kC (kR 9 153 aa) (kC (kR 10 3 au) (kC (kR 11 133 bh) (kC (kR 12 153 aa) (kC (kR 13 3 au) (kC (kR 14 133 bh) (kC (kR 15 153 aa) (kC (kR 16 3 au) (kC (kR 17 133 bh) (kC (kR 18 153 aa) (kC (kR 19 3 au) (kC (kR 20 66 bL) kN))))))))))))))))))))) (fun p=>(az.mk (bI.mk (aG.mk p.1.1 p.1.2.1 p.1.2.2.1 p.1.2.2.2.1) (fw.mk (ah.mk p.1.2.2.2.2.1 p.1.2.2.2.2.2.1 p.1.2.2.2.2.2.2.1 p.1.2.2.2.2.2.2.2.1 (t8 p.1).1 (t8 p.1).2.1) (ah.mk (t8 p.1).2.2.1 (t8 p.1).2.2.2.1 (t8 p.1).2.2.2.2.1 (t8 p.1).2.2.2.2.2.1 (t8 p.1).2.2.2.2.2.2.1 (t8 p.1).2.2.2.2.2.2.2.1) (ah.mk (t8 (t8 p.1)).1 (t8 (t8 p.1)).2.1 (t8 (t8 p.1)).2.2.1 (t8 (t8 p.1)).2.2.2.1 (t8 (t8 p.1)).2.2.2.2.1 (t8 (t8 p.1)).2.2.2.2.2.1)) p.2.1 (dw.mk (Device.mk (t8 (t8 p.1)).2.2.2.2.2.2.2.1 (t8 (t8 (t8 p.1))).1 (aO.mk (t8 (t8 (t8 p.1))).2.1 (t8 (t8 (t8 p.1))).2.2.1 (aI.mk (t8 (t8 (t8 p.1))).2.2.2.1 (t8 (t8 (t8 p.1))).2.2.2.2.1 (t8 (t8 (t8 p.1))).2.2.2.2.2.1 (t8 (t8 (t8 p.1))).2.2.2.2.2.2.1 p.2.2.1 p.2.2.2.1 p.2.2.2.2.1))) (Device.mk (t32 p.1).2.2.1 (t32 p.1).2.2.2.1 (aO.mk (t32 p.1).2.2.2.2.1 (t32 p.1).2.2.2.2.2.1 (aI.mk (t32 p.1).2.2.2.2.2.2.1 (t32 p.1).2.2.2.2.2.2.2.1 (t8 (t32 p.1)).1 (t8 (t32 p.1)).2.1 p.2.2.2.2.2.1 p.2.2.2.2.2.2.1 p.2.2.2.2.2.2.2.1))) (Device.mk (t8 (t32 p.1)).2.2.2.2.2.1 (t8 (t32 p.1)).2.2.2.2.2.2.1 (aO.mk (t8 (t32 p.1)).2.2.2.2.2.2.2.1 (t8 (t8 (t32 p.1))).1 (aI.mk (t8 (t8 (t32 p.1))).2.1 (t8 (t8 (t32 p.1))).2.2.1 (t8 (t8 (t32 p.1))).2.2.2.1 (t8 (t8 (t32 p.1))).2.2.2.2.1 (t8 p).1 (t8 p).2.1 (t8 p).2.2.1))) (Device.mk (t8 (t8 (t8 (t32 p.1)))).1 (t8 (t8 (t8 (t32 p.1)))).2.1 (aO.mk (t8 (t8 (t8 (t32 p.1)))).2.2.1 (t8 (t8 (t8 (t32 p.1)))).2.2.2.1 (aI.mk (t8 (t8 (t8 (t32 p.1)))).2.2.2.2.1 (t8 (t8 (t8 (t32 p.1)))).2.2.2.2.2.1 (t8 (t8 (t8 (t32 p.1)))).2.2.2.2.2.2.1 (t8 (t8 (t8 (t32 p.1)))).2.2.2.2.2.2.2.1 (t8 p).2.2.2.1 (t8 p).2.2.2.2.1 (t8 p).2.2.2.2.2.1))) (Device.mk (t32 (t32 p.1)).2.2.2.1 (t32 (t32 p.1)).2.2.2.2.1 (aO.mk (t32 (t32 p.1)).2.2.2.2.2.1 (t32 (t32 p.1)).2.2.2.2.2.2.1 (aI.mk (t32 (t32 p.1)).2.2.2.2.2.2.2.1 (t8 (t32 (t32 p.1))).1 (t8 (t32 (t32 p.1))).2.1 (t8 (t32 (t32 p.1))).2.2.1 (t8 p).2.2.2.2.2.2.1 (t8 p).2.2.2.2.2.2.2.1 (t8 (t8 p)).1))) (Device.mk (t8 (t32 (t32 p.1))).2.2.2.2.2.2.1 (t8 (t32 (t32 p.1))).2.2.2.2.2.2.2.1 (aO.mk (t8 (t8 (t32 (t32 p.1)))).1 (t8 (t8 (t32 (t32 p.1)))).2.1 (aI.mk (t8 (t8 (t32 (t32 p.1)))).2.2.1 (t8 (t8 (t32 (t32 p.1)))).2.2.2.1 (t8 (t8 (t32 (t32 p.1)))).2.2.2.2.1 (t8 (t8 (t32 (t32 p.1)))).2.2.2.2.2.1 (t8 (t8 p)).2.1 (t8 (t8 p)).2.2.1 (t8 (t8 p)).2.2.2.1)))) (t8 (t8 p)).2.2.2.2.1 (t8 (t8 (t8 (t32 (t32 p.1))))).2.2.1) (bg.mk (t8 (t8 (t8 (t32 (t32 p.1))))).2.2.2.1 (t8 (t8 (t8 (t32 (t32 p.1))))).2.2.2.2.1 (t8 (t8 (t8 (t32 (t32 p.1))))).2.2.2.2.2.1 (t8 (t8 (t8 (t32 (t32 p.1))))).2.2.2.2.2.2.1 (t8 (t8 (t8 (t32 (t32 p.1))))).2.2.2.2.2.2.2.1 (t32 (t32 (t32 p.1))).1 (t32 (t32 (t32 p.1))).2.1))) (fun (x:az)=>((x.d.book.ak,(x.d.book.free,(x.d.book.aP,(x.d.book.bF,(x.d.aM.a0.v,(x.d.aM.a0.be,(x.d.aM.a0.bY,(x.d.aM.a0.gone,(x.d.aM.a0.bc,(x.d.aM.a0.binds,(x.d.aM.a1.v,(x.d.aM.a1.be,(x.d.aM.a1.bY,(x.d.aM.a1.gone,(x.d.aM.a1.bc,(x.d.aM.a1.binds,(x.d.aM.a2.v,(x.d.aM.a2.be,(x.d.aM.a2.bY,(x.d.aM.a2.gone,(x.d.aM.a2.bc,(x.d.aM.a2.binds,((),(x.d.dev.a0.aB,(x.d.dev.a0.aK,(x.d.dev.a0.aA.err,(x.d.dev.a0.aA.n,(x.d.dev.a0.aA.aD.device,(x.d.dev.a0.aA.aD.aB,(x.d.dev.a0.aA.aD.bC,(x.d.dev.a0.aA.aD.last,((),((),((),(x.d.dev.a1.aB,(x.d.dev.a1.aK,(x.d.dev.a1.aA.err,(x.d.dev.a1.aA.n,(x.d.dev.a1.aA.aD.device,(x.d.dev.a1.aA.aD.aB,(x.d.dev.a1.aA.aD.bC,(x.d.dev.a1.aA.aD.last,((),((),((),(x.d.dev.a2.aB,(x.d.dev.a2.aK,(x.d.dev.a2.aA.err,(x.d.dev.a2.aA.n,(x.d.dev.a2.aA.aD.device,(x.d.dev.a2.aA.aD.aB,(x.d.dev.a2.aA.aD.bC,(x.d.dev.a2.aA.aD.last,((),((),((),(x.d.dev.a3.aB,(x.d.dev.a3.aK,(x.d.dev.a3.aA.err,(x.d.dev.a3.aA.n,(x.d.dev.a3.aA.aD.device,(x.d.dev.a3.aA.aD.aB,(x.d.dev.a3.aA.aD.bC,(x.d.dev.a3.aA.aD.last,((),((),((),(x.d.dev.a4.aB,(x.d.dev.a4.aK,(x.d.dev.a4.aA.err,(x.d.dev.a4.aA.n,(x.d.dev.a4.aA.aD.device,(x.d.dev.a4.aA.aD.aB,(x.d.dev.a4.aA.aD.bC,(x.d.dev.a4.aA.aD.last,((),((),((),(x.d.dev.a5.aB,(x.d.dev.a5.aK,(x.d.dev.a5.aA.err,(x.d.dev.a5.aA.n,(x.d.dev.a5.aA.aD.device,(x.d.dev.a5.aA.aD.aB,(x.d.dev.a5.aA.aD.bC,(x.d.dev.a5.aA.aD.last,((),((),((),((),(x.d.now,(x.c.kind,(x.c.device,(x.c.aB,(x.c.aK,(x.c.n,(x.c.cP,(x.c.ops,())))))))))))))))))))))))))))))))))))))))))))))))))))))))))))))))))))))))))))))))))))))))))))))))))),(x.d.log,(x.d.dev.a0.aA.aD.aX,(x.d.dev.a0.aA.aD.ids,(x.d.dev.a0.aA.aD.used,(x.d.dev.a1.aA.aD.aX,(x.d.dev.a1.aA.aD.ids,(x.d.dev.a1.aA.aD.used,(x.d.dev.a2.aA.aD.aX,(x.d.dev.a2.aA.aD.ids,(x.d.dev.a2.aA.aD.used,(x.d.dev.a3.aA.aD.aX,(x.d.dev.a3.aA.aD.ids,(x.d.dev.a3.aA.aD.used,(x.d.dev.a4.aA.aD.aX,(x.d.dev.a4.aA.aD.ids,(x.d.dev.a4.aA.aD.used,(x.d.dev.a5.aA.aD.aX,(x.d.dev.a5.aA.aD.ids,(x.d.dev.a5.aA.aD.used,(x.d.lost,())))))))))))))))))))))) (fun _=>rfl)
def zK:kT (Op×az):=kO (kS 21 (kC (kP 0 0) (kC (aE.xs (aE.sa kQ)) kN)) aEF) (fun p=>(p.1.2.1,p.2)) (fun (x:Op×az)=>(((),(x.1,())),x.2)) (fun _=>rfl)
def aEf:aE (List (Nat×En TL)) az:=kO (kC (aE.var 0 100 (kC (kG cQ) (kC (kG aa) (kC (kG cS) (kC (kG au) (kC (kG bL) (kC (kG dC) (kC (kG cd) (kC (kG bL) (kC (kG dD) (kC (kG dA) (kC (kG bL) (kC (kG dC) (kC (kG cd) (kC (kG bL) (kC (kG dD) (kC (kG dA) (kC (kG bL) (kC (kG dC) (kC (kG cd) (kC (kG bL) (kC (kG dD) (kC (kG dA) (kC (kA 42) (kC kJ (kC kJ (kC kJ (kC kJ (kC kJ (kC kJ (kC kJ (kC kJ (kC (kA 43) (kC (kA 44) (kC (kA 45) (kC kJ (kC kJ (kC kJ (kC kJ (kC kJ (kC kJ (kC kJ (kC kJ (kC (kA 46) (kC (kA 47) (kC (kA 48) (kC kJ (kC kJ (kC kJ (kC kJ (kC kJ (kC kJ (kC kJ (kC kJ (kC (kA 49) (kC (kA 50) (kC (kA 51) (kC kJ (kC kJ (kC kJ (kC kJ (kC kJ (kC kJ (kC kJ (kC kJ (kC (kA 52) (kC (kA 53) (kC (kA 54) (kC kJ (kC kJ (kC kJ (kC kJ (kC kJ (kC kJ (kC kJ (kC kJ (kC (kA 55) (kC (kA 56) (kC (kA 57) (kC kJ (kC kJ (kC kJ (kC kJ (kC kJ (kC kJ (kC kJ (kC kJ (kC (kA 58) (kC (kA 59) (kC (kA 60) (kC (kA 61) (kC kJ (kC kJ (kC kJ (kC kJ (kC kJ (kC kJ (kC (kG fb) (kC (kG dn) kN))))))))))))))))))))))))))))))))))))))))))))))))))))))))))))))))))))))))))))))))))))))))))))))))))) (kC (aE.dead 1) (kC (aE.dead 2) (kC (aE.dead 3) (kC (aE.dead 4) (kC (aE.dead 5) (kC (aE.dead 6) (kC (aE.dead 7) (kC (aE.dead 8) (kC (aE.dead 9) (kC (aE.dead 10) (kC (aE.dead 11) (kC (aE.dead 12) (kC (aE.dead 13) (kC (aE.dead 14) (kC (aE.dead 15) (kC (aE.dead 16) (kC (aE.dead 17) (kC (aE.dead 18) (kC (aE.dead 19) (kC (aE.dead 20) (kC (kR 42 61 dn) (kC (kR 43 133 bh) (kC (kR 44 153 aa) (kC (kR 45 3 au) (kC (kR 46 133 bh) (kC (kR 47 153 aa) (kC (kR 48 3 au) (kC (kR 49 133 bh) (kC (kR 50 153 aa) (kC (kR 51 3 au) (kC (kR 52 133 bh) (kC (kR 53 153 aa) (kC (kR 54 3 au) (kC (kR 55 133 bh) (kC (kR 56 153 aa) (kC (kR 57 3 au) (kC (kR 58 133 bh) (kC (kR 59 153 aa) (kC (kR 60 3 au) (kC (kR 61 66 bL) kN))))))))))))))))))))))))))))))))))))))))) (fun p=>(az.mk (bI.mk (aG.mk p.1.1 p.1.2.1 p.1.2.2.1 p.1.2.2.2.1) (fw.mk (ah.mk p.1.2.2.2.2.1 p.1.2.2.2.2.2.1 p.1.2.2.2.2.2.2.1 p.1.2.2.2.2.2.2.2.1 (t8 p.1).1 (t8 p.1).2.1) (ah.mk (t8 p.1).2.2.1 (t8 p.1).2.2.2.1 (t8 p.1).2.2.2.2.1 (t8 p.1).2.2.2.2.2.1 (t8 p.1).2.2.2.2.2.2.1 (t8 p.1).2.2.2.2.2.2.2.1) (ah.mk (t8 (t8 p.1)).1 (t8 (t8 p.1)).2.1 (t8 (t8 p.1)).2.2.1 (t8 (t8 p.1)).2.2.2.1 (t8 (t8 p.1)).2.2.2.2.1 (t8 (t8 p.1)).2.2.2.2.2.1)) (t8 (t8 p)).2.2.2.2.2.1 (dw.mk (Device.mk (t8 (t8 p.1)).2.2.2.2.2.2.2.1 (t8 (t8 (t8 p.1))).1 (aO.mk (t8 (t8 (t8 p.1))).2.1 (t8 (t8 (t8 p.1))).2.2.1 (aI.mk (t8 (t8 (t8 p.1))).2.2.2.1 (t8 (t8 (t8 p.1))).2.2.2.2.1 (t8 (t8 (t8 p.1))).2.2.2.2.2.1 (t8 (t8 (t8 p.1))).2.2.2.2.2.2.1 (t8 (t8 p)).2.2.2.2.2.2.1 (t8 (t8 p)).2.2.2.2.2.2.2.1 (t8 (t8 (t8 p))).1))) (Device.mk (t32 p.1).2.2.1 (t32 p.1).2.2.2.1 (aO.mk (t32 p.1).2.2.2.2.1 (t32 p.1).2.2.2.2.2.1 (aI.mk (t32 p.1).2.2.2.2.2.2.1 (t32 p.1).2.2.2.2.2.2.2.1 (t8 (t32 p.1)).1 (t8 (t32 p.1)).2.1 (t8 (t8 (t8 p))).2.1 (t8 (t8 (t8 p))).2.2.1 (t8 (t8 (t8 p))).2.2.2.1))) (Device.mk (t8 (t32 p.1)).2.2.2.2.2.1 (t8 (t32 p.1)).2.2.2.2.2.2.1 (aO.mk (t8 (t32 p.1)).2.2.2.2.2.2.2.1 (t8 (t8 (t32 p.1))).1 (aI.mk (t8 (t8 (t32 p.1))).2.1 (t8 (t8 (t32 p.1))).2.2.1 (t8 (t8 (t32 p.1))).2.2.2.1 (t8 (t8 (t32 p.1))).2.2.2.2.1 (t8 (t8 (t8 p))).2.2.2.2.1 (t8 (t8 (t8 p))).2.2.2.2.2.1 (t8 (t8 (t8 p))).2.2.2.2.2.2.1))) (Device.mk (t8 (t8 (t8 (t32 p.1)))).1 (t8 (t8 (t8 (t32 p.1)))).2.1 (aO.mk (t8 (t8 (t8 (t32 p.1)))).2.2.1 (t8 (t8 (t8 (t32 p.1)))).2.2.2.1 (aI.mk (t8 (t8 (t8 (t32 p.1)))).2.2.2.2.1 (t8 (t8 (t8 (t32 p.1)))).2.2.2.2.2.1 (t8 (t8 (t8 (t32 p.1)))).2.2.2.2.2.2.1 (t8 (t8 (t8 (t32 p.1)))).2.2.2.2.2.2.2.1 (t8 (t8 (t8 p))).2.2.2.2.2.2.2.1 (t32 p).1 (t32 p).2.1))) (Device.mk (t32 (t32 p.1)).2.2.2.1 (t32 (t32 p.1)).2.2.2.2.1 (aO.mk (t32 (t32 p.1)).2.2.2.2.2.1 (t32 (t32 p.1)).2.2.2.2.2.2.1 (aI.mk (t32 (t32 p.1)).2.2.2.2.2.2.2.1 (t8 (t32 (t32 p.1))).1 (t8 (t32 (t32 p.1))).2.1 (t8 (t32 (t32 p.1))).2.2.1 (t32 p).2.2.1 (t32 p).2.2.2.1 (t32 p).2.2.2.2.1))) (Device.mk (t8 (t32 (t32 p.1))).2.2.2.2.2.2.1 (t8 (t32 (t32 p.1))).2.2.2.2.2.2.2.1 (aO.mk (t8 (t8 (t32 (t32 p.1)))).1 (t8 (t8 (t32 (t32 p.1)))).2.1 (aI.mk (t8 (t8 (t32 (t32 p.1)))).2.2.1 (t8 (t8 (t32 (t32 p.1)))).2.2.2.1 (t8 (t8 (t32 (t32 p.1)))).2.2.2.2.1 (t8 (t8 (t32 (t32 p.1)))).2.2.2.2.2.1 (t32 p).2.2.2.2.2.1 (t32 p).2.2.2.2.2.2.1 (t32 p).2.2.2.2.2.2.2.1)))) (t8 (t32 p)).1 (t8 (t8 (t8 (t32 (t32 p.1))))).2.2.1) (bg.mk (t8 (t8 (t8 (t32 (t32 p.1))))).2.2.2.1 (t8 (t8 (t8 (t32 (t32 p.1))))).2.2.2.2.1 (t8 (t8 (t8 (t32 (t32 p.1))))).2.2.2.2.2.1 (t8 (t8 (t8 (t32 (t32 p.1))))).2.2.2.2.2.2.1 (t8 (t8 (t8 (t32 (t32 p.1))))).2.2.2.2.2.2.2.1 (t32 (t32 (t32 p.1))).1 (t32 (t32 (t32 p.1))).2.1))) (fun (x:az)=>((x.d.book.ak,(x.d.book.free,(x.d.book.aP,(x.d.book.bF,(x.d.aM.a0.v,(x.d.aM.a0.be,(x.d.aM.a0.bY,(x.d.aM.a0.gone,(x.d.aM.a0.bc,(x.d.aM.a0.binds,(x.d.aM.a1.v,(x.d.aM.a1.be,(x.d.aM.a1.bY,(x.d.aM.a1.gone,(x.d.aM.a1.bc,(x.d.aM.a1.binds,(x.d.aM.a2.v,(x.d.aM.a2.be,(x.d.aM.a2.bY,(x.d.aM.a2.gone,(x.d.aM.a2.bc,(x.d.aM.a2.binds,((),(x.d.dev.a0.aB,(x.d.dev.a0.aK,(x.d.dev.a0.aA.err,(x.d.dev.a0.aA.n,(x.d.dev.a0.aA.aD.device,(x.d.dev.a0.aA.aD.aB,(x.d.dev.a0.aA.aD.bC,(x.d.dev.a0.aA.aD.last,((),((),((),(x.d.dev.a1.aB,(x.d.dev.a1.aK,(x.d.dev.a1.aA.err,(x.d.dev.a1.aA.n,(x.d.dev.a1.aA.aD.device,(x.d.dev.a1.aA.aD.aB,(x.d.dev.a1.aA.aD.bC,(x.d.dev.a1.aA.aD.last,((),((),((),(x.d.dev.a2.aB,(x.d.dev.a2.aK,(x.d.dev.a2.aA.err,(x.d.dev.a2.aA.n,(x.d.dev.a2.aA.aD.device,(x.d.dev.a2.aA.aD.aB,(x.d.dev.a2.aA.aD.bC,(x.d.dev.a2.aA.aD.last,((),((),((),(x.d.dev.a3.aB,(x.d.dev.a3.aK,(x.d.dev.a3.aA.err,(x.d.dev.a3.aA.n,(x.d.dev.a3.aA.aD.device,(x.d.dev.a3.aA.aD.aB,(x.d.dev.a3.aA.aD.bC,(x.d.dev.a3.aA.aD.last,((),((),((),(x.d.dev.a4.aB,(x.d.dev.a4.aK,(x.d.dev.a4.aA.err,(x.d.dev.a4.aA.n,(x.d.dev.a4.aA.aD.device,(x.d.dev.a4.aA.aD.aB,(x.d.dev.a4.aA.aD.bC,(x.d.dev.a4.aA.aD.last,((),((),((),(x.d.dev.a5.aB,(x.d.dev.a5.aK,(x.d.dev.a5.aA.err,(x.d.dev.a5.aA.n,(x.d.dev.a5.aA.aD.device,(x.d.dev.a5.aA.aD.aB,(x.d.dev.a5.aA.aD.bC,(x.d.dev.a5.aA.aD.last,((),((),((),((),(x.d.now,(x.c.kind,(x.c.device,(x.c.aB,(x.c.aK,(x.c.n,(x.c.cP,(x.c.ops,())))))))))))))))))))))))))))))))))))))))))))))))))))))))))))))))))))))))))))))))))))))))))))))))))),((),((),((),((),((),((),((),((),((),((),((),((),((),((),((),((),((),((),((),((),(x.d.log,(x.d.dev.a0.aA.aD.aX,(x.d.dev.a0.aA.aD.ids,(x.d.dev.a0.aA.aD.used,(x.d.dev.a1.aA.aD.aX,(x.d.dev.a1.aA.aD.ids,(x.d.dev.a1.aA.aD.used,(x.d.dev.a2.aA.aD.aX,(x.d.dev.a2.aA.aD.ids,(x.d.dev.a2.aA.aD.used,(x.d.dev.a3.aA.aD.aX,(x.d.dev.a3.aA.aD.ids,(x.d.dev.a3.aA.aD.used,(x.d.dev.a4.aA.aD.aX,(x.d.dev.a4.aA.aD.ids,(x.d.dev.a4.aA.aD.used,(x.d.dev.a5.aA.aD.aX,(x.d.dev.a5.aA.aD.ids,(x.d.dev.a5.aA.aD.used,(x.d.lost,())))))))))))))))))))))))))))))))))))))))))) (fun _=>rfl)
def zN:kT (Int×az):=kO (kS 62 (kC kI kN) aEf) (fun p=>(p.1.1,p.2)) (fun (x:Int×az)=>((x.1,()),x.2)) (fun _=>rfl)
def zM (p:Op×az):Option (Int×az):=mo p.1 p.2
def G4:aT TL:=aT.one zK.dec zM .normal zN.aJ
def G0:cL:=[(133,mg),(134,tp),(158,Ab),(159,Gi),(160,IC),(135,AG)]
def GO:Env:=aY tab sl sh [(132,TR)] [(133,(.rd 22 61)),(134,.keep),(158,.pure),(159,.keep),(160,.keep),(135,.keep)]
theorem W9:bK PR (bJ G0 sZ) GO:=aZ base (aC (UG.ae rfl aN) aN) (aC (oD qa rfl) (aC (oD zV rfl) (aC (oD Jc rfl) (aC (oD YE rfl) (aC (oD ZD rfl) (aC (oD Io rfl) aN))))))
theorem XF (x:Op×az):Out.run (bO G0 sZ) (eZ GO 12 20 132 (zK.aJ x)) (ef zN)=zM x:=by kernel_rfl
theorem X6:ez PR 132 G4:=fW W9 (loops:=12) (n:=20) UG.enters zK zN zM XF
abbrev py:=(List Op)×Int×Int×az×aO
def Az (l1:List Op)(i1:Int)(i2:Int)(c1:az)(rx1:aO):Option ((py)⊕(((az×aO)⊕(az×aO×(List Slice)×(List Range)×(List Int))))) :=
 cond (decide (i2 < i1))
 (cond (decide (0≤i2))
 (ob (l1[i2.toNat]?) fun e0 =>
 ob (mo e0 c1) fun y1 =>
 cond (y1.1 != 0)
 (ob (dY y1.1) fun r2 =>
 some (.inr (.inr (y1.2,r2,rx1.aD.aX,rx1.aD.ids,rx1.aD.used))))
 (some (.inl (l1,i1,(aF (i2+1)),y1.2,rx1))))
 none)
 (some (.inr (.inl (c1,rx1))))
def ri (p:py):Option ((py)⊕(((az×aO)⊕(az×aO×(List Slice)×(List Range)×(List Int))))):=Az p.1 p.2.1 p.2.2.1 p.2.2.2.1 p.2.2.2.2
def tD (l1:List Op)(i1:Int)(i2:Int)(c1:az)(rx1:aO):Option (((az×aO)⊕(az×aO×(List Slice)×(List Range)×(List Int)))):=bm ri ((i1 - i2).toNat+2) (l1,i1,i2,c1,rx1)
def wy:kT (py):=kO (kS 25 (kC (kP 0 0) (kC (kP 1 0) (kC (aE.xs (aE.sc (aE.dK 132 [(0,0)] []))) (kC (kF dn) (kC kI (kC kI kN)))))) (kC (aE.var 0 100 (kC (kG cQ) (kC (kG aa) (kC (kG cS) (kC (kG au) (kC (kG bL) (kC (kG dC) (kC (kG cd) (kC (kG bL) (kC (kG dD) (kC (kG dA) (kC (kG bL) (kC (kG dC) (kC (kG cd) (kC (kG bL) (kC (kG dD) (kC (kG dA) (kC (kG bL) (kC (kG dC) (kC (kG cd) (kC (kG bL) (kC (kG dD) (kC (kG dA) (kC (kA 2) (kC kJ (kC kJ (kC kJ (kC kJ (kC kJ (kC kJ (kC kJ (kC kJ (kC (kA 3) (kC (kA 4) (kC (kA 5) (kC kJ (kC kJ (kC kJ (kC kJ (kC kJ (kC kJ (kC kJ (kC kJ (kC (kA 6) (kC (kA 7) (kC (kA 8) (kC kJ (kC kJ (kC kJ (kC kJ (kC kJ (kC kJ (kC kJ (kC kJ (kC (kA 9) (kC (kA 10) (kC (kA 11) (kC kJ (kC kJ (kC kJ (kC kJ (kC kJ (kC kJ (kC kJ (kC kJ (kC (kA 12) (kC (kA 13) (kC (kA 14) (kC kJ (kC kJ (kC kJ (kC kJ (kC kJ (kC kJ (kC kJ (kC kJ (kC (kA 15) (kC (kA 16) (kC (kA 17) (kC kJ (kC kJ (kC kJ (kC kJ (kC kJ (kC kJ (kC kJ (kC kJ (kC (kA 18) (kC (kA 19) (kC (kA 20) (kC (kA 21) (kC kJ (kC kJ (kC kJ (kC kJ (kC kJ (kC kJ (kC (kG fb) (kC (kG dn) kN))))))))))))))))))))))))))))))))))))))))))))))))))))))))))))))))))))))))))))))))))))))))))))))))))) (kC (aE.var 1 45 (kC kJ (kC kJ (kC kJ (kC kJ (kC kJ (kC kJ (kC (kA 22) (kC (kA 23) (kC (kA 24) kN)))))))))) (kC (kR 2 61 dn) (kC (kR 3 133 bh) (kC (kR 4 153 aa) (kC (kR 5 3 au) (kC (kR 6 133 bh) (kC (kR 7 153 aa) (kC (kR 8 3 au) (kC (kR 9 133 bh) (kC (kR 10 153 aa) (kC (kR 11 3 au) (kC (kR 12 133 bh) (kC (kR 13 153 aa) (kC (kR 14 3 au) (kC (kR 15 133 bh) (kC (kR 16 153 aa) (kC (kR 17 3 au) (kC (kR 18 133 bh) (kC (kR 19 153 aa) (kC (kR 20 3 au) (kC (kR 21 66 bL) (kC (kR 22 133 bh) (kC (kR 23 153 aa) (kC (kR 24 3 au) kN)))))))))))))))))))))))))) (fun p=>(p.1.2.2.2.1,p.1.2.2.2.2.1,p.1.2.2.2.2.2.1,(az.mk (bI.mk (aG.mk p.2.1.1 p.2.1.2.1 p.2.1.2.2.1 p.2.1.2.2.2.1) (fw.mk (ah.mk p.2.1.2.2.2.2.1 p.2.1.2.2.2.2.2.1 p.2.1.2.2.2.2.2.2.1 p.2.1.2.2.2.2.2.2.2.1 (t8 p.2.1).1 (t8 p.2.1).2.1) (ah.mk (t8 p.2.1).2.2.1 (t8 p.2.1).2.2.2.1 (t8 p.2.1).2.2.2.2.1 (t8 p.2.1).2.2.2.2.2.1 (t8 p.2.1).2.2.2.2.2.2.1 (t8 p.2.1).2.2.2.2.2.2.2.1) (ah.mk (t8 (t8 p.2.1)).1 (t8 (t8 p.2.1)).2.1 (t8 (t8 p.2.1)).2.2.1 (t8 (t8 p.2.1)).2.2.2.1 (t8 (t8 p.2.1)).2.2.2.2.1 (t8 (t8 p.2.1)).2.2.2.2.2.1)) p.2.2.2.1 (dw.mk (Device.mk (t8 (t8 p.2.1)).2.2.2.2.2.2.2.1 (t8 (t8 (t8 p.2.1))).1 (aO.mk (t8 (t8 (t8 p.2.1))).2.1 (t8 (t8 (t8 p.2.1))).2.2.1 (aI.mk (t8 (t8 (t8 p.2.1))).2.2.2.1 (t8 (t8 (t8 p.2.1))).2.2.2.2.1 (t8 (t8 (t8 p.2.1))).2.2.2.2.2.1 (t8 (t8 (t8 p.2.1))).2.2.2.2.2.2.1 p.2.2.2.2.1 p.2.2.2.2.2.1 p.2.2.2.2.2.2.1))) (Device.mk (t32 p.2.1).2.2.1 (t32 p.2.1).2.2.2.1 (aO.mk (t32 p.2.1).2.2.2.2.1 (t32 p.2.1).2.2.2.2.2.1 (aI.mk (t32 p.2.1).2.2.2.2.2.2.1 (t32 p.2.1).2.2.2.2.2.2.2.1 (t8 (t32 p.2.1)).1 (t8 (t32 p.2.1)).2.1 p.2.2.2.2.2.2.2.1 p.2.2.2.2.2.2.2.2.1 (t8 p.2).1))) (Device.mk (t8 (t32 p.2.1)).2.2.2.2.2.1 (t8 (t32 p.2.1)).2.2.2.2.2.2.1 (aO.mk (t8 (t32 p.2.1)).2.2.2.2.2.2.2.1 (t8 (t8 (t32 p.2.1))).1 (aI.mk (t8 (t8 (t32 p.2.1))).2.1 (t8 (t8 (t32 p.2.1))).2.2.1 (t8 (t8 (t32 p.2.1))).2.2.2.1 (t8 (t8 (t32 p.2.1))).2.2.2.2.1 (t8 p.2).2.1 (t8 p.2).2.2.1 (t8 p.2).2.2.2.1))) (Device.mk (t8 (t8 (t8 (t32 p.2.1)))).1 (t8 (t8 (t8 (t32 p.2.1)))).2.1 (aO.mk (t8 (t8 (t8 (t32 p.2.1)))).2.2.1 (t8 (t8 (t8 (t32 p.2.1)))).2.2.2.1 (aI.mk (t8 (t8 (t8 (t32 p.2.1)))).2.2.2.2.1 (t8 (t8 (t8 (t32 p.2.1)))).2.2.2.2.2.1 (t8 (t8 (t8 (t32 p.2.1)))).2.2.2.2.2.2.1 (t8 (t8 (t8 (t32 p.2.1)))).2.2.2.2.2.2.2.1 (t8 p.2).2.2.2.2.1 (t8 p.2).2.2.2.2.2.1 (t8 p.2).2.2.2.2.2.2.1))) (Device.mk (t32 (t32 p.2.1)).2.2.2.1 (t32 (t32 p.2.1)).2.2.2.2.1 (aO.mk (t32 (t32 p.2.1)).2.2.2.2.2.1 (t32 (t32 p.2.1)).2.2.2.2.2.2.1 (aI.mk (t32 (t32 p.2.1)).2.2.2.2.2.2.2.1 (t8 (t32 (t32 p.2.1))).1 (t8 (t32 (t32 p.2.1))).2.1 (t8 (t32 (t32 p.2.1))).2.2.1 (t8 p.2).2.2.2.2.2.2.2.1 (t8 (t8 p.2)).1 (t8 (t8 p.2)).2.1))) (Device.mk (t8 (t32 (t32 p.2.1))).2.2.2.2.2.2.1 (t8 (t32 (t32 p.2.1))).2.2.2.2.2.2.2.1 (aO.mk (t8 (t8 (t32 (t32 p.2.1)))).1 (t8 (t8 (t32 (t32 p.2.1)))).2.1 (aI.mk (t8 (t8 (t32 (t32 p.2.1)))).2.2.1 (t8 (t8 (t32 (t32 p.2.1)))).2.2.2.1 (t8 (t8 (t32 (t32 p.2.1)))).2.2.2.2.1 (t8 (t8 (t32 (t32 p.2.1)))).2.2.2.2.2.1 (t8 (t8 p.2)).2.2.1 (t8 (t8 p.2)).2.2.2.1 (t8 (t8 p.2)).2.2.2.2.1)))) (t8 (t8 p.2)).2.2.2.2.2.1 (t8 (t8 (t8 (t32 (t32 p.2.1))))).2.2.1) (bg.mk (t8 (t8 (t8 (t32 (t32 p.2.1))))).2.2.2.1 (t8 (t8 (t8 (t32 (t32 p.2.1))))).2.2.2.2.1 (t8 (t8 (t8 (t32 (t32 p.2.1))))).2.2.2.2.2.1 (t8 (t8 (t8 (t32 (t32 p.2.1))))).2.2.2.2.2.2.1 (t8 (t8 (t8 (t32 (t32 p.2.1))))).2.2.2.2.2.2.2.1 (t32 (t32 (t32 p.2.1))).1 (t32 (t32 (t32 p.2.1))).2.1)),(aO.mk p.2.2.1.1 p.2.2.1.2.1 (aI.mk p.2.2.1.2.2.1 p.2.2.1.2.2.2.1 p.2.2.1.2.2.2.2.1 p.2.2.1.2.2.2.2.2.1 (t8 (t8 p.2)).2.2.2.2.2.2.1 (t8 (t8 p.2)).2.2.2.2.2.2.2.1 (t8 (t8 (t8 p.2))).1)))) (fun (x:py)=>(((),((),((),(x.1,(x.2.1,(x.2.2.1,())))))),((x.2.2.2.1.d.book.ak,(x.2.2.2.1.d.book.free,(x.2.2.2.1.d.book.aP,(x.2.2.2.1.d.book.bF,(x.2.2.2.1.d.aM.a0.v,(x.2.2.2.1.d.aM.a0.be,(x.2.2.2.1.d.aM.a0.bY,(x.2.2.2.1.d.aM.a0.gone,(x.2.2.2.1.d.aM.a0.bc,(x.2.2.2.1.d.aM.a0.binds,(x.2.2.2.1.d.aM.a1.v,(x.2.2.2.1.d.aM.a1.be,(x.2.2.2.1.d.aM.a1.bY,(x.2.2.2.1.d.aM.a1.gone,(x.2.2.2.1.d.aM.a1.bc,(x.2.2.2.1.d.aM.a1.binds,(x.2.2.2.1.d.aM.a2.v,(x.2.2.2.1.d.aM.a2.be,(x.2.2.2.1.d.aM.a2.bY,(x.2.2.2.1.d.aM.a2.gone,(x.2.2.2.1.d.aM.a2.bc,(x.2.2.2.1.d.aM.a2.binds,((),(x.2.2.2.1.d.dev.a0.aB,(x.2.2.2.1.d.dev.a0.aK,(x.2.2.2.1.d.dev.a0.aA.err,(x.2.2.2.1.d.dev.a0.aA.n,(x.2.2.2.1.d.dev.a0.aA.aD.device,(x.2.2.2.1.d.dev.a0.aA.aD.aB,(x.2.2.2.1.d.dev.a0.aA.aD.bC,(x.2.2.2.1.d.dev.a0.aA.aD.last,((),((),((),(x.2.2.2.1.d.dev.a1.aB,(x.2.2.2.1.d.dev.a1.aK,(x.2.2.2.1.d.dev.a1.aA.err,(x.2.2.2.1.d.dev.a1.aA.n,(x.2.2.2.1.d.dev.a1.aA.aD.device,(x.2.2.2.1.d.dev.a1.aA.aD.aB,(x.2.2.2.1.d.dev.a1.aA.aD.bC,(x.2.2.2.1.d.dev.a1.aA.aD.last,((),((),((),(x.2.2.2.1.d.dev.a2.aB,(x.2.2.2.1.d.dev.a2.aK,(x.2.2.2.1.d.dev.a2.aA.err,(x.2.2.2.1.d.dev.a2.aA.n,(x.2.2.2.1.d.dev.a2.aA.aD.device,(x.2.2.2.1.d.dev.a2.aA.aD.aB,(x.2.2.2.1.d.dev.a2.aA.aD.bC,(x.2.2.2.1.d.dev.a2.aA.aD.last,((),((),((),(x.2.2.2.1.d.dev.a3.aB,(x.2.2.2.1.d.dev.a3.aK,(x.2.2.2.1.d.dev.a3.aA.err,(x.2.2.2.1.d.dev.a3.aA.n,(x.2.2.2.1.d.dev.a3.aA.aD.device,(x.2.2.2.1.d.dev.a3.aA.aD.aB,(x.2.2.2.1.d.dev.a3.aA.aD.bC,(x.2.2.2.1.d.dev.a3.aA.aD.last,((),((),((),(x.2.2.2.1.d.dev.a4.aB,(x.2.2.2.1.d.dev.a4.aK,(x.2.2.2.1.d.dev.a4.aA.err,(x.2.2.2.1.d.dev.a4.aA.n,(x.2.2.2.1.d.dev.a4.aA.aD.device,(x.2.2.2.1.d.dev.a4.aA.aD.aB,(x.2.2.2.1.d.dev.a4.aA.aD.bC,(x.2.2.2.1.d.dev.a4.aA.aD.last,((),((),((),(x.2.2.2.1.d.dev.a5.aB,(x.2.2.2.1.d.dev.a5.aK,(x.2.2.2.1.d.dev.a5.aA.err,(x.2.2.2.1.d.dev.a5.aA.n,(x.2.2.2.1.d.dev.a5.aA.aD.device,(x.2.2.2.1.d.dev.a5.aA.aD.aB,(x.2.2.2.1.d.dev.a5.aA.aD.bC,(x.2.2.2.1.d.dev.a5.aA.aD.last,((),((),((),((),(x.2.2.2.1.d.now,(x.2.2.2.1.c.kind,(x.2.2.2.1.c.device,(x.2.2.2.1.c.aB,(x.2.2.2.1.c.aK,(x.2.2.2.1.c.n,(x.2.2.2.1.c.cP,(x.2.2.2.1.c.ops,())))))))))))))))))))))))))))))))))))))))))))))))))))))))))))))))))))))))))))))))))))))))))))))))))),((x.2.2.2.2.err,(x.2.2.2.2.n,(x.2.2.2.2.aD.device,(x.2.2.2.2.aD.aB,(x.2.2.2.2.aD.bC,(x.2.2.2.2.aD.last,((),((),((),()))))))))),(x.2.2.2.1.d.log,(x.2.2.2.1.d.dev.a0.aA.aD.aX,(x.2.2.2.1.d.dev.a0.aA.aD.ids,(x.2.2.2.1.d.dev.a0.aA.aD.used,(x.2.2.2.1.d.dev.a1.aA.aD.aX,(x.2.2.2.1.d.dev.a1.aA.aD.ids,(x.2.2.2.1.d.dev.a1.aA.aD.used,(x.2.2.2.1.d.dev.a2.aA.aD.aX,(x.2.2.2.1.d.dev.a2.aA.aD.ids,(x.2.2.2.1.d.dev.a2.aA.aD.used,(x.2.2.2.1.d.dev.a3.aA.aD.aX,(x.2.2.2.1.d.dev.a3.aA.aD.ids,(x.2.2.2.1.d.dev.a3.aA.aD.used,(x.2.2.2.1.d.dev.a4.aA.aD.aX,(x.2.2.2.1.d.dev.a4.aA.aD.ids,(x.2.2.2.1.d.dev.a4.aA.aD.used,(x.2.2.2.1.d.dev.a5.aA.aD.aX,(x.2.2.2.1.d.dev.a5.aA.aD.ids,(x.2.2.2.1.d.dev.a5.aA.aD.used,(x.2.2.2.1.d.lost,(x.2.2.2.2.aD.aX,(x.2.2.2.2.aD.ids,(x.2.2.2.2.aD.used,()))))))))))))))))))))))))))) (fun _=>rfl)
def Bz:kT (az×aO):=kO (kS 50 (kC (kP 0 0) (kC (kP 1 0) kN)) (kC (aE.var 0 100 (kC (kG cQ) (kC (kG aa) (kC (kG cS) (kC (kG au) (kC (kG bL) (kC (kG dC) (kC (kG cd) (kC (kG bL) (kC (kG dD) (kC (kG dA) (kC (kG bL) (kC (kG dC) (kC (kG cd) (kC (kG bL) (kC (kG dD) (kC (kG dA) (kC (kG bL) (kC (kG dC) (kC (kG cd) (kC (kG bL) (kC (kG dD) (kC (kG dA) (kC (kA 30) (kC kJ (kC kJ (kC kJ (kC kJ (kC kJ (kC kJ (kC kJ (kC kJ (kC (kA 31) (kC (kA 32) (kC (kA 33) (kC kJ (kC kJ (kC kJ (kC kJ (kC kJ (kC kJ (kC kJ (kC kJ (kC (kA 34) (kC (kA 35) (kC (kA 36) (kC kJ (kC kJ (kC kJ (kC kJ (kC kJ (kC kJ (kC kJ (kC kJ (kC (kA 37) (kC (kA 38) (kC (kA 39) (kC kJ (kC kJ (kC kJ (kC kJ (kC kJ (kC kJ (kC kJ (kC kJ (kC (kA 40) (kC (kA 41) (kC (kA 42) (kC kJ (kC kJ (kC kJ (kC kJ (kC kJ (kC kJ (kC kJ (kC kJ (kC (kA 43) (kC (kA 44) (kC (kA 45) (kC kJ (kC kJ (kC kJ (kC kJ (kC kJ (kC kJ (kC kJ (kC kJ (kC (kA 46) (kC (kA 47) (kC (kA 48) (kC (kA 49) (kC kJ (kC kJ (kC kJ (kC kJ (kC kJ (kC kJ (kC (kG fb) (kC (kG dn) kN))))))))))))))))))))))))))))))))))))))))))))))))))))))))))))))))))))))))))))))))))))))))))))))))))) (kC (aE.var 1 45 (kC kJ (kC kJ (kC kJ (kC kJ (kC kJ (kC kJ (kC (kA 22) (kC (kA 23) (kC (kA 24) kN)))))))))) (kC (kR 22 133 bh) (kC (kR 23 153 aa) (kC (kR 24 3 au) (kC (kR 30 61 dn) (kC (kR 31 133 bh) (kC (kR 32 153 aa) (kC (kR 33 3 au) (kC (kR 34 133 bh) (kC (kR 35 153 aa) (kC (kR 36 3 au) (kC (kR 37 133 bh) (kC (kR 38 153 aa) (kC (kR 39 3 au) (kC (kR 40 133 bh) (kC (kR 41 153 aa) (kC (kR 42 3 au) (kC (kR 43 133 bh) (kC (kR 44 153 aa) (kC (kR 45 3 au) (kC (kR 46 133 bh) (kC (kR 47 153 aa) (kC (kR 48 3 au) (kC (kR 49 66 bL) kN)))))))))))))))))))))))))) (fun p=>((az.mk (bI.mk (aG.mk p.2.1.1 p.2.1.2.1 p.2.1.2.2.1 p.2.1.2.2.2.1) (fw.mk (ah.mk p.2.1.2.2.2.2.1 p.2.1.2.2.2.2.2.1 p.2.1.2.2.2.2.2.2.1 p.2.1.2.2.2.2.2.2.2.1 (t8 p.2.1).1 (t8 p.2.1).2.1) (ah.mk (t8 p.2.1).2.2.1 (t8 p.2.1).2.2.2.1 (t8 p.2.1).2.2.2.2.1 (t8 p.2.1).2.2.2.2.2.1 (t8 p.2.1).2.2.2.2.2.2.1 (t8 p.2.1).2.2.2.2.2.2.2.1) (ah.mk (t8 (t8 p.2.1)).1 (t8 (t8 p.2.1)).2.1 (t8 (t8 p.2.1)).2.2.1 (t8 (t8 p.2.1)).2.2.2.1 (t8 (t8 p.2.1)).2.2.2.2.1 (t8 (t8 p.2.1)).2.2.2.2.2.1)) p.2.2.2.2.2.2.1 (dw.mk (Device.mk (t8 (t8 p.2.1)).2.2.2.2.2.2.2.1 (t8 (t8 (t8 p.2.1))).1 (aO.mk (t8 (t8 (t8 p.2.1))).2.1 (t8 (t8 (t8 p.2.1))).2.2.1 (aI.mk (t8 (t8 (t8 p.2.1))).2.2.2.1 (t8 (t8 (t8 p.2.1))).2.2.2.2.1 (t8 (t8 (t8 p.2.1))).2.2.2.2.2.1 (t8 (t8 (t8 p.2.1))).2.2.2.2.2.2.1 p.2.2.2.2.2.2.2.1 p.2.2.2.2.2.2.2.2.1 (t8 p.2).1))) (Device.mk (t32 p.2.1).2.2.1 (t32 p.2.1).2.2.2.1 (aO.mk (t32 p.2.1).2.2.2.2.1 (t32 p.2.1).2.2.2.2.2.1 (aI.mk (t32 p.2.1).2.2.2.2.2.2.1 (t32 p.2.1).2.2.2.2.2.2.2.1 (t8 (t32 p.2.1)).1 (t8 (t32 p.2.1)).2.1 (t8 p.2).2.1 (t8 p.2).2.2.1 (t8 p.2).2.2.2.1))) (Device.mk (t8 (t32 p.2.1)).2.2.2.2.2.1 (t8 (t32 p.2.1)).2.2.2.2.2.2.1 (aO.mk (t8 (t32 p.2.1)).2.2.2.2.2.2.2.1 (t8 (t8 (t32 p.2.1))).1 (aI.mk (t8 (t8 (t32 p.2.1))).2.1 (t8 (t8 (t32 p.2.1))).2.2.1 (t8 (t8 (t32 p.2.1))).2.2.2.1 (t8 (t8 (t32 p.2.1))).2.2.2.2.1 (t8 p.2).2.2.2.2.1 (t8 p.2).2.2.2.2.2.1 (t8 p.2).2.2.2.2.2.2.1))) (Device.mk (t8 (t8 (t8 (t32 p.2.1)))).1 (t8 (t8 (t8 (t32 p.2.1)))).2.1 (aO.mk (t8 (t8 (t8 (t32 p.2.1)))).2.2.1 (t8 (t8 (t8 (t32 p.2.1)))).2.2.2.1 (aI.mk (t8 (t8 (t8 (t32 p.2.1)))).2.2.2.2.1 (t8 (t8 (t8 (t32 p.2.1)))).2.2.2.2.2.1 (t8 (t8 (t8 (t32 p.2.1)))).2.2.2.2.2.2.1 (t8 (t8 (t8 (t32 p.2.1)))).2.2.2.2.2.2.2.1 (t8 p.2).2.2.2.2.2.2.2.1 (t8 (t8 p.2)).1 (t8 (t8 p.2)).2.1))) (Device.mk (t32 (t32 p.2.1)).2.2.2.1 (t32 (t32 p.2.1)).2.2.2.2.1 (aO.mk (t32 (t32 p.2.1)).2.2.2.2.2.1 (t32 (t32 p.2.1)).2.2.2.2.2.2.1 (aI.mk (t32 (t32 p.2.1)).2.2.2.2.2.2.2.1 (t8 (t32 (t32 p.2.1))).1 (t8 (t32 (t32 p.2.1))).2.1 (t8 (t32 (t32 p.2.1))).2.2.1 (t8 (t8 p.2)).2.2.1 (t8 (t8 p.2)).2.2.2.1 (t8 (t8 p.2)).2.2.2.2.1))) (Device.mk (t8 (t32 (t32 p.2.1))).2.2.2.2.2.2.1 (t8 (t32 (t32 p.2.1))).2.2.2.2.2.2.2.1 (aO.mk (t8 (t8 (t32 (t32 p.2.1)))).1 (t8 (t8 (t32 (t32 p.2.1)))).2.1 (aI.mk (t8 (t8 (t32 (t32 p.2.1)))).2.2.1 (t8 (t8 (t32 (t32 p.2.1)))).2.2.2.1 (t8 (t8 (t32 (t32 p.2.1)))).2.2.2.2.1 (t8 (t8 (t32 (t32 p.2.1)))).2.2.2.2.2.1 (t8 (t8 p.2)).2.2.2.2.2.1 (t8 (t8 p.2)).2.2.2.2.2.2.1 (t8 (t8 p.2)).2.2.2.2.2.2.2.1)))) (t8 (t8 (t8 p.2))).1 (t8 (t8 (t8 (t32 (t32 p.2.1))))).2.2.1) (bg.mk (t8 (t8 (t8 (t32 (t32 p.2.1))))).2.2.2.1 (t8 (t8 (t8 (t32 (t32 p.2.1))))).2.2.2.2.1 (t8 (t8 (t8 (t32 (t32 p.2.1))))).2.2.2.2.2.1 (t8 (t8 (t8 (t32 (t32 p.2.1))))).2.2.2.2.2.2.1 (t8 (t8 (t8 (t32 (t32 p.2.1))))).2.2.2.2.2.2.2.1 (t32 (t32 (t32 p.2.1))).1 (t32 (t32 (t32 p.2.1))).2.1)),(aO.mk p.2.2.1.1 p.2.2.1.2.1 (aI.mk p.2.2.1.2.2.1 p.2.2.1.2.2.2.1 p.2.2.1.2.2.2.2.1 p.2.2.1.2.2.2.2.2.1 p.2.2.2.1 p.2.2.2.2.1 p.2.2.2.2.2.1)))) (fun (x:az×aO)=>(((),((),())),((x.1.d.book.ak,(x.1.d.book.free,(x.1.d.book.aP,(x.1.d.book.bF,(x.1.d.aM.a0.v,(x.1.d.aM.a0.be,(x.1.d.aM.a0.bY,(x.1.d.aM.a0.gone,(x.1.d.aM.a0.bc,(x.1.d.aM.a0.binds,(x.1.d.aM.a1.v,(x.1.d.aM.a1.be,(x.1.d.aM.a1.bY,(x.1.d.aM.a1.gone,(x.1.d.aM.a1.bc,(x.1.d.aM.a1.binds,(x.1.d.aM.a2.v,(x.1.d.aM.a2.be,(x.1.d.aM.a2.bY,(x.1.d.aM.a2.gone,(x.1.d.aM.a2.bc,(x.1.d.aM.a2.binds,((),(x.1.d.dev.a0.aB,(x.1.d.dev.a0.aK,(x.1.d.dev.a0.aA.err,(x.1.d.dev.a0.aA.n,(x.1.d.dev.a0.aA.aD.device,(x.1.d.dev.a0.aA.aD.aB,(x.1.d.dev.a0.aA.aD.bC,(x.1.d.dev.a0.aA.aD.last,((),((),((),(x.1.d.dev.a1.aB,(x.1.d.dev.a1.aK,(x.1.d.dev.a1.aA.err,(x.1.d.dev.a1.aA.n,(x.1.d.dev.a1.aA.aD.device,(x.1.d.dev.a1.aA.aD.aB,(x.1.d.dev.a1.aA.aD.bC,(x.1.d.dev.a1.aA.aD.last,((),((),((),(x.1.d.dev.a2.aB,(x.1.d.dev.a2.aK,(x.1.d.dev.a2.aA.err,(x.1.d.dev.a2.aA.n,(x.1.d.dev.a2.aA.aD.device,(x.1.d.dev.a2.aA.aD.aB,(x.1.d.dev.a2.aA.aD.bC,(x.1.d.dev.a2.aA.aD.last,((),((),((),(x.1.d.dev.a3.aB,(x.1.d.dev.a3.aK,(x.1.d.dev.a3.aA.err,(x.1.d.dev.a3.aA.n,(x.1.d.dev.a3.aA.aD.device,(x.1.d.dev.a3.aA.aD.aB,(x.1.d.dev.a3.aA.aD.bC,(x.1.d.dev.a3.aA.aD.last,((),((),((),(x.1.d.dev.a4.aB,(x.1.d.dev.a4.aK,(x.1.d.dev.a4.aA.err,(x.1.d.dev.a4.aA.n,(x.1.d.dev.a4.aA.aD.device,(x.1.d.dev.a4.aA.aD.aB,(x.1.d.dev.a4.aA.aD.bC,(x.1.d.dev.a4.aA.aD.last,((),((),((),(x.1.d.dev.a5.aB,(x.1.d.dev.a5.aK,(x.1.d.dev.a5.aA.err,(x.1.d.dev.a5.aA.n,(x.1.d.dev.a5.aA.aD.device,(x.1.d.dev.a5.aA.aD.aB,(x.1.d.dev.a5.aA.aD.bC,(x.1.d.dev.a5.aA.aD.last,((),((),((),((),(x.1.d.now,(x.1.c.kind,(x.1.c.device,(x.1.c.aB,(x.1.c.aK,(x.1.c.n,(x.1.c.cP,(x.1.c.ops,())))))))))))))))))))))))))))))))))))))))))))))))))))))))))))))))))))))))))))))))))))))))))))))))))),((x.2.err,(x.2.n,(x.2.aD.device,(x.2.aD.aB,(x.2.aD.bC,(x.2.aD.last,((),((),((),()))))))))),(x.2.aD.aX,(x.2.aD.ids,(x.2.aD.used,(x.1.d.log,(x.1.d.dev.a0.aA.aD.aX,(x.1.d.dev.a0.aA.aD.ids,(x.1.d.dev.a0.aA.aD.used,(x.1.d.dev.a1.aA.aD.aX,(x.1.d.dev.a1.aA.aD.ids,(x.1.d.dev.a1.aA.aD.used,(x.1.d.dev.a2.aA.aD.aX,(x.1.d.dev.a2.aA.aD.ids,(x.1.d.dev.a2.aA.aD.used,(x.1.d.dev.a3.aA.aD.aX,(x.1.d.dev.a3.aA.aD.ids,(x.1.d.dev.a3.aA.aD.used,(x.1.d.dev.a4.aA.aD.aX,(x.1.d.dev.a4.aA.aD.ids,(x.1.d.dev.a4.aA.aD.used,(x.1.d.dev.a5.aA.aD.aX,(x.1.d.dev.a5.aA.aD.ids,(x.1.d.dev.a5.aA.aD.used,(x.1.d.lost,()))))))))))))))))))))))))))) (fun _=>rfl)
def Bb:kT (az×aO×(List Slice)×(List Range)×(List Int)):=kO (kS 50 (kC (kP 0 0) (kC (kP 1 0) kN)) (kC (aE.var 0 100 (kC (kG cQ) (kC (kG aa) (kC (kG cS) (kC (kG au) (kC (kG bL) (kC (kG dC) (kC (kG cd) (kC (kG bL) (kC (kG dD) (kC (kG dA) (kC (kG bL) (kC (kG dC) (kC (kG cd) (kC (kG bL) (kC (kG dD) (kC (kG dA) (kC (kG bL) (kC (kG dC) (kC (kG cd) (kC (kG bL) (kC (kG dD) (kC (kG dA) (kC (kA 30) (kC kJ (kC kJ (kC kJ (kC kJ (kC kJ (kC kJ (kC kJ (kC kJ (kC (kA 31) (kC (kA 32) (kC (kA 33) (kC kJ (kC kJ (kC kJ (kC kJ (kC kJ (kC kJ (kC kJ (kC kJ (kC (kA 34) (kC (kA 35) (kC (kA 36) (kC kJ (kC kJ (kC kJ (kC kJ (kC kJ (kC kJ (kC kJ (kC kJ (kC (kA 37) (kC (kA 38) (kC (kA 39) (kC kJ (kC kJ (kC kJ (kC kJ (kC kJ (kC kJ (kC kJ (kC kJ (kC (kA 40) (kC (kA 41) (kC (kA 42) (kC kJ (kC kJ (kC kJ (kC kJ (kC kJ (kC kJ (kC kJ (kC kJ (kC (kA 43) (kC (kA 44) (kC (kA 45) (kC kJ (kC kJ (kC kJ (kC kJ (kC kJ (kC kJ (kC kJ (kC kJ (kC (kA 46) (kC (kA 47) (kC (kA 48) (kC (kA 49) (kC kJ (kC kJ (kC kJ (kC kJ (kC kJ (kC kJ (kC (kG fb) (kC (kG dn) kN))))))))))))))))))))))))))))))))))))))))))))))))))))))))))))))))))))))))))))))))))))))))))))))))))) (kC (aE.var 1 45 xD) (kC (kR 22 133 bh) (kC (kR 23 153 aa) (kC (kR 24 3 au) (kC (kR 30 61 dn) (kC (kR 31 133 bh) (kC (kR 32 153 aa) (kC (kR 33 3 au) (kC (kR 34 133 bh) (kC (kR 35 153 aa) (kC (kR 36 3 au) (kC (kR 37 133 bh) (kC (kR 38 153 aa) (kC (kR 39 3 au) (kC (kR 40 133 bh) (kC (kR 41 153 aa) (kC (kR 42 3 au) (kC (kR 43 133 bh) (kC (kR 44 153 aa) (kC (kR 45 3 au) (kC (kR 46 133 bh) (kC (kR 47 153 aa) (kC (kR 48 3 au) (kC (kR 49 66 bL) kN)))))))))))))))))))))))))) (fun p=>((az.mk (bI.mk (aG.mk p.2.1.1 p.2.1.2.1 p.2.1.2.2.1 p.2.1.2.2.2.1) (fw.mk (ah.mk p.2.1.2.2.2.2.1 p.2.1.2.2.2.2.2.1 p.2.1.2.2.2.2.2.2.1 p.2.1.2.2.2.2.2.2.2.1 (t8 p.2.1).1 (t8 p.2.1).2.1) (ah.mk (t8 p.2.1).2.2.1 (t8 p.2.1).2.2.2.1 (t8 p.2.1).2.2.2.2.1 (t8 p.2.1).2.2.2.2.2.1 (t8 p.2.1).2.2.2.2.2.2.1 (t8 p.2.1).2.2.2.2.2.2.2.1) (ah.mk (t8 (t8 p.2.1)).1 (t8 (t8 p.2.1)).2.1 (t8 (t8 p.2.1)).2.2.1 (t8 (t8 p.2.1)).2.2.2.1 (t8 (t8 p.2.1)).2.2.2.2.1 (t8 (t8 p.2.1)).2.2.2.2.2.1)) p.2.2.2.2.2.2.1 (dw.mk (Device.mk (t8 (t8 p.2.1)).2.2.2.2.2.2.2.1 (t8 (t8 (t8 p.2.1))).1 (aO.mk (t8 (t8 (t8 p.2.1))).2.1 (t8 (t8 (t8 p.2.1))).2.2.1 (aI.mk (t8 (t8 (t8 p.2.1))).2.2.2.1 (t8 (t8 (t8 p.2.1))).2.2.2.2.1 (t8 (t8 (t8 p.2.1))).2.2.2.2.2.1 (t8 (t8 (t8 p.2.1))).2.2.2.2.2.2.1 p.2.2.2.2.2.2.2.1 p.2.2.2.2.2.2.2.2.1 (t8 p.2).1))) (Device.mk (t32 p.2.1).2.2.1 (t32 p.2.1).2.2.2.1 (aO.mk (t32 p.2.1).2.2.2.2.1 (t32 p.2.1).2.2.2.2.2.1 (aI.mk (t32 p.2.1).2.2.2.2.2.2.1 (t32 p.2.1).2.2.2.2.2.2.2.1 (t8 (t32 p.2.1)).1 (t8 (t32 p.2.1)).2.1 (t8 p.2).2.1 (t8 p.2).2.2.1 (t8 p.2).2.2.2.1))) (Device.mk (t8 (t32 p.2.1)).2.2.2.2.2.1 (t8 (t32 p.2.1)).2.2.2.2.2.2.1 (aO.mk (t8 (t32 p.2.1)).2.2.2.2.2.2.2.1 (t8 (t8 (t32 p.2.1))).1 (aI.mk (t8 (t8 (t32 p.2.1))).2.1 (t8 (t8 (t32 p.2.1))).2.2.1 (t8 (t8 (t32 p.2.1))).2.2.2.1 (t8 (t8 (t32 p.2.1))).2.2.2.2.1 (t8 p.2).2.2.2.2.1 (t8 p.2).2.2.2.2.2.1 (t8 p.2).2.2.2.2.2.2.1))) (Device.mk (t8 (t8 (t8 (t32 p.2.1)))).1 (t8 (t8 (t8 (t32 p.2.1)))).2.1 (aO.mk (t8 (t8 (t8 (t32 p.2.1)))).2.2.1 (t8 (t8 (t8 (t32 p.2.1)))).2.2.2.1 (aI.mk (t8 (t8 (t8 (t32 p.2.1)))).2.2.2.2.1 (t8 (t8 (t8 (t32 p.2.1)))).2.2.2.2.2.1 (t8 (t8 (t8 (t32 p.2.1)))).2.2.2.2.2.2.1 (t8 (t8 (t8 (t32 p.2.1)))).2.2.2.2.2.2.2.1 (t8 p.2).2.2.2.2.2.2.2.1 (t8 (t8 p.2)).1 (t8 (t8 p.2)).2.1))) (Device.mk (t32 (t32 p.2.1)).2.2.2.1 (t32 (t32 p.2.1)).2.2.2.2.1 (aO.mk (t32 (t32 p.2.1)).2.2.2.2.2.1 (t32 (t32 p.2.1)).2.2.2.2.2.2.1 (aI.mk (t32 (t32 p.2.1)).2.2.2.2.2.2.2.1 (t8 (t32 (t32 p.2.1))).1 (t8 (t32 (t32 p.2.1))).2.1 (t8 (t32 (t32 p.2.1))).2.2.1 (t8 (t8 p.2)).2.2.1 (t8 (t8 p.2)).2.2.2.1 (t8 (t8 p.2)).2.2.2.2.1))) (Device.mk (t8 (t32 (t32 p.2.1))).2.2.2.2.2.2.1 (t8 (t32 (t32 p.2.1))).2.2.2.2.2.2.2.1 (aO.mk (t8 (t8 (t32 (t32 p.2.1)))).1 (t8 (t8 (t32 (t32 p.2.1)))).2.1 (aI.mk (t8 (t8 (t32 (t32 p.2.1)))).2.2.1 (t8 (t8 (t32 (t32 p.2.1)))).2.2.2.1 (t8 (t8 (t32 (t32 p.2.1)))).2.2.2.2.1 (t8 (t8 (t32 (t32 p.2.1)))).2.2.2.2.2.1 (t8 (t8 p.2)).2.2.2.2.2.1 (t8 (t8 p.2)).2.2.2.2.2.2.1 (t8 (t8 p.2)).2.2.2.2.2.2.2.1)))) (t8 (t8 (t8 p.2))).1 (t8 (t8 (t8 (t32 (t32 p.2.1))))).2.2.1) (bg.mk (t8 (t8 (t8 (t32 (t32 p.2.1))))).2.2.2.1 (t8 (t8 (t8 (t32 (t32 p.2.1))))).2.2.2.2.1 (t8 (t8 (t8 (t32 (t32 p.2.1))))).2.2.2.2.2.1 (t8 (t8 (t8 (t32 (t32 p.2.1))))).2.2.2.2.2.2.1 (t8 (t8 (t8 (t32 (t32 p.2.1))))).2.2.2.2.2.2.2.1 (t32 (t32 (t32 p.2.1))).1 (t32 (t32 (t32 p.2.1))).2.1)),p.2.2.1,p.2.2.2.1,p.2.2.2.2.1,p.2.2.2.2.2.1)) (fun (x:az×aO×(List Slice)×(List Range)×(List Int))=>(((),((),())),((x.1.d.book.ak,(x.1.d.book.free,(x.1.d.book.aP,(x.1.d.book.bF,(x.1.d.aM.a0.v,(x.1.d.aM.a0.be,(x.1.d.aM.a0.bY,(x.1.d.aM.a0.gone,(x.1.d.aM.a0.bc,(x.1.d.aM.a0.binds,(x.1.d.aM.a1.v,(x.1.d.aM.a1.be,(x.1.d.aM.a1.bY,(x.1.d.aM.a1.gone,(x.1.d.aM.a1.bc,(x.1.d.aM.a1.binds,(x.1.d.aM.a2.v,(x.1.d.aM.a2.be,(x.1.d.aM.a2.bY,(x.1.d.aM.a2.gone,(x.1.d.aM.a2.bc,(x.1.d.aM.a2.binds,((),(x.1.d.dev.a0.aB,(x.1.d.dev.a0.aK,(x.1.d.dev.a0.aA.err,(x.1.d.dev.a0.aA.n,(x.1.d.dev.a0.aA.aD.device,(x.1.d.dev.a0.aA.aD.aB,(x.1.d.dev.a0.aA.aD.bC,(x.1.d.dev.a0.aA.aD.last,((),((),((),(x.1.d.dev.a1.aB,(x.1.d.dev.a1.aK,(x.1.d.dev.a1.aA.err,(x.1.d.dev.a1.aA.n,(x.1.d.dev.a1.aA.aD.device,(x.1.d.dev.a1.aA.aD.aB,(x.1.d.dev.a1.aA.aD.bC,(x.1.d.dev.a1.aA.aD.last,((),((),((),(x.1.d.dev.a2.aB,(x.1.d.dev.a2.aK,(x.1.d.dev.a2.aA.err,(x.1.d.dev.a2.aA.n,(x.1.d.dev.a2.aA.aD.device,(x.1.d.dev.a2.aA.aD.aB,(x.1.d.dev.a2.aA.aD.bC,(x.1.d.dev.a2.aA.aD.last,((),((),((),(x.1.d.dev.a3.aB,(x.1.d.dev.a3.aK,(x.1.d.dev.a3.aA.err,(x.1.d.dev.a3.aA.n,(x.1.d.dev.a3.aA.aD.device,(x.1.d.dev.a3.aA.aD.aB,(x.1.d.dev.a3.aA.aD.bC,(x.1.d.dev.a3.aA.aD.last,((),((),((),(x.1.d.dev.a4.aB,(x.1.d.dev.a4.aK,(x.1.d.dev.a4.aA.err,(x.1.d.dev.a4.aA.n,(x.1.d.dev.a4.aA.aD.device,(x.1.d.dev.a4.aA.aD.aB,(x.1.d.dev.a4.aA.aD.bC,(x.1.d.dev.a4.aA.aD.last,((),((),((),(x.1.d.dev.a5.aB,(x.1.d.dev.a5.aK,(x.1.d.dev.a5.aA.err,(x.1.d.dev.a5.aA.n,(x.1.d.dev.a5.aA.aD.device,(x.1.d.dev.a5.aA.aD.aB,(x.1.d.dev.a5.aA.aD.bC,(x.1.d.dev.a5.aA.aD.last,((),((),((),((),(x.1.d.now,(x.1.c.kind,(x.1.c.device,(x.1.c.aB,(x.1.c.aK,(x.1.c.n,(x.1.c.cP,(x.1.c.ops,())))))))))))))))))))))))))))))))))))))))))))))))))))))))))))))))))))))))))))))))))))))))))))))))))),(x.2.1,(x.2.2.1,(x.2.2.2.1,(x.2.2.2.2,(x.1.d.log,(x.1.d.dev.a0.aA.aD.aX,(x.1.d.dev.a0.aA.aD.ids,(x.1.d.dev.a0.aA.aD.used,(x.1.d.dev.a1.aA.aD.aX,(x.1.d.dev.a1.aA.aD.ids,(x.1.d.dev.a1.aA.aD.used,(x.1.d.dev.a2.aA.aD.aX,(x.1.d.dev.a2.aA.aD.ids,(x.1.d.dev.a2.aA.aD.used,(x.1.d.dev.a3.aA.aD.aX,(x.1.d.dev.a3.aA.aD.ids,(x.1.d.dev.a3.aA.aD.used,(x.1.d.dev.a4.aA.aD.aX,(x.1.d.dev.a4.aA.aD.ids,(x.1.d.dev.a4.aA.aD.used,(x.1.d.dev.a5.aA.aD.aX,(x.1.d.dev.a5.aA.aD.ids,(x.1.d.dev.a5.aA.aD.used,(x.1.d.lost,()))))))))))))))))))))))))))) (fun _=>rfl)
def ON:aT TL:=aT.two wy.dec (fun p=>tD p.1 p.2.1 p.2.2.1 p.2.2.2.1 p.2.2.2.2) (.exit 0) .ret Bz.aJ Bb.aJ
def MH:cL:=[(39,jY)]
def MQ:sL:=[(132,G4)]
def QI:Env:=aY tab sl sh [] [(132,.sum),(39,.keep)]
theorem aBq:bK PR (bJ MH MQ) QI:=aZ base aN (aC (dj rfl X6) (aC (oD jq rfl) aN))
theorem aEY (x:py):Out.run (bO MH MQ) (bp QI 12 20 p6.an D7 (ag (a8 p6.body) 8) (wy.aJ x)) (cj wy Bz Bb (.exit 0) .ret)=ri x:=by kernel_rfl
theorem aEr:bZ PR (bx ON) Vv D7 (ag (a8 p6.body) 8) :=
  dL aBq (loops:=12) (k:=20) (an:=p6.an) (by kernel_rfl) (aR.cI rfl Fe.keys (aC (.inl (by kernel_rfl)) aN)) wy Bz Bb (.exit 0) .ret rfl rfl ri _ aEY (fun x y h=>⟨_,h⟩) (fun _=>cA.1 rfl)
def rC (c1:az):Option (aO×az) :=
 cond (decide (0≤c1.c.device) && decide (c1.c.device < 6))
 (cond (cond ((cond (decide (c1.c.device=0)) c1.d.dev.a0.aB (cond (decide (c1.c.device=1)) c1.d.dev.a1.aB (cond (decide (c1.c.device=2)) c1.d.dev.a2.aB (cond (decide (c1.c.device=3)) c1.d.dev.a3.aB (cond (decide (c1.c.device=4)) c1.d.dev.a4.aB c1.d.dev.a5.aB))))) == 0) true (decide (c1.c.aB > (cond (decide (c1.c.device=0)) c1.d.dev.a0.aB (cond (decide (c1.c.device=1)) c1.d.dev.a1.aB (cond (decide (c1.c.device=2)) c1.d.dev.a2.aB (cond (decide (c1.c.device=3)) c1.d.dev.a3.aB (cond (decide (c1.c.device=4)) c1.d.dev.a4.aB c1.d.dev.a5.aB))))))))
 (ob (dY 2) fun r1 =>
 some (r1,c1))
 (cond (decide (c1.c.aB < (cond (decide (c1.c.device=0)) c1.d.dev.a0.aB (cond (decide (c1.c.device=1)) c1.d.dev.a1.aB (cond (decide (c1.c.device=2)) c1.d.dev.a2.aB (cond (decide (c1.c.device=3)) c1.d.dev.a3.aB (cond (decide (c1.c.device=4)) c1.d.dev.a4.aB c1.d.dev.a5.aB)))))))
 (ob (dY 16) fun r2 =>
 some (r2,c1))
 (ob (j2 c1.d.lost c1.c.device (cond (decide (c1.c.device=0)) c1.d.dev.a0.aB (cond (decide (c1.c.device=1)) c1.d.dev.a1.aB (cond (decide (c1.c.device=2)) c1.d.dev.a2.aB (cond (decide (c1.c.device=3)) c1.d.dev.a3.aB (cond (decide (c1.c.device=4)) c1.d.dev.a4.aB c1.d.dev.a5.aB)))))) fun r0 =>
 cond (r0)
 (ob (dY 16) fun r3 =>
 some (r3,c1))
 (cond (decide ((c1.c.ops.length:Int) > 20))
 (ob (dY 4) fun r4 =>
 some (r4,c1))
 (ob (tD c1.c.ops (c1.c.ops.length:Int) 0 c1 (aO.mk 0 0 (aI.mk 0 0 0 0 [] [] []))) fun y5 =>
 two y5 (fun a6 =>
 ob (jX a6.1.d.log a6.1.c.device a6.1.c.aB) fun r8 =>
 some ((aO.mk 0 r8 (aI.mk 0 0 0 0 [] [] [])),a6.1)) (fun b7 =>
 some (b7.2.1,b7.1)))))))
 none
def aDz:aE (List (Nat×En TL)) az:=kO (kC (aE.var 0 100 (kC (kG cQ) (kC (kG aa) (kC (kG cS) (kC (kG au) (kC (kG bL) (kC (kG dC) (kC (kG cd) (kC (kG bL) (kC (kG dD) (kC (kG dA) (kC (kG bL) (kC (kG dC) (kC (kG cd) (kC (kG bL) (kC (kG dD) (kC (kG dA) (kC (kG bL) (kC (kG dC) (kC (kG cd) (kC (kG bL) (kC (kG dD) (kC (kG dA) (kC (kA 86) (kC kJ (kC kJ (kC kJ (kC kJ (kC kJ (kC kJ (kC kJ (kC kJ (kC (kA 87) (kC (kA 88) (kC (kA 89) (kC kJ (kC kJ (kC kJ (kC kJ (kC kJ (kC kJ (kC kJ (kC kJ (kC (kA 90) (kC (kA 91) (kC (kA 92) (kC kJ (kC kJ (kC kJ (kC kJ (kC kJ (kC kJ (kC kJ (kC kJ (kC (kA 93) (kC (kA 94) (kC (kA 95) (kC kJ (kC kJ (kC kJ (kC kJ (kC kJ (kC kJ (kC kJ (kC kJ (kC (kA 96) (kC (kA 97) (kC (kA 98) (kC kJ (kC kJ (kC kJ (kC kJ (kC kJ (kC kJ (kC kJ (kC kJ (kC (kA 99) (kC (kA 100) (kC (kA 101) (kC kJ (kC kJ (kC kJ (kC kJ (kC kJ (kC kJ (kC kJ (kC kJ (kC (kA 102) (kC (kA 103) (kC (kA 104) (kC (kA 105) (kC kJ (kC kJ (kC kJ (kC kJ (kC kJ (kC kJ (kC (kG fb) (kC (kG dn) kN))))))))))))))))))))))))))))))))))))))))))))))))))))))))))))))))))))))))))))))))))))))))))))))))))) (kC (aE.dead 1) (kC (aE.dead 2) (kC (aE.dead 3) (kC (aE.dead 4) (kC (aE.dead 5) (kC (aE.dead 6) (kC (aE.dead 7) (kC (aE.dead 8) (kC (aE.dead 9) (kC (aE.dead 10) (kC (aE.dead 11) (kC (aE.dead 12) (kC (aE.dead 13) (kC (aE.dead 14) (kC (aE.dead 15) (kC (aE.dead 16) (kC (aE.dead 17) (kC (aE.dead 18) (kC (aE.dead 19) (kC (aE.dead 20) (kC (aE.dead 21) (kC (aE.dead 22) (kC (aE.dead 23) (kC (aE.dead 24) (kC (aE.dead 25) (kC (aE.dead 26) (kC (aE.dead 27) (kC (aE.dead 28) (kC (aE.dead 29) (kC (aE.dead 30) (kC (aE.dead 31) (kC (aE.dead 32) (kC (aE.dead 33) (kC (aE.dead 34) (kC (aE.dead 35) (kC (aE.dead 36) (kC (aE.dead 37) (kC (aE.dead 38) (kC (aE.dead 39) (kC (aE.dead 40) (kC (aE.dead 41) (kC (aE.dead 42) (kC (kR 86 61 dn) (kC (kR 87 133 bh) (kC (kR 88 153 aa) (kC (kR 89 3 au) (kC (kR 90 133 bh) (kC (kR 91 153 aa) (kC (kR 92 3 au) (kC (kR 93 133 bh) (kC (kR 94 153 aa) (kC (kR 95 3 au) (kC (kR 96 133 bh) (kC (kR 97 153 aa) (kC (kR 98 3 au) (kC (kR 99 133 bh) (kC (kR 100 153 aa) (kC (kR 101 3 au) (kC (kR 102 133 bh) (kC (kR 103 153 aa) (kC (kR 104 3 au) (kC (kR 105 66 bL) kN))))))))))))))))))))))))))))))))))))))))))))))))))))))))))))))) (fun p=>(az.mk (bI.mk (aG.mk p.1.1 p.1.2.1 p.1.2.2.1 p.1.2.2.2.1) (fw.mk (ah.mk p.1.2.2.2.2.1 p.1.2.2.2.2.2.1 p.1.2.2.2.2.2.2.1 p.1.2.2.2.2.2.2.2.1 (t8 p.1).1 (t8 p.1).2.1) (ah.mk (t8 p.1).2.2.1 (t8 p.1).2.2.2.1 (t8 p.1).2.2.2.2.1 (t8 p.1).2.2.2.2.2.1 (t8 p.1).2.2.2.2.2.2.1 (t8 p.1).2.2.2.2.2.2.2.1) (ah.mk (t8 (t8 p.1)).1 (t8 (t8 p.1)).2.1 (t8 (t8 p.1)).2.2.1 (t8 (t8 p.1)).2.2.2.1 (t8 (t8 p.1)).2.2.2.2.1 (t8 (t8 p.1)).2.2.2.2.2.1)) (t8 (t32 p)).2.2.2.1 (dw.mk (Device.mk (t8 (t8 p.1)).2.2.2.2.2.2.2.1 (t8 (t8 (t8 p.1))).1 (aO.mk (t8 (t8 (t8 p.1))).2.1 (t8 (t8 (t8 p.1))).2.2.1 (aI.mk (t8 (t8 (t8 p.1))).2.2.2.1 (t8 (t8 (t8 p.1))).2.2.2.2.1 (t8 (t8 (t8 p.1))).2.2.2.2.2.1 (t8 (t8 (t8 p.1))).2.2.2.2.2.2.1 (t8 (t32 p)).2.2.2.2.1 (t8 (t32 p)).2.2.2.2.2.1 (t8 (t32 p)).2.2.2.2.2.2.1))) (Device.mk (t32 p.1).2.2.1 (t32 p.1).2.2.2.1 (aO.mk (t32 p.1).2.2.2.2.1 (t32 p.1).2.2.2.2.2.1 (aI.mk (t32 p.1).2.2.2.2.2.2.1 (t32 p.1).2.2.2.2.2.2.2.1 (t8 (t32 p.1)).1 (t8 (t32 p.1)).2.1 (t8 (t32 p)).2.2.2.2.2.2.2.1 (t8 (t8 (t32 p))).1 (t8 (t8 (t32 p))).2.1))) (Device.mk (t8 (t32 p.1)).2.2.2.2.2.1 (t8 (t32 p.1)).2.2.2.2.2.2.1 (aO.mk (t8 (t32 p.1)).2.2.2.2.2.2.2.1 (t8 (t8 (t32 p.1))).1 (aI.mk (t8 (t8 (t32 p.1))).2.1 (t8 (t8 (t32 p.1))).2.2.1 (t8 (t8 (t32 p.1))).2.2.2.1 (t8 (t8 (t32 p.1))).2.2.2.2.1 (t8 (t8 (t32 p))).2.2.1 (t8 (t8 (t32 p))).2.2.2.1 (t8 (t8 (t32 p))).2.2.2.2.1))) (Device.mk (t8 (t8 (t8 (t32 p.1)))).1 (t8 (t8 (t8 (t32 p.1)))).2.1 (aO.mk (t8 (t8 (t8 (t32 p.1)))).2.2.1 (t8 (t8 (t8 (t32 p.1)))).2.2.2.1 (aI.mk (t8 (t8 (t8 (t32 p.1)))).2.2.2.2.1 (t8 (t8 (t8 (t32 p.1)))).2.2.2.2.2.1 (t8 (t8 (t8 (t32 p.1)))).2.2.2.2.2.2.1 (t8 (t8 (t8 (t32 p.1)))).2.2.2.2.2.2.2.1 (t8 (t8 (t32 p))).2.2.2.2.2.1 (t8 (t8 (t32 p))).2.2.2.2.2.2.1 (t8 (t8 (t32 p))).2.2.2.2.2.2.2.1))) (Device.mk (t32 (t32 p.1)).2.2.2.1 (t32 (t32 p.1)).2.2.2.2.1 (aO.mk (t32 (t32 p.1)).2.2.2.2.2.1 (t32 (t32 p.1)).2.2.2.2.2.2.1 (aI.mk (t32 (t32 p.1)).2.2.2.2.2.2.2.1 (t8 (t32 (t32 p.1))).1 (t8 (t32 (t32 p.1))).2.1 (t8 (t32 (t32 p.1))).2.2.1 (t8 (t8 (t8 (t32 p)))).1 (t8 (t8 (t8 (t32 p)))).2.1 (t8 (t8 (t8 (t32 p)))).2.2.1))) (Device.mk (t8 (t32 (t32 p.1))).2.2.2.2.2.2.1 (t8 (t32 (t32 p.1))).2.2.2.2.2.2.2.1 (aO.mk (t8 (t8 (t32 (t32 p.1)))).1 (t8 (t8 (t32 (t32 p.1)))).2.1 (aI.mk (t8 (t8 (t32 (t32 p.1)))).2.2.1 (t8 (t8 (t32 (t32 p.1)))).2.2.2.1 (t8 (t8 (t32 (t32 p.1)))).2.2.2.2.1 (t8 (t8 (t32 (t32 p.1)))).2.2.2.2.2.1 (t8 (t8 (t8 (t32 p)))).2.2.2.1 (t8 (t8 (t8 (t32 p)))).2.2.2.2.1 (t8 (t8 (t8 (t32 p)))).2.2.2.2.2.1)))) (t8 (t8 (t8 (t32 p)))).2.2.2.2.2.2.1 (t8 (t8 (t8 (t32 (t32 p.1))))).2.2.1) (bg.mk (t8 (t8 (t8 (t32 (t32 p.1))))).2.2.2.1 (t8 (t8 (t8 (t32 (t32 p.1))))).2.2.2.2.1 (t8 (t8 (t8 (t32 (t32 p.1))))).2.2.2.2.2.1 (t8 (t8 (t8 (t32 (t32 p.1))))).2.2.2.2.2.2.1 (t8 (t8 (t8 (t32 (t32 p.1))))).2.2.2.2.2.2.2.1 (t32 (t32 (t32 p.1))).1 (t32 (t32 (t32 p.1))).2.1))) (fun (x:az)=>((x.d.book.ak,(x.d.book.free,(x.d.book.aP,(x.d.book.bF,(x.d.aM.a0.v,(x.d.aM.a0.be,(x.d.aM.a0.bY,(x.d.aM.a0.gone,(x.d.aM.a0.bc,(x.d.aM.a0.binds,(x.d.aM.a1.v,(x.d.aM.a1.be,(x.d.aM.a1.bY,(x.d.aM.a1.gone,(x.d.aM.a1.bc,(x.d.aM.a1.binds,(x.d.aM.a2.v,(x.d.aM.a2.be,(x.d.aM.a2.bY,(x.d.aM.a2.gone,(x.d.aM.a2.bc,(x.d.aM.a2.binds,((),(x.d.dev.a0.aB,(x.d.dev.a0.aK,(x.d.dev.a0.aA.err,(x.d.dev.a0.aA.n,(x.d.dev.a0.aA.aD.device,(x.d.dev.a0.aA.aD.aB,(x.d.dev.a0.aA.aD.bC,(x.d.dev.a0.aA.aD.last,((),((),((),(x.d.dev.a1.aB,(x.d.dev.a1.aK,(x.d.dev.a1.aA.err,(x.d.dev.a1.aA.n,(x.d.dev.a1.aA.aD.device,(x.d.dev.a1.aA.aD.aB,(x.d.dev.a1.aA.aD.bC,(x.d.dev.a1.aA.aD.last,((),((),((),(x.d.dev.a2.aB,(x.d.dev.a2.aK,(x.d.dev.a2.aA.err,(x.d.dev.a2.aA.n,(x.d.dev.a2.aA.aD.device,(x.d.dev.a2.aA.aD.aB,(x.d.dev.a2.aA.aD.bC,(x.d.dev.a2.aA.aD.last,((),((),((),(x.d.dev.a3.aB,(x.d.dev.a3.aK,(x.d.dev.a3.aA.err,(x.d.dev.a3.aA.n,(x.d.dev.a3.aA.aD.device,(x.d.dev.a3.aA.aD.aB,(x.d.dev.a3.aA.aD.bC,(x.d.dev.a3.aA.aD.last,((),((),((),(x.d.dev.a4.aB,(x.d.dev.a4.aK,(x.d.dev.a4.aA.err,(x.d.dev.a4.aA.n,(x.d.dev.a4.aA.aD.device,(x.d.dev.a4.aA.aD.aB,(x.d.dev.a4.aA.aD.bC,(x.d.dev.a4.aA.aD.last,((),((),((),(x.d.dev.a5.aB,(x.d.dev.a5.aK,(x.d.dev.a5.aA.err,(x.d.dev.a5.aA.n,(x.d.dev.a5.aA.aD.device,(x.d.dev.a5.aA.aD.aB,(x.d.dev.a5.aA.aD.bC,(x.d.dev.a5.aA.aD.last,((),((),((),((),(x.d.now,(x.c.kind,(x.c.device,(x.c.aB,(x.c.aK,(x.c.n,(x.c.cP,(x.c.ops,())))))))))))))))))))))))))))))))))))))))))))))))))))))))))))))))))))))))))))))))))))))))))))))))))),((),((),((),((),((),((),((),((),((),((),((),((),((),((),((),((),((),((),((),((),((),((),((),((),((),((),((),((),((),((),((),((),((),((),((),((),((),((),((),((),((),((),(x.d.log,(x.d.dev.a0.aA.aD.aX,(x.d.dev.a0.aA.aD.ids,(x.d.dev.a0.aA.aD.used,(x.d.dev.a1.aA.aD.aX,(x.d.dev.a1.aA.aD.ids,(x.d.dev.a1.aA.aD.used,(x.d.dev.a2.aA.aD.aX,(x.d.dev.a2.aA.aD.ids,(x.d.dev.a2.aA.aD.used,(x.d.dev.a3.aA.aD.aX,(x.d.dev.a3.aA.aD.ids,(x.d.dev.a3.aA.aD.used,(x.d.dev.a4.aA.aD.aX,(x.d.dev.a4.aA.aD.ids,(x.d.dev.a4.aA.aD.used,(x.d.dev.a5.aA.aD.aX,(x.d.dev.a5.aA.aD.ids,(x.d.dev.a5.aA.aD.used,(x.d.lost,())))))))))))))))))))))))))))))))))))))))))))))))))))))))))))))))) (fun _=>rfl)
def mn:kT (aO×az):=kO (kS 106 (kC (aE.xs (aE.sa xD)) kN) aDz) (fun p=>(p.1.1,p.2)) (fun (x:aO×az)=>((x.1,()),x.2)) (fun _=>rfl)
def za (p:az):Option (aO×az):=rC p
def Hn:aT TL:=aT.one eP.dec za .normal mn.aJ
def HI:cL:=[(129,mr),(39,jY),(133,mg)]
def H8:sL:=[(186008,ON)]
def Gp:Env:=aY tab sl sh [(86,p6),(130,yb),(128,mZ)] [(129,(.rd 89 66)),(39,.keep),(133,(.rd 22 61))]
theorem Wn:bK PR (bJ HI H8) Gp:=aZ base (aC (Fe.ae rfl (aC (lC aEr rfl) aN)) (aC (E0.ae rfl aN) (aC (o4.ae rfl aN) aN))) (aC (oD qg rfl) (aC (oD jq rfl) (aC (oD qa rfl) aN)))
theorem YA (x:az):Out.run (bO HI H8) (eZ Gp 12 20 86 (eP.aJ x)) (ef mn)=za x:=by kernel_rfl
theorem YL:ez PR 86 Hn:=fW Wn (loops:=12) (n:=20) Fe.enters eP mn za YA
def wM (c1:az):Option (aO×az) :=
 cond (decide (0≤c1.c.device) && decide (c1.c.device < 6))
 (cond (cond ((cond (decide (c1.c.device=0)) c1.d.dev.a0.aB (cond (decide (c1.c.device=1)) c1.d.dev.a1.aB (cond (decide (c1.c.device=2)) c1.d.dev.a2.aB (cond (decide (c1.c.device=3)) c1.d.dev.a3.aB (cond (decide (c1.c.device=4)) c1.d.dev.a4.aB c1.d.dev.a5.aB))))) == 0) true (decide (c1.c.aB > (cond (decide (c1.c.device=0)) c1.d.dev.a0.aB (cond (decide (c1.c.device=1)) c1.d.dev.a1.aB (cond (decide (c1.c.device=2)) c1.d.dev.a2.aB (cond (decide (c1.c.device=3)) c1.d.dev.a3.aB (cond (decide (c1.c.device=4)) c1.d.dev.a4.aB c1.d.dev.a5.aB))))))))
 (ob (dY 2) fun r1 =>
 some (r1,c1))
 (cond (decide (c1.c.aB < (cond (decide (c1.c.device=0)) c1.d.dev.a0.aB (cond (decide (c1.c.device=1)) c1.d.dev.a1.aB (cond (decide (c1.c.device=2)) c1.d.dev.a2.aB (cond (decide (c1.c.device=3)) c1.d.dev.a3.aB (cond (decide (c1.c.device=4)) c1.d.dev.a4.aB c1.d.dev.a5.aB)))))))
 (ob (dY 16) fun r2 =>
 some (r2,c1))
 (ob (j2 c1.d.lost c1.c.device (cond (decide (c1.c.device=0)) c1.d.dev.a0.aB (cond (decide (c1.c.device=1)) c1.d.dev.a1.aB (cond (decide (c1.c.device=2)) c1.d.dev.a2.aB (cond (decide (c1.c.device=3)) c1.d.dev.a3.aB (cond (decide (c1.c.device=4)) c1.d.dev.a4.aB c1.d.dev.a5.aB)))))) fun r0 =>
 cond (r0)
 (ob (dY 16) fun r3 =>
 some (r3,c1))
 (ob (nH c1.d.book c1.c.device c1.c.aB) fun r4 =>
 cond (!r4.2)
 (ob (dY 2) fun r5 =>
 some (r5,c1))
 (ob (jX c1.d.log c1.c.device c1.c.aB) fun r6 =>
 cond (cond (decide (c1.c.n < r6)) true (decide (c1.c.n > 1073741824)))
 (ob (dY 1) fun r7 =>
 some (r7,c1))
 (ob (re c1.d.book (aI.mk r4.1.device r4.1.aB r4.1.bC c1.c.n r4.1.aX r4.1.ids r4.1.used)) fun r8 =>
 some ((aO.mk 0 0 (aI.mk 0 0 0 0 [] [] [])),(az.mk (bI.mk r8.1 c1.d.aM c1.d.log c1.d.dev c1.d.lost c1.d.now) c1.c))))))))
 none
def AB (p:az):Option (aO×az):=wM p
def Ip:aT TL:=aT.one eP.dec AB .normal ii.aJ
def JC:cL:=[(129,mr),(39,jY),(134,tp),(133,mg),(135,AG)]
def HD:Env:=aY tab sl sh [(87,Us),(130,yb),(128,mZ)] [(129,(.rd 89 66)),(39,.keep),(134,.keep),(133,(.rd 22 61)),(135,.keep)]
theorem XP:bK PR (bJ JC sZ) HD:=aZ base (aC (WB.ae rfl aN) (aC (E0.ae rfl aN) (aC (o4.ae rfl aN) aN))) (aC (oD qg rfl) (aC (oD jq rfl) (aC (oD zV rfl) (aC (oD qa rfl) (aC (oD Io rfl) aN)))))
theorem YY (x:az):Out.run (bO JC sZ) (eZ HD 12 20 87 (eP.aJ x)) (ef ii)=AB x:=by kernel_rfl
theorem Zc:ez PR 87 Ip:=fW XP (loops:=12) (n:=20) WB.enters eP ii AB YY
abbrev qH:=Int×(List Slice)×Int×Int×aG×aG×aI
def J2 (i1:Int)(l1:List Slice)(i2:Int)(i3:Int)(bx1:aG)(bx2:aG)(lx1:aI):Option ((qH)⊕(Int×aG×aG×aI)) :=
 cond (decide (i3 < i2))
 (cond (decide (0≤i3))
 (ob (l1[i3.toNat]?) fun e0 =>
 ob (ml bx1 e0.key) fun r1 =>
 cond (decide (r1≥0))
 (cond (decide (0≤r1))
 (cond (decide (r1 < (bx1.ak.length:Int)))
 (ob (bx1.ak[r1.toNat]?) fun e2 =>
 cond (decide (0≤r1))
 (cond (decide (r1 < (bx1.ak.length:Int)))
 (ob (bx1.ak[r1.toNat]?) fun e3 =>
 cond (decide (0≤r1))
 (cond (decide (r1 < ((bx1.ak.set r1.toNat (bl.mk e3.key e3.cC e3.lo e3.hi e3.start (aF (e2.cO+(aF (e0.cO - e0.gZ)))) e3.cY)).length:Int)))
 (ob ((bx1.ak.set r1.toNat (bl.mk e3.key e3.cC e3.lo e3.hi e3.start (aF (e2.cO+(aF (e0.cO - e0.gZ)))) e3.cY))[r1.toNat]?) fun e4 =>
 cond (decide (0≤r1))
 (cond (decide (r1 < ((bx1.ak.set r1.toNat (bl.mk e3.key e3.cC e3.lo e3.hi e3.start (aF (e2.cO+(aF (e0.cO - e0.gZ)))) e3.cY)).length:Int)))
 (ob ((bx1.ak.set r1.toNat (bl.mk e3.key e3.cC e3.lo e3.hi e3.start (aF (e2.cO+(aF (e0.cO - e0.gZ)))) e3.cY))[r1.toNat]?) fun e5 =>
 some (.inl (i1,l1,i2,(aF (i3+1)),(aG.mk ((bx1.ak.set r1.toNat (bl.mk e3.key e3.cC e3.lo e3.hi e3.start (aF (e2.cO+(aF (e0.cO - e0.gZ)))) e3.cY)).set r1.toNat (bl.mk e5.key e5.cC e5.lo e5.hi e5.start e5.cO (aF (e4.cY+(aF (e0.cY - e0.ir)))))) bx1.free bx1.aP bx1.bF),bx2,lx1)))
 none)
 none)
 none)
 none)
 none)
 none)
 none)
 none)
 (some (.inl (i1,l1,i2,(aF (i3+1)),bx1,bx2,lx1))))
 none)
 (some (.inr (i1,bx1,bx2,lx1)))
def uv (p:qH):Option ((qH)⊕(Int×aG×aG×aI)):=J2 p.1 p.2.1 p.2.2.1 p.2.2.2.1 p.2.2.2.2.1 p.2.2.2.2.2.1 p.2.2.2.2.2.2
def RV (i1:Int)(l1:List Slice)(i2:Int)(i3:Int)(bx1:aG)(bx2:aG)(lx1:aI):Option (Int×aG×aG×aI):=bm uv ((i2 - i3).toNat+2) (i1,l1,i2,i3,bx1,bx2,lx1)
def wC:kT (qH):=kO (kS 11 (kC (kP 0 0) (kC (kP 1 0) (kC kI (kC (kP 2 0) (kC (kF bh) (kC kI (kC kI kN))))))) (kC (aE.var 0 29 (kC (kA 3) (kC (kA 4) (kC (kA 5) (kC (kA 6) kN))))) (kC (aE.var 1 29 (kC (kA 7) (kC (kA 8) (kC (kA 9) (kC (kA 10) kN))))) (kC (aE.var 2 43 lm) (kC (kR 3 65 cQ) (kC (kR 4 153 aa) (kC (kR 5 43 cS) (kC (kR 6 3 au) (kC (kR 7 65 cQ) (kC (kR 8 153 aa) (kC (kR 9 43 cS) (kC (kR 10 3 au) kN)))))))))))) (fun p=>(p.1.2.2.1,p.1.2.2.2.2.1,p.1.2.2.2.2.2.1,p.1.2.2.2.2.2.2.1,(aG.mk p.2.2.2.2.1 p.2.2.2.2.2.1 p.2.2.2.2.2.2.1 p.2.2.2.2.2.2.2.1),(aG.mk p.2.2.2.2.2.2.2.2.1 (t8 p.2).1 (t8 p.2).2.1 (t8 p.2).2.2.1),p.2.2.2.1)) (fun (x:qH)=>(((),((),(x.1,((),(x.2.1,(x.2.2.1,(x.2.2.2.1,()))))))),(((),((),((),((),())))),(((),((),((),((),())))),(x.2.2.2.2.2.2,(x.2.2.2.2.1.ak,(x.2.2.2.2.1.free,(x.2.2.2.2.1.aP,(x.2.2.2.2.1.bF,(x.2.2.2.2.2.1.ak,(x.2.2.2.2.2.1.free,(x.2.2.2.2.2.1.aP,(x.2.2.2.2.2.1.bF,()))))))))))))) (fun _=>rfl)
def BS:kT (Int×aG×aG×aI):=kO (kS 22 (kC (kP 0 0) (kC (kP 1 0) (kC kI (kC (kP 2 0) kN)))) (kC (aE.var 0 29 (kC (kA 3) (kC (kA 4) (kC (kA 5) (kC (kA 6) kN))))) (kC (aE.var 1 29 (kC (kA 7) (kC (kA 8) (kC (kA 9) (kC (kA 10) kN))))) (kC (aE.var 2 43 lm) (kC (kR 3 65 cQ) (kC (kR 4 153 aa) (kC (kR 5 43 cS) (kC (kR 6 3 au) (kC (kR 7 65 cQ) (kC (kR 8 153 aa) (kC (kR 9 43 cS) (kC (kR 10 3 au) kN)))))))))))) (fun p=>(p.1.2.2.1,(aG.mk p.2.2.2.2.1 p.2.2.2.2.2.1 p.2.2.2.2.2.2.1 p.2.2.2.2.2.2.2.1),(aG.mk p.2.2.2.2.2.2.2.2.1 (t8 p.2).1 (t8 p.2).2.1 (t8 p.2).2.2.1),p.2.2.2.1)) (fun (x:Int×aG×aG×aI)=>(((),((),(x.1,((),())))),(((),((),((),((),())))),(((),((),((),((),())))),(x.2.2.2,(x.2.1.ak,(x.2.1.free,(x.2.1.aP,(x.2.1.bF,(x.2.2.1.ak,(x.2.2.1.free,(x.2.2.1.aP,(x.2.2.1.bF,()))))))))))))) (fun _=>rfl)
def NR:aT TL:=aT.one wC.dec (fun p=>RV p.1 p.2.1 p.2.2.1 p.2.2.2.1 p.2.2.2.2.1 p.2.2.2.2.2.1 p.2.2.2.2.2.2) (.exit 0) BS.aJ
def LS:cL:=[(121,td)]
def OH:Env:=aY tab sl sh [] [(121,.pure)]
theorem Zq:bK PR (bJ LS sZ) OH:=aZ base aN (aC (oD zF rfl) aN)
theorem aB1 (x:qH):Out.run (bO LS sZ) (bp OH 12 20 iJ.an CZ (ag (a8 iJ.body) 7) (wC.aJ x)) (back wC BS fun e=>ck e (.exit 0))=uv x:=by kernel_rfl
theorem aE0:bZ PR (bx NR) yf CZ (ag (a8 iJ.body) 7) :=
  dd Zq (loops:=12) (k:=20) (an:=iJ.an) (by kernel_rfl) (aR.cI rfl tH.keys (aC (.inl (by kernel_rfl)) (aC (.inl (by kernel_rfl)) (aC (.inl (by kernel_rfl)) aN)))) wC BS (.exit 0) rfl uv _ aB1 (fun x y h=>⟨_,h⟩) (fun _=>cA.1 rfl)
abbrev pR:=Int×(List Range)×(List Range)×Int×Int×(List Range)×Int×Int
def IJ (i1:Int)(l1:List Range)(l2:List Range)(i2:Int)(i3:Int)(l3:List Range)(i4:Int)(i5:Int):Option ((pR)⊕(Int×(List Range)×(List Range)×Int×Int×(List Range))) :=
 cond (decide (i5 < i4))
 (cond (decide (0≤i5))
 (cond (decide (i5 < (l3.length:Int)))
 (ob (l3[i5.toNat]?) fun e0 =>
 cond (decide (e0.from_ < e0.bt))
 (cond (fits ((l1++[e0]).length))
 (some (.inl (i1,(l1++[e0]),l2,i2,i3,l3,i4,(aF (i5+1)))))
 none)
 (some (.inl (i1,l1,l2,i2,i3,l3,i4,(aF (i5+1))))))
 none)
 none)
 (some (.inr (i1,l1,l2,i2,i3,l3)))
def uS (p:pR):Option ((pR)⊕(Int×(List Range)×(List Range)×Int×Int×(List Range))):=IJ p.1 p.2.1 p.2.2.1 p.2.2.2.1 p.2.2.2.2.1 p.2.2.2.2.2.1 p.2.2.2.2.2.2.1 p.2.2.2.2.2.2.2
def xz (i1:Int)(l1:List Range)(l2:List Range)(i2:Int)(i3:Int)(l3:List Range)(i4:Int)(i5:Int):Option (Int×(List Range)×(List Range)×Int×Int×(List Range)):=bm uS ((i4 - i5).toNat+2) (i1,l1,l2,i2,i3,l3,i4,i5)
def vD:kT (pR):=kO (kS 2 (kC kI (kC (aE.xs (aE.sc (kA 0))) (kC (kF aa) (kC kI (kC kI (kC (aE.xs (aE.sc (kA 1))) (kC kI (kC kI kN)))))))) (kC (kR 0 153 aa) (kC (kR 1 153 aa) kN))) (fun ((z0,_,z1,z2,z3,_,z4,z5,_),z6,z7,_)=>(z0,z6,z1,z2,z3,z7,z4,z5)) (fun (x:pR)=>((x.1,((),(x.2.2.1,(x.2.2.2.1,(x.2.2.2.2.1,((),(x.2.2.2.2.2.2.1,(x.2.2.2.2.2.2.2,())))))))),(x.2.1,(x.2.2.2.2.2.1,())))) (fun _=>rfl)
def Aq:kT (Int×(List Range)×(List Range)×Int×Int×(List Range)):=kO (kS 4 (kC kI (kC (aE.xs (aE.sc (kA 3))) (kC (kF aa) (kC kI (kC kI kN))))) (kC (kR 1 153 aa) (kC (kR 3 153 aa) kN))) (fun ((z0,_,z1,z2,z3,_),z4,z5,_)=>(z0,z5,z1,z2,z3,z4)) (fun (x:Int×(List Range)×(List Range)×Int×Int×(List Range))=>((x.1,((),(x.2.2.1,(x.2.2.2.1,(x.2.2.2.2.1,()))))),(x.2.2.2.2.2,(x.2.1,())))) (fun _=>rfl)
def BB:aT TL:=aT.one vD.dec (fun p=>xz p.1 p.2.1 p.2.2.1 p.2.2.2.1 p.2.2.2.2.1 p.2.2.2.2.2.1 p.2.2.2.2.2.2.1 p.2.2.2.2.2.2.2) (.exit 2) Aq.aJ
def Me:Env:=aY tab sl sh [] []
theorem Z0:bK PR (bJ cZ sZ) Me:=aZ base aN aN
theorem aAE (x:pR):Out.run (bO cZ sZ) (bp Me 12 20 jb.an Br (ag (a8 jb.body) 11) (vD.aJ x)) (back vD Aq fun e=>ck e (.exit 2))=uS x:=by kernel_rfl
theorem LA:bZ PR (bx BB) Em Br (ag (a8 jb.body) 11) :=
  dd Z0 (loops:=12) (k:=20) (an:=jb.an) (by kernel_rfl) (aR.cI rfl yZ.keys (aC (.inl (by kernel_rfl)) (aC (.inl (by kernel_rfl)) aN))) vD Aq (.exit 2) rfl uS _ aAE (fun x y h=>⟨_,h⟩) (fun _=>cA.1 rfl)
abbrev pD:=Int×(List Range)×(List Range)×Int×Int
def JQ (i1:Int)(l1:List Range)(l2:List Range)(i2:Int)(i3:Int):Option ((pD)⊕((List Range))) :=
 cond (decide (i3 < i2))
 (cond (decide (0≤i3))
 (ob (l2[i3.toNat]?) fun e0 =>
 cond (cond (decide (i1≥e0.from_)) (decide (i1 < e0.bt)) false)
 (ob (xz i1 l1 l2 i2 i3 [(Range.mk e0.from_ i1),(Range.mk (aF (i1+1)) e0.bt)] ([(Range.mk e0.from_ i1),(Range.mk (aF (i1+1)) e0.bt)].length:Int) 0) fun y1 =>
 some (.inl (y1.1,y1.2.1,y1.2.2.1,y1.2.2.2.1,(aF (y1.2.2.2.2.1+1)))))
 (ob (xz i1 l1 l2 i2 i3 [e0] ([e0].length:Int) 0) fun y2 =>
 some (.inl (y2.1,y2.2.1,y2.2.2.1,y2.2.2.2.1,(aF (y2.2.2.2.2.1+1))))))
 none)
 (some (.inr l1))
def vC (p:pD):Option ((pD)⊕((List Range))):=JQ p.1 p.2.1 p.2.2.1 p.2.2.2.1 p.2.2.2.2
def Qv (i1:Int)(l1:List Range)(l2:List Range)(i2:Int)(i3:Int):Option ((List Range)):=bm vC ((i2 - i3).toNat+2) (i1,l1,l2,i2,i3)
def w9:kT (pD):=kO (kS 1 (kC kI (kC (aE.xs (aE.sc (kA 0))) (kC (kF aa) (kC kI (kC kI kN))))) (kC (kR 0 153 aa) kN)) (fun ((z0,_,z1,z2,z3,_),z4,_)=>(z0,z4,z1,z2,z3)) (fun (x:pD)=>((x.1,((),(x.2.2.1,(x.2.2.2.1,(x.2.2.2.2,()))))),(x.2.1,()))) (fun _=>rfl)
def BO:kT ((List Range)):=kO (kS 2 (kC (aE.xs (aE.sc (kA 1))) kN) (kC (kR 1 153 aa) kN)) (fun p=>p.2.1) (fun (x:(List Range))=>(((),()),(x,()))) (fun _=>rfl)
def NT:aT TL:=aT.one w9.dec (fun p=>Qv p.1 p.2.1 p.2.2.1 p.2.2.2.1 p.2.2.2.2) (.exit 0) BO.aJ
def LK:sL:=[(263011,BB)]
def Ot:Env:=aY tab sl sh [] []
theorem aBE:bK PR (bJ cZ LK) Ot:=aZ base aN aN
theorem aCn (x:pD):Out.run (bO cZ LK) (bp Ot 12 20 jb.an Cs (ag (a8 jb.body) 5) (w9.aJ x)) (back w9 BO fun e=>ck e (.exit 0))=vC x:=by kernel_rfl
theorem aDV:bZ PR (bx NT) Em Cs (ag (a8 jb.body) 5) :=
  dd aBE (loops:=12) (k:=20) (an:=jb.an) (by kernel_rfl) (aR.cI rfl yZ.keys (aC (.inl (by kernel_rfl)) (aC (.inr (lC LA rfl)) aN))) w9 BO (.exit 0) rfl vC _ aCn (fun x y h=>⟨_,h⟩) (fun _=>cA.1 rfl)
def u5 (l1:List Range)(i1:Int):Option ((List Range)×Bool) :=
 ob (rz l1 i1) fun r0 =>
 cond (!r0)
 (some ([],false))
 (ob (Qv i1 [] l1 (l1.length:Int) 0) fun y1 =>
 ob (kv y1) fun y2 =>
 some (y2,true))
def Hi (p:(List Range)×Int):Option ((List Range)×Bool):=u5 p.1 p.2
def Hf:aV TL:=aV.of (DA.cons (DT.one dF) (DA.one dI)) Hi (DA.cons (DT.one dF) (DA.one dB))
theorem Xn:bi [(187,zy)] [(150,uK),(263005,NT),(263011,BB)] (aY tab sl sh [(163,jb)] [(187,.pure),(150,.sum)]) 163 (DA.cons (DT.one dF) (DA.one dI)) Hi (DA.cons (DT.one dF) (DA.one dB)):=fun _=>by kernel_rfl
theorem Y0:bU PR 163 .keep Hf:=bj Xn (aZ base (aC (yZ.ae rfl (aC (lC aDV rfl) (aC (lC LA rfl) aN))) aN) (aC (oD IY rfl) (aC (dj rfl zr) aN))) (.inl rfl) yZ.enters
abbrev qF:=Int×(List Range)×(List Int)×Int×Int×aG×aG
def Ii (i1:Int)(l1:List Range)(l2:List Int)(i2:Int)(i3:Int)(bx1:aG)(bx2:aG):Option ((qF)⊕(Int×(List Range)×aG×aG)) :=
 cond (decide (i3 < i2))
 (cond (decide (0≤i3))
 (ob (l2[i3.toNat]?) fun e0 =>
 ob (u5 l1 e0) fun r1 =>
 ob (qw bx1.bF e0) fun r2 =>
 cond (!r2.2)
 (cond (decide (0≤r2.1))
 (cond (decide (r2.1≤(bx1.bF.length:Int)))
 (cond (fits ((((bx1.bF.take r2.1.toNat)++[e0])++((bx1.bF.take bx1.bF.length).drop r2.1.toNat)).length))
 (some (.inl (i1,(cond r1.2 r1.1 l1),l2,i2,(aF (i3+1)),(aG.mk bx1.ak bx1.free bx1.aP (((bx1.bF.take r2.1.toNat)++[e0])++((bx1.bF.take bx1.bF.length).drop r2.1.toNat))),bx2)))
 none)
 none)
 none)
 (some (.inl (i1,(cond r1.2 r1.1 l1),l2,i2,(aF (i3+1)),bx1,bx2))))
 none)
 (some (.inr (i1,l1,bx1,bx2)))
def uU (p:qF):Option ((qF)⊕(Int×(List Range)×aG×aG)):=Ii p.1 p.2.1 p.2.2.1 p.2.2.2.1 p.2.2.2.2.1 p.2.2.2.2.2.1 p.2.2.2.2.2.2
def QH (i1:Int)(l1:List Range)(l2:List Int)(i2:Int)(i3:Int)(bx1:aG)(bx2:aG):Option (Int×(List Range)×aG×aG):=bm uU ((i2 - i3).toNat+2) (i1,l1,l2,i2,i3,bx1,bx2)
def vf:kT (qF):=kO (kS 10 (kC (kP 0 0) (kC (kP 1 0) (kC kI (kC (kF aa) (kC (kF au) (kC kI (kC kI kN))))))) (kC (aE.var 0 29 (kC (kA 2) (kC (kA 3) (kC (kA 4) (kC (kA 5) kN))))) (kC (aE.var 1 29 (kC (kA 6) (kC (kA 7) (kC (kA 8) (kC (kA 9) kN))))) (kC (kR 2 65 cQ) (kC (kR 3 153 aa) (kC (kR 4 43 cS) (kC (kR 5 3 au) (kC (kR 6 65 cQ) (kC (kR 7 153 aa) (kC (kR 8 43 cS) (kC (kR 9 3 au) kN))))))))))) (fun p=>(p.1.2.2.1,p.1.2.2.2.1,p.1.2.2.2.2.1,p.1.2.2.2.2.2.1,p.1.2.2.2.2.2.2.1,(aG.mk p.2.2.2.1 p.2.2.2.2.1 p.2.2.2.2.2.1 p.2.2.2.2.2.2.1),(aG.mk p.2.2.2.2.2.2.2.1 p.2.2.2.2.2.2.2.2.1 (t8 p.2).1 (t8 p.2).2.1))) (fun (x:qF)=>(((),((),(x.1,(x.2.1,(x.2.2.1,(x.2.2.2.1,(x.2.2.2.2.1,()))))))),(((),((),((),((),())))),(((),((),((),((),())))),(x.2.2.2.2.2.1.ak,(x.2.2.2.2.2.1.free,(x.2.2.2.2.2.1.aP,(x.2.2.2.2.2.1.bF,(x.2.2.2.2.2.2.ak,(x.2.2.2.2.2.2.free,(x.2.2.2.2.2.2.aP,(x.2.2.2.2.2.2.bF,())))))))))))) (fun _=>rfl)
def Al:kT (Int×(List Range)×aG×aG):=kO (kS 20 (kC (kP 0 0) (kC (kP 1 0) (kC kI (kC (kF aa) kN)))) (kC (aE.var 0 29 (kC (kA 2) (kC (kA 3) (kC (kA 4) (kC (kA 19) kN))))) (kC (aE.var 1 29 (kC (kA 6) (kC (kA 7) (kC (kA 8) (kC (kA 9) kN))))) (kC (kR 2 65 cQ) (kC (kR 3 153 aa) (kC (kR 4 43 cS) (kC (kR 6 65 cQ) (kC (kR 7 153 aa) (kC (kR 8 43 cS) (kC (kR 9 3 au) (kC (kR 19 3 au) kN))))))))))) (fun p=>(p.1.2.2.1,p.1.2.2.2.1,(aG.mk p.2.2.2.1 p.2.2.2.2.1 p.2.2.2.2.2.1 (t8 p.2).2.1),(aG.mk p.2.2.2.2.2.2.1 p.2.2.2.2.2.2.2.1 p.2.2.2.2.2.2.2.2.1 (t8 p.2).1))) (fun (x:Int×(List Range)×aG×aG)=>(((),((),(x.1,(x.2.1,())))),(((),((),((),((),())))),(((),((),((),((),())))),(x.2.2.1.ak,(x.2.2.1.free,(x.2.2.1.aP,(x.2.2.2.ak,(x.2.2.2.free,(x.2.2.2.aP,(x.2.2.2.bF,(x.2.2.1.bF,())))))))))))) (fun _=>rfl)
def L0:aT TL:=aT.one vf.dec (fun p=>QH p.1 p.2.1 p.2.2.1 p.2.2.2.1 p.2.2.2.2.1 p.2.2.2.2.2.1 p.2.2.2.2.2.2) (.exit 2) Al.aJ
def KT:cL:=[(163,Hf),(164,zc)]
def NI:Env:=aY tab sl sh [] [(163,.keep),(164,.pure),(165,(.ins 3))]
theorem Zj:bK PR (bJ KT sZ) NI:=aZ base aN (aC (oD Y0 rfl) (aC (oD HW rfl) (aC (lT Q1) aN)))
theorem aAy (x:qF):Out.run (bO KT sZ) (bp NI 12 20 iJ.an Bv (ag (a8 iJ.body) 16) (vf.aJ x)) (back vf Al fun e=>ck e (.exit 2))=uU x:=by kernel_rfl
theorem aCt:bZ PR (bx L0) yf Bv (ag (a8 iJ.body) 16) :=
  dd Zj (loops:=12) (k:=20) (an:=iJ.an) (by kernel_rfl) (aR.cI rfl tH.keys (aC (.inl (by kernel_rfl)) (aC (.inl (by kernel_rfl)) (aC (.inl (by kernel_rfl)) aN)))) vf Al (.exit 2) rfl uU _ aAy (fun x y h=>⟨_,h⟩) (fun _=>cA.1 rfl)
abbrev pU:=Int×(List Range)×Int×Int×aG×aG
def Iu (i1:Int)(l1:List Range)(i2:Int)(i3:Int)(bx1:aG)(bx2:aG):Option ((pU)⊕(Int×aG×aG)) :=
 cond (decide (i3 < i2))
 (cond (decide (0≤i3))
 (ob (l1[i3.toNat]?) fun e0 =>
 ob (nK bx1.free e0) fun r1 =>
 some (.inl (i1,l1,i2,(aF (i3+1)),(aG.mk bx1.ak r1 bx1.aP bx1.bF),bx2)))
 none)
 (some (.inr (i1,bx1,bx2)))
def uO (p:pU):Option ((pU)⊕(Int×aG×aG)):=Iu p.1 p.2.1 p.2.2.1 p.2.2.2.1 p.2.2.2.2.1 p.2.2.2.2.2
def QQ (i1:Int)(l1:List Range)(i2:Int)(i3:Int)(bx1:aG)(bx2:aG):Option (Int×aG×aG):=bm uO ((i2 - i3).toNat+2) (i1,l1,i2,i3,bx1,bx2)
def u7:kT (pU):=kO (kS 8 (kC (kP 0 0) (kC (kP 1 0) (kC kI (kC (kF aa) (kC kI (kC kI kN)))))) (kC (aE.var 0 29 (kC (kA 2) (kC (kG aa) (kC (kA 3) (kC (kA 4) kN))))) (kC (aE.var 1 29 (kC (kA 5) (kC (kG aa) (kC (kA 6) (kC (kA 7) kN))))) (kC (kR 2 65 cQ) (kC (kR 3 43 cS) (kC (kR 4 3 au) (kC (kR 5 65 cQ) (kC (kR 6 43 cS) (kC (kR 7 3 au) kN))))))))) (fun ((_,_,z0,z1,z2,z3,_),(_,z4,_),(_,z5,_),z6,z7,z8,z9,z10,z11,_)=>(z0,z1,z2,z3,(aG.mk z6 z4 z7 z8),(aG.mk z9 z5 z10 z11))) (fun (x:pU)=>(((),((),(x.1,(x.2.1,(x.2.2.1,(x.2.2.2.1,())))))),(((),(x.2.2.2.2.1.free,((),((),())))),(((),(x.2.2.2.2.2.free,((),((),())))),(x.2.2.2.2.1.ak,(x.2.2.2.2.1.aP,(x.2.2.2.2.1.bF,(x.2.2.2.2.2.ak,(x.2.2.2.2.2.aP,(x.2.2.2.2.2.bF,())))))))))) (fun _=>rfl)
def Am:kT (Int×aG×aG):=kO (kS 16 (kC (kP 0 0) (kC (kP 1 0) (kC kI kN))) (kC (aE.var 0 29 (kC (kA 2) (kC (kG aa) (kC (kA 3) (kC (kA 4) kN))))) (kC (aE.var 1 29 (kC (kA 5) (kC (kG aa) (kC (kA 6) (kC (kA 7) kN))))) (kC (kR 2 65 cQ) (kC (kR 3 43 cS) (kC (kR 4 3 au) (kC (kR 5 65 cQ) (kC (kR 6 43 cS) (kC (kR 7 3 au) kN))))))))) (fun ((_,_,z0,_),(_,z1,_),(_,z2,_),z3,z4,z5,z6,z7,z8,_)=>(z0,(aG.mk z3 z1 z4 z5),(aG.mk z6 z2 z7 z8))) (fun (x:Int×aG×aG)=>(((),((),(x.1,()))),(((),(x.2.1.free,((),((),())))),(((),(x.2.2.free,((),((),())))),(x.2.1.ak,(x.2.1.aP,(x.2.1.bF,(x.2.2.ak,(x.2.2.aP,(x.2.2.bF,())))))))))) (fun _=>rfl)
def LB:aT TL:=aT.one u7.dec (fun p=>QQ p.1 p.2.1 p.2.2.1 p.2.2.2.1 p.2.2.2.2.1 p.2.2.2.2.2) (.exit 4) Am.aJ
def Kh:cL:=[(123,uD)]
def Nm:Env:=aY tab sl sh [] [(123,.keep)]
theorem ZI:bK PR (bJ Kh sZ) Nm:=aZ base aN (aC (oD zo rfl) aN)
theorem aAd (x:pU):Out.run (bO Kh sZ) (bp Nm 12 20 iJ.an CI (ag (a8 iJ.body) 26) (u7.aJ x)) (back u7 Am fun e=>ck e (.exit 4))=uO x:=by kernel_rfl
theorem aBk:bZ PR (bx LB) yf CI (ag (a8 iJ.body) 26) :=
  dd ZI (loops:=12) (k:=20) (an:=iJ.an) (by kernel_rfl) (aR.cI rfl tH.keys (aC (.inl (by kernel_rfl)) (aC (.inl (by kernel_rfl)) (aC (.inl (by kernel_rfl)) aN)))) u7 Am (.exit 4) rfl uO _ aAd (fun x y h=>⟨_,h⟩) (fun _=>cA.1 rfl)
end
end Go.Proofs.YtcjpeijiaojeiaaGreat
