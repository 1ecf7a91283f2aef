/- By program (gen.py): the functions in their typed form. -/
import Derived.Test.YtcjpeijiaojeiaaGreatF0
import Derived.Test.YtcjpeijiaojeiaaGreatHa
import Derived.Test.YtcjpeijiaojeiaaGreatLb
namespace Go.Proofs.YtcjpeijiaojeiaaGreat
open Go Go.Ev
set_option maxRecDepth 1000000
noncomputable section
abbrev mO:=ByteArray×Bool×Int×Int
def zn (s1:ByteArray)(b1:Bool)(i1:Int)(i2:Int):Option ((mO)⊕(((ByteArray×Bool)⊕(ByteArray×Bool)))) :=
 cond (decide (i2 < i1))
 (cond (decide (0≤i2))
 (cond (decide (i2 < (s1.size:Int)))
 (cond (decide (((s1[(i2:Int).toNat]?.getD 0).toNat:Int) < 32))
 (some (.inr (.inr (s1,false))))
 (cond (decide (0≤i2))
 (cond (decide (i2 < (s1.size:Int)))
 (cond (((s1[(i2:Int).toNat]?.getD 0).toNat:Int) == 127)
 (some (.inr (.inr (s1,false))))
 (some (.inl (s1,b1,i1,(aF (i2+1))))))
 none)
 none))
 none)
 none)
 (some (.inr (.inl (s1,b1))))
def uC (p:mO):Option ((mO)⊕(((ByteArray×Bool)⊕(ByteArray×Bool)))):=zn p.1 p.2.1 p.2.2.1 p.2.2.2
def Om (s1:ByteArray)(b1:Bool)(i1:Int)(i2:Int):Option (((ByteArray×Bool)⊕(ByteArray×Bool))):=bZ uC ((i1 - i2).toNat+2) (s1,b1,i1,i2)
def J9:kT (mO):=kO (kS 0 (kC (aD.xs (aD.sc kE)) (kC kB (kC kI (kC kI kN)))) kN) (fun ((z0,z1,z2,z3,_),_)=>(z0,z1,z2,z3)) (fun (x:mO)=>((x.1,(x.2.1,(x.2.2.1,(x.2.2.2,())))),())) (fun _=>rfl)
def ug:kT (ByteArray×Bool):=kO (kS 0 (kC (aD.xs (aD.sc kE)) (kC kB kN)) kN) (fun p=>(p.1.1,p.1.2.1)) (fun (x:ByteArray×Bool)=>((x.1,(x.2,())),())) (fun _=>rfl)
def JO:aM TL:=aM.two J9.dec (fun p=>Om p.1 p.2.1 p.2.2.1 p.2.2.2) (.exit 0) .ret ug.enc ug.enc
theorem aBs:bM PR (bm JO) Pr L6 (bV (bC wx.body) 2):=lB (cs:=[]) (ss:=[]) (E:=aX tab sl sh [] []) (an:=wx.an) (aY base aN aN) uC (by kernel_rfl) (sB rfl Db.keys (by kernel_rfl)) rfl rfl (fun x y h=>⟨_,h⟩) (fun _=>rfl) fun _=>by kernel_rfl
def m9 (s1:ByteArray):Option Bool :=
 ob (Om s1 false (s1.size:Int) 0) fun y0 =>
 two y0 (fun a1 =>
 some (decide ((a1.1.size:Int)≤40))) (fun b2 =>
 some b2.2)
def Xq (p:ByteArray):Option Bool:=m9 p
def HK:aQ TL:=aQ.of (DA.one (DT.one DI.str)) Xq (DA.one dB)
theorem Xu:be PR 183 .pure HK:=bx (cs:=[]) (ss:=[(283002,JO)]) (E:=aX tab sl sh [(183,wx)] []) (fun _=>by kernel_rfl) (aY base (aC (Db.ak rfl (aC (lC aBs rfl) aN)) aN) aN) (.inr rfl) Db.enters
def n5 (ex1:aL)(ex2:aL):Option Int :=
 ob (gZ ex1.device ex2.device) fun r0 =>
 ob (gZ ex1.aA ex2.aA) fun r1 =>
 ob (gZ ex1.seq ex2.seq) fun r2 =>
 ob (iC [r0,r1,r2]) fun r3 =>
 some r3
def WD (p:aL×aL):Option Int:=n5 p.1 p.2
def FX:aQ TL:=aQ.of (DA.cons (DT.agg kv) (DA.one (DT.agg kv))) WD (DA.one dI)
theorem WN:be PR 231 .pure FX:=bx (cs:=[(239,nL),(216,nU)]) (ss:=[]) (E:=aX tab sl sh [(231,SQ)] [(239,.pure),(216,.pure)]) (fun _=>by kernel_rfl) (aY base (aC (SF.ak rfl aN) aN) (aC (oD pA rfl) (aC (oD pH rfl) aN))) (.inr rfl) SF.enters
abbrev rb:=(List aL)×Int×Int×Int
def zq (l1:List aL)(i1:Int)(i2:Int)(i3:Int):Option ((rb)⊕(((Int)⊕(Int)))) :=
 cond (decide (i3 < i2))
 (cond (decide (i3 > 0))
 (cond (decide (0≤(aF (i3 - 1))))
 (ob (l1[((aF (i3 - 1))).toNat]?) fun e0 =>
 cond (decide (0≤i3))
 (ob (l1[i3.toNat]?) fun e1 =>
 ob (n5 e0 e1) fun r2 =>
 cond (decide (r2≥0))
 (some (.inr (.inr 10)))
 (some (.inl (l1,i1,i2,(aF (i3+1))))))
 none)
 none)
 (some (.inl (l1,i1,i2,(aF (i3+1))))))
 (some (.inr (.inl i1)))
def uW (p:rb):Option ((rb)⊕(((Int)⊕(Int)))):=zq p.1 p.2.1 p.2.2.1 p.2.2.2
def PX (l1:List aL)(i1:Int)(i2:Int)(i3:Int):Option (((Int)⊕(Int))):=bZ uW ((i2 - i3).toNat+2) (l1,i1,i2,i3)
def aBU:kT (rb):=kO (kS 0 (kC (kF bQ) (kC kI (kC kI (kC kI kN)))) kN) (fun ((z0,z1,z2,z3,_),_)=>(z0,z1,z2,z3)) (fun (x:rb)=>((x.1,(x.2.1,(x.2.2.1,(x.2.2.2,())))),())) (fun _=>rfl)
def Jf:aM TL:=aM.two aBU.dec (fun p=>PX p.1 p.2.1 p.2.2.1 p.2.2.2) (.exit 0) .ret uX.enc uX.enc
theorem aAj:bM PR (bm Jf) Q9 MO (bV (bC wj.body) 4):=lB (cs:=[(231,FX)]) (ss:=[]) (E:=aX tab sl sh [] [(231,.pure)]) (an:=wj.an) (aY base aN (aC (oD WN rfl) aN)) uW (by kernel_rfl) (sB rfl DV.keys (by kernel_rfl)) rfl rfl (fun x y h=>⟨_,h⟩) (fun _=>rfl) fun _=>by kernel_rfl
def nq (l1:List aL):Option Int :=
 cond (decide ((l1.length:Int) > 8))
 (some 4)
 (ob (PX l1 0 (l1.length:Int) 0) fun y0 =>
 two y0 (fun _ =>
 some 0) (fun b2 =>
 some b2))
def Y2 (p:(List aL)):Option Int:=nq p
def G3:aQ TL:=aQ.of (DA.one (DT.one eu)) Y2 (DA.one dI)
theorem Y3:be PR 207 .pure G3:=bx (cs:=[]) (ss:=[(307004,Jf)]) (E:=aX tab sl sh [(207,wj)] []) (fun _=>by kernel_rfl) (aY base (aC (DV.ak rfl (aC (lC aAj rfl) aN)) aN) aN) (.inr rfl) DV.enters
def nk (o1:Op):Option Int :=
 cond (o1.kind == 3)
 (cond (!cA o1.key cr)
 (ob (nq o1.cz) fun r0 =>
 some r0)
 (cond (cA o1.key cr)
 (some 1)
 (some 0)))
 (cond (cond (o1.kind == 1) (o1.kind == 1) (o1.kind == 2))
 (cond (cA o1.key cr)
 (some 1)
 (some 0))
 (cond (o1.kind == 4)
 (cond (cA o1.key cr)
 (some 1)
 (cond (o1.n == 0)
 (some 11)
 (ob (j9 o1.n (-1099511627776) 1099511627776) fun r1 =>
 cond (!r1)
 (some 11)
 (some 0))))
 (cond (o1.kind == 5)
 (ob (j9 o1.n 0 999) fun r2 =>
 cond (!r2)
 (some 11)
 (some 0))
 (some 0))))
def Ya (p:Op):Option Int:=nk p
def HS:aQ TL:=aQ.of (DA.one (DT.agg jW)) Ya (DA.one dI)
theorem Xw:be PR 184 .pure HS:=bx (cs:=[(207,G3),(182,yn)]) (ss:=[]) (E:=aX tab sl sh [(184,SK)] [(207,.pure),(182,.pure)]) (fun _=>by kernel_rfl) (aY base (aC (Qc.ak rfl aN) aN) (aC (oD Y3 rfl) (aC (oD F1 rfl) aN))) (.inr rfl) Qc.enters
def js (o1:Op):Option Int :=
 ob (j9 o1.aP.device 0 5) fun r0 =>
 cond (!r0)
 (some 1)
 (ob (j9 o1.aP.aA 1 1073741824) fun r1 =>
 cond (!r1)
 (some 1)
 (ob (j9 o1.aP.seq 1 1073741824) fun r2 =>
 cond (!r2)
 (some 1)
 (ob (j9 o1.bc 0 2) fun r3 =>
 cond (!r3)
 (some 1)
 (ob (j9 o1.cW 1 3) fun r4 =>
 cond (!r4)
 (some 1)
 (ob (j9 o1.time 0 1099511627776) fun r5 =>
 cond (!r5)
 (some 1)
 (ob (j9 o1.kind 1 5) fun r6 =>
 cond (!r6)
 (some 3)
 (ob (m9 o1.key) fun r7 =>
 cond (!r7)
 (some 5)
 (ob (m9 o1.text) fun r8 =>
 cond (!r8)
 (some 5)
 (ob (nk o1) fun r9 =>
 some r9)))))))))
def Xa (p:Op):Option Int:=js p
def zr:aQ TL:=aQ.of (DA.one (DT.agg jW)) Xa (DA.one dI)
theorem HI:be PR 158 .pure zr:=bx (cs:=[(182,yn),(183,HK),(184,HS)]) (ss:=[]) (E:=aX tab sl sh [(158,Qu)] [(182,.pure),(183,.pure),(184,.pure)]) (fun _=>by kernel_rfl) (aY base (aC (Qq.ak rfl aN) aN) (aC (oD F1 rfl) (aC (oD Xu rfl) (aC (oD Xw rfl) aN)))) (.inr rfl) Qq.enters
abbrev ra:=Int×Bool×(List Range)×Int×Int
def H6 (i1:Int)(b1:Bool)(l1:List Range)(i2:Int)(i3:Int):Option ((ra)⊕(((Bool)⊕(Bool)))) :=
 cond (decide (i3 < i2))
 (cond (decide (0≤i3))
 (ob (l1[i3.toNat]?) fun e0 =>
 cond (cond (decide (i1≥e0.from_)) (decide (i1 < e0.bU)) false)
 (some (.inr (.inr true)))
 (some (.inl (i1,b1,l1,i2,(aF (i3+1))))))
 none)
 (some (.inr (.inl b1)))
def Aj (p:ra):Option ((ra)⊕(((Bool)⊕(Bool)))):=H6 p.1 p.2.1 p.2.2.1 p.2.2.2.1 p.2.2.2.2
def Od (i1:Int)(b1:Bool)(l1:List Range)(i2:Int)(i3:Int):Option (((Bool)⊕(Bool))):=bZ Aj ((i2 - i3).toNat+2) (i1,b1,l1,i2,i3)
def aAw:kT (ra):=kO (kS 0 (kC kI (kC kB (kC (kF aj) (kC kI (kC kI kN))))) kN) (fun ((z0,z1,z2,z3,z4,_),_)=>(z0,z1,z2,z3,z4)) (fun (x:ra)=>((x.1,(x.2.1,(x.2.2.1,(x.2.2.2.1,(x.2.2.2.2,()))))),())) (fun _=>rfl)
def dZ:kT (Bool):=kO (kS 0 (kC kB kN) kN) (fun p=>p.1.1) (fun (x:Bool)=>((x,()),())) (fun _=>rfl)
def KM:aM TL:=aM.two aAw.dec (fun p=>Od p.1 p.2.1 p.2.2.1 p.2.2.2.1 p.2.2.2.2) (.exit 0) .ret dZ.enc dZ.enc
theorem aAg:bM PR (bm KM) QE NK (bV (bC xM.body) 2):=lB (cs:=[]) (ss:=[]) (E:=aX tab sl sh [] []) (an:=xM.an) (aY base aN aN) Aj (by kernel_rfl) (sB rfl Dx.keys (by kernel_rfl)) rfl rfl (fun x y h=>⟨_,h⟩) (fun _=>rfl) fun _=>by kernel_rfl
def pf (l1:List Range)(i1:Int):Option Bool :=
 ob (Od i1 false l1 (l1.length:Int) 0) fun y0 =>
 two y0 (fun _ =>
 some false) (fun b2 =>
 some b2)
def XP (p:(List Range)×Int):Option Bool:=pf p.1 p.2
def zE:aQ TL:=aQ.of (DA.cons (DT.one ev) (DA.one dI)) XP (DA.one dB)
theorem Fv:be PR 187 .pure zE:=bx (cs:=[]) (ss:=[(287002,KM)]) (E:=aX tab sl sh [(187,xM)] []) (fun _=>by kernel_rfl) (aY base (aC (Dx.ak rfl (aC (lC aAg rfl) aN)) aN) aN) (.inr rfl) Dx.enters
def tJ (i1:Int):Option Bool :=
 some (i1 != i1)
def Uh (p:Int):Option Bool:=tJ p
def Ef:aQ TL:=aQ.of (DA.one dI) Uh (DA.one dB)
theorem Ul:be PR 198 .pure Ef:=bx (cs:=[]) (ss:=[]) (E:=aX tab sl sh [(198,RB)] []) (fun _=>by kernel_rfl) (aY base (aC (Sc.ak rfl aN) aN) aN) (.inr rfl) Sc.enters
def ub (i1:Int)(i2:Int):Option Bool :=
 ob (lX i1) fun r0 =>
 cond (r0)
 (ob (lX i2) fun r1 =>
 some (cond (!r1) true (decide (i1 < i2))))
 (some (decide (i1 < i2)))
def WH (p:Int×Int):Option Bool:=ub p.1 p.2
def FZ:aQ TL:=aQ.of (DA.cons dI (DA.one dI)) WH (DA.one dB)
theorem WJ:be PR 197 .pure FZ:=bx (cs:=[(226,ye)]) (ss:=[]) (E:=aX tab sl sh [(197,Re)] [(226,.pure)]) (fun _=>by kernel_rfl) (aY base (aC (R8.ak rfl aN) aN) (aC (oD Ew rfl) aN)) (.inr rfl) R8.enters
abbrev rY:=(List Int)×Int×Int×Int×Int
def H4 (l1:List Int)(i1:Int)(i2:Int)(i3:Int)(i4:Int):Option ((rY)⊕((List Int)×Int×Int×Int)) :=
 cond (decide (i3 < i4))
 (cond (decide (0≤(aF (((IntKind.u64.wrap ((aF (i3+i4)))) / 2)))))
 (ob (l1[((aF (((IntKind.u64.wrap ((aF (i3+i4)))) / 2)))).toNat]?) fun e0 =>
 ob (ub e0 i1) fun r1 =>
 some (.inl (l1,i1,i2,(cond r1 (aF ((aF (((IntKind.u64.wrap ((aF (i3+i4)))) / 2)))+1)) i3),(cond r1 i4 (aF (((IntKind.u64.wrap ((aF (i3+i4)))) / 2)))))))
 none)
 (some (.inr (l1,i1,i2,i3)))
def Ag (p:rY):Option ((rY)⊕((List Int)×Int×Int×Int)):=H4 p.1 p.2.1 p.2.2.1 p.2.2.2.1 p.2.2.2.2
def PQ (l1:List Int)(i1:Int)(i2:Int)(i3:Int)(i4:Int):Option ((List Int)×Int×Int×Int):=bZ Ag ((i4 - i3).toNat+2) (l1,i1,i2,i3,i4)
def aBt:kT (rY):=kO (kS 0 (kC (kF bA) (kC kI (kC kI (kC kI (kC kI kN))))) kN) (fun ((z0,z1,z2,z3,z4,_),_)=>(z0,z1,z2,z3,z4)) (fun (x:rY)=>((x.1,(x.2.1,(x.2.2.1,(x.2.2.2.1,(x.2.2.2.2,()))))),())) (fun _=>rfl)
def ZV:kT ((List Int)×Int×Int×Int):=kO (kS 0 (kC (kF bA) (kC kI (kC kI (kC kI kN)))) kN) (fun ((z0,z1,z2,z3,_),_)=>(z0,z1,z2,z3)) (fun (x:(List Int)×Int×Int×Int)=>((x.1,(x.2.1,(x.2.2.1,(x.2.2.2,())))),())) (fun _=>rfl)
def KJ:aM TL:=aM.one aBt.dec (fun p=>PQ p.1 p.2.1 p.2.2.1 p.2.2.2.1 p.2.2.2.2) (.exit 0) ZV.enc
theorem aBc:bM PR (bm KJ) SY Md (bV (bC xR.body) 3):=lA (cs:=[(197,FZ)]) (ss:=[]) (E:=aX tab sl sh [] [(197,.pure)]) (an:=xR.an) (aY base aN (aC (oD WJ rfl) aN)) Ag (by kernel_rfl) (sB rfl Dn.keys (by kernel_rfl)) rfl (fun x y h=>⟨_,h⟩) (fun _=>rfl) fun _=>by kernel_rfl
def pM (l1:List Int)(i1:Int):Option (Int×Bool) :=
 ob (PQ l1 i1 (l1.length:Int) 0 (l1.length:Int)) fun y0 =>
 cond (decide (y0.2.2.2 < y0.2.2.1))
 (cond (decide (0≤y0.2.2.2))
 (ob (y0.1[y0.2.2.2.toNat]?) fun e1 =>
 cond (e1 == y0.2.1)
 (some (y0.2.2.2,true))
 (cond (decide (0≤y0.2.2.2))
 (ob (y0.1[y0.2.2.2.toNat]?) fun e2 =>
 ob (tJ e2) fun r3 =>
 cond (r3)
 (ob (tJ y0.2.1) fun r4 =>
 some (y0.2.2.2,r4))
 (some (y0.2.2.2,false)))
 none))
 none)
 (some (y0.2.2.2,false))
def WX (p:(List Int)×Int):Option (Int×Bool):=pM p.1 p.2
def yl:aQ TL:=aQ.of (DA.cons (DT.one jR) (DA.one dI)) WX (DA.cons dI (DA.one dB))
theorem Fb:be PR 164 .pure yl:=bx (cs:=[(198,Ef)]) (ss:=[(264003,KJ)]) (E:=aX tab sl sh [(164,xR)] [(198,.pure)]) (fun _=>by kernel_rfl) (aY base (aC (Dn.ak rfl (aC (lC aBc rfl) aN)) aN) (aC (oD Ul rfl) aN)) (.inr rfl) Dn.enters
abbrev rI:=(List Slice)×Int×Int×Int×Op
def Gz (l1:List Slice)(i1:Int)(i2:Int)(i3:Int)(o1:Op):Option ((rI)⊕(((Int×Op×(List Slice))⊕(Int×Op×(List Slice))))) :=
 cond (decide (i3 < i2))
 (cond (decide (0≤i3))
 (cond (decide (i3 < (l1.length:Int)))
 (ob (l1[i3.toNat]?) fun e0 =>
 cond (cA e0.key o1.key)
 (some (.inr (.inr (i3,o1,l1))))
 (some (.inl (l1,i1,i2,(aF (i3+1)),o1))))
 none)
 none)
 (some (.inr (.inl (i1,o1,l1))))
def Ad (p:rI):Option ((rI)⊕(((Int×Op×(List Slice))⊕(Int×Op×(List Slice))))):=Gz p.1 p.2.1 p.2.2.1 p.2.2.2.1 p.2.2.2.2
def P8 (l1:List Slice)(i1:Int)(i2:Int)(i3:Int)(o1:Op):Option (((Int×Op×(List Slice))⊕(Int×Op×(List Slice)))):=bZ Ad ((i2 - i3).toNat+2) (l1,i1,i2,i3,o1)
def jE:aD (List (C TL)) Op:=kO (kC kJ (kC kJ (kC kJ (kC kJ (kC kJ (kC kJ (kC kE (kC kE (kC kJ (kC kJ (kC (kG bQ) kN))))))))))) (fun p=>(Op.mk (aL.mk p.1 p.2.1 p.2.2.1) p.2.2.2.1 p.2.2.2.2.1 p.2.2.2.2.2.1 p.2.2.2.2.2.2.1 p.2.2.2.2.2.2.2.1 (t8 p).1 (t8 p).2.1 (t8 p).2.2.1)) (fun (x:Op)=>(x.aP.device,(x.aP.aA,(x.aP.seq,(x.bc,(x.cW,(x.kind,(x.key,(x.text,(x.n,(x.time,(x.cz,())))))))))))) (fun _=>rfl)
def aBv:kT (rI):=kO (kS 2 (kC (aD.xs (aD.sc (kA 0))) (kC (aD.xs (aD.sc (aD.dY 186 [] [(1,0)]))) (kC kI (kC kI (kC kI kN))))) (kC (kR 0 133 cD) (kC (aD.var 1 61 jE) kN))) (fun ((_,_,z0,z1,z2,_),z3,z4,_)=>(z3,z0,z1,z2,z4)) (fun (x:rI)=>(((),((),(x.2.1,(x.2.2.1,(x.2.2.2.1,()))))),(x.1,(x.2.2.2.2,())))) (fun _=>rfl)
def Hu:kT (Int×Op×(List Slice)):=kO (kS 4 (kC kI kN) (kC (kR 0 133 cD) (kC (aD.var 1 61 jE) kN))) (fun p=>(p.1.1,p.2.2.1,p.2.1)) (fun (x:Int×Op×(List Slice))=>((x.1,()),(x.2.2,(x.2.1,())))) (fun _=>rfl)
def JQ:aM TL:=aM.two aBv.dec (fun p=>P8 p.1 p.2.1 p.2.2.1 p.2.2.2.1 p.2.2.2.2) (.exit 0) .ret Hu.enc Hu.enc
theorem aBW:bM PR (bm JQ) S9 MD (bV (bC xi.body) 2):=lB (cs:=[]) (ss:=[]) (E:=aX tab sl sh [(186,RA)] []) (an:=xi.an) (aY base (aC (aIh.ak rfl aN) aN) aN) Ad (by kernel_rfl) (sB rfl Rx.keys (by kernel_rfl)) rfl rfl (fun x y h=>⟨_,h⟩) (fun _=>rfl) fun _=>by kernel_rfl
def tj (lx1:aH)(o1:Op):Option (aH×Int) :=
 ob (gJ lx1) fun y0 =>
 cond (o1.kind == 4)
 (ob (P8 y0.aW 0 (y0.aW.length:Int) 0 o1) fun y1 =>
 two y1 (fun _ =>
 ob (gJ lx1) fun y4 =>
 some (y4,14)) (fun b3 =>
 cond (decide (b3.1 < 0))
 (ob (gJ lx1) fun y5 =>
 some (y5,14))
 (cond (decide (0≤b3.1))
 (cond (decide (b3.1 < (b3.2.2.length:Int)))
 (ob (b3.2.2[b3.1.toNat]?) fun e6 =>
 ob (b3.2.2[b3.1.toNat]?) fun e7 =>
 cond (decide (b3.2.1.n > (aF (e6.bj - e7.dy))))
 (ob (gJ lx1) fun y10 =>
 some (y10,14))
 (ob (b3.2.2[b3.1.toNat]?) fun e8 =>
 ob (b3.2.2[b3.1.toNat]?) fun e9 =>
 cond (decide ((aF (0 - b3.2.1.n)) > (aF (e8.cE - e9.eO))))
 (ob (gJ lx1) fun y11 =>
 some (y11,14))
 (ob (b3.2.2[b3.1.toNat]?) fun e12 =>
 ob (b3.2.2[b3.1.toNat]?) fun e13 =>
 ob ((b3.2.2.set b3.1.toNat (Slice.mk e13.key e13.bj e13.cE (aF (e12.dy+(max2 b3.2.1.n 0))) e13.eO))[b3.1.toNat]?) fun e14 =>
 ob ((b3.2.2.set b3.1.toNat (Slice.mk e13.key e13.bj e13.cE (aF (e12.dy+(max2 b3.2.1.n 0))) e13.eO))[b3.1.toNat]?) fun e15 =>
 ob (gJ (aH.mk y0.device y0.aA y0.bN y0.last ((b3.2.2.set b3.1.toNat (Slice.mk e13.key e13.bj e13.cE (aF (e12.dy+(max2 b3.2.1.n 0))) e13.eO)).set b3.1.toNat (Slice.mk e15.key e15.bj e15.cE e15.dy (aF (e14.eO+(max2 (aF (0 - b3.2.1.n)) 0))))) y0.ids y0.used)) fun y20 =>
 some (y20,0))))
 none)
 none)))
 (cond (o1.kind == 5)
 (ob (pf y0.ids o1.n) fun r16 =>
 cond (!r16)
 (ob (gJ lx1) fun y17 =>
 some (y17,14))
 (ob (pM y0.used o1.n) fun r18 =>
 cond (r18.2)
 (ob (gJ lx1) fun y19 =>
 some (y19,7))
 (cond (decide (0≤r18.1))
 (cond (decide (r18.1≤(y0.used.length:Int)))
 (cond (fits ((((y0.used.take r18.1.toNat)++[o1.n])++((y0.used.take y0.used.length).drop r18.1.toNat)).length))
 (ob (gJ (aH.mk y0.device y0.aA y0.bN y0.last y0.aW y0.ids (((y0.used.take r18.1.toNat)++[o1.n])++((y0.used.take y0.used.length).drop r18.1.toNat)))) fun y21 =>
 some (y21,0))
 none)
 none)
 none)))
 (ob (gJ y0) fun y22 =>
 some (y22,0)))
def Vb (p:aH×Op):Option (aH×Int):=tj p.1 p.2
def Ez:aQ TL:=aQ.of (DA.cons (DT.agg jc) (DA.one (DT.agg jW))) Vb (DA.cons (DT.agg jc) (DA.one dI))
theorem VZ:be PR 159 .keep Ez:=bx (cs:=[(187,zE),(164,yl)]) (ss:=[(151,nN),(285002,JQ)]) (E:=aX tab sl sh [(159,Rw),(185,xi)] [(151,.sum),(187,.pure),(164,.pure),(165,(.ins 3))]) (fun _=>by kernel_rfl) (aY base (aC (S4.ak rfl aN) (aC (Rx.ak rfl (aC (lC aBW rfl) aN)) aN)) (aC (eF rfl pB) (aC (oD Fv rfl) (aC (oD Fb rfl) (aC (mH Nb) aN))))) (.inl rfl) S4.enters
def eg (c1:ag):Option ag :=
 cond (fits c1.v.length)
 (cond (fits c1.cB.length)
 (cond (fits c1.bp.length)
 (cond (fits c1.gone.length)
 (cond (fits c1.bJ.length)
 (cond (fits c1.binds.length)
 (some c1)
 none)
 none)
 none)
 none)
 none)
 none
def CK:aD (List (C TL)) ag:=kO (kC (kG bQ) (kC (kG dU) (kC (kG dE) (kC (kG bQ) (kC (kG dS) (kC (kG dQ) kN)))))) (fun (z0,z1,z2,z3,z4,z5,_)=>(ag.mk z0 z1 z2 z3 z4 z5)) (fun (x:ag)=>(x.v,(x.cB,(x.bp,(x.gone,(x.bJ,(x.binds,()))))))) (fun _=>rfl)
def Zx:kT (ag):=kO (kS 0 (kC (aD.xs (aD.sa CK)) kN) kN) (fun p=>p.1.1) (fun (x:ag)=>((x,()),())) (fun _=>rfl)
def Zc:kT (ag):=kO (kS 6 (kC (aD.xs (aD.sa (kC (kA 0) (kC (kA 1) (kC (kA 2) (kC (kA 3) (kC (kA 4) (kC (kA 5) kN)))))))) kN) (kC (kR 0 66 bQ) (kC (kR 1 142 dU) (kC (kR 2 145 dE) (kC (kR 3 59 bQ) (kC (kR 4 129 dS) (kC (kR 5 149 dQ) kN))))))) (fun (_,z0,z1,z2,z3,z4,z5,_)=>(ag.mk z0 z1 z2 z3 z4 z5)) (fun (x:ag)=>((((),((),((),((),((),((),())))))),()),(x.v,(x.cB,(x.bp,(x.gone,(x.bJ,(x.binds,())))))))) (fun _=>rfl)
def ZR (p:ag):Option ag:=eg p
def I5:aM TL:=aM.one Zx.dec ZR .normal Zc.enc
theorem Z8:fL PR 188 I5:=sM (cs:=[]) (ss:=[]) (E:=aX tab sl sh [(188,Qo)] [(79,(.eB 66)),(80,(.eB 142)),(81,(.eB 145)),(50,(.eB 59)),(82,(.eB 129)),(83,(.eB 149))]) (aY base (aC (Qj.ak rfl aN) aN) (aC (eQ P4) (aC (eQ PB) (aC (eQ PG) (aC (eQ Cm) (aC (eQ Ou) (aC (eQ PY) aN))))))) Qj.enters fun _=>by kernel_rfl
def uz (l1:List aL)(i1:Int)(i2:Int):Option Int :=
 ob (pW l1 (fg.mk i1 i2)) fun r0 =>
 cond (!r0.2)
 (some 0)
 (cond (decide (0≤r0.1))
 (ob (l1[r0.1.toNat]?) fun e1 =>
 some e1.seq)
 none)
def Wj (p:(List aL)×Int×Int):Option Int:=uz p.1 p.2.1 p.2.2
def Fh:aQ TL:=aQ.of (DA.cons (DT.one eu) (DA.cons dI (DA.one dI))) Wj (DA.one dI)
theorem Wn:be PR 232 .pure Fh:=bx (cs:=[(233,yy)]) (ss:=[]) (E:=aX tab sl sh [(232,Q7)] [(233,.pure)]) (fun _=>by kernel_rfl) (aY base (aC (QV.ak rfl aN) aN) (aC (oD Fx rfl) aN)) (.inr rfl) QV.enters
def B0 (l1:List aL)(ex1:aL):Option Bool :=
 cond (decide (ex1.seq≥1))
 (ob (uz l1 ex1.device ex1.aA) fun r0 =>
 some (decide (ex1.seq≤r0)))
 (some false)
def Wt (p:(List aL)×aL):Option Bool:=B0 p.1 p.2
def GG:aQ TL:=aQ.of (DA.cons (DT.one eu) (DA.one (DT.agg kv))) Wt (DA.one dB)
theorem XV:be PR 208 .pure GG:=bx (cs:=[(232,Fh)]) (ss:=[]) (E:=aX tab sl sh [(208,Qy)] [(232,.pure)]) (fun _=>by kernel_rfl) (aY base (aC (R3.ak rfl aN) aN) (aC (oD Wn rfl) aN)) (.inr rfl) R3.enters
def uO (l1:List aL)(ex1:aL):Option ((List aL)×Int) :=
 cond (cond (decide (ex1.device < 0)) true (cond (decide (ex1.aA < 0)) true (decide (ex1.seq < 1))))
 (some ([],1))
 (ob (B0 l1 ex1) fun r0 =>
 cond (r0)
 (some ([],7))
 (ob (laid l1 [ex1]) fun r1 =>
 some (r1,0)))
def Vc (p:(List aL)×aL):Option ((List aL)×Int):=uO p.1 p.2
def F0:aQ TL:=aQ.of (DA.cons (DT.one eu) (DA.one (DT.agg kv))) Vc (DA.cons (DT.one eu) (DA.one dI))
theorem Vt:be PR 189 .keep F0:=bx (cs:=[(208,GG),(209,NY)]) (ss:=[]) (E:=aX tab sl sh [(189,S8)] [(208,.pure),(209,(.fresh 66))]) (fun _=>by kernel_rfl) (aY base (aC (Pe.ak rfl aN) aN) (aC (oD XV rfl) (aC (oD aEf rfl) aN))) (.inl rfl) Pe.enters
def tI (s1:ByteArray):Option Bool :=
 some (!cA s1 s1)
def Ui (p:ByteArray):Option Bool:=tI p
def Eg:aQ TL:=aQ.of (DA.one (DT.one DI.str)) Ui (DA.one dB)
theorem Um:be PR 242 .pure Eg:=bx (cs:=[]) (ss:=[]) (E:=aX tab sl sh [(242,QM)] []) (fun _=>by kernel_rfl) (aY base (aC (Qw.ak rfl aN) aN) aN) (.inr rfl) Qw.enters
def gY (s1:ByteArray)(s2:ByteArray):Option Int :=
 ob (tI s1) fun r0 =>
 ob (tI s2) fun r1 =>
 cond (r0)
 (cond (r1)
 (some 0)
 (some (-1)))
 (cond (r1)
 (some 1)
 (cond (U5 s1 s2)
 (some (-1))
 (cond (!(U5 s1 s2 || cA s1 s2))
 (some 1)
 (some 0))))
def Ue (p:ByteArray×ByteArray):Option Int:=gY p.1 p.2
def ou:aQ TL:=aQ.of (DA.cons (DT.one DI.str) (DA.one (DT.one DI.str))) Ue (DA.one dI)
theorem tC:be PR 217 .pure ou:=bx (cs:=[(242,Eg)]) (ss:=[]) (E:=aX tab sl sh [(217,QN)] [(242,.pure)]) (fun _=>by kernel_rfl) (aY base (aC (Rp.ak rfl aN) aN) (aC (oD Um rfl) aN)) (.inr rfl) Rp.enters
def j8 (ex1:aL)(ex2:aL):Option Int :=
 ob (gZ ex1.device ex2.device) fun r0 =>
 ob (gZ ex1.aA ex2.aA) fun r1 =>
 ob (gZ ex1.seq ex2.seq) fun r2 =>
 ob (iC [r0,r1,r2]) fun r3 =>
 some r3
def Ud (p:aL×aL):Option Int:=j8 p.1 p.2
def ow:aQ TL:=aQ.of (DA.cons (DT.agg kv) (DA.one (DT.agg kv))) Ud (DA.one dI)
theorem tD:be PR 212 .pure ow:=bx (cs:=[(239,nL),(216,nU)]) (ss:=[]) (E:=aX tab sl sh [(212,SW)] [(239,.pure),(216,.pure)]) (fun _=>by kernel_rfl) (aY base (aC (Po.ak rfl aN) aN) (aC (oD pA rfl) (aC (oD pH rfl) aN))) (.inr rfl) Po.enters
abbrev rU:=(List db)×Int×Int×ByteArray
def Gt (l1:List db)(i1:Int)(i2:Int)(s1:ByteArray):Option ((rU)⊕((List db)×Int×ByteArray)) :=
 cond (decide (i1 < i2))
 (cond (decide (0≤(aF ((aF (i1+i2)).tdiv 2))))
 (cond (decide ((aF ((aF (i1+i2)).tdiv 2)) < (l1.length:Int)))
 (ob (l1[((aF ((aF (i1+i2)).tdiv 2))).toNat]?) fun e0 =>
 ob (gY e0.key s1) fun r1 =>
 some (.inl (l1,(cond (decide (r1 < 0)) (aF ((aF ((aF (i1+i2)).tdiv 2))+1)) i1),(cond (decide (r1 < 0)) i2 (aF ((aF (i1+i2)).tdiv 2))),s1)))
 none)
 none)
 (some (.inr (l1,i1,s1)))
def AK (p:rU):Option ((rU)⊕((List db)×Int×ByteArray)):=Gt p.1 p.2.1 p.2.2.1 p.2.2.2
def CU (l1:List db)(i1:Int)(i2:Int)(s1:ByteArray):Option ((List db)×Int×ByteArray):=bZ AK ((i2 - i1).toNat+2) (l1,i1,i2,s1)
def aCA:kT (rU):=kO (kS 2 (kC (aD.xs (aD.sc (kA 0))) (kC (aD.xs (aD.sc (aD.dY 236 [] [(1,0)]))) (kC kI (kC kI kN)))) (kC (kR 0 142 dU) (kC (aD.var 1 9 (kC kE kN)) kN))) (fun p=>(p.2.1,p.1.2.2.1,p.1.2.2.2.1,p.2.2.1.1)) (fun (x:rU)=>(((),((),(x.2.1,(x.2.2.1,())))),(x.1,((x.2.2.2,()),())))) (fun _=>rfl)
def ZE:kT ((List db)×Int×ByteArray):=kO (kS 4 (kC (aD.xs (aD.sc (kA 0))) (kC (aD.xs (aD.sc (aD.dY 236 [] [(1,0)]))) (kC kI kN))) (kC (kR 0 142 dU) (kC (aD.var 1 9 (kC kE kN)) kN))) (fun p=>(p.2.1,p.1.2.2.1,p.2.2.1.1)) (fun (x:(List db)×Int×ByteArray)=>(((),((),(x.2.1,()))),(x.1,((x.2.2,()),())))) (fun _=>rfl)
def J8:aM TL:=aM.one aCA.dec (fun p=>CU p.1 p.2.1 p.2.2.1 p.2.2.2) (.exit 0) ZE.enc
theorem aAr:bM PR (bm J8) RC Ld (bV (bC xN.body) 2):=lA (cs:=[(217,ou)]) (ss:=[]) (E:=aX tab sl sh [(236,DZ)] [(217,.pure)]) (an:=xN.an) (aY base (aC (Rs.ak rfl aN) aN) (aC (oD tC rfl) aN)) AK (by kernel_rfl) (sB rfl Sd.keys (by kernel_rfl)) rfl (fun x y h=>⟨_,h⟩) (fun _=>rfl) fun _=>by kernel_rfl
abbrev rS:=(List aL)×Int×Int×aL
def Gk (l1:List aL)(i1:Int)(i2:Int)(ex1:aL):Option ((rS)⊕((List aL)×Int×aL)) :=
 cond (decide (i1 < i2))
 (cond (decide (0≤(aF ((aF (i1+i2)).tdiv 2))))
 (cond (decide ((aF ((aF (i1+i2)).tdiv 2)) < (l1.length:Int)))
 (ob (l1[((aF ((aF (i1+i2)).tdiv 2))).toNat]?) fun e0 =>
 ob (j8 e0 ex1) fun r1 =>
 some (.inl (l1,(cond (decide (r1 < 0)) (aF ((aF ((aF (i1+i2)).tdiv 2))+1)) i1),(cond (decide (r1 < 0)) i2 (aF ((aF (i1+i2)).tdiv 2))),ex1)))
 none)
 none)
 (some (.inr (l1,i1,ex1)))
def Ai (p:rS):Option ((rS)⊕((List aL)×Int×aL)):=Gk p.1 p.2.1 p.2.2.1 p.2.2.2
def wV (l1:List aL)(i1:Int)(i2:Int)(ex1:aL):Option ((List aL)×Int×aL):=bZ Ai ((i2 - i1).toNat+2) (l1,i1,i2,ex1)
def aAt:kT (rS):=kO (kS 3 (kC (aD.xs (aD.sc (kA 0))) (kC (aD.xs (aD.sc (aD.dY 241 [] [(1,0),(2,0)]))) (kC kI (kC kI kN)))) (kC (kR 0 59 bQ) (kC (aD.var 1 279 (kC (aD.dY 212 [] []) kN)) (kC (aD.var 2 59 (kC kJ (kC kJ (kC kJ kN)))) kN)))) (fun ((_,_,z0,z1,_),z2,_,(z3,z4,z5,_),_)=>(z2,z0,z1,(aL.mk z3 z4 z5))) (fun (x:rS)=>(((),((),(x.2.1,(x.2.2.1,())))),(x.1,(((),()),((x.2.2.2.device,(x.2.2.2.aA,(x.2.2.2.seq,()))),()))))) (fun _=>rfl)
def Zm:kT ((List aL)×Int×aL):=kO (kS 6 (kC (aD.xs (aD.sc (kA 0))) (kC (aD.xs (aD.sc (aD.dY 241 [] [(1,0),(2,0)]))) (kC kI kN))) (kC (kR 0 59 bQ) (kC (aD.var 1 279 (kC (aD.dY 212 [] []) kN)) (kC (aD.var 2 59 (kC kJ (kC kJ (kC kJ kN)))) kN)))) (fun ((_,_,z0,_),z1,_,(z2,z3,z4,_),_)=>(z1,z0,(aL.mk z2 z3 z4))) (fun (x:(List aL)×Int×aL)=>(((),((),(x.2.1,()))),(x.1,(((),()),((x.2.2.device,(x.2.2.aA,(x.2.2.seq,()))),()))))) (fun _=>rfl)
def Ar:aM TL:=aM.one aAt.dec (fun p=>wV p.1 p.2.1 p.2.2.1 p.2.2.2) (.exit 0) Zm.enc
theorem Ja:bM PR (bm Ar) S6 LJ (bV (bC rA.body) 2):=lA (cs:=[(212,ow)]) (ss:=[]) (E:=aX tab sl sh [(241,wm)] [(212,.pure)]) (an:=rA.an) (aY base (aC (DY.ak rfl aN) aN) (aC (oD tD rfl) aN)) Ai (by kernel_rfl) (sB rfl D8.keys (by kernel_rfl)) rfl (fun x y h=>⟨_,h⟩) (fun _=>rfl) fun _=>by kernel_rfl
abbrev sH:=(List cR)×Int×Int×Op
def HP (l1:List cR)(i1:Int)(i2:Int)(o1:Op):Option ((sH)⊕((List cR)×Int×Op)) :=
 cond (decide (i1 < i2))
 (cond (decide (0≤(aF ((aF (i1+i2)).tdiv 2))))
 (cond (decide ((aF ((aF (i1+i2)).tdiv 2)) < (l1.length:Int)))
 (ob (l1[((aF ((aF (i1+i2)).tdiv 2))).toNat]?) fun e0 =>
 ob (gY e0.key o1.key) fun r1 =>
 ob (gY e0.text o1.text) fun r2 =>
 ob (j8 e0.aP o1.aP) fun r3 =>
 ob (iC [r1,r2,r3]) fun r4 =>
 some (.inl (l1,(cond (decide (r4 < 0)) (aF ((aF ((aF (i1+i2)).tdiv 2))+1)) i1),(cond (decide (r4 < 0)) i2 (aF ((aF (i1+i2)).tdiv 2))),o1)))
 none)
 none)
 (some (.inr (l1,i1,o1)))
def zy (p:sH):Option ((sH)⊕((List cR)×Int×Op)):=HP p.1 p.2.1 p.2.2.1 p.2.2.2
def wX (l1:List cR)(i1:Int)(i2:Int)(o1:Op):Option ((List cR)×Int×Op):=bZ zy ((i2 - i1).toNat+2) (l1,i1,i2,o1)
def aBB:kT (sH):=kO (kS 2 (kC (aD.xs (aD.sc (kA 0))) (kC (aD.xs (aD.sc (aD.dY 215 [] [(1,0)]))) (kC kI (kC kI kN)))) (kC (kR 0 145 dE) (kC (aD.var 1 61 jE) kN))) (fun p=>(p.2.1,p.1.2.2.1,p.1.2.2.2.1,p.2.2.1)) (fun (x:sH)=>(((),((),(x.2.1,(x.2.2.1,())))),(x.1,(x.2.2.2,())))) (fun _=>rfl)
def Yl:kT ((List cR)×Int×Op):=kO (kS 4 (kC (aD.xs (aD.sc (kA 0))) (kC (aD.xs (aD.sc (aD.dY 215 [] [(1,0)]))) (kC kI kN))) (kC (kR 0 145 dE) (kC (aD.var 1 61 jE) kN))) (fun p=>(p.2.1,p.1.2.2.1,p.2.2.1)) (fun (x:(List cR)×Int×Op)=>(((),((),(x.2.1,()))),(x.1,(x.2.2,())))) (fun _=>rfl)
def Jh:aM TL:=aM.one aBB.dec (fun p=>wX p.1 p.2.1 p.2.2.1 p.2.2.2) (.exit 0) Yl.enc
theorem aAd:bM PR (bm Jh) Rr MC (bV (bC wh.body) 2):=lA (cs:=[(217,ou),(212,ow),(216,nU)]) (ss:=[]) (E:=aX tab sl sh [(215,DJ)] [(217,.pure),(212,.pure),(216,.pure)]) (an:=wh.an) (aY base (aC (Pu.ak rfl aN) aN) (aC (oD tC rfl) (aC (oD tD rfl) (aC (oD pH rfl) aN)))) zy (by kernel_rfl) (sB rfl QU.keys (by kernel_rfl)) rfl (fun x y h=>⟨_,h⟩) (fun _=>rfl) fun _=>by kernel_rfl
abbrev rm:=(List cR)×Int×Int×aL
def Ge (l1:List cR)(i1:Int)(i2:Int)(ex1:aL):Option ((rm)⊕((List cR)×Int×aL)) :=
 cond (decide (i2 < (l1.length:Int)))
 (cond (decide (0≤i2))
 (cond (decide (i2 < (l1.length:Int)))
 (ob (l1[i2.toNat]?) fun e0 =>
 cond (!(cond (e0.aP.device == ex1.device) (cond (e0.aP.aA == ex1.aA) (cond (e0.aP.seq == ex1.seq) true false) false) false))
 (cond (decide (0≤i1))
 (cond (decide (i1 < (l1.length:Int)))
 (ob (l1[i1.toNat]?) fun _ =>
 some (.inl ((l1.set i1.toNat e0),(aF (i1+1)),(aF (i2+1)),ex1)))
 none)
 none)
 (some (.inl (l1,i1,(aF (i2+1)),ex1))))
 none)
 none)
 (some (.inr (l1,i1,ex1)))
def AN (p:rm):Option ((rm)⊕((List cR)×Int×aL)):=Ge p.1 p.2.1 p.2.2.1 p.2.2.2
def qf (l1:List cR)(i1:Int)(i2:Int)(ex1:aL):Option ((List cR)×Int×aL):=bZ AN (((l1.length:Int) - i2).toNat+2) (l1,i1,i2,ex1)
def aA1:kT (rm):=kO (kS 2 (kC (aD.xs (aD.sc (kA 0))) (kC (aD.xs (aD.sc (aD.dY 221 [] [(1,0)]))) (kC kI (kC kI kN)))) (kC (kR 0 145 dE) (kC (aD.var 1 59 (kC kJ (kC kJ (kC kJ kN)))) kN))) (fun ((_,_,z0,z1,_),z2,(z3,z4,z5,_),_)=>(z2,z0,z1,(aL.mk z3 z4 z5))) (fun (x:rm)=>(((),((),(x.2.1,(x.2.2.1,())))),(x.1,((x.2.2.2.device,(x.2.2.2.aA,(x.2.2.2.seq,()))),())))) (fun _=>rfl)
def Zw:kT ((List cR)×Int×aL):=kO (kS 4 (kC (aD.xs (aD.sc (kA 0))) (kC kI kN)) (kC (kR 0 145 dE) (kC (aD.var 1 59 (kC kJ (kC kJ (kC kJ kN)))) kN))) (fun p=>(p.2.1,p.1.2.1,(aL.mk p.2.2.1.1 p.2.2.1.2.1 p.2.2.1.2.2.1))) (fun (x:(List cR)×Int×aL)=>(((),(x.2.1,())),(x.1,((x.2.2.device,(x.2.2.aA,(x.2.2.seq,()))),())))) (fun _=>rfl)
def JR:aM TL:=aM.one aA1.dec (fun p=>qf p.1 p.2.1 p.2.2.1 p.2.2.2) (.exit 0) Zw.enc
theorem aB8:bM PR (bm JR) QW NV (bV (bC xI.body) 5):=lA (cs:=[]) (ss:=[]) (E:=aX tab sl sh [(221,D7)] []) (an:=xI.an) (aY base (aC (S0.ak rfl aN) aN) aN) AN (by kernel_rfl) (sB rfl Q6.keys (by kernel_rfl)) rfl (fun x y h=>⟨_,h⟩) (fun _=>rfl) fun _=>by kernel_rfl
abbrev sP:=(List cR)×Int×Int×Int×aL
def He (l1:List cR)(i1:Int)(i2:Int)(i3:Int)(ex1:aL):Option ((sP)⊕(((Int×aL×(List cR))⊕(Int×aL×(List cR))))) :=
 cond (decide (i3 < i2))
 (cond (decide (0≤i3))
 (cond (decide (i3 < (l1.length:Int)))
 (ob (l1[i3.toNat]?) fun e0 =>
 cond (cond (e0.aP.device == ex1.device) (cond (e0.aP.aA == ex1.aA) (cond (e0.aP.seq == ex1.seq) true false) false) false)
 (some (.inr (.inr (i3,ex1,l1))))
 (some (.inl (l1,i1,i2,(aF (i3+1)),ex1))))
 none)
 none)
 (some (.inr (.inl (i1,ex1,l1))))
def AO (p:sP):Option ((sP)⊕(((Int×aL×(List cR))⊕(Int×aL×(List cR))))):=He p.1 p.2.1 p.2.2.1 p.2.2.2.1 p.2.2.2.2
def qd (l1:List cR)(i1:Int)(i2:Int)(i3:Int)(ex1:aL):Option (((Int×aL×(List cR))⊕(Int×aL×(List cR)))):=bZ AO ((i2 - i3).toNat+2) (l1,i1,i2,i3,ex1)
def aBk:kT (sP):=kO (kS 2 (kC (aD.xs (aD.sc (kA 0))) (kC (aD.xs (aD.sc (aD.dY 221 [] [(1,0)]))) (kC kI (kC kI (kC kI kN))))) (kC (kR 0 145 dE) (kC (aD.var 1 59 (kC kJ (kC kJ (kC kJ kN)))) kN))) (fun ((_,_,z0,z1,z2,_),z3,(z4,z5,z6,_),_)=>(z3,z0,z1,z2,(aL.mk z4 z5 z6))) (fun (x:sP)=>(((),((),(x.2.1,(x.2.2.1,(x.2.2.2.1,()))))),(x.1,((x.2.2.2.2.device,(x.2.2.2.2.aA,(x.2.2.2.2.seq,()))),())))) (fun _=>rfl)
def IS:kT (Int×aL×(List cR)):=kO (kS 4 (kC kI kN) (kC (kR 0 145 dE) (kC (aD.var 1 59 (kC kJ (kC kJ (kC kJ kN)))) kN))) (fun ((z0,_),z1,(z2,z3,z4,_),_)=>(z0,(aL.mk z2 z3 z4),z1)) (fun (x:Int×aL×(List cR))=>((x.1,()),(x.2.2,((x.2.1.device,(x.2.1.aA,(x.2.1.seq,()))),())))) (fun _=>rfl)
def KG:aM TL:=aM.two aBk.dec (fun p=>qd p.1 p.2.1 p.2.2.1 p.2.2.2.1 p.2.2.2.2) (.exit 0) .ret IS.enc IS.enc
theorem aBp:bM PR (bm KG) Pm NS (bV (bC xm.body) 2):=lB (cs:=[]) (ss:=[]) (E:=aX tab sl sh [(221,D7)] []) (an:=xm.an) (aY base (aC (S0.ak rfl aN) aN) aN) AO (by kernel_rfl) (sB rfl QS.keys (by kernel_rfl)) rfl rfl (fun x y h=>⟨_,h⟩) (fun _=>rfl) fun _=>by kernel_rfl
abbrev rJ:=(List aL)×Int×Int×ag×ag
def Gb (l1:List aL)(i1:Int)(i2:Int)(c1:ag)(c2:ag):Option ((rJ)⊕(ag×ag)) :=
 cond (decide (i2 < i1))
 (cond (decide (0≤i2))
 (ob (l1[i2.toNat]?) fun e0 =>
 ob (wV c1.gone 0 (c1.gone.length:Int) e0) fun y1 =>
 cond (decide (y1.2.1 < (y1.1.length:Int)))
 (cond (decide (0≤y1.2.1))
 (cond (decide (y1.2.1 < (y1.1.length:Int)))
 (ob (y1.1[y1.2.1.toNat]?) fun e2 =>
 ob (j8 e2 y1.2.2) fun r3 =>
 cond (!(r3 == 0))
 (cond (decide (0≤y1.2.1))
 (cond (decide (y1.2.1≤(y1.1.length:Int)))
 (cond (fits ((((y1.1.take y1.2.1.toNat)++[e0])++((y1.1.take y1.1.length).drop y1.2.1.toNat)).length))
 (ob (qd c1.bp 0 (c1.bp.length:Int) 0 e0) fun y4 =>
 two y4 (fun a5 =>
 some (.inl (l1,i1,(aF (i2+1)),(ag.mk c1.v c1.cB a5.2.2 (((y1.1.take y1.2.1.toNat)++[e0])++((y1.1.take y1.1.length).drop y1.2.1.toNat)) c1.bJ c1.binds),c2))) (fun b6 =>
 cond (b6.1 == (-1))
 (some (.inl (l1,i1,(aF (i2+1)),(ag.mk c1.v c1.cB b6.2.2 (((y1.1.take y1.2.1.toNat)++[e0])++((y1.1.take y1.1.length).drop y1.2.1.toNat)) c1.bJ c1.binds),c2)))
 (ob (qf b6.2.2 b6.1 (aF (b6.1+1)) b6.2.1) fun y7 =>
 cond (decide (0≤y7.2.1))
 (cond (decide (y7.2.1≤(y7.1.length:Int)))
 (cond (decide ((y7.1.length:Int)≤(y7.1.length:Int)))
 (cond (decide (0≤y7.2.1))
 (cond (decide (y7.2.1≤((((y7.1.take y7.2.1.toNat)++(List.replicate (((y7.1.length:Int)).toNat - y7.2.1.toNat) (cR.mk cr cr 0 (aL.mk 0 0 0))))++((y7.1.take y7.1.length).drop (y7.2.1.toNat+(((y7.1.length:Int)).toNat - y7.2.1.toNat)))).length:Int)))
 (some (.inl (l1,i1,(aF (i2+1)),(ag.mk c1.v c1.cB ((((y7.1.take y7.2.1.toNat)++(List.replicate (((y7.1.length:Int)).toNat - y7.2.1.toNat) (cR.mk cr cr 0 (aL.mk 0 0 0))))++((y7.1.take y7.1.length).drop (y7.2.1.toNat+(((y7.1.length:Int)).toNat - y7.2.1.toNat)))).take y7.2.1.toNat) (((y1.1.take y1.2.1.toNat)++[e0])++((y1.1.take y1.1.length).drop y1.2.1.toNat)) c1.bJ c1.binds),c2)))
 none)
 none)
 none)
 none)
 none)))
 none)
 none)
 none)
 (ob (qd c1.bp 0 (c1.bp.length:Int) 0 e0) fun y8 =>
 two y8 (fun a9 =>
 some (.inl (l1,i1,(aF (i2+1)),(ag.mk c1.v c1.cB a9.2.2 y1.1 c1.bJ c1.binds),c2))) (fun b10 =>
 cond (b10.1 == (-1))
 (some (.inl (l1,i1,(aF (i2+1)),(ag.mk c1.v c1.cB b10.2.2 y1.1 c1.bJ c1.binds),c2)))
 (ob (qf b10.2.2 b10.1 (aF (b10.1+1)) b10.2.1) fun y11 =>
 cond (decide (0≤y11.2.1))
 (cond (decide (y11.2.1≤(y11.1.length:Int)))
 (cond (decide ((y11.1.length:Int)≤(y11.1.length:Int)))
 (cond (decide (0≤y11.2.1))
 (cond (decide (y11.2.1≤((((y11.1.take y11.2.1.toNat)++(List.replicate (((y11.1.length:Int)).toNat - y11.2.1.toNat) (cR.mk cr cr 0 (aL.mk 0 0 0))))++((y11.1.take y11.1.length).drop (y11.2.1.toNat+(((y11.1.length:Int)).toNat - y11.2.1.toNat)))).length:Int)))
 (some (.inl (l1,i1,(aF (i2+1)),(ag.mk c1.v c1.cB ((((y11.1.take y11.2.1.toNat)++(List.replicate (((y11.1.length:Int)).toNat - y11.2.1.toNat) (cR.mk cr cr 0 (aL.mk 0 0 0))))++((y11.1.take y11.1.length).drop (y11.2.1.toNat+(((y11.1.length:Int)).toNat - y11.2.1.toNat)))).take y11.2.1.toNat) y1.1 c1.bJ c1.binds),c2)))
 none)
 none)
 none)
 none)
 none))))
 none)
 none)
 (cond (decide (0≤y1.2.1))
 (cond (decide (y1.2.1≤(y1.1.length:Int)))
 (cond (fits ((((y1.1.take y1.2.1.toNat)++[e0])++((y1.1.take y1.1.length).drop y1.2.1.toNat)).length))
 (ob (qd c1.bp 0 (c1.bp.length:Int) 0 e0) fun y12 =>
 two y12 (fun a13 =>
 some (.inl (l1,i1,(aF (i2+1)),(ag.mk c1.v c1.cB a13.2.2 (((y1.1.take y1.2.1.toNat)++[e0])++((y1.1.take y1.1.length).drop y1.2.1.toNat)) c1.bJ c1.binds),c2))) (fun b14 =>
 cond (b14.1 == (-1))
 (some (.inl (l1,i1,(aF (i2+1)),(ag.mk c1.v c1.cB b14.2.2 (((y1.1.take y1.2.1.toNat)++[e0])++((y1.1.take y1.1.length).drop y1.2.1.toNat)) c1.bJ c1.binds),c2)))
 (ob (qf b14.2.2 b14.1 (aF (b14.1+1)) b14.2.1) fun y15 =>
 cond (decide (0≤y15.2.1))
 (cond (decide (y15.2.1≤(y15.1.length:Int)))
 (cond (decide ((y15.1.length:Int)≤(y15.1.length:Int)))
 (cond (decide (0≤y15.2.1))
 (cond (decide (y15.2.1≤((((y15.1.take y15.2.1.toNat)++(List.replicate (((y15.1.length:Int)).toNat - y15.2.1.toNat) (cR.mk cr cr 0 (aL.mk 0 0 0))))++((y15.1.take y15.1.length).drop (y15.2.1.toNat+(((y15.1.length:Int)).toNat - y15.2.1.toNat)))).length:Int)))
 (some (.inl (l1,i1,(aF (i2+1)),(ag.mk c1.v c1.cB ((((y15.1.take y15.2.1.toNat)++(List.replicate (((y15.1.length:Int)).toNat - y15.2.1.toNat) (cR.mk cr cr 0 (aL.mk 0 0 0))))++((y15.1.take y15.1.length).drop (y15.2.1.toNat+(((y15.1.length:Int)).toNat - y15.2.1.toNat)))).take y15.2.1.toNat) (((y1.1.take y1.2.1.toNat)++[e0])++((y1.1.take y1.1.length).drop y1.2.1.toNat)) c1.bJ c1.binds),c2)))
 none)
 none)
 none)
 none)
 none)))
 none)
 none)
 none))
 none)
 (some (.inr (c1,c2)))
def zw (p:rJ):Option ((rJ)⊕(ag×ag)):=Gb p.1 p.2.1 p.2.2.1 p.2.2.2.1 p.2.2.2.2
def Ch (l1:List aL)(i1:Int)(i2:Int)(c1:ag)(c2:ag):Option (ag×ag):=bZ zw ((i1 - i2).toNat+2) (l1,i1,i2,c1,c2)
def aBe:kT (rJ):=kO (kS 13 (kC (kP 0 0) (kC (kP 1 0) (kC (kF bQ) (kC kI (kC kI kN))))) (kC (aD.var 0 37 (kC (kG bQ) (kC (kA 2) (kC (kA 3) (kC (kA 4) (kC (kA 5) (kC (kA 6) kN))))))) (kC (aD.var 1 37 (kC (kA 7) (kC (kA 8) (kC (kA 9) (kC (kA 10) (kC (kA 11) (kC (kA 12) kN))))))) (kC (kR 2 142 dU) (kC (kR 3 145 dE) (kC (kR 4 59 bQ) (kC (kR 5 129 dS) (kC (kR 6 149 dQ) (kC (kR 7 66 bQ) (kC (kR 8 142 dU) (kC (kR 9 145 dE) (kC (kR 10 59 bQ) (kC (kR 11 129 dS) (kC (kR 12 149 dQ) kN)))))))))))))) (fun p=>(p.1.2.2.1,p.1.2.2.2.1,p.1.2.2.2.2.1,(ag.mk p.2.1.1 p.2.2.2.1 p.2.2.2.2.1 p.2.2.2.2.2.1 p.2.2.2.2.2.2.1 p.2.2.2.2.2.2.2.1),(ag.mk p.2.2.2.2.2.2.2.2.1 (t8 p.2).1 (t8 p.2).2.1 (t8 p.2).2.2.1 (t8 p.2).2.2.2.1 (t8 p.2).2.2.2.2.1))) (fun (x:rJ)=>(((),((),(x.1,(x.2.1,(x.2.2.1,()))))),((x.2.2.2.1.v,((),((),((),((),((),())))))),(((),((),((),((),((),((),())))))),(x.2.2.2.1.cB,(x.2.2.2.1.bp,(x.2.2.2.1.gone,(x.2.2.2.1.bJ,(x.2.2.2.1.binds,(x.2.2.2.2.v,(x.2.2.2.2.cB,(x.2.2.2.2.bp,(x.2.2.2.2.gone,(x.2.2.2.2.bJ,(x.2.2.2.2.binds,()))))))))))))))) (fun _=>rfl)
def Ym:kT (ag×ag):=kO (kS 26 (kC (kP 0 0) (kC (kP 1 0) kN)) (kC (aD.var 0 37 (kC (kG bQ) (kC (kA 2) (kC (kA 24) (kC (kA 25) (kC (kA 5) (kC (kA 6) kN))))))) (kC (aD.var 1 37 (kC (kA 7) (kC (kA 8) (kC (kA 9) (kC (kA 10) (kC (kA 11) (kC (kA 12) kN))))))) (kC (kR 2 142 dU) (kC (kR 5 129 dS) (kC (kR 6 149 dQ) (kC (kR 7 66 bQ) (kC (kR 8 142 dU) (kC (kR 9 145 dE) (kC (kR 10 59 bQ) (kC (kR 11 129 dS) (kC (kR 12 149 dQ) (kC (kR 24 145 dE) (kC (kR 25 59 bQ) kN)))))))))))))) (fun p=>((ag.mk p.2.1.1 p.2.2.2.1 (t8 p.2).2.2.2.1 (t8 p.2).2.2.2.2.1 p.2.2.2.2.1 p.2.2.2.2.2.1),(ag.mk p.2.2.2.2.2.2.1 p.2.2.2.2.2.2.2.1 p.2.2.2.2.2.2.2.2.1 (t8 p.2).1 (t8 p.2).2.1 (t8 p.2).2.2.1))) (fun (x:ag×ag)=>(((),((),())),((x.1.v,((),((),((),((),((),())))))),(((),((),((),((),((),((),())))))),(x.1.cB,(x.1.bJ,(x.1.binds,(x.2.v,(x.2.cB,(x.2.bp,(x.2.gone,(x.2.bJ,(x.2.binds,(x.1.bp,(x.1.gone,()))))))))))))))) (fun _=>rfl)
def JN:aM TL:=aM.one aBe.dec (fun p=>Ch p.1 p.2.1 p.2.2.1 p.2.2.2.1 p.2.2.2.2) (.exit 0) Ym.enc
theorem aAi:bM PR (bm JN) Qv Lw (bV (bC xP.body) 2):=lA (cs:=[(212,ow)]) (ss:=[(340002,Ar),(320005,JR),(347002,KG)]) (E:=aX tab sl sh [(213,DH),(240,rA),(241,wm),(220,xI),(247,xm)] [(212,.pure),(219,(.ins 59))]) (an:=xP.an) (aY base (aC (Qi.ak rfl aN) (aC (D8.ak rfl (aC (lC Ja rfl) aN)) (aC (DY.ak rfl aN) (aC (Q6.ak rfl (aC (lC aB8 rfl) aN)) (aC (QS.ak rfl (aC (lC aBp rfl) aN)) aN))))) (aC (oD tD rfl) (aC (mH aEs) aN))) zw (by kernel_rfl) (sB rfl Qb.keys (by kernel_rfl)) rfl (fun x y h=>⟨_,h⟩) (fun _=>rfl) fun _=>by kernel_rfl
abbrev sS:=(List Sum)×Int×Int×ByteArray
def Xi (l1:List Sum)(i1:Int)(i2:Int)(s1:ByteArray):Option ((sS)⊕((List Sum)×Int×ByteArray)) :=
 cond (decide (i1 < i2))
 (cond (decide (0≤(aF ((aF (i1+i2)).tdiv 2))))
 (cond (decide ((aF ((aF (i1+i2)).tdiv 2)) < (l1.length:Int)))
 (ob (l1[((aF ((aF (i1+i2)).tdiv 2))).toNat]?) fun e0 =>
 ob (gY e0.key s1) fun r1 =>
 some (.inl (l1,(cond (decide (r1 < 0)) (aF ((aF ((aF (i1+i2)).tdiv 2))+1)) i1),(cond (decide (r1 < 0)) i2 (aF ((aF (i1+i2)).tdiv 2))),s1)))
 none)
 none)
 (some (.inr (l1,i1,s1)))
def Ip (p:sS):Option ((sS)⊕((List Sum)×Int×ByteArray)):=Xi p.1 p.2.1 p.2.2.1 p.2.2.2
def C1 (l1:List Sum)(i1:Int)(i2:Int)(s1:ByteArray):Option ((List Sum)×Int×ByteArray):=bZ Ip ((i2 - i1).toNat+2) (l1,i1,i2,s1)
def aB7:kT (sS):=kO (kS 2 (kC (aD.xs (aD.sc (kA 0))) (kC (aD.xs (aD.sc (aD.dY 249 [] [(1,0)]))) (kC kI (kC kI kN)))) (kC (kR 0 129 dS) (kC (aD.var 1 9 (kC kE kN)) kN))) (fun p=>(p.2.1,p.1.2.2.1,p.1.2.2.2.1,p.2.2.1.1)) (fun (x:sS)=>(((),((),(x.2.1,(x.2.2.1,())))),(x.1,((x.2.2.2,()),())))) (fun _=>rfl)
def Zs:kT ((List Sum)×Int×ByteArray):=kO (kS 4 (kC (aD.xs (aD.sc (kA 0))) (kC (aD.xs (aD.sc (aD.dY 249 [] [(1,0)]))) (kC kI kN))) (kC (kR 0 129 dS) (kC (aD.var 1 9 (kC kE kN)) kN))) (fun p=>(p.2.1,p.1.2.2.1,p.2.2.1.1)) (fun (x:(List Sum)×Int×ByteArray)=>(((),((),(x.2.1,()))),(x.1,((x.2.2,()),())))) (fun _=>rfl)
def KC:aM TL:=aM.one aB7.dec (fun p=>C1 p.1 p.2.1 p.2.2.1 p.2.2.2) (.exit 0) Zs.enc
theorem aBm:bM PR (bm KC) QR MA (bV (bC xH.body) 2):=lA (cs:=[(217,ou)]) (ss:=[]) (E:=aX tab sl sh [(249,Dp)] [(217,.pure)]) (an:=xH.an) (aY base (aC (QO.ak rfl aN) aN) (aC (oD tC rfl) aN)) Ip (by kernel_rfl) (sB rfl Ry.keys (by kernel_rfl)) rfl (fun x y h=>⟨_,h⟩) (fun _=>rfl) fun _=>by kernel_rfl
abbrev rZ:=(List Bind)×Int×Int×Int
def HN (l1:List Bind)(i1:Int)(i2:Int)(i3:Int):Option ((rZ)⊕((List Bind)×Int×Int)) :=
 cond (decide (i1 < i2))
 (cond (decide (0≤(aF ((aF (i1+i2)).tdiv 2))))
 (cond (decide ((aF ((aF (i1+i2)).tdiv 2)) < (l1.length:Int)))
 (ob (l1[((aF ((aF (i1+i2)).tdiv 2))).toNat]?) fun e0 =>
 ob (gZ e0.se i3) fun r1 =>
 some (.inl (l1,(cond (decide (r1 < 0)) (aF ((aF ((aF (i1+i2)).tdiv 2))+1)) i1),(cond (decide (r1 < 0)) i2 (aF ((aF (i1+i2)).tdiv 2))),i3)))
 none)
 none)
 (some (.inr (l1,i1,i3)))
def AG (p:rZ):Option ((rZ)⊕((List Bind)×Int×Int)):=HN p.1 p.2.1 p.2.2.1 p.2.2.2
def Ca (l1:List Bind)(i1:Int)(i2:Int)(i3:Int):Option ((List Bind)×Int×Int):=bZ AG ((i2 - i1).toNat+2) (l1,i1,i2,i3)
def aBQ:kT (rZ):=kO (kS 2 (kC (aD.xs (aD.sc (kA 0))) (kC (aD.xs (aD.sc (aD.dY 253 [] [(1,0)]))) (kC kI (kC kI kN)))) (kC (kR 0 149 dQ) (kC (aD.var 1 3 (kC kJ kN)) kN))) (fun p=>(p.2.1,p.1.2.2.1,p.1.2.2.2.1,p.2.2.1.1)) (fun (x:rZ)=>(((),((),(x.2.1,(x.2.2.1,())))),(x.1,((x.2.2.2,()),())))) (fun _=>rfl)
def Za:kT ((List Bind)×Int×Int):=kO (kS 4 (kC (aD.xs (aD.sc (kA 0))) (kC (aD.xs (aD.sc (aD.dY 253 [] [(1,0)]))) (kC kI kN))) (kC (kR 0 149 dQ) (kC (aD.var 1 3 (kC kJ kN)) kN))) (fun p=>(p.2.1,p.1.2.2.1,p.2.2.1.1)) (fun (x:(List Bind)×Int×Int)=>(((),((),(x.2.1,()))),(x.1,((x.2.2,()),())))) (fun _=>rfl)
def JM:aM TL:=aM.one aBQ.dec (fun p=>Ca p.1 p.2.1 p.2.2.1 p.2.2.2) (.exit 0) Za.enc
theorem aBz:bM PR (bm JM) Ru Mp (bV (bC wg.body) 2):=lA (cs:=[(239,nL)]) (ss:=[]) (E:=aX tab sl sh [(253,DL)] [(239,.pure)]) (an:=wg.an) (aY base (aC (Ql.ak rfl aN) aN) (aC (oD pA rfl) aN)) AG (by kernel_rfl) (sB rfl SC.keys (by kernel_rfl)) rfl (fun x y h=>⟨_,h⟩) (fun _=>rfl) fun _=>by kernel_rfl
def n6 (c1:ag)(o1:Op):Option (ag×Int) :=
 ob (eg c1) fun y0 =>
 ob (js o1) fun r1 =>
 cond (r1 != 0)
 (some (y0,r1))
 (ob (uO y0.v o1.aP) fun r2 =>
 cond (r2.2 != 0)
 (some (y0,r2.2))
 (cond (o1.kind == 1)
 (ob (CU y0.cB 0 (y0.cB.length:Int) o1.key) fun y3 =>
 cond (decide (y3.2.1 < (y3.1.length:Int)))
 (cond (decide (0≤y3.2.1))
 (cond (decide (y3.2.1 < (y3.1.length:Int)))
 (ob (y3.1[y3.2.1.toNat]?) fun e4 =>
 ob (gY e4.key y3.2.2) fun r5 =>
 cond (!(r5 == 0))
 (cond (decide (0≤y3.2.1))
 (cond (decide (y3.2.1≤(y3.1.length:Int)))
 (cond (fits ((((y3.1.take y3.2.1.toNat)++[(db.mk o1.key o1.text o1.cW o1.time o1.aP)])++((y3.1.take y3.1.length).drop y3.2.1.toNat)).length))
 (ob (eg (ag.mk r2.1 (((y3.1.take y3.2.1.toNat)++[(db.mk o1.key o1.text o1.cW o1.time o1.aP)])++((y3.1.take y3.1.length).drop y3.2.1.toNat)) y0.bp y0.gone y0.bJ y0.binds)) fun y39 =>
 some (y39,0))
 none)
 none)
 none)
 (cond (decide (0≤y3.2.1))
 (cond (decide (y3.2.1 < (y3.1.length:Int)))
 (ob (y3.1[y3.2.1.toNat]?) fun e6 =>
 cond (decide (o1.time > e6.time))
 (cond (decide (0≤y3.2.1))
 (cond (decide (y3.2.1 < (y3.1.length:Int)))
 (ob (y3.1[y3.2.1.toNat]?) fun _ =>
 ob (eg (ag.mk r2.1 (y3.1.set y3.2.1.toNat (db.mk o1.key o1.text o1.cW o1.time o1.aP)) y0.bp y0.gone y0.bJ y0.binds)) fun y40 =>
 some (y40,0))
 none)
 none)
 (cond (decide (0≤y3.2.1))
 (cond (decide (y3.2.1 < (y3.1.length:Int)))
 (ob (y3.1[y3.2.1.toNat]?) fun e7 =>
 cond (o1.time == e7.time)
 (cond (decide (0≤y3.2.1))
 (cond (decide (y3.2.1 < (y3.1.length:Int)))
 (ob (y3.1[y3.2.1.toNat]?) fun e8 =>
 ob (j8 o1.aP e8.aP) fun r9 =>
 cond (decide (r9 > 0))
 (cond (decide (0≤y3.2.1))
 (cond (decide (y3.2.1 < (y3.1.length:Int)))
 (ob (y3.1[y3.2.1.toNat]?) fun _ =>
 ob (eg (ag.mk r2.1 (y3.1.set y3.2.1.toNat (db.mk o1.key o1.text o1.cW o1.time o1.aP)) y0.bp y0.gone y0.bJ y0.binds)) fun y41 =>
 some (y41,0))
 none)
 none)
 (ob (eg (ag.mk r2.1 y3.1 y0.bp y0.gone y0.bJ y0.binds)) fun y42 =>
 some (y42,0)))
 none)
 none)
 (ob (eg (ag.mk r2.1 y3.1 y0.bp y0.gone y0.bJ y0.binds)) fun y43 =>
 some (y43,0)))
 none)
 none))
 none)
 none))
 none)
 none)
 (cond (decide (0≤y3.2.1))
 (cond (decide (y3.2.1≤(y3.1.length:Int)))
 (cond (fits ((((y3.1.take y3.2.1.toNat)++[(db.mk o1.key o1.text o1.cW o1.time o1.aP)])++((y3.1.take y3.1.length).drop y3.2.1.toNat)).length))
 (ob (eg (ag.mk r2.1 (((y3.1.take y3.2.1.toNat)++[(db.mk o1.key o1.text o1.cW o1.time o1.aP)])++((y3.1.take y3.1.length).drop y3.2.1.toNat)) y0.bp y0.gone y0.bJ y0.binds)) fun y44 =>
 some (y44,0))
 none)
 none)
 none))
 (cond (o1.kind == 2)
 (ob (wV y0.gone 0 (y0.gone.length:Int) o1.aP) fun y12 =>
 cond (decide (y12.2.1 < (y12.1.length:Int)))
 (cond (decide (0≤y12.2.1))
 (cond (decide (y12.2.1 < (y12.1.length:Int)))
 (ob (y12.1[y12.2.1.toNat]?) fun e13 =>
 ob (j8 e13 y12.2.2) fun r14 =>
 cond (r14 == 0)
 (ob (eg (ag.mk r2.1 y0.cB y0.bp y12.1 y0.bJ y0.binds)) fun y45 =>
 some (y45,0))
 (ob (wX y0.bp 0 (y0.bp.length:Int) o1) fun y15 =>
 cond (decide (y15.2.1 < (y15.1.length:Int)))
 (cond (decide (0≤y15.2.1))
 (cond (decide (y15.2.1 < (y15.1.length:Int)))
 (ob (y15.1[y15.2.1.toNat]?) fun e16 =>
 ob (gY e16.key y15.2.2.key) fun r17 =>
 ob (gY e16.text y15.2.2.text) fun r18 =>
 ob (j8 e16.aP y15.2.2.aP) fun r19 =>
 ob (iC [r17,r18,r19]) fun _ =>
 cond (decide (0≤y15.2.1))
 (cond (decide (y15.2.1≤(y15.1.length:Int)))
 (cond (fits ((((y15.1.take y15.2.1.toNat)++[(cR.mk y15.2.2.key y15.2.2.text y15.2.2.cW y15.2.2.aP)])++((y15.1.take y15.1.length).drop y15.2.1.toNat)).length))
 (ob (eg (ag.mk r2.1 y0.cB (((y15.1.take y15.2.1.toNat)++[(cR.mk y15.2.2.key y15.2.2.text y15.2.2.cW y15.2.2.aP)])++((y15.1.take y15.1.length).drop y15.2.1.toNat)) y12.1 y0.bJ y0.binds)) fun y46 =>
 some (y46,0))
 none)
 none)
 none)
 none)
 none)
 (cond (decide (0≤y15.2.1))
 (cond (decide (y15.2.1≤(y15.1.length:Int)))
 (cond (fits ((((y15.1.take y15.2.1.toNat)++[(cR.mk y15.2.2.key y15.2.2.text y15.2.2.cW y15.2.2.aP)])++((y15.1.take y15.1.length).drop y15.2.1.toNat)).length))
 (ob (eg (ag.mk r2.1 y0.cB (((y15.1.take y15.2.1.toNat)++[(cR.mk y15.2.2.key y15.2.2.text y15.2.2.cW y15.2.2.aP)])++((y15.1.take y15.1.length).drop y15.2.1.toNat)) y12.1 y0.bJ y0.binds)) fun y47 =>
 some (y47,0))
 none)
 none)
 none)))
 none)
 none)
 (ob (wX y0.bp 0 (y0.bp.length:Int) o1) fun y21 =>
 cond (decide (y21.2.1 < (y21.1.length:Int)))
 (cond (decide (0≤y21.2.1))
 (cond (decide (y21.2.1 < (y21.1.length:Int)))
 (ob (y21.1[y21.2.1.toNat]?) fun e22 =>
 ob (gY e22.key y21.2.2.key) fun r23 =>
 ob (gY e22.text y21.2.2.text) fun r24 =>
 ob (j8 e22.aP y21.2.2.aP) fun r25 =>
 ob (iC [r23,r24,r25]) fun _ =>
 cond (decide (0≤y21.2.1))
 (cond (decide (y21.2.1≤(y21.1.length:Int)))
 (cond (fits ((((y21.1.take y21.2.1.toNat)++[(cR.mk y21.2.2.key y21.2.2.text y21.2.2.cW y21.2.2.aP)])++((y21.1.take y21.1.length).drop y21.2.1.toNat)).length))
 (ob (eg (ag.mk r2.1 y0.cB (((y21.1.take y21.2.1.toNat)++[(cR.mk y21.2.2.key y21.2.2.text y21.2.2.cW y21.2.2.aP)])++((y21.1.take y21.1.length).drop y21.2.1.toNat)) y12.1 y0.bJ y0.binds)) fun y48 =>
 some (y48,0))
 none)
 none)
 none)
 none)
 none)
 (cond (decide (0≤y21.2.1))
 (cond (decide (y21.2.1≤(y21.1.length:Int)))
 (cond (fits ((((y21.1.take y21.2.1.toNat)++[(cR.mk y21.2.2.key y21.2.2.text y21.2.2.cW y21.2.2.aP)])++((y21.1.take y21.1.length).drop y21.2.1.toNat)).length))
 (ob (eg (ag.mk r2.1 y0.cB (((y21.1.take y21.2.1.toNat)++[(cR.mk y21.2.2.key y21.2.2.text y21.2.2.cW y21.2.2.aP)])++((y21.1.take y21.1.length).drop y21.2.1.toNat)) y12.1 y0.bJ y0.binds)) fun y49 =>
 some (y49,0))
 none)
 none)
 none)))
 (cond (o1.kind == 3)
 (ob (Ch o1.cz (o1.cz.length:Int) 0 (ag.mk r2.1 y0.cB y0.bp y0.gone y0.bJ y0.binds) (ag.mk [] [] [] [] [] [])) fun y27 =>
 ob (eg y27.1) fun y50 =>
 some (y50,0))
 (cond (o1.kind == 4)
 (ob (C1 y0.bJ 0 (y0.bJ.length:Int) o1.key) fun y28 =>
 cond (decide (y28.2.1 < (y28.1.length:Int)))
 (cond (decide (0≤y28.2.1))
 (cond (decide (y28.2.1 < (y28.1.length:Int)))
 (ob (y28.1[y28.2.1.toNat]?) fun e29 =>
 ob (gY e29.key y28.2.2) fun r30 =>
 cond (r30 == 0)
 (cond (decide (0≤y28.2.1))
 (cond (decide (y28.2.1 < (y28.1.length:Int)))
 (ob (y28.1[y28.2.1.toNat]?) fun e31 =>
 cond (decide (0≤y28.2.1))
 (cond (decide (y28.2.1 < (y28.1.length:Int)))
 (ob (y28.1[y28.2.1.toNat]?) fun e32 =>
 ob (eg (ag.mk r2.1 y0.cB y0.bp y0.gone (y28.1.set y28.2.1.toNat (Sum.mk e32.key (aF (e31.n+o1.n)))) y0.binds)) fun y51 =>
 some (y51,0))
 none)
 none)
 none)
 none)
 (cond (decide (0≤y28.2.1))
 (cond (decide (y28.2.1≤(y28.1.length:Int)))
 (cond (fits ((((y28.1.take y28.2.1.toNat)++[(Sum.mk o1.key o1.n)])++((y28.1.take y28.1.length).drop y28.2.1.toNat)).length))
 (ob (eg (ag.mk r2.1 y0.cB y0.bp y0.gone (((y28.1.take y28.2.1.toNat)++[(Sum.mk o1.key o1.n)])++((y28.1.take y28.1.length).drop y28.2.1.toNat)) y0.binds)) fun y52 =>
 some (y52,0))
 none)
 none)
 none))
 none)
 none)
 (cond (decide (0≤y28.2.1))
 (cond (decide (y28.2.1≤(y28.1.length:Int)))
 (cond (fits ((((y28.1.take y28.2.1.toNat)++[(Sum.mk o1.key o1.n)])++((y28.1.take y28.1.length).drop y28.2.1.toNat)).length))
 (ob (eg (ag.mk r2.1 y0.cB y0.bp y0.gone (((y28.1.take y28.2.1.toNat)++[(Sum.mk o1.key o1.n)])++((y28.1.take y28.1.length).drop y28.2.1.toNat)) y0.binds)) fun y53 =>
 some (y53,0))
 none)
 none)
 none))
 (cond (o1.kind == 5)
 (ob (Ca y0.binds 0 (y0.binds.length:Int) o1.n) fun y33 =>
 cond (decide (y33.2.1 < (y33.1.length:Int)))
 (cond (decide (0≤y33.2.1))
 (cond (decide (y33.2.1 < (y33.1.length:Int)))
 (ob (y33.1[y33.2.1.toNat]?) fun e34 =>
 ob (gZ e34.se y33.2.2) fun r35 =>
 cond (!(r35 == 0))
 (cond (decide (0≤y33.2.1))
 (cond (decide (y33.2.1≤(y33.1.length:Int)))
 (cond (fits ((((y33.1.take y33.2.1.toNat)++[(Bind.mk o1.n o1.text o1.cW o1.aP)])++((y33.1.take y33.1.length).drop y33.2.1.toNat)).length))
 (ob (eg (ag.mk r2.1 y0.cB y0.bp y0.gone y0.bJ (((y33.1.take y33.2.1.toNat)++[(Bind.mk o1.n o1.text o1.cW o1.aP)])++((y33.1.take y33.1.length).drop y33.2.1.toNat)))) fun y54 =>
 some (y54,0))
 none)
 none)
 none)
 (cond (decide (0≤y33.2.1))
 (cond (decide (y33.2.1 < (y33.1.length:Int)))
 (ob (y33.1[y33.2.1.toNat]?) fun e36 =>
 ob (j8 o1.aP e36.aP) fun r37 =>
 cond (decide (r37 < 0))
 (cond (decide (0≤y33.2.1))
 (cond (decide (y33.2.1 < (y33.1.length:Int)))
 (ob (y33.1[y33.2.1.toNat]?) fun _ =>
 ob (eg (ag.mk r2.1 y0.cB y0.bp y0.gone y0.bJ (y33.1.set y33.2.1.toNat (Bind.mk o1.n o1.text o1.cW o1.aP)))) fun y55 =>
 some (y55,0))
 none)
 none)
 (ob (eg (ag.mk r2.1 y0.cB y0.bp y0.gone y0.bJ y33.1)) fun y56 =>
 some (y56,0)))
 none)
 none))
 none)
 none)
 (cond (decide (0≤y33.2.1))
 (cond (decide (y33.2.1≤(y33.1.length:Int)))
 (cond (fits ((((y33.1.take y33.2.1.toNat)++[(Bind.mk o1.n o1.text o1.cW o1.aP)])++((y33.1.take y33.1.length).drop y33.2.1.toNat)).length))
 (ob (eg (ag.mk r2.1 y0.cB y0.bp y0.gone y0.bJ (((y33.1.take y33.2.1.toNat)++[(Bind.mk o1.n o1.text o1.cW o1.aP)])++((y33.1.take y33.1.length).drop y33.2.1.toNat)))) fun y57 =>
 some (y57,0))
 none)
 none)
 none))
 (ob (eg (ag.mk r2.1 y0.cB y0.bp y0.gone y0.bJ y0.binds)) fun y58 =>
 some (y58,0))))))))
def Wg (p:ag×Op):Option (ag×Int):=n6 p.1 p.2
def GS:aQ TL:=aQ.of (DA.cons (DT.agg qJ) (DA.one (DT.agg jW))) Wg (DA.cons (DT.agg qJ) (DA.one dI))
theorem XL:be PR 160 .keep GS:=bx (cs:=[(158,zr),(189,F0),(217,ou),(212,ow),(216,nU),(239,nL)]) (ss:=[(188,I5),(335002,J8),(340002,Ar),(314002,Jh),(292002,JN),(348002,KC),(352002,JM)]) (E:=aX tab sl sh [(160,SO),(190,S7),(210,Sf),(235,xN),(236,DZ),(191,RN),(213,DH),(240,rA),(241,wm),(214,wh),(215,DJ),(192,xP),(193,RX),(222,RQ),(248,xH),(249,Dp),(194,RM),(224,RT),(252,wg),(253,DL)] [(188,.sum),(158,.pure),(189,.keep),(217,.pure),(211,(.ins 142)),(212,.pure),(216,.pure),(218,(.ins 145)),(223,(.ins 129)),(239,.pure),(225,(.ins 149))]) (fun _=>by kernel_rfl) (aY base (aC (QX.ak rfl aN) (aC (aIE.ak rfl aN) (aC (aJw.ak rfl aN) (aC (Sd.ak rfl (aC (lC aAr rfl) aN)) (aC (Rs.ak rfl aN) (aC (aJb.ak rfl aN) (aC (Qi.ak rfl aN) (aC (D8.ak rfl (aC (lC Ja rfl) aN)) (aC (DY.ak rfl aN) (aC (QU.ak rfl (aC (lC aAd rfl) aN)) (aC (Pu.ak rfl aN) (aC (Qb.ak rfl (aC (lC aAi rfl) aN)) (aC (aIo.ak rfl aN) (aC (aK6.ak rfl aN) (aC (Ry.ak rfl (aC (lC aBm rfl) aN)) (aC (QO.ak rfl aN) (aC (aII.ak rfl aN) (aC (aIm.ak rfl aN) (aC (SC.ak rfl (aC (lC aBz rfl) aN)) (aC (Ql.ak rfl aN) aN)))))))))))))))))))) (aC (eF rfl Z8) (aC (oD HI rfl) (aC (oD Vt rfl) (aC (oD tC rfl) (aC (mH aEX) (aC (oD tD rfl) (aC (oD pH rfl) (aC (mH aEo) (aC (mH aEb) (aC (oD pA rfl) (aC (mH aEz) aN)))))))))))) (.inl rfl) QX.enters
def pg (bx1:aG)(lx1:aH):Option (aG×Int) :=
 ob (gE bx1) fun y0 =>
 ob (nh y0 lx1.device lx1.aA) fun r1 =>
 cond (decide (r1 < 0))
 (some (y0,2))
 (ob (gJ lx1) fun y2 =>
 cond (decide (0≤r1))
 (cond (decide (r1 < (y0.aK.length:Int)))
 (ob (y0.aK[r1.toNat]?) fun _ =>
 some ((aG.mk y0.af y0.free (y0.aK.set r1.toNat y2) y0.bB),0))
 none)
 none)
def XZ (p:aG×aH):Option (aG×Int):=pg p.1 p.2
def zD:aQ TL:=aQ.of (DA.cons (DT.agg fq) (DA.one (DT.agg jc))) XZ (DA.cons (DT.agg fq) (DA.one dI))
theorem GO:be PR 135 .keep zD:=bx (cs:=[(162,tZ)]) (ss:=[(124,nR),(151,nN)]) (E:=aX tab sl sh [(135,Qp)] [(124,.sum),(162,.pure),(151,.sum)]) (fun _=>by kernel_rfl) (aY base (aC (QQ.ak rfl aN) aN) (aC (eF rfl pD) (aC (oD zG rfl) (aC (eF rfl pB) aN)))) (.inl rfl) QQ.enters
def tY (o1:Op)(c1:bY):Option (Int×bY) :=
 ob (jk c1.d.log c1.c.device c1.c.aA) fun r0 =>
 ob (nY c1.d.book c1.c.device c1.c.aA) fun r1 =>
 ob (js o1) fun r2 =>
 cond (r2 != 0)
 (some (r2,c1))
 (cond (cond (o1.aP.device != c1.c.device) true (o1.aP.aA != c1.c.aA))
 (some (1,c1))
 (cond (decide (o1.aP.seq≤r0))
 (some (0,c1))
 (cond (decide (o1.aP.seq > (aF (r0+1))))
 (some (12,c1))
 (cond (cond (cond (o1.kind == 4) true (o1.kind == 5)) (!r1.2) false)
 (some (14,c1))
 (ob (tj r1.1 o1) fun r3 =>
 cond (r3.2 != 0)
 (some (r3.2,c1))
 (cond (decide ((c1.d.log.length:Int)≥2000))
 (some (11,c1))
 (cond (decide (0≤o1.bc) && decide (o1.bc < 3))
 (ob (n6 (ag.cc (decide (o1.bc=0)) c1.d.aI.a0 (ag.mk (cond (decide (o1.bc=1)) c1.d.aI.a1.v c1.d.aI.a2.v) (cond (decide (o1.bc=1)) c1.d.aI.a1.cB c1.d.aI.a2.cB) (cond (decide (o1.bc=1)) c1.d.aI.a1.bp c1.d.aI.a2.bp) (cond (decide (o1.bc=1)) c1.d.aI.a1.gone c1.d.aI.a2.gone) (cond (decide (o1.bc=1)) c1.d.aI.a1.bJ c1.d.aI.a2.bJ) (cond (decide (o1.bc=1)) c1.d.aI.a1.binds c1.d.aI.a2.binds))) o1) fun r4 =>
 cond (r4.2 != 0)
 (some (r4.2,c1))
 (cond (r1.2)
 (ob (pg c1.d.book r3.1) fun r5 =>
 cond (decide (0≤o1.bc) && decide (o1.bc < 3))
 (cond (fits ((c1.d.log++[o1]).length))
 (some (0,(bY.mk (aw.mk r5.1 (gQ.mk (ag.cc (decide (o1.bc=0)) r4.1 c1.d.aI.a0) (ag.cc (decide (o1.bc=1)) r4.1 c1.d.aI.a1) (ag.cc (decide (o1.bc=2)) r4.1 c1.d.aI.a2)) (c1.d.log++[o1]) c1.d.dev c1.d.lost c1.d.now) c1.c)))
 none)
 none)
 (cond (decide (0≤o1.bc) && decide (o1.bc < 3))
 (cond (fits ((c1.d.log++[o1]).length))
 (some (0,(bY.mk (aw.mk c1.d.book (gQ.mk (ag.cc (decide (o1.bc=0)) r4.1 c1.d.aI.a0) (ag.cc (decide (o1.bc=1)) r4.1 c1.d.aI.a1) (ag.cc (decide (o1.bc=2)) r4.1 c1.d.aI.a2)) (c1.d.log++[o1]) c1.d.dev c1.d.lost c1.d.now) c1.c)))
 none)
 none)))
 none)))))))
def aAn:aD (List (Nat×En TL)) bY:=kO (kC (aD.var 0 100 (kC (kG cY) (kC (kG aj) (kC (kG ch) (kC (kG bA) (kC (kG bQ) (kC (kG dU) (kC (kG dE) (kC (kG bQ) (kC (kG dS) (kC (kG dQ) (kC (kG bQ) (kC (kG dU) (kC (kG dE) (kC (kG bQ) (kC (kG dS) (kC (kG dQ) (kC (kG bQ) (kC (kG dU) (kC (kG dE) (kC (kG bQ) (kC (kG dS) (kC (kG dQ) (kC (kA 1) (kC kJ (kC kJ (kC kJ (kC kJ (kC kJ (kC kJ (kC kJ (kC kJ (kC (kA 2) (kC (kA 3) (kC (kA 4) (kC kJ (kC kJ (kC kJ (kC kJ (kC kJ (kC kJ (kC kJ (kC kJ (kC (kA 5) (kC (kA 6) (kC (kA 7) (kC kJ (kC kJ (kC kJ (kC kJ (kC kJ (kC kJ (kC kJ (kC kJ (kC (kA 8) (kC (kA 9) (kC (kA 10) (kC kJ (kC kJ (kC kJ (kC kJ (kC kJ (kC kJ (kC kJ (kC kJ (kC (kA 11) (kC (kA 12) (kC (kA 13) (kC kJ (kC kJ (kC kJ (kC kJ (kC kJ (kC kJ (kC kJ (kC kJ (kC (kA 14) (kC (kA 15) (kC (kA 16) (kC kJ (kC kJ (kC kJ (kC kJ (kC kJ (kC kJ (kC kJ (kC kJ (kC (kA 17) (kC (kA 18) (kC (kA 19) (kC (kA 20) (kC kJ (kC kJ (kC kJ (kC kJ (kC kJ (kC kJ (kC (kG gL) (kC (kG eH) kN))))))))))))))))))))))))))))))))))))))))))))))))))))))))))))))))))))))))))))))))))))))))))))))))))) (kC (kR 1 61 eH) (kC (kR 2 133 cD) (kC (kR 3 153 aj) (kC (kR 4 3 bA) (kC (kR 5 133 cD) (kC (kR 6 153 aj) (kC (kR 7 3 bA) (kC (kR 8 133 cD) (kC (kR 9 153 aj) (kC (kR 10 3 bA) (kC (kR 11 133 cD) (kC (kR 12 153 aj) (kC (kR 13 3 bA) (kC (kR 14 133 cD) (kC (kR 15 153 aj) (kC (kR 16 3 bA) (kC (kR 17 133 cD) (kC (kR 18 153 aj) (kC (kR 19 3 bA) (kC (kR 20 66 bQ) kN))))))))))))))))))))) (fun p=>(bY.mk (aw.mk (aG.mk p.1.1 p.1.2.1 p.1.2.2.1 p.1.2.2.2.1) (gQ.mk (ag.mk p.1.2.2.2.2.1 p.1.2.2.2.2.2.1 p.1.2.2.2.2.2.2.1 p.1.2.2.2.2.2.2.2.1 (t8 p.1).1 (t8 p.1).2.1) (ag.mk (t8 p.1).2.2.1 (t8 p.1).2.2.2.1 (t8 p.1).2.2.2.2.1 (t8 p.1).2.2.2.2.2.1 (t8 p.1).2.2.2.2.2.2.1 (t8 p.1).2.2.2.2.2.2.2.1) (ag.mk (t8 (t8 p.1)).1 (t8 (t8 p.1)).2.1 (t8 (t8 p.1)).2.2.1 (t8 (t8 p.1)).2.2.2.1 (t8 (t8 p.1)).2.2.2.2.1 (t8 (t8 p.1)).2.2.2.2.2.1)) p.2.1 (eP.mk (Device.mk (t8 (t8 p.1)).2.2.2.2.2.2.2.1 (t8 (t8 (t8 p.1))).1 (aU.mk (t8 (t8 (t8 p.1))).2.1 (t8 (t8 (t8 p.1))).2.2.1 (aH.mk (t8 (t8 (t8 p.1))).2.2.2.1 (t8 (t8 (t8 p.1))).2.2.2.2.1 (t8 (t8 (t8 p.1))).2.2.2.2.2.1 (t8 (t8 (t8 p.1))).2.2.2.2.2.2.1 p.2.2.1 p.2.2.2.1 p.2.2.2.2.1))) (Device.mk (t32 p.1).2.2.1 (t32 p.1).2.2.2.1 (aU.mk (t32 p.1).2.2.2.2.1 (t32 p.1).2.2.2.2.2.1 (aH.mk (t32 p.1).2.2.2.2.2.2.1 (t32 p.1).2.2.2.2.2.2.2.1 (t8 (t32 p.1)).1 (t8 (t32 p.1)).2.1 p.2.2.2.2.2.1 p.2.2.2.2.2.2.1 p.2.2.2.2.2.2.2.1))) (Device.mk (t8 (t32 p.1)).2.2.2.2.2.1 (t8 (t32 p.1)).2.2.2.2.2.2.1 (aU.mk (t8 (t32 p.1)).2.2.2.2.2.2.2.1 (t8 (t8 (t32 p.1))).1 (aH.mk (t8 (t8 (t32 p.1))).2.1 (t8 (t8 (t32 p.1))).2.2.1 (t8 (t8 (t32 p.1))).2.2.2.1 (t8 (t8 (t32 p.1))).2.2.2.2.1 (t8 p).1 (t8 p).2.1 (t8 p).2.2.1))) (Device.mk (t8 (t8 (t8 (t32 p.1)))).1 (t8 (t8 (t8 (t32 p.1)))).2.1 (aU.mk (t8 (t8 (t8 (t32 p.1)))).2.2.1 (t8 (t8 (t8 (t32 p.1)))).2.2.2.1 (aH.mk (t8 (t8 (t8 (t32 p.1)))).2.2.2.2.1 (t8 (t8 (t8 (t32 p.1)))).2.2.2.2.2.1 (t8 (t8 (t8 (t32 p.1)))).2.2.2.2.2.2.1 (t8 (t8 (t8 (t32 p.1)))).2.2.2.2.2.2.2.1 (t8 p).2.2.2.1 (t8 p).2.2.2.2.1 (t8 p).2.2.2.2.2.1))) (Device.mk (t32 (t32 p.1)).2.2.2.1 (t32 (t32 p.1)).2.2.2.2.1 (aU.mk (t32 (t32 p.1)).2.2.2.2.2.1 (t32 (t32 p.1)).2.2.2.2.2.2.1 (aH.mk (t32 (t32 p.1)).2.2.2.2.2.2.2.1 (t8 (t32 (t32 p.1))).1 (t8 (t32 (t32 p.1))).2.1 (t8 (t32 (t32 p.1))).2.2.1 (t8 p).2.2.2.2.2.2.1 (t8 p).2.2.2.2.2.2.2.1 (t8 (t8 p)).1))) (Device.mk (t8 (t32 (t32 p.1))).2.2.2.2.2.2.1 (t8 (t32 (t32 p.1))).2.2.2.2.2.2.2.1 (aU.mk (t8 (t8 (t32 (t32 p.1)))).1 (t8 (t8 (t32 (t32 p.1)))).2.1 (aH.mk (t8 (t8 (t32 (t32 p.1)))).2.2.1 (t8 (t8 (t32 (t32 p.1)))).2.2.2.1 (t8 (t8 (t32 (t32 p.1)))).2.2.2.2.1 (t8 (t8 (t32 (t32 p.1)))).2.2.2.2.2.1 (t8 (t8 p)).2.1 (t8 (t8 p)).2.2.1 (t8 (t8 p)).2.2.2.1)))) (t8 (t8 p)).2.2.2.2.1 (t8 (t8 (t8 (t32 (t32 p.1))))).2.2.1) (cH.mk (t8 (t8 (t8 (t32 (t32 p.1))))).2.2.2.1 (t8 (t8 (t8 (t32 (t32 p.1))))).2.2.2.2.1 (t8 (t8 (t8 (t32 (t32 p.1))))).2.2.2.2.2.1 (t8 (t8 (t8 (t32 (t32 p.1))))).2.2.2.2.2.2.1 (t8 (t8 (t8 (t32 (t32 p.1))))).2.2.2.2.2.2.2.1 (t32 (t32 (t32 p.1))).1 (t32 (t32 (t32 p.1))).2.1))) (fun (x:bY)=>((x.d.book.af,(x.d.book.free,(x.d.book.aK,(x.d.book.bB,(x.d.aI.a0.v,(x.d.aI.a0.cB,(x.d.aI.a0.bp,(x.d.aI.a0.gone,(x.d.aI.a0.bJ,(x.d.aI.a0.binds,(x.d.aI.a1.v,(x.d.aI.a1.cB,(x.d.aI.a1.bp,(x.d.aI.a1.gone,(x.d.aI.a1.bJ,(x.d.aI.a1.binds,(x.d.aI.a2.v,(x.d.aI.a2.cB,(x.d.aI.a2.bp,(x.d.aI.a2.gone,(x.d.aI.a2.bJ,(x.d.aI.a2.binds,((),(x.d.dev.a0.aA,(x.d.dev.a0.aO,(x.d.dev.a0.aB.err,(x.d.dev.a0.aB.n,(x.d.dev.a0.aB.aE.device,(x.d.dev.a0.aB.aE.aA,(x.d.dev.a0.aB.aE.bN,(x.d.dev.a0.aB.aE.last,((),((),((),(x.d.dev.a1.aA,(x.d.dev.a1.aO,(x.d.dev.a1.aB.err,(x.d.dev.a1.aB.n,(x.d.dev.a1.aB.aE.device,(x.d.dev.a1.aB.aE.aA,(x.d.dev.a1.aB.aE.bN,(x.d.dev.a1.aB.aE.last,((),((),((),(x.d.dev.a2.aA,(x.d.dev.a2.aO,(x.d.dev.a2.aB.err,(x.d.dev.a2.aB.n,(x.d.dev.a2.aB.aE.device,(x.d.dev.a2.aB.aE.aA,(x.d.dev.a2.aB.aE.bN,(x.d.dev.a2.aB.aE.last,((),((),((),(x.d.dev.a3.aA,(x.d.dev.a3.aO,(x.d.dev.a3.aB.err,(x.d.dev.a3.aB.n,(x.d.dev.a3.aB.aE.device,(x.d.dev.a3.aB.aE.aA,(x.d.dev.a3.aB.aE.bN,(x.d.dev.a3.aB.aE.last,((),((),((),(x.d.dev.a4.aA,(x.d.dev.a4.aO,(x.d.dev.a4.aB.err,(x.d.dev.a4.aB.n,(x.d.dev.a4.aB.aE.device,(x.d.dev.a4.aB.aE.aA,(x.d.dev.a4.aB.aE.bN,(x.d.dev.a4.aB.aE.last,((),((),((),(x.d.dev.a5.aA,(x.d.dev.a5.aO,(x.d.dev.a5.aB.err,(x.d.dev.a5.aB.n,(x.d.dev.a5.aB.aE.device,(x.d.dev.a5.aB.aE.aA,(x.d.dev.a5.aB.aE.bN,(x.d.dev.a5.aB.aE.last,((),((),((),((),(x.d.now,(x.c.kind,(x.c.device,(x.c.aA,(x.c.aO,(x.c.n,(x.c.cj,(x.c.ops,())))))))))))))))))))))))))))))))))))))))))))))))))))))))))))))))))))))))))))))))))))))))))))))))))),(x.d.log,(x.d.dev.a0.aB.aE.aW,(x.d.dev.a0.aB.aE.ids,(x.d.dev.a0.aB.aE.used,(x.d.dev.a1.aB.aE.aW,(x.d.dev.a1.aB.aE.ids,(x.d.dev.a1.aB.aE.used,(x.d.dev.a2.aB.aE.aW,(x.d.dev.a2.aB.aE.ids,(x.d.dev.a2.aB.aE.used,(x.d.dev.a3.aB.aE.aW,(x.d.dev.a3.aB.aE.ids,(x.d.dev.a3.aB.aE.used,(x.d.dev.a4.aB.aE.aW,(x.d.dev.a4.aB.aE.ids,(x.d.dev.a4.aB.aE.used,(x.d.dev.a5.aB.aE.aW,(x.d.dev.a5.aB.aE.ids,(x.d.dev.a5.aB.aE.used,(x.d.lost,())))))))))))))))))))))) (fun _=>rfl)
def VI:kT (Op×bY):=kO (kS 21 (kC (kP 0 0) (kC (aD.xs (aD.sa jE)) kN)) aAn) (fun p=>(p.1.2.1,p.2)) (fun (x:Op×bY)=>(((),(x.1,())),x.2)) (fun _=>rfl)
def aA9:aD (List (Nat×En TL)) bY:=kO (kC (aD.var 0 100 (kC (kG cY) (kC (kG aj) (kC (kG ch) (kC (kG bA) (kC (kG bQ) (kC (kG dU) (kC (kG dE) (kC (kG bQ) (kC (kG dS) (kC (kG dQ) (kC (kG bQ) (kC (kG dU) (kC (kG dE) (kC (kG bQ) (kC (kG dS) (kC (kG dQ) (kC (kG bQ) (kC (kG dU) (kC (kG dE) (kC (kG bQ) (kC (kG dS) (kC (kG dQ) (kC (kA 42) (kC kJ (kC kJ (kC kJ (kC kJ (kC kJ (kC kJ (kC kJ (kC kJ (kC (kA 43) (kC (kA 44) (kC (kA 45) (kC kJ (kC kJ (kC kJ (kC kJ (kC kJ (kC kJ (kC kJ (kC kJ (kC (kA 46) (kC (kA 47) (kC (kA 48) (kC kJ (kC kJ (kC kJ (kC kJ (kC kJ (kC kJ (kC kJ (kC kJ (kC (kA 49) (kC (kA 50) (kC (kA 51) (kC kJ (kC kJ (kC kJ (kC kJ (kC kJ (kC kJ (kC kJ (kC kJ (kC (kA 52) (kC (kA 53) (kC (kA 54) (kC kJ (kC kJ (kC kJ (kC kJ (kC kJ (kC kJ (kC kJ (kC kJ (kC (kA 55) (kC (kA 56) (kC (kA 57) (kC kJ (kC kJ (kC kJ (kC kJ (kC kJ (kC kJ (kC kJ (kC kJ (kC (kA 58) (kC (kA 59) (kC (kA 60) (kC (kA 61) (kC kJ (kC kJ (kC kJ (kC kJ (kC kJ (kC kJ (kC (kG gL) (kC (kG eH) kN))))))))))))))))))))))))))))))))))))))))))))))))))))))))))))))))))))))))))))))))))))))))))))))))))) (kC (aD.dead 1) (kC (aD.dead 2) (kC (aD.dead 3) (kC (aD.dead 4) (kC (aD.dead 5) (kC (aD.dead 6) (kC (aD.dead 7) (kC (aD.dead 8) (kC (aD.dead 9) (kC (aD.dead 10) (kC (aD.dead 11) (kC (aD.dead 12) (kC (aD.dead 13) (kC (aD.dead 14) (kC (aD.dead 15) (kC (aD.dead 16) (kC (aD.dead 17) (kC (aD.dead 18) (kC (aD.dead 19) (kC (aD.dead 20) (kC (kR 42 61 eH) (kC (kR 43 133 cD) (kC (kR 44 153 aj) (kC (kR 45 3 bA) (kC (kR 46 133 cD) (kC (kR 47 153 aj) (kC (kR 48 3 bA) (kC (kR 49 133 cD) (kC (kR 50 153 aj) (kC (kR 51 3 bA) (kC (kR 52 133 cD) (kC (kR 53 153 aj) (kC (kR 54 3 bA) (kC (kR 55 133 cD) (kC (kR 56 153 aj) (kC (kR 57 3 bA) (kC (kR 58 133 cD) (kC (kR 59 153 aj) (kC (kR 60 3 bA) (kC (kR 61 66 bQ) kN))))))))))))))))))))))))))))))))))))))))) (fun p=>(bY.mk (aw.mk (aG.mk p.1.1 p.1.2.1 p.1.2.2.1 p.1.2.2.2.1) (gQ.mk (ag.mk p.1.2.2.2.2.1 p.1.2.2.2.2.2.1 p.1.2.2.2.2.2.2.1 p.1.2.2.2.2.2.2.2.1 (t8 p.1).1 (t8 p.1).2.1) (ag.mk (t8 p.1).2.2.1 (t8 p.1).2.2.2.1 (t8 p.1).2.2.2.2.1 (t8 p.1).2.2.2.2.2.1 (t8 p.1).2.2.2.2.2.2.1 (t8 p.1).2.2.2.2.2.2.2.1) (ag.mk (t8 (t8 p.1)).1 (t8 (t8 p.1)).2.1 (t8 (t8 p.1)).2.2.1 (t8 (t8 p.1)).2.2.2.1 (t8 (t8 p.1)).2.2.2.2.1 (t8 (t8 p.1)).2.2.2.2.2.1)) (t8 (t8 p)).2.2.2.2.2.1 (eP.mk (Device.mk (t8 (t8 p.1)).2.2.2.2.2.2.2.1 (t8 (t8 (t8 p.1))).1 (aU.mk (t8 (t8 (t8 p.1))).2.1 (t8 (t8 (t8 p.1))).2.2.1 (aH.mk (t8 (t8 (t8 p.1))).2.2.2.1 (t8 (t8 (t8 p.1))).2.2.2.2.1 (t8 (t8 (t8 p.1))).2.2.2.2.2.1 (t8 (t8 (t8 p.1))).2.2.2.2.2.2.1 (t8 (t8 p)).2.2.2.2.2.2.1 (t8 (t8 p)).2.2.2.2.2.2.2.1 (t8 (t8 (t8 p))).1))) (Device.mk (t32 p.1).2.2.1 (t32 p.1).2.2.2.1 (aU.mk (t32 p.1).2.2.2.2.1 (t32 p.1).2.2.2.2.2.1 (aH.mk (t32 p.1).2.2.2.2.2.2.1 (t32 p.1).2.2.2.2.2.2.2.1 (t8 (t32 p.1)).1 (t8 (t32 p.1)).2.1 (t8 (t8 (t8 p))).2.1 (t8 (t8 (t8 p))).2.2.1 (t8 (t8 (t8 p))).2.2.2.1))) (Device.mk (t8 (t32 p.1)).2.2.2.2.2.1 (t8 (t32 p.1)).2.2.2.2.2.2.1 (aU.mk (t8 (t32 p.1)).2.2.2.2.2.2.2.1 (t8 (t8 (t32 p.1))).1 (aH.mk (t8 (t8 (t32 p.1))).2.1 (t8 (t8 (t32 p.1))).2.2.1 (t8 (t8 (t32 p.1))).2.2.2.1 (t8 (t8 (t32 p.1))).2.2.2.2.1 (t8 (t8 (t8 p))).2.2.2.2.1 (t8 (t8 (t8 p))).2.2.2.2.2.1 (t8 (t8 (t8 p))).2.2.2.2.2.2.1))) (Device.mk (t8 (t8 (t8 (t32 p.1)))).1 (t8 (t8 (t8 (t32 p.1)))).2.1 (aU.mk (t8 (t8 (t8 (t32 p.1)))).2.2.1 (t8 (t8 (t8 (t32 p.1)))).2.2.2.1 (aH.mk (t8 (t8 (t8 (t32 p.1)))).2.2.2.2.1 (t8 (t8 (t8 (t32 p.1)))).2.2.2.2.2.1 (t8 (t8 (t8 (t32 p.1)))).2.2.2.2.2.2.1 (t8 (t8 (t8 (t32 p.1)))).2.2.2.2.2.2.2.1 (t8 (t8 (t8 p))).2.2.2.2.2.2.2.1 (t32 p).1 (t32 p).2.1))) (Device.mk (t32 (t32 p.1)).2.2.2.1 (t32 (t32 p.1)).2.2.2.2.1 (aU.mk (t32 (t32 p.1)).2.2.2.2.2.1 (t32 (t32 p.1)).2.2.2.2.2.2.1 (aH.mk (t32 (t32 p.1)).2.2.2.2.2.2.2.1 (t8 (t32 (t32 p.1))).1 (t8 (t32 (t32 p.1))).2.1 (t8 (t32 (t32 p.1))).2.2.1 (t32 p).2.2.1 (t32 p).2.2.2.1 (t32 p).2.2.2.2.1))) (Device.mk (t8 (t32 (t32 p.1))).2.2.2.2.2.2.1 (t8 (t32 (t32 p.1))).2.2.2.2.2.2.2.1 (aU.mk (t8 (t8 (t32 (t32 p.1)))).1 (t8 (t8 (t32 (t32 p.1)))).2.1 (aH.mk (t8 (t8 (t32 (t32 p.1)))).2.2.1 (t8 (t8 (t32 (t32 p.1)))).2.2.2.1 (t8 (t8 (t32 (t32 p.1)))).2.2.2.2.1 (t8 (t8 (t32 (t32 p.1)))).2.2.2.2.2.1 (t32 p).2.2.2.2.2.1 (t32 p).2.2.2.2.2.2.1 (t32 p).2.2.2.2.2.2.2.1)))) (t8 (t32 p)).1 (t8 (t8 (t8 (t32 (t32 p.1))))).2.2.1) (cH.mk (t8 (t8 (t8 (t32 (t32 p.1))))).2.2.2.1 (t8 (t8 (t8 (t32 (t32 p.1))))).2.2.2.2.1 (t8 (t8 (t8 (t32 (t32 p.1))))).2.2.2.2.2.1 (t8 (t8 (t8 (t32 (t32 p.1))))).2.2.2.2.2.2.1 (t8 (t8 (t8 (t32 (t32 p.1))))).2.2.2.2.2.2.2.1 (t32 (t32 (t32 p.1))).1 (t32 (t32 (t32 p.1))).2.1))) (fun (x:bY)=>((x.d.book.af,(x.d.book.free,(x.d.book.aK,(x.d.book.bB,(x.d.aI.a0.v,(x.d.aI.a0.cB,(x.d.aI.a0.bp,(x.d.aI.a0.gone,(x.d.aI.a0.bJ,(x.d.aI.a0.binds,(x.d.aI.a1.v,(x.d.aI.a1.cB,(x.d.aI.a1.bp,(x.d.aI.a1.gone,(x.d.aI.a1.bJ,(x.d.aI.a1.binds,(x.d.aI.a2.v,(x.d.aI.a2.cB,(x.d.aI.a2.bp,(x.d.aI.a2.gone,(x.d.aI.a2.bJ,(x.d.aI.a2.binds,((),(x.d.dev.a0.aA,(x.d.dev.a0.aO,(x.d.dev.a0.aB.err,(x.d.dev.a0.aB.n,(x.d.dev.a0.aB.aE.device,(x.d.dev.a0.aB.aE.aA,(x.d.dev.a0.aB.aE.bN,(x.d.dev.a0.aB.aE.last,((),((),((),(x.d.dev.a1.aA,(x.d.dev.a1.aO,(x.d.dev.a1.aB.err,(x.d.dev.a1.aB.n,(x.d.dev.a1.aB.aE.device,(x.d.dev.a1.aB.aE.aA,(x.d.dev.a1.aB.aE.bN,(x.d.dev.a1.aB.aE.last,((),((),((),(x.d.dev.a2.aA,(x.d.dev.a2.aO,(x.d.dev.a2.aB.err,(x.d.dev.a2.aB.n,(x.d.dev.a2.aB.aE.device,(x.d.dev.a2.aB.aE.aA,(x.d.dev.a2.aB.aE.bN,(x.d.dev.a2.aB.aE.last,((),((),((),(x.d.dev.a3.aA,(x.d.dev.a3.aO,(x.d.dev.a3.aB.err,(x.d.dev.a3.aB.n,(x.d.dev.a3.aB.aE.device,(x.d.dev.a3.aB.aE.aA,(x.d.dev.a3.aB.aE.bN,(x.d.dev.a3.aB.aE.last,((),((),((),(x.d.dev.a4.aA,(x.d.dev.a4.aO,(x.d.dev.a4.aB.err,(x.d.dev.a4.aB.n,(x.d.dev.a4.aB.aE.device,(x.d.dev.a4.aB.aE.aA,(x.d.dev.a4.aB.aE.bN,(x.d.dev.a4.aB.aE.last,((),((),((),(x.d.dev.a5.aA,(x.d.dev.a5.aO,(x.d.dev.a5.aB.err,(x.d.dev.a5.aB.n,(x.d.dev.a5.aB.aE.device,(x.d.dev.a5.aB.aE.aA,(x.d.dev.a5.aB.aE.bN,(x.d.dev.a5.aB.aE.last,((),((),((),((),(x.d.now,(x.c.kind,(x.c.device,(x.c.aA,(x.c.aO,(x.c.n,(x.c.cj,(x.c.ops,())))))))))))))))))))))))))))))))))))))))))))))))))))))))))))))))))))))))))))))))))))))))))))))))))),((),((),((),((),((),((),((),((),((),((),((),((),((),((),((),((),((),((),((),((),(x.d.log,(x.d.dev.a0.aB.aE.aW,(x.d.dev.a0.aB.aE.ids,(x.d.dev.a0.aB.aE.used,(x.d.dev.a1.aB.aE.aW,(x.d.dev.a1.aB.aE.ids,(x.d.dev.a1.aB.aE.used,(x.d.dev.a2.aB.aE.aW,(x.d.dev.a2.aB.aE.ids,(x.d.dev.a2.aB.aE.used,(x.d.dev.a3.aB.aE.aW,(x.d.dev.a3.aB.aE.ids,(x.d.dev.a3.aB.aE.used,(x.d.dev.a4.aB.aE.aW,(x.d.dev.a4.aB.aE.ids,(x.d.dev.a4.aB.aE.used,(x.d.dev.a5.aB.aE.aW,(x.d.dev.a5.aB.aE.ids,(x.d.dev.a5.aB.aE.used,(x.d.lost,())))))))))))))))))))))))))))))))))))))))))) (fun _=>rfl)
def VL:kT (Int×bY):=kO (kS 62 (kC kI kN) aA9) (fun p=>(p.1.1,p.2)) (fun (x:Int×bY)=>((x.1,()),x.2)) (fun _=>rfl)
def VM (p:Op×bY):Option (Int×bY):=tY p.1 p.2
def Eo:aM TL:=aM.one VI.dec VM .normal VL.enc
theorem VN:fL PR 132 Eo:=sM (cs:=[(133,nM),(134,tO),(158,zr),(159,Ez),(160,GS),(135,zD)]) (ss:=[]) (E:=aX tab sl sh [(132,RL)] [(133,(.rd 22 61)),(134,.keep),(158,.pure),(159,.keep),(160,.keep),(135,.keep)]) (aY base (aC (RH.ak rfl aN) aN) (aC (oD oz rfl) (aC (oD yq rfl) (aC (oD HI rfl) (aC (oD VZ rfl) (aC (oD XL rfl) (aC (oD GO rfl) aN))))))) RH.enters fun _=>by kernel_rfl
abbrev rz:=(List Op)×Int×Int×bY×aU
def Ib (l1:List Op)(i1:Int)(i2:Int)(c1:bY)(rx1:aU):Option ((rz)⊕(((bY×aU)⊕(bY×aU×(List Slice)×(List Range)×(List Int))))) :=
 cond (decide (i2 < i1))
 (cond (decide (0≤i2))
 (ob (l1[i2.toNat]?) fun e0 =>
 ob (tY e0 c1) fun y1 =>
 cond (y1.1 != 0)
 (ob (dx y1.1) fun r2 =>
 some (.inr (.inr (y1.2,r2,rx1.aE.aW,rx1.aE.ids,rx1.aE.used))))
 (some (.inl (l1,i1,(aF (i2+1)),y1.2,rx1))))
 none)
 (some (.inr (.inl (c1,rx1))))
def BW (p:rz):Option ((rz)⊕(((bY×aU)⊕(bY×aU×(List Slice)×(List Range)×(List Int))))):=Ib p.1 p.2.1 p.2.2.1 p.2.2.2.1 p.2.2.2.2
def Dk (l1:List Op)(i1:Int)(i2:Int)(c1:bY)(rx1:aU):Option (((bY×aU)⊕(bY×aU×(List Slice)×(List Range)×(List Int)))):=bZ BW ((i1 - i2).toNat+2) (l1,i1,i2,c1,rx1)
def aCn:kT (rz):=kO (kS 25 (kC (kP 0 0) (kC (kP 1 0) (kC (aD.xs (aD.sc (aD.dY 132 [(0,0)] []))) (kC (kF eH) (kC kI (kC kI kN)))))) (kC (aD.var 0 100 (kC (kG cY) (kC (kG aj) (kC (kG ch) (kC (kG bA) (kC (kG bQ) (kC (kG dU) (kC (kG dE) (kC (kG bQ) (kC (kG dS) (kC (kG dQ) (kC (kG bQ) (kC (kG dU) (kC (kG dE) (kC (kG bQ) (kC (kG dS) (kC (kG dQ) (kC (kG bQ) (kC (kG dU) (kC (kG dE) (kC (kG bQ) (kC (kG dS) (kC (kG dQ) (kC (kA 2) (kC kJ (kC kJ (kC kJ (kC kJ (kC kJ (kC kJ (kC kJ (kC kJ (kC (kA 3) (kC (kA 4) (kC (kA 5) (kC kJ (kC kJ (kC kJ (kC kJ (kC kJ (kC kJ (kC kJ (kC kJ (kC (kA 6) (kC (kA 7) (kC (kA 8) (kC kJ (kC kJ (kC kJ (kC kJ (kC kJ (kC kJ (kC kJ (kC kJ (kC (kA 9) (kC (kA 10) (kC (kA 11) (kC kJ (kC kJ (kC kJ (kC kJ (kC kJ (kC kJ (kC kJ (kC kJ (kC (kA 12) (kC (kA 13) (kC (kA 14) (kC kJ (kC kJ (kC kJ (kC kJ (kC kJ (kC kJ (kC kJ (kC kJ (kC (kA 15) (kC (kA 16) (kC (kA 17) (kC kJ (kC kJ (kC kJ (kC kJ (kC kJ (kC kJ (kC kJ (kC kJ (kC (kA 18) (kC (kA 19) (kC (kA 20) (kC (kA 21) (kC kJ (kC kJ (kC kJ (kC kJ (kC kJ (kC kJ (kC (kG gL) (kC (kG eH) kN))))))))))))))))))))))))))))))))))))))))))))))))))))))))))))))))))))))))))))))))))))))))))))))))))) (kC (aD.var 1 45 (kC kJ (kC kJ (kC kJ (kC kJ (kC kJ (kC kJ (kC (kA 22) (kC (kA 23) (kC (kA 24) kN)))))))))) (kC (kR 2 61 eH) (kC (kR 3 133 cD) (kC (kR 4 153 aj) (kC (kR 5 3 bA) (kC (kR 6 133 cD) (kC (kR 7 153 aj) (kC (kR 8 3 bA) (kC (kR 9 133 cD) (kC (kR 10 153 aj) (kC (kR 11 3 bA) (kC (kR 12 133 cD) (kC (kR 13 153 aj) (kC (kR 14 3 bA) (kC (kR 15 133 cD) (kC (kR 16 153 aj) (kC (kR 17 3 bA) (kC (kR 18 133 cD) (kC (kR 19 153 aj) (kC (kR 20 3 bA) (kC (kR 21 66 bQ) (kC (kR 22 133 cD) (kC (kR 23 153 aj) (kC (kR 24 3 bA) kN)))))))))))))))))))))))))) (fun p=>(p.1.2.2.2.1,p.1.2.2.2.2.1,p.1.2.2.2.2.2.1,(bY.mk (aw.mk (aG.mk p.2.1.1 p.2.1.2.1 p.2.1.2.2.1 p.2.1.2.2.2.1) (gQ.mk (ag.mk p.2.1.2.2.2.2.1 p.2.1.2.2.2.2.2.1 p.2.1.2.2.2.2.2.2.1 p.2.1.2.2.2.2.2.2.2.1 (t8 p.2.1).1 (t8 p.2.1).2.1) (ag.mk (t8 p.2.1).2.2.1 (t8 p.2.1).2.2.2.1 (t8 p.2.1).2.2.2.2.1 (t8 p.2.1).2.2.2.2.2.1 (t8 p.2.1).2.2.2.2.2.2.1 (t8 p.2.1).2.2.2.2.2.2.2.1) (ag.mk (t8 (t8 p.2.1)).1 (t8 (t8 p.2.1)).2.1 (t8 (t8 p.2.1)).2.2.1 (t8 (t8 p.2.1)).2.2.2.1 (t8 (t8 p.2.1)).2.2.2.2.1 (t8 (t8 p.2.1)).2.2.2.2.2.1)) p.2.2.2.1 (eP.mk (Device.mk (t8 (t8 p.2.1)).2.2.2.2.2.2.2.1 (t8 (t8 (t8 p.2.1))).1 (aU.mk (t8 (t8 (t8 p.2.1))).2.1 (t8 (t8 (t8 p.2.1))).2.2.1 (aH.mk (t8 (t8 (t8 p.2.1))).2.2.2.1 (t8 (t8 (t8 p.2.1))).2.2.2.2.1 (t8 (t8 (t8 p.2.1))).2.2.2.2.2.1 (t8 (t8 (t8 p.2.1))).2.2.2.2.2.2.1 p.2.2.2.2.1 p.2.2.2.2.2.1 p.2.2.2.2.2.2.1))) (Device.mk (t32 p.2.1).2.2.1 (t32 p.2.1).2.2.2.1 (aU.mk (t32 p.2.1).2.2.2.2.1 (t32 p.2.1).2.2.2.2.2.1 (aH.mk (t32 p.2.1).2.2.2.2.2.2.1 (t32 p.2.1).2.2.2.2.2.2.2.1 (t8 (t32 p.2.1)).1 (t8 (t32 p.2.1)).2.1 p.2.2.2.2.2.2.2.1 p.2.2.2.2.2.2.2.2.1 (t8 p.2).1))) (Device.mk (t8 (t32 p.2.1)).2.2.2.2.2.1 (t8 (t32 p.2.1)).2.2.2.2.2.2.1 (aU.mk (t8 (t32 p.2.1)).2.2.2.2.2.2.2.1 (t8 (t8 (t32 p.2.1))).1 (aH.mk (t8 (t8 (t32 p.2.1))).2.1 (t8 (t8 (t32 p.2.1))).2.2.1 (t8 (t8 (t32 p.2.1))).2.2.2.1 (t8 (t8 (t32 p.2.1))).2.2.2.2.1 (t8 p.2).2.1 (t8 p.2).2.2.1 (t8 p.2).2.2.2.1))) (Device.mk (t8 (t8 (t8 (t32 p.2.1)))).1 (t8 (t8 (t8 (t32 p.2.1)))).2.1 (aU.mk (t8 (t8 (t8 (t32 p.2.1)))).2.2.1 (t8 (t8 (t8 (t32 p.2.1)))).2.2.2.1 (aH.mk (t8 (t8 (t8 (t32 p.2.1)))).2.2.2.2.1 (t8 (t8 (t8 (t32 p.2.1)))).2.2.2.2.2.1 (t8 (t8 (t8 (t32 p.2.1)))).2.2.2.2.2.2.1 (t8 (t8 (t8 (t32 p.2.1)))).2.2.2.2.2.2.2.1 (t8 p.2).2.2.2.2.1 (t8 p.2).2.2.2.2.2.1 (t8 p.2).2.2.2.2.2.2.1))) (Device.mk (t32 (t32 p.2.1)).2.2.2.1 (t32 (t32 p.2.1)).2.2.2.2.1 (aU.mk (t32 (t32 p.2.1)).2.2.2.2.2.1 (t32 (t32 p.2.1)).2.2.2.2.2.2.1 (aH.mk (t32 (t32 p.2.1)).2.2.2.2.2.2.2.1 (t8 (t32 (t32 p.2.1))).1 (t8 (t32 (t32 p.2.1))).2.1 (t8 (t32 (t32 p.2.1))).2.2.1 (t8 p.2).2.2.2.2.2.2.2.1 (t8 (t8 p.2)).1 (t8 (t8 p.2)).2.1))) (Device.mk (t8 (t32 (t32 p.2.1))).2.2.2.2.2.2.1 (t8 (t32 (t32 p.2.1))).2.2.2.2.2.2.2.1 (aU.mk (t8 (t8 (t32 (t32 p.2.1)))).1 (t8 (t8 (t32 (t32 p.2.1)))).2.1 (aH.mk (t8 (t8 (t32 (t32 p.2.1)))).2.2.1 (t8 (t8 (t32 (t32 p.2.1)))).2.2.2.1 (t8 (t8 (t32 (t32 p.2.1)))).2.2.2.2.1 (t8 (t8 (t32 (t32 p.2.1)))).2.2.2.2.2.1 (t8 (t8 p.2)).2.2.1 (t8 (t8 p.2)).2.2.2.1 (t8 (t8 p.2)).2.2.2.2.1)))) (t8 (t8 p.2)).2.2.2.2.2.1 (t8 (t8 (t8 (t32 (t32 p.2.1))))).2.2.1) (cH.mk (t8 (t8 (t8 (t32 (t32 p.2.1))))).2.2.2.1 (t8 (t8 (t8 (t32 (t32 p.2.1))))).2.2.2.2.1 (t8 (t8 (t8 (t32 (t32 p.2.1))))).2.2.2.2.2.1 (t8 (t8 (t8 (t32 (t32 p.2.1))))).2.2.2.2.2.2.1 (t8 (t8 (t8 (t32 (t32 p.2.1))))).2.2.2.2.2.2.2.1 (t32 (t32 (t32 p.2.1))).1 (t32 (t32 (t32 p.2.1))).2.1)),(aU.mk p.2.2.1.1 p.2.2.1.2.1 (aH.mk p.2.2.1.2.2.1 p.2.2.1.2.2.2.1 p.2.2.1.2.2.2.2.1 p.2.2.1.2.2.2.2.2.1 (t8 (t8 p.2)).2.2.2.2.2.2.1 (t8 (t8 p.2)).2.2.2.2.2.2.2.1 (t8 (t8 (t8 p.2))).1)))) (fun (x:rz)=>(((),((),((),(x.1,(x.2.1,(x.2.2.1,())))))),((x.2.2.2.1.d.book.af,(x.2.2.2.1.d.book.free,(x.2.2.2.1.d.book.aK,(x.2.2.2.1.d.book.bB,(x.2.2.2.1.d.aI.a0.v,(x.2.2.2.1.d.aI.a0.cB,(x.2.2.2.1.d.aI.a0.bp,(x.2.2.2.1.d.aI.a0.gone,(x.2.2.2.1.d.aI.a0.bJ,(x.2.2.2.1.d.aI.a0.binds,(x.2.2.2.1.d.aI.a1.v,(x.2.2.2.1.d.aI.a1.cB,(x.2.2.2.1.d.aI.a1.bp,(x.2.2.2.1.d.aI.a1.gone,(x.2.2.2.1.d.aI.a1.bJ,(x.2.2.2.1.d.aI.a1.binds,(x.2.2.2.1.d.aI.a2.v,(x.2.2.2.1.d.aI.a2.cB,(x.2.2.2.1.d.aI.a2.bp,(x.2.2.2.1.d.aI.a2.gone,(x.2.2.2.1.d.aI.a2.bJ,(x.2.2.2.1.d.aI.a2.binds,((),(x.2.2.2.1.d.dev.a0.aA,(x.2.2.2.1.d.dev.a0.aO,(x.2.2.2.1.d.dev.a0.aB.err,(x.2.2.2.1.d.dev.a0.aB.n,(x.2.2.2.1.d.dev.a0.aB.aE.device,(x.2.2.2.1.d.dev.a0.aB.aE.aA,(x.2.2.2.1.d.dev.a0.aB.aE.bN,(x.2.2.2.1.d.dev.a0.aB.aE.last,((),((),((),(x.2.2.2.1.d.dev.a1.aA,(x.2.2.2.1.d.dev.a1.aO,(x.2.2.2.1.d.dev.a1.aB.err,(x.2.2.2.1.d.dev.a1.aB.n,(x.2.2.2.1.d.dev.a1.aB.aE.device,(x.2.2.2.1.d.dev.a1.aB.aE.aA,(x.2.2.2.1.d.dev.a1.aB.aE.bN,(x.2.2.2.1.d.dev.a1.aB.aE.last,((),((),((),(x.2.2.2.1.d.dev.a2.aA,(x.2.2.2.1.d.dev.a2.aO,(x.2.2.2.1.d.dev.a2.aB.err,(x.2.2.2.1.d.dev.a2.aB.n,(x.2.2.2.1.d.dev.a2.aB.aE.device,(x.2.2.2.1.d.dev.a2.aB.aE.aA,(x.2.2.2.1.d.dev.a2.aB.aE.bN,(x.2.2.2.1.d.dev.a2.aB.aE.last,((),((),((),(x.2.2.2.1.d.dev.a3.aA,(x.2.2.2.1.d.dev.a3.aO,(x.2.2.2.1.d.dev.a3.aB.err,(x.2.2.2.1.d.dev.a3.aB.n,(x.2.2.2.1.d.dev.a3.aB.aE.device,(x.2.2.2.1.d.dev.a3.aB.aE.aA,(x.2.2.2.1.d.dev.a3.aB.aE.bN,(x.2.2.2.1.d.dev.a3.aB.aE.last,((),((),((),(x.2.2.2.1.d.dev.a4.aA,(x.2.2.2.1.d.dev.a4.aO,(x.2.2.2.1.d.dev.a4.aB.err,(x.2.2.2.1.d.dev.a4.aB.n,(x.2.2.2.1.d.dev.a4.aB.aE.device,(x.2.2.2.1.d.dev.a4.aB.aE.aA,(x.2.2.2.1.d.dev.a4.aB.aE.bN,(x.2.2.2.1.d.dev.a4.aB.aE.last,((),((),((),(x.2.2.2.1.d.dev.a5.aA,(x.2.2.2.1.d.dev.a5.aO,(x.2.2.2.1.d.dev.a5.aB.err,(x.2.2.2.1.d.dev.a5.aB.n,(x.2.2.2.1.d.dev.a5.aB.aE.device,(x.2.2.2.1.d.dev.a5.aB.aE.aA,(x.2.2.2.1.d.dev.a5.aB.aE.bN,(x.2.2.2.1.d.dev.a5.aB.aE.last,((),((),((),((),(x.2.2.2.1.d.now,(x.2.2.2.1.c.kind,(x.2.2.2.1.c.device,(x.2.2.2.1.c.aA,(x.2.2.2.1.c.aO,(x.2.2.2.1.c.n,(x.2.2.2.1.c.cj,(x.2.2.2.1.c.ops,())))))))))))))))))))))))))))))))))))))))))))))))))))))))))))))))))))))))))))))))))))))))))))))))))),((x.2.2.2.2.err,(x.2.2.2.2.n,(x.2.2.2.2.aE.device,(x.2.2.2.2.aE.aA,(x.2.2.2.2.aE.bN,(x.2.2.2.2.aE.last,((),((),((),()))))))))),(x.2.2.2.1.d.log,(x.2.2.2.1.d.dev.a0.aB.aE.aW,(x.2.2.2.1.d.dev.a0.aB.aE.ids,(x.2.2.2.1.d.dev.a0.aB.aE.used,(x.2.2.2.1.d.dev.a1.aB.aE.aW,(x.2.2.2.1.d.dev.a1.aB.aE.ids,(x.2.2.2.1.d.dev.a1.aB.aE.used,(x.2.2.2.1.d.dev.a2.aB.aE.aW,(x.2.2.2.1.d.dev.a2.aB.aE.ids,(x.2.2.2.1.d.dev.a2.aB.aE.used,(x.2.2.2.1.d.dev.a3.aB.aE.aW,(x.2.2.2.1.d.dev.a3.aB.aE.ids,(x.2.2.2.1.d.dev.a3.aB.aE.used,(x.2.2.2.1.d.dev.a4.aB.aE.aW,(x.2.2.2.1.d.dev.a4.aB.aE.ids,(x.2.2.2.1.d.dev.a4.aB.aE.used,(x.2.2.2.1.d.dev.a5.aB.aE.aW,(x.2.2.2.1.d.dev.a5.aB.aE.ids,(x.2.2.2.1.d.dev.a5.aB.aE.used,(x.2.2.2.1.d.lost,(x.2.2.2.2.aE.aW,(x.2.2.2.2.aE.ids,(x.2.2.2.2.aE.used,()))))))))))))))))))))))))))) (fun _=>rfl)
def aAh:kT (bY×aU):=kO (kS 50 (kC (kP 0 0) (kC (kP 1 0) kN)) (kC (aD.var 0 100 (kC (kG cY) (kC (kG aj) (kC (kG ch) (kC (kG bA) (kC (kG bQ) (kC (kG dU) (kC (kG dE) (kC (kG bQ) (kC (kG dS) (kC (kG dQ) (kC (kG bQ) (kC (kG dU) (kC (kG dE) (kC (kG bQ) (kC (kG dS) (kC (kG dQ) (kC (kG bQ) (kC (kG dU) (kC (kG dE) (kC (kG bQ) (kC (kG dS) (kC (kG dQ) (kC (kA 30) (kC kJ (kC kJ (kC kJ (kC kJ (kC kJ (kC kJ (kC kJ (kC kJ (kC (kA 31) (kC (kA 32) (kC (kA 33) (kC kJ (kC kJ (kC kJ (kC kJ (kC kJ (kC kJ (kC kJ (kC kJ (kC (kA 34) (kC (kA 35) (kC (kA 36) (kC kJ (kC kJ (kC kJ (kC kJ (kC kJ (kC kJ (kC kJ (kC kJ (kC (kA 37) (kC (kA 38) (kC (kA 39) (kC kJ (kC kJ (kC kJ (kC kJ (kC kJ (kC kJ (kC kJ (kC kJ (kC (kA 40) (kC (kA 41) (kC (kA 42) (kC kJ (kC kJ (kC kJ (kC kJ (kC kJ (kC kJ (kC kJ (kC kJ (kC (kA 43) (kC (kA 44) (kC (kA 45) (kC kJ (kC kJ (kC kJ (kC kJ (kC kJ (kC kJ (kC kJ (kC kJ (kC (kA 46) (kC (kA 47) (kC (kA 48) (kC (kA 49) (kC kJ (kC kJ (kC kJ (kC kJ (kC kJ (kC kJ (kC (kG gL) (kC (kG eH) kN))))))))))))))))))))))))))))))))))))))))))))))))))))))))))))))))))))))))))))))))))))))))))))))))))) (kC (aD.var 1 45 (kC kJ (kC kJ (kC kJ (kC kJ (kC kJ (kC kJ (kC (kA 22) (kC (kA 23) (kC (kA 24) kN)))))))))) (kC (kR 22 133 cD) (kC (kR 23 153 aj) (kC (kR 24 3 bA) (kC (kR 30 61 eH) (kC (kR 31 133 cD) (kC (kR 32 153 aj) (kC (kR 33 3 bA) (kC (kR 34 133 cD) (kC (kR 35 153 aj) (kC (kR 36 3 bA) (kC (kR 37 133 cD) (kC (kR 38 153 aj) (kC (kR 39 3 bA) (kC (kR 40 133 cD) (kC (kR 41 153 aj) (kC (kR 42 3 bA) (kC (kR 43 133 cD) (kC (kR 44 153 aj) (kC (kR 45 3 bA) (kC (kR 46 133 cD) (kC (kR 47 153 aj) (kC (kR 48 3 bA) (kC (kR 49 66 bQ) kN)))))))))))))))))))))))))) (fun p=>((bY.mk (aw.mk (aG.mk p.2.1.1 p.2.1.2.1 p.2.1.2.2.1 p.2.1.2.2.2.1) (gQ.mk (ag.mk p.2.1.2.2.2.2.1 p.2.1.2.2.2.2.2.1 p.2.1.2.2.2.2.2.2.1 p.2.1.2.2.2.2.2.2.2.1 (t8 p.2.1).1 (t8 p.2.1).2.1) (ag.mk (t8 p.2.1).2.2.1 (t8 p.2.1).2.2.2.1 (t8 p.2.1).2.2.2.2.1 (t8 p.2.1).2.2.2.2.2.1 (t8 p.2.1).2.2.2.2.2.2.1 (t8 p.2.1).2.2.2.2.2.2.2.1) (ag.mk (t8 (t8 p.2.1)).1 (t8 (t8 p.2.1)).2.1 (t8 (t8 p.2.1)).2.2.1 (t8 (t8 p.2.1)).2.2.2.1 (t8 (t8 p.2.1)).2.2.2.2.1 (t8 (t8 p.2.1)).2.2.2.2.2.1)) p.2.2.2.2.2.2.1 (eP.mk (Device.mk (t8 (t8 p.2.1)).2.2.2.2.2.2.2.1 (t8 (t8 (t8 p.2.1))).1 (aU.mk (t8 (t8 (t8 p.2.1))).2.1 (t8 (t8 (t8 p.2.1))).2.2.1 (aH.mk (t8 (t8 (t8 p.2.1))).2.2.2.1 (t8 (t8 (t8 p.2.1))).2.2.2.2.1 (t8 (t8 (t8 p.2.1))).2.2.2.2.2.1 (t8 (t8 (t8 p.2.1))).2.2.2.2.2.2.1 p.2.2.2.2.2.2.2.1 p.2.2.2.2.2.2.2.2.1 (t8 p.2).1))) (Device.mk (t32 p.2.1).2.2.1 (t32 p.2.1).2.2.2.1 (aU.mk (t32 p.2.1).2.2.2.2.1 (t32 p.2.1).2.2.2.2.2.1 (aH.mk (t32 p.2.1).2.2.2.2.2.2.1 (t32 p.2.1).2.2.2.2.2.2.2.1 (t8 (t32 p.2.1)).1 (t8 (t32 p.2.1)).2.1 (t8 p.2).2.1 (t8 p.2).2.2.1 (t8 p.2).2.2.2.1))) (Device.mk (t8 (t32 p.2.1)).2.2.2.2.2.1 (t8 (t32 p.2.1)).2.2.2.2.2.2.1 (aU.mk (t8 (t32 p.2.1)).2.2.2.2.2.2.2.1 (t8 (t8 (t32 p.2.1))).1 (aH.mk (t8 (t8 (t32 p.2.1))).2.1 (t8 (t8 (t32 p.2.1))).2.2.1 (t8 (t8 (t32 p.2.1))).2.2.2.1 (t8 (t8 (t32 p.2.1))).2.2.2.2.1 (t8 p.2).2.2.2.2.1 (t8 p.2).2.2.2.2.2.1 (t8 p.2).2.2.2.2.2.2.1))) (Device.mk (t8 (t8 (t8 (t32 p.2.1)))).1 (t8 (t8 (t8 (t32 p.2.1)))).2.1 (aU.mk (t8 (t8 (t8 (t32 p.2.1)))).2.2.1 (t8 (t8 (t8 (t32 p.2.1)))).2.2.2.1 (aH.mk (t8 (t8 (t8 (t32 p.2.1)))).2.2.2.2.1 (t8 (t8 (t8 (t32 p.2.1)))).2.2.2.2.2.1 (t8 (t8 (t8 (t32 p.2.1)))).2.2.2.2.2.2.1 (t8 (t8 (t8 (t32 p.2.1)))).2.2.2.2.2.2.2.1 (t8 p.2).2.2.2.2.2.2.2.1 (t8 (t8 p.2)).1 (t8 (t8 p.2)).2.1))) (Device.mk (t32 (t32 p.2.1)).2.2.2.1 (t32 (t32 p.2.1)).2.2.2.2.1 (aU.mk (t32 (t32 p.2.1)).2.2.2.2.2.1 (t32 (t32 p.2.1)).2.2.2.2.2.2.1 (aH.mk (t32 (t32 p.2.1)).2.2.2.2.2.2.2.1 (t8 (t32 (t32 p.2.1))).1 (t8 (t32 (t32 p.2.1))).2.1 (t8 (t32 (t32 p.2.1))).2.2.1 (t8 (t8 p.2)).2.2.1 (t8 (t8 p.2)).2.2.2.1 (t8 (t8 p.2)).2.2.2.2.1))) (Device.mk (t8 (t32 (t32 p.2.1))).2.2.2.2.2.2.1 (t8 (t32 (t32 p.2.1))).2.2.2.2.2.2.2.1 (aU.mk (t8 (t8 (t32 (t32 p.2.1)))).1 (t8 (t8 (t32 (t32 p.2.1)))).2.1 (aH.mk (t8 (t8 (t32 (t32 p.2.1)))).2.2.1 (t8 (t8 (t32 (t32 p.2.1)))).2.2.2.1 (t8 (t8 (t32 (t32 p.2.1)))).2.2.2.2.1 (t8 (t8 (t32 (t32 p.2.1)))).2.2.2.2.2.1 (t8 (t8 p.2)).2.2.2.2.2.1 (t8 (t8 p.2)).2.2.2.2.2.2.1 (t8 (t8 p.2)).2.2.2.2.2.2.2.1)))) (t8 (t8 (t8 p.2))).1 (t8 (t8 (t8 (t32 (t32 p.2.1))))).2.2.1) (cH.mk (t8 (t8 (t8 (t32 (t32 p.2.1))))).2.2.2.1 (t8 (t8 (t8 (t32 (t32 p.2.1))))).2.2.2.2.1 (t8 (t8 (t8 (t32 (t32 p.2.1))))).2.2.2.2.2.1 (t8 (t8 (t8 (t32 (t32 p.2.1))))).2.2.2.2.2.2.1 (t8 (t8 (t8 (t32 (t32 p.2.1))))).2.2.2.2.2.2.2.1 (t32 (t32 (t32 p.2.1))).1 (t32 (t32 (t32 p.2.1))).2.1)),(aU.mk p.2.2.1.1 p.2.2.1.2.1 (aH.mk p.2.2.1.2.2.1 p.2.2.1.2.2.2.1 p.2.2.1.2.2.2.2.1 p.2.2.1.2.2.2.2.2.1 p.2.2.2.1 p.2.2.2.2.1 p.2.2.2.2.2.1)))) (fun (x:bY×aU)=>(((),((),())),((x.1.d.book.af,(x.1.d.book.free,(x.1.d.book.aK,(x.1.d.book.bB,(x.1.d.aI.a0.v,(x.1.d.aI.a0.cB,(x.1.d.aI.a0.bp,(x.1.d.aI.a0.gone,(x.1.d.aI.a0.bJ,(x.1.d.aI.a0.binds,(x.1.d.aI.a1.v,(x.1.d.aI.a1.cB,(x.1.d.aI.a1.bp,(x.1.d.aI.a1.gone,(x.1.d.aI.a1.bJ,(x.1.d.aI.a1.binds,(x.1.d.aI.a2.v,(x.1.d.aI.a2.cB,(x.1.d.aI.a2.bp,(x.1.d.aI.a2.gone,(x.1.d.aI.a2.bJ,(x.1.d.aI.a2.binds,((),(x.1.d.dev.a0.aA,(x.1.d.dev.a0.aO,(x.1.d.dev.a0.aB.err,(x.1.d.dev.a0.aB.n,(x.1.d.dev.a0.aB.aE.device,(x.1.d.dev.a0.aB.aE.aA,(x.1.d.dev.a0.aB.aE.bN,(x.1.d.dev.a0.aB.aE.last,((),((),((),(x.1.d.dev.a1.aA,(x.1.d.dev.a1.aO,(x.1.d.dev.a1.aB.err,(x.1.d.dev.a1.aB.n,(x.1.d.dev.a1.aB.aE.device,(x.1.d.dev.a1.aB.aE.aA,(x.1.d.dev.a1.aB.aE.bN,(x.1.d.dev.a1.aB.aE.last,((),((),((),(x.1.d.dev.a2.aA,(x.1.d.dev.a2.aO,(x.1.d.dev.a2.aB.err,(x.1.d.dev.a2.aB.n,(x.1.d.dev.a2.aB.aE.device,(x.1.d.dev.a2.aB.aE.aA,(x.1.d.dev.a2.aB.aE.bN,(x.1.d.dev.a2.aB.aE.last,((),((),((),(x.1.d.dev.a3.aA,(x.1.d.dev.a3.aO,(x.1.d.dev.a3.aB.err,(x.1.d.dev.a3.aB.n,(x.1.d.dev.a3.aB.aE.device,(x.1.d.dev.a3.aB.aE.aA,(x.1.d.dev.a3.aB.aE.bN,(x.1.d.dev.a3.aB.aE.last,((),((),((),(x.1.d.dev.a4.aA,(x.1.d.dev.a4.aO,(x.1.d.dev.a4.aB.err,(x.1.d.dev.a4.aB.n,(x.1.d.dev.a4.aB.aE.device,(x.1.d.dev.a4.aB.aE.aA,(x.1.d.dev.a4.aB.aE.bN,(x.1.d.dev.a4.aB.aE.last,((),((),((),(x.1.d.dev.a5.aA,(x.1.d.dev.a5.aO,(x.1.d.dev.a5.aB.err,(x.1.d.dev.a5.aB.n,(x.1.d.dev.a5.aB.aE.device,(x.1.d.dev.a5.aB.aE.aA,(x.1.d.dev.a5.aB.aE.bN,(x.1.d.dev.a5.aB.aE.last,((),((),((),((),(x.1.d.now,(x.1.c.kind,(x.1.c.device,(x.1.c.aA,(x.1.c.aO,(x.1.c.n,(x.1.c.cj,(x.1.c.ops,())))))))))))))))))))))))))))))))))))))))))))))))))))))))))))))))))))))))))))))))))))))))))))))))))),((x.2.err,(x.2.n,(x.2.aE.device,(x.2.aE.aA,(x.2.aE.bN,(x.2.aE.last,((),((),((),()))))))))),(x.2.aE.aW,(x.2.aE.ids,(x.2.aE.used,(x.1.d.log,(x.1.d.dev.a0.aB.aE.aW,(x.1.d.dev.a0.aB.aE.ids,(x.1.d.dev.a0.aB.aE.used,(x.1.d.dev.a1.aB.aE.aW,(x.1.d.dev.a1.aB.aE.ids,(x.1.d.dev.a1.aB.aE.used,(x.1.d.dev.a2.aB.aE.aW,(x.1.d.dev.a2.aB.aE.ids,(x.1.d.dev.a2.aB.aE.used,(x.1.d.dev.a3.aB.aE.aW,(x.1.d.dev.a3.aB.aE.ids,(x.1.d.dev.a3.aB.aE.used,(x.1.d.dev.a4.aB.aE.aW,(x.1.d.dev.a4.aB.aE.ids,(x.1.d.dev.a4.aB.aE.used,(x.1.d.dev.a5.aB.aE.aW,(x.1.d.dev.a5.aB.aE.ids,(x.1.d.dev.a5.aB.aE.used,(x.1.d.lost,()))))))))))))))))))))))))))) (fun _=>rfl)
def aA2:kT (bY×aU×(List Slice)×(List Range)×(List Int)):=kO (kS 50 (kC (kP 0 0) (kC (kP 1 0) kN)) (kC (aD.var 0 100 (kC (kG cY) (kC (kG aj) (kC (kG ch) (kC (kG bA) (kC (kG bQ) (kC (kG dU) (kC (kG dE) (kC (kG bQ) (kC (kG dS) (kC (kG dQ) (kC (kG bQ) (kC (kG dU) (kC (kG dE) (kC (kG bQ) (kC (kG dS) (kC (kG dQ) (kC (kG bQ) (kC (kG dU) (kC (kG dE) (kC (kG bQ) (kC (kG dS) (kC (kG dQ) (kC (kA 30) (kC kJ (kC kJ (kC kJ (kC kJ (kC kJ (kC kJ (kC kJ (kC kJ (kC (kA 31) (kC (kA 32) (kC (kA 33) (kC kJ (kC kJ (kC kJ (kC kJ (kC kJ (kC kJ (kC kJ (kC kJ (kC (kA 34) (kC (kA 35) (kC (kA 36) (kC kJ (kC kJ (kC kJ (kC kJ (kC kJ (kC kJ (kC kJ (kC kJ (kC (kA 37) (kC (kA 38) (kC (kA 39) (kC kJ (kC kJ (kC kJ (kC kJ (kC kJ (kC kJ (kC kJ (kC kJ (kC (kA 40) (kC (kA 41) (kC (kA 42) (kC kJ (kC kJ (kC kJ (kC kJ (kC kJ (kC kJ (kC kJ (kC kJ (kC (kA 43) (kC (kA 44) (kC (kA 45) (kC kJ (kC kJ (kC kJ (kC kJ (kC kJ (kC kJ (kC kJ (kC kJ (kC (kA 46) (kC (kA 47) (kC (kA 48) (kC (kA 49) (kC kJ (kC kJ (kC kJ (kC kJ (kC kJ (kC kJ (kC (kG gL) (kC (kG eH) kN))))))))))))))))))))))))))))))))))))))))))))))))))))))))))))))))))))))))))))))))))))))))))))))))))) (kC (aD.var 1 45 vQ) (kC (kR 22 133 cD) (kC (kR 23 153 aj) (kC (kR 24 3 bA) (kC (kR 30 61 eH) (kC (kR 31 133 cD) (kC (kR 32 153 aj) (kC (kR 33 3 bA) (kC (kR 34 133 cD) (kC (kR 35 153 aj) (kC (kR 36 3 bA) (kC (kR 37 133 cD) (kC (kR 38 153 aj) (kC (kR 39 3 bA) (kC (kR 40 133 cD) (kC (kR 41 153 aj) (kC (kR 42 3 bA) (kC (kR 43 133 cD) (kC (kR 44 153 aj) (kC (kR 45 3 bA) (kC (kR 46 133 cD) (kC (kR 47 153 aj) (kC (kR 48 3 bA) (kC (kR 49 66 bQ) kN)))))))))))))))))))))))))) (fun p=>((bY.mk (aw.mk (aG.mk p.2.1.1 p.2.1.2.1 p.2.1.2.2.1 p.2.1.2.2.2.1) (gQ.mk (ag.mk p.2.1.2.2.2.2.1 p.2.1.2.2.2.2.2.1 p.2.1.2.2.2.2.2.2.1 p.2.1.2.2.2.2.2.2.2.1 (t8 p.2.1).1 (t8 p.2.1).2.1) (ag.mk (t8 p.2.1).2.2.1 (t8 p.2.1).2.2.2.1 (t8 p.2.1).2.2.2.2.1 (t8 p.2.1).2.2.2.2.2.1 (t8 p.2.1).2.2.2.2.2.2.1 (t8 p.2.1).2.2.2.2.2.2.2.1) (ag.mk (t8 (t8 p.2.1)).1 (t8 (t8 p.2.1)).2.1 (t8 (t8 p.2.1)).2.2.1 (t8 (t8 p.2.1)).2.2.2.1 (t8 (t8 p.2.1)).2.2.2.2.1 (t8 (t8 p.2.1)).2.2.2.2.2.1)) p.2.2.2.2.2.2.1 (eP.mk (Device.mk (t8 (t8 p.2.1)).2.2.2.2.2.2.2.1 (t8 (t8 (t8 p.2.1))).1 (aU.mk (t8 (t8 (t8 p.2.1))).2.1 (t8 (t8 (t8 p.2.1))).2.2.1 (aH.mk (t8 (t8 (t8 p.2.1))).2.2.2.1 (t8 (t8 (t8 p.2.1))).2.2.2.2.1 (t8 (t8 (t8 p.2.1))).2.2.2.2.2.1 (t8 (t8 (t8 p.2.1))).2.2.2.2.2.2.1 p.2.2.2.2.2.2.2.1 p.2.2.2.2.2.2.2.2.1 (t8 p.2).1))) (Device.mk (t32 p.2.1).2.2.1 (t32 p.2.1).2.2.2.1 (aU.mk (t32 p.2.1).2.2.2.2.1 (t32 p.2.1).2.2.2.2.2.1 (aH.mk (t32 p.2.1).2.2.2.2.2.2.1 (t32 p.2.1).2.2.2.2.2.2.2.1 (t8 (t32 p.2.1)).1 (t8 (t32 p.2.1)).2.1 (t8 p.2).2.1 (t8 p.2).2.2.1 (t8 p.2).2.2.2.1))) (Device.mk (t8 (t32 p.2.1)).2.2.2.2.2.1 (t8 (t32 p.2.1)).2.2.2.2.2.2.1 (aU.mk (t8 (t32 p.2.1)).2.2.2.2.2.2.2.1 (t8 (t8 (t32 p.2.1))).1 (aH.mk (t8 (t8 (t32 p.2.1))).2.1 (t8 (t8 (t32 p.2.1))).2.2.1 (t8 (t8 (t32 p.2.1))).2.2.2.1 (t8 (t8 (t32 p.2.1))).2.2.2.2.1 (t8 p.2).2.2.2.2.1 (t8 p.2).2.2.2.2.2.1 (t8 p.2).2.2.2.2.2.2.1))) (Device.mk (t8 (t8 (t8 (t32 p.2.1)))).1 (t8 (t8 (t8 (t32 p.2.1)))).2.1 (aU.mk (t8 (t8 (t8 (t32 p.2.1)))).2.2.1 (t8 (t8 (t8 (t32 p.2.1)))).2.2.2.1 (aH.mk (t8 (t8 (t8 (t32 p.2.1)))).2.2.2.2.1 (t8 (t8 (t8 (t32 p.2.1)))).2.2.2.2.2.1 (t8 (t8 (t8 (t32 p.2.1)))).2.2.2.2.2.2.1 (t8 (t8 (t8 (t32 p.2.1)))).2.2.2.2.2.2.2.1 (t8 p.2).2.2.2.2.2.2.2.1 (t8 (t8 p.2)).1 (t8 (t8 p.2)).2.1))) (Device.mk (t32 (t32 p.2.1)).2.2.2.1 (t32 (t32 p.2.1)).2.2.2.2.1 (aU.mk (t32 (t32 p.2.1)).2.2.2.2.2.1 (t32 (t32 p.2.1)).2.2.2.2.2.2.1 (aH.mk (t32 (t32 p.2.1)).2.2.2.2.2.2.2.1 (t8 (t32 (t32 p.2.1))).1 (t8 (t32 (t32 p.2.1))).2.1 (t8 (t32 (t32 p.2.1))).2.2.1 (t8 (t8 p.2)).2.2.1 (t8 (t8 p.2)).2.2.2.1 (t8 (t8 p.2)).2.2.2.2.1))) (Device.mk (t8 (t32 (t32 p.2.1))).2.2.2.2.2.2.1 (t8 (t32 (t32 p.2.1))).2.2.2.2.2.2.2.1 (aU.mk (t8 (t8 (t32 (t32 p.2.1)))).1 (t8 (t8 (t32 (t32 p.2.1)))).2.1 (aH.mk (t8 (t8 (t32 (t32 p.2.1)))).2.2.1 (t8 (t8 (t32 (t32 p.2.1)))).2.2.2.1 (t8 (t8 (t32 (t32 p.2.1)))).2.2.2.2.1 (t8 (t8 (t32 (t32 p.2.1)))).2.2.2.2.2.1 (t8 (t8 p.2)).2.2.2.2.2.1 (t8 (t8 p.2)).2.2.2.2.2.2.1 (t8 (t8 p.2)).2.2.2.2.2.2.2.1)))) (t8 (t8 (t8 p.2))).1 (t8 (t8 (t8 (t32 (t32 p.2.1))))).2.2.1) (cH.mk (t8 (t8 (t8 (t32 (t32 p.2.1))))).2.2.2.1 (t8 (t8 (t8 (t32 (t32 p.2.1))))).2.2.2.2.1 (t8 (t8 (t8 (t32 (t32 p.2.1))))).2.2.2.2.2.1 (t8 (t8 (t8 (t32 (t32 p.2.1))))).2.2.2.2.2.2.1 (t8 (t8 (t8 (t32 (t32 p.2.1))))).2.2.2.2.2.2.2.1 (t32 (t32 (t32 p.2.1))).1 (t32 (t32 (t32 p.2.1))).2.1)),p.2.2.1,p.2.2.2.1,p.2.2.2.2.1,p.2.2.2.2.2.1)) (fun (x:bY×aU×(List Slice)×(List Range)×(List Int))=>(((),((),())),((x.1.d.book.af,(x.1.d.book.free,(x.1.d.book.aK,(x.1.d.book.bB,(x.1.d.aI.a0.v,(x.1.d.aI.a0.cB,(x.1.d.aI.a0.bp,(x.1.d.aI.a0.gone,(x.1.d.aI.a0.bJ,(x.1.d.aI.a0.binds,(x.1.d.aI.a1.v,(x.1.d.aI.a1.cB,(x.1.d.aI.a1.bp,(x.1.d.aI.a1.gone,(x.1.d.aI.a1.bJ,(x.1.d.aI.a1.binds,(x.1.d.aI.a2.v,(x.1.d.aI.a2.cB,(x.1.d.aI.a2.bp,(x.1.d.aI.a2.gone,(x.1.d.aI.a2.bJ,(x.1.d.aI.a2.binds,((),(x.1.d.dev.a0.aA,(x.1.d.dev.a0.aO,(x.1.d.dev.a0.aB.err,(x.1.d.dev.a0.aB.n,(x.1.d.dev.a0.aB.aE.device,(x.1.d.dev.a0.aB.aE.aA,(x.1.d.dev.a0.aB.aE.bN,(x.1.d.dev.a0.aB.aE.last,((),((),((),(x.1.d.dev.a1.aA,(x.1.d.dev.a1.aO,(x.1.d.dev.a1.aB.err,(x.1.d.dev.a1.aB.n,(x.1.d.dev.a1.aB.aE.device,(x.1.d.dev.a1.aB.aE.aA,(x.1.d.dev.a1.aB.aE.bN,(x.1.d.dev.a1.aB.aE.last,((),((),((),(x.1.d.dev.a2.aA,(x.1.d.dev.a2.aO,(x.1.d.dev.a2.aB.err,(x.1.d.dev.a2.aB.n,(x.1.d.dev.a2.aB.aE.device,(x.1.d.dev.a2.aB.aE.aA,(x.1.d.dev.a2.aB.aE.bN,(x.1.d.dev.a2.aB.aE.last,((),((),((),(x.1.d.dev.a3.aA,(x.1.d.dev.a3.aO,(x.1.d.dev.a3.aB.err,(x.1.d.dev.a3.aB.n,(x.1.d.dev.a3.aB.aE.device,(x.1.d.dev.a3.aB.aE.aA,(x.1.d.dev.a3.aB.aE.bN,(x.1.d.dev.a3.aB.aE.last,((),((),((),(x.1.d.dev.a4.aA,(x.1.d.dev.a4.aO,(x.1.d.dev.a4.aB.err,(x.1.d.dev.a4.aB.n,(x.1.d.dev.a4.aB.aE.device,(x.1.d.dev.a4.aB.aE.aA,(x.1.d.dev.a4.aB.aE.bN,(x.1.d.dev.a4.aB.aE.last,((),((),((),(x.1.d.dev.a5.aA,(x.1.d.dev.a5.aO,(x.1.d.dev.a5.aB.err,(x.1.d.dev.a5.aB.n,(x.1.d.dev.a5.aB.aE.device,(x.1.d.dev.a5.aB.aE.aA,(x.1.d.dev.a5.aB.aE.bN,(x.1.d.dev.a5.aB.aE.last,((),((),((),((),(x.1.d.now,(x.1.c.kind,(x.1.c.device,(x.1.c.aA,(x.1.c.aO,(x.1.c.n,(x.1.c.cj,(x.1.c.ops,())))))))))))))))))))))))))))))))))))))))))))))))))))))))))))))))))))))))))))))))))))))))))))))))))),(x.2.1,(x.2.2.1,(x.2.2.2.1,(x.2.2.2.2,(x.1.d.log,(x.1.d.dev.a0.aB.aE.aW,(x.1.d.dev.a0.aB.aE.ids,(x.1.d.dev.a0.aB.aE.used,(x.1.d.dev.a1.aB.aE.aW,(x.1.d.dev.a1.aB.aE.ids,(x.1.d.dev.a1.aB.aE.used,(x.1.d.dev.a2.aB.aE.aW,(x.1.d.dev.a2.aB.aE.ids,(x.1.d.dev.a2.aB.aE.used,(x.1.d.dev.a3.aB.aE.aW,(x.1.d.dev.a3.aB.aE.ids,(x.1.d.dev.a3.aB.aE.used,(x.1.d.dev.a4.aB.aE.aW,(x.1.d.dev.a4.aB.aE.ids,(x.1.d.dev.a4.aB.aE.used,(x.1.d.dev.a5.aB.aE.aW,(x.1.d.dev.a5.aB.aE.ids,(x.1.d.dev.a5.aB.aE.used,(x.1.d.lost,()))))))))))))))))))))))))))) (fun _=>rfl)
def Ls:aM TL:=aM.two aCn.dec (fun p=>Dk p.1 p.2.1 p.2.2.1 p.2.2.2.1 p.2.2.2.2) (.exit 0) .ret aAh.enc aA2.enc
theorem aDX:bM PR (bm Ls) Tg Oa (bV (bC yL.body) 8):=lB (cs:=[(39,jm)]) (ss:=[(132,Eo)]) (E:=aX tab sl sh [] [(132,.sum),(39,.keep)]) (an:=yL.an) (aY base aN (aC (eF rfl VN) (aC (oD ki rfl) aN))) BW (by kernel_rfl) (sB rfl EE.keys (by kernel_rfl)) rfl rfl (fun x y h=>⟨_,h⟩) (fun _=>rfl) fun _=>by kernel_rfl
def uG (c1:bY):Option (aU×bY) :=
 cond (decide (0≤c1.c.device) && decide (c1.c.device < 6))
 (cond (cond ((cond (decide (c1.c.device=0)) c1.d.dev.a0.aA (cond (decide (c1.c.device=1)) c1.d.dev.a1.aA (cond (decide (c1.c.device=2)) c1.d.dev.a2.aA (cond (decide (c1.c.device=3)) c1.d.dev.a3.aA (cond (decide (c1.c.device=4)) c1.d.dev.a4.aA c1.d.dev.a5.aA))))) == 0) true (decide (c1.c.aA > (cond (decide (c1.c.device=0)) c1.d.dev.a0.aA (cond (decide (c1.c.device=1)) c1.d.dev.a1.aA (cond (decide (c1.c.device=2)) c1.d.dev.a2.aA (cond (decide (c1.c.device=3)) c1.d.dev.a3.aA (cond (decide (c1.c.device=4)) c1.d.dev.a4.aA c1.d.dev.a5.aA))))))))
 (ob (dx 2) fun r1 =>
 some (r1,c1))
 (cond (decide (c1.c.aA < (cond (decide (c1.c.device=0)) c1.d.dev.a0.aA (cond (decide (c1.c.device=1)) c1.d.dev.a1.aA (cond (decide (c1.c.device=2)) c1.d.dev.a2.aA (cond (decide (c1.c.device=3)) c1.d.dev.a3.aA (cond (decide (c1.c.device=4)) c1.d.dev.a4.aA c1.d.dev.a5.aA)))))))
 (ob (dx 16) fun r2 =>
 some (r2,c1))
 (ob (jo c1.d.lost c1.c.device (cond (decide (c1.c.device=0)) c1.d.dev.a0.aA (cond (decide (c1.c.device=1)) c1.d.dev.a1.aA (cond (decide (c1.c.device=2)) c1.d.dev.a2.aA (cond (decide (c1.c.device=3)) c1.d.dev.a3.aA (cond (decide (c1.c.device=4)) c1.d.dev.a4.aA c1.d.dev.a5.aA)))))) fun r0 =>
 cond (r0)
 (ob (dx 16) fun r3 =>
 some (r3,c1))
 (cond (decide ((c1.c.ops.length:Int) > 20))
 (ob (dx 4) fun r4 =>
 some (r4,c1))
 (ob (Dk c1.c.ops (c1.c.ops.length:Int) 0 c1 (aU.mk 0 0 (aH.mk 0 0 0 0 [] [] []))) fun y5 =>
 two y5 (fun a6 =>
 ob (jk a6.1.d.log a6.1.c.device a6.1.c.aA) fun r8 =>
 some ((aU.mk 0 r8 (aH.mk 0 0 0 0 [] [] [])),a6.1)) (fun b7 =>
 some (b7.2.1,b7.1)))))))
 none
def aAX:aD (List (Nat×En TL)) bY:=kO (kC (aD.var 0 100 (kC (kG cY) (kC (kG aj) (kC (kG ch) (kC (kG bA) (kC (kG bQ) (kC (kG dU) (kC (kG dE) (kC (kG bQ) (kC (kG dS) (kC (kG dQ) (kC (kG bQ) (kC (kG dU) (kC (kG dE) (kC (kG bQ) (kC (kG dS) (kC (kG dQ) (kC (kG bQ) (kC (kG dU) (kC (kG dE) (kC (kG bQ) (kC (kG dS) (kC (kG dQ) (kC (kA 86) (kC kJ (kC kJ (kC kJ (kC kJ (kC kJ (kC kJ (kC kJ (kC kJ (kC (kA 87) (kC (kA 88) (kC (kA 89) (kC kJ (kC kJ (kC kJ (kC kJ (kC kJ (kC kJ (kC kJ (kC kJ (kC (kA 90) (kC (kA 91) (kC (kA 92) (kC kJ (kC kJ (kC kJ (kC kJ (kC kJ (kC kJ (kC kJ (kC kJ (kC (kA 93) (kC (kA 94) (kC (kA 95) (kC kJ (kC kJ (kC kJ (kC kJ (kC kJ (kC kJ (kC kJ (kC kJ (kC (kA 96) (kC (kA 97) (kC (kA 98) (kC kJ (kC kJ (kC kJ (kC kJ (kC kJ (kC kJ (kC kJ (kC kJ (kC (kA 99) (kC (kA 100) (kC (kA 101) (kC kJ (kC kJ (kC kJ (kC kJ (kC kJ (kC kJ (kC kJ (kC kJ (kC (kA 102) (kC (kA 103) (kC (kA 104) (kC (kA 105) (kC kJ (kC kJ (kC kJ (kC kJ (kC kJ (kC kJ (kC (kG gL) (kC (kG eH) kN))))))))))))))))))))))))))))))))))))))))))))))))))))))))))))))))))))))))))))))))))))))))))))))))))) (kC (aD.dead 1) (kC (aD.dead 2) (kC (aD.dead 3) (kC (aD.dead 4) (kC (aD.dead 5) (kC (aD.dead 6) (kC (aD.dead 7) (kC (aD.dead 8) (kC (aD.dead 9) (kC (aD.dead 10) (kC (aD.dead 11) (kC (aD.dead 12) (kC (aD.dead 13) (kC (aD.dead 14) (kC (aD.dead 15) (kC (aD.dead 16) (kC (aD.dead 17) (kC (aD.dead 18) (kC (aD.dead 19) (kC (aD.dead 20) (kC (aD.dead 21) (kC (aD.dead 22) (kC (aD.dead 23) (kC (aD.dead 24) (kC (aD.dead 25) (kC (aD.dead 26) (kC (aD.dead 27) (kC (aD.dead 28) (kC (aD.dead 29) (kC (aD.dead 30) (kC (aD.dead 31) (kC (aD.dead 32) (kC (aD.dead 33) (kC (aD.dead 34) (kC (aD.dead 35) (kC (aD.dead 36) (kC (aD.dead 37) (kC (aD.dead 38) (kC (aD.dead 39) (kC (aD.dead 40) (kC (aD.dead 41) (kC (aD.dead 42) (kC (kR 86 61 eH) (kC (kR 87 133 cD) (kC (kR 88 153 aj) (kC (kR 89 3 bA) (kC (kR 90 133 cD) (kC (kR 91 153 aj) (kC (kR 92 3 bA) (kC (kR 93 133 cD) (kC (kR 94 153 aj) (kC (kR 95 3 bA) (kC (kR 96 133 cD) (kC (kR 97 153 aj) (kC (kR 98 3 bA) (kC (kR 99 133 cD) (kC (kR 100 153 aj) (kC (kR 101 3 bA) (kC (kR 102 133 cD) (kC (kR 103 153 aj) (kC (kR 104 3 bA) (kC (kR 105 66 bQ) kN))))))))))))))))))))))))))))))))))))))))))))))))))))))))))))))) (fun p=>(bY.mk (aw.mk (aG.mk p.1.1 p.1.2.1 p.1.2.2.1 p.1.2.2.2.1) (gQ.mk (ag.mk p.1.2.2.2.2.1 p.1.2.2.2.2.2.1 p.1.2.2.2.2.2.2.1 p.1.2.2.2.2.2.2.2.1 (t8 p.1).1 (t8 p.1).2.1) (ag.mk (t8 p.1).2.2.1 (t8 p.1).2.2.2.1 (t8 p.1).2.2.2.2.1 (t8 p.1).2.2.2.2.2.1 (t8 p.1).2.2.2.2.2.2.1 (t8 p.1).2.2.2.2.2.2.2.1) (ag.mk (t8 (t8 p.1)).1 (t8 (t8 p.1)).2.1 (t8 (t8 p.1)).2.2.1 (t8 (t8 p.1)).2.2.2.1 (t8 (t8 p.1)).2.2.2.2.1 (t8 (t8 p.1)).2.2.2.2.2.1)) (t8 (t32 p)).2.2.2.1 (eP.mk (Device.mk (t8 (t8 p.1)).2.2.2.2.2.2.2.1 (t8 (t8 (t8 p.1))).1 (aU.mk (t8 (t8 (t8 p.1))).2.1 (t8 (t8 (t8 p.1))).2.2.1 (aH.mk (t8 (t8 (t8 p.1))).2.2.2.1 (t8 (t8 (t8 p.1))).2.2.2.2.1 (t8 (t8 (t8 p.1))).2.2.2.2.2.1 (t8 (t8 (t8 p.1))).2.2.2.2.2.2.1 (t8 (t32 p)).2.2.2.2.1 (t8 (t32 p)).2.2.2.2.2.1 (t8 (t32 p)).2.2.2.2.2.2.1))) (Device.mk (t32 p.1).2.2.1 (t32 p.1).2.2.2.1 (aU.mk (t32 p.1).2.2.2.2.1 (t32 p.1).2.2.2.2.2.1 (aH.mk (t32 p.1).2.2.2.2.2.2.1 (t32 p.1).2.2.2.2.2.2.2.1 (t8 (t32 p.1)).1 (t8 (t32 p.1)).2.1 (t8 (t32 p)).2.2.2.2.2.2.2.1 (t8 (t8 (t32 p))).1 (t8 (t8 (t32 p))).2.1))) (Device.mk (t8 (t32 p.1)).2.2.2.2.2.1 (t8 (t32 p.1)).2.2.2.2.2.2.1 (aU.mk (t8 (t32 p.1)).2.2.2.2.2.2.2.1 (t8 (t8 (t32 p.1))).1 (aH.mk (t8 (t8 (t32 p.1))).2.1 (t8 (t8 (t32 p.1))).2.2.1 (t8 (t8 (t32 p.1))).2.2.2.1 (t8 (t8 (t32 p.1))).2.2.2.2.1 (t8 (t8 (t32 p))).2.2.1 (t8 (t8 (t32 p))).2.2.2.1 (t8 (t8 (t32 p))).2.2.2.2.1))) (Device.mk (t8 (t8 (t8 (t32 p.1)))).1 (t8 (t8 (t8 (t32 p.1)))).2.1 (aU.mk (t8 (t8 (t8 (t32 p.1)))).2.2.1 (t8 (t8 (t8 (t32 p.1)))).2.2.2.1 (aH.mk (t8 (t8 (t8 (t32 p.1)))).2.2.2.2.1 (t8 (t8 (t8 (t32 p.1)))).2.2.2.2.2.1 (t8 (t8 (t8 (t32 p.1)))).2.2.2.2.2.2.1 (t8 (t8 (t8 (t32 p.1)))).2.2.2.2.2.2.2.1 (t8 (t8 (t32 p))).2.2.2.2.2.1 (t8 (t8 (t32 p))).2.2.2.2.2.2.1 (t8 (t8 (t32 p))).2.2.2.2.2.2.2.1))) (Device.mk (t32 (t32 p.1)).2.2.2.1 (t32 (t32 p.1)).2.2.2.2.1 (aU.mk (t32 (t32 p.1)).2.2.2.2.2.1 (t32 (t32 p.1)).2.2.2.2.2.2.1 (aH.mk (t32 (t32 p.1)).2.2.2.2.2.2.2.1 (t8 (t32 (t32 p.1))).1 (t8 (t32 (t32 p.1))).2.1 (t8 (t32 (t32 p.1))).2.2.1 (t8 (t8 (t8 (t32 p)))).1 (t8 (t8 (t8 (t32 p)))).2.1 (t8 (t8 (t8 (t32 p)))).2.2.1))) (Device.mk (t8 (t32 (t32 p.1))).2.2.2.2.2.2.1 (t8 (t32 (t32 p.1))).2.2.2.2.2.2.2.1 (aU.mk (t8 (t8 (t32 (t32 p.1)))).1 (t8 (t8 (t32 (t32 p.1)))).2.1 (aH.mk (t8 (t8 (t32 (t32 p.1)))).2.2.1 (t8 (t8 (t32 (t32 p.1)))).2.2.2.1 (t8 (t8 (t32 (t32 p.1)))).2.2.2.2.1 (t8 (t8 (t32 (t32 p.1)))).2.2.2.2.2.1 (t8 (t8 (t8 (t32 p)))).2.2.2.1 (t8 (t8 (t8 (t32 p)))).2.2.2.2.1 (t8 (t8 (t8 (t32 p)))).2.2.2.2.2.1)))) (t8 (t8 (t8 (t32 p)))).2.2.2.2.2.2.1 (t8 (t8 (t8 (t32 (t32 p.1))))).2.2.1) (cH.mk (t8 (t8 (t8 (t32 (t32 p.1))))).2.2.2.1 (t8 (t8 (t8 (t32 (t32 p.1))))).2.2.2.2.1 (t8 (t8 (t8 (t32 (t32 p.1))))).2.2.2.2.2.1 (t8 (t8 (t8 (t32 (t32 p.1))))).2.2.2.2.2.2.1 (t8 (t8 (t8 (t32 (t32 p.1))))).2.2.2.2.2.2.2.1 (t32 (t32 (t32 p.1))).1 (t32 (t32 (t32 p.1))).2.1))) (fun (x:bY)=>((x.d.book.af,(x.d.book.free,(x.d.book.aK,(x.d.book.bB,(x.d.aI.a0.v,(x.d.aI.a0.cB,(x.d.aI.a0.bp,(x.d.aI.a0.gone,(x.d.aI.a0.bJ,(x.d.aI.a0.binds,(x.d.aI.a1.v,(x.d.aI.a1.cB,(x.d.aI.a1.bp,(x.d.aI.a1.gone,(x.d.aI.a1.bJ,(x.d.aI.a1.binds,(x.d.aI.a2.v,(x.d.aI.a2.cB,(x.d.aI.a2.bp,(x.d.aI.a2.gone,(x.d.aI.a2.bJ,(x.d.aI.a2.binds,((),(x.d.dev.a0.aA,(x.d.dev.a0.aO,(x.d.dev.a0.aB.err,(x.d.dev.a0.aB.n,(x.d.dev.a0.aB.aE.device,(x.d.dev.a0.aB.aE.aA,(x.d.dev.a0.aB.aE.bN,(x.d.dev.a0.aB.aE.last,((),((),((),(x.d.dev.a1.aA,(x.d.dev.a1.aO,(x.d.dev.a1.aB.err,(x.d.dev.a1.aB.n,(x.d.dev.a1.aB.aE.device,(x.d.dev.a1.aB.aE.aA,(x.d.dev.a1.aB.aE.bN,(x.d.dev.a1.aB.aE.last,((),((),((),(x.d.dev.a2.aA,(x.d.dev.a2.aO,(x.d.dev.a2.aB.err,(x.d.dev.a2.aB.n,(x.d.dev.a2.aB.aE.device,(x.d.dev.a2.aB.aE.aA,(x.d.dev.a2.aB.aE.bN,(x.d.dev.a2.aB.aE.last,((),((),((),(x.d.dev.a3.aA,(x.d.dev.a3.aO,(x.d.dev.a3.aB.err,(x.d.dev.a3.aB.n,(x.d.dev.a3.aB.aE.device,(x.d.dev.a3.aB.aE.aA,(x.d.dev.a3.aB.aE.bN,(x.d.dev.a3.aB.aE.last,((),((),((),(x.d.dev.a4.aA,(x.d.dev.a4.aO,(x.d.dev.a4.aB.err,(x.d.dev.a4.aB.n,(x.d.dev.a4.aB.aE.device,(x.d.dev.a4.aB.aE.aA,(x.d.dev.a4.aB.aE.bN,(x.d.dev.a4.aB.aE.last,((),((),((),(x.d.dev.a5.aA,(x.d.dev.a5.aO,(x.d.dev.a5.aB.err,(x.d.dev.a5.aB.n,(x.d.dev.a5.aB.aE.device,(x.d.dev.a5.aB.aE.aA,(x.d.dev.a5.aB.aE.bN,(x.d.dev.a5.aB.aE.last,((),((),((),((),(x.d.now,(x.c.kind,(x.c.device,(x.c.aA,(x.c.aO,(x.c.n,(x.c.cj,(x.c.ops,())))))))))))))))))))))))))))))))))))))))))))))))))))))))))))))))))))))))))))))))))))))))))))))))))),((),((),((),((),((),((),((),((),((),((),((),((),((),((),((),((),((),((),((),((),((),((),((),((),((),((),((),((),((),((),((),((),((),((),((),((),((),((),((),((),((),((),(x.d.log,(x.d.dev.a0.aB.aE.aW,(x.d.dev.a0.aB.aE.ids,(x.d.dev.a0.aB.aE.used,(x.d.dev.a1.aB.aE.aW,(x.d.dev.a1.aB.aE.ids,(x.d.dev.a1.aB.aE.used,(x.d.dev.a2.aB.aE.aW,(x.d.dev.a2.aB.aE.ids,(x.d.dev.a2.aB.aE.used,(x.d.dev.a3.aB.aE.aW,(x.d.dev.a3.aB.aE.ids,(x.d.dev.a3.aB.aE.used,(x.d.dev.a4.aB.aE.aW,(x.d.dev.a4.aB.aE.ids,(x.d.dev.a4.aB.aE.used,(x.d.dev.a5.aB.aE.aW,(x.d.dev.a5.aB.aE.ids,(x.d.dev.a5.aB.aE.used,(x.d.lost,())))))))))))))))))))))))))))))))))))))))))))))))))))))))))))))))) (fun _=>rfl)
def FV:kT (aU×bY):=kO (kS 106 (kC (aD.xs (aD.sa vQ)) kN) aAX) (fun p=>(p.1.1,p.2)) (fun (x:aU×bY)=>((x.1,()),x.2)) (fun _=>rfl)
def Vd (p:bY):Option (aU×bY):=uG p
def FR:aM TL:=aM.one lV.dec Vd .normal FV.enc
theorem WU:fL PR 86 FR:=sM (cs:=[(129,nS),(39,jm),(133,nM)]) (ss:=[(186008,Ls)]) (E:=aX tab sl sh [(86,yL),(130,wl),(128,my)] [(129,(.rd 89 66)),(39,.keep),(133,(.rd 22 61))]) (aY base (aC (EE.ak rfl (aC (lC aDX rfl) aN)) (aC (Dw.ak rfl aN) (aC (oV.ak rfl aN) aN))) (aC (oD pE rfl) (aC (oD ki rfl) (aC (oD oz rfl) aN)))) EE.enters fun _=>by kernel_rfl
def uw (c1:bY):Option (aU×bY) :=
 cond (decide (0≤c1.c.device) && decide (c1.c.device < 6))
 (cond (cond ((cond (decide (c1.c.device=0)) c1.d.dev.a0.aA (cond (decide (c1.c.device=1)) c1.d.dev.a1.aA (cond (decide (c1.c.device=2)) c1.d.dev.a2.aA (cond (decide (c1.c.device=3)) c1.d.dev.a3.aA (cond (decide (c1.c.device=4)) c1.d.dev.a4.aA c1.d.dev.a5.aA))))) == 0) true (decide (c1.c.aA > (cond (decide (c1.c.device=0)) c1.d.dev.a0.aA (cond (decide (c1.c.device=1)) c1.d.dev.a1.aA (cond (decide (c1.c.device=2)) c1.d.dev.a2.aA (cond (decide (c1.c.device=3)) c1.d.dev.a3.aA (cond (decide (c1.c.device=4)) c1.d.dev.a4.aA c1.d.dev.a5.aA))))))))
 (ob (dx 2) fun r1 =>
 some (r1,c1))
 (cond (decide (c1.c.aA < (cond (decide (c1.c.device=0)) c1.d.dev.a0.aA (cond (decide (c1.c.device=1)) c1.d.dev.a1.aA (cond (decide (c1.c.device=2)) c1.d.dev.a2.aA (cond (decide (c1.c.device=3)) c1.d.dev.a3.aA (cond (decide (c1.c.device=4)) c1.d.dev.a4.aA c1.d.dev.a5.aA)))))))
 (ob (dx 16) fun r2 =>
 some (r2,c1))
 (ob (jo c1.d.lost c1.c.device (cond (decide (c1.c.device=0)) c1.d.dev.a0.aA (cond (decide (c1.c.device=1)) c1.d.dev.a1.aA (cond (decide (c1.c.device=2)) c1.d.dev.a2.aA (cond (decide (c1.c.device=3)) c1.d.dev.a3.aA (cond (decide (c1.c.device=4)) c1.d.dev.a4.aA c1.d.dev.a5.aA)))))) fun r0 =>
 cond (r0)
 (ob (dx 16) fun r3 =>
 some (r3,c1))
 (ob (nY c1.d.book c1.c.device c1.c.aA) fun r4 =>
 cond (!r4.2)
 (ob (dx 2) fun r5 =>
 some (r5,c1))
 (ob (jk c1.d.log c1.c.device c1.c.aA) fun r6 =>
 cond (cond (decide (c1.c.n < r6)) true (decide (c1.c.n > 1073741824)))
 (ob (dx 1) fun r7 =>
 some (r7,c1))
 (ob (pg c1.d.book (aH.mk r4.1.device r4.1.aA r4.1.bN c1.c.n r4.1.aW r4.1.ids r4.1.used)) fun r8 =>
 some ((aU.mk 0 0 (aH.mk 0 0 0 0 [] [] [])),(bY.mk (aw.mk r8.1 c1.d.aI c1.d.log c1.d.dev c1.d.lost c1.d.now) c1.c))))))))
 none
def Wx (p:bY):Option (aU×bY):=uw p
def GW:aM TL:=aM.one lV.dec Wx .normal tH.enc
theorem Wu:fL PR 87 GW:=sM (cs:=[(129,nS),(39,jm),(134,tO),(133,nM),(135,zD)]) (ss:=[]) (E:=aX tab sl sh [(87,TH),(130,wl),(128,my)] [(129,(.rd 89 66)),(39,.keep),(134,.keep),(133,(.rd 22 61)),(135,.keep)]) (aY base (aC (Tn.ak rfl aN) (aC (Dw.ak rfl aN) (aC (oV.ak rfl aN) aN))) (aC (oD pE rfl) (aC (oD ki rfl) (aC (oD yq rfl) (aC (oD oz rfl) (aC (oD GO rfl) aN)))))) Tn.enters fun _=>by kernel_rfl
abbrev rc:=Int×(List Slice)×Int×Int×aG×aG×aH
def Gx (i1:Int)(l1:List Slice)(i2:Int)(i3:Int)(bx1:aG)(bx2:aG)(lx1:aH):Option ((rc)⊕(Int×aG×aG×aH)) :=
 cond (decide (i3 < i2))
 (cond (decide (0≤i3))
 (ob (l1[i3.toNat]?) fun e0 =>
 ob (nP bx1 e0.key) fun r1 =>
 cond (decide (r1≥0))
 (cond (decide (0≤r1))
 (cond (decide (r1 < (bx1.af.length:Int)))
 (ob (bx1.af[r1.toNat]?) fun e2 =>
 cond (decide (0≤r1))
 (cond (decide (r1 < (bx1.af.length:Int)))
 (ob (bx1.af[r1.toNat]?) fun e3 =>
 cond (decide (0≤r1))
 (cond (decide (r1 < ((bx1.af.set r1.toNat (bP.mk e3.key e3.bc e3.lo e3.hi e3.start (aF (e2.bj+(aF (e0.bj - e0.dy)))) e3.cE)).length:Int)))
 (ob ((bx1.af.set r1.toNat (bP.mk e3.key e3.bc e3.lo e3.hi e3.start (aF (e2.bj+(aF (e0.bj - e0.dy)))) e3.cE))[r1.toNat]?) fun e4 =>
 cond (decide (0≤r1))
 (cond (decide (r1 < ((bx1.af.set r1.toNat (bP.mk e3.key e3.bc e3.lo e3.hi e3.start (aF (e2.bj+(aF (e0.bj - e0.dy)))) e3.cE)).length:Int)))
 (ob ((bx1.af.set r1.toNat (bP.mk e3.key e3.bc e3.lo e3.hi e3.start (aF (e2.bj+(aF (e0.bj - e0.dy)))) e3.cE))[r1.toNat]?) fun e5 =>
 some (.inl (i1,l1,i2,(aF (i3+1)),(aG.mk ((bx1.af.set r1.toNat (bP.mk e3.key e3.bc e3.lo e3.hi e3.start (aF (e2.bj+(aF (e0.bj - e0.dy)))) e3.cE)).set r1.toNat (bP.mk e5.key e5.bc e5.lo e5.hi e5.start e5.bj (aF (e4.cE+(aF (e0.cE - e0.eO)))))) bx1.free bx1.aK bx1.bB),bx2,lx1)))
 none)
 none)
 none)
 none)
 none)
 none)
 none)
 none)
 (some (.inl (i1,l1,i2,(aF (i3+1)),bx1,bx2,lx1))))
 none)
 (some (.inr (i1,bx1,bx2,lx1)))
def AY (p:rc):Option ((rc)⊕(Int×aG×aG×aH)):=Gx p.1 p.2.1 p.2.2.1 p.2.2.2.1 p.2.2.2.2.1 p.2.2.2.2.2.1 p.2.2.2.2.2.2
def Oj (i1:Int)(l1:List Slice)(i2:Int)(i3:Int)(bx1:aG)(bx2:aG)(lx1:aH):Option (Int×aG×aG×aH):=bZ AY ((i2 - i3).toNat+2) (i1,l1,i2,i3,bx1,bx2,lx1)
def aA0:kT (rc):=kO (kS 11 (kC (kP 0 0) (kC (kP 1 0) (kC kI (kC (kP 2 0) (kC (kF cD) (kC kI (kC kI kN))))))) (kC (aD.var 0 29 (kC (kA 3) (kC (kA 4) (kC (kA 5) (kC (kA 6) kN))))) (kC (aD.var 1 29 (kC (kA 7) (kC (kA 8) (kC (kA 9) (kC (kA 10) kN))))) (kC (aD.var 2 43 ku) (kC (kR 3 65 cY) (kC (kR 4 153 aj) (kC (kR 5 43 ch) (kC (kR 6 3 bA) (kC (kR 7 65 cY) (kC (kR 8 153 aj) (kC (kR 9 43 ch) (kC (kR 10 3 bA) kN)))))))))))) (fun p=>(p.1.2.2.1,p.1.2.2.2.2.1,p.1.2.2.2.2.2.1,p.1.2.2.2.2.2.2.1,(aG.mk p.2.2.2.2.1 p.2.2.2.2.2.1 p.2.2.2.2.2.2.1 p.2.2.2.2.2.2.2.1),(aG.mk p.2.2.2.2.2.2.2.2.1 (t8 p.2).1 (t8 p.2).2.1 (t8 p.2).2.2.1),p.2.2.2.1)) (fun (x:rc)=>(((),((),(x.1,((),(x.2.1,(x.2.2.1,(x.2.2.2.1,()))))))),(((),((),((),((),())))),(((),((),((),((),())))),(x.2.2.2.2.2.2,(x.2.2.2.2.1.af,(x.2.2.2.2.1.free,(x.2.2.2.2.1.aK,(x.2.2.2.2.1.bB,(x.2.2.2.2.2.1.af,(x.2.2.2.2.2.1.free,(x.2.2.2.2.2.1.aK,(x.2.2.2.2.2.1.bB,()))))))))))))) (fun _=>rfl)
def Yu:kT (Int×aG×aG×aH):=kO (kS 22 (kC (kP 0 0) (kC (kP 1 0) (kC kI (kC (kP 2 0) kN)))) (kC (aD.var 0 29 (kC (kA 3) (kC (kA 4) (kC (kA 5) (kC (kA 6) kN))))) (kC (aD.var 1 29 (kC (kA 7) (kC (kA 8) (kC (kA 9) (kC (kA 10) kN))))) (kC (aD.var 2 43 ku) (kC (kR 3 65 cY) (kC (kR 4 153 aj) (kC (kR 5 43 ch) (kC (kR 6 3 bA) (kC (kR 7 65 cY) (kC (kR 8 153 aj) (kC (kR 9 43 ch) (kC (kR 10 3 bA) kN)))))))))))) (fun p=>(p.1.2.2.1,(aG.mk p.2.2.2.2.1 p.2.2.2.2.2.1 p.2.2.2.2.2.2.1 p.2.2.2.2.2.2.2.1),(aG.mk p.2.2.2.2.2.2.2.2.1 (t8 p.2).1 (t8 p.2).2.1 (t8 p.2).2.2.1),p.2.2.2.1)) (fun (x:Int×aG×aG×aH)=>(((),((),(x.1,((),())))),(((),((),((),((),())))),(((),((),((),((),())))),(x.2.2.2,(x.2.1.af,(x.2.1.free,(x.2.1.aK,(x.2.1.bB,(x.2.2.1.af,(x.2.2.1.free,(x.2.2.1.aK,(x.2.2.1.bB,()))))))))))))) (fun _=>rfl)
def Kv:aM TL:=aM.one aA0.dec (fun p=>Oj p.1 p.2.1 p.2.2.1 p.2.2.2.1 p.2.2.2.2.1 p.2.2.2.2.2.1 p.2.2.2.2.2.2) (.exit 0) Yu.enc
theorem aCB:bM PR (bm Kv) xF NC (bV (bC mC.body) 7):=lA (cs:=[(121,tF)]) (ss:=[]) (E:=aX tab sl sh [] [(121,.pure)]) (an:=mC.an) (aY base aN (aC (oD yb rfl) aN)) AY (by kernel_rfl) (ae.du rfl rD.keys (aC (.inl (by kernel_rfl)) (aC (.inl (by kernel_rfl)) (aC (.inl (by kernel_rfl)) aN)))) rfl (fun x y h=>⟨_,h⟩) (fun _=>rfl) fun _=>by kernel_rfl
abbrev rH:=Int×(List Range)×(List Range)×Int×Int×(List Range)×Int×Int
def Fy (i1:Int)(l1:List Range)(l2:List Range)(i2:Int)(i3:Int)(l3:List Range)(i4:Int)(i5:Int):Option ((rH)⊕(Int×(List Range)×(List Range)×Int×Int×(List Range))) :=
 cond (decide (i5 < i4))
 (cond (decide (0≤i5))
 (cond (decide (i5 < (l3.length:Int)))
 (ob (l3[i5.toNat]?) fun e0 =>
 cond (decide (e0.from_ < e0.bU))
 (cond (fits ((l1++[e0]).length))
 (some (.inl (i1,(l1++[e0]),l2,i2,i3,l3,i4,(aF (i5+1)))))
 none)
 (some (.inl (i1,l1,l2,i2,i3,l3,i4,(aF (i5+1))))))
 none)
 none)
 (some (.inr (i1,l1,l2,i2,i3,l3)))
def zS (p:rH):Option ((rH)⊕(Int×(List Range)×(List Range)×Int×Int×(List Range))):=Fy p.1 p.2.1 p.2.2.1 p.2.2.2.1 p.2.2.2.2.1 p.2.2.2.2.2.1 p.2.2.2.2.2.2.1 p.2.2.2.2.2.2.2
def vo (i1:Int)(l1:List Range)(l2:List Range)(i2:Int)(i3:Int)(l3:List Range)(i4:Int)(i5:Int):Option (Int×(List Range)×(List Range)×Int×Int×(List Range)):=bZ zS ((i4 - i5).toNat+2) (i1,l1,l2,i2,i3,l3,i4,i5)
def Zv:kT (rH):=kO (kS 2 (kC kI (kC (aD.xs (aD.sc (kA 0))) (kC (kF aj) (kC kI (kC kI (kC (aD.xs (aD.sc (kA 1))) (kC kI (kC kI kN)))))))) (kC (kR 0 153 aj) (kC (kR 1 153 aj) kN))) (fun ((z0,_,z1,z2,z3,_,z4,z5,_),z6,z7,_)=>(z0,z6,z1,z2,z3,z7,z4,z5)) (fun (x:rH)=>((x.1,((),(x.2.2.1,(x.2.2.2.1,(x.2.2.2.2.1,((),(x.2.2.2.2.2.2.1,(x.2.2.2.2.2.2.2,())))))))),(x.2.1,(x.2.2.2.2.2.1,())))) (fun _=>rfl)
def Xr:kT (Int×(List Range)×(List Range)×Int×Int×(List Range)):=kO (kS 4 (kC kI (kC (aD.xs (aD.sc (kA 3))) (kC (kF aj) (kC kI (kC kI kN))))) (kC (kR 1 153 aj) (kC (kR 3 153 aj) kN))) (fun ((z0,_,z1,z2,z3,_),z4,z5,_)=>(z0,z5,z1,z2,z3,z4)) (fun (x:Int×(List Range)×(List Range)×Int×Int×(List Range))=>((x.1,((),(x.2.2.1,(x.2.2.2.1,(x.2.2.2.2.1,()))))),(x.2.2.2.2.2,(x.2.1,())))) (fun _=>rfl)
def Ah:aM TL:=aM.one Zv.dec (fun p=>vo p.1 p.2.1 p.2.2.1 p.2.2.2.1 p.2.2.2.2.1 p.2.2.2.2.2.1 p.2.2.2.2.2.2.1 p.2.2.2.2.2.2.2) (.exit 2) Xr.enc
theorem JI:bM PR (bm Ah) EB Kb (bV (bC oY.body) 11):=lA (cs:=[]) (ss:=[]) (E:=aX tab sl sh [] []) (an:=oY.an) (aY base aN aN) zS (by kernel_rfl) (ae.du rfl xW.keys (aC (.inl (by kernel_rfl)) (aC (.inl (by kernel_rfl)) aN))) rfl (fun x y h=>⟨_,h⟩) (fun _=>rfl) fun _=>by kernel_rfl
abbrev rk:=Int×(List Range)×(List Range)×Int×Int
def Gu (i1:Int)(l1:List Range)(l2:List Range)(i2:Int)(i3:Int):Option ((rk)⊕((List Range))) :=
 cond (decide (i3 < i2))
 (cond (decide (0≤i3))
 (ob (l2[i3.toNat]?) fun e0 =>
 cond (cond (decide (i1≥e0.from_)) (decide (i1 < e0.bU)) false)
 (ob (vo i1 l1 l2 i2 i3 [(Range.mk e0.from_ i1),(Range.mk (aF (i1+1)) e0.bU)] ([(Range.mk e0.from_ i1),(Range.mk (aF (i1+1)) e0.bU)].length:Int) 0) fun y1 =>
 some (.inl (y1.1,y1.2.1,y1.2.2.1,y1.2.2.2.1,(aF (y1.2.2.2.2.1+1)))))
 (ob (vo i1 l1 l2 i2 i3 [e0] ([e0].length:Int) 0) fun y2 =>
 some (.inl (y2.1,y2.2.1,y2.2.2.1,y2.2.2.2.1,(aF (y2.2.2.2.2.1+1))))))
 none)
 (some (.inr l1))
def AV (p:rk):Option ((rk)⊕((List Range))):=Gu p.1 p.2.1 p.2.2.1 p.2.2.2.1 p.2.2.2.2
def PF (i1:Int)(l1:List Range)(l2:List Range)(i2:Int)(i3:Int):Option ((List Range)):=bZ AV ((i2 - i3).toNat+2) (i1,l1,l2,i2,i3)
def aBV:kT (rk):=kO (kS 1 (kC kI (kC (aD.xs (aD.sc (kA 0))) (kC (kF aj) (kC kI (kC kI kN))))) (kC (kR 0 153 aj) kN)) (fun ((z0,_,z1,z2,z3,_),z4,_)=>(z0,z4,z1,z2,z3)) (fun (x:rk)=>((x.1,((),(x.2.2.1,(x.2.2.2.1,(x.2.2.2.2,()))))),(x.2.1,()))) (fun _=>rfl)
def Zg:kT ((List Range)):=kO (kS 2 (kC (aD.xs (aD.sc (kA 1))) kN) (kC (kR 1 153 aj) kN)) (fun p=>p.2.1) (fun (x:(List Range))=>(((),()),(x,()))) (fun _=>rfl)
def J5:aM TL:=aM.one aBV.dec (fun p=>PF p.1 p.2.1 p.2.2.1 p.2.2.2.1 p.2.2.2.2) (.exit 0) Zg.enc
theorem aAs:bM PR (bm J5) EB Mc (bV (bC oY.body) 5):=lA (cs:=[]) (ss:=[(263011,Ah)]) (E:=aX tab sl sh [] []) (an:=oY.an) (aY base aN aN) AV (by kernel_rfl) (ae.du rfl xW.keys (aC (.inl (by kernel_rfl)) (aC (.inr (lC JI rfl)) aN))) rfl (fun x y h=>⟨_,h⟩) (fun _=>rfl) fun _=>by kernel_rfl
def uT (l1:List Range)(i1:Int):Option ((List Range)×Bool) :=
 ob (pf l1 i1) fun r0 =>
 cond (!r0)
 (some ([],false))
 (ob (PF i1 [] l1 (l1.length:Int) 0) fun y1 =>
 ob (lc y1) fun y2 =>
 some (y2,true))
def WC (p:(List Range)×Int):Option ((List Range)×Bool):=uT p.1 p.2
def F7:aQ TL:=aQ.of (DA.cons (DT.one ev) (DA.one dI)) WC (DA.cons (DT.one ev) (DA.one dB))
theorem Vq:be PR 163 .keep F7:=bx (cs:=[(187,zE)]) (ss:=[(150,tX),(263005,J5),(263011,Ah)]) (E:=aX tab sl sh [(163,oY)] [(187,.pure),(150,.sum)]) (fun _=>by kernel_rfl) (aY base (aC (xW.ak rfl (aC (lC aAs rfl) (aC (lC JI rfl) aN))) aN) (aC (oD Fv rfl) (aC (eF rfl yv) aN))) (.inl rfl) xW.enters
abbrev s6:=Int×(List Range)×(List Int)×Int×Int×aG×aG
def GJ (i1:Int)(l1:List Range)(l2:List Int)(i2:Int)(i3:Int)(bx1:aG)(bx2:aG):Option ((s6)⊕(Int×(List Range)×aG×aG)) :=
 cond (decide (i3 < i2))
 (cond (decide (0≤i3))
 (ob (l2[i3.toNat]?) fun e0 =>
 ob (uT l1 e0) fun r1 =>
 ob (pM bx1.bB e0) fun r2 =>
 cond (!r2.2)
 (cond (decide (0≤r2.1))
 (cond (decide (r2.1≤(bx1.bB.length:Int)))
 (cond (fits ((((bx1.bB.take r2.1.toNat)++[e0])++((bx1.bB.take bx1.bB.length).drop r2.1.toNat)).length))
 (some (.inl (i1,(cond r1.2 r1.1 l1),l2,i2,(aF (i3+1)),(aG.mk bx1.af bx1.free bx1.aK (((bx1.bB.take r2.1.toNat)++[e0])++((bx1.bB.take bx1.bB.length).drop r2.1.toNat))),bx2)))
 none)
 none)
 none)
 (some (.inl (i1,(cond r1.2 r1.1 l1),l2,i2,(aF (i3+1)),bx1,bx2))))
 none)
 (some (.inr (i1,l1,bx1,bx2)))
def zm (p:s6):Option ((s6)⊕(Int×(List Range)×aG×aG)):=GJ p.1 p.2.1 p.2.2.1 p.2.2.2.1 p.2.2.2.2.1 p.2.2.2.2.2.1 p.2.2.2.2.2.2
def Ns (i1:Int)(l1:List Range)(l2:List Int)(i2:Int)(i3:Int)(bx1:aG)(bx2:aG):Option (Int×(List Range)×aG×aG):=bZ zm ((i2 - i3).toNat+2) (i1,l1,l2,i2,i3,bx1,bx2)
def Zu:kT (s6):=kO (kS 10 (kC (kP 0 0) (kC (kP 1 0) (kC kI (kC (kF aj) (kC (kF bA) (kC kI (kC kI kN))))))) (kC (aD.var 0 29 (kC (kA 2) (kC (kA 3) (kC (kA 4) (kC (kA 5) kN))))) (kC (aD.var 1 29 (kC (kA 6) (kC (kA 7) (kC (kA 8) (kC (kA 9) kN))))) (kC (kR 2 65 cY) (kC (kR 3 153 aj) (kC (kR 4 43 ch) (kC (kR 5 3 bA) (kC (kR 6 65 cY) (kC (kR 7 153 aj) (kC (kR 8 43 ch) (kC (kR 9 3 bA) kN))))))))))) (fun p=>(p.1.2.2.1,p.1.2.2.2.1,p.1.2.2.2.2.1,p.1.2.2.2.2.2.1,p.1.2.2.2.2.2.2.1,(aG.mk p.2.2.2.1 p.2.2.2.2.1 p.2.2.2.2.2.1 p.2.2.2.2.2.2.1),(aG.mk p.2.2.2.2.2.2.2.1 p.2.2.2.2.2.2.2.2.1 (t8 p.2).1 (t8 p.2).2.1))) (fun (x:s6)=>(((),((),(x.1,(x.2.1,(x.2.2.1,(x.2.2.2.1,(x.2.2.2.2.1,()))))))),(((),((),((),((),())))),(((),((),((),((),())))),(x.2.2.2.2.2.1.af,(x.2.2.2.2.2.1.free,(x.2.2.2.2.2.1.aK,(x.2.2.2.2.2.1.bB,(x.2.2.2.2.2.2.af,(x.2.2.2.2.2.2.free,(x.2.2.2.2.2.2.aK,(x.2.2.2.2.2.2.bB,())))))))))))) (fun _=>rfl)
def YJ:kT (Int×(List Range)×aG×aG):=kO (kS 20 (kC (kP 0 0) (kC (kP 1 0) (kC kI (kC (kF aj) kN)))) (kC (aD.var 0 29 (kC (kA 2) (kC (kA 3) (kC (kA 4) (kC (kA 19) kN))))) (kC (aD.var 1 29 (kC (kA 6) (kC (kA 7) (kC (kA 8) (kC (kA 9) kN))))) (kC (kR 2 65 cY) (kC (kR 3 153 aj) (kC (kR 4 43 ch) (kC (kR 6 65 cY) (kC (kR 7 153 aj) (kC (kR 8 43 ch) (kC (kR 9 3 bA) (kC (kR 19 3 bA) kN))))))))))) (fun p=>(p.1.2.2.1,p.1.2.2.2.1,(aG.mk p.2.2.2.1 p.2.2.2.2.1 p.2.2.2.2.2.1 (t8 p.2).2.1),(aG.mk p.2.2.2.2.2.2.1 p.2.2.2.2.2.2.2.1 p.2.2.2.2.2.2.2.2.1 (t8 p.2).1))) (fun (x:Int×(List Range)×aG×aG)=>(((),((),(x.1,(x.2.1,())))),(((),((),((),((),())))),(((),((),((),((),())))),(x.2.2.1.af,(x.2.2.1.free,(x.2.2.1.aK,(x.2.2.2.af,(x.2.2.2.free,(x.2.2.2.aK,(x.2.2.2.bB,(x.2.2.1.bB,())))))))))))) (fun _=>rfl)
def Il:aM TL:=aM.one Zu.dec (fun p=>Ns p.1 p.2.1 p.2.2.1 p.2.2.2.1 p.2.2.2.2.1 p.2.2.2.2.2.1 p.2.2.2.2.2.2) (.exit 2) YJ.enc
theorem Zq:bM PR (bm Il) xF Ky (bV (bC mC.body) 16):=lA (cs:=[(163,F7),(164,yl)]) (ss:=[]) (E:=aX tab sl sh [] [(163,.keep),(164,.pure),(165,(.ins 3))]) (an:=mC.an) (aY base aN (aC (oD Vq rfl) (aC (oD Fb rfl) (aC (mH Nb) aN)))) zm (by kernel_rfl) (ae.du rfl rD.keys (aC (.inl (by kernel_rfl)) (aC (.inl (by kernel_rfl)) (aC (.inl (by kernel_rfl)) aN)))) rfl (fun x y h=>⟨_,h⟩) (fun _=>rfl) fun _=>by kernel_rfl
abbrev sZ:=Int×(List Range)×Int×Int×aG×aG
def GF (i1:Int)(l1:List Range)(i2:Int)(i3:Int)(bx1:aG)(bx2:aG):Option ((sZ)⊕(Int×aG×aG)) :=
 cond (decide (i3 < i2))
 (cond (decide (0≤i3))
 (ob (l1[i3.toNat]?) fun e0 =>
 ob (n7 bx1.free e0) fun r1 =>
 some (.inl (i1,l1,i2,(aF (i3+1)),(aG.mk bx1.af r1 bx1.aK bx1.bB),bx2)))
 none)
 (some (.inr (i1,bx1,bx2)))
def zb (p:sZ):Option ((sZ)⊕(Int×aG×aG)):=GF p.1 p.2.1 p.2.2.1 p.2.2.2.1 p.2.2.2.2.1 p.2.2.2.2.2
def Nm (i1:Int)(l1:List Range)(i2:Int)(i3:Int)(bx1:aG)(bx2:aG):Option (Int×aG×aG):=bZ zb ((i2 - i3).toNat+2) (i1,l1,i2,i3,bx1,bx2)
def ZX:kT (sZ):=kO (kS 8 (kC (kP 0 0) (kC (kP 1 0) (kC kI (kC (kF aj) (kC kI (kC kI kN)))))) (kC (aD.var 0 29 (kC (kA 2) (kC (kG aj) (kC (kA 3) (kC (kA 4) kN))))) (kC (aD.var 1 29 (kC (kA 5) (kC (kG aj) (kC (kA 6) (kC (kA 7) kN))))) (kC (kR 2 65 cY) (kC (kR 3 43 ch) (kC (kR 4 3 bA) (kC (kR 5 65 cY) (kC (kR 6 43 ch) (kC (kR 7 3 bA) kN))))))))) (fun ((_,_,z0,z1,z2,z3,_),(_,z4,_),(_,z5,_),z6,z7,z8,z9,z10,z11,_)=>(z0,z1,z2,z3,(aG.mk z6 z4 z7 z8),(aG.mk z9 z5 z10 z11))) (fun (x:sZ)=>(((),((),(x.1,(x.2.1,(x.2.2.1,(x.2.2.2.1,())))))),(((),(x.2.2.2.2.1.free,((),((),())))),(((),(x.2.2.2.2.2.free,((),((),())))),(x.2.2.2.2.1.af,(x.2.2.2.2.1.aK,(x.2.2.2.2.1.bB,(x.2.2.2.2.2.af,(x.2.2.2.2.2.aK,(x.2.2.2.2.2.bB,())))))))))) (fun _=>rfl)
def Yd:kT (Int×aG×aG):=kO (kS 16 (kC (kP 0 0) (kC (kP 1 0) (kC kI kN))) (kC (aD.var 0 29 (kC (kA 2) (kC (kG aj) (kC (kA 3) (kC (kA 4) kN))))) (kC (aD.var 1 29 (kC (kA 5) (kC (kG aj) (kC (kA 6) (kC (kA 7) kN))))) (kC (kR 2 65 cY) (kC (kR 3 43 ch) (kC (kR 4 3 bA) (kC (kR 5 65 cY) (kC (kR 6 43 ch) (kC (kR 7 3 bA) kN))))))))) (fun ((_,_,z0,_),(_,z1,_),(_,z2,_),z3,z4,z5,z6,z7,z8,_)=>(z0,(aG.mk z3 z1 z4 z5),(aG.mk z6 z2 z7 z8))) (fun (x:Int×aG×aG)=>(((),((),(x.1,()))),(((),(x.2.1.free,((),((),())))),(((),(x.2.2.free,((),((),())))),(x.2.1.af,(x.2.1.aK,(x.2.1.bB,(x.2.2.af,(x.2.2.aK,(x.2.2.bB,())))))))))) (fun _=>rfl)
def IE:aM TL:=aM.one ZX.dec (fun p=>Nm p.1 p.2.1 p.2.2.1 p.2.2.2.1 p.2.2.2.2.1 p.2.2.2.2.2) (.exit 4) Yd.enc
theorem ZW:bM PR (bm IE) xF Ke (bV (bC mC.body) 26):=lA (cs:=[(123,ta)]) (ss:=[]) (E:=aX tab sl sh [] [(123,.keep)]) (an:=mC.an) (aY base aN (aC (oD yx rfl) aN)) zb (by kernel_rfl) (ae.du rfl rD.keys (aC (.inl (by kernel_rfl)) (aC (.inl (by kernel_rfl)) (aC (.inl (by kernel_rfl)) aN)))) rfl (fun x y h=>⟨_,h⟩) (fun _=>rfl) fun _=>by kernel_rfl
end
end Go.Proofs.YtcjpeijiaojeiaaGreat
