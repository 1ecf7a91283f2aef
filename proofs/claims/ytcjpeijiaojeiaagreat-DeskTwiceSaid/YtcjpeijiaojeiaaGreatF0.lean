/- By program (gen.py): the functions in their typed form. -/
import Derived.Test.YtcjpeijiaojeiaaGreatFn
import Derived.Test.YtcjpeijiaojeiaaGreatHa
import Derived.Test.YtcjpeijiaojeiaaGreatLb
namespace Go.Proofs.YtcjpeijiaojeiaaGreat
open Go Go.Ev
set_option maxRecDepth 1000000
noncomputable section
abbrev cL:=List (Nat×aV TL)
abbrev sL:=List (Nat×aT TL)
def cZ:cL:=[]
def sZ:sL:=[]
abbrev kI:aE (X TL) Int:=aE.xs (aE.sc (aE.im (aE.int .i64)))
abbrev kB:aE (X TL) Bool:=aE.xs (aE.sc (aE.im aE.bool))
abbrev kE:aE (C TL) ByteArray:=aE.im aE.str
abbrev kR {T:Type}(i:Nat)(e:TypeId)(j:aE.fG TL T):=aE.bG i e j
abbrev kA (i:Nat):aE (C TL) Unit:=aE.ar i
abbrev kO {α β γ:Type}(c:aE α β)(f:β→γ)(g:γ→β)(h:∀ b,g (f b)=b):=aE.lY c f g h
abbrev kS {β γ:Type}(n:Nat)(a:aE (List (X TL)) β)(b:aE (List (Nat×En TL)) γ):=aE.cst n a b
abbrev kT:=aE (ba TL)
abbrev kF {T:Type}(j:aE.fG TL T):aE (X TL) T:=aE.xs (aE.sc (aE.im (aE.fz j)))
abbrev kG {T:Type}(j:aE.fG TL T):aE (C TL) T:=aE.im (aE.fz j)
abbrev kP (a b:Nat):aE (X TL) Unit:=aE.xs (aE.sc (aE.ptr a b))
abbrev kJ:aE (C TL) Int:=aE.im (aE.int .i64)
abbrev kC {α β γ:Type}(c:aE α β)(d:aE (List α) γ):=aE.cons c d
abbrev kN {α:Type}:aE (List α) Unit:=aE.nil
abbrev dI:DT TL Int:=DT.one (DI.int .i64)
abbrev dB:DT TL Bool:=DT.one DI.bool
def bi (cs:cL)(ss:sL)(E:Env)(f:FuncId){X Y:Type}(a:DA TL X)(u:X→Option Y)(r:DA TL Y):Prop:=∀ x,Out.run (bO cs ss) (sx E 12 20 f (a.aJ x)) r.dec=u x
theorem bj {P:Program}{cs:cL}{ss:sL}{E:Env}{f:FuncId}{kd:eL}{X Y:Type}{a:DA TL X}{u:X→Option Y}{r:DA TL Y}(h:bi cs ss E f a u r)(hE:bK P (bJ cs ss) E)(hk:kd=.keep∨kd=.pure)(hen:Enters P f):bU P f kd (aV.of a u r):=aGj hE hk hen a u r h
theorem lC {P:Program}{nt:Nat}{q:bn}{b:Code}{d:aT TL}{cs:cL}{ss:sL}(h:bZ P (bx d) nt q b)(hd:iy ss q.gh=some d):bZ P (bJ cs ss) nt q b:=bZ.cast h hd
theorem oD {P:Program}{cs:cL}{ss:sL}{f:Nat}{k:eL}{d:aV TL}(h:bU P f k d)(hd:iy cs f=some d):m6 P cs ss (f,k):=okD hd h
theorem aN {α:Type}{p:α→Prop}:∀ x∈([]:List α),p x:=all_nil
theorem aC {α:Type}{p:α→Prop}{a:α}{l:List α}(h:p a)(t:∀ x∈l,p x):∀ x∈a::l,p x:=all_cons h t
abbrev PR:=Tryz.prog
def aI.cW (c:Bool)(a b:aI):aI:=aI.mk (cond c a.device b.device) (cond c a.aB b.aB) (cond c a.bC b.bC) (cond c a.last b.last) (cond c a.aX b.aX) (cond c a.ids b.ids) (cond c a.used b.used)
def ah.cW (c:Bool)(a b:ah):ah:=ah.mk (cond c a.v b.v) (cond c a.be b.be) (cond c a.bY b.bY) (cond c a.gone b.gone) (cond c a.bc b.bc) (cond c a.binds b.binds)
def aO.cW (c:Bool)(a b:aO):aO:=aO.mk (cond c a.err b.err) (cond c a.n b.n) (aI.cW c a.aD b.aD)
def lf (ex1:aL):Option fE :=
 some (fE.mk ex1.device ex1.aB)
def IV (p:aL):Option fE:=lf p
def uC:aV TL:=aV.of (DA.one (DT.agg fu)) IV (DA.one (DT.agg lM))
theorem Yb:bi [] [] (aY tab sl sh [(234,TU)] []) 234 (DA.one (DT.agg fu)) IV (DA.one (DT.agg lM)):=fun _=>by kernel_rfl
theorem zw:bU PR 234 .pure uC:=bj Yb (aZ base (aC (Rw.ae rfl aN) aN) aN) (.inr rfl) Rw.enters
def l7 (i1:Int):Option Bool :=
 some (i1 != i1)
def Gf (p:Int):Option Bool:=l7 p
def zL:aV TL:=aV.of (DA.one dI) Gf (DA.one dB)
theorem XB:bi [] [] (aY tab sl sh [(226,Ri)] []) 226 (DA.one dI) Gf (DA.one dB):=fun _=>by kernel_rfl
theorem Gc:bU PR 226 .pure zL:=bj XB (aZ base (aC (UM.ae rfl aN) aN) aN) (.inr rfl) UM.enters
def iQ (i1:Int)(i2:Int):Option Int :=
 ob (l7 i1) fun r0 =>
 ob (l7 i2) fun r1 =>
 cond (r0)
 (cond (r1)
 (some 0)
 (some (-1)))
 (cond (r1)
 (some 1)
 (cond (decide (i1 < i2))
 (some (-1))
 (cond (decide (i1 > i2))
 (some 1)
 (some 0))))
def GW (p:Int×Int):Option Int:=iQ p.1 p.2
def mf:aV TL:=aV.of (DA.cons dI (DA.one dI)) GW (DA.one dI)
theorem Wx:bi [(226,zL)] [] (aY tab sl sh [(239,U7)] [(226,.pure)]) 239 (DA.cons dI (DA.one dI)) GW (DA.one dI):=fun _=>by kernel_rfl
theorem q9:bU PR 239 .pure mf:=bj Wx (aZ base (aC (U0.ae rfl aN) aN) (aC (oD Gc rfl) aN)) (.inr rfl) U0.enters
abbrev qY:=Int×Int×(List Int)×Int×Int
def Kb (i1:Int)(i2:Int)(l1:List Int)(i3:Int)(i4:Int):Option ((qY)⊕(((Int×Int)⊕(Int×Int)))) :=
 cond (decide (i4 < i3))
 (cond (decide (0≤i4))
 (ob (l1[i4.toNat]?) fun e0 =>
 cond (e0 != i2)
 (some (.inr (.inr (e0,i2))))
 (some (.inl (i1,i2,l1,i3,(aF (i4+1))))))
 none)
 (some (.inr (.inl (i1,i2))))
def vU (p:qY):Option ((qY)⊕(((Int×Int)⊕(Int×Int)))):=Kb p.1 p.2.1 p.2.2.1 p.2.2.2.1 p.2.2.2.2
def RQ (i1:Int)(i2:Int)(l1:List Int)(i3:Int)(i4:Int):Option (((Int×Int)⊕(Int×Int))):=bm vU ((i3 - i4).toNat+2) (i1,i2,l1,i3,i4)
def we:kT (qY):=kO (kS 0 (kC kI (kC kI (kC (kF au) (kC kI (kC kI kN))))) kN) (fun ((z0,z1,z2,z3,z4,_),_)=>(z0,z1,z2,z3,z4)) (fun (x:qY)=>((x.1,(x.2.1,(x.2.2.1,(x.2.2.2.1,(x.2.2.2.2,()))))),())) (fun _=>rfl)
def nC:kT (Int×Int):=kO (kS 0 (kC kI (kC kI kN)) kN) (fun p=>(p.1.1,p.1.2.1)) (fun (x:Int×Int)=>((x.1,(x.2,())),())) (fun _=>rfl)
def N5:aT TL:=aT.two we.dec (fun p=>RQ p.1 p.2.1 p.2.2.1 p.2.2.2.1 p.2.2.2.2) (.exit 0) .ret nC.aJ nC.aJ
def Ob:Env:=aY tab sl sh [] []
theorem aAu:bK PR (bJ cZ sZ) Ob:=aZ base aN aN
theorem aCW (x:qY):Out.run (bO cZ sZ) (bp Ob 12 20 ol.an CX (ag (a8 ol.body) 3) (we.aJ x)) (cj we nC nC (.exit 0) .ret)=vU x:=by kernel_rfl
theorem aDS:bZ PR (bx N5) TX CX (ag (a8 ol.body) 3) :=
  dL aAu (loops:=12) (k:=20) (an:=ol.an) (by kernel_rfl) (aR.cI rfl E9.keys (aC (.inl (by kernel_rfl)) aN)) we nC nC (.exit 0) .ret rfl rfl vU _ aCW (fun x y h=>⟨_,h⟩) (fun _=>cA.1 rfl)
def jy (l1:List Int):Option Int :=
 ob (RQ 0 0 l1 (l1.length:Int) 0) fun y0 =>
 two y0 (fun a1 =>
 some a1.2) (fun b2 =>
 some b2.1)
def Km (p:(List Int)):Option Int:=jy p
def mv:aV TL:=aV.of (DA.one (DT.one fX)) Km (DA.one dI)
theorem ZR:bi [] [(316003,N5)] (aY tab sl sh [(216,ol)] []) 216 (DA.one (DT.one fX)) Km (DA.one dI):=fun _=>by kernel_rfl
theorem qh:bU PR 216 .pure mv:=bj ZR (aZ base (aC (E9.ae rfl (aC (lC aDS rfl) aN)) aN) aN) (.inr rfl) E9.enters
def q8 (px1:fE)(px2:fE):Option Int :=
 ob (iQ px1.device px2.device) fun r0 =>
 ob (iQ px1.aB px2.aB) fun r1 =>
 ob (jy [r0,r1]) fun r2 =>
 some r2
def Fm (p:fE×fE):Option Int:=q8 p.1 p.2
def zE:aV TL:=aV.of (DA.cons (DT.agg lM) (DA.one (DT.agg lM))) Fm (DA.one dI)
theorem WX:bi [(239,mf),(216,mv)] [] (aY tab sl sh [(259,SA)] [(239,.pure),(216,.pure)]) 259 (DA.cons (DT.agg lM) (DA.one (DT.agg lM))) Fm (DA.one dI):=fun _=>by kernel_rfl
theorem Fo:bU PR 259 .pure zE:=bj WX (aZ base (aC (Sd.ae rfl aN) aN) (aC (oD q9 rfl) (aC (oD qh rfl) aN))) (.inr rfl) Sd.enters
abbrev jU:=(List aL)×Int×fE
def JJ (l1:List aL)(i1:Int)(px1:fE):Option ((jU)⊕(jU)) :=
 cond (decide (i1 < (l1.length:Int)))
 (cond (decide (0≤i1))
 (ob (l1[i1.toNat]?) fun e0 =>
 ob (lf e0) fun r1 =>
 ob (q8 r1 px1) fun r2 =>
 cond (decide (r2 < 0))
 (some (.inl (l1,(aF (i1+1)),px1)))
 (some (.inr (l1,i1,px1))))
 none)
 (some (.inr (l1,i1,px1)))
def v8 (p:jU):Option ((jU)⊕(jU)):=JJ p.1 p.2.1 p.2.2
def Qy (l1:List aL)(i1:Int)(px1:fE):Option jU:=bm v8 (((l1.length:Int) - i1).toNat+2) (l1,i1,px1)
def w5:kT (jU):=kO (kS 1 (kC (kF bL) (kC (aE.xs (aE.sc (aE.dK 258 [] [(0,0)]))) (kC kI kN))) (kC (aE.var 0 274 (kC kJ (kC kJ kN))) kN)) (fun p=>(p.1.1,p.1.2.2.1,(fE.mk p.2.1.1 p.2.1.2.1))) (fun (x:jU)=>((x.1,((),(x.2.1,()))),((x.2.2.device,(x.2.2.aB,())),()))) (fun _=>rfl)
def BX:kT (jU):=kO (kS 2 (kC (kF bL) (kC (aE.xs (aE.sc (aE.dK 258 [] [(0,0)]))) (kC kI kN))) (kC (aE.var 0 274 (kC kJ (kC kJ kN))) kN)) (fun p=>(p.1.1,p.1.2.2.1,(fE.mk p.2.1.1 p.2.1.2.1))) (fun (x:jU)=>((x.1,((),(x.2.1,()))),((x.2.2.device,(x.2.2.aB,())),()))) (fun _=>rfl)
def MY:aT TL:=aT.one w5.dec (fun p=>Qy p.1 p.2.1 p.2.2) (.exit 0) BX.aJ
def Li:cL:=[(234,uC),(259,zE)]
def Pn:Env:=aY tab sl sh [(258,FC)] [(234,.pure),(259,.pure)]
theorem aAM:bK PR (bJ Li sZ) Pn:=aZ base (aC (Ua.ae rfl aN) aN) (aC (oD zw rfl) (aC (oD Fo rfl) aN))
theorem aCx (x:jU):Out.run (bO Li sZ) (bp Pn 12 20 o6.an C0 (ag (a8 o6.body) 2) (w5.aJ x)) (back w5 BX fun e=>ck e (.exit 0))=v8 x:=by kernel_rfl
theorem aDy:bZ PR (bx MY) UZ C0 (ag (a8 o6.body) 2) :=
  dd aAM (loops:=12) (k:=20) (an:=o6.an) (by kernel_rfl) (aR.cI rfl UU.keys (aC (.inl (by kernel_rfl)) aN)) w5 BX (.exit 0) rfl v8 _ aCx (fun x y h=>⟨_,h⟩) (fun _=>cA.1 rfl)
def ru (l1:List aL)(px1:fE):Option (Int×Bool) :=
 ob (Qy l1 0 px1) fun y0 =>
 cond (decide (y0.2.1 < (y0.1.length:Int)))
 (cond (decide (0≤y0.2.1))
 (ob (y0.1[y0.2.1.toNat]?) fun e1 =>
 ob (lf e1) fun r2 =>
 ob (q8 r2 y0.2.2) fun r3 =>
 some (y0.2.1,(r3 == 0)))
 none)
 (some (y0.2.1,false))
def IG (p:(List aL)×fE):Option (Int×Bool):=ru p.1 p.2
def AC:aV TL:=aV.of (DA.cons (DT.one dP) (DA.one (DT.agg lM))) IG (DA.cons dI (DA.one dB))
theorem YT:bi [(234,uC),(259,zE)] [(357002,MY)] (aY tab sl sh [(233,S0),(257,o6),(258,FC)] [(234,.pure),(259,.pure)]) 233 (DA.cons (DT.one dP) (DA.one (DT.agg lM))) IG (DA.cons dI (DA.one dB)):=fun _=>by kernel_rfl
theorem IA:bU PR 233 .pure AC:=bj YT (aZ base (aC (TV.ae rfl aN) (aC (UU.ae rfl (aC (lC aDy rfl) aN)) (aC (Ua.ae rfl aN) aN))) (aC (oD zw rfl) (aC (oD Fo rfl) aN))) (.inr rfl) TV.enters
abbrev qS:=(List aL)×(List aL)×Int×Int
def KG (l1:List aL)(l2:List aL)(i1:Int)(i2:Int):Option ((qS)⊕((List aL))) :=
 cond (decide (i2 < i1))
 (cond (decide (0≤i2))
 (ob (l2[i2.toNat]?) fun e0 =>
 ob (lf e0) fun r1 =>
 ob (ru l1 r1) fun r2 =>
 cond (r2.2)
 (cond (decide (0≤r2.1))
 (cond (decide (r2.1 < (l1.length:Int)))
 (ob (l1[r2.1.toNat]?) fun e3 =>
 cond (decide (0≤r2.1))
 (cond (decide (r2.1 < (l1.length:Int)))
 (ob (l1[r2.1.toNat]?) fun e4 =>
 some (.inl ((l1.set r2.1.toNat (aL.mk e4.device e4.aB (max2 e3.seq e0.seq))),l2,i1,(aF (i2+1)))))
 none)
 none)
 none)
 none)
 (cond (fits ((l1++[(aL.mk 0 0 0)]).length))
 (cond (decide (0≤(aF (r2.1+1))))
 (cond (decide ((aF (r2.1+1))≤((l1++[(aL.mk 0 0 0)]).length:Int)))
 (cond (decide (((l1++[(aL.mk 0 0 0)]).length:Int)≤((l1++[(aL.mk 0 0 0)]).length:Int)))
 (cond (decide (0≤r2.1))
 (cond (decide (r2.1≤((l1++[(aL.mk 0 0 0)]).length:Int)))
 (cond (decide (((l1++[(aL.mk 0 0 0)]).length:Int)≤((l1++[(aL.mk 0 0 0)]).length:Int)))
 (cond (decide (0≤r2.1))
 (cond (decide (r2.1 < (((((l1++[(aL.mk 0 0 0)]).take (((aF (r2.1+1))).toNat))++((((l1++[(aL.mk 0 0 0)]).take ((((l1++[(aL.mk 0 0 0)]).length:Int)).toNat)).drop r2.1.toNat).take (Nat.min ((((l1++[(aL.mk 0 0 0)]).take ((((l1++[(aL.mk 0 0 0)]).length:Int)).toNat)).drop r2.1.toNat).length) ((((l1++[(aL.mk 0 0 0)]).length:Int)).toNat - ((aF (r2.1+1))).toNat))))++(((l1++[(aL.mk 0 0 0)]).take ((l1++[(aL.mk 0 0 0)]).length)).drop (((aF (r2.1+1))).toNat+(Nat.min ((((l1++[(aL.mk 0 0 0)]).take ((((l1++[(aL.mk 0 0 0)]).length:Int)).toNat)).drop r2.1.toNat).length) ((((l1++[(aL.mk 0 0 0)]).length:Int)).toNat - ((aF (r2.1+1))).toNat))))).length:Int)))
 (ob (((((l1++[(aL.mk 0 0 0)]).take (((aF (r2.1+1))).toNat))++((((l1++[(aL.mk 0 0 0)]).take ((((l1++[(aL.mk 0 0 0)]).length:Int)).toNat)).drop r2.1.toNat).take (Nat.min ((((l1++[(aL.mk 0 0 0)]).take ((((l1++[(aL.mk 0 0 0)]).length:Int)).toNat)).drop r2.1.toNat).length) ((((l1++[(aL.mk 0 0 0)]).length:Int)).toNat - ((aF (r2.1+1))).toNat))))++(((l1++[(aL.mk 0 0 0)]).take ((l1++[(aL.mk 0 0 0)]).length)).drop (((aF (r2.1+1))).toNat+(Nat.min ((((l1++[(aL.mk 0 0 0)]).take ((((l1++[(aL.mk 0 0 0)]).length:Int)).toNat)).drop r2.1.toNat).length) ((((l1++[(aL.mk 0 0 0)]).length:Int)).toNat - ((aF (r2.1+1))).toNat)))))[r2.1.toNat]?) fun _ =>
 some (.inl ((((((l1++[(aL.mk 0 0 0)]).take (((aF (r2.1+1))).toNat))++((((l1++[(aL.mk 0 0 0)]).take ((((l1++[(aL.mk 0 0 0)]).length:Int)).toNat)).drop r2.1.toNat).take (Nat.min ((((l1++[(aL.mk 0 0 0)]).take ((((l1++[(aL.mk 0 0 0)]).length:Int)).toNat)).drop r2.1.toNat).length) ((((l1++[(aL.mk 0 0 0)]).length:Int)).toNat - ((aF (r2.1+1))).toNat))))++(((l1++[(aL.mk 0 0 0)]).take ((l1++[(aL.mk 0 0 0)]).length)).drop (((aF (r2.1+1))).toNat+(Nat.min ((((l1++[(aL.mk 0 0 0)]).take ((((l1++[(aL.mk 0 0 0)]).length:Int)).toNat)).drop r2.1.toNat).length) ((((l1++[(aL.mk 0 0 0)]).length:Int)).toNat - ((aF (r2.1+1))).toNat))))).set r2.1.toNat e0),l2,i1,(aF (i2+1)))))
 none)
 none)
 none)
 none)
 none)
 none)
 none)
 none)
 none))
 none)
 (some (.inr l1))
def ur (p:qS):Option ((qS)⊕((List aL))):=KG p.1 p.2.1 p.2.2.1 p.2.2.2
def RB (l1:List aL)(l2:List aL)(i1:Int)(i2:Int):Option ((List aL)):=bm ur ((i1 - i2).toNat+2) (l1,l2,i1,i2)
def vj:kT (qS):=kO (kS 1 (kC (aE.xs (aE.sc (kA 0))) (kC (kF bL) (kC kI (kC kI kN)))) (kC (kR 0 66 bL) kN)) (fun p=>(p.2.1,p.1.2.1,p.1.2.2.1,p.1.2.2.2.1)) (fun (x:qS)=>(((),(x.2.1,(x.2.2.1,(x.2.2.2,())))),(x.1,()))) (fun _=>rfl)
def As:kT ((List aL)):=kO (kS 2 (kC (aE.xs (aE.sc (kA 1))) kN) (kC (kR 1 66 bL) kN)) (fun p=>p.2.1) (fun (x:(List aL))=>(((),()),(x,()))) (fun _=>rfl)
def MR:aT TL:=aT.one vj.dec (fun p=>RB p.1 p.2.1 p.2.2.1 p.2.2.2) (.exit 0) As.aJ
def Ly:cL:=[(234,uC),(233,AC)]
def P4:Env:=aY tab sl sh [] [(234,.pure),(233,.pure)]
theorem aAv:bK PR (bJ Ly sZ) P4:=aZ base aN (aC (oD zw rfl) (aC (oD IA rfl) aN))
theorem aBi (x:qS):Out.run (bO Ly sZ) (bp P4 12 20 o8.an C3 (ag (a8 o8.body) 4) (vj.aJ x)) (back vj As fun e=>ck e (.exit 0))=ur x:=by kernel_rfl
theorem aDU:bZ PR (bx MR) Ta C3 (ag (a8 o8.body) 4) :=
  dd aAv (loops:=12) (k:=20) (an:=o8.an) (by kernel_rfl) (aR.cI rfl FO.keys (aC (.inl (by kernel_rfl)) aN)) vj As (.exit 0) rfl ur _ aBi (fun x y h=>⟨_,h⟩) (fun _=>cA.1 rfl)
def laid (l1:List aL)(l2:List aL):Option ((List aL)) :=
 cond (decide (0≤(l1.length:Int)))
 (cond (decide ((l1.length:Int)≤(aF ((l1.length:Int)+(l2.length:Int)))))
 (cond (fits (((aF ((l1.length:Int)+(l2.length:Int)))).toNat))
 (ob (RB ((l1.take (Nat.min l1.length ((List.replicate (((l1.length:Int)).toNat) (aL.mk 0 0 0)).length)))++(((List.replicate (((l1.length:Int)).toNat) (aL.mk 0 0 0)).take ((List.replicate (((l1.length:Int)).toNat) (aL.mk 0 0 0)).length)).drop (Nat.min l1.length ((List.replicate (((l1.length:Int)).toNat) (aL.mk 0 0 0)).length)))) l2 (l2.length:Int) 0) fun y0 =>
 cond (fits (([]++y0).length))
 (some ([]++y0))
 none)
 none)
 none)
 none
def DS (p:(List aL)×(List aL)):Option ((List aL)):=laid p.1 p.2
def Pp:aV TL:=⟨(List aL)×(List aL),(List aL),(DA.cons (DT.one dP) (DA.one (DT.one dP)):DA TL ((List aL)×(List aL))).dec,DS,fun l=>[.c (.im (.fz (bL.put l)))]⟩
def Q9:sL:=[(309004,MR)]
def Og:Env:=aY tab sl sh [(209,o8)] []
theorem aAp:bK PR (bJ cZ Q9) Og:=aZ base (aC (FO.ae rfl (aC (lC aDU rfl) aN)) aN) aN
theorem aFY (x:(List aL)×(List aL)):Out.run (bO cZ Q9) (s6 Og 12 20 209 66 ((DA.cons (DT.one dP) (DA.one (DT.one dP)):DA TL ((List aL)×(List aL))).aJ x)) bL.un=DS x:=by kernel_rfl
theorem aHK:bU PR 209 (.fresh 66) Pp:=aFx aAp (loops:=12) (n:=20) FO.enters (DA.cons (DT.one dP) (DA.one (DT.one dP))) DS bL aFY
def gT (lx1:aI):Option aI :=
 cond (fits lx1.aX.length)
 (cond (fits lx1.ids.length)
 (cond (fits lx1.used.length)
 (some lx1)
 none)
 none)
 none
def lm:aE (List (C TL)) aI:=kO (kC kJ (kC kJ (kC kJ (kC kJ (kC (kG bh) (kC (kG aa) (kC (kG au) kN))))))) (fun (z0,z1,z2,z3,z4,z5,z6,_)=>(aI.mk z0 z1 z2 z3 z4 z5 z6)) (fun (x:aI)=>(x.device,(x.aB,(x.bC,(x.last,(x.aX,(x.ids,(x.used,())))))))) (fun _=>rfl)
def jr:kT (aI):=kO (kS 0 (kC (aE.xs (aE.sa lm)) kN) kN) (fun p=>p.1.1) (fun (x:aI)=>((x,()),())) (fun _=>rfl)
def jp:kT (aI):=kO (kS 3 (kC (aE.xs (aE.sa (kC kJ (kC kJ (kC kJ (kC kJ (kC (kA 0) (kC (kA 1) (kC (kA 2) kN))))))))) kN) (kC (kR 0 133 bh) (kC (kR 1 153 aa) (kC (kR 2 3 au) kN)))) (fun (((z0,z1,z2,z3,_),_),z4,z5,z6,_)=>(aI.mk z0 z1 z2 z3 z4 z5 z6)) (fun (x:aI)=>(((x.device,(x.aB,(x.bC,(x.last,((),((),((),()))))))),()),(x.aX,(x.ids,(x.used,()))))) (fun _=>rfl)
def zp (p:aI):Option aI:=gT p
def uJ:aT TL:=aT.one jr.dec zp .normal jp.aJ
def HP:Env:=aY tab sl sh [(41,VQ)] [(91,(.dZ 133)),(92,(.dZ 153)),(93,(.dZ 3))]
theorem XI:bK PR (bJ cZ sZ) HP:=aZ base (aC (VA.ae rfl aN) aN) (aC (dx R5) (aC (dx yI) (aC (dx yL) aN)))
theorem YS (x:aI):Out.run (bO cZ sZ) (eZ HP 12 20 41 (jr.aJ x)) (ef jp)=zp x:=by kernel_rfl
theorem zi:ez PR 41 uJ:=fW XI (loops:=12) (n:=20) VA.enters jr jp zp YS
def Lg (i1:Int)(i2:Int)(bx1:aG)(bx2:aG):Option ((Int×Int×aG×aG)⊕(aG×aG)) :=
 cond (decide (i2 < i1))
 (cond (decide (0≤i2))
 (cond (decide (i2 < (bx1.aP.length:Int)))
 (ob (bx1.aP[i2.toNat]?) fun e0 =>
 ob (gT e0) fun y1 =>
 cond (decide (0≤i2))
 (cond (decide (i2 < (bx1.aP.length:Int)))
 (ob (bx1.aP[i2.toNat]?) fun _ =>
 some (.inl (i1,(aF (i2+1)),(aG.mk bx1.ak bx1.free (bx1.aP.set i2.toNat y1) bx1.bF),bx2)))
 none)
 none)
 none)
 none)
 (some (.inr (bx1,bx2)))
def wI (p:Int×Int×aG×aG):Option ((Int×Int×aG×aG)⊕(aG×aG)):=Lg p.1 p.2.1 p.2.2.1 p.2.2.2
def SS (i1:Int)(i2:Int)(bx1:aG)(bx2:aG):Option (aG×aG):=bm wI ((i1 - i2).toNat+2) (i1,i2,bx1,bx2)
def kz:kT (Int×Int×aG×aG):=kO (kS 10 (kC (kP 0 0) (kC (kP 1 0) (kC (aE.xs (aE.sc (kA 2))) (kC kI (kC kI kN))))) (kC (aE.var 0 29 (kC (kA 3) (kC (kA 4) (kC (kA 2) (kC (kA 5) kN))))) (kC (aE.var 1 29 (kC (kA 6) (kC (kA 7) (kC (kA 8) (kC (kA 9) kN))))) (kC (kR 2 43 cS) (kC (kR 3 65 cQ) (kC (kR 4 153 aa) (kC (kR 5 3 au) (kC (kR 6 65 cQ) (kC (kR 7 153 aa) (kC (kR 8 43 cS) (kC (kR 9 3 au) kN))))))))))) (fun p=>(p.1.2.2.2.1,p.1.2.2.2.2.1,(aG.mk p.2.2.2.2.1 p.2.2.2.2.2.1 p.2.2.2.1 p.2.2.2.2.2.2.1),(aG.mk p.2.2.2.2.2.2.2.1 p.2.2.2.2.2.2.2.2.1 (t8 p.2).1 (t8 p.2).2.1))) (fun (x:Int×Int×aG×aG)=>(((),((),((),(x.1,(x.2.1,()))))),(((),((),((),((),())))),(((),((),((),((),())))),(x.2.2.1.aP,(x.2.2.1.ak,(x.2.2.1.free,(x.2.2.1.bF,(x.2.2.2.ak,(x.2.2.2.free,(x.2.2.2.aP,(x.2.2.2.bF,())))))))))))) (fun _=>rfl)
def nO:kT (aG×aG):=kO (kS 20 (kC (kP 0 0) (kC (kP 1 0) kN)) (kC (aE.var 0 29 (kC (kA 3) (kC (kA 4) (kC (kA 2) (kC (kA 5) kN))))) (kC (aE.var 1 29 (kC (kA 6) (kC (kA 7) (kC (kA 8) (kC (kA 9) kN))))) (kC (kR 2 43 cS) (kC (kR 3 65 cQ) (kC (kR 4 153 aa) (kC (kR 5 3 au) (kC (kR 6 65 cQ) (kC (kR 7 153 aa) (kC (kR 8 43 cS) (kC (kR 9 3 au) kN))))))))))) (fun p=>((aG.mk p.2.2.2.2.1 p.2.2.2.2.2.1 p.2.2.2.1 p.2.2.2.2.2.2.1),(aG.mk p.2.2.2.2.2.2.2.1 p.2.2.2.2.2.2.2.2.1 (t8 p.2).1 (t8 p.2).2.1))) (fun (x:aG×aG)=>(((),((),())),(((),((),((),((),())))),(((),((),((),((),())))),(x.1.aP,(x.1.ak,(x.1.free,(x.1.bF,(x.2.ak,(x.2.free,(x.2.aP,(x.2.bF,())))))))))))) (fun _=>rfl)
def OE:aT TL:=aT.one kz.dec (fun p=>SS p.1 p.2.1 p.2.2.1 p.2.2.2) (.exit 0) nO.aJ
def Mx:sL:=[(41,uJ)]
def QK:Env:=aY tab sl sh [] [(41,.sum)]
theorem aCV:bK PR (bJ cZ Mx) QK:=aZ base aN (aC (dj rfl zi) aN)
theorem aDY (x:Int×Int×aG×aG):Out.run (bO cZ Mx) (bp QK 12 20 pV.an DY (ag (a8 pV.body) 3) (kz.aJ x)) (back kz nO fun e=>ck e (.exit 0))=wI x:=by kernel_rfl
theorem aFb:bZ PR (bx OE) Vt DY (ag (a8 pV.body) 3) :=
  dd aCV (loops:=12) (k:=20) (an:=pV.an) (by kernel_rfl) (aR.cI rfl FY.keys (aC (.inl (by kernel_rfl)) aN)) kz nO (.exit 0) rfl wI _ aDY (fun x y h=>⟨_,h⟩) (fun _=>cA.1 rfl)
def xH (bx1:aG):Option aG :=
 cond (fits bx1.ak.length)
 (cond (fits bx1.free.length)
 (cond (fits bx1.aP.length)
 (cond (fits bx1.bF.length)
 (ob (SS (bx1.aP.length:Int) 0 bx1 (aG.mk [] [] [] [])) fun y0 =>
 some y0.1)
 none)
 none)
 none)
 none
def mK:aE (List (C TL)) aG:=kO (kC (kG cQ) (kC (kG aa) (kC (kG cS) (kC (kG au) kN)))) (fun p=>(aG.mk p.1 p.2.1 p.2.2.1 p.2.2.2.1)) (fun (x:aG)=>(x.ak,(x.free,(x.aP,(x.bF,()))))) (fun _=>rfl)
def mw:kT (aG):=kO (kS 0 (kC (aE.xs (aE.sa mK)) kN) kN) (fun p=>p.1.1) (fun (x:aG)=>((x,()),())) (fun _=>rfl)
def mu:kT (aG):=kO (kS 4 (kC (aE.xs (aE.sa (kC (kA 0) (kC (kA 1) (kC (kA 2) (kC (kA 3) kN)))))) kN) (kC (kR 0 65 cQ) (kC (kR 1 153 aa) (kC (kR 2 43 cS) (kC (kR 3 3 au) kN))))) (fun (_,z0,z1,z2,z3,_)=>(aG.mk z0 z1 z2 z3)) (fun (x:aG)=>((((),((),((),((),())))),()),(x.ak,(x.free,(x.aP,(x.bF,())))))) (fun _=>rfl)
def Aj (p:aG):Option aG:=xH p
def K5:aT TL:=aT.one mw.dec Aj .normal mu.aJ
def Ji:sL:=[(177003,OE)]
def I0:Env:=aY tab sl sh [(77,pV)] [(126,(.dZ 65)),(92,(.dZ 153)),(127,(.dZ 43)),(93,(.dZ 3))]
theorem XS:bK PR (bJ cZ Ji) I0:=aZ base (aC (FY.ae rfl (aC (lC aFb rfl) aN)) aN) (aC (dx QF) (aC (dx yI) (aC (dx QB) (aC (dx yL) aN))))
theorem Z8 (x:aG):Out.run (bO cZ Ji) (eZ I0 12 20 77 (mw.aJ x)) (ef mu)=Aj x:=by kernel_rfl
theorem aBQ:ez PR 77 K5:=fW XS (loops:=12) (n:=20) FY.enters mw mu Aj Z8
def LZ (l1:List Op)(i1:Int)(i2:Int):Option (((List Op)×Int×Int)⊕((List Op))) :=
 cond (decide (i2 < i1))
 (cond (decide (0≤i2))
 (cond (decide (i2 < (l1.length:Int)))
 (ob (l1[i2.toNat]?) fun e0 =>
 cond (fits e0.dG.length)
 (cond (decide (0≤i2))
 (cond (decide (i2 < (l1.length:Int)))
 (ob (l1[i2.toNat]?) fun e1 =>
 some (.inl ((l1.set i2.toNat (Op.mk e1.al e1.cC e1.cU e1.kind e1.key e1.text e1.n e1.time e0.dG)),i1,(aF (i2+1)))))
 none)
 none)
 none)
 none)
 none)
 (some (.inr l1))
def wV (p:(List Op)×Int×Int):Option (((List Op)×Int×Int)⊕((List Op))):=LZ p.1 p.2.1 p.2.2
def UX (l1:List Op)(i1:Int)(i2:Int):Option ((List Op)):=bm wV ((i1 - i2).toNat+2) (l1,i1,i2)
def xd:kT ((List Op)×Int×Int):=kO (kS 1 (kC (aE.xs (aE.sc (kA 0))) (kC (aE.xs (aE.sc (kA 0))) (kC kI (kC kI kN)))) (kC (kR 0 61 dn) kN)) (fun p=>(p.2.1,p.1.2.2.1,p.1.2.2.2.1)) (fun (x:(List Op)×Int×Int)=>(((),((),(x.2.1,(x.2.2,())))),(x.1,()))) (fun _=>rfl)
def Bh:kT ((List Op)):=kO (kS 2 (kC (aE.xs (aE.sc (kA 0))) kN) (kC (kR 0 61 dn) kN)) (fun p=>p.2.1) (fun (x:(List Op))=>(((),()),(x,()))) (fun _=>rfl)
def OU:aT TL:=aT.one xd.dec (fun p=>UX p.1 p.2.1 p.2.2) (.exit 0) Bh.aJ
def Q5:Env:=aY tab sl sh [] [(50,(.dZ 59))]
theorem aBn:bK PR (bJ cZ sZ) Q5:=aZ base aN (aC (dx EU) aN)
theorem aDp (x:(List Op)×Int×Int):Out.run (bO cZ sZ) (bp Q5 12 20 pK.an Da (ag (a8 pK.body) 3) (xd.aJ x)) (back xd Bh fun e=>ck e (.exit 0))=wV x:=by kernel_rfl
theorem aFJ:bZ PR (bx OU) Vd Da (ag (a8 pK.body) 3) :=
  dd aBn (loops:=12) (k:=20) (an:=pK.an) (by kernel_rfl) (aR.cI rfl Fb.keys (aC (.inl (by kernel_rfl)) aN)) xd Bh (.exit 0) rfl wV _ aDp (fun x y h=>⟨_,h⟩) (fun _=>cA.1 rfl)
def xj (l1:List Op):Option ((List Op)) :=
 cond (fits l1.length)
 (ob (UX l1 (l1.length:Int) 0) fun y0 =>
 some y0)
 none
def Ay:kT ((List Op)):=kO (kS 0 (kC (kF dn) kN) kN) (fun p=>p.1.1) (fun (x:(List Op))=>((x,()),())) (fun _=>rfl)
def BN:kT ((List Op)):=kO (kS 1 (kC (aE.xs (aE.sc (kA 0))) kN) (kC (kR 0 61 dn) kN)) (fun p=>p.2.1) (fun (x:(List Op))=>(((),()),(x,()))) (fun _=>rfl)
def B6 (p:(List Op)):Option ((List Op)):=xj p
def Lp:aT TL:=aT.one Ay.dec B6 .normal BN.aJ
def Lf:sL:=[(178003,OU)]
def J9:Env:=aY tab sl sh [(78,pK)] [(51,(.dZ 61))]
theorem YC:bK PR (bJ cZ Lf) J9:=aZ base (aC (Fb.ae rfl (aC (lC aFJ rfl) aN)) aN) (aC (dx aH5) aN)
theorem aAk (x:(List Op)):Out.run (bO cZ Lf) (eZ J9 12 20 78 (Ay.aJ x)) (ef BN)=B6 x:=by kernel_rfl
theorem aCQ:ez PR 78 Lp:=fW YC (loops:=12) (n:=20) Fb.enters Ay BN B6 aAk
def dm (d1:bI):Option bI :=
 ob (xH d1.book) fun y0 =>
 ob (xj d1.log) fun y1 =>
 cond (fits d1.lost.length)
 (cond (fits d1.aM.a0.v.length)
 (cond (fits d1.aM.a0.be.length)
 (cond (fits d1.aM.a0.bY.length)
 (cond (fits d1.aM.a0.gone.length)
 (cond (fits d1.aM.a0.bc.length)
 (cond (fits d1.aM.a0.binds.length)
 (cond (fits d1.aM.a1.v.length)
 (cond (fits d1.aM.a1.be.length)
 (cond (fits d1.aM.a1.bY.length)
 (cond (fits d1.aM.a1.gone.length)
 (cond (fits d1.aM.a1.bc.length)
 (cond (fits d1.aM.a1.binds.length)
 (cond (fits d1.aM.a2.v.length)
 (cond (fits d1.aM.a2.be.length)
 (cond (fits d1.aM.a2.bY.length)
 (cond (fits d1.aM.a2.gone.length)
 (cond (fits d1.aM.a2.bc.length)
 (cond (fits d1.aM.a2.binds.length)
 (ob (gT d1.dev.a0.aA.aD) fun y2 =>
 ob (gT d1.dev.a1.aA.aD) fun y3 =>
 ob (gT d1.dev.a2.aA.aD) fun y4 =>
 ob (gT d1.dev.a3.aA.aD) fun y5 =>
 ob (gT d1.dev.a4.aA.aD) fun y6 =>
 ob (gT d1.dev.a5.aA.aD) fun y7 =>
 some (bI.mk y0 d1.aM y1 (dw.mk (Device.mk d1.dev.a0.aB d1.dev.a0.aK (aO.mk d1.dev.a0.aA.err d1.dev.a0.aA.n y2)) (Device.mk d1.dev.a1.aB d1.dev.a1.aK (aO.mk d1.dev.a1.aA.err d1.dev.a1.aA.n y3)) (Device.mk d1.dev.a2.aB d1.dev.a2.aK (aO.mk d1.dev.a2.aA.err d1.dev.a2.aA.n y4)) (Device.mk d1.dev.a3.aB d1.dev.a3.aK (aO.mk d1.dev.a3.aA.err d1.dev.a3.aA.n y5)) (Device.mk d1.dev.a4.aB d1.dev.a4.aK (aO.mk d1.dev.a4.aA.err d1.dev.a4.aA.n y6)) (Device.mk d1.dev.a5.aB d1.dev.a5.aK (aO.mk d1.dev.a5.aA.err d1.dev.a5.aA.n y7))) d1.lost d1.now))
 none)
 none)
 none)
 none)
 none)
 none)
 none)
 none)
 none)
 none)
 none)
 none)
 none)
 none)
 none)
 none)
 none)
 none)
 none
def mB:aE (List (C TL)) bI:=kO (kC (kG cQ) (kC (kG aa) (kC (kG cS) (kC (kG au) (kC (kG bL) (kC (kG dC) (kC (kG cd) (kC (kG bL) (kC (kG dD) (kC (kG dA) (kC (kG bL) (kC (kG dC) (kC (kG cd) (kC (kG bL) (kC (kG dD) (kC (kG dA) (kC (kG bL) (kC (kG dC) (kC (kG cd) (kC (kG bL) (kC (kG dD) (kC (kG dA) (kC (kG dn) (kC kJ (kC kJ (kC kJ (kC kJ (kC kJ (kC kJ (kC kJ (kC kJ (kC (kG bh) (kC (kG aa) (kC (kG au) (kC kJ (kC kJ (kC kJ (kC kJ (kC kJ (kC kJ (kC kJ (kC kJ (kC (kG bh) (kC (kG aa) (kC (kG au) (kC kJ (kC kJ (kC kJ (kC kJ (kC kJ (kC kJ (kC kJ (kC kJ (kC (kG bh) (kC (kG aa) (kC (kG au) (kC kJ (kC kJ (kC kJ (kC kJ (kC kJ (kC kJ (kC kJ (kC kJ (kC (kG bh) (kC (kG aa) (kC (kG au) (kC kJ (kC kJ (kC kJ (kC kJ (kC kJ (kC kJ (kC kJ (kC kJ (kC (kG bh) (kC (kG aa) (kC (kG au) (kC kJ (kC kJ (kC kJ (kC kJ (kC kJ (kC kJ (kC kJ (kC kJ (kC (kG bh) (kC (kG aa) (kC (kG au) (kC (kG bL) (kC kJ kN))))))))))))))))))))))))))))))))))))))))))))))))))))))))))))))))))))))))))))))))))))))))))) (fun p=>(bI.mk (aG.mk p.1 p.2.1 p.2.2.1 p.2.2.2.1) (fw.mk (ah.mk p.2.2.2.2.1 p.2.2.2.2.2.1 p.2.2.2.2.2.2.1 p.2.2.2.2.2.2.2.1 (t8 p).1 (t8 p).2.1) (ah.mk (t8 p).2.2.1 (t8 p).2.2.2.1 (t8 p).2.2.2.2.1 (t8 p).2.2.2.2.2.1 (t8 p).2.2.2.2.2.2.1 (t8 p).2.2.2.2.2.2.2.1) (ah.mk (t8 (t8 p)).1 (t8 (t8 p)).2.1 (t8 (t8 p)).2.2.1 (t8 (t8 p)).2.2.2.1 (t8 (t8 p)).2.2.2.2.1 (t8 (t8 p)).2.2.2.2.2.1)) (t8 (t8 p)).2.2.2.2.2.2.1 (dw.mk (Device.mk (t8 (t8 p)).2.2.2.2.2.2.2.1 (t8 (t8 (t8 p))).1 (aO.mk (t8 (t8 (t8 p))).2.1 (t8 (t8 (t8 p))).2.2.1 (aI.mk (t8 (t8 (t8 p))).2.2.2.1 (t8 (t8 (t8 p))).2.2.2.2.1 (t8 (t8 (t8 p))).2.2.2.2.2.1 (t8 (t8 (t8 p))).2.2.2.2.2.2.1 (t8 (t8 (t8 p))).2.2.2.2.2.2.2.1 (t32 p).1 (t32 p).2.1))) (Device.mk (t32 p).2.2.1 (t32 p).2.2.2.1 (aO.mk (t32 p).2.2.2.2.1 (t32 p).2.2.2.2.2.1 (aI.mk (t32 p).2.2.2.2.2.2.1 (t32 p).2.2.2.2.2.2.2.1 (t8 (t32 p)).1 (t8 (t32 p)).2.1 (t8 (t32 p)).2.2.1 (t8 (t32 p)).2.2.2.1 (t8 (t32 p)).2.2.2.2.1))) (Device.mk (t8 (t32 p)).2.2.2.2.2.1 (t8 (t32 p)).2.2.2.2.2.2.1 (aO.mk (t8 (t32 p)).2.2.2.2.2.2.2.1 (t8 (t8 (t32 p))).1 (aI.mk (t8 (t8 (t32 p))).2.1 (t8 (t8 (t32 p))).2.2.1 (t8 (t8 (t32 p))).2.2.2.1 (t8 (t8 (t32 p))).2.2.2.2.1 (t8 (t8 (t32 p))).2.2.2.2.2.1 (t8 (t8 (t32 p))).2.2.2.2.2.2.1 (t8 (t8 (t32 p))).2.2.2.2.2.2.2.1))) (Device.mk (t8 (t8 (t8 (t32 p)))).1 (t8 (t8 (t8 (t32 p)))).2.1 (aO.mk (t8 (t8 (t8 (t32 p)))).2.2.1 (t8 (t8 (t8 (t32 p)))).2.2.2.1 (aI.mk (t8 (t8 (t8 (t32 p)))).2.2.2.2.1 (t8 (t8 (t8 (t32 p)))).2.2.2.2.2.1 (t8 (t8 (t8 (t32 p)))).2.2.2.2.2.2.1 (t8 (t8 (t8 (t32 p)))).2.2.2.2.2.2.2.1 (t32 (t32 p)).1 (t32 (t32 p)).2.1 (t32 (t32 p)).2.2.1))) (Device.mk (t32 (t32 p)).2.2.2.1 (t32 (t32 p)).2.2.2.2.1 (aO.mk (t32 (t32 p)).2.2.2.2.2.1 (t32 (t32 p)).2.2.2.2.2.2.1 (aI.mk (t32 (t32 p)).2.2.2.2.2.2.2.1 (t8 (t32 (t32 p))).1 (t8 (t32 (t32 p))).2.1 (t8 (t32 (t32 p))).2.2.1 (t8 (t32 (t32 p))).2.2.2.1 (t8 (t32 (t32 p))).2.2.2.2.1 (t8 (t32 (t32 p))).2.2.2.2.2.1))) (Device.mk (t8 (t32 (t32 p))).2.2.2.2.2.2.1 (t8 (t32 (t32 p))).2.2.2.2.2.2.2.1 (aO.mk (t8 (t8 (t32 (t32 p)))).1 (t8 (t8 (t32 (t32 p)))).2.1 (aI.mk (t8 (t8 (t32 (t32 p)))).2.2.1 (t8 (t8 (t32 (t32 p)))).2.2.2.1 (t8 (t8 (t32 (t32 p)))).2.2.2.2.1 (t8 (t8 (t32 (t32 p)))).2.2.2.2.2.1 (t8 (t8 (t32 (t32 p)))).2.2.2.2.2.2.1 (t8 (t8 (t32 (t32 p)))).2.2.2.2.2.2.2.1 (t8 (t8 (t8 (t32 (t32 p))))).1)))) (t8 (t8 (t8 (t32 (t32 p))))).2.1 (t8 (t8 (t8 (t32 (t32 p))))).2.2.1)) (fun (x:bI)=>(x.book.ak,(x.book.free,(x.book.aP,(x.book.bF,(x.aM.a0.v,(x.aM.a0.be,(x.aM.a0.bY,(x.aM.a0.gone,(x.aM.a0.bc,(x.aM.a0.binds,(x.aM.a1.v,(x.aM.a1.be,(x.aM.a1.bY,(x.aM.a1.gone,(x.aM.a1.bc,(x.aM.a1.binds,(x.aM.a2.v,(x.aM.a2.be,(x.aM.a2.bY,(x.aM.a2.gone,(x.aM.a2.bc,(x.aM.a2.binds,(x.log,(x.dev.a0.aB,(x.dev.a0.aK,(x.dev.a0.aA.err,(x.dev.a0.aA.n,(x.dev.a0.aA.aD.device,(x.dev.a0.aA.aD.aB,(x.dev.a0.aA.aD.bC,(x.dev.a0.aA.aD.last,(x.dev.a0.aA.aD.aX,(x.dev.a0.aA.aD.ids,(x.dev.a0.aA.aD.used,(x.dev.a1.aB,(x.dev.a1.aK,(x.dev.a1.aA.err,(x.dev.a1.aA.n,(x.dev.a1.aA.aD.device,(x.dev.a1.aA.aD.aB,(x.dev.a1.aA.aD.bC,(x.dev.a1.aA.aD.last,(x.dev.a1.aA.aD.aX,(x.dev.a1.aA.aD.ids,(x.dev.a1.aA.aD.used,(x.dev.a2.aB,(x.dev.a2.aK,(x.dev.a2.aA.err,(x.dev.a2.aA.n,(x.dev.a2.aA.aD.device,(x.dev.a2.aA.aD.aB,(x.dev.a2.aA.aD.bC,(x.dev.a2.aA.aD.last,(x.dev.a2.aA.aD.aX,(x.dev.a2.aA.aD.ids,(x.dev.a2.aA.aD.used,(x.dev.a3.aB,(x.dev.a3.aK,(x.dev.a3.aA.err,(x.dev.a3.aA.n,(x.dev.a3.aA.aD.device,(x.dev.a3.aA.aD.aB,(x.dev.a3.aA.aD.bC,(x.dev.a3.aA.aD.last,(x.dev.a3.aA.aD.aX,(x.dev.a3.aA.aD.ids,(x.dev.a3.aA.aD.used,(x.dev.a4.aB,(x.dev.a4.aK,(x.dev.a4.aA.err,(x.dev.a4.aA.n,(x.dev.a4.aA.aD.device,(x.dev.a4.aA.aD.aB,(x.dev.a4.aA.aD.bC,(x.dev.a4.aA.aD.last,(x.dev.a4.aA.aD.aX,(x.dev.a4.aA.aD.ids,(x.dev.a4.aA.aD.used,(x.dev.a5.aB,(x.dev.a5.aK,(x.dev.a5.aA.err,(x.dev.a5.aA.n,(x.dev.a5.aA.aD.device,(x.dev.a5.aA.aD.aB,(x.dev.a5.aA.aD.bC,(x.dev.a5.aA.aD.last,(x.dev.a5.aA.aD.aX,(x.dev.a5.aA.aD.ids,(x.dev.a5.aA.aD.used,(x.lost,(x.now,())))))))))))))))))))))))))))))))))))))))))))))))))))))))))))))))))))))))))))))))))))))))))))) (fun _=>rfl)
def BG:kT (bI):=kO (kS 0 (kC (aE.xs (aE.sa mB)) kN) kN) (fun p=>p.1.1) (fun (x:bI)=>((x,()),())) (fun _=>rfl)
def Av:kT (bI):=kO (kS 42 (kC (aE.xs (aE.sa (kC (kA 0) (kC (kA 1) (kC (kA 2) (kC (kA 3) (kC (kA 4) (kC (kA 5) (kC (kA 6) (kC (kA 7) (kC (kA 8) (kC (kA 9) (kC (kA 10) (kC (kA 11) (kC (kA 12) (kC (kA 13) (kC (kA 14) (kC (kA 15) (kC (kA 16) (kC (kA 17) (kC (kA 18) (kC (kA 19) (kC (kA 20) (kC (kA 21) (kC (kA 22) (kC kJ (kC kJ (kC kJ (kC kJ (kC kJ (kC kJ (kC kJ (kC kJ (kC (kA 23) (kC (kA 24) (kC (kA 25) (kC kJ (kC kJ (kC kJ (kC kJ (kC kJ (kC kJ (kC kJ (kC kJ (kC (kA 26) (kC (kA 27) (kC (kA 28) (kC kJ (kC kJ (kC kJ (kC kJ (kC kJ (kC kJ (kC kJ (kC kJ (kC (kA 29) (kC (kA 30) (kC (kA 31) (kC kJ (kC kJ (kC kJ (kC kJ (kC kJ (kC kJ (kC kJ (kC kJ (kC (kA 32) (kC (kA 33) (kC (kA 34) (kC kJ (kC kJ (kC kJ (kC kJ (kC kJ (kC kJ (kC kJ (kC kJ (kC (kA 35) (kC (kA 36) (kC (kA 37) (kC kJ (kC kJ (kC kJ (kC kJ (kC kJ (kC kJ (kC kJ (kC kJ (kC (kA 38) (kC (kA 39) (kC (kA 40) (kC (kA 41) (kC kJ kN))))))))))))))))))))))))))))))))))))))))))))))))))))))))))))))))))))))))))))))))))))))))))))) kN) (kC (kR 0 65 cQ) (kC (kR 1 153 aa) (kC (kR 2 43 cS) (kC (kR 3 3 au) (kC (kR 4 66 bL) (kC (kR 5 142 dC) (kC (kR 6 145 cd) (kC (kR 7 59 bL) (kC (kR 8 129 dD) (kC (kR 9 149 dA) (kC (kR 10 66 bL) (kC (kR 11 142 dC) (kC (kR 12 145 cd) (kC (kR 13 59 bL) (kC (kR 14 129 dD) (kC (kR 15 149 dA) (kC (kR 16 66 bL) (kC (kR 17 142 dC) (kC (kR 18 145 cd) (kC (kR 19 59 bL) (kC (kR 20 129 dD) (kC (kR 21 149 dA) (kC (kR 22 61 dn) (kC (kR 23 133 bh) (kC (kR 24 153 aa) (kC (kR 25 3 au) (kC (kR 26 133 bh) (kC (kR 27 153 aa) (kC (kR 28 3 au) (kC (kR 29 133 bh) (kC (kR 30 153 aa) (kC (kR 31 3 au) (kC (kR 32 133 bh) (kC (kR 33 153 aa) (kC (kR 34 3 au) (kC (kR 35 133 bh) (kC (kR 36 153 aa) (kC (kR 37 3 au) (kC (kR 38 133 bh) (kC (kR 39 153 aa) (kC (kR 40 3 au) (kC (kR 41 66 bL) kN))))))))))))))))))))))))))))))))))))))))))) (fun p=>(bI.mk (aG.mk p.2.1 p.2.2.1 p.2.2.2.1 p.2.2.2.2.1) (fw.mk (ah.mk p.2.2.2.2.2.1 p.2.2.2.2.2.2.1 p.2.2.2.2.2.2.2.1 p.2.2.2.2.2.2.2.2.1 (t8 p.2).1 (t8 p.2).2.1) (ah.mk (t8 p.2).2.2.1 (t8 p.2).2.2.2.1 (t8 p.2).2.2.2.2.1 (t8 p.2).2.2.2.2.2.1 (t8 p.2).2.2.2.2.2.2.1 (t8 p.2).2.2.2.2.2.2.2.1) (ah.mk (t8 (t8 p.2)).1 (t8 (t8 p.2)).2.1 (t8 (t8 p.2)).2.2.1 (t8 (t8 p.2)).2.2.2.1 (t8 (t8 p.2)).2.2.2.2.1 (t8 (t8 p.2)).2.2.2.2.2.1)) (t8 (t8 p.2)).2.2.2.2.2.2.1 (dw.mk (Device.mk (t8 (t8 p.1.1)).2.2.2.2.2.2.2.1 (t8 (t8 (t8 p.1.1))).1 (aO.mk (t8 (t8 (t8 p.1.1))).2.1 (t8 (t8 (t8 p.1.1))).2.2.1 (aI.mk (t8 (t8 (t8 p.1.1))).2.2.2.1 (t8 (t8 (t8 p.1.1))).2.2.2.2.1 (t8 (t8 (t8 p.1.1))).2.2.2.2.2.1 (t8 (t8 (t8 p.1.1))).2.2.2.2.2.2.1 (t8 (t8 p.2)).2.2.2.2.2.2.2.1 (t8 (t8 (t8 p.2))).1 (t8 (t8 (t8 p.2))).2.1))) (Device.mk (t32 p.1.1).2.2.1 (t32 p.1.1).2.2.2.1 (aO.mk (t32 p.1.1).2.2.2.2.1 (t32 p.1.1).2.2.2.2.2.1 (aI.mk (t32 p.1.1).2.2.2.2.2.2.1 (t32 p.1.1).2.2.2.2.2.2.2.1 (t8 (t32 p.1.1)).1 (t8 (t32 p.1.1)).2.1 (t8 (t8 (t8 p.2))).2.2.1 (t8 (t8 (t8 p.2))).2.2.2.1 (t8 (t8 (t8 p.2))).2.2.2.2.1))) (Device.mk (t8 (t32 p.1.1)).2.2.2.2.2.1 (t8 (t32 p.1.1)).2.2.2.2.2.2.1 (aO.mk (t8 (t32 p.1.1)).2.2.2.2.2.2.2.1 (t8 (t8 (t32 p.1.1))).1 (aI.mk (t8 (t8 (t32 p.1.1))).2.1 (t8 (t8 (t32 p.1.1))).2.2.1 (t8 (t8 (t32 p.1.1))).2.2.2.1 (t8 (t8 (t32 p.1.1))).2.2.2.2.1 (t8 (t8 (t8 p.2))).2.2.2.2.2.1 (t8 (t8 (t8 p.2))).2.2.2.2.2.2.1 (t8 (t8 (t8 p.2))).2.2.2.2.2.2.2.1))) (Device.mk (t8 (t8 (t8 (t32 p.1.1)))).1 (t8 (t8 (t8 (t32 p.1.1)))).2.1 (aO.mk (t8 (t8 (t8 (t32 p.1.1)))).2.2.1 (t8 (t8 (t8 (t32 p.1.1)))).2.2.2.1 (aI.mk (t8 (t8 (t8 (t32 p.1.1)))).2.2.2.2.1 (t8 (t8 (t8 (t32 p.1.1)))).2.2.2.2.2.1 (t8 (t8 (t8 (t32 p.1.1)))).2.2.2.2.2.2.1 (t8 (t8 (t8 (t32 p.1.1)))).2.2.2.2.2.2.2.1 (t32 p.2).1 (t32 p.2).2.1 (t32 p.2).2.2.1))) (Device.mk (t32 (t32 p.1.1)).2.2.2.1 (t32 (t32 p.1.1)).2.2.2.2.1 (aO.mk (t32 (t32 p.1.1)).2.2.2.2.2.1 (t32 (t32 p.1.1)).2.2.2.2.2.2.1 (aI.mk (t32 (t32 p.1.1)).2.2.2.2.2.2.2.1 (t8 (t32 (t32 p.1.1))).1 (t8 (t32 (t32 p.1.1))).2.1 (t8 (t32 (t32 p.1.1))).2.2.1 (t32 p.2).2.2.2.1 (t32 p.2).2.2.2.2.1 (t32 p.2).2.2.2.2.2.1))) (Device.mk (t8 (t32 (t32 p.1.1))).2.2.2.2.2.2.1 (t8 (t32 (t32 p.1.1))).2.2.2.2.2.2.2.1 (aO.mk (t8 (t8 (t32 (t32 p.1.1)))).1 (t8 (t8 (t32 (t32 p.1.1)))).2.1 (aI.mk (t8 (t8 (t32 (t32 p.1.1)))).2.2.1 (t8 (t8 (t32 (t32 p.1.1)))).2.2.2.1 (t8 (t8 (t32 (t32 p.1.1)))).2.2.2.2.1 (t8 (t8 (t32 (t32 p.1.1)))).2.2.2.2.2.1 (t32 p.2).2.2.2.2.2.2.1 (t32 p.2).2.2.2.2.2.2.2.1 (t8 (t32 p.2)).1)))) (t8 (t32 p.2)).2.1 (t8 (t8 (t8 (t32 (t32 p.1.1))))).2.2.1)) (fun (x:bI)=>((((),((),((),((),((),((),((),((),((),((),((),((),((),((),((),((),((),((),((),((),((),((),((),(x.dev.a0.aB,(x.dev.a0.aK,(x.dev.a0.aA.err,(x.dev.a0.aA.n,(x.dev.a0.aA.aD.device,(x.dev.a0.aA.aD.aB,(x.dev.a0.aA.aD.bC,(x.dev.a0.aA.aD.last,((),((),((),(x.dev.a1.aB,(x.dev.a1.aK,(x.dev.a1.aA.err,(x.dev.a1.aA.n,(x.dev.a1.aA.aD.device,(x.dev.a1.aA.aD.aB,(x.dev.a1.aA.aD.bC,(x.dev.a1.aA.aD.last,((),((),((),(x.dev.a2.aB,(x.dev.a2.aK,(x.dev.a2.aA.err,(x.dev.a2.aA.n,(x.dev.a2.aA.aD.device,(x.dev.a2.aA.aD.aB,(x.dev.a2.aA.aD.bC,(x.dev.a2.aA.aD.last,((),((),((),(x.dev.a3.aB,(x.dev.a3.aK,(x.dev.a3.aA.err,(x.dev.a3.aA.n,(x.dev.a3.aA.aD.device,(x.dev.a3.aA.aD.aB,(x.dev.a3.aA.aD.bC,(x.dev.a3.aA.aD.last,((),((),((),(x.dev.a4.aB,(x.dev.a4.aK,(x.dev.a4.aA.err,(x.dev.a4.aA.n,(x.dev.a4.aA.aD.device,(x.dev.a4.aA.aD.aB,(x.dev.a4.aA.aD.bC,(x.dev.a4.aA.aD.last,((),((),((),(x.dev.a5.aB,(x.dev.a5.aK,(x.dev.a5.aA.err,(x.dev.a5.aA.n,(x.dev.a5.aA.aD.device,(x.dev.a5.aA.aD.aB,(x.dev.a5.aA.aD.bC,(x.dev.a5.aA.aD.last,((),((),((),((),(x.now,()))))))))))))))))))))))))))))))))))))))))))))))))))))))))))))))))))))))))))))))))))))))))))),()),(x.book.ak,(x.book.free,(x.book.aP,(x.book.bF,(x.aM.a0.v,(x.aM.a0.be,(x.aM.a0.bY,(x.aM.a0.gone,(x.aM.a0.bc,(x.aM.a0.binds,(x.aM.a1.v,(x.aM.a1.be,(x.aM.a1.bY,(x.aM.a1.gone,(x.aM.a1.bc,(x.aM.a1.binds,(x.aM.a2.v,(x.aM.a2.be,(x.aM.a2.bY,(x.aM.a2.gone,(x.aM.a2.bc,(x.aM.a2.binds,(x.log,(x.dev.a0.aA.aD.aX,(x.dev.a0.aA.aD.ids,(x.dev.a0.aA.aD.used,(x.dev.a1.aA.aD.aX,(x.dev.a1.aA.aD.ids,(x.dev.a1.aA.aD.used,(x.dev.a2.aA.aD.aX,(x.dev.a2.aA.aD.ids,(x.dev.a2.aA.aD.used,(x.dev.a3.aA.aD.aX,(x.dev.a3.aA.aD.ids,(x.dev.a3.aA.aD.used,(x.dev.a4.aA.aD.aX,(x.dev.a4.aA.aD.ids,(x.dev.a4.aA.aD.used,(x.dev.a5.aA.aD.aX,(x.dev.a5.aA.aD.ids,(x.dev.a5.aA.aD.used,(x.lost,())))))))))))))))))))))))))))))))))))))))))))) (fun _=>rfl)
def B1 (p:bI):Option bI:=dm p
def ME:aT TL:=aT.one BG.dec B1 .normal Av.aJ
def La:sL:=[(77,K5),(78,Lp),(41,uJ)]
def JP:Env:=aY tab sl sh [(38,VJ)] [(77,.sum),(78,.sum),(79,(.dZ 66)),(80,(.dZ 142)),(81,(.dZ 145)),(50,(.dZ 59)),(82,(.dZ 129)),(83,(.dZ 149)),(41,.sum)]
theorem YB:bK PR (bJ cZ La) JP:=aZ base (aC (Vn.ae rfl aN) aN) (aC (dj rfl aBQ) (aC (dj rfl aCQ) (aC (dx R3) (aC (dx RD) (aC (dx Qn) (aC (dx EU) (aC (dx RF) (aC (dx RN) (aC (dj rfl zi) aN)))))))))
theorem aBJ (x:bI):Out.run (bO cZ La) (eZ JP 12 20 38 (BG.aJ x)) (ef Av)=B1 x:=by kernel_rfl
theorem aBj:ez PR 38 ME:=fW YB (loops:=12) (n:=20) Vn.enters BG Av B1 aBJ
def dY (i1:Int):Option aO :=
 some (aO.mk i1 0 (aI.mk 0 0 0 0 [] [] []))
def Ie (p:Int):Option aO:=dY p
def jY:aV TL:=aV.of (DA.one dI) Ie (DA.one (DT.agg lG))
theorem Yo:bi [] [] (aY tab sl sh [(39,Ve)] []) 39 (DA.one dI) Ie (DA.one (DT.agg lG)):=fun _=>by kernel_rfl
theorem jq:bU PR 39 .keep jY:=bj Yo (aZ base (aC (Vc.ae rfl aN) aN) aN) (.inl rfl) Vc.enters
def j2 (l1:List aL)(i1:Int)(i2:Int):Option Bool :=
  cond (fits l1.length) (some (l1.any fun e=>e.device == i1 && e.aB == i2)) none
def ZX (p:(List aL)×Int×Int):Option Bool:=j2 p.1 p.2.1 p.2.2
def mr:aV TL:=aV.of (DA.cons (DT.one dP) (DA.cons dI (DA.one dI))) ZX (DA.one dB)
theorem ZP {l:TL}{a:List aL}(h:ku (.fz l)=some a):l=.dq a:=by
  cases l<;>simp only [ku,Option.some.injEq,reduceCtorEq] at h
  rw [h]
theorem L2:∀ {a:List aL} {G:Fz} {xs:List Value},cm G (a.map jN).flatten xs→xs=jc (a.map fun e=>(e.device,e.aB,e.seq))
  | [],_,_,h=>by cases h;rfl
  | e::r,_,_,h=>by
    cases h with | cons h1 h=>cases h with | cons h2 h=>cases h with | cons h3 h =>
    cases h1;cases h2;cases h3
    rw [L2 h];rfl
theorem qg:bU PR 129 (.rd 89 66) mr:=by
  refine ⟨enters_of Tryz.func129 (by kernel_rfl) (c:=ab Tryz.f129.body) rfl,by simp [iI],?_⟩
  rintro l ys rs ⟨x,y,hx,hy,rfl⟩ G w k cells t sv xs vs hk hsv hc hlen hrep _ hys
  have hle:=(DA.cons (DT.one dP) (DA.cons dI (DA.one dI))).ok (.c (.im (.fz l))::ys) x hx
  obtain ⟨a,ha,hx⟩:=df.1 hx
  cases ZP ha
  obtain ⟨b',hb',hx⟩:=df.1 hx
  cases hx
  cases hle with
  | cons _ h2 =>
  have h3:=sY h2 hys
  obtain ⟨i1,i2⟩:=b'
  cases h3 with
  | cons v1 h3=>cases h3 with
  | cons v2 h3 =>
  cases h3;cases v1;cases v2
  obtain ⟨ad,cap,rfl,_,hcs⟩:=hc
  have hcell:w.cell? ⟨k,89,none⟩=some (.slice ad (LI.aH (TL.dq a)).length cap):=by rw [iA hk];simpa using hsv
  have hln:(LI.aH (TL.dq a)).length=a.length:=by simp [LI.aH]
  rw [hln] at hcell hcs
  have hF:j2 a i1 i2=some y:=hy
  unfold j2 at hF
  cases hft:fits a.length with
  | false=>rw [hft] at hF;cases hF
  | true =>
  rw [hft,cond_true] at hF
  cases hF
  have hl:=of_decide_eq_true hft
  replace hrep:cm G (a.map jN).flatten xs:=hrep
  obtain rfl:=L2 hrep
  have hm:(a.map fun e=>(e.device,e.aB,e.seq)).length=a.length:=by simp
  refine Calls.mono (aCK w k ad cap (a.map fun e=>(e.device,e.aB,e.seq)) i1 i2 (by rw [hm];exact hcell) (by rw [hm];exact hl) (by rw [hm];exact hcs)) ?_
  rintro en w' ⟨rfl,hb'⟩
  refine ⟨_,rfl,?_,hb'⟩
  rw [List.any_map]
  exact .bool
def tv (c1:az):Option (aO×az) :=
 cond (decide (0≤c1.c.device) && decide (c1.c.device < 6))
 (cond (decide ((cond (decide (c1.c.device=0)) c1.d.dev.a0.aB (cond (decide (c1.c.device=1)) c1.d.dev.a1.aB (cond (decide (c1.c.device=2)) c1.d.dev.a2.aB (cond (decide (c1.c.device=3)) c1.d.dev.a3.aB (cond (decide (c1.c.device=4)) c1.d.dev.a4.aB c1.d.dev.a5.aB))))) > 0))
 (ob (j2 c1.d.lost c1.c.device (cond (decide (c1.c.device=0)) c1.d.dev.a0.aB (cond (decide (c1.c.device=1)) c1.d.dev.a1.aB (cond (decide (c1.c.device=2)) c1.d.dev.a2.aB (cond (decide (c1.c.device=3)) c1.d.dev.a3.aB (cond (decide (c1.c.device=4)) c1.d.dev.a4.aB c1.d.dev.a5.aB)))))) fun r0 =>
 cond (!r0)
 (ob (dY 7) fun r1 =>
 some (r1,c1))
 (cond (decide ((cond (decide (c1.c.device=0)) c1.d.dev.a0.aB (cond (decide (c1.c.device=1)) c1.d.dev.a1.aB (cond (decide (c1.c.device=2)) c1.d.dev.a2.aB (cond (decide (c1.c.device=3)) c1.d.dev.a3.aB (cond (decide (c1.c.device=4)) c1.d.dev.a4.aB c1.d.dev.a5.aB)))))≥1048576))
 (ob (dY 11) fun r2 =>
 some (r2,c1))
 (some ((aO.mk 0 (cond (decide (c1.c.device=0)) (cond (decide (c1.c.device=0)) (aF ((cond (decide (c1.c.device=0)) c1.d.dev.a0.aB (cond (decide (c1.c.device=1)) c1.d.dev.a1.aB (cond (decide (c1.c.device=2)) c1.d.dev.a2.aB (cond (decide (c1.c.device=3)) c1.d.dev.a3.aB (cond (decide (c1.c.device=4)) c1.d.dev.a4.aB c1.d.dev.a5.aB)))))+1)) c1.d.dev.a0.aB) (cond (decide (c1.c.device=1)) (cond (decide (c1.c.device=1)) (aF ((cond (decide (c1.c.device=0)) c1.d.dev.a0.aB (cond (decide (c1.c.device=1)) c1.d.dev.a1.aB (cond (decide (c1.c.device=2)) c1.d.dev.a2.aB (cond (decide (c1.c.device=3)) c1.d.dev.a3.aB (cond (decide (c1.c.device=4)) c1.d.dev.a4.aB c1.d.dev.a5.aB)))))+1)) c1.d.dev.a1.aB) (cond (decide (c1.c.device=2)) (cond (decide (c1.c.device=2)) (aF ((cond (decide (c1.c.device=0)) c1.d.dev.a0.aB (cond (decide (c1.c.device=1)) c1.d.dev.a1.aB (cond (decide (c1.c.device=2)) c1.d.dev.a2.aB (cond (decide (c1.c.device=3)) c1.d.dev.a3.aB (cond (decide (c1.c.device=4)) c1.d.dev.a4.aB c1.d.dev.a5.aB)))))+1)) c1.d.dev.a2.aB) (cond (decide (c1.c.device=3)) (cond (decide (c1.c.device=3)) (aF ((cond (decide (c1.c.device=0)) c1.d.dev.a0.aB (cond (decide (c1.c.device=1)) c1.d.dev.a1.aB (cond (decide (c1.c.device=2)) c1.d.dev.a2.aB (cond (decide (c1.c.device=3)) c1.d.dev.a3.aB (cond (decide (c1.c.device=4)) c1.d.dev.a4.aB c1.d.dev.a5.aB)))))+1)) c1.d.dev.a3.aB) (cond (decide (c1.c.device=4)) (cond (decide (c1.c.device=4)) (aF ((cond (decide (c1.c.device=0)) c1.d.dev.a0.aB (cond (decide (c1.c.device=1)) c1.d.dev.a1.aB (cond (decide (c1.c.device=2)) c1.d.dev.a2.aB (cond (decide (c1.c.device=3)) c1.d.dev.a3.aB (cond (decide (c1.c.device=4)) c1.d.dev.a4.aB c1.d.dev.a5.aB)))))+1)) c1.d.dev.a4.aB) (cond (decide (c1.c.device=5)) (aF ((cond (decide (c1.c.device=0)) c1.d.dev.a0.aB (cond (decide (c1.c.device=1)) c1.d.dev.a1.aB (cond (decide (c1.c.device=2)) c1.d.dev.a2.aB (cond (decide (c1.c.device=3)) c1.d.dev.a3.aB (cond (decide (c1.c.device=4)) c1.d.dev.a4.aB c1.d.dev.a5.aB)))))+1)) c1.d.dev.a5.aB)))))) (aI.mk 0 0 0 0 [] [] [])),(az.mk (bI.mk c1.d.book c1.d.aM c1.d.log (dw.mk (Device.mk (cond (decide (c1.c.device=0)) (aF ((cond (decide (c1.c.device=0)) c1.d.dev.a0.aB (cond (decide (c1.c.device=1)) c1.d.dev.a1.aB (cond (decide (c1.c.device=2)) c1.d.dev.a2.aB (cond (decide (c1.c.device=3)) c1.d.dev.a3.aB (cond (decide (c1.c.device=4)) c1.d.dev.a4.aB c1.d.dev.a5.aB)))))+1)) c1.d.dev.a0.aB) c1.d.dev.a0.aK c1.d.dev.a0.aA) (Device.mk (cond (decide (c1.c.device=1)) (aF ((cond (decide (c1.c.device=0)) c1.d.dev.a0.aB (cond (decide (c1.c.device=1)) c1.d.dev.a1.aB (cond (decide (c1.c.device=2)) c1.d.dev.a2.aB (cond (decide (c1.c.device=3)) c1.d.dev.a3.aB (cond (decide (c1.c.device=4)) c1.d.dev.a4.aB c1.d.dev.a5.aB)))))+1)) c1.d.dev.a1.aB) c1.d.dev.a1.aK c1.d.dev.a1.aA) (Device.mk (cond (decide (c1.c.device=2)) (aF ((cond (decide (c1.c.device=0)) c1.d.dev.a0.aB (cond (decide (c1.c.device=1)) c1.d.dev.a1.aB (cond (decide (c1.c.device=2)) c1.d.dev.a2.aB (cond (decide (c1.c.device=3)) c1.d.dev.a3.aB (cond (decide (c1.c.device=4)) c1.d.dev.a4.aB c1.d.dev.a5.aB)))))+1)) c1.d.dev.a2.aB) c1.d.dev.a2.aK c1.d.dev.a2.aA) (Device.mk (cond (decide (c1.c.device=3)) (aF ((cond (decide (c1.c.device=0)) c1.d.dev.a0.aB (cond (decide (c1.c.device=1)) c1.d.dev.a1.aB (cond (decide (c1.c.device=2)) c1.d.dev.a2.aB (cond (decide (c1.c.device=3)) c1.d.dev.a3.aB (cond (decide (c1.c.device=4)) c1.d.dev.a4.aB c1.d.dev.a5.aB)))))+1)) c1.d.dev.a3.aB) c1.d.dev.a3.aK c1.d.dev.a3.aA) (Device.mk (cond (decide (c1.c.device=4)) (aF ((cond (decide (c1.c.device=0)) c1.d.dev.a0.aB (cond (decide (c1.c.device=1)) c1.d.dev.a1.aB (cond (decide (c1.c.device=2)) c1.d.dev.a2.aB (cond (decide (c1.c.device=3)) c1.d.dev.a3.aB (cond (decide (c1.c.device=4)) c1.d.dev.a4.aB c1.d.dev.a5.aB)))))+1)) c1.d.dev.a4.aB) c1.d.dev.a4.aK c1.d.dev.a4.aA) (Device.mk (cond (decide (c1.c.device=5)) (aF ((cond (decide (c1.c.device=0)) c1.d.dev.a0.aB (cond (decide (c1.c.device=1)) c1.d.dev.a1.aB (cond (decide (c1.c.device=2)) c1.d.dev.a2.aB (cond (decide (c1.c.device=3)) c1.d.dev.a3.aB (cond (decide (c1.c.device=4)) c1.d.dev.a4.aB c1.d.dev.a5.aB)))))+1)) c1.d.dev.a5.aB) c1.d.dev.a5.aK c1.d.dev.a5.aA)) c1.d.lost c1.d.now) c1.c)))))
 (cond (decide ((cond (decide (c1.c.device=0)) c1.d.dev.a0.aB (cond (decide (c1.c.device=1)) c1.d.dev.a1.aB (cond (decide (c1.c.device=2)) c1.d.dev.a2.aB (cond (decide (c1.c.device=3)) c1.d.dev.a3.aB (cond (decide (c1.c.device=4)) c1.d.dev.a4.aB c1.d.dev.a5.aB)))))≥1048576))
 (ob (dY 11) fun r3 =>
 some (r3,c1))
 (some ((aO.mk 0 (cond (decide (c1.c.device=0)) (cond (decide (c1.c.device=0)) (aF ((cond (decide (c1.c.device=0)) c1.d.dev.a0.aB (cond (decide (c1.c.device=1)) c1.d.dev.a1.aB (cond (decide (c1.c.device=2)) c1.d.dev.a2.aB (cond (decide (c1.c.device=3)) c1.d.dev.a3.aB (cond (decide (c1.c.device=4)) c1.d.dev.a4.aB c1.d.dev.a5.aB)))))+1)) c1.d.dev.a0.aB) (cond (decide (c1.c.device=1)) (cond (decide (c1.c.device=1)) (aF ((cond (decide (c1.c.device=0)) c1.d.dev.a0.aB (cond (decide (c1.c.device=1)) c1.d.dev.a1.aB (cond (decide (c1.c.device=2)) c1.d.dev.a2.aB (cond (decide (c1.c.device=3)) c1.d.dev.a3.aB (cond (decide (c1.c.device=4)) c1.d.dev.a4.aB c1.d.dev.a5.aB)))))+1)) c1.d.dev.a1.aB) (cond (decide (c1.c.device=2)) (cond (decide (c1.c.device=2)) (aF ((cond (decide (c1.c.device=0)) c1.d.dev.a0.aB (cond (decide (c1.c.device=1)) c1.d.dev.a1.aB (cond (decide (c1.c.device=2)) c1.d.dev.a2.aB (cond (decide (c1.c.device=3)) c1.d.dev.a3.aB (cond (decide (c1.c.device=4)) c1.d.dev.a4.aB c1.d.dev.a5.aB)))))+1)) c1.d.dev.a2.aB) (cond (decide (c1.c.device=3)) (cond (decide (c1.c.device=3)) (aF ((cond (decide (c1.c.device=0)) c1.d.dev.a0.aB (cond (decide (c1.c.device=1)) c1.d.dev.a1.aB (cond (decide (c1.c.device=2)) c1.d.dev.a2.aB (cond (decide (c1.c.device=3)) c1.d.dev.a3.aB (cond (decide (c1.c.device=4)) c1.d.dev.a4.aB c1.d.dev.a5.aB)))))+1)) c1.d.dev.a3.aB) (cond (decide (c1.c.device=4)) (cond (decide (c1.c.device=4)) (aF ((cond (decide (c1.c.device=0)) c1.d.dev.a0.aB (cond (decide (c1.c.device=1)) c1.d.dev.a1.aB (cond (decide (c1.c.device=2)) c1.d.dev.a2.aB (cond (decide (c1.c.device=3)) c1.d.dev.a3.aB (cond (decide (c1.c.device=4)) c1.d.dev.a4.aB c1.d.dev.a5.aB)))))+1)) c1.d.dev.a4.aB) (cond (decide (c1.c.device=5)) (aF ((cond (decide (c1.c.device=0)) c1.d.dev.a0.aB (cond (decide (c1.c.device=1)) c1.d.dev.a1.aB (cond (decide (c1.c.device=2)) c1.d.dev.a2.aB (cond (decide (c1.c.device=3)) c1.d.dev.a3.aB (cond (decide (c1.c.device=4)) c1.d.dev.a4.aB c1.d.dev.a5.aB)))))+1)) c1.d.dev.a5.aB)))))) (aI.mk 0 0 0 0 [] [] [])),(az.mk (bI.mk c1.d.book c1.d.aM c1.d.log (dw.mk (Device.mk (cond (decide (c1.c.device=0)) (aF ((cond (decide (c1.c.device=0)) c1.d.dev.a0.aB (cond (decide (c1.c.device=1)) c1.d.dev.a1.aB (cond (decide (c1.c.device=2)) c1.d.dev.a2.aB (cond (decide (c1.c.device=3)) c1.d.dev.a3.aB (cond (decide (c1.c.device=4)) c1.d.dev.a4.aB c1.d.dev.a5.aB)))))+1)) c1.d.dev.a0.aB) c1.d.dev.a0.aK c1.d.dev.a0.aA) (Device.mk (cond (decide (c1.c.device=1)) (aF ((cond (decide (c1.c.device=0)) c1.d.dev.a0.aB (cond (decide (c1.c.device=1)) c1.d.dev.a1.aB (cond (decide (c1.c.device=2)) c1.d.dev.a2.aB (cond (decide (c1.c.device=3)) c1.d.dev.a3.aB (cond (decide (c1.c.device=4)) c1.d.dev.a4.aB c1.d.dev.a5.aB)))))+1)) c1.d.dev.a1.aB) c1.d.dev.a1.aK c1.d.dev.a1.aA) (Device.mk (cond (decide (c1.c.device=2)) (aF ((cond (decide (c1.c.device=0)) c1.d.dev.a0.aB (cond (decide (c1.c.device=1)) c1.d.dev.a1.aB (cond (decide (c1.c.device=2)) c1.d.dev.a2.aB (cond (decide (c1.c.device=3)) c1.d.dev.a3.aB (cond (decide (c1.c.device=4)) c1.d.dev.a4.aB c1.d.dev.a5.aB)))))+1)) c1.d.dev.a2.aB) c1.d.dev.a2.aK c1.d.dev.a2.aA) (Device.mk (cond (decide (c1.c.device=3)) (aF ((cond (decide (c1.c.device=0)) c1.d.dev.a0.aB (cond (decide (c1.c.device=1)) c1.d.dev.a1.aB (cond (decide (c1.c.device=2)) c1.d.dev.a2.aB (cond (decide (c1.c.device=3)) c1.d.dev.a3.aB (cond (decide (c1.c.device=4)) c1.d.dev.a4.aB c1.d.dev.a5.aB)))))+1)) c1.d.dev.a3.aB) c1.d.dev.a3.aK c1.d.dev.a3.aA) (Device.mk (cond (decide (c1.c.device=4)) (aF ((cond (decide (c1.c.device=0)) c1.d.dev.a0.aB (cond (decide (c1.c.device=1)) c1.d.dev.a1.aB (cond (decide (c1.c.device=2)) c1.d.dev.a2.aB (cond (decide (c1.c.device=3)) c1.d.dev.a3.aB (cond (decide (c1.c.device=4)) c1.d.dev.a4.aB c1.d.dev.a5.aB)))))+1)) c1.d.dev.a4.aB) c1.d.dev.a4.aK c1.d.dev.a4.aA) (Device.mk (cond (decide (c1.c.device=5)) (aF ((cond (decide (c1.c.device=0)) c1.d.dev.a0.aB (cond (decide (c1.c.device=1)) c1.d.dev.a1.aB (cond (decide (c1.c.device=2)) c1.d.dev.a2.aB (cond (decide (c1.c.device=3)) c1.d.dev.a3.aB (cond (decide (c1.c.device=4)) c1.d.dev.a4.aB c1.d.dev.a5.aB)))))+1)) c1.d.dev.a5.aB) c1.d.dev.a5.aK c1.d.dev.a5.aA)) c1.d.lost c1.d.now) c1.c)))))
 none
def M6:aE (List (Nat×En TL)) az:=kO (kC (aE.var 0 100 (kC (kA 1) (kC (kA 2) (kC (kA 3) (kC (kA 4) (kC (kA 5) (kC (kA 6) (kC (kA 7) (kC (kA 8) (kC (kA 9) (kC (kA 10) (kC (kA 11) (kC (kA 12) (kC (kA 13) (kC (kA 14) (kC (kA 15) (kC (kA 16) (kC (kA 17) (kC (kA 18) (kC (kA 19) (kC (kA 20) (kC (kA 21) (kC (kA 22) (kC (kA 23) (kC kJ (kC kJ (kC kJ (kC kJ (kC kJ (kC kJ (kC kJ (kC kJ (kC (kA 24) (kC (kA 25) (kC (kA 26) (kC kJ (kC kJ (kC kJ (kC kJ (kC kJ (kC kJ (kC kJ (kC kJ (kC (kA 27) (kC (kA 28) (kC (kA 29) (kC kJ (kC kJ (kC kJ (kC kJ (kC kJ (kC kJ (kC kJ (kC kJ (kC (kA 30) (kC (kA 31) (kC (kA 32) (kC kJ (kC kJ (kC kJ (kC kJ (kC kJ (kC kJ (kC kJ (kC kJ (kC (kA 33) (kC (kA 34) (kC (kA 35) (kC kJ (kC kJ (kC kJ (kC kJ (kC kJ (kC kJ (kC kJ (kC kJ (kC (kA 36) (kC (kA 37) (kC (kA 38) (kC kJ (kC kJ (kC kJ (kC kJ (kC kJ (kC kJ (kC kJ (kC kJ (kC (kA 39) (kC (kA 40) (kC (kA 41) (kC (kA 42) (kC kJ (kC kJ (kC kJ (kC kJ (kC kJ (kC kJ (kC (kG fb) (kC (kG dn) kN))))))))))))))))))))))))))))))))))))))))))))))))))))))))))))))))))))))))))))))))))))))))))))))))))) (kC (kR 1 65 cQ) (kC (kR 2 153 aa) (kC (kR 3 43 cS) (kC (kR 4 3 au) (kC (kR 5 66 bL) (kC (kR 6 142 dC) (kC (kR 7 145 cd) (kC (kR 8 59 bL) (kC (kR 9 129 dD) (kC (kR 10 149 dA) (kC (kR 11 66 bL) (kC (kR 12 142 dC) (kC (kR 13 145 cd) (kC (kR 14 59 bL) (kC (kR 15 129 dD) (kC (kR 16 149 dA) (kC (kR 17 66 bL) (kC (kR 18 142 dC) (kC (kR 19 145 cd) (kC (kR 20 59 bL) (kC (kR 21 129 dD) (kC (kR 22 149 dA) (kC (kR 23 61 dn) (kC (kR 24 133 bh) (kC (kR 25 153 aa) (kC (kR 26 3 au) (kC (kR 27 133 bh) (kC (kR 28 153 aa) (kC (kR 29 3 au) (kC (kR 30 133 bh) (kC (kR 31 153 aa) (kC (kR 32 3 au) (kC (kR 33 133 bh) (kC (kR 34 153 aa) (kC (kR 35 3 au) (kC (kR 36 133 bh) (kC (kR 37 153 aa) (kC (kR 38 3 au) (kC (kR 39 133 bh) (kC (kR 40 153 aa) (kC (kR 41 3 au) (kC (kR 42 66 bL) kN))))))))))))))))))))))))))))))))))))))))))) (fun p=>(az.mk (bI.mk (aG.mk p.2.1 p.2.2.1 p.2.2.2.1 p.2.2.2.2.1) (fw.mk (ah.mk p.2.2.2.2.2.1 p.2.2.2.2.2.2.1 p.2.2.2.2.2.2.2.1 (t8 p).1 (t8 p).2.1 (t8 p).2.2.1) (ah.mk (t8 p).2.2.2.1 (t8 p).2.2.2.2.1 (t8 p).2.2.2.2.2.1 (t8 p).2.2.2.2.2.2.1 (t8 p).2.2.2.2.2.2.2.1 (t8 (t8 p)).1) (ah.mk (t8 (t8 p)).2.1 (t8 (t8 p)).2.2.1 (t8 (t8 p)).2.2.2.1 (t8 (t8 p)).2.2.2.2.1 (t8 (t8 p)).2.2.2.2.2.1 (t8 (t8 p)).2.2.2.2.2.2.1)) (t8 (t8 p)).2.2.2.2.2.2.2.1 (dw.mk (Device.mk (t8 (t8 p.1)).2.2.2.2.2.2.2.1 (t8 (t8 (t8 p.1))).1 (aO.mk (t8 (t8 (t8 p.1))).2.1 (t8 (t8 (t8 p.1))).2.2.1 (aI.mk (t8 (t8 (t8 p.1))).2.2.2.1 (t8 (t8 (t8 p.1))).2.2.2.2.1 (t8 (t8 (t8 p.1))).2.2.2.2.2.1 (t8 (t8 (t8 p.1))).2.2.2.2.2.2.1 (t8 (t8 (t8 p))).1 (t8 (t8 (t8 p))).2.1 (t8 (t8 (t8 p))).2.2.1))) (Device.mk (t32 p.1).2.2.1 (t32 p.1).2.2.2.1 (aO.mk (t32 p.1).2.2.2.2.1 (t32 p.1).2.2.2.2.2.1 (aI.mk (t32 p.1).2.2.2.2.2.2.1 (t32 p.1).2.2.2.2.2.2.2.1 (t8 (t32 p.1)).1 (t8 (t32 p.1)).2.1 (t8 (t8 (t8 p))).2.2.2.1 (t8 (t8 (t8 p))).2.2.2.2.1 (t8 (t8 (t8 p))).2.2.2.2.2.1))) (Device.mk (t8 (t32 p.1)).2.2.2.2.2.1 (t8 (t32 p.1)).2.2.2.2.2.2.1 (aO.mk (t8 (t32 p.1)).2.2.2.2.2.2.2.1 (t8 (t8 (t32 p.1))).1 (aI.mk (t8 (t8 (t32 p.1))).2.1 (t8 (t8 (t32 p.1))).2.2.1 (t8 (t8 (t32 p.1))).2.2.2.1 (t8 (t8 (t32 p.1))).2.2.2.2.1 (t8 (t8 (t8 p))).2.2.2.2.2.2.1 (t8 (t8 (t8 p))).2.2.2.2.2.2.2.1 (t32 p).1))) (Device.mk (t8 (t8 (t8 (t32 p.1)))).1 (t8 (t8 (t8 (t32 p.1)))).2.1 (aO.mk (t8 (t8 (t8 (t32 p.1)))).2.2.1 (t8 (t8 (t8 (t32 p.1)))).2.2.2.1 (aI.mk (t8 (t8 (t8 (t32 p.1)))).2.2.2.2.1 (t8 (t8 (t8 (t32 p.1)))).2.2.2.2.2.1 (t8 (t8 (t8 (t32 p.1)))).2.2.2.2.2.2.1 (t8 (t8 (t8 (t32 p.1)))).2.2.2.2.2.2.2.1 (t32 p).2.1 (t32 p).2.2.1 (t32 p).2.2.2.1))) (Device.mk (t32 (t32 p.1)).2.2.2.1 (t32 (t32 p.1)).2.2.2.2.1 (aO.mk (t32 (t32 p.1)).2.2.2.2.2.1 (t32 (t32 p.1)).2.2.2.2.2.2.1 (aI.mk (t32 (t32 p.1)).2.2.2.2.2.2.2.1 (t8 (t32 (t32 p.1))).1 (t8 (t32 (t32 p.1))).2.1 (t8 (t32 (t32 p.1))).2.2.1 (t32 p).2.2.2.2.1 (t32 p).2.2.2.2.2.1 (t32 p).2.2.2.2.2.2.1))) (Device.mk (t8 (t32 (t32 p.1))).2.2.2.2.2.2.1 (t8 (t32 (t32 p.1))).2.2.2.2.2.2.2.1 (aO.mk (t8 (t8 (t32 (t32 p.1)))).1 (t8 (t8 (t32 (t32 p.1)))).2.1 (aI.mk (t8 (t8 (t32 (t32 p.1)))).2.2.1 (t8 (t8 (t32 (t32 p.1)))).2.2.2.1 (t8 (t8 (t32 (t32 p.1)))).2.2.2.2.1 (t8 (t8 (t32 (t32 p.1)))).2.2.2.2.2.1 (t32 p).2.2.2.2.2.2.2.1 (t8 (t32 p)).1 (t8 (t32 p)).2.1)))) (t8 (t32 p)).2.2.1 (t8 (t8 (t8 (t32 (t32 p.1))))).2.2.1) (bg.mk (t8 (t8 (t8 (t32 (t32 p.1))))).2.2.2.1 (t8 (t8 (t8 (t32 (t32 p.1))))).2.2.2.2.1 (t8 (t8 (t8 (t32 (t32 p.1))))).2.2.2.2.2.1 (t8 (t8 (t8 (t32 (t32 p.1))))).2.2.2.2.2.2.1 (t8 (t8 (t8 (t32 (t32 p.1))))).2.2.2.2.2.2.2.1 (t32 (t32 (t32 p.1))).1 (t32 (t32 (t32 p.1))).2.1))) (fun (x:az)=>(((),((),((),((),((),((),((),((),((),((),((),((),((),((),((),((),((),((),((),((),((),((),((),(x.d.dev.a0.aB,(x.d.dev.a0.aK,(x.d.dev.a0.aA.err,(x.d.dev.a0.aA.n,(x.d.dev.a0.aA.aD.device,(x.d.dev.a0.aA.aD.aB,(x.d.dev.a0.aA.aD.bC,(x.d.dev.a0.aA.aD.last,((),((),((),(x.d.dev.a1.aB,(x.d.dev.a1.aK,(x.d.dev.a1.aA.err,(x.d.dev.a1.aA.n,(x.d.dev.a1.aA.aD.device,(x.d.dev.a1.aA.aD.aB,(x.d.dev.a1.aA.aD.bC,(x.d.dev.a1.aA.aD.last,((),((),((),(x.d.dev.a2.aB,(x.d.dev.a2.aK,(x.d.dev.a2.aA.err,(x.d.dev.a2.aA.n,(x.d.dev.a2.aA.aD.device,(x.d.dev.a2.aA.aD.aB,(x.d.dev.a2.aA.aD.bC,(x.d.dev.a2.aA.aD.last,((),((),((),(x.d.dev.a3.aB,(x.d.dev.a3.aK,(x.d.dev.a3.aA.err,(x.d.dev.a3.aA.n,(x.d.dev.a3.aA.aD.device,(x.d.dev.a3.aA.aD.aB,(x.d.dev.a3.aA.aD.bC,(x.d.dev.a3.aA.aD.last,((),((),((),(x.d.dev.a4.aB,(x.d.dev.a4.aK,(x.d.dev.a4.aA.err,(x.d.dev.a4.aA.n,(x.d.dev.a4.aA.aD.device,(x.d.dev.a4.aA.aD.aB,(x.d.dev.a4.aA.aD.bC,(x.d.dev.a4.aA.aD.last,((),((),((),(x.d.dev.a5.aB,(x.d.dev.a5.aK,(x.d.dev.a5.aA.err,(x.d.dev.a5.aA.n,(x.d.dev.a5.aA.aD.device,(x.d.dev.a5.aA.aD.aB,(x.d.dev.a5.aA.aD.bC,(x.d.dev.a5.aA.aD.last,((),((),((),((),(x.d.now,(x.c.kind,(x.c.device,(x.c.aB,(x.c.aK,(x.c.n,(x.c.cP,(x.c.ops,())))))))))))))))))))))))))))))))))))))))))))))))))))))))))))))))))))))))))))))))))))))))))))))))))),(x.d.book.ak,(x.d.book.free,(x.d.book.aP,(x.d.book.bF,(x.d.aM.a0.v,(x.d.aM.a0.be,(x.d.aM.a0.bY,(x.d.aM.a0.gone,(x.d.aM.a0.bc,(x.d.aM.a0.binds,(x.d.aM.a1.v,(x.d.aM.a1.be,(x.d.aM.a1.bY,(x.d.aM.a1.gone,(x.d.aM.a1.bc,(x.d.aM.a1.binds,(x.d.aM.a2.v,(x.d.aM.a2.be,(x.d.aM.a2.bY,(x.d.aM.a2.gone,(x.d.aM.a2.bc,(x.d.aM.a2.binds,(x.d.log,(x.d.dev.a0.aA.aD.aX,(x.d.dev.a0.aA.aD.ids,(x.d.dev.a0.aA.aD.used,(x.d.dev.a1.aA.aD.aX,(x.d.dev.a1.aA.aD.ids,(x.d.dev.a1.aA.aD.used,(x.d.dev.a2.aA.aD.aX,(x.d.dev.a2.aA.aD.ids,(x.d.dev.a2.aA.aD.used,(x.d.dev.a3.aA.aD.aX,(x.d.dev.a3.aA.aD.ids,(x.d.dev.a3.aA.aD.used,(x.d.dev.a4.aA.aD.aX,(x.d.dev.a4.aA.aD.ids,(x.d.dev.a4.aA.aD.used,(x.d.dev.a5.aA.aD.aX,(x.d.dev.a5.aA.aD.ids,(x.d.dev.a5.aA.aD.used,(x.d.lost,())))))))))))))))))))))))))))))))))))))))))))) (fun _=>rfl)
def eP:kT (az):=kO (kS 43 (kC (kP 0 0) kN) M6) (fun p=>p.2) (fun (x:az)=>(((),()),x)) (fun _=>rfl)
def xD:aE (List (C TL)) aO:=kO (kC kJ (kC kJ (kC kJ (kC kJ (kC kJ (kC kJ (kC (kG bh) (kC (kG aa) (kC (kG au) kN))))))))) (fun p=>(aO.mk p.1 p.2.1 (aI.mk p.2.2.1 p.2.2.2.1 p.2.2.2.2.1 p.2.2.2.2.2.1 p.2.2.2.2.2.2.1 p.2.2.2.2.2.2.2.1 (t8 p).1))) (fun (x:aO)=>(x.err,(x.n,(x.aD.device,(x.aD.aB,(x.aD.bC,(x.aD.last,(x.aD.aX,(x.aD.ids,(x.aD.used,())))))))))) (fun _=>rfl)
def me:kT (aO×az):=kO (kS 86 (kC (aE.xs (aE.sa xD)) kN) M6) (fun p=>(p.1.1,p.2)) (fun (x:aO×az)=>((x.1,()),x.2)) (fun _=>rfl)
def zH (p:az):Option (aO×az):=tv p
def GN:aT TL:=aT.one eP.dec zH .normal me.aJ
def GQ:cL:=[(129,mr),(39,jY)]
def GJ:Env:=aY tab sl sh [(84,Va),(128,mZ)] [(129,(.rd 89 66)),(39,.keep)]
theorem W4:bK PR (bJ GQ sZ) GJ:=aZ base (aC (Uy.ae rfl aN) (aC (o4.ae rfl aN) aN)) (aC (oD qg rfl) (aC (oD jq rfl) aN))
theorem Wp (x:az):Out.run (bO GQ sZ) (eZ GJ 12 20 84 (eP.aJ x)) (ef me)=zH x:=by kernel_rfl
theorem XN:ez PR 84 GN:=fW W4 (loops:=12) (n:=20) Uy.enters eP me zH Wp
def hP (i1:Int)(i2:Int)(i3:Int):Option Bool :=
 some (cond (decide (i1≥i2)) (decide (i1≤i3)) false)
def GV (p:Int×Int×Int):Option Bool:=hP p.1 p.2.1 p.2.2
def mc:aV TL:=aV.of (DA.cons dI (DA.cons dI (DA.one dI))) GV (DA.one dB)
theorem Ws:bi [] [] (aY tab sl sh [(122,UN)] []) 122 (DA.cons dI (DA.cons dI (DA.one dI))) GV (DA.one dB):=fun _=>by kernel_rfl
theorem qb:bU PR 122 .pure mc:=bj Ws (aZ base (aC (Rf.ae rfl aN) aN) aN) (.inr rfl) Rf.enters
def fO (lx1:aI):Option aI :=
 cond (fits lx1.aX.length)
 (cond (fits lx1.ids.length)
 (cond (fits lx1.used.length)
 (some lx1)
 none)
 none)
 none
def zS (p:aI):Option aI:=fO p
def mj:aT TL:=aT.one jr.dec zS .normal jp.aJ
def G8:Env:=aY tab sl sh [(151,UI)] [(91,(.dZ 133)),(92,(.dZ 153)),(93,(.dZ 3))]
theorem Wh:bK PR (bJ cZ sZ) G8:=aZ base (aC (SX.ae rfl aN) aN) (aC (dx R5) (aC (dx yI) (aC (dx yL) aN)))
theorem XT (x:aI):Out.run (bO cZ sZ) (eZ G8 12 20 151 (jr.aJ x)) (ef jp)=zS x:=by kernel_rfl
theorem qc:ez PR 151 mj:=fW Wh (loops:=12) (n:=20) SX.enters jr jp zS XT
def aAF (i1:Int)(i2:Int)(bx1:aG)(bx2:aG):Option ((Int×Int×aG×aG)⊕(aG×aG)) :=
 cond (decide (i2 < i1))
 (cond (decide (0≤i2))
 (cond (decide (i2 < (bx1.aP.length:Int)))
 (ob (bx1.aP[i2.toNat]?) fun e0 =>
 ob (fO e0) fun y1 =>
 cond (decide (0≤i2))
 (cond (decide (i2 < (bx1.aP.length:Int)))
 (ob (bx1.aP[i2.toNat]?) fun _ =>
 some (.inl (i1,(aF (i2+1)),(aG.mk bx1.ak bx1.free (bx1.aP.set i2.toNat y1) bx1.bF),bx2)))
 none)
 none)
 none)
 none)
 (some (.inr (bx1,bx2)))
def BI (p:Int×Int×aG×aG):Option ((Int×Int×aG×aG)⊕(aG×aG)):=aAF p.1 p.2.1 p.2.2.1 p.2.2.2
def Qr (i1:Int)(i2:Int)(bx1:aG)(bx2:aG):Option (aG×aG):=bm BI ((i1 - i2).toNat+2) (i1,i2,bx1,bx2)
def MJ:aT TL:=aT.one kz.dec (fun p=>Qr p.1 p.2.1 p.2.2.1 p.2.2.2) (.exit 0) nO.aJ
def Ll:sL:=[(151,mj)]
def P7:Env:=aY tab sl sh [] [(151,.sum)]
theorem aAr:bK PR (bJ cZ Ll) P7:=aZ base aN (aC (dj rfl qc) aN)
theorem aCG (x:Int×Int×aG×aG):Out.run (bO cZ Ll) (bp P7 12 20 ot.an DB (ag (a8 ot.body) 3) (kz.aJ x)) (back kz nO fun e=>ck e (.exit 0))=BI x:=by kernel_rfl
theorem aDv:bZ PR (bx MJ) TM DB (ag (a8 ot.body) 3) :=
  dd aAr (loops:=12) (k:=20) (an:=ot.an) (by kernel_rfl) (aR.cI rfl Ec.keys (aC (.inl (by kernel_rfl)) aN)) kz nO (.exit 0) rfl BI _ aCG (fun x y h=>⟨_,h⟩) (fun _=>cA.1 rfl)
def fP (bx1:aG):Option aG :=
 cond (fits bx1.ak.length)
 (cond (fits bx1.free.length)
 (cond (fits bx1.aP.length)
 (cond (fits bx1.bF.length)
 (ob (Qr (bx1.aP.length:Int) 0 bx1 (aG.mk [] [] [] [])) fun y0 =>
 some y0.1)
 none)
 none)
 none)
 none
def AF (p:aG):Option aG:=fP p
def ms:aT TL:=aT.one mw.dec AF .normal mu.aJ
def IM:sL:=[(224003,MJ)]
def Ha:Env:=aY tab sl sh [(124,ot)] [(126,(.dZ 65)),(92,(.dZ 153)),(127,(.dZ 43)),(93,(.dZ 3))]
theorem XG:bK PR (bJ cZ IM) Ha:=aZ base (aC (Ec.ae rfl (aC (lC aDv rfl) aN)) aN) (aC (dx QF) (aC (dx yI) (aC (dx QB) (aC (dx yL) aN))))
theorem Yh (x:aG):Out.run (bO cZ IM) (eZ Ha 12 20 124 (mw.aJ x)) (ef mu)=AF x:=by kernel_rfl
theorem qf:ez PR 124 ms:=fW XG (loops:=12) (n:=20) Ec.enters mw mu AF Yh
abbrev qX:=(List bl)×Int×Int×Int×ByteArray
def JN (l1:List bl)(i1:Int)(i2:Int)(i3:Int)(s1:ByteArray):Option ((qX)⊕(((Int×ByteArray)⊕(Int×ByteArray)))) :=
 cond (decide (i3 < i2))
 (cond (decide (0≤i3))
 (ob (l1[i3.toNat]?) fun e0 =>
 cond (dk e0.key s1)
 (some (.inr (.inr (i3,s1))))
 (some (.inl (l1,i1,i2,(aF (i3+1)),s1))))
 none)
 (some (.inr (.inl (i1,s1))))
def ui (p:qX):Option ((qX)⊕(((Int×ByteArray)⊕(Int×ByteArray)))):=JN p.1 p.2.1 p.2.2.1 p.2.2.2.1 p.2.2.2.2
def Rb (l1:List bl)(i1:Int)(i2:Int)(i3:Int)(s1:ByteArray):Option (((Int×ByteArray)⊕(Int×ByteArray))):=bm ui ((i2 - i3).toNat+2) (l1,i1,i2,i3,s1)
def wF:kT (qX):=kO (kS 1 (kC (kF cQ) (kC (aE.xs (aE.sc (aE.dK 149 [] [(0,0)]))) (kC kI (kC kI (kC kI kN))))) (kC (aE.var 0 9 (kC kE kN)) kN)) (fun p=>(p.1.1,p.1.2.2.1,p.1.2.2.2.1,p.1.2.2.2.2.1,p.2.1.1)) (fun (x:qX)=>((x.1,((),(x.2.1,(x.2.2.1,(x.2.2.2.1,()))))),((x.2.2.2.2,()),()))) (fun _=>rfl)
def nE:kT (Int×ByteArray):=kO (kS 2 (kC kI kN) (kC (aE.var 0 9 (kC kE kN)) kN)) (fun p=>(p.1.1,p.2.1.1)) (fun (x:Int×ByteArray)=>((x.1,()),((x.2,()),()))) (fun _=>rfl)
def NW:aT TL:=aT.two wF.dec (fun p=>Rb p.1 p.2.1 p.2.2.1 p.2.2.2.1 p.2.2.2.2) (.exit 0) .ret nE.aJ nE.aJ
def Pm:Env:=aY tab sl sh [(149,Tb)] []
theorem aAx:bK PR (bJ cZ sZ) Pm:=aZ base (aC (aJ1.ae rfl aN) aN) aN
theorem aC2 (x:qX):Out.run (bO cZ sZ) (bp Pm 12 20 o9.an DK (ag (a8 o9.body) 2) (wF.aJ x)) (cj wF nE nE (.exit 0) .ret)=ui x:=by kernel_rfl
theorem aDu:bZ PR (bx NW) T7 DK (ag (a8 o9.body) 2) :=
  dL aAx (loops:=12) (k:=20) (an:=o9.an) (by kernel_rfl) (aR.cI rfl Sa.keys (aC (.inl (by kernel_rfl)) aN)) wF nE nE (.exit 0) .ret rfl rfl ui _ aC2 (fun x y h=>⟨_,h⟩) (fun _=>cA.1 rfl)
def ml (bx1:aG)(s1:ByteArray):Option Int :=
 ob (Rb bx1.ak 0 (bx1.ak.length:Int) 0 s1) fun y0 =>
 two y0 (fun _ =>
 some (-1)) (fun b2 =>
 some b2.1)
def GI (p:aG×ByteArray):Option Int:=ml p.1 p.2
def td:aV TL:=aV.of (DA.cons (DT.agg dU) (DA.one (DT.one DI.str))) GI (DA.one dI)
theorem Wm:bi [] [(248002,NW)] (aY tab sl sh [(121,UR),(148,o9)] []) 121 (DA.cons (DT.agg dU) (DA.one (DT.one DI.str))) GI (DA.one dI):=fun _=>by kernel_rfl
theorem zF:bU PR 121 .pure td:=bj Wm (aZ base (aC (T9.ae rfl aN) (aC (Sa.ae rfl (aC (lC aDu rfl) aN)) aN)) aN) (.inr rfl) T9.enters
abbrev qV:=Int×(List Range)×Int×Int
def JV (i1:Int)(l1:List Range)(i2:Int)(i3:Int):Option ((qV)⊕(Int)) :=
 cond (decide (i3 < i2))
 (cond (decide (0≤i3))
 (ob (l1[i3.toNat]?) fun e0 =>
 some (.inl ((aF (i1+(aF (e0.bt - e0.from_)))),l1,i2,(aF (i3+1)))))
 none)
 (some (.inr i1))
def uq (p:qV):Option ((qV)⊕(Int)):=JV p.1 p.2.1 p.2.2.1 p.2.2.2
def RR (i1:Int)(l1:List Range)(i2:Int)(i3:Int):Option Int:=bm uq ((i2 - i3).toNat+2) (i1,l1,i2,i3)
def w3:kT (qV):=kO (kS 0 (kC kI (kC (kF aa) (kC kI (kC kI kN)))) kN) (fun ((z0,z1,z2,z3,_),_)=>(z0,z1,z2,z3)) (fun (x:qV)=>((x.1,(x.2.1,(x.2.2.1,(x.2.2.2,())))),())) (fun _=>rfl)
def ij:kT (Int):=kO (kS 0 (kC kI kN) kN) (fun p=>p.1.1) (fun (x:Int)=>((x,()),())) (fun _=>rfl)
def N8:aT TL:=aT.one w3.dec (fun p=>RR p.1 p.2.1 p.2.2.1 p.2.2.2) (.exit 0) ij.aJ
def Pl:Env:=aY tab sl sh [] []
theorem aAi:bK PR (bJ cZ sZ) Pl:=aZ base aN aN
theorem aB8 (x:qV):Out.run (bO cZ sZ) (bp Pl 12 20 oI.an CT (ag (a8 oI.body) 3) (w3.aJ x)) (back w3 ij fun e=>ck e (.exit 0))=uq x:=by kernel_rfl
theorem aEN:bZ PR (bx N8) Tj CT (ag (a8 oI.body) 3) :=
  dd aAi (loops:=12) (k:=20) (an:=oI.an) (by kernel_rfl) (aR.cI rfl Ee.keys (aC (.inl (by kernel_rfl)) aN)) w3 ij (.exit 0) rfl uq _ aB8 (fun x y h=>⟨_,h⟩) (fun _=>cA.1 rfl)
def wh (l1:List Range):Option Int :=
 ob (RR 0 l1 (l1.length:Int) 0) fun y0 =>
 some y0
def I6 (p:(List Range)):Option Int:=wh p
def Ih:aV TL:=aV.of (DA.one (DT.one dF)) I6 (DA.one dI)
theorem Y2:bi [] [(305003,N8)] (aY tab sl sh [(205,oI)] []) 205 (DA.one (DT.one dF)) I6 (DA.one dI):=fun _=>by kernel_rfl
theorem ZW:bU PR 205 .pure Ih:=bj Y2 (aZ base (aC (Ee.ae rfl (aC (lC aEN rfl) aN)) aN) aN) (.inr rfl) Ee.enters
def kv (l1:List Range):Option ((List Range)) :=
 cond (decide (0≤(l1.length:Int)))
 (cond (fits (((l1.length:Int)).toNat))
 (some ((l1.take (Nat.min l1.length ((List.replicate (((l1.length:Int)).toNat) (Range.mk 0 0)).length)))++(((List.replicate (((l1.length:Int)).toNat) (Range.mk 0 0)).take ((List.replicate (((l1.length:Int)).toNat) (Range.mk 0 0)).length)).drop (Nat.min l1.length ((List.replicate (((l1.length:Int)).toNat) (Range.mk 0 0)).length)))))
 none)
 none
def AJ:kT ((List Range)):=kO (kS 0 (kC (kF aa) kN) kN) (fun p=>p.1.1) (fun (x:(List Range))=>((x,()),())) (fun _=>rfl)
def AE:kT ((List Range)):=kO (kS 1 (kC (aE.xs (aE.sc (kA 0))) kN) (kC (kR 0 153 aa) kN)) (fun p=>p.2.1) (fun (x:(List Range))=>(((),()),(x,()))) (fun _=>rfl)
def zu (p:(List Range)):Option ((List Range)):=kv p
def uK:aT TL:=aT.one AJ.dec zu .normal AE.aJ
def HS:Env:=aY tab sl sh [(150,UF)] []
theorem XD:bK PR (bJ cZ sZ) HS:=aZ base (aC (T2.ae rfl aN) aN) aN
theorem Ys (x:(List Range)):Out.run (bO cZ sZ) (eZ HS 12 20 150 (AJ.aJ x)) (ef AE)=zu x:=by kernel_rfl
theorem zr:ez PR 150 uK:=fW XD (loops:=12) (n:=20) T2.enters AJ AE zu Ys
abbrev qW:=Int×(List Range)×(List Range)×(List Range)×Int×Int
def Kn (i1:Int)(l1:List Range)(l2:List Range)(l3:List Range)(i2:Int)(i3:Int):Option ((qW)⊕((List Range)×(List Range))) :=
 cond (decide (i3 < i2))
 (cond (decide (0≤i3))
 (ob (l3[i3.toNat]?) fun e0 =>
 cond (decide ((min2 i1 (aF (e0.bt - e0.from_))) > 0))
 (cond (fits ((l1++[(Range.mk e0.from_ (aF (e0.from_+(min2 i1 (aF (e0.bt - e0.from_))))))]).length))
 (cond (decide ((aF (e0.from_+(min2 i1 (aF (e0.bt - e0.from_))))) < e0.bt))
 (cond (fits ((l2++[(Range.mk (aF (e0.from_+(min2 i1 (aF (e0.bt - e0.from_))))) e0.bt)]).length))
 (some (.inl ((aF (i1 - (min2 i1 (aF (e0.bt - e0.from_))))),(l1++[(Range.mk e0.from_ (aF (e0.from_+(min2 i1 (aF (e0.bt - e0.from_))))))]),(l2++[(Range.mk (aF (e0.from_+(min2 i1 (aF (e0.bt - e0.from_))))) e0.bt)]),l3,i2,(aF (i3+1)))))
 none)
 (some (.inl ((aF (i1 - (min2 i1 (aF (e0.bt - e0.from_))))),(l1++[(Range.mk e0.from_ (aF (e0.from_+(min2 i1 (aF (e0.bt - e0.from_))))))]),l2,l3,i2,(aF (i3+1))))))
 none)
 (cond (decide ((aF (e0.from_+(min2 i1 (aF (e0.bt - e0.from_))))) < e0.bt))
 (cond (fits ((l2++[(Range.mk (aF (e0.from_+(min2 i1 (aF (e0.bt - e0.from_))))) e0.bt)]).length))
 (some (.inl ((aF (i1 - (min2 i1 (aF (e0.bt - e0.from_))))),l1,(l2++[(Range.mk (aF (e0.from_+(min2 i1 (aF (e0.bt - e0.from_))))) e0.bt)]),l3,i2,(aF (i3+1)))))
 none)
 (some (.inl ((aF (i1 - (min2 i1 (aF (e0.bt - e0.from_))))),l1,l2,l3,i2,(aF (i3+1)))))))
 none)
 (some (.inr (l1,l2)))
def uo (p:qW):Option ((qW)⊕((List Range)×(List Range))):=Kn p.1 p.2.1 p.2.2.1 p.2.2.2.1 p.2.2.2.2.1 p.2.2.2.2.2
def Qp (i1:Int)(l1:List Range)(l2:List Range)(l3:List Range)(i2:Int)(i3:Int):Option ((List Range)×(List Range)):=bm uo ((i2 - i3).toNat+2) (i1,l1,l2,l3,i2,i3)
def wl:kT (qW):=kO (kS 2 (kC kI (kC (aE.xs (aE.sc (kA 0))) (kC (aE.xs (aE.sc (kA 1))) (kC (kF aa) (kC kI (kC kI kN)))))) (kC (kR 0 153 aa) (kC (kR 1 153 aa) kN))) (fun ((z0,_,_,z1,z2,z3,_),z4,z5,_)=>(z0,z4,z5,z1,z2,z3)) (fun (x:qW)=>((x.1,((),((),(x.2.2.2.1,(x.2.2.2.2.1,(x.2.2.2.2.2,())))))),(x.2.1,(x.2.2.1,())))) (fun _=>rfl)
def BU:kT ((List Range)×(List Range)):=kO (kS 4 (kC (aE.xs (aE.sc (kA 2))) (kC (aE.xs (aE.sc (kA 3))) kN)) (kC (kR 2 153 aa) (kC (kR 3 153 aa) kN))) (fun p=>(p.2.1,p.2.2.1)) (fun (x:(List Range)×(List Range))=>(((),((),())),(x.1,(x.2,())))) (fun _=>rfl)
def M3:aT TL:=aT.one wl.dec (fun p=>Qp p.1 p.2.1 p.2.2.1 p.2.2.2.1 p.2.2.2.2.1 p.2.2.2.2.2) (.exit 1) BU.aJ
def OT:Env:=aY tab sl sh [] []
theorem aBS:bK PR (bJ cZ sZ) OT:=aZ base aN aN
theorem aDB (x:qW):Out.run (bO cZ sZ) (bp OT 12 20 oa.an Cn (ag (a8 oa.body) 6) (wl.aJ x)) (back wl BU fun e=>ck e (.exit 1))=uo x:=by kernel_rfl
theorem aEb:bZ PR (bx M3) T5 Cn (ag (a8 oa.body) 6) :=
  dd aBS (loops:=12) (k:=20) (an:=oa.an) (by kernel_rfl) (aR.cI rfl Ek.keys (aC (.inl (by kernel_rfl)) aN)) wl BU (.exit 1) rfl uo _ aDB (fun x y h=>⟨_,h⟩) (fun _=>cA.1 rfl)
def rP (l1:List Range)(i1:Int):Option ((List Range)×(List Range)×Int) :=
 cond (decide (i1 < 0))
 (some ([],[],1))
 (ob (wh l1) fun r0 =>
 cond (decide (i1 > r0))
 (some ([],[],14))
 (ob (Qp i1 [] [] l1 (l1.length:Int) 0) fun y1 =>
 ob (kv y1.1) fun y2 =>
 ob (kv y1.2) fun y3 =>
 some (y2,y3,0)))
def Hg (p:(List Range)×Int):Option ((List Range)×(List Range)×Int):=rP p.1 p.2
def HH:aV TL:=aV.of (DA.cons (DT.one dF) (DA.one dI)) Hg (DA.cons (DT.one dF) (DA.cons (DT.one dF) (DA.one dI)))
theorem Xe:bi [(205,Ih)] [(150,uK),(279006,M3)] (aY tab sl sh [(179,oa)] [(205,.pure),(150,.sum)]) 179 (DA.cons (DT.one dF) (DA.one dI)) Hg (DA.cons (DT.one dF) (DA.cons (DT.one dF) (DA.one dI))):=fun _=>by kernel_rfl
theorem Ym:bU PR 179 .keep HH:=bj Xe (aZ base (aC (Ek.ae rfl (aC (lC aEb rfl) aN)) aN) (aC (oD ZW rfl) (aC (dj rfl zr) aN))) (.inl rfl) Ek.enters
abbrev fT:=(List Range)×(List Range)×Int×Range
def KY (l1:List Range)(l2:List Range)(i1:Int)(rx1:Range):Option ((fT)⊕(fT)) :=
 cond (decide (i1 < (l1.length:Int)))
 (cond (decide (0≤i1))
 (ob (l1[i1.toNat]?) fun e0 =>
 cond (decide (e0.bt < rx1.from_))
 (cond (decide (0≤i1))
 (ob (l1[i1.toNat]?) fun e1 =>
 cond (fits ((l2++[e1]).length))
 (some (.inl (l1,(l2++[e1]),(aF (i1+1)),rx1)))
 none)
 none)
 (some (.inr (l1,l2,i1,rx1))))
 none)
 (some (.inr (l1,l2,i1,rx1)))
def vP (p:fT):Option ((fT)⊕(fT)):=KY p.1 p.2.1 p.2.2.1 p.2.2.2
def R8 (l1:List Range)(l2:List Range)(i1:Int)(rx1:Range):Option fT:=bm vP (((l1.length:Int) - i1).toNat+2) (l1,l2,i1,rx1)
def kr:kT (fT):=kO (kS 2 (kC (kF aa) (kC (kP 0 0) (kC (aE.xs (aE.sc (kA 1))) (kC kI kN)))) (kC (aE.var 0 153 (kC kJ (kC kJ kN))) (kC (kR 1 153 aa) kN))) (fun p=>(p.1.1,p.2.2.1,p.1.2.2.2.1,(Range.mk p.2.1.1 p.2.1.2.1))) (fun (x:fT)=>((x.1,((),((),(x.2.2.1,())))),((x.2.2.2.from_,(x.2.2.2.bt,())),(x.2.1,())))) (fun _=>rfl)
def B4:kT (fT):=kO (kS 4 (kC (kF aa) (kC (kP 0 0) (kC (aE.xs (aE.sc (kA 3))) (kC kI kN)))) (kC (aE.var 0 153 (kC kJ (kC kJ kN))) (kC (kR 3 153 aa) kN))) (fun p=>(p.1.1,p.2.2.1,p.1.2.2.2.1,(Range.mk p.2.1.1 p.2.1.2.1))) (fun (x:fT)=>((x.1,((),((),(x.2.2.1,())))),((x.2.2.2.from_,(x.2.2.2.bt,())),(x.2.1,())))) (fun _=>rfl)
def NE:aT TL:=aT.one kr.dec (fun p=>R8 p.1 p.2.1 p.2.2.1 p.2.2.2) (.exit 0) B4.aJ
def OB:Env:=aY tab sl sh [] []
theorem aAK:bK PR (bJ cZ sZ) OB:=aZ base aN aN
theorem aCq (x:fT):Out.run (bO cZ sZ) (bp OB 12 20 jd.an DG (ag (a8 jd.body) 5) (kr.aJ x)) (back kr B4 fun e=>ck e (.exit 0))=vP x:=by kernel_rfl
theorem aDX:bZ PR (bx NE) E5 DG (ag (a8 jd.body) 5) :=
  dd aAK (loops:=12) (k:=20) (an:=jd.an) (by kernel_rfl) (aR.cI rfl ye.keys (aC (.inl (by kernel_rfl)) (aC (.inl (by kernel_rfl)) aN))) kr B4 (.exit 0) rfl vP _ aCq (fun x y h=>⟨_,h⟩) (fun _=>cA.1 rfl)
def KD (l1:List Range)(l2:List Range)(i1:Int)(rx1:Range):Option ((fT)⊕(fT)) :=
 cond (decide (i1 < (l1.length:Int)))
 (cond (decide (0≤i1))
 (ob (l1[i1.toNat]?) fun e0 =>
 cond (decide (e0.from_≤rx1.bt))
 (cond (decide (0≤i1))
 (ob (l1[i1.toNat]?) fun e1 =>
 cond (decide (0≤i1))
 (ob (l1[i1.toNat]?) fun e2 =>
 some (.inl (l1,l2,(aF (i1+1)),(Range.mk (min2 rx1.from_ e1.from_) (max2 rx1.bt e2.bt)))))
 none)
 none)
 (some (.inr (l1,l2,i1,rx1))))
 none)
 (some (.inr (l1,l2,i1,rx1)))
def vJ (p:fT):Option ((fT)⊕(fT)):=KD p.1 p.2.1 p.2.2.1 p.2.2.2
def RZ (l1:List Range)(l2:List Range)(i1:Int)(rx1:Range):Option fT:=bm vJ (((l1.length:Int) - i1).toNat+2) (l1,l2,i1,rx1)
def At:kT (fT):=kO (kS 4 (kC (kF aa) (kC (kP 0 0) (kC (aE.xs (aE.sc (kA 1))) (kC kI kN)))) (kC (aE.var 0 153 (kC kJ (kC kJ kN))) (kC (kR 1 153 aa) kN))) (fun p=>(p.1.1,p.2.2.1,p.1.2.2.2.1,(Range.mk p.2.1.1 p.2.1.2.1))) (fun (x:fT)=>((x.1,((),((),(x.2.2.1,())))),((x.2.2.2.from_,(x.2.2.2.bt,())),(x.2.1,())))) (fun _=>rfl)
def ND:aT TL:=aT.one kr.dec (fun p=>RZ p.1 p.2.1 p.2.2.1 p.2.2.2) (.exit 2) At.aJ
def Oe:Env:=aY tab sl sh [] []
theorem aA0:bK PR (bJ cZ sZ) Oe:=aZ base aN aN
theorem aBo (x:fT):Out.run (bO cZ sZ) (bp Oe 12 20 jd.an CW (ag (a8 jd.body) 8) (kr.aJ x)) (back kr At fun e=>ck e (.exit 2))=vJ x:=by kernel_rfl
theorem aEl:bZ PR (bx ND) E5 CW (ag (a8 jd.body) 8) :=
  dd aA0 (loops:=12) (k:=20) (an:=jd.an) (by kernel_rfl) (aR.cI rfl ye.keys (aC (.inl (by kernel_rfl)) (aC (.inl (by kernel_rfl)) aN))) kr At (.exit 2) rfl vJ _ aBo (fun x y h=>⟨_,h⟩) (fun _=>cA.1 rfl)
def nK (l1:List Range)(rx1:Range):Option ((List Range)) :=
 cond (cond (decide (rx1.from_≥rx1.bt)) true (cond (decide (rx1.from_ < 0)) true (decide (rx1.bt > 1073741824))))
 (ob (kv l1) fun y0 =>
 some y0)
 (ob (R8 l1 [] 0 rx1) fun y1 =>
 ob (RZ y1.1 y1.2.1 y1.2.2.1 y1.2.2.2) fun y2 =>
 cond (decide (0≤(y2.2.1.length:Int)))
 (cond (decide ((y2.2.1.length:Int)=(y2.2.1.length:Int)))
 (cond (decide ((y2.2.1.length:Int)≤(y2.2.1.length:Int)))
 (cond (fits (((y2.2.1.take (((y2.2.1.length:Int)).toNat))++[y2.2.2.2]).length))
 (cond (decide (0≤y2.2.2.1))
 (cond (decide (y2.2.2.1≤(y2.1.length:Int)))
 (cond (decide ((y2.1.length:Int)≤(y2.1.length:Int)))
 (cond (fits ((((y2.2.1.take (((y2.2.1.length:Int)).toNat))++[y2.2.2.2])++((y2.1.take (((y2.1.length:Int)).toNat)).drop y2.2.2.1.toNat)).length))
 (ob (kv (((y2.2.1.take (((y2.2.1.length:Int)).toNat))++[y2.2.2.2])++((y2.1.take (((y2.1.length:Int)).toNat)).drop y2.2.2.1.toNat))) fun y3 =>
 some y3)
 none)
 none)
 none)
 none)
 none)
 none)
 none)
 none)
def Ij (p:(List Range)×Range):Option ((List Range)):=nK p.1 p.2
def uD:aV TL:=aV.of (DA.cons (DT.one dF) (DA.one (DT.agg xP))) Ij (DA.one (DT.one dF))
theorem Yi:bi [] [(150,uK),(223005,NE),(223008,ND)] (aY tab sl sh [(123,jd)] [(150,.sum)]) 123 (DA.cons (DT.one dF) (DA.one (DT.agg xP))) Ij (DA.one (DT.one dF)):=fun _=>by kernel_rfl
theorem zo:bU PR 123 .keep uD:=bj Yi (aZ base (aC (ye.ae rfl (aC (lC aDX rfl) (aC (lC aEl rfl) aN))) aN) (aC (dj rfl zr) aN)) (.inl rfl) ye.enters
abbrev qT:=Int×(List Range)×Int×Int×aG×aI×Want
def Iq (i1:Int)(l1:List Range)(i2:Int)(i3:Int)(bx1:aG)(lx1:aI)(w1:Want):Option ((qT)⊕(Int×aG×aI×Want)) :=
 cond (decide (i3 < i2))
 (cond (decide (0≤i3))
 (ob (l1[i3.toNat]?) fun e0 =>
 ob (nK lx1.ids e0) fun r1 =>
 some (.inl (i1,l1,i2,(aF (i3+1)),bx1,(aI.mk lx1.device lx1.aB lx1.bC lx1.last lx1.aX r1 lx1.used),w1)))
 none)
 (some (.inr (i1,bx1,lx1,w1)))
def uP (p:qT):Option ((qT)⊕(Int×aG×aI×Want)):=Iq p.1 p.2.1 p.2.2.1 p.2.2.2.1 p.2.2.2.2.1 p.2.2.2.2.2.1 p.2.2.2.2.2.2
def xi (i1:Int)(l1:List Range)(i2:Int)(i3:Int)(bx1:aG)(lx1:aI)(w1:Want):Option (Int×aG×aI×Want):=bm uP ((i2 - i3).toNat+2) (i1,l1,i2,i3,bx1,lx1,w1)
def sS:aE (List (C TL)) Want:=kO (kC kE (kC kJ (kC kJ (kC kJ kN)))) (fun p=>(Want.mk p.1 p.2.1 p.2.2.1 p.2.2.2.1)) (fun (x:Want)=>(x.key,(x.cO,(x.cY,(x.ids,()))))) (fun _=>rfl)
def uh:kT (qT):=kO (kS 8 (kC (kP 0 0) (kC (kP 1 0) (kC (kP 2 0) (kC kI (kC (kF aa) (kC kI (kC kI kN))))))) (kC (aE.var 0 29 (kC (kA 3) (kC (kG aa) (kC (kA 4) (kC (kA 5) kN))))) (kC (aE.var 1 43 (kC kJ (kC kJ (kC kJ (kC kJ (kC (kA 6) (kC (kG aa) (kC (kA 7) kN)))))))) (kC (aE.var 2 105 sS) (kC (kR 3 65 cQ) (kC (kR 4 43 cS) (kC (kR 5 3 au) (kC (kR 6 133 bh) (kC (kR 7 3 au) kN))))))))) (fun ((_,_,_,z0,z1,z2,z3,_),(_,z4,_),(z5,z6,z7,z8,_,z9,_),z10,z11,z12,z13,z14,z15,_)=>(z0,z1,z2,z3,(aG.mk z11 z4 z12 z13),(aI.mk z5 z6 z7 z8 z14 z9 z15),z10)) (fun (x:qT)=>(((),((),((),(x.1,(x.2.1,(x.2.2.1,(x.2.2.2.1,()))))))),(((),(x.2.2.2.2.1.free,((),((),())))),((x.2.2.2.2.2.1.device,(x.2.2.2.2.2.1.aB,(x.2.2.2.2.2.1.bC,(x.2.2.2.2.2.1.last,((),(x.2.2.2.2.2.1.ids,((),()))))))),(x.2.2.2.2.2.2,(x.2.2.2.2.1.ak,(x.2.2.2.2.1.aP,(x.2.2.2.2.1.bF,(x.2.2.2.2.2.1.aX,(x.2.2.2.2.2.1.used,())))))))))) (fun _=>rfl)
def AQ:kT (Int×aG×aI×Want):=kO (kS 16 (kC (kP 0 0) (kC (kP 1 0) (kC (kP 2 0) (kC kI kN)))) (kC (aE.var 0 29 (kC (kA 3) (kC (kG aa) (kC (kA 4) (kC (kA 5) kN))))) (kC (aE.var 1 43 (kC kJ (kC kJ (kC kJ (kC kJ (kC (kA 6) (kC (kG aa) (kC (kA 7) kN)))))))) (kC (aE.var 2 105 sS) (kC (kR 3 65 cQ) (kC (kR 4 43 cS) (kC (kR 5 3 au) (kC (kR 6 133 bh) (kC (kR 7 3 au) kN))))))))) (fun ((_,_,_,z0,_),(_,z1,_),(z2,z3,z4,z5,_,z6,_),z7,z8,z9,z10,z11,z12,_)=>(z0,(aG.mk z8 z1 z9 z10),(aI.mk z2 z3 z4 z5 z11 z6 z12),z7)) (fun (x:Int×aG×aI×Want)=>(((),((),((),(x.1,())))),(((),(x.2.1.free,((),((),())))),((x.2.2.1.device,(x.2.2.1.aB,(x.2.2.1.bC,(x.2.2.1.last,((),(x.2.2.1.ids,((),()))))))),(x.2.2.2,(x.2.1.ak,(x.2.1.aP,(x.2.1.bF,(x.2.2.1.aX,(x.2.2.1.used,())))))))))) (fun _=>rfl)
def LC:aT TL:=aT.one uh.dec (fun p=>xi p.1 p.2.1 p.2.2.1 p.2.2.2.1 p.2.2.2.2.1 p.2.2.2.2.2.1 p.2.2.2.2.2.2) (.exit 1) AQ.aJ
def KB:cL:=[(123,uD)]
def Nf:Env:=aY tab sl sh [] [(123,.keep)]
theorem Zg:bK PR (bJ KB sZ) Nf:=aZ base aN (aC (oD zo rfl) aN)
theorem aA1 (x:qT):Out.run (bO KB sZ) (bp Nf 12 20 oT.an Bu (ag (a8 oT.body) 15) (uh.aJ x)) (back uh AQ fun e=>ck e (.exit 1))=uP x:=by kernel_rfl
theorem aCO:bZ PR (bx LC) Sj Bu (ag (a8 oT.body) 15) :=
  dd Zg (loops:=12) (k:=20) (an:=oT.an) (by kernel_rfl) (aR.cI rfl FD.keys (aC (.inl (by kernel_rfl)) aN)) uh AQ (.exit 1) rfl uP _ aA1 (fun x y h=>⟨_,h⟩) (fun _=>cA.1 rfl)
def kq (w1:Want)(bx1:aG)(lx1:aI):Option (Int×aG×aI) :=
 ob (ml bx1 w1.key) fun r0 =>
 ob (hP w1.cO 0 2199023255552) fun r1 =>
 cond (!r1)
 (some (1,bx1,lx1))
 (ob (hP w1.cY 0 2199023255552) fun r2 =>
 cond (!r2)
 (some (1,bx1,lx1))
 (ob (hP w1.ids 0 50) fun r3 =>
 cond (!r3)
 (some (1,bx1,lx1))
 (cond (cond (decide (r0 < 0)) (!dk w1.key dO) false)
 (some (2,bx1,lx1))
 (cond (cond (dk w1.key dO) (decide ((aF (w1.cO+w1.cY)) > 0)) false)
 (some (1,bx1,lx1))
 (cond (!dk w1.key dO)
 (cond (decide (0≤r0))
 (cond (decide (r0 < (bx1.ak.length:Int)))
 (ob (bx1.ak[r0.toNat]?) fun e4 =>
 cond (decide (e4.cO < w1.cO))
 (some (14,bx1,lx1))
 (cond (decide (0≤r0))
 (cond (decide (r0 < (bx1.ak.length:Int)))
 (ob (bx1.ak[r0.toNat]?) fun e5 =>
 cond (decide (e5.cY < w1.cY))
 (some (14,bx1,lx1))
 (ob (rP bx1.free w1.ids) fun r6 =>
 cond (r6.2.2 != 0)
 (some (r6.2.2,bx1,lx1))
 (ob (xi r0 r6.1 (r6.1.length:Int) 0 (aG.mk bx1.ak r6.2.1 bx1.aP bx1.bF) lx1 w1) fun y7 =>
 cond (!dk y7.2.2.2.key dO)
 (cond (decide (0≤y7.1))
 (cond (decide (y7.1 < (y7.2.1.ak.length:Int)))
 (ob (y7.2.1.ak[y7.1.toNat]?) fun e8 =>
 cond (decide (0≤y7.1))
 (cond (decide (y7.1 < (y7.2.1.ak.length:Int)))
 (ob (y7.2.1.ak[y7.1.toNat]?) fun e9 =>
 cond (decide (0≤y7.1))
 (cond (decide (y7.1 < ((y7.2.1.ak.set y7.1.toNat (bl.mk e9.key e9.cC e9.lo e9.hi e9.start (aF (e8.cO - y7.2.2.2.cO)) e9.cY)).length:Int)))
 (ob ((y7.2.1.ak.set y7.1.toNat (bl.mk e9.key e9.cC e9.lo e9.hi e9.start (aF (e8.cO - y7.2.2.2.cO)) e9.cY))[y7.1.toNat]?) fun e10 =>
 cond (decide (0≤y7.1))
 (cond (decide (y7.1 < ((y7.2.1.ak.set y7.1.toNat (bl.mk e9.key e9.cC e9.lo e9.hi e9.start (aF (e8.cO - y7.2.2.2.cO)) e9.cY)).length:Int)))
 (ob ((y7.2.1.ak.set y7.1.toNat (bl.mk e9.key e9.cC e9.lo e9.hi e9.start (aF (e8.cO - y7.2.2.2.cO)) e9.cY))[y7.1.toNat]?) fun e11 =>
 cond (fits ((y7.2.2.1.aX++[(Slice.mk y7.2.2.2.key y7.2.2.2.cO y7.2.2.2.cY 0 0)]).length))
 (some (0,(aG.mk ((y7.2.1.ak.set y7.1.toNat (bl.mk e9.key e9.cC e9.lo e9.hi e9.start (aF (e8.cO - y7.2.2.2.cO)) e9.cY)).set y7.1.toNat (bl.mk e11.key e11.cC e11.lo e11.hi e11.start e11.cO (aF (e10.cY - y7.2.2.2.cY)))) y7.2.1.free y7.2.1.aP y7.2.1.bF),(aI.mk y7.2.2.1.device y7.2.2.1.aB y7.2.2.1.bC y7.2.2.1.last (y7.2.2.1.aX++[(Slice.mk y7.2.2.2.key y7.2.2.2.cO y7.2.2.2.cY 0 0)]) y7.2.2.1.ids y7.2.2.1.used)))
 none)
 none)
 none)
 none)
 none)
 none)
 none)
 none)
 none)
 (some (0,y7.2.1,y7.2.2.1)))))
 none)
 none))
 none)
 none)
 (ob (rP bx1.free w1.ids) fun r12 =>
 cond (r12.2.2 != 0)
 (some (r12.2.2,bx1,lx1))
 (ob (xi r0 r12.1 (r12.1.length:Int) 0 (aG.mk bx1.ak r12.2.1 bx1.aP bx1.bF) lx1 w1) fun y13 =>
 cond (!dk y13.2.2.2.key dO)
 (cond (decide (0≤y13.1))
 (cond (decide (y13.1 < (y13.2.1.ak.length:Int)))
 (ob (y13.2.1.ak[y13.1.toNat]?) fun e14 =>
 cond (decide (0≤y13.1))
 (cond (decide (y13.1 < (y13.2.1.ak.length:Int)))
 (ob (y13.2.1.ak[y13.1.toNat]?) fun e15 =>
 cond (decide (0≤y13.1))
 (cond (decide (y13.1 < ((y13.2.1.ak.set y13.1.toNat (bl.mk e15.key e15.cC e15.lo e15.hi e15.start (aF (e14.cO - y13.2.2.2.cO)) e15.cY)).length:Int)))
 (ob ((y13.2.1.ak.set y13.1.toNat (bl.mk e15.key e15.cC e15.lo e15.hi e15.start (aF (e14.cO - y13.2.2.2.cO)) e15.cY))[y13.1.toNat]?) fun e16 =>
 cond (decide (0≤y13.1))
 (cond (decide (y13.1 < ((y13.2.1.ak.set y13.1.toNat (bl.mk e15.key e15.cC e15.lo e15.hi e15.start (aF (e14.cO - y13.2.2.2.cO)) e15.cY)).length:Int)))
 (ob ((y13.2.1.ak.set y13.1.toNat (bl.mk e15.key e15.cC e15.lo e15.hi e15.start (aF (e14.cO - y13.2.2.2.cO)) e15.cY))[y13.1.toNat]?) fun e17 =>
 cond (fits ((y13.2.2.1.aX++[(Slice.mk y13.2.2.2.key y13.2.2.2.cO y13.2.2.2.cY 0 0)]).length))
 (some (0,(aG.mk ((y13.2.1.ak.set y13.1.toNat (bl.mk e15.key e15.cC e15.lo e15.hi e15.start (aF (e14.cO - y13.2.2.2.cO)) e15.cY)).set y13.1.toNat (bl.mk e17.key e17.cC e17.lo e17.hi e17.start e17.cO (aF (e16.cY - y13.2.2.2.cY)))) y13.2.1.free y13.2.1.aP y13.2.1.bF),(aI.mk y13.2.2.1.device y13.2.2.1.aB y13.2.2.1.bC y13.2.2.1.last (y13.2.2.1.aX++[(Slice.mk y13.2.2.2.key y13.2.2.2.cO y13.2.2.2.cY 0 0)]) y13.2.2.1.ids y13.2.2.1.used)))
 none)
 none)
 none)
 none)
 none)
 none)
 none)
 none)
 none)
 (some (0,y13.2.1,y13.2.2.1)))))))))
def zY:kT (Want×aG×aI):=kO (kS 7 (kC (kP 0 0) (kC (kP 1 0) (kC (aE.xs (aE.sa sS)) kN))) (kC (aE.var 0 29 (kC (kA 2) (kC (kG aa) (kC (kA 3) (kC (kA 4) kN))))) (kC (aE.var 1 43 (kC kJ (kC kJ (kC kJ (kC kJ (kC (kA 5) (kC (kG aa) (kC (kA 6) kN)))))))) (kC (kR 2 65 cQ) (kC (kR 3 43 cS) (kC (kR 4 3 au) (kC (kR 5 133 bh) (kC (kR 6 3 au) kN)))))))) (fun ((_,_,z0,_),(_,z1,_),(z2,z3,z4,z5,_,z6,_),z7,z8,z9,z10,z11,_)=>(z0,(aG.mk z7 z1 z8 z9),(aI.mk z2 z3 z4 z5 z10 z6 z11))) (fun (x:Want×aG×aI)=>(((),((),(x.1,()))),(((),(x.2.1.free,((),((),())))),((x.2.2.device,(x.2.2.aB,(x.2.2.bC,(x.2.2.last,((),(x.2.2.ids,((),()))))))),(x.2.1.ak,(x.2.1.aP,(x.2.1.bF,(x.2.2.aX,(x.2.2.used,()))))))))) (fun _=>rfl)
def zb:kT (Int×aG×aI):=kO (kS 19 (kC kI kN) (kC (aE.var 0 29 (kC (kA 14) (kC (kG aa) (kC (kA 15) (kC (kA 16) kN))))) (kC (aE.var 1 43 (kC kJ (kC kJ (kC kJ (kC kJ (kC (kA 17) (kC (kG aa) (kC (kA 18) kN)))))))) (kC (aE.dead 2) (kC (aE.dead 3) (kC (aE.dead 4) (kC (aE.dead 5) (kC (aE.dead 6) (kC (kR 14 65 cQ) (kC (kR 15 43 cS) (kC (kR 16 3 au) (kC (kR 17 133 bh) (kC (kR 18 3 au) kN))))))))))))) (fun p=>(p.1.1,(aG.mk p.2.2.2.2.2.2.2.2.1 p.2.1.2.1 (t8 p.2).1 (t8 p.2).2.1),(aI.mk p.2.2.1.1 p.2.2.1.2.1 p.2.2.1.2.2.1 p.2.2.1.2.2.2.1 (t8 p.2).2.2.1 p.2.2.1.2.2.2.2.2.1 (t8 p.2).2.2.2.1))) (fun (x:Int×aG×aI)=>((x.1,()),(((),(x.2.1.free,((),((),())))),((x.2.2.device,(x.2.2.aB,(x.2.2.bC,(x.2.2.last,((),(x.2.2.ids,((),()))))))),((),((),((),((),((),(x.2.1.ak,(x.2.1.aP,(x.2.1.bF,(x.2.2.aX,(x.2.2.used,())))))))))))))) (fun _=>rfl)
def zX (p:Want×aG×aI):Option (Int×aG×aI):=kq p.1 p.2.1 p.2.2
def HV:aT TL:=aT.one zY.dec zX .normal zb.aJ
def Hl:cL:=[(121,td),(122,mc),(179,HH)]
def HN:sL:=[(256015,LC)]
def Gj:Env:=aY tab sl sh [(156,oT)] [(121,.pure),(122,.pure),(179,.keep)]
theorem Wu:bK PR (bJ Hl HN) Gj:=aZ base (aC (FD.ae rfl (aC (lC aCO rfl) aN)) aN) (aC (oD zF rfl) (aC (oD qb rfl) (aC (oD Ym rfl) aN)))
theorem Xk (x:Want×aG×aI):Out.run (bO Hl HN) (eZ Gj 12 20 156 (zY.aJ x)) (ef zb)=zX x:=by kernel_rfl
theorem Yr:ez PR 156 HV:=fW Wu (loops:=12) (n:=20) FD.enters zY zb zX Xk
abbrev qU:=(List Want)×Int×Int×Int×Want
def Jr (l1:List Want)(i1:Int)(i2:Int)(i3:Int)(w1:Want):Option ((qU)⊕(((Int×Want)⊕(Int×Want)))) :=
 cond (decide (i3 < i2))
 (cond (decide (0≤i3))
 (ob (l1[i3.toNat]?) fun e0 =>
 cond (dk e0.key w1.key)
 (some (.inr (.inr (i3,w1))))
 (some (.inl (l1,i1,i2,(aF (i3+1)),w1))))
 none)
 (some (.inr (.inl (i1,w1))))
def u9 (p:qU):Option ((qU)⊕(((Int×Want)⊕(Int×Want)))):=Jr p.1 p.2.1 p.2.2.1 p.2.2.2.1 p.2.2.2.2
def EP (l1:List Want)(i1:Int)(i2:Int)(i3:Int)(w1:Want):Option (((Int×Want)⊕(Int×Want))):=bm u9 ((i2 - i3).toNat+2) (l1,i1,i2,i3,w1)
def w0:kT (qU):=kO (kS 1 (kC (kF fb) (kC (aE.xs (aE.sc (aE.dK 155 [] [(0,0)]))) (kC kI (kC kI (kC kI kN))))) (kC (aE.var 0 105 sS) kN)) (fun ((z0,_,z1,z2,z3,_),z4,_)=>(z0,z1,z2,z3,z4)) (fun (x:qU)=>((x.1,((),(x.2.1,(x.2.2.1,(x.2.2.2.1,()))))),(x.2.2.2.2,()))) (fun _=>rfl)
def mz:kT (Int×Want):=kO (kS 2 (kC kI kN) (kC (aE.var 0 105 sS) kN)) (fun p=>(p.1.1,p.2.1)) (fun (x:Int×Want)=>((x.1,()),(x.2,()))) (fun _=>rfl)
def N4:aT TL:=aT.two w0.dec (fun p=>EP p.1 p.2.1 p.2.2.1 p.2.2.2.1 p.2.2.2.2) (.exit 0) .ret mz.aJ mz.aJ
def Pe:Env:=aY tab sl sh [(155,Tz)] []
theorem Zw:bK PR (bJ cZ sZ) Pe:=aZ base (aC (aIS.ae rfl aN) aN) aN
theorem aCk (x:qU):Out.run (bO cZ sZ) (bp Pe 12 20 oy.an C6 (ag (a8 oy.body) 2) (w0.aJ x)) (cj w0 mz mz (.exit 0) .ret)=u9 x:=by kernel_rfl
theorem aEI:bZ PR (bx N4) TY C6 (ag (a8 oy.body) 2) :=
  dL Zw (loops:=12) (k:=20) (an:=oy.an) (by kernel_rfl) (aR.cI rfl SO.keys (aC (.inl (by kernel_rfl)) aN)) w0 mz mz (.exit 0) .ret rfl rfl u9 _ aCk (fun x y h=>⟨_,h⟩) (fun _=>cA.1 rfl)
abbrev qP:=(List Want)×Int×(List Want)×Int×Int×aG×Int×aG×aI×aG×aI
def K7 (l1:List Want)(i1:Int)(l2:List Want)(i2:Int)(i3:Int)(bx1:aG)(i4:Int)(bx2:aG)(lx1:aI)(bx3:aG)(lx2:aI):Option ((qP)⊕(((Int×aG×Int×aG×aI×aG×aI)⊕(Int×aG×Int×aG×aI×aG×aI×(List bl)×(List aI)×(List Int)×(List Slice)×(List Int))))) :=
 cond (decide (i3 < i2))
 (cond (decide (0≤i3))
 (ob (l2[i3.toNat]?) fun e0 =>
 ob (hP e0.cO 0 2199023255552) fun r1 =>
 cond (!r1)
 (ob (kq e0 bx3 lx2) fun y4 =>
 cond (y4.1 != 0)
 (ob (fP bx1) fun y5 =>
 some (.inr (.inr (y4.1,bx1,i4,y5,(aI.mk 0 0 0 0 [] [] []),y4.2.1,y4.2.2,bx2.ak,bx2.aP,bx2.bF,lx1.aX,lx1.used))))
 (some (.inl (l1,i1,l2,i2,(aF (i3+1)),bx1,i4,bx2,lx1,y4.2.1,y4.2.2))))
 (ob (hP e0.cY 0 2199023255552) fun r2 =>
 cond (!r2)
 (ob (kq e0 bx3 lx2) fun y6 =>
 cond (y6.1 != 0)
 (ob (fP bx1) fun y7 =>
 some (.inr (.inr (y6.1,bx1,i4,y7,(aI.mk 0 0 0 0 [] [] []),y6.2.1,y6.2.2,bx2.ak,bx2.aP,bx2.bF,lx1.aX,lx1.used))))
 (some (.inl (l1,i1,l2,i2,(aF (i3+1)),bx1,i4,bx2,lx1,y6.2.1,y6.2.2))))
 (ob (hP e0.ids 0 50) fun r3 =>
 cond (!(!r3))
 (cond (decide (0≤i3))
 (cond (decide (i3≤(l1.length:Int)))
 (ob (EP (l1.take i3.toNat) 0 ((l1.take i3.toNat).length:Int) 0 e0) fun y8 =>
 two y8 (fun a9 =>
 ob (kq a9.2 bx3 lx2) fun y12 =>
 cond (y12.1 != 0)
 (ob (fP bx1) fun y13 =>
 some (.inr (.inr (y12.1,bx1,i4,y13,(aI.mk 0 0 0 0 [] [] []),y12.2.1,y12.2.2,bx2.ak,bx2.aP,bx2.bF,lx1.aX,lx1.used))))
 (some (.inl (l1,i1,l2,i2,(aF (i3+1)),bx1,i4,bx2,lx1,y12.2.1,y12.2.2)))) (fun b10 =>
 cond (decide (b10.1≥0))
 (ob (fP bx1) fun y11 =>
 some (.inr (.inr (7,bx1,i4,y11,(aI.mk 0 0 0 0 [] [] []),bx3,lx2,bx2.ak,bx2.aP,bx2.bF,lx1.aX,lx1.used))))
 (ob (kq b10.2 bx3 lx2) fun y14 =>
 cond (y14.1 != 0)
 (ob (fP bx1) fun y15 =>
 some (.inr (.inr (y14.1,bx1,i4,y15,(aI.mk 0 0 0 0 [] [] []),y14.2.1,y14.2.2,bx2.ak,bx2.aP,bx2.bF,lx1.aX,lx1.used))))
 (some (.inl (l1,i1,l2,i2,(aF (i3+1)),bx1,i4,bx2,lx1,y14.2.1,y14.2.2))))))
 none)
 none)
 (ob (kq e0 bx3 lx2) fun y16 =>
 cond (y16.1 != 0)
 (ob (fP bx1) fun y17 =>
 some (.inr (.inr (y16.1,bx1,i4,y17,(aI.mk 0 0 0 0 [] [] []),y16.2.1,y16.2.2,bx2.ak,bx2.aP,bx2.bF,lx1.aX,lx1.used))))
 (some (.inl (l1,i1,l2,i2,(aF (i3+1)),bx1,i4,bx2,lx1,y16.2.1,y16.2.2)))))))
 none)
 (some (.inr (.inl (i1,bx1,i4,bx2,lx1,bx3,lx2))))
def vX (p:qP):Option ((qP)⊕(((Int×aG×Int×aG×aI×aG×aI)⊕(Int×aG×Int×aG×aI×aG×aI×(List bl)×(List aI)×(List Int)×(List Slice)×(List Int))))):=K7 p.1 p.2.1 p.2.2.1 p.2.2.2.1 p.2.2.2.2.1 p.2.2.2.2.2.1 p.2.2.2.2.2.2.1 p.2.2.2.2.2.2.2.1 p.2.2.2.2.2.2.2.2.1 p.2.2.2.2.2.2.2.2.2.1 p.2.2.2.2.2.2.2.2.2.2
def yX (l1:List Want)(i1:Int)(l2:List Want)(i2:Int)(i3:Int)(bx1:aG)(i4:Int)(bx2:aG)(lx1:aI)(bx3:aG)(lx2:aI):Option (((Int×aG×Int×aG×aI×aG×aI)⊕(Int×aG×Int×aG×aI×aG×aI×(List bl)×(List aI)×(List Int)×(List Slice)×(List Int)))):=bm vX ((i2 - i3).toNat+2) (l1,i1,l2,i2,i3,bx1,i4,bx2,lx1,bx3,lx2)
def wb:kT (qP):=kO (kS 16 (kC (kF fb) (kC (kP 0 0) (kC (kP 1 0) (kC (kP 2 0) (kC (kP 3 0) (kC kI (kC (kP 4 0) (kC (kP 5 0) (kC (kF fb) (kC kI (kC kI kN))))))))))) (kC (aE.var 0 29 mK) (kC (aE.var 1 3 (kC kJ kN)) (kC (aE.var 2 29 (kC (kA 6) (kC (kG aa) (kC (kA 7) (kC (kA 8) kN))))) (kC (aE.var 3 43 (kC kJ (kC kJ (kC kJ (kC kJ (kC (kA 9) (kC (kG aa) (kC (kA 10) kN)))))))) (kC (aE.var 4 29 (kC (kA 11) (kC (kG aa) (kC (kA 12) (kC (kA 13) kN))))) (kC (aE.var 5 43 (kC kJ (kC kJ (kC kJ (kC kJ (kC (kA 14) (kC (kG aa) (kC (kA 15) kN)))))))) (kC (kR 6 65 cQ) (kC (kR 7 43 cS) (kC (kR 8 3 au) (kC (kR 9 133 bh) (kC (kR 10 3 au) (kC (kR 11 65 cQ) (kC (kR 12 43 cS) (kC (kR 13 3 au) (kC (kR 14 133 bh) (kC (kR 15 3 au) kN))))))))))))))))) (fun p=>(p.1.1,p.1.2.2.2.2.2.1,(t8 p.1).1,(t8 p.1).2.1,(t8 p.1).2.2.1,p.2.1,p.2.2.1.1,(aG.mk p.2.2.2.2.2.2.2.1 p.2.2.2.1.2.1 p.2.2.2.2.2.2.2.2.1 (t8 p.2).1),(aI.mk p.2.2.2.2.1.1 p.2.2.2.2.1.2.1 p.2.2.2.2.1.2.2.1 p.2.2.2.2.1.2.2.2.1 (t8 p.2).2.1 p.2.2.2.2.1.2.2.2.2.2.1 (t8 p.2).2.2.1),(aG.mk (t8 p.2).2.2.2.1 p.2.2.2.2.2.1.2.1 (t8 p.2).2.2.2.2.1 (t8 p.2).2.2.2.2.2.1),(aI.mk p.2.2.2.2.2.2.1.1 p.2.2.2.2.2.2.1.2.1 p.2.2.2.2.2.2.1.2.2.1 p.2.2.2.2.2.2.1.2.2.2.1 (t8 p.2).2.2.2.2.2.2.1 p.2.2.2.2.2.2.1.2.2.2.2.2.1 (t8 p.2).2.2.2.2.2.2.2.1))) (fun (x:qP)=>((x.1,((),((),((),((),(x.2.1,((),((),(x.2.2.1,(x.2.2.2.1,(x.2.2.2.2.1,()))))))))))),(x.2.2.2.2.2.1,((x.2.2.2.2.2.2.1,()),(((),(x.2.2.2.2.2.2.2.1.free,((),((),())))),((x.2.2.2.2.2.2.2.2.1.device,(x.2.2.2.2.2.2.2.2.1.aB,(x.2.2.2.2.2.2.2.2.1.bC,(x.2.2.2.2.2.2.2.2.1.last,((),(x.2.2.2.2.2.2.2.2.1.ids,((),()))))))),(((),(x.2.2.2.2.2.2.2.2.2.1.free,((),((),())))),((x.2.2.2.2.2.2.2.2.2.2.device,(x.2.2.2.2.2.2.2.2.2.2.aB,(x.2.2.2.2.2.2.2.2.2.2.bC,(x.2.2.2.2.2.2.2.2.2.2.last,((),(x.2.2.2.2.2.2.2.2.2.2.ids,((),()))))))),(x.2.2.2.2.2.2.2.1.ak,(x.2.2.2.2.2.2.2.1.aP,(x.2.2.2.2.2.2.2.1.bF,(x.2.2.2.2.2.2.2.2.1.aX,(x.2.2.2.2.2.2.2.2.1.used,(x.2.2.2.2.2.2.2.2.2.1.ak,(x.2.2.2.2.2.2.2.2.2.1.aP,(x.2.2.2.2.2.2.2.2.2.1.bF,(x.2.2.2.2.2.2.2.2.2.2.aX,(x.2.2.2.2.2.2.2.2.2.2.used,())))))))))))))))))) (fun _=>rfl)
def B7:kT (Int×aG×Int×aG×aI×aG×aI):=kO (kS 32 (kC (kP 1 0) (kC (kP 2 0) (kC (kP 3 0) (kC kI (kC (kP 4 0) (kC (kP 5 0) kN)))))) (kC (aE.var 0 29 mK) (kC (aE.var 1 3 (kC kJ kN)) (kC (aE.var 2 29 (kC (kA 6) (kC (kG aa) (kC (kA 7) (kC (kA 8) kN))))) (kC (aE.var 3 43 (kC kJ (kC kJ (kC kJ (kC kJ (kC (kA 9) (kC (kG aa) (kC (kA 10) kN)))))))) (kC (aE.var 4 29 (kC (kA 27) (kC (kG aa) (kC (kA 28) (kC (kA 29) kN))))) (kC (aE.var 5 43 (kC kJ (kC kJ (kC kJ (kC kJ (kC (kA 30) (kC (kG aa) (kC (kA 31) kN)))))))) (kC (kR 6 65 cQ) (kC (kR 7 43 cS) (kC (kR 8 3 au) (kC (kR 9 133 bh) (kC (kR 10 3 au) (kC (kR 27 65 cQ) (kC (kR 28 43 cS) (kC (kR 29 3 au) (kC (kR 30 133 bh) (kC (kR 31 3 au) kN))))))))))))))))) (fun p=>(p.1.2.2.2.1,p.2.1,p.2.2.1.1,(aG.mk p.2.2.2.2.2.2.2.1 p.2.2.2.1.2.1 p.2.2.2.2.2.2.2.2.1 (t8 p.2).1),(aI.mk p.2.2.2.2.1.1 p.2.2.2.2.1.2.1 p.2.2.2.2.1.2.2.1 p.2.2.2.2.1.2.2.2.1 (t8 p.2).2.1 p.2.2.2.2.1.2.2.2.2.2.1 (t8 p.2).2.2.1),(aG.mk (t8 p.2).2.2.2.1 p.2.2.2.2.2.1.2.1 (t8 p.2).2.2.2.2.1 (t8 p.2).2.2.2.2.2.1),(aI.mk p.2.2.2.2.2.2.1.1 p.2.2.2.2.2.2.1.2.1 p.2.2.2.2.2.2.1.2.2.1 p.2.2.2.2.2.2.1.2.2.2.1 (t8 p.2).2.2.2.2.2.2.1 p.2.2.2.2.2.2.1.2.2.2.2.2.1 (t8 p.2).2.2.2.2.2.2.2.1))) (fun (x:Int×aG×Int×aG×aI×aG×aI)=>(((),((),((),(x.1,((),((),())))))),(x.2.1,((x.2.2.1,()),(((),(x.2.2.2.1.free,((),((),())))),((x.2.2.2.2.1.device,(x.2.2.2.2.1.aB,(x.2.2.2.2.1.bC,(x.2.2.2.2.1.last,((),(x.2.2.2.2.1.ids,((),()))))))),(((),(x.2.2.2.2.2.1.free,((),((),())))),((x.2.2.2.2.2.2.device,(x.2.2.2.2.2.2.aB,(x.2.2.2.2.2.2.bC,(x.2.2.2.2.2.2.last,((),(x.2.2.2.2.2.2.ids,((),()))))))),(x.2.2.2.1.ak,(x.2.2.2.1.aP,(x.2.2.2.1.bF,(x.2.2.2.2.1.aX,(x.2.2.2.2.1.used,(x.2.2.2.2.2.1.ak,(x.2.2.2.2.2.1.aP,(x.2.2.2.2.2.1.bF,(x.2.2.2.2.2.2.aX,(x.2.2.2.2.2.2.used,())))))))))))))))))) (fun _=>rfl)
def BQ:kT (Int×aG×Int×aG×aI×aG×aI×(List bl)×(List aI)×(List Int)×(List Slice)×(List Int)):=kO (kS 39 (kC (kP 1 0) (kC (kP 2 0) (kC (kP 3 0) (kC kI (kC (kP 4 0) (kC (kP 5 0) kN)))))) (kC (aE.var 0 29 mK) (kC (aE.var 1 3 (kC kJ kN)) (kC (aE.var 2 29 (kC (kA 27) (kC (kA 28) (kC (kA 29) (kC (kA 30) kN))))) (kC (aE.var 3 43 (kC kJ (kC kJ (kC kJ (kC kJ (kC (kA 31) (kC (kA 32) (kC (kA 33) kN)))))))) (kC (aE.var 4 29 (kC (kA 34) (kC (kG aa) (kC (kA 35) (kC (kA 36) kN))))) (kC (aE.var 5 43 (kC kJ (kC kJ (kC kJ (kC kJ (kC (kA 37) (kC (kG aa) (kC (kA 38) kN)))))))) (kC (kR 6 65 cQ) (kC (kR 7 43 cS) (kC (kR 8 3 au) (kC (kR 9 133 bh) (kC (kR 10 3 au) (kC (kR 27 65 cQ) (kC (kR 28 153 aa) (kC (kR 29 43 cS) (kC (kR 30 3 au) (kC (kR 31 133 bh) (kC (kR 32 153 aa) (kC (kR 33 3 au) (kC (kR 34 65 cQ) (kC (kR 35 43 cS) (kC (kR 36 3 au) (kC (kR 37 133 bh) (kC (kR 38 3 au) kN)))))))))))))))))))))))) (fun p=>(p.1.2.2.2.1,p.2.1,p.2.2.1.1,(aG.mk (t8 p.2).2.2.2.1 (t8 p.2).2.2.2.2.1 (t8 p.2).2.2.2.2.2.1 (t8 p.2).2.2.2.2.2.2.1),(aI.mk p.2.2.2.2.1.1 p.2.2.2.2.1.2.1 p.2.2.2.2.1.2.2.1 p.2.2.2.2.1.2.2.2.1 (t8 p.2).2.2.2.2.2.2.2.1 (t8 (t8 p.2)).1 (t8 (t8 p.2)).2.1),(aG.mk (t8 (t8 p.2)).2.2.1 p.2.2.2.2.2.1.2.1 (t8 (t8 p.2)).2.2.2.1 (t8 (t8 p.2)).2.2.2.2.1),(aI.mk p.2.2.2.2.2.2.1.1 p.2.2.2.2.2.2.1.2.1 p.2.2.2.2.2.2.1.2.2.1 p.2.2.2.2.2.2.1.2.2.2.1 (t8 (t8 p.2)).2.2.2.2.2.1 p.2.2.2.2.2.2.1.2.2.2.2.2.1 (t8 (t8 p.2)).2.2.2.2.2.2.1),p.2.2.2.2.2.2.2.1,p.2.2.2.2.2.2.2.2.1,(t8 p.2).1,(t8 p.2).2.1,(t8 p.2).2.2.1)) (fun (x:Int×aG×Int×aG×aI×aG×aI×(List bl)×(List aI)×(List Int)×(List Slice)×(List Int))=>(((),((),((),(x.1,((),((),())))))),(x.2.1,((x.2.2.1,()),(((),((),((),((),())))),((x.2.2.2.2.1.device,(x.2.2.2.2.1.aB,(x.2.2.2.2.1.bC,(x.2.2.2.2.1.last,((),((),((),()))))))),(((),(x.2.2.2.2.2.1.free,((),((),())))),((x.2.2.2.2.2.2.1.device,(x.2.2.2.2.2.2.1.aB,(x.2.2.2.2.2.2.1.bC,(x.2.2.2.2.2.2.1.last,((),(x.2.2.2.2.2.2.1.ids,((),()))))))),(x.2.2.2.2.2.2.2.1,(x.2.2.2.2.2.2.2.2.1,(x.2.2.2.2.2.2.2.2.2.1,(x.2.2.2.2.2.2.2.2.2.2.1,(x.2.2.2.2.2.2.2.2.2.2.2,(x.2.2.2.1.ak,(x.2.2.2.1.free,(x.2.2.2.1.aP,(x.2.2.2.1.bF,(x.2.2.2.2.1.aX,(x.2.2.2.2.1.ids,(x.2.2.2.2.1.used,(x.2.2.2.2.2.1.ak,(x.2.2.2.2.2.1.aP,(x.2.2.2.2.2.1.bF,(x.2.2.2.2.2.2.1.aX,(x.2.2.2.2.2.2.1.used,()))))))))))))))))))))))))) (fun _=>rfl)
def Nh:aT TL:=aT.two wb.dec (fun p=>yX p.1 p.2.1 p.2.2.1 p.2.2.2.1 p.2.2.2.2.1 p.2.2.2.2.2.1 p.2.2.2.2.2.2.1 p.2.2.2.2.2.2.2.1 p.2.2.2.2.2.2.2.2.1 p.2.2.2.2.2.2.2.2.2.1 p.2.2.2.2.2.2.2.2.2.2) (.exit 1) .ret B7.aJ BQ.aJ
def MB:cL:=[(122,mc)]
def LU:sL:=[(156,HV),(124,ms),(278002,N4)]
def OM:Env:=aY tab sl sh [(154,Te),(178,oy)] [(122,.pure),(156,.sum),(124,.sum)]
theorem aAU:bK PR (bJ MB LU) OM:=aZ base (aC (aJw.ae rfl aN) (aC (SO.ae rfl (aC (lC aEI rfl) aN)) aN)) (aC (oD qb rfl) (aC (dj rfl Yr) (aC (dj rfl qf) aN)))
theorem aB9 (x:qP):Out.run (bO MB LU) (bp OM 12 20 je.an Cp (ag (a8 je.body) 7) (wb.aJ x)) (cj wb B7 BQ (.exit 1) .ret)=vX x:=by kernel_rfl
theorem aDc:bZ PR (bx Nh) E1 Cp (ag (a8 je.body) 7) :=
  dL aAU (loops:=12) (k:=20) (an:=je.an) (by kernel_rfl) (aR.cI rfl yY.keys (aC (.inl (by kernel_rfl)) (aC (.inl (by kernel_rfl)) aN))) wb B7 BQ (.exit 1) .ret rfl rfl vX _ aB9 (fun x y h=>⟨_,h⟩) (fun _=>cA.1 rfl)
abbrev jQ:=Int×Int×aG×aI×aG×aI
def JF (i1:Int)(i2:Int)(bx1:aG)(lx1:aI)(bx2:aG)(lx2:aI):Option ((jQ)⊕(jQ)) :=
 cond (decide (i1 < (bx2.aP.length:Int)))
 (cond (decide (0≤i1))
 (cond (decide (i1 < (bx2.aP.length:Int)))
 (ob (bx2.aP[i1.toNat]?) fun e0 =>
 cond (decide (e0.device < i2))
 (some (.inl ((aF (i1+1)),i2,bx1,lx1,bx2,lx2)))
 (some (.inr (i1,i2,bx1,lx1,bx2,lx2))))
 none)
 none)
 (some (.inr (i1,i2,bx1,lx1,bx2,lx2)))
def uR (p:jQ):Option ((jQ)⊕(jQ)):=JF p.1 p.2.1 p.2.2.1 p.2.2.2.1 p.2.2.2.2.1 p.2.2.2.2.2
def yE (i1:Int)(i2:Int)(bx1:aG)(lx1:aI)(bx2:aG)(lx2:aI):Option jQ:=bm uR (1099511627776) (i1,i2,bx1,lx1,bx2,lx2)
def vH:kT (jQ):=kO (kS 15 (kC (kP 0 0) (kC (kP 1 0) (kC (kP 2 0) (kC (kP 3 0) (kC (kP 4 0) (kC kI kN)))))) (kC (aE.var 0 3 (kC kJ kN)) (kC (aE.var 1 29 (kC (kA 5) (kC (kG aa) (kC (kA 6) (kC (kA 7) kN))))) (kC (aE.var 2 43 (kC kJ (kC kJ (kC kJ (kC kJ (kC (kA 8) (kC (kG aa) (kC (kA 9) kN)))))))) (kC (aE.var 3 29 (kC (kA 10) (kC (kG aa) (kC (kA 11) (kC (kA 12) kN))))) (kC (aE.var 4 43 (kC kJ (kC kJ (kC kJ (kC kJ (kC (kA 13) (kC (kG aa) (kC (kA 14) kN)))))))) (kC (kR 5 65 cQ) (kC (kR 6 43 cS) (kC (kR 7 3 au) (kC (kR 8 133 bh) (kC (kR 9 3 au) (kC (kR 10 65 cQ) (kC (kR 11 43 cS) (kC (kR 12 3 au) (kC (kR 13 133 bh) (kC (kR 14 3 au) kN)))))))))))))))) (fun p=>(p.1.2.2.2.2.2.1,p.2.1.1,(aG.mk p.2.2.2.2.2.2.1 p.2.2.1.2.1 p.2.2.2.2.2.2.2.1 p.2.2.2.2.2.2.2.2.1),(aI.mk p.2.2.2.1.1 p.2.2.2.1.2.1 p.2.2.2.1.2.2.1 p.2.2.2.1.2.2.2.1 (t8 p.2).1 p.2.2.2.1.2.2.2.2.2.1 (t8 p.2).2.1),(aG.mk (t8 p.2).2.2.1 p.2.2.2.2.1.2.1 (t8 p.2).2.2.2.1 (t8 p.2).2.2.2.2.1),(aI.mk p.2.2.2.2.2.1.1 p.2.2.2.2.2.1.2.1 p.2.2.2.2.2.1.2.2.1 p.2.2.2.2.2.1.2.2.2.1 (t8 p.2).2.2.2.2.2.1 p.2.2.2.2.2.1.2.2.2.2.2.1 (t8 p.2).2.2.2.2.2.2.1))) (fun (x:jQ)=>(((),((),((),((),((),(x.1,())))))),((x.2.1,()),(((),(x.2.2.1.free,((),((),())))),((x.2.2.2.1.device,(x.2.2.2.1.aB,(x.2.2.2.1.bC,(x.2.2.2.1.last,((),(x.2.2.2.1.ids,((),()))))))),(((),(x.2.2.2.2.1.free,((),((),())))),((x.2.2.2.2.2.device,(x.2.2.2.2.2.aB,(x.2.2.2.2.2.bC,(x.2.2.2.2.2.last,((),(x.2.2.2.2.2.ids,((),()))))))),(x.2.2.1.ak,(x.2.2.1.aP,(x.2.2.1.bF,(x.2.2.2.1.aX,(x.2.2.2.1.used,(x.2.2.2.2.1.ak,(x.2.2.2.2.1.aP,(x.2.2.2.2.1.bF,(x.2.2.2.2.2.aX,(x.2.2.2.2.2.used,()))))))))))))))))) (fun _=>rfl)
def AW:kT (jQ):=kO (kS 30 (kC (kP 1 0) (kC (kP 2 0) (kC (kP 3 0) (kC (kP 4 0) (kC kI kN))))) (kC (aE.var 0 3 (kC kJ kN)) (kC (aE.var 1 29 (kC (kA 5) (kC (kG aa) (kC (kA 6) (kC (kA 7) kN))))) (kC (aE.var 2 43 (kC kJ (kC kJ (kC kJ (kC kJ (kC (kA 8) (kC (kG aa) (kC (kA 9) kN)))))))) (kC (aE.var 3 29 (kC (kA 10) (kC (kG aa) (kC (kA 11) (kC (kA 12) kN))))) (kC (aE.var 4 43 (kC kJ (kC kJ (kC kJ (kC kJ (kC (kA 13) (kC (kG aa) (kC (kA 14) kN)))))))) (kC (kR 5 65 cQ) (kC (kR 6 43 cS) (kC (kR 7 3 au) (kC (kR 8 133 bh) (kC (kR 9 3 au) (kC (kR 10 65 cQ) (kC (kR 11 43 cS) (kC (kR 12 3 au) (kC (kR 13 133 bh) (kC (kR 14 3 au) kN)))))))))))))))) (fun p=>(p.1.2.2.2.2.1,p.2.1.1,(aG.mk p.2.2.2.2.2.2.1 p.2.2.1.2.1 p.2.2.2.2.2.2.2.1 p.2.2.2.2.2.2.2.2.1),(aI.mk p.2.2.2.1.1 p.2.2.2.1.2.1 p.2.2.2.1.2.2.1 p.2.2.2.1.2.2.2.1 (t8 p.2).1 p.2.2.2.1.2.2.2.2.2.1 (t8 p.2).2.1),(aG.mk (t8 p.2).2.2.1 p.2.2.2.2.1.2.1 (t8 p.2).2.2.2.1 (t8 p.2).2.2.2.2.1),(aI.mk p.2.2.2.2.2.1.1 p.2.2.2.2.2.1.2.1 p.2.2.2.2.2.1.2.2.1 p.2.2.2.2.2.1.2.2.2.1 (t8 p.2).2.2.2.2.2.1 p.2.2.2.2.2.1.2.2.2.2.2.1 (t8 p.2).2.2.2.2.2.2.1))) (fun (x:jQ)=>(((),((),((),((),(x.1,()))))),((x.2.1,()),(((),(x.2.2.1.free,((),((),())))),((x.2.2.2.1.device,(x.2.2.2.1.aB,(x.2.2.2.1.bC,(x.2.2.2.1.last,((),(x.2.2.2.1.ids,((),()))))))),(((),(x.2.2.2.2.1.free,((),((),())))),((x.2.2.2.2.2.device,(x.2.2.2.2.2.aB,(x.2.2.2.2.2.bC,(x.2.2.2.2.2.last,((),(x.2.2.2.2.2.ids,((),()))))))),(x.2.2.1.ak,(x.2.2.1.aP,(x.2.2.1.bF,(x.2.2.2.1.aX,(x.2.2.2.1.used,(x.2.2.2.2.1.ak,(x.2.2.2.2.1.aP,(x.2.2.2.2.1.bF,(x.2.2.2.2.2.aX,(x.2.2.2.2.2.used,()))))))))))))))))) (fun _=>rfl)
def LO:aT TL:=aT.one vH.dec (fun p=>yE p.1 p.2.1 p.2.2.1 p.2.2.2.1 p.2.2.2.2.1 p.2.2.2.2.2) (.exit 3) AW.aJ
def MN:Env:=aY tab sl sh [] []
theorem ZO:bK PR (bJ cZ sZ) MN:=aZ base aN aN
theorem Zu (x:jQ):Out.run (bO cZ sZ) (bp MN 12 20 je.an Bi (ag (a8 je.body) 17) (vH.aJ x)) (back vH AW fun e=>ck e (.exit 3))=uR x:=by kernel_rfl
theorem aC0:bZ PR (bx LO) E1 Bi (ag (a8 je.body) 17) :=
  dd ZO (loops:=12) (k:=20) (an:=je.an) (by kernel_rfl) (aR.cI rfl yY.keys (aC (.inl (by kernel_rfl)) (aC (.inl (by kernel_rfl)) aN))) vH AW (.exit 3) rfl uR _ Zu (fun x y h=>⟨_,h⟩) (fun _=>cA.1 rfl)
abbrev p8:=(List aI)×Int×Int×Int×Int
def Ge (l1:List aI)(i1:Int)(i2:Int)(i3:Int)(i4:Int):Option ((p8)⊕(((Int×Int)⊕(Int×Int)))) :=
 cond (decide (i3 < i2))
 (cond (decide (0≤i3))
 (ob (l1[i3.toNat]?) fun e0 =>
 cond (e0.device == i4)
 (some (.inr (.inr (i3,i4))))
 (some (.inl (l1,i1,i2,(aF (i3+1)),i4))))
 none)
 (some (.inr (.inl (i1,i4))))
def tk (p:p8):Option ((p8)⊕(((Int×Int)⊕(Int×Int)))):=Ge p.1 p.2.1 p.2.2.1 p.2.2.2.1 p.2.2.2.2
def BE (l1:List aI)(i1:Int)(i2:Int)(i3:Int)(i4:Int):Option (((Int×Int)⊕(Int×Int))):=bm tk ((i2 - i3).toNat+2) (l1,i1,i2,i3,i4)
def tq:kT (p8):=kO (kS 1 (kC (kF cS) (kC (aE.xs (aE.sc (aE.dK 153 [] [(0,0)]))) (kC kI (kC kI (kC kI kN))))) (kC (aE.var 0 3 (kC kJ kN)) kN)) (fun p=>(p.1.1,p.1.2.2.1,p.1.2.2.2.1,p.1.2.2.2.2.1,p.2.1.1)) (fun (x:p8)=>((x.1,((),(x.2.1,(x.2.2.1,(x.2.2.2.1,()))))),((x.2.2.2.2,()),()))) (fun _=>rfl)
def mi:kT (Int×Int):=kO (kS 2 (kC kI kN) (kC (aE.var 0 3 (kC kJ kN)) kN)) (fun p=>(p.1.1,p.2.1.1)) (fun (x:Int×Int)=>((x.1,()),((x.2,()),()))) (fun _=>rfl)
def Hy:aT TL:=aT.two tq.dec (fun p=>BE p.1 p.2.1 p.2.2.1 p.2.2.2.1 p.2.2.2.2) (.exit 0) .ret mi.aJ mi.aJ
def JG:Env:=aY tab sl sh [(153,SP)] []
theorem X0:bK PR (bJ cZ sZ) JG:=aZ base (aC (aJu.ae rfl aN) aN) aN
theorem Xx (x:p8):Out.run (bO cZ sZ) (bp JG 12 20 nU.an zk (ag (a8 nU.body) 2) (tq.aJ x)) (cj tq mi mi (.exit 0) .ret)=tk x:=by kernel_rfl
theorem Yj:bZ PR (bx Hy) yo zk (ag (a8 nU.body) 2) :=
  dL X0 (loops:=12) (k:=20) (an:=nU.an) (by kernel_rfl) (aR.cI rfl NC.keys (aC (.inl (by kernel_rfl)) aN)) tq mi mi (.exit 0) .ret rfl rfl tk _ Xx (fun x y h=>⟨_,h⟩) (fun _=>cA.1 rfl)
def uM (bx1:aG)(i1:Int)(i2:Int)(i3:Int)(l1:List Want):Option (aG×aI×Int) :=
 ob (hP i1 0 5) fun r0 =>
 cond (!r0)
 (ob (fP bx1) fun y3 =>
 some (y3,(aI.mk 0 0 0 0 [] [] []),1))
 (ob (hP i2 1 1073741824) fun r1 =>
 cond (!r1)
 (ob (fP bx1) fun y4 =>
 some (y4,(aI.mk 0 0 0 0 [] [] []),1))
 (ob (hP i3 0 2199023255552) fun r2 =>
 cond (cond (!r2) true (decide ((l1.length:Int) > 5)))
 (ob (fP bx1) fun y5 =>
 some (y5,(aI.mk 0 0 0 0 [] [] []),1))
 (ob (BE bx1.aP 0 (bx1.aP.length:Int) 0 i1) fun y6 =>
 two y6 (fun a7 =>
 ob (fP bx1) fun y10 =>
 ob (yX l1 0 l1 (l1.length:Int) 0 bx1 a7.2 (aG.mk [] [] [] []) (aI.mk 0 0 0 0 [] [] []) y10 (aI.mk a7.2 i2 i3 (-1) [] [] [])) fun y11 =>
 two y11 (fun a12 =>
 ob (yE 0 a12.2.2.1 a12.2.2.2.1 a12.2.2.2.2.1 a12.2.2.2.2.2.1 a12.2.2.2.2.2.2) fun y14 =>
 ob (fO y14.2.2.2.2.2) fun y15 =>
 cond (decide (0≤y14.1))
 (cond (decide (y14.1≤(y14.2.2.2.2.1.aP.length:Int)))
 (cond (fits ((((y14.2.2.2.2.1.aP.take y14.1.toNat)++[y15])++((y14.2.2.2.2.1.aP.take y14.2.2.2.2.1.aP.length).drop y14.1.toNat)).length))
 (ob (fP (aG.mk y14.2.2.2.2.1.ak y14.2.2.2.2.1.free (((y14.2.2.2.2.1.aP.take y14.1.toNat)++[y15])++((y14.2.2.2.2.1.aP.take y14.2.2.2.2.1.aP.length).drop y14.1.toNat)) y14.2.2.2.2.1.bF)) fun y16 =>
 ob (fO y14.2.2.2.2.2) fun y17 =>
 some (y16,y17,0))
 none)
 none)
 none) (fun b13 =>
 some (b13.2.2.2.1,b13.2.2.2.2.1,b13.1))) (fun b8 =>
 cond (decide (b8.1≥0))
 (ob (fP bx1) fun y9 =>
 some (y9,(aI.mk 0 0 0 0 [] [] []),19))
 (ob (fP bx1) fun y18 =>
 ob (yX l1 0 l1 (l1.length:Int) 0 bx1 b8.2 (aG.mk [] [] [] []) (aI.mk 0 0 0 0 [] [] []) y18 (aI.mk b8.2 i2 i3 (-1) [] [] [])) fun y19 =>
 two y19 (fun a20 =>
 ob (yE 0 a20.2.2.1 a20.2.2.2.1 a20.2.2.2.2.1 a20.2.2.2.2.2.1 a20.2.2.2.2.2.2) fun y22 =>
 ob (fO y22.2.2.2.2.2) fun y23 =>
 cond (decide (0≤y22.1))
 (cond (decide (y22.1≤(y22.2.2.2.2.1.aP.length:Int)))
 (cond (fits ((((y22.2.2.2.2.1.aP.take y22.1.toNat)++[y23])++((y22.2.2.2.2.1.aP.take y22.2.2.2.2.1.aP.length).drop y22.1.toNat)).length))
 (ob (fP (aG.mk y22.2.2.2.2.1.ak y22.2.2.2.2.1.free (((y22.2.2.2.2.1.aP.take y22.1.toNat)++[y23])++((y22.2.2.2.2.1.aP.take y22.2.2.2.2.1.aP.length).drop y22.1.toNat)) y22.2.2.2.2.1.bF)) fun y24 =>
 ob (fO y22.2.2.2.2.2) fun y25 =>
 some (y24,y25,0))
 none)
 none)
 none) (fun b21 =>
 some (b21.2.2.2.1,b21.2.2.2.2.1,b21.1)))))))
def Gm (p:aG×Int×Int×Int×(List Want)):Option (aG×aI×Int):=uM p.1 p.2.1 p.2.2.1 p.2.2.2.1 p.2.2.2.2
def Gv:aV TL:=aV.of (DA.cons (DT.agg dU) (DA.cons dI (DA.cons dI (DA.cons dI (DA.one (DT.one n3)))))) Gm (DA.cons (DT.agg dU) (DA.cons (DT.agg eQ) (DA.one dI)))
theorem X7:bi [(122,mc)] [(124,ms),(151,mj),(231007,Nh),(231017,LO),(1610277002,Hy)] (aY tab sl sh [(131,je),(152,SZ),(177,nU)] [(122,.pure),(124,.sum),(151,.sum),(157,(.ins 43))]) 131 (DA.cons (DT.agg dU) (DA.cons dI (DA.cons dI (DA.cons dI (DA.one (DT.one n3)))))) Gm (DA.cons (DT.agg dU) (DA.cons (DT.agg eQ) (DA.one dI))):=fun _=>by kernel_rfl
theorem Xh:bU PR 131 .keep Gv:=bj X7 (aZ base (aC (yY.ae rfl (aC (lC aDc rfl) (aC (lC aC0 rfl) aN))) (aC (aHx.ae rfl aN) (aC (NC.ae rfl (aC (lC Yj rfl) aN)) aN))) (aC (oD qb rfl) (aC (dj rfl qf) (aC (dj rfl qc) (aC (lT aGc) aN))))) (.inl rfl) yY.enters
def tx (c1:az):Option (aO×az) :=
 cond (decide (0≤c1.c.device) && decide (c1.c.device < 6))
 (cond (cond ((cond (decide (c1.c.device=0)) c1.d.dev.a0.aB (cond (decide (c1.c.device=1)) c1.d.dev.a1.aB (cond (decide (c1.c.device=2)) c1.d.dev.a2.aB (cond (decide (c1.c.device=3)) c1.d.dev.a3.aB (cond (decide (c1.c.device=4)) c1.d.dev.a4.aB c1.d.dev.a5.aB))))) == 0) true (decide (c1.c.aB > (cond (decide (c1.c.device=0)) c1.d.dev.a0.aB (cond (decide (c1.c.device=1)) c1.d.dev.a1.aB (cond (decide (c1.c.device=2)) c1.d.dev.a2.aB (cond (decide (c1.c.device=3)) c1.d.dev.a3.aB (cond (decide (c1.c.device=4)) c1.d.dev.a4.aB c1.d.dev.a5.aB))))))))
 (ob (dY 2) fun r1 =>
 some (r1,c1))
 (cond (decide (c1.c.aB < (cond (decide (c1.c.device=0)) c1.d.dev.a0.aB (cond (decide (c1.c.device=1)) c1.d.dev.a1.aB (cond (decide (c1.c.device=2)) c1.d.dev.a2.aB (cond (decide (c1.c.device=3)) c1.d.dev.a3.aB (cond (decide (c1.c.device=4)) c1.d.dev.a4.aB c1.d.dev.a5.aB)))))))
 (ob (dY 16) fun r2 =>
 some (r2,c1))
 (ob (j2 c1.d.lost c1.c.device (cond (decide (c1.c.device=0)) c1.d.dev.a0.aB (cond (decide (c1.c.device=1)) c1.d.dev.a1.aB (cond (decide (c1.c.device=2)) c1.d.dev.a2.aB (cond (decide (c1.c.device=3)) c1.d.dev.a3.aB (cond (decide (c1.c.device=4)) c1.d.dev.a4.aB c1.d.dev.a5.aB)))))) fun r0 =>
 cond (r0)
 (ob (dY 16) fun r3 =>
 some (r3,c1))
 (cond (cond (decide (c1.c.n < 1)) true (decide (c1.c.n > 1000)))
 (ob (dY 1) fun r4 =>
 some (r4,c1))
 (ob (uM c1.d.book c1.c.device c1.c.aB (aF (c1.d.now+c1.c.n)) c1.c.cP) fun r5 =>
 cond (r5.2.2 != 0)
 (ob (dY r5.2.2) fun r6 =>
 some (r6,c1))
 (some ((aO.mk 0 0 r5.2.1),(az.mk (bI.mk r5.1 c1.d.aM c1.d.log c1.d.dev c1.d.lost c1.d.now) c1.c))))))))
 none
def aE5:aE (List (Nat×En TL)) az:=kO (kC (aE.var 0 100 (kC (kG cQ) (kC (kG aa) (kC (kG cS) (kC (kG au) (kC (kA 86) (kC (kA 87) (kC (kA 88) (kC (kA 89) (kC (kA 90) (kC (kA 91) (kC (kA 92) (kC (kA 93) (kC (kA 94) (kC (kA 95) (kC (kA 96) (kC (kA 97) (kC (kA 98) (kC (kA 99) (kC (kA 100) (kC (kA 101) (kC (kA 102) (kC (kA 103) (kC (kA 104) (kC kJ (kC kJ (kC kJ (kC kJ (kC kJ (kC kJ (kC kJ (kC kJ (kC (kA 105) (kC (kA 106) (kC (kA 107) (kC kJ (kC kJ (kC kJ (kC kJ (kC kJ (kC kJ (kC kJ (kC kJ (kC (kA 108) (kC (kA 109) (kC (kA 110) (kC kJ (kC kJ (kC kJ (kC kJ (kC kJ (kC kJ (kC kJ (kC kJ (kC (kA 111) (kC (kA 112) (kC (kA 113) (kC kJ (kC kJ (kC kJ (kC kJ (kC kJ (kC kJ (kC kJ (kC kJ (kC (kA 114) (kC (kA 115) (kC (kA 116) (kC kJ (kC kJ (kC kJ (kC kJ (kC kJ (kC kJ (kC kJ (kC kJ (kC (kA 117) (kC (kA 118) (kC (kA 119) (kC kJ (kC kJ (kC kJ (kC kJ (kC kJ (kC kJ (kC kJ (kC kJ (kC (kA 120) (kC (kA 121) (kC (kA 122) (kC (kA 123) (kC kJ (kC kJ (kC kJ (kC kJ (kC kJ (kC kJ (kC (kG fb) (kC (kG dn) kN))))))))))))))))))))))))))))))))))))))))))))))))))))))))))))))))))))))))))))))))))))))))))))))))))) (kC (aE.dead 1) (kC (aE.dead 2) (kC (aE.dead 3) (kC (aE.dead 4) (kC (aE.dead 5) (kC (aE.dead 6) (kC (aE.dead 7) (kC (aE.dead 8) (kC (aE.dead 9) (kC (aE.dead 10) (kC (aE.dead 11) (kC (aE.dead 12) (kC (aE.dead 13) (kC (aE.dead 14) (kC (aE.dead 15) (kC (aE.dead 16) (kC (aE.dead 17) (kC (aE.dead 18) (kC (aE.dead 19) (kC (aE.dead 20) (kC (aE.dead 21) (kC (aE.dead 22) (kC (aE.dead 23) (kC (aE.dead 24) (kC (aE.dead 25) (kC (aE.dead 26) (kC (aE.dead 27) (kC (aE.dead 28) (kC (aE.dead 29) (kC (aE.dead 30) (kC (aE.dead 31) (kC (aE.dead 32) (kC (aE.dead 33) (kC (aE.dead 34) (kC (aE.dead 35) (kC (aE.dead 36) (kC (aE.dead 37) (kC (aE.dead 38) (kC (aE.dead 39) (kC (aE.dead 40) (kC (aE.dead 41) (kC (aE.dead 42) (kC (kR 86 66 bL) (kC (kR 87 142 dC) (kC (kR 88 145 cd) (kC (kR 89 59 bL) (kC (kR 90 129 dD) (kC (kR 91 149 dA) (kC (kR 92 66 bL) (kC (kR 93 142 dC) (kC (kR 94 145 cd) (kC (kR 95 59 bL) (kC (kR 96 129 dD) (kC (kR 97 149 dA) (kC (kR 98 66 bL) (kC (kR 99 142 dC) (kC (kR 100 145 cd) (kC (kR 101 59 bL) (kC (kR 102 129 dD) (kC (kR 103 149 dA) (kC (kR 104 61 dn) (kC (kR 105 133 bh) (kC (kR 106 153 aa) (kC (kR 107 3 au) (kC (kR 108 133 bh) (kC (kR 109 153 aa) (kC (kR 110 3 au) (kC (kR 111 133 bh) (kC (kR 112 153 aa) (kC (kR 113 3 au) (kC (kR 114 133 bh) (kC (kR 115 153 aa) (kC (kR 116 3 au) (kC (kR 117 133 bh) (kC (kR 118 153 aa) (kC (kR 119 3 au) (kC (kR 120 133 bh) (kC (kR 121 153 aa) (kC (kR 122 3 au) (kC (kR 123 66 bL) kN))))))))))))))))))))))))))))))))))))))))))))))))))))))))))))))))))))))))))))))))) (fun p=>(az.mk (bI.mk (aG.mk p.1.1 p.1.2.1 p.1.2.2.1 p.1.2.2.2.1) (fw.mk (ah.mk (t8 (t32 p)).2.2.2.1 (t8 (t32 p)).2.2.2.2.1 (t8 (t32 p)).2.2.2.2.2.1 (t8 (t32 p)).2.2.2.2.2.2.1 (t8 (t32 p)).2.2.2.2.2.2.2.1 (t8 (t8 (t32 p))).1) (ah.mk (t8 (t8 (t32 p))).2.1 (t8 (t8 (t32 p))).2.2.1 (t8 (t8 (t32 p))).2.2.2.1 (t8 (t8 (t32 p))).2.2.2.2.1 (t8 (t8 (t32 p))).2.2.2.2.2.1 (t8 (t8 (t32 p))).2.2.2.2.2.2.1) (ah.mk (t8 (t8 (t32 p))).2.2.2.2.2.2.2.1 (t8 (t8 (t8 (t32 p)))).1 (t8 (t8 (t8 (t32 p)))).2.1 (t8 (t8 (t8 (t32 p)))).2.2.1 (t8 (t8 (t8 (t32 p)))).2.2.2.1 (t8 (t8 (t8 (t32 p)))).2.2.2.2.1)) (t8 (t8 (t8 (t32 p)))).2.2.2.2.2.1 (dw.mk (Device.mk (t8 (t8 p.1)).2.2.2.2.2.2.2.1 (t8 (t8 (t8 p.1))).1 (aO.mk (t8 (t8 (t8 p.1))).2.1 (t8 (t8 (t8 p.1))).2.2.1 (aI.mk (t8 (t8 (t8 p.1))).2.2.2.1 (t8 (t8 (t8 p.1))).2.2.2.2.1 (t8 (t8 (t8 p.1))).2.2.2.2.2.1 (t8 (t8 (t8 p.1))).2.2.2.2.2.2.1 (t8 (t8 (t8 (t32 p)))).2.2.2.2.2.2.1 (t8 (t8 (t8 (t32 p)))).2.2.2.2.2.2.2.1 (t32 (t32 p)).1))) (Device.mk (t32 p.1).2.2.1 (t32 p.1).2.2.2.1 (aO.mk (t32 p.1).2.2.2.2.1 (t32 p.1).2.2.2.2.2.1 (aI.mk (t32 p.1).2.2.2.2.2.2.1 (t32 p.1).2.2.2.2.2.2.2.1 (t8 (t32 p.1)).1 (t8 (t32 p.1)).2.1 (t32 (t32 p)).2.1 (t32 (t32 p)).2.2.1 (t32 (t32 p)).2.2.2.1))) (Device.mk (t8 (t32 p.1)).2.2.2.2.2.1 (t8 (t32 p.1)).2.2.2.2.2.2.1 (aO.mk (t8 (t32 p.1)).2.2.2.2.2.2.2.1 (t8 (t8 (t32 p.1))).1 (aI.mk (t8 (t8 (t32 p.1))).2.1 (t8 (t8 (t32 p.1))).2.2.1 (t8 (t8 (t32 p.1))).2.2.2.1 (t8 (t8 (t32 p.1))).2.2.2.2.1 (t32 (t32 p)).2.2.2.2.1 (t32 (t32 p)).2.2.2.2.2.1 (t32 (t32 p)).2.2.2.2.2.2.1))) (Device.mk (t8 (t8 (t8 (t32 p.1)))).1 (t8 (t8 (t8 (t32 p.1)))).2.1 (aO.mk (t8 (t8 (t8 (t32 p.1)))).2.2.1 (t8 (t8 (t8 (t32 p.1)))).2.2.2.1 (aI.mk (t8 (t8 (t8 (t32 p.1)))).2.2.2.2.1 (t8 (t8 (t8 (t32 p.1)))).2.2.2.2.2.1 (t8 (t8 (t8 (t32 p.1)))).2.2.2.2.2.2.1 (t8 (t8 (t8 (t32 p.1)))).2.2.2.2.2.2.2.1 (t32 (t32 p)).2.2.2.2.2.2.2.1 (t8 (t32 (t32 p))).1 (t8 (t32 (t32 p))).2.1))) (Device.mk (t32 (t32 p.1)).2.2.2.1 (t32 (t32 p.1)).2.2.2.2.1 (aO.mk (t32 (t32 p.1)).2.2.2.2.2.1 (t32 (t32 p.1)).2.2.2.2.2.2.1 (aI.mk (t32 (t32 p.1)).2.2.2.2.2.2.2.1 (t8 (t32 (t32 p.1))).1 (t8 (t32 (t32 p.1))).2.1 (t8 (t32 (t32 p.1))).2.2.1 (t8 (t32 (t32 p))).2.2.1 (t8 (t32 (t32 p))).2.2.2.1 (t8 (t32 (t32 p))).2.2.2.2.1))) (Device.mk (t8 (t32 (t32 p.1))).2.2.2.2.2.2.1 (t8 (t32 (t32 p.1))).2.2.2.2.2.2.2.1 (aO.mk (t8 (t8 (t32 (t32 p.1)))).1 (t8 (t8 (t32 (t32 p.1)))).2.1 (aI.mk (t8 (t8 (t32 (t32 p.1)))).2.2.1 (t8 (t8 (t32 (t32 p.1)))).2.2.2.1 (t8 (t8 (t32 (t32 p.1)))).2.2.2.2.1 (t8 (t8 (t32 (t32 p.1)))).2.2.2.2.2.1 (t8 (t32 (t32 p))).2.2.2.2.2.1 (t8 (t32 (t32 p))).2.2.2.2.2.2.1 (t8 (t32 (t32 p))).2.2.2.2.2.2.2.1)))) (t8 (t8 (t32 (t32 p)))).1 (t8 (t8 (t8 (t32 (t32 p.1))))).2.2.1) (bg.mk (t8 (t8 (t8 (t32 (t32 p.1))))).2.2.2.1 (t8 (t8 (t8 (t32 (t32 p.1))))).2.2.2.2.1 (t8 (t8 (t8 (t32 (t32 p.1))))).2.2.2.2.2.1 (t8 (t8 (t8 (t32 (t32 p.1))))).2.2.2.2.2.2.1 (t8 (t8 (t8 (t32 (t32 p.1))))).2.2.2.2.2.2.2.1 (t32 (t32 (t32 p.1))).1 (t32 (t32 (t32 p.1))).2.1))) (fun (x:az)=>((x.d.book.ak,(x.d.book.free,(x.d.book.aP,(x.d.book.bF,((),((),((),((),((),((),((),((),((),((),((),((),((),((),((),((),((),((),((),(x.d.dev.a0.aB,(x.d.dev.a0.aK,(x.d.dev.a0.aA.err,(x.d.dev.a0.aA.n,(x.d.dev.a0.aA.aD.device,(x.d.dev.a0.aA.aD.aB,(x.d.dev.a0.aA.aD.bC,(x.d.dev.a0.aA.aD.last,((),((),((),(x.d.dev.a1.aB,(x.d.dev.a1.aK,(x.d.dev.a1.aA.err,(x.d.dev.a1.aA.n,(x.d.dev.a1.aA.aD.device,(x.d.dev.a1.aA.aD.aB,(x.d.dev.a1.aA.aD.bC,(x.d.dev.a1.aA.aD.last,((),((),((),(x.d.dev.a2.aB,(x.d.dev.a2.aK,(x.d.dev.a2.aA.err,(x.d.dev.a2.aA.n,(x.d.dev.a2.aA.aD.device,(x.d.dev.a2.aA.aD.aB,(x.d.dev.a2.aA.aD.bC,(x.d.dev.a2.aA.aD.last,((),((),((),(x.d.dev.a3.aB,(x.d.dev.a3.aK,(x.d.dev.a3.aA.err,(x.d.dev.a3.aA.n,(x.d.dev.a3.aA.aD.device,(x.d.dev.a3.aA.aD.aB,(x.d.dev.a3.aA.aD.bC,(x.d.dev.a3.aA.aD.last,((),((),((),(x.d.dev.a4.aB,(x.d.dev.a4.aK,(x.d.dev.a4.aA.err,(x.d.dev.a4.aA.n,(x.d.dev.a4.aA.aD.device,(x.d.dev.a4.aA.aD.aB,(x.d.dev.a4.aA.aD.bC,(x.d.dev.a4.aA.aD.last,((),((),((),(x.d.dev.a5.aB,(x.d.dev.a5.aK,(x.d.dev.a5.aA.err,(x.d.dev.a5.aA.n,(x.d.dev.a5.aA.aD.device,(x.d.dev.a5.aA.aD.aB,(x.d.dev.a5.aA.aD.bC,(x.d.dev.a5.aA.aD.last,((),((),((),((),(x.d.now,(x.c.kind,(x.c.device,(x.c.aB,(x.c.aK,(x.c.n,(x.c.cP,(x.c.ops,())))))))))))))))))))))))))))))))))))))))))))))))))))))))))))))))))))))))))))))))))))))))))))))))))),((),((),((),((),((),((),((),((),((),((),((),((),((),((),((),((),((),((),((),((),((),((),((),((),((),((),((),((),((),((),((),((),((),((),((),((),((),((),((),((),((),((),(x.d.aM.a0.v,(x.d.aM.a0.be,(x.d.aM.a0.bY,(x.d.aM.a0.gone,(x.d.aM.a0.bc,(x.d.aM.a0.binds,(x.d.aM.a1.v,(x.d.aM.a1.be,(x.d.aM.a1.bY,(x.d.aM.a1.gone,(x.d.aM.a1.bc,(x.d.aM.a1.binds,(x.d.aM.a2.v,(x.d.aM.a2.be,(x.d.aM.a2.bY,(x.d.aM.a2.gone,(x.d.aM.a2.bc,(x.d.aM.a2.binds,(x.d.log,(x.d.dev.a0.aA.aD.aX,(x.d.dev.a0.aA.aD.ids,(x.d.dev.a0.aA.aD.used,(x.d.dev.a1.aA.aD.aX,(x.d.dev.a1.aA.aD.ids,(x.d.dev.a1.aA.aD.used,(x.d.dev.a2.aA.aD.aX,(x.d.dev.a2.aA.aD.ids,(x.d.dev.a2.aA.aD.used,(x.d.dev.a3.aA.aD.aX,(x.d.dev.a3.aA.aD.ids,(x.d.dev.a3.aA.aD.used,(x.d.dev.a4.aA.aD.aX,(x.d.dev.a4.aA.aD.ids,(x.d.dev.a4.aA.aD.used,(x.d.dev.a5.aA.aD.aX,(x.d.dev.a5.aA.aD.ids,(x.d.dev.a5.aA.aD.used,(x.d.lost,())))))))))))))))))))))))))))))))))))))))))))))))))))))))))))))))))))))))))))))))))) (fun _=>rfl)
def ii:kT (aO×az):=kO (kS 124 (kC (aE.xs (aE.sa xD)) kN) aE5) (fun p=>(p.1.1,p.2)) (fun (x:aO×az)=>((x.1,()),x.2)) (fun _=>rfl)
def zG (p:az):Option (aO×az):=tx p
def GX:aT TL:=aT.one eP.dec zG .normal ii.aJ
def GR:cL:=[(129,mr),(39,jY),(131,Gv)]
def GC:Env:=aY tab sl sh [(85,Uf),(130,yb),(128,mZ)] [(129,(.rd 89 66)),(39,.keep),(131,.keep)]
theorem WY:bK PR (bJ GR sZ) GC:=aZ base (aC (WA.ae rfl aN) (aC (E0.ae rfl aN) (aC (o4.ae rfl aN) aN))) (aC (oD qg rfl) (aC (oD jq rfl) (aC (oD Xh rfl) aN)))
theorem Wo (x:az):Out.run (bO GR sZ) (eZ GC 12 20 85 (eP.aJ x)) (ef ii)=zG x:=by kernel_rfl
theorem XH:ez PR 85 GX:=fW WY (loops:=12) (n:=20) WA.enters eP ii zG Wo
def jX (l1:List Op)(i1:Int)(i2:Int):Option Int :=
  cond (fits l1.length) (some (iF (fun (o:Op)=>o.al.device == i1 && o.al.aB == i2) (fun o=>o.al.seq) l1)) none
def XE (p:(List Op)×Int×Int):Option Int:=jX p.1 p.2.1 p.2.2
def mg:aV TL:=aV.of (DA.cons (DT.one ER) (DA.cons dI (DA.one dI))) XE (DA.one dI)
theorem aDk {l:TL}{a:List Op}(h:mS (.fz l)=some a):l=.eB a:=by
  cases l<;>simp only [mS,Option.some.injEq,reduceCtorEq] at h
  rw [h]
theorem QZ:∀ {a:List Op} {G:Fz} {xs:List Value},cm G (a.map kU).flatten xs→∃ es:List dN,xs=mW es∧es.map (fun x=>(x.d,x.e,x.s))=a.map fun e=>(e.al.device,e.al.aB,e.al.seq)
  | [],_,_,h=>by cases h;exact ⟨[],rfl,rfl⟩
  | e::r,_,_,h=>by
    cases h with | cons h1 h=>cases h with | cons h2 h=>cases h with | cons h3 h =>
    cases h with | cons k0 h=>cases h with | cons k1 h=>cases h with | cons k2 h=>cases h with | cons k3 h =>
    cases h with | cons k4 h=>cases h with | cons k5 h=>cases h with | cons k6 h=>cases h with | cons k7 h =>
    cases h1;cases h2;cases h3
    obtain ⟨es,rfl,he⟩:=QZ h
    refine ⟨⟨e.al.device,e.al.aB,e.al.seq,_,_,_,_,_,_,_,_,?_⟩::es,rfl,by simp [he]⟩
    intro v hv
    simp only [List.mem_cons,List.not_mem_nil,or_false] at hv
    rcases hv with rfl | rfl | rfl | rfl | rfl | rfl | rfl | rfl
    · exact k0.one
    · exact k1.one
    · exact k2.one
    · exact k3.one
    · exact k4.one
    · exact k5.one
    · exact k6.one
    · exact k7.one
theorem Lo {α β:Type}(g:α→β)(p:β→Bool)(n:β→Int)(l:List α):iF p n (l.map g)=iF (fun x=>p (g x)) (fun x=>n (g x)) l:=by
  unfold iF
  rw [← List.map_reverse,List.find?_map]
  cases h:l.reverse.find? (p∘g) with
  | none=>rw [show (fun x=>p (g x))=p∘g from rfl,h];rfl
  | some x=>rw [show (fun x=>p (g x))=p∘g from rfl,h];rfl
theorem qa:bU PR 133 (.rd 22 61) mg:=by
  refine ⟨enters_of Tryz.func133 (by kernel_rfl) (c:=ab Tryz.f133.body) rfl,by simp [iI],?_⟩
  rintro l ys rs ⟨x,y,hx,hy,rfl⟩ G w k cells t sv xs vs hk hsv hc hlen hrep _ hys
  have hle:=(DA.cons (DT.one ER) (DA.cons dI (DA.one dI))).ok (.c (.im (.fz l))::ys) x hx
  obtain ⟨a,ha,hx⟩:=df.1 hx
  cases aDk ha
  obtain ⟨b',hb',hx⟩:=df.1 hx
  cases hx
  cases hle with
  | cons _ h2 =>
  have h3:=sY h2 hys
  obtain ⟨i1,i2⟩:=b'
  cases h3 with
  | cons v1 h3=>cases h3 with
  | cons v2 h3 =>
  cases h3;cases v1;cases v2
  obtain ⟨ad,cap,rfl,_,hcs⟩:=hc
  have hcell:w.cell? ⟨k,22,none⟩=some (.slice ad (LI.aH (TL.eB a)).length cap):=by rw [iA hk];simpa using hsv
  have hln:(LI.aH (TL.eB a)).length=a.length:=by simp [LI.aH]
  rw [hln] at hcell hcs
  have hF:jX a i1 i2=some y:=hy
  unfold jX at hF
  cases hft:fits a.length with
  | false=>rw [hft] at hF;cases hF
  | true =>
  rw [hft,cond_true] at hF
  cases hF
  have hl:=of_decide_eq_true hft
  replace hrep:cm G (a.map kU).flatten xs:=hrep
  obtain ⟨es,rfl,he⟩:=QZ hrep
  have hm:es.length=a.length:=by have:=congrArg List.length he;simpa using this
  refine Calls.mono (callsIn_wide.1 (aAC (Fence.wide) 3 trivial trivial trivial rfl (Nat.le_refl _) w k ad cap es i1 i2 (by rw [hm];exact hl) (by rw [hm];exact hcell) (by rw [hm];exact hcs))) ?_
  rintro en w' ⟨rfl,hb'⟩
  refine ⟨_,rfl,?_,hb'⟩
  have e1:iF (fun x:dN=>x.d == i1 && x.e == i2) (fun x=>x.s) es=iF (fun t:K3=>t.1 == i1 && t.2.1 == i2) (fun t=>t.2.2) (es.map fun x=>(x.d,x.e,x.s)):=(Lo (fun x:dN=>(x.d,x.e,x.s)) (fun t:K3=>t.1 == i1 && t.2.1 == i2) (fun t:K3=>t.2.2) es).symm
  rw [e1,he,Lo]
  exact .int
abbrev pi:=(List aI)×Int×Int×Int×Int×Int
def Gd (l1:List aI)(i1:Int)(i2:Int)(i3:Int)(i4:Int)(i5:Int):Option ((pi)⊕(((Int×Int×Int)⊕(Int×Int×Int)))) :=
 cond (decide (i3 < i2))
 (cond (decide (0≤i3))
 (ob (l1[i3.toNat]?) fun e0 =>
 cond (cond (e0.device == i4) (e0.aB == i5) false)
 (some (.inr (.inr (i3,i4,i5))))
 (some (.inl (l1,i1,i2,(aF (i3+1)),i4,i5))))
 none)
 (some (.inr (.inl (i1,i4,i5))))
def tm (p:pi):Option ((pi)⊕(((Int×Int×Int)⊕(Int×Int×Int)))):=Gd p.1 p.2.1 p.2.2.1 p.2.2.2.1 p.2.2.2.2.1 p.2.2.2.2.2
def Kq (l1:List aI)(i1:Int)(i2:Int)(i3:Int)(i4:Int)(i5:Int):Option (((Int×Int×Int)⊕(Int×Int×Int))):=bm tm ((i2 - i3).toNat+2) (l1,i1,i2,i3,i4,i5)
def tw:kT (pi):=kO (kS 2 (kC (kF cS) (kC (aE.xs (aE.sc (aE.dK 196 [] [(0,0),(1,0)]))) (kC kI (kC kI (kC kI kN))))) (kC (aE.var 0 3 (kC kJ kN)) (kC (aE.var 1 3 (kC kJ kN)) kN))) (fun p=>(p.1.1,p.1.2.2.1,p.1.2.2.2.1,p.1.2.2.2.2.1,p.2.1.1,p.2.2.1.1)) (fun (x:pi)=>((x.1,((),(x.2.1,(x.2.2.1,(x.2.2.2.1,()))))),((x.2.2.2.2.1,()),((x.2.2.2.2.2,()),())))) (fun _=>rfl)
def mm:kT (Int×Int×Int):=kO (kS 4 (kC kI kN) (kC (aE.var 0 3 (kC kJ kN)) (kC (aE.var 1 3 (kC kJ kN)) kN))) (fun p=>(p.1.1,p.2.1.1,p.2.2.1.1)) (fun (x:Int×Int×Int)=>((x.1,()),((x.2.1,()),((x.2.2,()),())))) (fun _=>rfl)
def Hm:aT TL:=aT.two tw.dec (fun p=>Kq p.1 p.2.1 p.2.2.1 p.2.2.2.1 p.2.2.2.2.1 p.2.2.2.2.2) (.exit 0) .ret mm.aJ mm.aJ
def Is:Env:=aY tab sl sh [(196,Tf)] []
theorem XY:bK PR (bJ cZ sZ) Is:=aZ base (aC (aMJ.ae rfl aN) aN) aN
theorem Xu (x:pi):Out.run (bO cZ sZ) (bp Is 12 20 nR.an zn (ag (a8 nR.body) 2) (tw.aJ x)) (cj tw mm mm (.exit 0) .ret)=tm x:=by kernel_rfl
theorem YU:bZ PR (bx Hm) yo zn (ag (a8 nR.body) 2) :=
  dL XY (loops:=12) (k:=20) (an:=nR.an) (by kernel_rfl) (aR.cI rfl Mt.keys (aC (.inl (by kernel_rfl)) aN)) tw mm mm (.exit 0) .ret rfl rfl tm _ Xu (fun x y h=>⟨_,h⟩) (fun _=>cA.1 rfl)
def nW (bx1:aG)(i1:Int)(i2:Int):Option Int :=
 ob (Kq bx1.aP 0 (bx1.aP.length:Int) 0 i1 i2) fun y0 =>
 two y0 (fun _ =>
 some (-1)) (fun b2 =>
 some b2.1)
def Ir (p:aG×Int×Int):Option Int:=nW p.1 p.2.1 p.2.2
def uE:aV TL:=aV.of (DA.cons (DT.agg dU) (DA.cons dI (DA.one dI))) Ir (DA.one dI)
theorem Yd:bi [] [(1920277002,Hm)] (aY tab sl sh [(162,UB),(177,nR)] []) 162 (DA.cons (DT.agg dU) (DA.cons dI (DA.one dI))) Ir (DA.one dI):=fun _=>by kernel_rfl
theorem AA:bU PR 162 .pure uE:=bj Yd (aZ base (aC (Rz.ae rfl aN) (aC (Mt.ae rfl (aC (lC YU rfl) aN)) aN)) aN) (.inr rfl) Rz.enters
def nH (bx1:aG)(i1:Int)(i2:Int):Option (aI×Bool) :=
 ob (nW bx1 i1 i2) fun r0 =>
 cond (decide (r0 < 0))
 (some ((aI.mk 0 0 0 0 [] [] []),false))
 (cond (decide (0≤r0))
 (ob (bx1.aP[r0.toNat]?) fun e1 =>
 ob (fO e1) fun y2 =>
 some (y2,true))
 none)
def HZ (p:aG×Int×Int):Option (aI×Bool):=nH p.1 p.2.1 p.2.2
def tp:aV TL:=aV.of (DA.cons (DT.agg dU) (DA.cons dI (DA.one dI))) HZ (DA.cons (DT.agg eQ) (DA.one dB))
theorem Xw:bi [(162,uE)] [(151,mj)] (aY tab sl sh [(134,Rs)] [(162,.pure),(151,.sum)]) 134 (DA.cons (DT.agg dU) (DA.cons dI (DA.one dI))) HZ (DA.cons (DT.agg eQ) (DA.one dB)):=fun _=>by kernel_rfl
theorem zV:bU PR 134 .keep tp:=bj Xw (aZ base (aC (SM.ae rfl aN) aN) (aC (oD AA rfl) (aC (dj rfl qc) aN))) (.inl rfl) SM.enters
def jL (i1:Int)(i2:Int)(i3:Int):Option Bool :=
 some (cond (decide (i1≥i2)) (decide (i1≤i3)) false)
def Ho (p:Int×Int×Int):Option Bool:=jL p.1 p.2.1 p.2.2
def zZ:aV TL:=aV.of (DA.cons dI (DA.cons dI (DA.one dI))) Ho (DA.one dB)
theorem Xd:bi [] [] (aY tab sl sh [(182,TC)] []) 182 (DA.cons dI (DA.cons dI (DA.one dI))) Ho (DA.one dB):=fun _=>by kernel_rfl
theorem He:bU PR 182 .pure zZ:=bj Xd (aZ base (aC (TW.ae rfl aN) aN) aN) (.inr rfl) TW.enters
end
end Go.Proofs.YtcjpeijiaojeiaaGreat
